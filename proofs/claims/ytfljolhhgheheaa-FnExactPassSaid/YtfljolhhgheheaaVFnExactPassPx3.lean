/- A part of the proof of laws.FnExactPass. No condition beyond what its theorems say. -/
import Derived.Test.YtfljolhhgheheaaVFnExactPassPx0
namespace Go.Proofs.Ytfljolhhgheheaa.PFnExactPass
open Go.RowKit Go.Proofs.YtfljolhhgheheaaW.PrintWords Go.Proofs.YtfljolhhgheheaaW.PrintLast Go.Proofs.YtfljolhhgheheaaW.PrintMore
set_option linter.unusedVariables false
set_option linter.unusedSimpArgs false

def Y2.f (a0 a1 a2:Int):Option (Bool):=if a0 ≥ a1 then (some (decide (a0≤a2))) else (some false)
set_option maxHeartbeats 60000000 in
set_option maxRecDepth 100000 in
theorem Y2.calls (a0 a1 a2:Int) (r:Bool) (w:World) (h:Y2.f a0 a1 a2=some r) :
  Calls Try.prog 24 #[a0,a1,a2] w fun e w'=>e=.returned (.bool r)∧Drawn0 w w':=by
 have H:(if a0 ≥ a1 then (some (decide (a0≤a2))) else (some false))=some r:=h;clear h
 by_cases c4:a0 ≥ a1
 case pos =>
  rw [if_pos c4] at H
  have aA:=decide_eq_true c4;clear c4;obtain rfl:=Option.some.inj H;go_enter Try.func24,Try.ntmps24
  go_wp2
  go_ret
  exact ⟨by first|rfl|(simp;done)|(simp [*];done),by repeat (first|exact Drawn0.refl _|apply Drawn0.step)⟩
 rw [if_neg c4] at H
 have aA:=decide_eq_false c4;clear c4;obtain rfl:=Option.some.inj H;go_enter Try.func24,Try.ntmps24
 go_wp2
 go_ret
 exact ⟨by first|rfl|(simp;done)|(simp [*];done),by repeat (first|exact Drawn0.refl _|apply Drawn0.step)⟩

def Y62.f (aD aA aG aH aE aC aI aJ:Int):Option (Bool):=if aA<aC then (some true) else (if aA=aC then (some (decide (aD<aE))) else (some false))
set_option maxHeartbeats 60000000 in
set_option maxRecDepth 100000 in
theorem Y62.calls (aI aC aK aN aJ aD aQ aT:Int) (r:Bool) (w:World) (h:Y62.f aI aC aK aN aJ aD aQ aT=some r) :
  Calls Try.prog 59 #[.agg #[aI,aC,aK,aN],.agg #[aJ,aD,aQ,aT]] w fun e w'=>e=.returned (.bool r)∧Below w.heap.size w w':=by
 have bU:=Try.underlying86;have HB:=aM (Below.refl w.heap.size w);have H:(if aC<aD then (some true) else (if aC=aD then (some (decide (aI<aJ))) else (some false)))=some r:=h;clear h
 by_cases c3:aC<aD
 case pos =>
  rw [if_pos c3] at H
  have bH:=decide_eq_true c3;clear c3;obtain rfl:=Option.some.inj H;go_enter Try.func59,Try.ntmps59
  go_wp2_with (first|((with_reducible refine gD (N:=2) rfl ?_);refine bE (N:=2) (cs:=#[aI,aC,aK,aN]) (t:=86) ?_;intro aV hg w4 hbox hb;have aA:=aM (hbox);have aW:=gF hg HB;have aX:=gF hg HB;replace HB:=rS HB hb;clear hb hbox hg)|((with_reducible refine gD (N:=3) rfl ?_);refine bE (N:=3) (cs:=#[aJ,aD,aQ,aT]) (t:=86) ?_;intro bA hg w5 hbox hb;have aH:=aM (hbox);have bD:=gF hg HB;have bG:=gF hg HB;have aE:=nM hg aA;have aG:=nH hg aA;replace aA:=rB aA hb;replace HB:=rS HB hb;clear hb hbox hg;have bV:=aE.out;have bW:=aG.out;have bX:=cA4 aA.out;have bY:=cA4 aH.out))
  go_ret
  exact ⟨xW,bl HB.out⟩
 rw [if_neg c3] at H
 have bH:=decide_eq_false c3;clear c3
 by_cases c9:aC=aD
 case neg =>
  rw [if_neg c9] at H
  have bI:(aC == aD)=false:=beq_eq_false_iff_ne.mpr c9;have bJ:(aC != aD)=true:=bne_iff_ne.mpr c9;obtain rfl:=Option.some.inj H;go_enter Try.func59,Try.ntmps59
  go_wp2_with (first|((with_reducible refine gD (N:=2) rfl ?_);refine bE (N:=2) (cs:=#[aI,aC,aK,aN]) (t:=86) ?_;intro aV hg bZ hbox hb;have aA:=aM (hbox);have aW:=gF hg HB;have aX:=gF hg HB;replace HB:=rS HB hb;clear hb hbox hg)|((with_reducible refine gD (N:=3) rfl ?_);refine bE (N:=3) (cs:=#[aJ,aD,aQ,aT]) (t:=86) ?_;intro bA hg cA hbox hb;have aH:=aM (hbox);have bD:=gF hg HB;have bG:=gF hg HB;have aE:=nM hg aA;have aG:=nH hg aA;replace aA:=rB aA hb;replace HB:=rS HB hb;clear hb hbox hg;have bK:=aE.out;have bL:=aG.out;have bM:=cA4 aA.out;have bN:=cA4 aH.out))
  go_ret
  exact ⟨xW,bl HB.out⟩
 rw [if_pos c9] at H
 have bI:(aC == aD)=true:=beq_iff_eq.mpr c9;have bJ:(aC != aD)=false:=bne_eq_false_iff_eq.mpr c9;clear c9;obtain rfl:=Option.some.inj H;go_enter Try.func59,Try.ntmps59
 go_wp2_with (first|((with_reducible refine gD (N:=2) rfl ?_);refine bE (N:=2) (cs:=#[aI,aC,aK,aN]) (t:=86) ?_;intro aV hg cC hbox hb;have aA:=aM (hbox);have aW:=gF hg HB;have aX:=gF hg HB;replace HB:=rS HB hb;clear hb hbox hg)|((with_reducible refine gD (N:=3) rfl ?_);refine bE (N:=3) (cs:=#[aJ,aD,aQ,aT]) (t:=86) ?_;intro bA hg cD hbox hb;have aH:=aM (hbox);have bD:=gF hg HB;have bG:=gF hg HB;have aE:=nM hg aA;have aG:=nH hg aA;replace aA:=rB aA hb;replace HB:=rS HB hb;clear hb hbox hg;have bO:=aE.out;have bP:=aG.out;have bQ:=cA4 aA.out;have bT:=cA4 aH.out))
 go_ret
 exact ⟨xW,bl HB.out⟩

end Go.Proofs.Ytfljolhhgheheaa.PFnExactPass

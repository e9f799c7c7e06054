/- A part of the proof of laws.FnIns. No condition beyond what its theorems say. -/
import Derived.Test.YtljbdchibfjbdaaDoorVFnInsPx26
namespace Go.Proofs.YtljbdchibfjbdaaDoor.PFnIns
open Go.RowKit Go.Proofs.YtljbdchibfjbdaaDoorW.PrintWords Go.Proofs.YtljbdchibfjbdaaDoorW.PrintLast Go.Proofs.YtljbdchibfjbdaaDoorW.PrintMore
set_option linter.unusedVariables false
set_option linter.unusedSimpArgs false

def Z61.f (k:Nat) (aE aD aH aI aJ aK aN:Int) (aQ:Bool):Option (ByteArray):=if aE=1 then ((Z42.f k aD aH aI aJ aK aN).bind fun aG=>(some aG)) else (if aE=2 then (if aQ=true then ((Z10.f k aD).bind fun aA=>(if 5+aA.size≤9223372036854775807 then (if ((⟨#[103,97,116,101,32]⟩:ByteArray)++aA).size+5≤9223372036854775807 then (some (((⟨#[103,97,116,101,32]⟩:ByteArray)++aA)++(⟨#[32,111,112,101,110]⟩:ByteArray))) else (none)) else (none))) else ((Z10.f k aD).bind fun aC=>(if 5+aC.size≤9223372036854775807 then (if ((⟨#[103,97,116,101,32]⟩:ByteArray)++aC).size+5≤9223372036854775807 then (some (((⟨#[103,97,116,101,32]⟩:ByteArray)++aC)++(⟨#[32,115,104,117,116]⟩:ByteArray))) else (none)) else (none)))) else (some (⟨#[110,111,110,101]⟩:ByteArray)))
theorem Z61.mono:∀ a0 a1 a2 a3 a4 a5 a6 a7 k,LeO (Z61.f k a0 a1 a2 a3 a4 a5 a6 a7) (Z61.f (k+1) a0 a1 a2 a3 a4 a5 a6 a7):=by
 intro a0 a1 a2 a3 a4 a5 a6 a7 k;unfold Z61.f
 repeat' (with_reducible first|apply Z10.mono|apply Z42.mono|exact lR _|refine lI ?_ ?_|refine lB ?_ fun _=>?_)
set_option maxHeartbeats 60000000 in
set_option maxRecDepth 100000 in
theorem Z61.calls (k:Nat) (aC aG aH aI aJ aK aN:Int) (aQ:Bool) (r:ByteArray) (w:World) (h:Z61.f k aC aG aH aI aJ aK aN aQ=some r) :
  Calls Tryd.prog 23 #[.agg #[aC,aG,aH,aI,aJ,aK,aN,aQ]] w fun e w'=>e=.returned (.string r)∧Below w.heap.size w w':=by
 have cO:=Tryd.underlying41;have cP:=Tryd.underlying25;have HB:=aM (Below.refl w.heap.size w);have H:(if aC=1 then ((Z42.f k aG aH aI aJ aK aN).bind fun bD=>(some bD)) else (if aC=2 then (if aQ=true then ((Z10.f k aG).bind fun aD=>(if 5+aD.size≤9223372036854775807 then (if ((⟨#[103,97,116,101,32]⟩:ByteArray)++aD).size+5≤9223372036854775807 then (some (((⟨#[103,97,116,101,32]⟩:ByteArray)++aD)++(⟨#[32,111,112,101,110]⟩:ByteArray))) else (none)) else (none))) else ((Z10.f k aG).bind fun aE=>(if 5+aE.size≤9223372036854775807 then (if ((⟨#[103,97,116,101,32]⟩:ByteArray)++aE).size+5≤9223372036854775807 then (some (((⟨#[103,97,116,101,32]⟩:ByteArray)++aE)++(⟨#[32,115,104,117,116]⟩:ByteArray))) else (none)) else (none)))) else (some (⟨#[110,111,110,101]⟩:ByteArray))))=some r:=h
 clear h
 by_cases c2:aC=1
 case pos =>
  rw [if_pos c2] at H
  have bL:(aC == 1)=true:=beq_iff_eq.mpr c2;have bM:(aC != 1)=false:=bne_eq_false_iff_eq.mpr c2;clear c2;obtain ⟨bD,bJ,H⟩:=hB H;have A3:=aM bJ;clear bJ;obtain rfl:=Option.some.inj H;go_enter Tryd.func23,Tryd.ntmps23
  go_wp2_with (first|((with_reducible refine gD (N:=1) rfl ?_);refine bE (N:=1) (cs:=#[aC,aG,aH,aI,aJ,aK,aN,aQ]) (t:=41) ?_;intro aT hg w4 hbox hb;have aA:=aM (hbox);have aV:=gF hg HB;have aW:=gF hg HB;replace HB:=rS HB hb;clear hb hbox hg;have cQ:=cA8 aA.out)|((with_reducible refine gC (f:=65) rfl ?_);refine goesL_ (some 13) rfl rfl Tryd.func65 (by kernel_rfl) rfl #[aG,.agg #[aH,aI,aJ,aK],aN] rfl xR ?_;(with_reducible refine (Z42.calls k aG aH aI aJ aK aN bD _ A3.out).mono ?_);rintro e w6 ⟨rfl,hb⟩;refine ⟨_,rfl,?_⟩;replace aA:=rB aA hb;replace HB:=rS HB hb;(try clear hb)))
  go_ret
  exact ⟨xW,bl HB.out⟩
 rw [if_neg c2] at H
 have bL:(aC == 1)=false:=beq_eq_false_iff_ne.mpr c2;have bM:(aC != 1)=true:=bne_iff_ne.mpr c2
 by_cases c7:aC=2
 case neg =>
  rw [if_neg c7] at H
  have bN:(aC == 2)=false:=beq_eq_false_iff_ne.mpr c7;have bO:(aC != 2)=true:=bne_iff_ne.mpr c7;obtain rfl:=Option.some.inj H;go_enter Tryd.func23,Tryd.ntmps23
  go_wp2_with (((with_reducible refine gD (N:=1) rfl ?_);refine bE (N:=1) (cs:=#[aC,aG,aH,aI,aJ,aK,aN,aQ]) (t:=41) ?_;intro aT hg cR hbox hb;have aA:=aM (hbox);have aV:=gF hg HB;have aW:=gF hg HB;replace HB:=rS HB hb;clear hb hbox hg;have bQ:=cA8 aA.out))
  go_ret
  exact ⟨xW,bl HB.out⟩
 rw [if_pos c7] at H
 have bN:(aC == 2)=true:=beq_iff_eq.mpr c7;have bO:(aC != 2)=false:=bne_eq_false_iff_eq.mpr c7;clear c7
 by_cases c8:aQ=true
 case pos =>
  subst c8;replace H:=hP H rfl;obtain ⟨aD,bK,H⟩:=hB H;have A9:=aM bK;clear bK
  by_cases bG:5+aD.size≤9223372036854775807
  case neg =>
   rw [if_neg bG] at H
   exact absurd H (by simp)
  rw [if_pos bG] at H
  have bT:=eq_true bG;have bU:decide (5+aD.size≤9223372036854775807)=true:=decide_eq_true bG
  try have bV:(9223372036854775807<5+aD.size)=False:=eq_false (Nat.not_lt.2 bG)
  by_cases aX:((⟨#[103,97,116,101,32]⟩:ByteArray)++aD).size+5≤9223372036854775807
  case neg =>
   rw [if_neg aX] at H
   exact absurd H (by simp)
  rw [if_pos aX] at H
  have bW:=eq_true aX
  try have bX:(9223372036854775807<5+aD.size+5)=False:=eq_false (by have h_:=aX;have z0_:(⟨#[103,97,116,101,32]⟩:ByteArray).size=5:=rfl;simp only [ByteArray.size_append,z0_] at h_;omega)
  have bY:decide (((⟨#[103,97,116,101,32]⟩:ByteArray)++aD).size+5≤9223372036854775807)=true:=decide_eq_true aX
  try have bZ:(9223372036854775807<((⟨#[103,97,116,101,32]⟩:ByteArray)++aD).size+5)=False:=eq_false (Nat.not_lt.2 aX)
  obtain rfl:=Option.some.inj H;go_enter Tryd.func23,Tryd.ntmps23
  go_wp2_with (first|((with_reducible refine gD (N:=1) rfl ?_);refine bE (N:=1) (cs:=#[aC,aG,aH,aI,aJ,aK,aN,.bool true]) (t:=41) ?_;intro aT hg cS hbox hb;have aA:=aM (hbox);have aV:=gF hg HB;have aW:=gF hg HB;replace HB:=rS HB hb;clear hb hbox hg;have cA:=cA8 aA.out)|((with_reducible refine gC (f:=35) rfl ?_);refine goesL_ (some 20) rfl rfl Tryd.func35 (by kernel_rfl) rfl #[aG] rfl xR ?_;(with_reducible refine (Z10.calls k aG aD _ A9.out).mono ?_);rintro e cT ⟨rfl,hb⟩;refine ⟨_,rfl,?_⟩;replace aA:=rB aA hb;replace HB:=rS HB hb;(try clear hb)))
  go_ret
  exact ⟨xW,bl HB.out⟩
 replace c8:=Bool.eq_false_iff.mpr c8;subst c8;replace H:=hF H;obtain ⟨aE,bI,H⟩:=hB H;have bP:=aM bI;clear bI
 by_cases bH:5+aE.size≤9223372036854775807
 case neg =>
  rw [if_neg bH] at H
  exact absurd H (by simp)
 rw [if_pos bH] at H
 have cC:=eq_true bH;have cD:decide (5+aE.size≤9223372036854775807)=true:=decide_eq_true bH
 try have cE:(9223372036854775807<5+aE.size)=False:=eq_false (Nat.not_lt.2 bH)
 by_cases bA:((⟨#[103,97,116,101,32]⟩:ByteArray)++aE).size+5≤9223372036854775807
 case neg =>
  rw [if_neg bA] at H
  exact absurd H (by simp)
 rw [if_pos bA] at H
 have cG:=eq_true bA
 try have cH:(9223372036854775807<5+aE.size+5)=False:=eq_false (by have h_:=bA;have z0_:(⟨#[103,97,116,101,32]⟩:ByteArray).size=5:=rfl;simp only [ByteArray.size_append,z0_] at h_;omega)
 have cK:decide (((⟨#[103,97,116,101,32]⟩:ByteArray)++aE).size+5≤9223372036854775807)=true:=decide_eq_true bA
 try have cL:(9223372036854775807<((⟨#[103,97,116,101,32]⟩:ByteArray)++aE).size+5)=False:=eq_false (Nat.not_lt.2 bA)
 obtain rfl:=Option.some.inj H;go_enter Tryd.func23,Tryd.ntmps23
 go_wp2_with (first|((with_reducible refine gD (N:=1) rfl ?_);refine bE (N:=1) (cs:=#[aC,aG,aH,aI,aJ,aK,aN,.bool false]) (t:=41) ?_;intro aT hg cU hbox hb;have aA:=aM (hbox);have aV:=gF hg HB;have aW:=gF hg HB;replace HB:=rS HB hb;clear hb hbox hg;have cN:=cA8 aA.out)|((with_reducible refine gC (f:=35) rfl ?_);refine goesL_ (some 25) rfl rfl Tryd.func35 (by kernel_rfl) rfl #[aG] rfl xR ?_;(with_reducible refine (Z10.calls k aG aE _ bP.out).mono ?_);rintro e cV ⟨rfl,hb⟩;refine ⟨_,rfl,?_⟩;replace aA:=rB aA hb;replace HB:=rS HB hb;(try clear hb)))
 go_ret
 exact ⟨xW,bl HB.out⟩

-- NOT PRINTED: function 3 (Z0)

end Go.Proofs.YtljbdchibfjbdaaDoor.PFnIns

/- A part of the proof of laws.FnExactPass. No condition beyond what its theorems say. -/
import Derived.Test.YtfljolhhgheheaaVFnExactPassPx4
namespace Go.Proofs.Ytfljolhhgheheaa.PFnExactPass
open Go.RowKit Go.Proofs.YtfljolhhgheheaaW.PrintWords Go.Proofs.YtfljolhhgheheaaW.PrintLast Go.Proofs.YtfljolhhgheheaaW.PrintMore
set_option linter.unusedVariables false
set_option linter.unusedSimpArgs false

def Y14.l0:Nat→List Int→Int→Int→Option (Bool)
 | 0,_,_,_=>none
 | k+1,x0,x1,x5=>if x5<(x0.length:Int) then (if 0≤x5 then (if (rd x0 x5)=x1 then (some true) else (Y14.l0 k x0 x1 (wrap64 (x5+1)))) else (none)) else (some false)
def Y14.f (k:Nat) (l0:List Int) (a1:Int):Option (Bool):=Y14.l0 k l0 a1 0
theorem Y14.mono_l:∀ k,(∀ y0 y1 y2,LeO (Y14.l0 k y0 y1 y2) (Y14.l0 (k+1) y0 y1 y2))
 | 0=>fun _ _ _ r h=>by simp [Y14.l0] at h
 | k+1=>by
  have ih0:=Y14.mono_l k
  ·intro y0 y1 y2
   unfold Y14.l0
   repeat' first|(with_reducible first|apply ih0|exact lR _|exact lN _|refine lI ?_ ?_|refine lB ?_ fun _=>?_)|exact lN _|refine lI ?_ ?_|refine lB ?_ fun _=>?_
theorem Y14.mono:∀ a0 a1 k,LeO (Y14.f k a0 a1) (Y14.f (k+1) a0 a1):=by
 intro a0 a1 k;have ih0:=Y14.mono_l k;unfold Y14.f
 repeat' first|(with_reducible first|apply ih0|exact lR _|exact lN _|refine lI ?_ ?_|refine lB ?_ fun _=>?_)|exact lN _|refine lI ?_ ?_|refine lB ?_ fun _=>?_
set_option maxHeartbeats 60000000 in
set_option maxRecDepth 100000 in
theorem Y14.calls (k:Nat) (A0:Option Addr) (c0:Nat) (l0:List Int) (a1:Int) (r:Bool) (w:World) (hr0:Kd.C (Kd.int .i64) w A0 l0.length l0) (hc0:l0.length≤c0) (h:Y14.f k l0 a1=some r) :
  Calls Try.prog 58 #[.slice A0 l0.length c0,a1] w fun e w'=>e=.returned (.bool r)∧Drawn0 w w':=by
 have aI:=aM hr0;have aV:=aM hc0;clear hr0 hc0;have H:(Y14.l0 k l0 a1 0)=some r:=h;clear h;have H':=aM H;clear H;go_enter Try.func58,Try.ntmps58
 go_wp2
 go_loopg [5] k (fun kq v5 w'=>∃ (aA:Int),v5=.int .i64 aA∧Aside0 (Y14.l0 kq l0 a1 aA=some r)∧Aside0 (kq≤k)∧Drawn0 w w')
 case atStart=>exact ⟨(0),xE,H',⟨Nat.le_refl _⟩,by repeat (first|exact Drawn0.refl _|apply Drawn0.step)⟩
 case round =>
  clear H'
  try clear p2
  obtain ⟨aA,rfl,HA,aJ,⟨m1,rfl⟩⟩:=hrel;cases gk with
  | zero=>exact absurd HA.out (by simp [Y14.l0])
  | succ k1 =>
   have H:=HA.out;clear HA;simp only [Y14.l0] at H
   by_cases c3:aA<(l0.length:Int)
   case neg =>
    rw [if_neg c3] at H
    have aK:=decide_eq_false c3;clear c3;obtain rfl:=Option.some.inj H;go_wp2
    go_ret
    exact ⟨by first|rfl|(simp;done)|(simp [*];done),by repeat (first|exact Drawn0.refl _|apply Drawn0.step)⟩
   rw [if_pos c3] at H
   have aK:=decide_eq_true c3;clear c3;obtain ⟨aT,H⟩:=gI H
   by_cases c5:(rd l0 aA)=a1
   case pos =>
    rw [if_pos c5] at H
    have aN:((rd l0 aA) == a1)=true:=beq_iff_eq.mpr c5;have aQ:((rd l0 aA) != a1)=false:=bne_eq_false_iff_eq.mpr c5;clear c5;obtain rfl:=Option.some.inj H;have aC:0≤(aA:Int):=dT;have aD:aA<(l0.length:Int):=dT;obtain ⟨aH,aE,aG⟩:=Kd.at_int aI.out aA aC aD;cases aE
    replace aC:=eq_true aC;replace aD:=eq_true aD;go_wp2
    go_ret
    exact ⟨by first|rfl|(simp;done)|(simp [*];done),by repeat (first|exact Drawn0.refl _|apply Drawn0.step)⟩
   rw [if_neg c5] at H
   have aN:((rd l0 aA) == a1)=false:=beq_eq_false_iff_ne.mpr c5;have aQ:((rd l0 aA) != a1)=true:=bne_iff_ne.mpr c5;have H':=aM H;clear H;have aC:0≤(aA:Int):=dT;have aD:aA<(l0.length:Int):=dT;obtain ⟨aH,aE,aG⟩:=Kd.at_int aI.out aA aC aD;cases aE
   replace aC:=eq_true aC;replace aD:=eq_true aD;go_wp2
   go_roundg k1
   case measure=>have:=aJ.out;omega
   case rel=>exact ⟨(wS aA),xE,H',⟨by have:=aJ.out;omega⟩,by repeat (first|exact Drawn0.refl _|apply Drawn0.step)⟩

def Y11.l0:Nat→Int→Int→List Int→Option (Bool)
 | 0,_,_,_=>none
 | k+1,x3,aC,aA=>if x3<(aA.length:Int) then (if 0≤x3 then ((Y2.f (rd aA x3) 1 4).bind fun aD=>(if aD=true then (if x3 > 0 then (if 0≤(wrap64 (x3 - 1)) then (if (wrap64 (x3 - 1))<(aA.length:Int) then (if (rd aA (wrap64 (x3 - 1))) ≥ (rd aA x3) then (some false) else (Y11.l0 k (wrap64 (x3+1)) aC aA)) else (none)) else (none)) else (Y11.l0 k (wrap64 (x3+1)) aC aA)) else (some false))) else (none)) else ((Y2.f aC 1 4).bind fun aE=>(if aE=true then ((Y14.f k aA aC).bind fun aG=>(some aG)) else (some false)))
def Y11.f (k:Nat) (aA:Int) (aC:List Int):Option (Bool):=Y11.l0 k 0 aA aC
theorem Y11.mono_l:∀ k,(∀ y0 y1 y2,LeO (Y11.l0 k y0 y1 y2) (Y11.l0 (k+1) y0 y1 y2))
 | 0=>fun _ _ _ r h=>by simp [Y11.l0] at h
 | k+1=>by
  have ih0:=Y11.mono_l k
  ·intro y0 y1 y2
   unfold Y11.l0
   repeat' first|(with_reducible first|apply ih0|apply Y14.mono|exact lR _|exact lN _|refine lI ?_ ?_|refine lB ?_ fun _=>?_)|exact lN _|refine lI ?_ ?_|refine lB ?_ fun _=>?_
theorem Y11.mono:∀ a0 a1 k,LeO (Y11.f k a0 a1) (Y11.f (k+1) a0 a1):=by
 intro a0 a1 k;have ih0:=Y11.mono_l k;unfold Y11.f
 repeat' first|(with_reducible first|apply ih0|apply Y14.mono|exact lR _|exact lN _|refine lI ?_ ?_|refine lB ?_ fun _=>?_)|exact lN _|refine lI ?_ ?_|refine lB ?_ fun _=>?_
set_option maxHeartbeats 60000000 in
set_option maxRecDepth 100000 in
theorem Y11.calls (k:Nat) (aT:Int) (bJ:Option Addr) (bK:Nat) (aC:List Int) (r:Bool) (w:World) (hr0_1:Kd.C (Kd.int .i64) w bJ aC.length aC) (hc0_1:aC.length≤bK) (h:Y11.f k aT aC=some r) :
  Calls Try.prog 55 #[.agg #[aT,.slice bJ aC.length bK]] w fun e w'=>e=.returned (.bool r)∧Below w.heap.size w w':=by
 have cR:=Try.underlying60;have aG:=aM hr0_1;have bN:=aM hc0_1;clear hr0_1 hc0_1;have HB:=aM (Below.refl w.heap.size w);have H:(Y11.l0 k 0 aT aC)=some r:=h;clear h;have H':=aM H;clear H;go_enter Try.func55,Try.ntmps55
 go_wp2_with (first|((with_reducible refine gD (N:=1) rfl ?_);refine bE (N:=1) (cs:=#[aT,.slice bJ aC.length bK]) (t:=60) ?_;intro bO hg w2 hbox hb;have aV:=aM (hbox);have bQ:=gF hg HB;have bT:=gF hg HB;replace HB:=rS HB hb;clear hb hbox hg))
 repeat (go_quiet (first|((with_reducible refine gD (N:=1) rfl ?_);refine bE (N:=1) (cs:=#[aT,.slice bJ aC.length bK]) (t:=60) ?_;intro bO hg w2 hbox hb;have aV:=aM (hbox);have bQ:=gF hg HB;have bT:=gF hg HB;replace HB:=rS HB hb;clear hb hbox hg));try go_wp2_with (first|((with_reducible refine gD (N:=1) rfl ?_);refine bE (N:=1) (cs:=#[aT,.slice bJ aC.length bK]) (t:=60) ?_;intro bO hg w2 hbox hb;have aV:=aM (hbox);have bQ:=gF hg HB;have bT:=gF hg HB;replace HB:=rS HB hb;clear hb hbox hg)))
 go_loopg [3] k (fun kq v3 w'=>∃ (aA:Int),v3=.int .i64 aA∧Aside0 (Y11.l0 kq aA aT aC=some r)∧Aside0 (kq≤k)∧Aside0 (w'.heap[bO]?=some (.cells #[aT,(.slice bJ aC.length bK)] 60 (0,0)))∧Aside0 (Below w.heap.size w w'))
 case atStart=>exact ⟨(0),xE,H',⟨Nat.le_refl _⟩,⟨bk aV.out⟩,⟨bl HB.out⟩⟩
 case round =>
  clear H'
  try clear p2
  obtain ⟨aA,rfl,HA,bU,aV,HB⟩:=hrel;cases gk with
  | zero=>exact absurd HA.out (by simp [Y11.l0])
  | succ k1 =>
   have H:=HA.out;clear HA;simp only [Y11.l0] at H
   by_cases c3:aA<(aC.length:Int)
   case neg =>
    rw [if_neg c3] at H
    have cC:=decide_eq_false c3;clear c3;obtain ⟨cD,bW,H⟩:=hB H;have bL:=aM bW;clear bW
    by_cases bV:cD=true
    case neg =>
     replace bV:=Bool.eq_false_iff.mpr bV;subst bV;replace H:=hF H;obtain rfl:=Option.some.inj H;have cH:=cA2 aV.out;go_wp2_with (first|(go_at_call 24;(with_reducible refine (Y2.calls aT 1 4 false _ bL.out).mono ?_);rintro e w' ⟨rfl,⟨nd,rfl⟩⟩;(try first|exact ⟨rfl,_,World.drewN_drewN _ _ _⟩|exact ⟨rfl,_,Eq.trans (World.drewN_drewN _ _ _) (congrArg (World.drewN _) (Nat.add_assoc _ _ _))⟩)))
     repeat (go_quiet (first|(go_at_call 24;(with_reducible refine (Y2.calls aT 1 4 false _ bL.out).mono ?_);rintro e w' ⟨rfl,⟨nd,rfl⟩⟩;(try first|exact ⟨rfl,_,World.drewN_drewN _ _ _⟩|exact ⟨rfl,_,Eq.trans (World.drewN_drewN _ _ _) (congrArg (World.drewN _) (Nat.add_assoc _ _ _))⟩)));try go_wp2_with (first|(go_at_call 24;(with_reducible refine (Y2.calls aT 1 4 false _ bL.out).mono ?_);rintro e w' ⟨rfl,⟨nd,rfl⟩⟩;(try first|exact ⟨rfl,_,World.drewN_drewN _ _ _⟩|exact ⟨rfl,_,Eq.trans (World.drewN_drewN _ _ _) (congrArg (World.drewN _) (Nat.add_assoc _ _ _))⟩))))
     go_ret
     exact ⟨xW,bl HB.out⟩
    subst bV;replace H:=hP H rfl;obtain ⟨bP,bX,H⟩:=hB H;have bY:=aM bX;clear bX;obtain rfl:=Option.some.inj H;have cK:=cA2 aV.out;go_wp2_with (first|(go_at_call 24;(with_reducible refine (Y2.calls aT 1 4 true _ bL.out).mono ?_);rintro e w' ⟨rfl,⟨nd,rfl⟩⟩;(try first|exact ⟨rfl,_,World.drewN_drewN _ _ _⟩|exact ⟨rfl,_,Eq.trans (World.drewN_drewN _ _ _) (congrArg (World.drewN _) (Nat.add_assoc _ _ _))⟩))|(go_at_call 58;(with_reducible refine (Y14.calls k1 _ _ aC aT bP _ ?side1 ?side2 bY.out).mono ?_);(case side1=>exact cM (cB aG.out (bl HB.out)));(case side2=>exact bN.out);rintro e w' ⟨rfl,⟨nd,rfl⟩⟩;(try first|exact ⟨rfl,_,World.drewN_drewN _ _ _⟩|exact ⟨rfl,_,Eq.trans (World.drewN_drewN _ _ _) (congrArg (World.drewN _) (Nat.add_assoc _ _ _))⟩)))
    repeat (go_quiet (first|(go_at_call 24;(with_reducible refine (Y2.calls aT 1 4 true _ bL.out).mono ?_);rintro e w' ⟨rfl,⟨nd,rfl⟩⟩;(try first|exact ⟨rfl,_,World.drewN_drewN _ _ _⟩|exact ⟨rfl,_,Eq.trans (World.drewN_drewN _ _ _) (congrArg (World.drewN _) (Nat.add_assoc _ _ _))⟩))|(go_at_call 58;(with_reducible refine (Y14.calls k1 _ _ aC aT bP _ ?side1 ?side2 bY.out).mono ?_);(case side1=>exact cM (cB aG.out (bl HB.out)));(case side2=>exact bN.out);rintro e w' ⟨rfl,⟨nd,rfl⟩⟩;(try first|exact ⟨rfl,_,World.drewN_drewN _ _ _⟩|exact ⟨rfl,_,Eq.trans (World.drewN_drewN _ _ _) (congrArg (World.drewN _) (Nat.add_assoc _ _ _))⟩)));try go_wp2_with (first|(go_at_call 24;(with_reducible refine (Y2.calls aT 1 4 true _ bL.out).mono ?_);rintro e w' ⟨rfl,⟨nd,rfl⟩⟩;(try first|exact ⟨rfl,_,World.drewN_drewN _ _ _⟩|exact ⟨rfl,_,Eq.trans (World.drewN_drewN _ _ _) (congrArg (World.drewN _) (Nat.add_assoc _ _ _))⟩))|(go_at_call 58;(with_reducible refine (Y14.calls k1 _ _ aC aT bP _ ?side1 ?side2 bY.out).mono ?_);(case side1=>exact cM (cB aG.out (bl HB.out)));(case side2=>exact bN.out);rintro e w' ⟨rfl,⟨nd,rfl⟩⟩;(try first|exact ⟨rfl,_,World.drewN_drewN _ _ _⟩|exact ⟨rfl,_,Eq.trans (World.drewN_drewN _ _ _) (congrArg (World.drewN _) (Nat.add_assoc _ _ _))⟩))))
    go_ret
    exact ⟨xW,bl HB.out⟩
   rw [if_pos c3] at H
   have cC:=decide_eq_true c3;clear c3;obtain ⟨cS,H⟩:=gI H;obtain ⟨cE,cA,H⟩:=hB H;have A5:=aM cA;clear cA
   by_cases c6:cE=true
   case neg =>
    replace c6:=Bool.eq_false_iff.mpr c6;subst c6;replace H:=hF H;obtain rfl:=Option.some.inj H;have cL:=cA2 aV.out;have aW:0≤(aA:Int):=dT;have aX:aA<(aC.length:Int):=dT;obtain ⟨aQ,bI,aN⟩:=Kd.at_int aG.out aA aW aX;cases bI
    replace aN:=xB HB aN;replace aW:=eq_true aW;replace aX:=eq_true aX;go_wp2_with (first|(go_at_call 24;(with_reducible refine (Y2.calls (rd aC aA) 1 4 false _ A5.out).mono ?_);rintro e w' ⟨rfl,⟨nd,rfl⟩⟩;(try first|exact ⟨rfl,_,World.drewN_drewN _ _ _⟩|exact ⟨rfl,_,Eq.trans (World.drewN_drewN _ _ _) (congrArg (World.drewN _) (Nat.add_assoc _ _ _))⟩)))
    repeat (go_quiet (first|(go_at_call 24;(with_reducible refine (Y2.calls (rd aC aA) 1 4 false _ A5.out).mono ?_);rintro e w' ⟨rfl,⟨nd,rfl⟩⟩;(try first|exact ⟨rfl,_,World.drewN_drewN _ _ _⟩|exact ⟨rfl,_,Eq.trans (World.drewN_drewN _ _ _) (congrArg (World.drewN _) (Nat.add_assoc _ _ _))⟩)));try go_wp2_with (first|(go_at_call 24;(with_reducible refine (Y2.calls (rd aC aA) 1 4 false _ A5.out).mono ?_);rintro e w' ⟨rfl,⟨nd,rfl⟩⟩;(try first|exact ⟨rfl,_,World.drewN_drewN _ _ _⟩|exact ⟨rfl,_,Eq.trans (World.drewN_drewN _ _ _) (congrArg (World.drewN _) (Nat.add_assoc _ _ _))⟩))))
    go_ret
    exact ⟨xW,bl HB.out⟩
   subst c6;replace H:=hP H rfl
   by_cases c7:aA > 0
   case neg =>
    rw [if_neg c7] at H
    have cG:=decide_eq_false c7;clear c7;have H':=aM H;clear H;have cN:=cA2 aV.out;have aW:0≤(aA:Int):=dT;have aX:aA<(aC.length:Int):=dT;obtain ⟨aQ,bI,aN⟩:=Kd.at_int aG.out aA aW aX;cases bI
    replace aN:=xB HB aN;replace aW:=eq_true aW;replace aX:=eq_true aX;go_wp2_with (first|(go_at_call 24;(with_reducible refine (Y2.calls (rd aC aA) 1 4 true _ A5.out).mono ?_);rintro e w' ⟨rfl,⟨nd,rfl⟩⟩;(try first|exact ⟨rfl,_,World.drewN_drewN _ _ _⟩|exact ⟨rfl,_,Eq.trans (World.drewN_drewN _ _ _) (congrArg (World.drewN _) (Nat.add_assoc _ _ _))⟩)))
    repeat (go_quiet (first|(go_at_call 24;(with_reducible refine (Y2.calls (rd aC aA) 1 4 true _ A5.out).mono ?_);rintro e w' ⟨rfl,⟨nd,rfl⟩⟩;(try first|exact ⟨rfl,_,World.drewN_drewN _ _ _⟩|exact ⟨rfl,_,Eq.trans (World.drewN_drewN _ _ _) (congrArg (World.drewN _) (Nat.add_assoc _ _ _))⟩)));try go_wp2_with (first|(go_at_call 24;(with_reducible refine (Y2.calls (rd aC aA) 1 4 true _ A5.out).mono ?_);rintro e w' ⟨rfl,⟨nd,rfl⟩⟩;(try first|exact ⟨rfl,_,World.drewN_drewN _ _ _⟩|exact ⟨rfl,_,Eq.trans (World.drewN_drewN _ _ _) (congrArg (World.drewN _) (Nat.add_assoc _ _ _))⟩))))
    go_roundg k1
    case measure=>have:=bU.out;omega
    case rel=>exact ⟨(wS aA),xE,H',⟨by have:=bU.out;omega⟩,⟨bk aV.out⟩,⟨bl HB.out⟩⟩
   rw [if_pos c7] at H
   have cG:=decide_eq_true c7;clear c7;obtain ⟨ji8,hji8⟩:∃ j_:Int,(wrap64 (aA - 1))=j_:=⟨_,rfl⟩;replace H:(if 0≤(ji8) then (if (ji8)<(aC.length:Int) then (if (rd aC (ji8)) ≥ (rd aC aA) then (some false) else (Y11.l0 k1 (wS aA) aT aC)) else (none)) else (none))=some r:=by first|(rw [hji8] at H;exact H)|(simp only [hji8] at H ⊢;exact H)
   (try rw [hji8] at A5)
   have hji8w:(IntKind.i64.wrap (aA - 1))=ji8:=(i64_w _).trans hji8;obtain ⟨cT,H⟩:=gI H;obtain ⟨cO,H⟩:=gI H
   by_cases bM:(rd aC (ji8)) ≥ (rd aC aA)
   case pos =>
    rw [if_pos bM] at H
    have bZ:=decide_eq_true bM;clear bM;obtain rfl:=Option.some.inj H;have cP:=cA2 aV.out;have aW:0≤(aA:Int):=dT;have aX:aA<(aC.length:Int):=dT;obtain ⟨aQ,bI,aN⟩:=Kd.at_int aG.out aA aW aX;cases bI
    replace aN:=xB HB aN;replace aW:=eq_true aW;replace aX:=eq_true aX;go_wp2_with (first|(go_at_call 24;(with_reducible refine (Y2.calls (rd aC aA) 1 4 true _ A5.out).mono ?_);rintro e w' ⟨rfl,⟨nd,rfl⟩⟩;(try first|exact ⟨rfl,_,World.drewN_drewN _ _ _⟩|exact ⟨rfl,_,Eq.trans (World.drewN_drewN _ _ _) (congrArg (World.drewN _) (Nat.add_assoc _ _ _))⟩);have aH:0≤((ji8):Int):=dT;have aI:(ji8)<(aC.length:Int):=dT;obtain ⟨bA,bG,aD⟩:=Kd.at_int aG.out (ji8) aH aI;obtain rfl:aQ=bA:=(by injection bG);replace aD:=(HB.out.cell (World.block_lt_of_cell? w _ aD)).trans aD;replace aH:=eq_true aH;replace aI:=eq_true aI;have aJ:0≤(aA:Int):=dT;have aK:aA<(aC.length:Int):=dT;obtain ⟨bD,bH,aE⟩:=Kd.at_int aG.out aA aJ aK;obtain rfl:aQ=bD:=(by injection bH);replace aE:=(HB.out.cell (World.block_lt_of_cell? w _ aE)).trans aE;replace aJ:=eq_true aJ;replace aK:=eq_true aK))
    repeat (go_quiet (first|(go_at_call 24;(with_reducible refine (Y2.calls (rd aC aA) 1 4 true _ A5.out).mono ?_);rintro e w' ⟨rfl,⟨nd,rfl⟩⟩;(try first|exact ⟨rfl,_,World.drewN_drewN _ _ _⟩|exact ⟨rfl,_,Eq.trans (World.drewN_drewN _ _ _) (congrArg (World.drewN _) (Nat.add_assoc _ _ _))⟩);have aH:0≤((ji8):Int):=dT;have aI:(ji8)<(aC.length:Int):=dT;obtain ⟨bA,bG,aD⟩:=Kd.at_int aG.out (ji8) aH aI;obtain rfl:aQ=bA:=(by injection bG);replace aD:=(HB.out.cell (World.block_lt_of_cell? w _ aD)).trans aD;replace aH:=eq_true aH;replace aI:=eq_true aI;have aJ:0≤(aA:Int):=dT;have aK:aA<(aC.length:Int):=dT;obtain ⟨bD,bH,aE⟩:=Kd.at_int aG.out aA aJ aK;obtain rfl:aQ=bD:=(by injection bH);replace aE:=(HB.out.cell (World.block_lt_of_cell? w _ aE)).trans aE;replace aJ:=eq_true aJ;replace aK:=eq_true aK));try go_wp2_with (first|(go_at_call 24;(with_reducible refine (Y2.calls (rd aC aA) 1 4 true _ A5.out).mono ?_);rintro e w' ⟨rfl,⟨nd,rfl⟩⟩;(try first|exact ⟨rfl,_,World.drewN_drewN _ _ _⟩|exact ⟨rfl,_,Eq.trans (World.drewN_drewN _ _ _) (congrArg (World.drewN _) (Nat.add_assoc _ _ _))⟩);have aH:0≤((ji8):Int):=dT;have aI:(ji8)<(aC.length:Int):=dT;obtain ⟨bA,bG,aD⟩:=Kd.at_int aG.out (ji8) aH aI;obtain rfl:aQ=bA:=(by injection bG);replace aD:=(HB.out.cell (World.block_lt_of_cell? w _ aD)).trans aD;replace aH:=eq_true aH;replace aI:=eq_true aI;have aJ:0≤(aA:Int):=dT;have aK:aA<(aC.length:Int):=dT;obtain ⟨bD,bH,aE⟩:=Kd.at_int aG.out aA aJ aK;obtain rfl:aQ=bD:=(by injection bH);replace aE:=(HB.out.cell (World.block_lt_of_cell? w _ aE)).trans aE;replace aJ:=eq_true aJ;replace aK:=eq_true aK)))
    go_ret
    exact ⟨by first|rfl|(simp [errW_none,errW_some] <;> rfl)|(simp only [← hji8];first|rfl|(simp [errW_none,errW_some] <;> rfl))|(simp [*,errW_none,errW_some] <;> rfl),bl HB.out⟩
   rw [if_neg bM] at H
   have bZ:=decide_eq_false bM;clear bM;have H':=aM H;clear H;have cQ:=cA2 aV.out;have aW:0≤(aA:Int):=dT;have aX:aA<(aC.length:Int):=dT;obtain ⟨aQ,bI,aN⟩:=Kd.at_int aG.out aA aW aX;cases bI
   replace aN:=xB HB aN;replace aW:=eq_true aW;replace aX:=eq_true aX;go_wp2_with (first|(go_at_call 24;(with_reducible refine (Y2.calls (rd aC aA) 1 4 true _ A5.out).mono ?_);rintro e w' ⟨rfl,⟨nd,rfl⟩⟩;(try first|exact ⟨rfl,_,World.drewN_drewN _ _ _⟩|exact ⟨rfl,_,Eq.trans (World.drewN_drewN _ _ _) (congrArg (World.drewN _) (Nat.add_assoc _ _ _))⟩);have aH:0≤((ji8):Int):=dT;have aI:(ji8)<(aC.length:Int):=dT;obtain ⟨bA,bG,aD⟩:=Kd.at_int aG.out (ji8) aH aI;obtain rfl:aQ=bA:=(by injection bG);replace aD:=(HB.out.cell (World.block_lt_of_cell? w _ aD)).trans aD;replace aH:=eq_true aH;replace aI:=eq_true aI;have aJ:0≤(aA:Int):=dT;have aK:aA<(aC.length:Int):=dT;obtain ⟨bD,bH,aE⟩:=Kd.at_int aG.out aA aJ aK;obtain rfl:aQ=bD:=(by injection bH);replace aE:=(HB.out.cell (World.block_lt_of_cell? w _ aE)).trans aE;replace aJ:=eq_true aJ;replace aK:=eq_true aK))
   repeat (go_quiet (first|(go_at_call 24;(with_reducible refine (Y2.calls (rd aC aA) 1 4 true _ A5.out).mono ?_);rintro e w' ⟨rfl,⟨nd,rfl⟩⟩;(try first|exact ⟨rfl,_,World.drewN_drewN _ _ _⟩|exact ⟨rfl,_,Eq.trans (World.drewN_drewN _ _ _) (congrArg (World.drewN _) (Nat.add_assoc _ _ _))⟩);have aH:0≤((ji8):Int):=dT;have aI:(ji8)<(aC.length:Int):=dT;obtain ⟨bA,bG,aD⟩:=Kd.at_int aG.out (ji8) aH aI;obtain rfl:aQ=bA:=(by injection bG);replace aD:=(HB.out.cell (World.block_lt_of_cell? w _ aD)).trans aD;replace aH:=eq_true aH;replace aI:=eq_true aI;have aJ:0≤(aA:Int):=dT;have aK:aA<(aC.length:Int):=dT;obtain ⟨bD,bH,aE⟩:=Kd.at_int aG.out aA aJ aK;obtain rfl:aQ=bD:=(by injection bH);replace aE:=(HB.out.cell (World.block_lt_of_cell? w _ aE)).trans aE;replace aJ:=eq_true aJ;replace aK:=eq_true aK));try go_wp2_with (first|(go_at_call 24;(with_reducible refine (Y2.calls (rd aC aA) 1 4 true _ A5.out).mono ?_);rintro e w' ⟨rfl,⟨nd,rfl⟩⟩;(try first|exact ⟨rfl,_,World.drewN_drewN _ _ _⟩|exact ⟨rfl,_,Eq.trans (World.drewN_drewN _ _ _) (congrArg (World.drewN _) (Nat.add_assoc _ _ _))⟩);have aH:0≤((ji8):Int):=dT;have aI:(ji8)<(aC.length:Int):=dT;obtain ⟨bA,bG,aD⟩:=Kd.at_int aG.out (ji8) aH aI;obtain rfl:aQ=bA:=(by injection bG);replace aD:=(HB.out.cell (World.block_lt_of_cell? w _ aD)).trans aD;replace aH:=eq_true aH;replace aI:=eq_true aI;have aJ:0≤(aA:Int):=dT;have aK:aA<(aC.length:Int):=dT;obtain ⟨bD,bH,aE⟩:=Kd.at_int aG.out aA aJ aK;obtain rfl:aQ=bD:=(by injection bH);replace aE:=(HB.out.cell (World.block_lt_of_cell? w _ aE)).trans aE;replace aJ:=eq_true aJ;replace aK:=eq_true aK)))
   go_roundg k1
   case measure=>have:=bU.out;omega
   case rel=>exact ⟨(wS aA),xE,H',⟨by have:=bU.out;omega⟩,⟨bk aV.out⟩,⟨bl HB.out⟩⟩

mutual
def Y9.j0:Nat→Bool→List Bool→List (S60)→List (S86)→Option (Bool)
 | 0,_,_,_,_=>none
 | k+1,aE,aA,aC,aD=>if aE=true then (some false) else (Y9.l0 k 0 aA aC aD)
def Y9.l0:Nat→Int→List Bool→List (S60)→List (S86)→Option (Bool)
 | 0,_,_,_,_=>none
 | k+1,x3,aC,aA,aD=>if x3<(aA.length:Int) then (if 0≤x3 then ((Y11.f k ((rd_T60 aA x3).f0) ((rd_T60 aA x3).f1)).bind fun aE=>(if aE=true then (Y9.l0 k (wrap64 (x3+1)) aC aA aD) else (some false))) else (none)) else (some true)
end
def Y9.f (k:Nat) (aA:List Bool) (aC:List (S60)) (aD:List (S86)):Option (Bool):=(Y2.f (aA.length:Int) 1 4).bind fun aE=>(if aE=true then (if (aC.length:Int)=(aA.length:Int) then ((Y7.f k aD).bind fun aG=>(Y9.j0 k (!aG) aA aC aD)) else (Y9.j0 k true aA aC aD)) else (Y9.j0 k true aA aC aD))
theorem Y9.mono_l:∀ k,(∀ y0 y1 y2 y3,LeO (Y9.j0 k y0 y1 y2 y3) (Y9.j0 (k+1) y0 y1 y2 y3))∧(∀ y0 y1 y2 y3,LeO (Y9.l0 k y0 y1 y2 y3) (Y9.l0 (k+1) y0 y1 y2 y3))
 | 0=>by refine ⟨?_,?_⟩ <;> intros <;> intro r h <;> simp [Y9.j0,Y9.l0] at h
 | k+1=>by
  obtain ⟨ih0,ih1⟩:=Y9.mono_l k;refine ⟨?_,?_⟩
  ·intro y0 y1 y2 y3
   unfold Y9.j0
   repeat' first|(with_reducible first|apply ih0|apply ih1|apply Y11.mono|apply Y7.mono|exact lR _|exact lN _|refine lI ?_ ?_|refine lB ?_ fun _=>?_)|exact lN _|refine lI ?_ ?_|refine lB ?_ fun _=>?_
  ·intro y0 y1 y2 y3
   unfold Y9.l0
   repeat' first|(with_reducible first|apply ih0|apply ih1|apply Y11.mono|apply Y7.mono|exact lR _|exact lN _|refine lI ?_ ?_|refine lB ?_ fun _=>?_)|exact lN _|refine lI ?_ ?_|refine lB ?_ fun _=>?_
theorem Y9.mono:∀ a0 a1 a2 k,LeO (Y9.f k a0 a1 a2) (Y9.f (k+1) a0 a1 a2):=by
 intro a0 a1 a2 k;obtain ⟨ih0,ih1⟩:=Y9.mono_l k;unfold Y9.f
 repeat' first|(with_reducible first|apply ih0|apply ih1|apply Y11.mono|apply Y7.mono|exact lR _|exact lN _|refine lI ?_ ?_|refine lB ?_ fun _=>?_)|exact lN _|refine lI ?_ ?_|refine lB ?_ fun _=>?_
set_option maxHeartbeats 60000000 in
set_option maxRecDepth 100000 in
theorem Y9.calls (k:Nat) (aW:Option Addr) (aX:Nat) (aC:List Bool) (bA:Option Addr) (bD:Nat) (aA:List (S60)) (bG:Option Addr) (bH:Nat) (aG:List (S86)) (r:Bool) (w:World) (hr0_0:Kd.C Kd.bool w aW aC.length aC) (hc0_0:aC.length≤aX) (hr0_1:Kd.C k60 w bA aA.length aA) (hc0_1:aA.length≤bD) (hr0_2:Kd.C k86 w bG aG.length aG) (hc0_2:aG.length≤bH) (h:Y9.f k aC aA aG=some r) :
  Calls Try.prog 23 #[.agg #[.slice aW aC.length aX,.slice bA aA.length bD,.slice bG aG.length bH]] w fun e w'=>e=.returned (.bool r)∧Below w.heap.size w w':=by
 have dA:=Try.underlying35;have dB:=Try.underlying60;have cO:=aM hr0_0;have cP:=aM hc0_0;clear hr0_0 hc0_0;have bT:=aM hr0_1;have cQ:=aM hc0_1;clear hr0_1 hc0_1;have bY:=aM hr0_2;have bZ:=aM hc0_2;clear hr0_2 hc0_2;have HB:=aM (Below.refl w.heap.size w);have H:((Y2.f (aC.length:Int) 1 4).bind fun bN=>(if bN=true then (if (aA.length:Int)=(aC.length:Int) then ((Y7.f k aG).bind fun bL=>(Y9.j0 k (!bL) aC aA aG)) else (Y9.j0 k true aC aA aG)) else (Y9.j0 k true aC aA aG)))=some r:=h
 clear h;have bW:=aM H;clear H;go_enter Try.func23,Try.ntmps23
 go_upto_region 1 with (first|((with_reducible refine gD (N:=1) rfl ?_);(try (refine gate_guard (by rfl) ?_;dsimp only));refine bE (N:=1) (cs:=#[.slice aW aC.length aX,.slice bA aA.length bD,.slice bG aG.length bH]) (t:=35) ?_;intro bU hg w3 hbox hb;have aD:=aM (hbox);have cR:=gF hg HB;have cS:=gF hg HB;replace HB:=rS HB hb;clear hb hbox hg))
 (try simp only [Act.put,sA,sZ,sS])
 go_cut [23] (fun cN wc=>∃ (kq:Nat) (aV:Bool),cN=.bool aV∧Aside0 (Y9.j0 kq aV aC aA aG=some r)∧Aside0 (kq≤k)∧Aside0 (wc.heap[bU]?=some (.cells #[(.slice aW aC.length aX),(.slice bA aA.length bD),(.slice bG aG.length bH)] 35 (0,0)))∧Aside0 (Below w.heap.size w wc))
 case first =>
  have H:=bW.out;clear bW;obtain ⟨bN,cD,H⟩:=hB H;have A4:=aM cD;clear cD
  by_cases c5:bN=true
  case neg =>
   replace c5:=Bool.eq_false_iff.mpr c5;subst c5;replace H:=hF H;have H':=aM H;clear H;have cT:=cA3 aD.out;go_wp2_with (first|((with_reducible refine gC (f:=24) rfl ?_);refine gL (some 7) Try.func24 #[.int .i64 (aC.length:Int),.int .i64 1,.int .i64 4] ?_;(with_reducible refine (Y2.calls (aC.length:Int) 1 4 false _ A4.out).mono ?_);rintro e w' ⟨rfl,⟨nd,rfl⟩⟩;refine ⟨_,rfl,?_⟩))
   go_meet
   case rel=>exact ⟨_,(true),xE,H',⟨by first|omega|exact Nat.le_refl _⟩,⟨bk aD.out⟩,⟨bl HB.out⟩⟩
  subst c5;replace H:=hP H rfl
  by_cases c6:(aA.length:Int)=(aC.length:Int)
  case neg =>
   rw [if_neg c6] at H
   have aJ:((aA.length:Int) == (aC.length:Int))=false:=beq_eq_false_iff_ne.mpr c6;have bO:((aA.length:Int) != (aC.length:Int))=true:=bne_iff_ne.mpr c6;have bP:(aA.length == aC.length)=false:=by first|simpa using c6|(simp at c6 ⊢;omega)
   (first|rw [aJ]|(simp only [i64_w,i32_w];rw [aJ])|skip)
   have H':=aM H;clear H;have cU:=cA3 aD.out;go_wp2_with (first|((with_reducible refine gC (f:=24) rfl ?_);refine gL (some 7) Try.func24 #[.int .i64 (aC.length:Int),.int .i64 1,.int .i64 4] ?_;(with_reducible refine (Y2.calls (aC.length:Int) 1 4 true _ A4.out).mono ?_);rintro e w' ⟨rfl,⟨nd,rfl⟩⟩;refine ⟨_,rfl,?_⟩))
   go_meet
   case rel=>exact ⟨_,(true),xE,H',⟨by first|omega|exact Nat.le_refl _⟩,⟨bk aD.out⟩,⟨bl HB.out⟩⟩
  rw [if_pos c6] at H
  have aJ:((aA.length:Int) == (aC.length:Int))=true:=beq_iff_eq.mpr c6;have bO:((aA.length:Int) != (aC.length:Int))=false:=bne_eq_false_iff_eq.mpr c6;have bP:(aA.length == aC.length)=true:=by first|simpa using c6|(simp at c6 ⊢;omega)
  clear c6
  (first|rw [aJ]|(simp only [i64_w,i32_w];rw [aJ])|skip)
  obtain ⟨bL,cE,H⟩:=hB H;have A7:=aM cE;clear cE;have H':=aM H;clear H;have dC:=cA3 aD.out;go_wp2_with (first|((with_reducible refine gC (f:=24) rfl ?_);refine gL (some 7) Try.func24 #[.int .i64 (aC.length:Int),.int .i64 1,.int .i64 4] ?_;(with_reducible refine (Y2.calls (aC.length:Int) 1 4 true _ A4.out).mono ?_);rintro e w' ⟨rfl,⟨nd,rfl⟩⟩;refine ⟨_,rfl,?_⟩)|(go_at_call 54;(with_reducible refine (Y7.calls k _ _ aG bL _ ?side1 ?side2 A7.out).mono ?_);(case side1=>exact cM (cB bY.out (bl HB.out)));(case side2=>exact bZ.out);rintro e w9 ⟨rfl,hb⟩;replace aD:=rB aD hb;replace HB:=rS HB hb;(try clear hb)))
  go_meet
  case rel=>exact ⟨_,(!bL),xE,H',⟨by first|omega|exact Nat.le_refl _⟩,⟨bk aD.out⟩,⟨bl HB.out⟩⟩
 case rest =>
  clear bW
  repeat first|clear c2|clear p2|clear c5|clear c6|clear aJ|clear bO|clear bP
  obtain ⟨kq,aV,rfl,HA,HJ1,aD,HB⟩:=hcut;cases kq with
  | zero=>exact absurd HA.out (by simp [Y9.j0])
  | succ cG =>
   have H:=HA.out;clear HA;simp only [Y9.j0] at H
   by_cases bM:aV=true
   case pos =>
    subst bM;replace H:=hP H rfl;obtain rfl:=Option.some.inj H;go_wp2
    go_ret
    exact ⟨xW,bl HB.out⟩
   replace bM:=Bool.eq_false_iff.mpr bM;subst bM;replace H:=hF H;have H':=aM H;clear H;go_wp2
   go_loopg [3] cG (fun kq v3 w'=>∃ (aE:Int),v3=.int .i64 aE∧Aside0 (Y9.l0 kq aE aC aA aG=some r)∧Aside0 (kq≤cG)∧Aside0 (w'.heap[bU]?=some (.cells #[(.slice aW aC.length aX),(.slice bA aA.length bD),(.slice bG aG.length bH)] 35 (0,0)))∧Aside0 (Below w.heap.size w w'))
   case atStart=>exact ⟨(0),xE,H',⟨Nat.le_refl _⟩,⟨bk aD.out⟩,⟨bl HB.out⟩⟩
   case round =>
    clear H'
    repeat first|clear c1|clear c2|clear p2|clear c5|clear c6|clear aJ|clear bO|clear bP|clear bM|clear p2
    obtain ⟨aE,rfl,HA,cH,aD,HB⟩:=hrel;cases gk with
    | zero=>exact absurd HA.out (by simp [Y9.l0])
    | succ k2 =>
     have H:=HA.out;clear HA;simp only [Y9.l0] at H
     by_cases bK:aE<(aA.length:Int)
     case neg =>
      rw [if_neg bK] at H
      have cA:=decide_eq_false bK;clear bK;obtain rfl:=Option.some.inj H;have cV:=cA3 aD.out;go_wp2
      go_ret
      exact ⟨xW,bl HB.out⟩
     rw [if_pos bK] at H
     have cA:=decide_eq_true bK;clear bK;obtain ⟨cW,H⟩:=gI H;obtain ⟨cL,bX,H⟩:=hB H;have cK:=aM bX;clear bX
     by_cases bV:cL=true
     case neg =>
      replace bV:=Bool.eq_false_iff.mpr bV;subst bV;replace H:=hF H;obtain rfl:=Option.some.inj H;have cX:=cA3 aD.out;have aK:0≤(aE:Int):=dT;have aN:aE<(aA.length:Int):=dT;obtain ⟨cC,bI,bJ,bQ,aH,aI,hl158_1,hi158_1⟩:=at_T60 bT.out aE aK aN;cases bQ
      replace aH:=xB HB aH;replace aI:=xB HB aI;have aQ:=aM hi158_1;have aT:=aM hl158_1;clear hi158_1 hl158_1;replace aK:=eq_true aK;replace aN:=eq_true aN;go_wp2_with (first|((with_reducible refine gC (f:=55) rfl ?_);refine gL (some 36) Try.func55 #[.agg #[((rd_T60 aA aE).f0),.slice bI ((rd_T60 aA aE).f1).length bJ]] ?_;(with_reducible refine (Y11.calls k2 ((rd_T60 aA aE).f0) _ _ ((rd_T60 aA aE).f1) false _ ?side1 ?side2 cK.out).mono ?_);(case side1=>exact cM (cB aQ.out HB.out));(case side2=>exact aT.out);rintro e dD ⟨rfl,hb⟩;refine ⟨_,rfl,?_⟩;replace aD:=rB aD hb;replace HB:=rS HB hb;(try clear hb)))
      go_ret
      exact ⟨xW,bl HB.out⟩
     subst bV;replace H:=hP H rfl;have H':=aM H;clear H;have cY:=cA3 aD.out;have aK:0≤(aE:Int):=dT;have aN:aE<(aA.length:Int):=dT;obtain ⟨cC,bI,bJ,bQ,aH,aI,hl158_1,hi158_1⟩:=at_T60 bT.out aE aK aN;cases bQ
     replace aH:=xB HB aH;replace aI:=xB HB aI;have aQ:=aM hi158_1;have aT:=aM hl158_1;clear hi158_1 hl158_1;replace aK:=eq_true aK;replace aN:=eq_true aN;go_wp2_with (first|((with_reducible refine gC (f:=55) rfl ?_);refine gL (some 36) Try.func55 #[.agg #[((rd_T60 aA aE).f0),.slice bI ((rd_T60 aA aE).f1).length bJ]] ?_;(with_reducible refine (Y11.calls k2 ((rd_T60 aA aE).f0) _ _ ((rd_T60 aA aE).f1) true _ ?side1 ?side2 cK.out).mono ?_);(case side1=>exact cM (cB aQ.out HB.out));(case side2=>exact aT.out);rintro e dE ⟨rfl,hb⟩;refine ⟨_,rfl,?_⟩;replace aD:=rB aD hb;replace HB:=rS HB hb;(try clear hb)))
     go_roundg k2
     case measure=>have:=HJ1.out;have:=cH.out;omega
     case rel=>exact ⟨(wS aE),xE,H',⟨by have:=HJ1.out;have:=cH.out;omega⟩,⟨bk aD.out⟩,⟨bl HB.out⟩⟩

def Y68.f (aD aE aG:Int) (aA:List Int):Option (Int × Int × Int × List Int):=(some (([]:List Int):List Int)).bind fun aC=>(if aC.length+aA.length<140737488355328 then (some (aD,aE,aG,(aC++aA))) else (none))
set_option maxHeartbeats 60000000 in
set_option maxRecDepth 100000 in
theorem Y68.calls (aG aH aI:Int) (aW:Option Addr) (aX:Nat) (aC:List Int) (r1 r2 r3:Int) (r4:List Int) (w:World) (hr0_3:Kd.C (Kd.int .u8) w aW aC.length aC) (hc0_3:aC.length≤aX) (h:Y68.f aG aH aI aC=some (r1,r2,r3,r4)) :
  Calls Try.prog 56 #[.agg #[aG,aH,aI,.slice aW aC.length aX]] w fun e w'=>∃ bM:Value,e=.returned (.agg #[r1,r2,r3,bM])∧Kd.R (Kd.int .u8) 5 w' w.heap.size (fun _=>True) bM r4∧Below w.heap.size w w':=by
 have bY:=Try.underlying40;have bJ:=aM hr0_3;have bP:=aM hc0_3;clear hr0_3 hc0_3;have HB:=aM (Below.refl w.heap.size w);have H:((some (([]:List Int):List Int)).bind fun aN=>(if aN.length+aC.length<140737488355328 then (some (aG,aH,aI,(aN++aC))) else (none)))=some (r1,r2,r3,r4):=h
 clear h;obtain ⟨aN,bG,H⟩:=hS H;have bH:=aM bG;clear bG
 by_cases c2:aN.length+aC.length<140737488355328
 case neg =>
  rw [if_neg c2] at H
  exact absurd H (by simp)
 rw [if_pos c2] at H
 have LMc2:=aM c2;clear c2;obtain ⟨aQ,aJ⟩:∃ y_:List Int,y_=(aN++aC):=⟨_,rfl⟩;replace H:(some (aG,aH,aI,aQ))=some (r1,r2,r3,r4):=by first|(rw [aJ];with_reducible exact H)|(have H2_:=(Option.bind_some _ _).symm.trans H;rw [aJ];with_reducible exact H2_)|(have H2_:=(Option.bind_some _ _).symm.trans H;with_reducible exact H2_)|with_reducible exact H|(rw [aJ];exact H)|exact H
 have bK:=aM aJ;clear aJ;simp only [Option.some.injEq,Prod.mk.injEq] at H;obtain ⟨rfl,rfl,rfl,rfl⟩:=H;go_enter Try.func56,Try.ntmps56
 go_wp2_with (first|((with_reducible refine gD (N:=1) rfl ?_);refine bE (N:=1) (cs:=#[aG,aH,aI,.slice aW aC.length aX]) (t:=40) ?_;intro bL hg w3 hbox hb;have aA:=aM (hbox);have bQ:=gF hg HB;have bT:=gF hg HB;replace HB:=rS HB hb;clear hb hbox hg)|((with_reducible refine gD (N:=2) rfl ?_);refine bE (N:=2) (cs:=#[.int .i64 0,.int .i64 0,.int .i64 0,.slice none 0 0]) (t:=40) ?_;intro aK hg w4 hbox hb;have aD:=aM (hbox);have bU:=gF hg HB;have bV:=gF hg HB;have aT:=nM hg aA;have aV:=nH hg aA;replace aA:=rB aA hb;replace HB:=rS HB hb;clear hb hbox hg)|((with_reducible refine gD (N:=3) rfl ?_);refine Kd.R_lit (Kd.int .u8) _ 5 ?hg (N:=3) ?hd (xs:=([]:List Int)) (inner:=[]) (ok:=fun _=>True) (okp:=fun _=>True) ?hr ?hp (fun _ hk=>hk) trivial (Below.refl _ _) (Nat.le_refl _) (by simp) ?_;(case hd=>rfl);(case hg=>rfl);(case hr=>first|(go_simp;done)|(go_simp;rfl)|(obtain ⟨A_,c_,e_⟩:=Kd.R_slice aE.out;subst e_;(first|(go_simp;done)|(go_simp;rfl)))|(obtain ⟨A_,c_,e_⟩:=Kd.S_slice aE.out;subst e_;(first|(go_simp;done)|(go_simp;rfl))));(case hp=>exact (Reps.none _ _));intro bN w5 ho6 hb hg_ hnew_;clear hg_ hnew_;(first|rw [← bH.out] at ho6|(simp only [Int.reduceToNat] at ho6;rw [← bH.out] at ho6));have aE:=aM (Kd.R_lower ho6 (below_size (bl HB.out)));replace aA:=rB aA hb;replace aD:=rB aD hb;replace HB:=rS HB hb;clear hb ho6;have bZ:=aT.out;have cA:=aV.out;have cC:=cA4 aA.out)|((with_reducible refine gate_builtin (b:=.append) (xs:=#[.tmp 3,.tmp 5]) rfl ?_);at_builtin;refine Kd.R_append_rows (Kd.int .u8) (w0:=w) w.heap.size rfl (.tmp 3) (.tmp 5) 27 5 (.int .u8 0) 1 rfl Try.underlying27 info5 rfl (by decide) (by omega) bN aN aC _ _ _ (fun _=>True) (fun _=>False) rfl rfl ?aO ?aR (fun _ _ h=>h) (fun _ h=>h.elim) ?aF ?aB ?aS ?aL ?_;(case aR=>repeat (first|exact (cB bJ.out HB.out)|(with_reducible refine Kd.C_alloc ?_ _)|(with_reducible refine Kd.C_drewN ?_ _)|(with_reducible refine Kd.C_drew ?_)));(case aB=>exact (bl HB.out));(case aF=>exact (fun _ _=>trivial));(case aO=>exact (kr aE.out));(case aS=>exact (below_size (bl HB.out)));(case aL=>have:=LMc2.out;omega);intro cD w9 ho hb hg hat;rw [← bK.out] at ho;have bI:=aM (ho);replace aA:=aM (blk_grown (bk aA.out) hg (Kd.R_ne aE.out aA.out (by decide)));replace aD:=aM (blk_grown (bk aD.out) hg (Kd.R_ne aE.out aD.out (by decide)));replace HB:=aM (hb);clear aE;clear ho hb hg hat;obtain ⟨bA,bD,bO⟩:=Kd.R_slice bI.out;subst bO;have bW:=cA4 aA.out;have bX:=cA4 aD.out))
 refine bodyPost_ret (results_cell_row rfl _ _ aK 40 #[aG,aH,aI,.slice bA aQ.length bD] (0,0) _ rfl (bm aD.out) Try.underlying40 rfl (by kernel_rfl)) rfl ?_
 exact ⟨_,xW,by (with_reducible repeat (first|apply Kd.R_alloc|apply Kd.R_drewN|apply Kd.R_drew));exact Kd.R_mono (kF (p:=⟨aK,3,none⟩) (kF (p:=⟨aK,2,none⟩) (kF (p:=⟨aK,1,none⟩) (kF (p:=⟨aK,0,none⟩) (kF (p:=⟨bL,3,none⟩) (Kd.R_types (Kd.R_types bI.out aA.out (by decide)) aD.out (by decide)) (fun _ hk=>hk.1.2) (.slice bA aQ.length bD)) (fun _ hk=>hk.2) (.int .i64 aG)) (fun _ hk=>hk.2) (.int .i64 aH)) (fun _ hk=>hk.2) (.int .i64 aI)) (fun _ hk=>hk.2) (.slice bA aQ.length bD)) (fun _ hk=>trivial),bl HB.out⟩

def Y57.f (aA aC aD:Int) (aE:List Int):Option (Bool):=(Y2.f aA 0 9).bind fun aG=>(if aG=true then ((Y2.f aC 1 9).bind fun aH=>(if aH=true then ((Y2.f aD 0 4).bind fun aI=>(if aI=true then (some (decide ((aE.length:Int)≤30))) else (some false))) else (some false))) else (some false))
set_option maxHeartbeats 60000000 in
set_option maxRecDepth 100000 in
theorem Y57.calls (aA aC aE:Int) (aH:Option Addr) (aI:Nat) (aD:List Int) (r:Bool) (w:World) (hr0_3:Kd.C (Kd.int .u8) w aH aD.length aD) (hc0_3:aD.length≤aI) (h:Y57.f aA aC aE aD=some r) :
  Calls Try.prog 57 #[.agg #[aA,aC,aE,.slice aH aD.length aI]] w fun e w'=>e=.returned (.bool r)∧Below w.heap.size w w':=by
 have bK:=Try.underlying40;have bD:=aM hr0_3;have bG:=aM hc0_3;clear hr0_3 hc0_3;have HB:=aM (Below.refl w.heap.size w);have H:((Y2.f aA 0 9).bind fun aQ=>(if aQ=true then ((Y2.f aC 1 9).bind fun aT=>(if aT=true then ((Y2.f aE 0 4).bind fun aV=>(if aV=true then (some (decide ((aD.length:Int)≤30))) else (some false))) else (some false))) else (some false)))=some r:=h
 clear h;obtain ⟨aQ,aW,H⟩:=hB H;have A2:=aM aW;clear aW
 by_cases c3:aQ=true
 case neg =>
  replace c3:=Bool.eq_false_iff.mpr c3;subst c3;replace H:=hF H;obtain rfl:=Option.some.inj H;go_enter Try.func57,Try.ntmps57
  go_wp2_with (first|((with_reducible refine gD (N:=1) rfl ?_);(try (refine gate_guard (by rfl) ?_;dsimp only));refine bE (N:=1) (cs:=#[aA,aC,aE,.slice aH aD.length aI]) (t:=40) ?_;intro aJ hg bM hbox hb;have aG:=aM (hbox);have aK:=gF hg HB;have aN:=gF hg HB;replace HB:=rS HB hb;clear hb hbox hg;have bH:=cA4 aG.out)|((with_reducible refine gC (f:=24) rfl ?_);refine gL (some 5) Try.func24 #[aA,.int .i64 0,.int .i64 9] ?_;(with_reducible refine (Y2.calls aA 0 9 false _ A2.out).mono ?_);rintro e w' ⟨rfl,⟨nd,rfl⟩⟩;refine ⟨_,rfl,?_⟩))
  go_ret
  exact ⟨xW,bl HB.out⟩
 subst c3;replace H:=hP H rfl;obtain ⟨aT,aX,H⟩:=hB H;have A4:=aM aX;clear aX
 by_cases c5:aT=true
 case neg =>
  replace c5:=Bool.eq_false_iff.mpr c5;subst c5;replace H:=hF H;obtain rfl:=Option.some.inj H;go_enter Try.func57,Try.ntmps57
  go_wp2_with (first|((with_reducible refine gD (N:=1) rfl ?_);(try (refine gate_guard (by rfl) ?_;dsimp only));refine bE (N:=1) (cs:=#[aA,aC,aE,.slice aH aD.length aI]) (t:=40) ?_;intro aJ hg bN hbox hb;have aG:=aM (hbox);have aK:=gF hg HB;have aN:=gF hg HB;replace HB:=rS HB hb;clear hb hbox hg;have bI:=cA4 aG.out)|((with_reducible refine gC (f:=24) rfl ?_);refine gL (some 5) Try.func24 #[aA,.int .i64 0,.int .i64 9] ?_;(with_reducible refine (Y2.calls aA 0 9 true _ A2.out).mono ?_);rintro e w' ⟨rfl,⟨nd,rfl⟩⟩;refine ⟨_,rfl,?_⟩)|(go_at_call 24;(with_reducible refine (Y2.calls aC 1 9 false _ A4.out).mono ?_);rintro e w' ⟨rfl,⟨nd,rfl⟩⟩))
  go_ret
  exact ⟨xW,bl HB.out⟩
 subst c5;replace H:=hP H rfl;obtain ⟨aV,bA,H⟩:=hB H;have A6:=aM bA;clear bA
 by_cases c7:aV=true
 case pos =>
  subst c7;replace H:=hP H rfl;obtain rfl:=Option.some.inj H;go_enter Try.func57,Try.ntmps57
  go_wp2_with (first|((with_reducible refine gD (N:=1) rfl ?_);(try (refine gate_guard (by rfl) ?_;dsimp only));refine bE (N:=1) (cs:=#[aA,aC,aE,.slice aH aD.length aI]) (t:=40) ?_;intro aJ hg w8 hbox hb;have aG:=aM (hbox);have aK:=gF hg HB;have aN:=gF hg HB;replace HB:=rS HB hb;clear hb hbox hg;have bL:=cA4 aG.out)|((with_reducible refine gC (f:=24) rfl ?_);refine gL (some 5) Try.func24 #[aA,.int .i64 0,.int .i64 9] ?_;(with_reducible refine (Y2.calls aA 0 9 true _ A2.out).mono ?_);rintro e w' ⟨rfl,⟨nd,rfl⟩⟩;refine ⟨_,rfl,?_⟩)|(go_at_call 24;(with_reducible refine (Y2.calls aC 1 9 true _ A4.out).mono ?_);rintro e w' ⟨rfl,⟨nd,rfl⟩⟩)|(go_at_call 24;(with_reducible refine (Y2.calls aE 0 4 true _ A6.out).mono ?_);rintro e w' ⟨rfl,⟨nd,rfl⟩⟩))
  go_ret
  exact ⟨xW,bl HB.out⟩
 replace c7:=Bool.eq_false_iff.mpr c7;subst c7;replace H:=hF H;obtain rfl:=Option.some.inj H;go_enter Try.func57,Try.ntmps57
 go_wp2_with (first|((with_reducible refine gD (N:=1) rfl ?_);(try (refine gate_guard (by rfl) ?_;dsimp only));refine bE (N:=1) (cs:=#[aA,aC,aE,.slice aH aD.length aI]) (t:=40) ?_;intro aJ hg bO hbox hb;have aG:=aM (hbox);have aK:=gF hg HB;have aN:=gF hg HB;replace HB:=rS HB hb;clear hb hbox hg;have bJ:=cA4 aG.out)|((with_reducible refine gC (f:=24) rfl ?_);refine gL (some 5) Try.func24 #[aA,.int .i64 0,.int .i64 9] ?_;(with_reducible refine (Y2.calls aA 0 9 true _ A2.out).mono ?_);rintro e w' ⟨rfl,⟨nd,rfl⟩⟩;refine ⟨_,rfl,?_⟩)|(go_at_call 24;(with_reducible refine (Y2.calls aC 1 9 true _ A4.out).mono ?_);rintro e w' ⟨rfl,⟨nd,rfl⟩⟩)|(go_at_call 24;(with_reducible refine (Y2.calls aE 0 4 false _ A6.out).mono ?_);rintro e w' ⟨rfl,⟨nd,rfl⟩⟩))
 go_ret
 exact ⟨xW,bl HB.out⟩

end Go.Proofs.Ytfljolhhgheheaa.PFnExactPass

/- A part of the proof of laws.FnCards. No condition beyond what its theorems say. -/
import Derived.Test.YtjodolkdelffaaaVFnCardsPx3
namespace Go.Proofs.Ytjodolkdelffaaa.PFnCards
open Go.RowKit Go.Proofs.YtjodolkdelffaaaW.PrintWords Go.Proofs.YtjodolkdelffaaaW.PrintLast Go.Proofs.YtjodolkdelffaaaW.PrintMore
set_option linter.unusedVariables false
set_option linter.unusedSimpArgs false

def Z22.l0:Nat→List Int→Int→Int→Option (Bool)
 | 0,_,_,_=>none
 | k+1,x0,x1,x5=>if x5<(x0.length:Int) then (if 0≤x5 then (if (rd x0 x5)=x1 then (some true) else (Z22.l0 k x0 x1 (wrap64 (x5+1)))) else (none)) else (some false)
def Z22.f (k:Nat) (l0:List Int) (a1:Int):Option (Bool):=Z22.l0 k l0 a1 0
theorem Z22.mono_l:∀ k,(∀ y0 y1 y2,LeO (Z22.l0 k y0 y1 y2) (Z22.l0 (k+1) y0 y1 y2))
 | 0=>fun _ _ _ r h=>by simp [Z22.l0] at h
 | k+1=>by
  have ih0:=Z22.mono_l k
  ·intro y0 y1 y2
   unfold Z22.l0
   repeat' (with_reducible first|apply ih0|exact lR _|refine lI ?_ ?_)
theorem Z22.mono:∀ a0 a1 k,LeO (Z22.f k a0 a1) (Z22.f (k+1) a0 a1):=by
 intro a0 a1 k;have ih0:=Z22.mono_l k;unfold Z22.f
 repeat' (with_reducible apply ih0)
set_option maxHeartbeats 60000000 in
set_option maxRecDepth 100000 in
theorem Z22.calls (k:Nat) (A0:Option Addr) (c0:Nat) (l0:List Int) (a1:Int) (r:Bool) (w:World) (hr0:Kd.C (Kd.int .i64) w A0 l0.length l0) (hc0:l0.length≤c0) (h:Z22.f k l0 a1=some r) :
  Calls Try.prog 63 #[.slice A0 l0.length c0,a1] w fun e w'=>e=.returned (.bool r)∧Drawn0 w w':=by
 have aI:=aM hr0;clear hr0 hc0;have H:(Z22.l0 k l0 a1 0)=some r:=h;clear h;have H':=aM H;clear H;go_enter Try.func63,Try.ntmps63
 go_wp2
 go_loopg [5] k (fun kq v5 w'=>∃ (aA:Int),v5=.int .i64 aA∧Aside0 (Z22.l0 kq l0 a1 aA=some r)∧Aside0 (kq≤k)∧Drawn0 w w')
 case atStart=>exact ⟨(0),xE,H',⟨Nat.le_refl _⟩,by repeat (exact Drawn0.refl _)⟩
 case round =>
  clear H'
  obtain ⟨aA,rfl,HA,aJ,⟨m1,rfl⟩⟩:=hrel;cases gk with
  | zero=>exact absurd HA.out (by simp [Z22.l0])
  | succ k1 =>
   have H:=HA.out;clear HA;simp only [Z22.l0] at H
   by_cases c3:aA<(l0.length:Int)
   case neg =>
    rw [if_neg c3] at H
    have aK:=decide_eq_false c3;clear c3;obtain rfl:=Option.some.inj H;go_wp2
    go_ret
    exact ⟨by rfl,by repeat (first|exact Drawn0.refl _|apply Drawn0.step)⟩
   rw [if_pos c3] at H
   have aK:=decide_eq_true c3;clear c3;obtain ⟨aT,H⟩:=gI H
   by_cases c5:(rd l0 aA)=a1
   case pos =>
    rw [if_pos c5] at H
    have aN:((rd l0 aA) == a1)=true:=beq_iff_eq.mpr c5;clear c5;obtain rfl:=Option.some.inj H;have aC:0≤(aA:Int):=dT;have aD:aA<(l0.length:Int):=dT;obtain ⟨aH,aE,aG⟩:=Kd.at_int aI.out aA aC aD;cases aE
    replace aC:=eq_true aC;replace aD:=eq_true aD;go_wp2
    go_ret
    exact ⟨by rfl,by repeat (first|exact Drawn0.refl _|apply Drawn0.step)⟩
   rw [if_neg c5] at H
   have aN:((rd l0 aA) == a1)=false:=beq_eq_false_iff_ne.mpr c5;have H':=aM H;clear H;have aC:0≤(aA:Int):=dT;have aD:aA<(l0.length:Int):=dT;obtain ⟨aH,aE,aG⟩:=Kd.at_int aI.out aA aC aD;cases aE
   replace aC:=eq_true aC;replace aD:=eq_true aD;go_wp2
   go_roundg k1
   case measure=>have:=aJ.out;omega
   case rel=>exact ⟨(wS aA),xE,H',⟨by have:=aJ.out;omega⟩,by repeat (first|exact Drawn0.refl _|apply Drawn0.step)⟩

def Z16.l0:Nat→Int→Int→List Int→Option (Bool)
 | 0,_,_,_=>none
 | k+1,x3,aC,aA=>if x3<(aA.length:Int) then (if 0≤x3 then ((Z5.f (rd aA x3) 1 4).bind fun aD=>(if aD=true then (if x3 > 0 then (if 0≤(wrap64 (x3 - 1)) then (if (wrap64 (x3 - 1))<(aA.length:Int) then (if (rd aA (wrap64 (x3 - 1))) ≥ (rd aA x3) then (some false) else (Z16.l0 k (wrap64 (x3+1)) aC aA)) else (none)) else (none)) else (Z16.l0 k (wrap64 (x3+1)) aC aA)) else (some false))) else (none)) else ((Z5.f aC 1 4).bind fun aE=>(if aE=true then ((Z22.f k aA aC).bind fun aG=>(some aG)) else (some false)))
def Z16.f (k:Nat) (aA:Int) (aC:List Int):Option (Bool):=Z16.l0 k 0 aA aC
theorem Z16.mono_l:∀ k,(∀ y0 y1 y2,LeO (Z16.l0 k y0 y1 y2) (Z16.l0 (k+1) y0 y1 y2))
 | 0=>fun _ _ _ r h=>by simp [Z16.l0] at h
 | k+1=>by
  have ih0:=Z16.mono_l k
  ·intro y0 y1 y2
   unfold Z16.l0
   repeat' (with_reducible first|apply ih0|apply Z22.mono|exact lR _|refine lI ?_ ?_|refine lB ?_ fun _=>?_)
theorem Z16.mono:∀ a0 a1 k,LeO (Z16.f k a0 a1) (Z16.f (k+1) a0 a1):=by
 intro a0 a1 k;have ih0:=Z16.mono_l k;unfold Z16.f
 repeat' (with_reducible apply ih0)
set_option maxHeartbeats 60000000 in
set_option maxRecDepth 100000 in
theorem Z16.calls (k:Nat) (aT:Int) (bJ:Option Addr) (bK:Nat) (aC:List Int) (r:Bool) (w:World) (hr0_1:Kd.C (Kd.int .i64) w bJ aC.length aC) (hc0_1:aC.length≤bK) (h:Z16.f k aT aC=some r) :
  Calls Try.prog 47 #[.agg #[aT,.slice bJ aC.length bK]] w fun e w'=>e=.returned (.bool r)∧Below w.heap.size w w':=by
 have aG:=aM hr0_1;have bN:=aM hc0_1;clear hr0_1 hc0_1;have HB:=aM (Below.refl w.heap.size w);have H:(Z16.l0 k 0 aT aC)=some r:=h;clear h;have H':=aM H;clear H;go_enter Try.func47,Try.ntmps47
 go_wp2_with (((with_reducible refine gD (N:=1) rfl ?_);refine bE (N:=1) (cs:=#[aT,.slice bJ aC.length bK]) (t:=42) ?_;intro bO hg w2 hbox hb;have aV:=aM (hbox);replace HB:=rS HB hb;clear hb hbox hg))
 repeat (go_quiet (first|((with_reducible refine gD (N:=1) rfl ?_);refine bE (N:=1) (cs:=#[aT,.slice bJ aC.length bK]) (t:=42) ?_;intro bO hg w2 hbox hb;have aV:=aM (hbox);replace HB:=rS HB hb;clear hb hbox hg)))
 go_loopg [3] k (fun kq v3 w'=>∃ (aA:Int),v3=.int .i64 aA∧Aside0 (Z16.l0 kq aA aT aC=some r)∧Aside0 (kq≤k)∧Aside0 (w'.heap[bO]?=some (.cells #[aT,(.slice bJ aC.length bK)] 42 (0,0)))∧Aside0 (Below w.heap.size w w'))
 case atStart=>exact ⟨(0),xE,H',⟨Nat.le_refl _⟩,⟨bk aV.out⟩,⟨bl HB.out⟩⟩
 case round =>
  clear H'
  obtain ⟨aA,rfl,HA,bU,aV,HB⟩:=hrel;cases gk with
  | zero=>exact absurd HA.out (by simp [Z16.l0])
  | succ k1 =>
   have H:=HA.out;clear HA;simp only [Z16.l0] at H
   by_cases c3:aA<(aC.length:Int)
   case neg =>
    rw [if_neg c3] at H
    have cC:=decide_eq_false c3;clear c3;obtain ⟨cD,bW,H⟩:=hB H;have bL:=aM bW;clear bW
    by_cases bV:cD=true
    case neg =>
     replace bV:=Bool.eq_false_iff.mpr bV;subst bV;replace H:=hF H;obtain rfl:=Option.some.inj H;have cH:=cA2 aV.out;go_wp2_with ((go_at_call 31;(with_reducible refine (Z5.calls aT 1 4 false _ bL.out).mono ?_);rintro e w' ⟨rfl,⟨nd,rfl⟩⟩))
     repeat (go_quiet (first|(go_at_call 31;(with_reducible refine (Z5.calls aT 1 4 false _ bL.out).mono ?_);rintro e w' ⟨rfl,⟨nd,rfl⟩⟩;(try first|exact ⟨rfl,_,World.drewN_drewN _ _ _⟩|exact ⟨rfl,_,Eq.trans (World.drewN_drewN _ _ _) (congrArg (World.drewN _) (Nat.add_assoc _ _ _))⟩))))
     go_ret
     exact ⟨xW,bl HB.out⟩
    subst bV;replace H:=hP H rfl;obtain ⟨bP,bX,H⟩:=hB H;have bY:=aM bX;clear bX;obtain rfl:=Option.some.inj H;have cK:=cA2 aV.out;go_wp2_with (first|(go_at_call 31;(with_reducible refine (Z5.calls aT 1 4 true _ bL.out).mono ?_);rintro e w' ⟨rfl,⟨nd,rfl⟩⟩)|(go_at_call 63;(with_reducible refine (Z22.calls k1 _ _ aC aT bP _ ?side1 ?side2 bY.out).mono ?_);(case side1=>exact cM (cB aG.out (bl HB.out)));(case side2=>exact bN.out);rintro e w' ⟨rfl,⟨nd,rfl⟩⟩))
    repeat (go_quiet (first|(go_at_call 31;(with_reducible refine (Z5.calls aT 1 4 true _ bL.out).mono ?_);rintro e w' ⟨rfl,⟨nd,rfl⟩⟩;(try first|exact ⟨rfl,_,World.drewN_drewN _ _ _⟩|exact ⟨rfl,_,Eq.trans (World.drewN_drewN _ _ _) (congrArg (World.drewN _) (Nat.add_assoc _ _ _))⟩))|(go_at_call 63;(with_reducible refine (Z22.calls k1 _ _ aC aT bP _ ?side1 ?side2 bY.out).mono ?_);(case side1=>exact cM (cB aG.out (bl HB.out)));(case side2=>exact bN.out);rintro e w' ⟨rfl,⟨nd,rfl⟩⟩;(try first|exact ⟨rfl,_,World.drewN_drewN _ _ _⟩|exact ⟨rfl,_,Eq.trans (World.drewN_drewN _ _ _) (congrArg (World.drewN _) (Nat.add_assoc _ _ _))⟩))))
    go_ret
    exact ⟨xW,bl HB.out⟩
   rw [if_pos c3] at H
   have cC:=decide_eq_true c3;clear c3;obtain ⟨cS,H⟩:=gI H;obtain ⟨cE,cA,H⟩:=hB H;have A5:=aM cA;clear cA
   by_cases c6:cE=true
   case neg =>
    replace c6:=Bool.eq_false_iff.mpr c6;subst c6;replace H:=hF H;obtain rfl:=Option.some.inj H;have cL:=cA2 aV.out;have aW:0≤(aA:Int):=dT;have aX:aA<(aC.length:Int):=dT;obtain ⟨aQ,bI,aN⟩:=Kd.at_int aG.out aA aW aX;cases bI
    replace aN:=xB HB aN;replace aW:=eq_true aW;replace aX:=eq_true aX;go_wp2_with (first|(go_at_call 31;(with_reducible refine (Z5.calls (rd aC aA) 1 4 false _ A5.out).mono ?_);rintro e w' ⟨rfl,⟨nd,rfl⟩⟩;(try first|exact ⟨rfl,_,World.drewN_drewN _ _ _⟩|exact ⟨rfl,_,Eq.trans (World.drewN_drewN _ _ _) (congrArg (World.drewN _) (Nat.add_assoc _ _ _))⟩)))
    repeat (go_quiet ((go_at_call 31;(with_reducible refine (Z5.calls (rd aC aA) 1 4 false _ A5.out).mono ?_);rintro e w' ⟨rfl,⟨nd,rfl⟩⟩;(try exact ⟨rfl,_,World.drewN_drewN _ _ _⟩)));try go_wp2_with (first|(go_at_call 31;(with_reducible refine (Z5.calls (rd aC aA) 1 4 false _ A5.out).mono ?_);rintro e w' ⟨rfl,⟨nd,rfl⟩⟩;(try first|exact ⟨rfl,_,World.drewN_drewN _ _ _⟩|exact ⟨rfl,_,Eq.trans (World.drewN_drewN _ _ _) (congrArg (World.drewN _) (Nat.add_assoc _ _ _))⟩))))
    go_ret
    exact ⟨xW,bl HB.out⟩
   subst c6;replace H:=hP H rfl
   by_cases c7:aA > 0
   case neg =>
    rw [if_neg c7] at H
    have cG:=decide_eq_false c7;clear c7;have H':=aM H;clear H;have cN:=cA2 aV.out;have aW:0≤(aA:Int):=dT;have aX:aA<(aC.length:Int):=dT;obtain ⟨aQ,bI,aN⟩:=Kd.at_int aG.out aA aW aX;cases bI
    replace aN:=xB HB aN;replace aW:=eq_true aW;replace aX:=eq_true aX;go_wp2_with (first|(go_at_call 31;(with_reducible refine (Z5.calls (rd aC aA) 1 4 true _ A5.out).mono ?_);rintro e w' ⟨rfl,⟨nd,rfl⟩⟩;(try first|exact ⟨rfl,_,World.drewN_drewN _ _ _⟩|exact ⟨rfl,_,Eq.trans (World.drewN_drewN _ _ _) (congrArg (World.drewN _) (Nat.add_assoc _ _ _))⟩)))
    repeat (go_quiet ((go_at_call 31;(with_reducible refine (Z5.calls (rd aC aA) 1 4 true _ A5.out).mono ?_);rintro e w' ⟨rfl,⟨nd,rfl⟩⟩;(try exact ⟨rfl,_,World.drewN_drewN _ _ _⟩)));try go_wp2_with (first|(go_at_call 31;(with_reducible refine (Z5.calls (rd aC aA) 1 4 true _ A5.out).mono ?_);rintro e w' ⟨rfl,⟨nd,rfl⟩⟩;(try first|exact ⟨rfl,_,World.drewN_drewN _ _ _⟩|exact ⟨rfl,_,Eq.trans (World.drewN_drewN _ _ _) (congrArg (World.drewN _) (Nat.add_assoc _ _ _))⟩))))
    go_roundg k1
    case measure=>have:=bU.out;omega
    case rel=>exact ⟨(wS aA),xE,H',⟨by have:=bU.out;omega⟩,⟨bk aV.out⟩,⟨bl HB.out⟩⟩
   rw [if_pos c7] at H
   have cG:=decide_eq_true c7;clear c7;obtain ⟨ji8,hji8⟩:∃ j_:Int,(wrap64 (aA - 1))=j_:=⟨_,rfl⟩;replace H:(if 0≤(ji8) then (if (ji8)<(aC.length:Int) then (if (rd aC (ji8)) ≥ (rd aC aA) then (some false) else (Z16.l0 k1 (wS aA) aT aC)) else (none)) else (none))=some r:=by (rw [hji8] at H;exact H)
   have hji8w:(IntKind.i64.wrap (aA - 1))=ji8:=(i64_w _).trans hji8;obtain ⟨cT,H⟩:=gI H;obtain ⟨cO,H⟩:=gI H
   by_cases bM:(rd aC (ji8)) ≥ (rd aC aA)
   case pos =>
    rw [if_pos bM] at H
    have bZ:=decide_eq_true bM;clear bM;obtain rfl:=Option.some.inj H;have cP:=cA2 aV.out;have aW:0≤(aA:Int):=dT;have aX:aA<(aC.length:Int):=dT;obtain ⟨aQ,bI,aN⟩:=Kd.at_int aG.out aA aW aX;cases bI
    replace aN:=xB HB aN;replace aW:=eq_true aW;replace aX:=eq_true aX;go_wp2_with (first|(go_at_call 31;(with_reducible refine (Z5.calls (rd aC aA) 1 4 true _ A5.out).mono ?_);rintro e w' ⟨rfl,⟨nd,rfl⟩⟩;(try first|exact ⟨rfl,_,World.drewN_drewN _ _ _⟩|exact ⟨rfl,_,Eq.trans (World.drewN_drewN _ _ _) (congrArg (World.drewN _) (Nat.add_assoc _ _ _))⟩);have aH:0≤((ji8):Int):=dT;have aI:(ji8)<(aC.length:Int):=dT;obtain ⟨bA,bG,aD⟩:=Kd.at_int aG.out (ji8) aH aI;obtain rfl:aQ=bA:=(by injection bG);replace aD:=(HB.out.cell (World.block_lt_of_cell? w _ aD)).trans aD;replace aH:=eq_true aH;replace aI:=eq_true aI;have aJ:0≤(aA:Int):=dT;have aK:aA<(aC.length:Int):=dT;obtain ⟨bD,bH,aE⟩:=Kd.at_int aG.out aA aJ aK;obtain rfl:aQ=bD:=(by injection bH);replace aE:=(HB.out.cell (World.block_lt_of_cell? w _ aE)).trans aE;replace aJ:=eq_true aJ;replace aK:=eq_true aK))
    repeat (go_quiet ((go_at_call 31;(with_reducible refine (Z5.calls (rd aC aA) 1 4 true _ A5.out).mono ?_);rintro e w' ⟨rfl,⟨nd,rfl⟩⟩;(try exact ⟨rfl,_,World.drewN_drewN _ _ _⟩);have aH:0≤((ji8):Int):=dT;have aI:(ji8)<(aC.length:Int):=dT;obtain ⟨bA,bG,aD⟩:=Kd.at_int aG.out (ji8) aH aI;obtain rfl:aQ=bA:=(by injection bG);replace aD:=(HB.out.cell (World.block_lt_of_cell? w _ aD)).trans aD;replace aH:=eq_true aH;replace aI:=eq_true aI;have aJ:0≤(aA:Int):=dT;have aK:aA<(aC.length:Int):=dT;obtain ⟨bD,bH,aE⟩:=Kd.at_int aG.out aA aJ aK;obtain rfl:aQ=bD:=(by injection bH);replace aE:=(HB.out.cell (World.block_lt_of_cell? w _ aE)).trans aE;replace aJ:=eq_true aJ;replace aK:=eq_true aK));try go_wp2_with (first|(go_at_call 31;(with_reducible refine (Z5.calls (rd aC aA) 1 4 true _ A5.out).mono ?_);rintro e w' ⟨rfl,⟨nd,rfl⟩⟩;(try first|exact ⟨rfl,_,World.drewN_drewN _ _ _⟩|exact ⟨rfl,_,Eq.trans (World.drewN_drewN _ _ _) (congrArg (World.drewN _) (Nat.add_assoc _ _ _))⟩);have aH:0≤((ji8):Int):=dT;have aI:(ji8)<(aC.length:Int):=dT;obtain ⟨bA,bG,aD⟩:=Kd.at_int aG.out (ji8) aH aI;obtain rfl:aQ=bA:=(by injection bG);replace aD:=(HB.out.cell (World.block_lt_of_cell? w _ aD)).trans aD;replace aH:=eq_true aH;replace aI:=eq_true aI;have aJ:0≤(aA:Int):=dT;have aK:aA<(aC.length:Int):=dT;obtain ⟨bD,bH,aE⟩:=Kd.at_int aG.out aA aJ aK;obtain rfl:aQ=bD:=(by injection bH);replace aE:=(HB.out.cell (World.block_lt_of_cell? w _ aE)).trans aE;replace aJ:=eq_true aJ;replace aK:=eq_true aK)))
    go_ret
    exact ⟨by rfl,bl HB.out⟩
   rw [if_neg bM] at H
   have bZ:=decide_eq_false bM;clear bM;have H':=aM H;clear H;have cQ:=cA2 aV.out;have aW:0≤(aA:Int):=dT;have aX:aA<(aC.length:Int):=dT;obtain ⟨aQ,bI,aN⟩:=Kd.at_int aG.out aA aW aX;cases bI
   replace aN:=xB HB aN;replace aW:=eq_true aW;replace aX:=eq_true aX;go_wp2_with (first|(go_at_call 31;(with_reducible refine (Z5.calls (rd aC aA) 1 4 true _ A5.out).mono ?_);rintro e w' ⟨rfl,⟨nd,rfl⟩⟩;(try first|exact ⟨rfl,_,World.drewN_drewN _ _ _⟩|exact ⟨rfl,_,Eq.trans (World.drewN_drewN _ _ _) (congrArg (World.drewN _) (Nat.add_assoc _ _ _))⟩);have aH:0≤((ji8):Int):=dT;have aI:(ji8)<(aC.length:Int):=dT;obtain ⟨bA,bG,aD⟩:=Kd.at_int aG.out (ji8) aH aI;obtain rfl:aQ=bA:=(by injection bG);replace aD:=(HB.out.cell (World.block_lt_of_cell? w _ aD)).trans aD;replace aH:=eq_true aH;replace aI:=eq_true aI;have aJ:0≤(aA:Int):=dT;have aK:aA<(aC.length:Int):=dT;obtain ⟨bD,bH,aE⟩:=Kd.at_int aG.out aA aJ aK;obtain rfl:aQ=bD:=(by injection bH);replace aE:=(HB.out.cell (World.block_lt_of_cell? w _ aE)).trans aE;replace aJ:=eq_true aJ;replace aK:=eq_true aK))
   repeat (go_quiet ((go_at_call 31;(with_reducible refine (Z5.calls (rd aC aA) 1 4 true _ A5.out).mono ?_);rintro e w' ⟨rfl,⟨nd,rfl⟩⟩;(try exact ⟨rfl,_,World.drewN_drewN _ _ _⟩);have aH:0≤((ji8):Int):=dT;have aI:(ji8)<(aC.length:Int):=dT;obtain ⟨bA,bG,aD⟩:=Kd.at_int aG.out (ji8) aH aI;obtain rfl:aQ=bA:=(by injection bG);replace aD:=(HB.out.cell (World.block_lt_of_cell? w _ aD)).trans aD;replace aH:=eq_true aH;replace aI:=eq_true aI;have aJ:0≤(aA:Int):=dT;have aK:aA<(aC.length:Int):=dT;obtain ⟨bD,bH,aE⟩:=Kd.at_int aG.out aA aJ aK;obtain rfl:aQ=bD:=(by injection bH);replace aE:=(HB.out.cell (World.block_lt_of_cell? w _ aE)).trans aE;replace aJ:=eq_true aJ;replace aK:=eq_true aK));try go_wp2_with (first|(go_at_call 31;(with_reducible refine (Z5.calls (rd aC aA) 1 4 true _ A5.out).mono ?_);rintro e w' ⟨rfl,⟨nd,rfl⟩⟩;(try first|exact ⟨rfl,_,World.drewN_drewN _ _ _⟩|exact ⟨rfl,_,Eq.trans (World.drewN_drewN _ _ _) (congrArg (World.drewN _) (Nat.add_assoc _ _ _))⟩);have aH:0≤((ji8):Int):=dT;have aI:(ji8)<(aC.length:Int):=dT;obtain ⟨bA,bG,aD⟩:=Kd.at_int aG.out (ji8) aH aI;obtain rfl:aQ=bA:=(by injection bG);replace aD:=(HB.out.cell (World.block_lt_of_cell? w _ aD)).trans aD;replace aH:=eq_true aH;replace aI:=eq_true aI;have aJ:0≤(aA:Int):=dT;have aK:aA<(aC.length:Int):=dT;obtain ⟨bD,bH,aE⟩:=Kd.at_int aG.out aA aJ aK;obtain rfl:aQ=bD:=(by injection bH);replace aE:=(HB.out.cell (World.block_lt_of_cell? w _ aE)).trans aE;replace aJ:=eq_true aJ;replace aK:=eq_true aK)))
   go_roundg k1
   case measure=>have:=bU.out;omega
   case rel=>exact ⟨(wS aA),xE,H',⟨by have:=bU.out;omega⟩,⟨bk aV.out⟩,⟨bl HB.out⟩⟩

mutual
def Z13.j0:Nat→Bool→List Bool→List (S42)→List (S72)→Option (Bool)
 | 0,_,_,_,_=>none
 | k+1,aE,aA,aC,aD=>if aE=true then (some false) else (Z13.l0 k 0 aA aC aD)
def Z13.l0:Nat→Int→List Bool→List (S42)→List (S72)→Option (Bool)
 | 0,_,_,_,_=>none
 | k+1,x3,aC,aA,aD=>if x3<(aA.length:Int) then (if 0≤x3 then ((Z16.f k ((rd_T42 aA x3).f0) ((rd_T42 aA x3).f1)).bind fun aE=>(if aE=true then (Z13.l0 k (wrap64 (x3+1)) aC aA aD) else (some false))) else (none)) else (some true)
end
def Z13.f (k:Nat) (aA:List Bool) (aC:List (S42)) (aD:List (S72)):Option (Bool):=(Z5.f (aA.length:Int) 1 4).bind fun aE=>(if aE=true then (if (aC.length:Int)=(aA.length:Int) then ((Z9.f k aD).bind fun aG=>(Z13.j0 k (!aG) aA aC aD)) else (Z13.j0 k true aA aC aD)) else (Z13.j0 k true aA aC aD))
theorem Z13.mono_l:∀ k,(∀ y0 y1 y2 y3,LeO (Z13.j0 k y0 y1 y2 y3) (Z13.j0 (k+1) y0 y1 y2 y3))∧(∀ y0 y1 y2 y3,LeO (Z13.l0 k y0 y1 y2 y3) (Z13.l0 (k+1) y0 y1 y2 y3))
 | 0=>by refine ⟨?_,?_⟩ <;> intros <;> intro r h <;> simp [Z13.j0,Z13.l0] at h
 | k+1=>by
  obtain ⟨ih0,ih1⟩:=Z13.mono_l k;refine ⟨?_,?_⟩
  ·intro y0 y1 y2 y3
   unfold Z13.j0
   repeat' (with_reducible first|apply ih1|exact lR _|refine lI ?_ ?_)
  ·intro y0 y1 y2 y3
   unfold Z13.l0
   repeat' (with_reducible first|apply ih1|apply Z16.mono|exact lR _|refine lI ?_ ?_|refine lB ?_ fun _=>?_)
theorem Z13.mono:∀ a0 a1 a2 k,LeO (Z13.f k a0 a1 a2) (Z13.f (k+1) a0 a1 a2):=by
 intro a0 a1 a2 k;obtain ⟨ih0,ih1⟩:=Z13.mono_l k;unfold Z13.f
 repeat' (with_reducible first|apply ih0|apply Z9.mono|exact lR _|refine lI ?_ ?_|refine lB ?_ fun _=>?_)
set_option maxHeartbeats 60000000 in
set_option maxRecDepth 100000 in
theorem Z13.calls (k:Nat) (aW:Option Addr) (aX:Nat) (aC:List Bool) (bA:Option Addr) (bD:Nat) (aA:List (S42)) (bG:Option Addr) (bH:Nat) (aG:List (S72)) (r:Bool) (w:World) (hr0_0:Kd.C Kd.bool w aW aC.length aC) (hc0_0:aC.length≤aX) (hr0_1:Kd.C k42 w bA aA.length aA) (hc0_1:aA.length≤bD) (hr0_2:Kd.C k72 w bG aG.length aG) (hc0_2:aG.length≤bH) (h:Z13.f k aC aA aG=some r) :
  Calls Try.prog 17 #[.agg #[.slice aW aC.length aX,.slice bA aA.length bD,.slice bG aG.length bH]] w fun e w'=>e=.returned (.bool r)∧Below w.heap.size w w':=by
 clear hr0_0 hc0_0;have bT:=aM hr0_1;clear hr0_1 hc0_1;have bY:=aM hr0_2;have bZ:=aM hc0_2;clear hr0_2 hc0_2;have HB:=aM (Below.refl w.heap.size w);have H:((Z5.f (aC.length:Int) 1 4).bind fun bN=>(if bN=true then (if (aA.length:Int)=(aC.length:Int) then ((Z9.f k aG).bind fun bL=>(Z13.j0 k (!bL) aC aA aG)) else (Z13.j0 k true aC aA aG)) else (Z13.j0 k true aC aA aG)))=some r:=h
 clear h;have bW:=aM H;clear H;go_enter Try.func17,Try.ntmps17
 go_upto_region 1 with (((with_reducible refine gD (N:=1) rfl ?_);(try (refine gate_guard (by rfl) ?_;dsimp only));refine bE (N:=1) (cs:=#[.slice aW aC.length aX,.slice bA aA.length bD,.slice bG aG.length bH]) (t:=28) ?_;intro bU hg w3 hbox hb;have aD:=aM (hbox);replace HB:=rS HB hb;clear hb hbox hg))
 go_cut [23] (fun cN wc=>∃ (kq:Nat) (aV:Bool),cN=.bool aV∧Aside0 (Z13.j0 kq aV aC aA aG=some r)∧Aside0 (kq≤k)∧Aside0 (wc.heap[bU]?=some (.cells #[(.slice aW aC.length aX),(.slice bA aA.length bD),(.slice bG aG.length bH)] 28 (0,0)))∧Aside0 (Below w.heap.size w wc))
 case first =>
  have H:=bW.out;clear bW;obtain ⟨bN,cD,H⟩:=hB H;have A4:=aM cD;clear cD
  by_cases c5:bN=true
  case neg =>
   replace c5:=Bool.eq_false_iff.mpr c5;subst c5;replace H:=hF H;have H':=aM H;clear H;have cT:=cA3 aD.out;go_wp2_with (((with_reducible refine gC (f:=31) rfl ?_);refine gL (some 7) Try.func31 #[.int .i64 (aC.length:Int),.int .i64 1,.int .i64 4] ?_;(with_reducible refine (Z5.calls (aC.length:Int) 1 4 false _ A4.out).mono ?_);rintro e w' ⟨rfl,⟨nd,rfl⟩⟩;refine ⟨_,rfl,?_⟩))
   go_meet
   case rel=>exact ⟨_,(true),xE,H',⟨by omega⟩,⟨bk aD.out⟩,⟨bl HB.out⟩⟩
  subst c5;replace H:=hP H rfl
  by_cases c6:(aA.length:Int)=(aC.length:Int)
  case neg =>
   rw [if_neg c6] at H
   have aJ:((aA.length:Int) == (aC.length:Int))=false:=beq_eq_false_iff_ne.mpr c6;have bO:((aA.length:Int) != (aC.length:Int))=true:=bne_iff_ne.mpr c6;have bP:(aA.length == aC.length)=false:=by (simp at c6 ⊢;omega)
   (skip)
   have H':=aM H;clear H;have cU:=cA3 aD.out;go_wp2_with (((with_reducible refine gC (f:=31) rfl ?_);refine gL (some 7) Try.func31 #[.int .i64 (aC.length:Int),.int .i64 1,.int .i64 4] ?_;(with_reducible refine (Z5.calls (aC.length:Int) 1 4 true _ A4.out).mono ?_);rintro e w' ⟨rfl,⟨nd,rfl⟩⟩;refine ⟨_,rfl,?_⟩))
   go_meet
   case rel=>exact ⟨_,(true),xE,H',⟨by omega⟩,⟨bk aD.out⟩,⟨bl HB.out⟩⟩
  rw [if_pos c6] at H
  have aJ:((aA.length:Int) == (aC.length:Int))=true:=beq_iff_eq.mpr c6;have bO:((aA.length:Int) != (aC.length:Int))=false:=bne_eq_false_iff_eq.mpr c6;have bP:(aA.length == aC.length)=true:=by (simp at c6 ⊢;omega)
  clear c6
  (skip)
  obtain ⟨bL,cE,H⟩:=hB H;have A7:=aM cE;clear cE;have H':=aM H;clear H;have dC:=cA3 aD.out;go_wp2_with (first|((with_reducible refine gC (f:=31) rfl ?_);refine gL (some 7) Try.func31 #[.int .i64 (aC.length:Int),.int .i64 1,.int .i64 4] ?_;(with_reducible refine (Z5.calls (aC.length:Int) 1 4 true _ A4.out).mono ?_);rintro e w' ⟨rfl,⟨nd,rfl⟩⟩;refine ⟨_,rfl,?_⟩)|(go_at_call 46;(with_reducible refine (Z9.calls k _ _ aG bL _ ?side1 ?side2 A7.out).mono ?_);(case side1=>exact cM (cB bY.out (bl HB.out)));(case side2=>exact bZ.out);rintro e w9 ⟨rfl,hb⟩;replace aD:=rB aD hb;replace HB:=rS HB hb;(try clear hb)))
  go_meet
  case rel=>exact ⟨_,(!bL),xE,H',⟨by omega⟩,⟨bk aD.out⟩,⟨bl HB.out⟩⟩
 case rest =>
  clear bW
  repeat first|clear c1|clear p2|clear c3|clear c5|clear c6|clear aJ|clear bO|clear bP
  obtain ⟨kq,aV,rfl,HA,HJ1,aD,HB⟩:=hcut;cases kq with
  | zero=>exact absurd HA.out (by simp [Z13.j0])
  | succ cG =>
   have H:=HA.out;clear HA;simp only [Z13.j0] at H
   by_cases bM:aV=true
   case pos =>
    subst bM;replace H:=hP H rfl;obtain rfl:=Option.some.inj H;go_wp2
    go_ret
    exact ⟨xW,bl HB.out⟩
   replace bM:=Bool.eq_false_iff.mpr bM;subst bM;replace H:=hF H;have H':=aM H;clear H;go_wp2
   go_loopg [3] cG (fun kq v3 w'=>∃ (aE:Int),v3=.int .i64 aE∧Aside0 (Z13.l0 kq aE aC aA aG=some r)∧Aside0 (kq≤cG)∧Aside0 (w'.heap[bU]?=some (.cells #[(.slice aW aC.length aX),(.slice bA aA.length bD),(.slice bG aG.length bH)] 28 (0,0)))∧Aside0 (Below w.heap.size w w'))
   case atStart=>exact ⟨(0),xE,H',⟨Nat.le_refl _⟩,⟨bk aD.out⟩,⟨bl HB.out⟩⟩
   case round =>
    clear H'
    repeat first|clear c1|clear p2|clear c3|clear c5|clear c6|clear aJ|clear bO|clear bP|clear bM|clear p2
    obtain ⟨aE,rfl,HA,cH,aD,HB⟩:=hrel;cases gk with
    | zero=>exact absurd HA.out (by simp [Z13.l0])
    | succ k2 =>
     have H:=HA.out;clear HA;simp only [Z13.l0] at H
     by_cases bK:aE<(aA.length:Int)
     case neg =>
      rw [if_neg bK] at H
      have cA:=decide_eq_false bK;clear bK;obtain rfl:=Option.some.inj H;have cV:=cA3 aD.out;go_wp2
      go_ret
      exact ⟨xW,bl HB.out⟩
     rw [if_pos bK] at H
     have cA:=decide_eq_true bK;clear bK;obtain ⟨cW,H⟩:=gI H;obtain ⟨cL,bX,H⟩:=hB H;have cK:=aM bX;clear bX
     by_cases bV:cL=true
     case neg =>
      replace bV:=Bool.eq_false_iff.mpr bV;subst bV;replace H:=hF H;obtain rfl:=Option.some.inj H;have cX:=cA3 aD.out;have aK:0≤(aE:Int):=dT;have aN:aE<(aA.length:Int):=dT;obtain ⟨cC,bI,bJ,bQ,aH,aI,hl654_1,hi654_1⟩:=at_T42 bT.out aE aK aN;cases bQ
      replace aH:=xB HB aH;replace aI:=xB HB aI;have aQ:=aM hi654_1;have aT:=aM hl654_1;clear hi654_1 hl654_1;replace aK:=eq_true aK;replace aN:=eq_true aN;go_wp2_with (((with_reducible refine gC (f:=47) rfl ?_);refine gL (some 36) Try.func47 #[.agg #[((rd_T42 aA aE).f0),.slice bI ((rd_T42 aA aE).f1).length bJ]] ?_;(with_reducible refine (Z16.calls k2 ((rd_T42 aA aE).f0) _ _ ((rd_T42 aA aE).f1) false _ ?side1 ?side2 cK.out).mono ?_);(case side1=>exact cM (cB aQ.out HB.out));(case side2=>exact aT.out);rintro e dD ⟨rfl,hb⟩;refine ⟨_,rfl,?_⟩;replace aD:=rB aD hb;replace HB:=rS HB hb;(try clear hb)))
      go_ret
      exact ⟨xW,bl HB.out⟩
     subst bV;replace H:=hP H rfl;have H':=aM H;clear H;have cY:=cA3 aD.out;have aK:0≤(aE:Int):=dT;have aN:aE<(aA.length:Int):=dT;obtain ⟨cC,bI,bJ,bQ,aH,aI,hl654_1,hi654_1⟩:=at_T42 bT.out aE aK aN;cases bQ
     replace aH:=xB HB aH;replace aI:=xB HB aI;have aQ:=aM hi654_1;have aT:=aM hl654_1;clear hi654_1 hl654_1;replace aK:=eq_true aK;replace aN:=eq_true aN;go_wp2_with (((with_reducible refine gC (f:=47) rfl ?_);refine gL (some 36) Try.func47 #[.agg #[((rd_T42 aA aE).f0),.slice bI ((rd_T42 aA aE).f1).length bJ]] ?_;(with_reducible refine (Z16.calls k2 ((rd_T42 aA aE).f0) _ _ ((rd_T42 aA aE).f1) true _ ?side1 ?side2 cK.out).mono ?_);(case side1=>exact cM (cB aQ.out HB.out));(case side2=>exact aT.out);rintro e dE ⟨rfl,hb⟩;refine ⟨_,rfl,?_⟩;replace aD:=rB aD hb;replace HB:=rS HB hb;(try clear hb)))
     go_roundg k2
     case measure=>have:=HJ1.out;have:=cH.out;omega
     case rel=>exact ⟨(wS aE),xE,H',⟨by have:=HJ1.out;have:=cH.out;omega⟩,⟨bk aD.out⟩,⟨bl HB.out⟩⟩

end Go.Proofs.Ytjodolkdelffaaa.PFnCards

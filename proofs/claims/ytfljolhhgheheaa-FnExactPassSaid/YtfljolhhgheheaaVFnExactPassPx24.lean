/- A part of the proof of laws.FnExactPass. No condition beyond what its theorems say. -/
import Derived.Test.YtfljolhhgheheaaVFnExactPassPx23
namespace Go.Proofs.Ytfljolhhgheheaa.PFnExactPass
open Go.RowKit Go.Proofs.YtfljolhhgheheaaW.PrintWords Go.Proofs.YtfljolhhgheheaaW.PrintLast Go.Proofs.YtfljolhhgheheaaW.PrintMore
set_option linter.unusedVariables false
set_option linter.unusedSimpArgs false

def Y42.l0:Nat→List (S86)→Int→Int→Option (Int)
 | 0,_,_,_=>none
 | k+1,x0,x1,x5=>if x5<(x0.length:Int) then (if 0≤x5 then (if ((rd_T86 x0 x5).f0)=x1 then (if ((rd_T86 x0 x5).f1)=(wrap64 (x1+1)) then (if ((rd_T86 x0 x5).f2)=(wrap64 ((wrap64 (x1+1))+1)) then (if ((rd_T86 x0 x5).f3)=(wrap64 ((wrap64 ((wrap64 (x1+1))+1))+1)) then (Y42.l0 k x0 (wrap64 ((wrap64 ((wrap64 ((wrap64 (x1+1))+1))+1))+1)) (wrap64 (x5+1))) else (some (-1))) else (some (-1))) else (some (-1))) else (some (-1))) else (none)) else (some x1)
def Y42.f (k:Nat) (l0:List (S86)) (a1:Int):Option (Int):=Y42.l0 k l0 a1 0
theorem Y42.mono_l:∀ k,(∀ y0 y1 y2,LeO (Y42.l0 k y0 y1 y2) (Y42.l0 (k+1) y0 y1 y2))
 | 0=>fun _ _ _ r h=>by simp [Y42.l0] at h
 | k+1=>by
  have ih0:=Y42.mono_l k
  ·intro y0 y1 y2
   unfold Y42.l0
   repeat' first|(with_reducible first|apply ih0|exact lR _|exact lN _|refine lI ?_ ?_|refine lB ?_ fun _=>?_)|exact lN _|refine lI ?_ ?_|refine lB ?_ fun _=>?_
theorem Y42.mono:∀ a0 a1 k,LeO (Y42.f k a0 a1) (Y42.f (k+1) a0 a1):=by
 intro a0 a1 k;have ih0:=Y42.mono_l k;unfold Y42.f
 repeat' first|(with_reducible first|apply ih0|exact lR _|exact lN _|refine lI ?_ ?_|refine lB ?_ fun _=>?_)|exact lN _|refine lI ?_ ?_|refine lB ?_ fun _=>?_
set_option maxHeartbeats 60000000 in
set_option maxRecDepth 100000 in
theorem Y42.calls (k:Nat) (A0:Option Addr) (c0:Nat) (l0:List (S86)) (a1 r:Int) (w:World) (hr0:Kd.C k86 w A0 l0.length l0) (hc0:l0.length≤c0) (h:Y42.f k l0 a1=some r) :
  Calls Try.prog 51 #[.slice A0 l0.length c0,a1] w fun e w'=>e=.returned (.int .i64 r)∧Drawn0 w w':=by
 have aN:=aM hr0;have cQ:=aM hc0;clear hr0 hc0;have H:(Y42.l0 k l0 a1 0)=some r:=h;clear h;have H':=aM H;clear H;go_enter Try.func51,Try.ntmps51
 go_wp2
 go_loopg [1,5] k (fun kq v1 v5 w'=>∃ (aC:Int) (aA:Int),v1=.int .i64 aC∧v5=.int .i64 aA∧Aside0 (Y42.l0 kq l0 aC aA=some r)∧Aside0 (kq≤k)∧Drawn0 w w')
 case atStart=>exact ⟨(a1),(0),xE,xE,H',⟨Nat.le_refl _⟩,by repeat (first|exact Drawn0.refl _|apply Drawn0.step)⟩
 case round =>
  clear H'
  try clear p2
  obtain ⟨aC,aA,rfl,rfl,HA,cA,⟨m1,rfl⟩⟩:=hrel;cases gk with
  | zero=>exact absurd HA.out (by simp [Y42.l0])
  | succ k1 =>
   have H:=HA.out;clear HA;simp only [Y42.l0] at H
   by_cases c3:aA<(l0.length:Int)
   case neg =>
    rw [if_neg c3] at H
    have cC:=decide_eq_false c3;clear c3;obtain rfl:=Option.some.inj H;go_wp2
    go_ret
    exact ⟨by first|rfl|(simp;done)|(simp [*];done),by repeat (first|exact Drawn0.refl _|apply Drawn0.step)⟩
   rw [if_pos c3] at H
   have cC:=decide_eq_true c3;clear c3;obtain ⟨cP,H⟩:=gI H
   by_cases c5:((rd_T86 l0 aA).f0)=aC
   case neg =>
    rw [if_neg c5] at H
    have cD:(((rd_T86 l0 aA).f0) == aC)=false:=beq_eq_false_iff_ne.mpr c5;have cE:(((rd_T86 l0 aA).f0) != aC)=true:=bne_iff_ne.mpr c5;obtain rfl:=Option.some.inj H;have aD:0≤(aA:Int):=dT;have aE:aA<(l0.length:Int):=dT;obtain ⟨aG,aQ,aV,aW,aX,bA⟩:=at_T86 aN.out aA aD aE;cases aQ
    replace aD:=eq_true aD;replace aE:=eq_true aE;go_wp2
    go_ret
    exact ⟨by first|rfl|(simp;done)|(simp [*];done),by repeat (first|exact Drawn0.refl _|apply Drawn0.step)⟩
   rw [if_pos c5] at H
   have cD:(((rd_T86 l0 aA).f0) == aC)=true:=beq_iff_eq.mpr c5;have cE:(((rd_T86 l0 aA).f0) != aC)=false:=bne_eq_false_iff_eq.mpr c5;clear c5
   by_cases c6:((rd_T86 l0 aA).f1)=(wS aC)
   case neg =>
    rw [if_neg c6] at H
    have cG:(((rd_T86 l0 aA).f1) == (wS aC))=false:=beq_eq_false_iff_ne.mpr c6;have cH:(((rd_T86 l0 aA).f1) != (wS aC))=true:=bne_iff_ne.mpr c6;obtain rfl:=Option.some.inj H;have aD:0≤(aA:Int):=dT;have aE:aA<(l0.length:Int):=dT;obtain ⟨aG,aQ,aV,aW,aX,bA⟩:=at_T86 aN.out aA aD aE;cases aQ
    replace aD:=eq_true aD;replace aE:=eq_true aE;have aH:0≤(aA:Int):=dT;have aI:aA<(l0.length:Int):=dT;obtain ⟨aT,bD,bJ,bK,bL,bM⟩:=at_T86 aN.out aA aH aI;obtain rfl:aG=aT:=(by injection bD)
    replace aH:=eq_true aH;replace aI:=eq_true aI;go_wp2
    go_ret
    exact ⟨by first|rfl|(simp;done)|(simp [*];done),by repeat (first|exact Drawn0.refl _|apply Drawn0.step)⟩
   rw [if_pos c6] at H
   have cG:(((rd_T86 l0 aA).f1) == (wS aC))=true:=beq_iff_eq.mpr c6;have cH:(((rd_T86 l0 aA).f1) != (wS aC))=false:=bne_eq_false_iff_eq.mpr c6;clear c6
   by_cases c7:((rd_T86 l0 aA).f2)=(wS (wS aC))
   case neg =>
    rw [if_neg c7] at H
    have cK:(((rd_T86 l0 aA).f2) == (wS (wS aC)))=false:=beq_eq_false_iff_ne.mpr c7;have cL:(((rd_T86 l0 aA).f2) != (wS (wS aC)))=true:=bne_iff_ne.mpr c7;obtain rfl:=Option.some.inj H;have aD:0≤(aA:Int):=dT;have aE:aA<(l0.length:Int):=dT;obtain ⟨aG,aQ,aV,aW,aX,bA⟩:=at_T86 aN.out aA aD aE;cases aQ
    replace aD:=eq_true aD;replace aE:=eq_true aE;have aH:0≤(aA:Int):=dT;have aI:aA<(l0.length:Int):=dT;obtain ⟨aT,bD,bJ,bK,bL,bM⟩:=at_T86 aN.out aA aH aI;obtain rfl:aG=aT:=(by injection bD)
    replace aH:=eq_true aH;replace aI:=eq_true aI;have aJ:0≤(aA:Int):=dT;have aK:aA<(l0.length:Int):=dT;obtain ⟨bI,bN,bO,bP,bQ,bT⟩:=at_T86 aN.out aA aJ aK;obtain rfl:aG=bI:=(by injection bN)
    replace aJ:=eq_true aJ;replace aK:=eq_true aK;go_wp2
    go_ret
    exact ⟨by first|rfl|(simp;done)|(simp [*];done),by repeat (first|exact Drawn0.refl _|apply Drawn0.step)⟩
   rw [if_pos c7] at H
   have cK:(((rd_T86 l0 aA).f2) == (wS (wS aC)))=true:=beq_iff_eq.mpr c7;have cL:(((rd_T86 l0 aA).f2) != (wS (wS aC)))=false:=bne_eq_false_iff_eq.mpr c7;clear c7
   by_cases c8:((rd_T86 l0 aA).f3)=(wS (wS (wS aC)))
   case neg =>
    rw [if_neg c8] at H
    have cN:(((rd_T86 l0 aA).f3) == (wS (wS (wS aC))))=false:=beq_eq_false_iff_ne.mpr c8;have cO:(((rd_T86 l0 aA).f3) != (wS (wS (wS aC))))=true:=bne_iff_ne.mpr c8;obtain rfl:=Option.some.inj H;have aD:0≤(aA:Int):=dT;have aE:aA<(l0.length:Int):=dT;obtain ⟨aG,aQ,aV,aW,aX,bA⟩:=at_T86 aN.out aA aD aE;cases aQ
    replace aD:=eq_true aD;replace aE:=eq_true aE;have aH:0≤(aA:Int):=dT;have aI:aA<(l0.length:Int):=dT;obtain ⟨aT,bD,bJ,bK,bL,bM⟩:=at_T86 aN.out aA aH aI;obtain rfl:aG=aT:=(by injection bD)
    replace aH:=eq_true aH;replace aI:=eq_true aI;have aJ:0≤(aA:Int):=dT;have aK:aA<(l0.length:Int):=dT;obtain ⟨bI,bN,bO,bP,bQ,bT⟩:=at_T86 aN.out aA aJ aK;obtain rfl:aG=bI:=(by injection bN)
    replace aJ:=eq_true aJ;replace aK:=eq_true aK;have bG:0≤(aA:Int):=dT;have bH:aA<(l0.length:Int):=dT;obtain ⟨bU,bV,bW,bX,bY,bZ⟩:=at_T86 aN.out aA bG bH;obtain rfl:aG=bU:=(by injection bV)
    replace bG:=eq_true bG;replace bH:=eq_true bH;go_wp2
    go_ret
    exact ⟨by first|rfl|(simp;done)|(simp [*];done),by repeat (first|exact Drawn0.refl _|apply Drawn0.step)⟩
   rw [if_pos c8] at H
   have cN:(((rd_T86 l0 aA).f3) == (wS (wS (wS aC))))=true:=beq_iff_eq.mpr c8;have cO:(((rd_T86 l0 aA).f3) != (wS (wS (wS aC))))=false:=bne_eq_false_iff_eq.mpr c8;clear c8;have H':=aM H;clear H;have aD:0≤(aA:Int):=dT;have aE:aA<(l0.length:Int):=dT;obtain ⟨aG,aQ,aV,aW,aX,bA⟩:=at_T86 aN.out aA aD aE;cases aQ
   replace aD:=eq_true aD;replace aE:=eq_true aE;have aH:0≤(aA:Int):=dT;have aI:aA<(l0.length:Int):=dT;obtain ⟨aT,bD,bJ,bK,bL,bM⟩:=at_T86 aN.out aA aH aI;obtain rfl:aG=aT:=(by injection bD)
   replace aH:=eq_true aH;replace aI:=eq_true aI;have aJ:0≤(aA:Int):=dT;have aK:aA<(l0.length:Int):=dT;obtain ⟨bI,bN,bO,bP,bQ,bT⟩:=at_T86 aN.out aA aJ aK;obtain rfl:aG=bI:=(by injection bN)
   replace aJ:=eq_true aJ;replace aK:=eq_true aK;have bG:0≤(aA:Int):=dT;have bH:aA<(l0.length:Int):=dT;obtain ⟨bU,bV,bW,bX,bY,bZ⟩:=at_T86 aN.out aA bG bH;obtain rfl:aG=bU:=(by injection bV)
   replace bG:=eq_true bG;replace bH:=eq_true bH;go_wp2
   go_roundg k1
   case measure=>have:=cA.out;omega
   case rel=>exact ⟨(wS (wS (wS (wS aC)))),(wS aA),xE,xE,H',⟨by have:=cA.out;omega⟩,by repeat (first|exact Drawn0.refl _|apply Drawn0.step)⟩

def Y65.f (k:Nat) (aE:List Bool) (aG:List (S60)) (aH:List (S86)) (a1:Int):Option (Int):=(Y35.f k aE a1).bind fun aA=>(if aA<0 then (some (-1)) else ((Y38.f k aG aA).bind fun aC=>(if aC<0 then (some (-1)) else ((Y42.f k aH aC).bind fun aD=>(if aD<0 then (some (-1)) else (some aD))))))
theorem Y65.mono:∀ a0 a1 a2 a3 k,LeO (Y65.f k a0 a1 a2 a3) (Y65.f (k+1) a0 a1 a2 a3):=by
 intro a0 a1 a2 a3 k;unfold Y65.f
 repeat' first|(with_reducible first|apply Y35.mono|apply Y42.mono|apply Y38.mono|exact lR _|exact lN _|refine lI ?_ ?_|refine lB ?_ fun _=>?_)|exact lN _|refine lI ?_ ?_|refine lB ?_ fun _=>?_
set_option maxHeartbeats 60000000 in
set_option maxRecDepth 100000 in
theorem Y65.calls (k:Nat) (aH:Option Addr) (aI:Nat) (aA:List Bool) (aJ:Option Addr) (aK:Nat) (aC:List (S60)) (aQ:Option Addr) (aT:Nat) (aD:List (S86)) (a1 r:Int) (w:World) (hr0_0:Kd.C Kd.bool w aH aA.length aA) (hc0_0:aA.length≤aI) (hr0_1:Kd.C k60 w aJ aC.length aC) (hc0_1:aC.length≤aK) (hr0_2:Kd.C k86 w aQ aD.length aD) (hc0_2:aD.length≤aT) (h:Y65.f k aA aC aD a1=some r) :
  Calls Try.prog 16 #[.agg #[.slice aH aA.length aI,.slice aJ aC.length aK,.slice aQ aD.length aT],a1] w fun e w'=>e=.returned (.int .i64 r)∧Below w.heap.size w w':=by
 have bY:=Try.underlying35;have aW:=aM hr0_0;have aX:=aM hc0_0;clear hr0_0 hc0_0;have bD:=aM hr0_1;have bG:=aM hc0_1;clear hr0_1 hc0_1;have bK:=aM hr0_2;have bL:=aM hc0_2;clear hr0_2 hc0_2;have HB:=aM (Below.refl w.heap.size w);have H:((Y35.f k aA a1).bind fun aE=>(if aE<0 then (some (-1)) else ((Y38.f k aC aE).bind fun aG=>(if aG<0 then (some (-1)) else ((Y42.f k aD aG).bind fun aV=>(if aV<0 then (some (-1)) else (some aV)))))))=some r:=h
 clear h;obtain ⟨aE,bO,H⟩:=hB H;have A3:=aM bO;clear bO
 by_cases c4:aE<0
 case pos =>
  rw [if_pos c4] at H
  have bT:=decide_eq_true c4;clear c4;obtain rfl:=Option.some.inj H;go_enter Try.func16,Try.ntmps16
  go_wp2_with (first|((with_reducible refine gD (N:=2) rfl ?_);refine bE (N:=2) (cs:=#[.slice aH aA.length aI,.slice aJ aC.length aK,.slice aQ aD.length aT]) (t:=35) ?_;intro bH hg w5 hbox hb;have aN:=aM (hbox);have bI:=gF hg HB;have bJ:=gF hg HB;replace HB:=rS HB hb;clear hb hbox hg;have bZ:=cA3 aN.out)|((with_reducible refine gC (f:=49) rfl ?_);refine gL (some 8) Try.func49 #[.slice aH aA.length aI,a1] ?_;(with_reducible refine (Y35.calls k _ _ aA a1 aE _ ?side1 ?side2 A3.out).mono ?_);(case side1=>exact cM (cB aW.out HB.out));(case side2=>exact aX.out);rintro e w' ⟨rfl,⟨nd,rfl⟩⟩;refine ⟨_,rfl,?_⟩))
  go_ret
  exact ⟨xW,bl HB.out⟩
 rw [if_neg c4] at H
 have bT:=decide_eq_false c4;clear c4;obtain ⟨aG,bP,H⟩:=hB H;have A7:=aM bP;clear bP
 by_cases c8:aG<0
 case pos =>
  rw [if_pos c8] at H
  have bU:=decide_eq_true c8;clear c8;obtain rfl:=Option.some.inj H;go_enter Try.func16,Try.ntmps16
  go_wp2_with (first|((with_reducible refine gD (N:=2) rfl ?_);refine bE (N:=2) (cs:=#[.slice aH aA.length aI,.slice aJ aC.length aK,.slice aQ aD.length aT]) (t:=35) ?_;intro bH hg w9 hbox hb;have aN:=aM (hbox);have bI:=gF hg HB;have bJ:=gF hg HB;replace HB:=rS HB hb;clear hb hbox hg;have bV:=cA3 aN.out)|((with_reducible refine gC (f:=49) rfl ?_);refine gL (some 8) Try.func49 #[.slice aH aA.length aI,a1] ?_;(with_reducible refine (Y35.calls k _ _ aA a1 aE _ ?side1 ?side2 A3.out).mono ?_);(case side1=>exact cM (cB aW.out HB.out));(case side2=>exact aX.out);rintro e w' ⟨rfl,⟨nd,rfl⟩⟩;refine ⟨_,rfl,?_⟩)|((with_reducible refine gC (f:=50) rfl ?_);refine gL (some 14) Try.func50 #[.slice aJ aC.length aK,aE] ?_;(with_reducible refine (Y38.calls k _ _ aC aE aG _ ?side1 ?side2 A7.out).mono ?_);(case side1=>exact cM (cB bD.out (bl HB.out)));(case side2=>exact bG.out);rintro e w' ⟨rfl,⟨nd,rfl⟩⟩;refine ⟨_,rfl,?_⟩))
  go_ret
  exact ⟨xW,bl HB.out⟩
 rw [if_neg c8] at H
 have bU:=decide_eq_false c8;clear c8;obtain ⟨aV,bM,H⟩:=hB H;have bQ:=aM bM;clear bM
 by_cases bA:aV<0
 case pos =>
  rw [if_pos bA] at H
  have bN:=decide_eq_true bA;clear bA;obtain rfl:=Option.some.inj H;go_enter Try.func16,Try.ntmps16
  go_wp2_with (first|((with_reducible refine gD (N:=2) rfl ?_);refine bE (N:=2) (cs:=#[.slice aH aA.length aI,.slice aJ aC.length aK,.slice aQ aD.length aT]) (t:=35) ?_;intro bH hg cA hbox hb;have aN:=aM (hbox);have bI:=gF hg HB;have bJ:=gF hg HB;replace HB:=rS HB hb;clear hb hbox hg;have bW:=cA3 aN.out)|((with_reducible refine gC (f:=49) rfl ?_);refine gL (some 8) Try.func49 #[.slice aH aA.length aI,a1] ?_;(with_reducible refine (Y35.calls k _ _ aA a1 aE _ ?side1 ?side2 A3.out).mono ?_);(case side1=>exact cM (cB aW.out HB.out));(case side2=>exact aX.out);rintro e w' ⟨rfl,⟨nd,rfl⟩⟩;refine ⟨_,rfl,?_⟩)|((with_reducible refine gC (f:=50) rfl ?_);refine gL (some 14) Try.func50 #[.slice aJ aC.length aK,aE] ?_;(with_reducible refine (Y38.calls k _ _ aC aE aG _ ?side1 ?side2 A7.out).mono ?_);(case side1=>exact cM (cB bD.out (bl HB.out)));(case side2=>exact bG.out);rintro e w' ⟨rfl,⟨nd,rfl⟩⟩;refine ⟨_,rfl,?_⟩)|((with_reducible refine gC (f:=51) rfl ?_);refine gL (some 20) Try.func51 #[.slice aQ aD.length aT,aG] ?_;(with_reducible refine (Y42.calls k _ _ aD aG aV _ ?side1 ?side2 bQ.out).mono ?_);(case side1=>exact cM (cB bK.out (bl HB.out)));(case side2=>exact bL.out);rintro e w' ⟨rfl,⟨nd,rfl⟩⟩;refine ⟨_,rfl,?_⟩))
  go_ret
  exact ⟨xW,bl HB.out⟩
 rw [if_neg bA] at H
 have bN:=decide_eq_false bA;clear bA;obtain rfl:=Option.some.inj H;go_enter Try.func16,Try.ntmps16
 go_wp2_with (first|((with_reducible refine gD (N:=2) rfl ?_);refine bE (N:=2) (cs:=#[.slice aH aA.length aI,.slice aJ aC.length aK,.slice aQ aD.length aT]) (t:=35) ?_;intro bH hg cC hbox hb;have aN:=aM (hbox);have bI:=gF hg HB;have bJ:=gF hg HB;replace HB:=rS HB hb;clear hb hbox hg;have bX:=cA3 aN.out)|((with_reducible refine gC (f:=49) rfl ?_);refine gL (some 8) Try.func49 #[.slice aH aA.length aI,a1] ?_;(with_reducible refine (Y35.calls k _ _ aA a1 aE _ ?side1 ?side2 A3.out).mono ?_);(case side1=>exact cM (cB aW.out HB.out));(case side2=>exact aX.out);rintro e w' ⟨rfl,⟨nd,rfl⟩⟩;refine ⟨_,rfl,?_⟩)|((with_reducible refine gC (f:=50) rfl ?_);refine gL (some 14) Try.func50 #[.slice aJ aC.length aK,aE] ?_;(with_reducible refine (Y38.calls k _ _ aC aE aG _ ?side1 ?side2 A7.out).mono ?_);(case side1=>exact cM (cB bD.out (bl HB.out)));(case side2=>exact bG.out);rintro e w' ⟨rfl,⟨nd,rfl⟩⟩;refine ⟨_,rfl,?_⟩)|((with_reducible refine gC (f:=51) rfl ?_);refine gL (some 20) Try.func51 #[.slice aQ aD.length aT,aG] ?_;(with_reducible refine (Y42.calls k _ _ aD aG aV _ ?side1 ?side2 bQ.out).mono ?_);(case side1=>exact cM (cB bK.out (bl HB.out)));(case side2=>exact bL.out);rintro e w' ⟨rfl,⟨nd,rfl⟩⟩;refine ⟨_,rfl,?_⟩))
 go_ret
 exact ⟨xW,bl HB.out⟩

def Y41.l0:Nat→List Int→Int→Int→Option (Int)
 | 0,_,_,_=>none
 | k+1,x0,x1,x5=>if x5<(x0.length:Int) then (if 0≤x5 then (if (rd x0 x5)=((x1) % 256) then (Y41.l0 k x0 (wrap64 (x1+1)) (wrap64 (x5+1))) else (some (-1))) else (none)) else (some x1)
def Y41.f (k:Nat) (l0:List Int) (a1:Int):Option (Int):=Y41.l0 k l0 a1 0
theorem Y41.mono_l:∀ k,(∀ y0 y1 y2,LeO (Y41.l0 k y0 y1 y2) (Y41.l0 (k+1) y0 y1 y2))
 | 0=>fun _ _ _ r h=>by simp [Y41.l0] at h
 | k+1=>by
  have ih0:=Y41.mono_l k
  ·intro y0 y1 y2
   unfold Y41.l0
   repeat' first|(with_reducible first|apply ih0|exact lR _|exact lN _|refine lI ?_ ?_|refine lB ?_ fun _=>?_)|exact lN _|refine lI ?_ ?_|refine lB ?_ fun _=>?_
theorem Y41.mono:∀ a0 a1 k,LeO (Y41.f k a0 a1) (Y41.f (k+1) a0 a1):=by
 intro a0 a1 k;have ih0:=Y41.mono_l k;unfold Y41.f
 repeat' first|(with_reducible first|apply ih0|exact lR _|exact lN _|refine lI ?_ ?_|refine lB ?_ fun _=>?_)|exact lN _|refine lI ?_ ?_|refine lB ?_ fun _=>?_
set_option maxHeartbeats 60000000 in
set_option maxRecDepth 100000 in
theorem Y41.calls (k:Nat) (A0:Option Addr) (c0:Nat) (l0:List Int) (a1 r:Int) (w:World) (hr0:Kd.C (Kd.int .u8) w A0 l0.length l0) (hc0:l0.length≤c0) (h:Y41.f k l0 a1=some r) :
  Calls Try.prog 52 #[.slice A0 l0.length c0,a1] w fun e w'=>e=.returned (.int .i64 r)∧Drawn0 w w':=by
 have aJ:=aM hr0;have aW:=aM hc0;clear hr0 hc0;have H:(Y41.l0 k l0 a1 0)=some r:=h;clear h;have H':=aM H;clear H;go_enter Try.func52,Try.ntmps52
 go_wp2
 go_loopg [1,5] k (fun kq v1 v5 w'=>∃ (aC:Int) (aA:Int),v1=.int .i64 aC∧v5=.int .i64 aA∧Aside0 (Y41.l0 kq l0 aC aA=some r)∧Aside0 (kq≤k)∧Drawn0 w w')
 case atStart=>exact ⟨(a1),(0),xE,xE,H',⟨Nat.le_refl _⟩,by repeat (first|exact Drawn0.refl _|apply Drawn0.step)⟩
 case round =>
  clear H'
  try clear p2
  obtain ⟨aC,aA,rfl,rfl,HA,aK,⟨m1,rfl⟩⟩:=hrel;cases gk with
  | zero=>exact absurd HA.out (by simp [Y41.l0])
  | succ k1 =>
   have H:=HA.out;clear HA;simp only [Y41.l0] at H
   by_cases c3:aA<(l0.length:Int)
   case neg =>
    rw [if_neg c3] at H
    have aN:=decide_eq_false c3;clear c3;obtain rfl:=Option.some.inj H;go_wp2
    go_ret
    exact ⟨by first|rfl|(simp;done)|(simp [*];done),by repeat (first|exact Drawn0.refl _|apply Drawn0.step)⟩
   rw [if_pos c3] at H
   have aN:=decide_eq_true c3;clear c3;obtain ⟨aV,H⟩:=gI H
   by_cases c5:(rd l0 aA)=((aC) % 256)
   case neg =>
    rw [if_neg c5] at H
    have aQ:((rd l0 aA) == ((aC) % 256))=false:=beq_eq_false_iff_ne.mpr c5;have aT:((rd l0 aA) != ((aC) % 256))=true:=bne_iff_ne.mpr c5;obtain rfl:=Option.some.inj H;have aD:0≤(aA:Int):=dT;have aE:aA<(l0.length:Int):=dT;obtain ⟨aI,aG,aH⟩:=Kd.at_int aJ.out aA aD aE;cases aG
    replace aD:=eq_true aD;replace aE:=eq_true aE;go_wp2
    go_ret
    exact ⟨by first|rfl|(simp;done)|(simp [*];done),by repeat (first|exact Drawn0.refl _|apply Drawn0.step)⟩
   rw [if_pos c5] at H
   have aQ:((rd l0 aA) == ((aC) % 256))=true:=beq_iff_eq.mpr c5;have aT:((rd l0 aA) != ((aC) % 256))=false:=bne_eq_false_iff_eq.mpr c5;clear c5;have H':=aM H;clear H;have aD:0≤(aA:Int):=dT;have aE:aA<(l0.length:Int):=dT;obtain ⟨aI,aG,aH⟩:=Kd.at_int aJ.out aA aD aE;cases aG
   replace aD:=eq_true aD;replace aE:=eq_true aE;go_wp2
   go_roundg k1
   case measure=>have:=aK.out;omega
   case rel=>exact ⟨(wS aC),(wS aA),xE,xE,H',⟨by have:=aK.out;omega⟩,by repeat (first|exact Drawn0.refl _|apply Drawn0.step)⟩

def Y47.l0:Nat→List (S65)→Int→Int→Option (Int)
 | 0,_,_,_=>none
 | k+1,x0,x1,x5=>if x5<(x0.length:Int) then (if 0≤x5 then (if ((rd_T65 x0 x5).f0)=x1 then (if ((rd_T65 x0 x5).f1.f0)=(wrap64 (x1+1)) then (if ((rd_T65 x0 x5).f1.f1)=(wrap64 ((wrap64 (x1+1))+1)) then (if ((rd_T65 x0 x5).f1.f2)=(wrap64 ((wrap64 ((wrap64 (x1+1))+1))+1)) then ((Y41.f k ((rd_T65 x0 x5).f1.f3) (wrap64 ((wrap64 ((wrap64 ((wrap64 (x1+1))+1))+1))+1))).bind fun aA=>(if aA<0 then (some (-1)) else (Y47.l0 k x0 aA (wrap64 (x5+1))))) else (some (-1))) else (some (-1))) else (some (-1))) else (some (-1))) else (none)) else (some x1)
def Y47.f (k:Nat) (l0:List (S65)) (a1:Int):Option (Int):=Y47.l0 k l0 a1 0
theorem Y47.mono_l:∀ k,(∀ y0 y1 y2,LeO (Y47.l0 k y0 y1 y2) (Y47.l0 (k+1) y0 y1 y2))
 | 0=>fun _ _ _ r h=>by simp [Y47.l0] at h
 | k+1=>by
  have ih0:=Y47.mono_l k
  ·intro y0 y1 y2
   unfold Y47.l0
   repeat' first|(with_reducible first|apply ih0|apply Y41.mono|exact lR _|exact lN _|refine lI ?_ ?_|refine lB ?_ fun _=>?_)|exact lN _|refine lI ?_ ?_|refine lB ?_ fun _=>?_
theorem Y47.mono:∀ a0 a1 k,LeO (Y47.f k a0 a1) (Y47.f (k+1) a0 a1):=by
 intro a0 a1 k;have ih0:=Y47.mono_l k;unfold Y47.f
 repeat' first|(with_reducible first|apply ih0|apply Y41.mono|exact lR _|exact lN _|refine lI ?_ ?_|refine lB ?_ fun _=>?_)|exact lN _|refine lI ?_ ?_|refine lB ?_ fun _=>?_
set_option maxHeartbeats 60000000 in
set_option maxRecDepth 100000 in
theorem Y47.calls (k:Nat) (A0:Option Addr) (c0:Nat) (l0:List (S65)) (a1 r:Int) (w:World) (hr0:Kd.C k65 w A0 l0.length l0) (hc0:l0.length≤c0) (h:Y47.f k l0 a1=some r) :
  Calls Try.prog 17 #[.slice A0 l0.length c0,a1] w fun e w'=>e=.returned (.int .i64 r)∧Drawn0 w w':=by
 have aT:=aM hr0;have eD:=aM hc0;clear hr0 hc0;have H:(Y47.l0 k l0 a1 0)=some r:=h;clear h;have H':=aM H;clear H;go_enter Try.func17,Try.ntmps17
 go_wp2
 go_loopg [1,5] k (fun kq v1 v5 w'=>∃ (aD:Int) (aA:Int),v1=.int .i64 aD∧v5=.int .i64 aA∧Aside0 (Y47.l0 kq l0 aD aA=some r)∧Aside0 (kq≤k)∧Drawn0 w w')
 case atStart=>exact ⟨(a1),(0),xE,xE,H',⟨Nat.le_refl _⟩,by repeat (first|exact Drawn0.refl _|apply Drawn0.step)⟩
 case round =>
  clear H'
  repeat first|clear c1|clear p2
  obtain ⟨aD,aA,rfl,rfl,HA,dQ,⟨m1,rfl⟩⟩:=hrel;cases gk with
  | zero=>exact absurd HA.out (by simp [Y47.l0])
  | succ k1 =>
   have H:=HA.out;clear HA;simp only [Y47.l0] at H
   by_cases c3:aA<(l0.length:Int)
   case neg =>
    rw [if_neg c3] at H
    have dS:=decide_eq_false c3;clear c3;obtain rfl:=Option.some.inj H;go_wp2
    go_ret
    exact ⟨by first|rfl|(simp;done)|(simp [*];done),by repeat (first|exact Drawn0.refl _|apply Drawn0.step)⟩
   rw [if_pos c3] at H
   have dS:=decide_eq_true c3;clear c3;obtain ⟨eC,H⟩:=gI H
   by_cases c5:((rd_T65 l0 aA).f0)=aD
   case neg =>
    rw [if_neg c5] at H
    have dU:(((rd_T65 l0 aA).f0) == aD)=false:=beq_eq_false_iff_ne.mpr c5;have dV:(((rd_T65 l0 aA).f0) != aD)=true:=bne_iff_ne.mpr c5;obtain rfl:=Option.some.inj H;have aG:0≤(aA:Int):=dT;have aH:aA<(l0.length:Int):=dT;obtain ⟨aE,aX,bA,bD,bI,bJ,bK,bL,aC,hl623_4,hi623_4⟩:=at_T65 aT.out aA aG aH;cases bD
    have bM:=aM hi623_4;have bN:=aM hl623_4;clear hi623_4 hl623_4;replace aG:=eq_true aG;replace aH:=eq_true aH;go_wp2
    go_ret
    exact ⟨by first|rfl|(simp;done)|(simp [*];done),by repeat (first|exact Drawn0.refl _|apply Drawn0.step)⟩
   rw [if_pos c5] at H
   have dU:(((rd_T65 l0 aA).f0) == aD)=true:=beq_iff_eq.mpr c5;have dV:(((rd_T65 l0 aA).f0) != aD)=false:=bne_eq_false_iff_eq.mpr c5;clear c5
   by_cases c6:((rd_T65 l0 aA).f1.f0)=(wS aD)
   case neg =>
    rw [if_neg c6] at H
    have dW:(((rd_T65 l0 aA).f1.f0) == (wS aD))=false:=beq_eq_false_iff_ne.mpr c6;have dX:(((rd_T65 l0 aA).f1.f0) != (wS aD))=true:=bne_iff_ne.mpr c6;obtain rfl:=Option.some.inj H;have aG:0≤(aA:Int):=dT;have aH:aA<(l0.length:Int):=dT;obtain ⟨aE,aX,bA,bD,bI,bJ,bK,bL,aC,hl623_4,hi623_4⟩:=at_T65 aT.out aA aG aH;cases bD
    have bM:=aM hi623_4;have bN:=aM hl623_4;clear hi623_4 hl623_4;replace aG:=eq_true aG;replace aH:=eq_true aH;have aI:0≤(aA:Int):=dT;have aJ:aA<(l0.length:Int):=dT;obtain ⟨aW,cD,cE,bP,bT,bU,bV,bW,aK,hl624_4,hi624_4⟩:=at_T65 aT.out aA aI aJ;obtain rfl:aE=aW:=(by injection bP)
    have bX:=aM hi624_4;have bY:=aM hl624_4;clear hi624_4 hl624_4;replace aI:=eq_true aI;replace aJ:=eq_true aJ;have ea_:=Option.some.inj (aC.symm.trans aK)
    injection ea_ with ea_ en_ ec_
    subst ea_;subst ec_;clear en_;go_wp2
    go_ret
    exact ⟨by first|rfl|(simp;done)|(simp [*];done),by repeat (first|exact Drawn0.refl _|apply Drawn0.step)⟩
   rw [if_pos c6] at H
   have dW:(((rd_T65 l0 aA).f1.f0) == (wS aD))=true:=beq_iff_eq.mpr c6;have dX:(((rd_T65 l0 aA).f1.f0) != (wS aD))=false:=bne_eq_false_iff_eq.mpr c6;clear c6
   by_cases c7:((rd_T65 l0 aA).f1.f1)=(wS (wS aD))
   case neg =>
    rw [if_neg c7] at H
    have dY:(((rd_T65 l0 aA).f1.f1) == (wS (wS aD)))=false:=beq_eq_false_iff_ne.mpr c7;have dZ:(((rd_T65 l0 aA).f1.f1) != (wS (wS aD)))=true:=bne_iff_ne.mpr c7;obtain rfl:=Option.some.inj H;have aG:0≤(aA:Int):=dT;have aH:aA<(l0.length:Int):=dT;obtain ⟨aE,aX,bA,bD,bI,bJ,bK,bL,aC,hl623_4,hi623_4⟩:=at_T65 aT.out aA aG aH;cases bD
    have bM:=aM hi623_4;have bN:=aM hl623_4;clear hi623_4 hl623_4;replace aG:=eq_true aG;replace aH:=eq_true aH;have aI:0≤(aA:Int):=dT;have aJ:aA<(l0.length:Int):=dT;obtain ⟨aW,cD,cE,bP,bT,bU,bV,bW,aK,hl624_4,hi624_4⟩:=at_T65 aT.out aA aI aJ;obtain rfl:aE=aW:=(by injection bP)
    have bX:=aM hi624_4;have bY:=aM hl624_4;clear hi624_4 hl624_4;replace aI:=eq_true aI;replace aJ:=eq_true aJ;have ea_:=Option.some.inj (aC.symm.trans aK)
    injection ea_ with ea_ en_ ec_
    subst ea_;subst ec_;clear en_;have aN:0≤(aA:Int):=dT;have aQ:aA<(l0.length:Int):=dT;obtain ⟨bQ,cT,cU,bZ,cH,cK,cL,cN,aV,hl625_4,hi625_4⟩:=at_T65 aT.out aA aN aQ;obtain rfl:aE=bQ:=(by injection bZ)
    have cO:=aM hi625_4;have cP:=aM hl625_4;clear hi625_4 hl625_4;replace aN:=eq_true aN;replace aQ:=eq_true aQ;have ea_:=Option.some.inj (aC.symm.trans aV)
    injection ea_ with ea_ en_ ec_
    subst ea_;subst ec_;clear en_;go_wp2
    go_ret
    exact ⟨by first|rfl|(simp;done)|(simp [*];done),by repeat (first|exact Drawn0.refl _|apply Drawn0.step)⟩
   rw [if_pos c7] at H
   have dY:(((rd_T65 l0 aA).f1.f1) == (wS (wS aD)))=true:=beq_iff_eq.mpr c7;have dZ:(((rd_T65 l0 aA).f1.f1) != (wS (wS aD)))=false:=bne_eq_false_iff_eq.mpr c7;clear c7
   by_cases c8:((rd_T65 l0 aA).f1.f2)=(wS (wS (wS aD)))
   case neg =>
    rw [if_neg c8] at H
    have eA:(((rd_T65 l0 aA).f1.f2) == (wS (wS (wS aD))))=false:=beq_eq_false_iff_ne.mpr c8;have eB:(((rd_T65 l0 aA).f1.f2) != (wS (wS (wS aD))))=true:=bne_iff_ne.mpr c8;obtain rfl:=Option.some.inj H;have aG:0≤(aA:Int):=dT;have aH:aA<(l0.length:Int):=dT;obtain ⟨aE,aX,bA,bD,bI,bJ,bK,bL,aC,hl623_4,hi623_4⟩:=at_T65 aT.out aA aG aH;cases bD
    have bM:=aM hi623_4;have bN:=aM hl623_4;clear hi623_4 hl623_4;replace aG:=eq_true aG;replace aH:=eq_true aH;have aI:0≤(aA:Int):=dT;have aJ:aA<(l0.length:Int):=dT;obtain ⟨aW,cD,cE,bP,bT,bU,bV,bW,aK,hl624_4,hi624_4⟩:=at_T65 aT.out aA aI aJ;obtain rfl:aE=aW:=(by injection bP)
    have bX:=aM hi624_4;have bY:=aM hl624_4;clear hi624_4 hl624_4;replace aI:=eq_true aI;replace aJ:=eq_true aJ;have ea_:=Option.some.inj (aC.symm.trans aK)
    injection ea_ with ea_ en_ ec_
    subst ea_;subst ec_;clear en_;have aN:0≤(aA:Int):=dT;have aQ:aA<(l0.length:Int):=dT;obtain ⟨bQ,cT,cU,bZ,cH,cK,cL,cN,aV,hl625_4,hi625_4⟩:=at_T65 aT.out aA aN aQ;obtain rfl:aE=bQ:=(by injection bZ)
    have cO:=aM hi625_4;have cP:=aM hl625_4;clear hi625_4 hl625_4;replace aN:=eq_true aN;replace aQ:=eq_true aQ;have ea_:=Option.some.inj (aC.symm.trans aV)
    injection ea_ with ea_ en_ ec_
    subst ea_;subst ec_;clear en_;have bG:0≤(aA:Int):=dT;have bH:aA<(l0.length:Int):=dT;obtain ⟨cG,dG,dH,cV,cW,cX,cY,dA,bO,hl626_4,hi626_4⟩:=at_T65 aT.out aA bG bH;obtain rfl:aE=cG:=(by injection cV)
    have dB:=aM hi626_4;have dC:=aM hl626_4;clear hi626_4 hl626_4;replace bG:=eq_true bG;replace bH:=eq_true bH;have ea_:=Option.some.inj (aC.symm.trans bO)
    injection ea_ with ea_ en_ ec_
    subst ea_;subst ec_;clear en_;go_wp2
    go_ret
    exact ⟨by first|rfl|(simp;done)|(simp [*];done),by repeat (first|exact Drawn0.refl _|apply Drawn0.step)⟩
   rw [if_pos c8] at H
   have eA:(((rd_T65 l0 aA).f1.f2) == (wS (wS (wS aD))))=true:=beq_iff_eq.mpr c8;have eB:(((rd_T65 l0 aA).f1.f2) != (wS (wS (wS aD))))=false:=bne_eq_false_iff_eq.mpr c8;clear c8;obtain ⟨dE,dR,H⟩:=hB H;have A9:=aM dR;clear dR
   by_cases dD:dE<0
   case pos =>
    rw [if_pos dD] at H
    have dP:=decide_eq_true dD;clear dD;obtain rfl:=Option.some.inj H;have aG:0≤(aA:Int):=dT;have aH:aA<(l0.length:Int):=dT;obtain ⟨aE,aX,bA,bD,bI,bJ,bK,bL,aC,hl623_4,hi623_4⟩:=at_T65 aT.out aA aG aH;cases bD
    have bM:=aM hi623_4;have bN:=aM hl623_4;clear hi623_4 hl623_4;replace aG:=eq_true aG;replace aH:=eq_true aH;have aI:0≤(aA:Int):=dT;have aJ:aA<(l0.length:Int):=dT;obtain ⟨aW,cD,cE,bP,bT,bU,bV,bW,aK,hl624_4,hi624_4⟩:=at_T65 aT.out aA aI aJ;obtain rfl:aE=aW:=(by injection bP)
    have bX:=aM hi624_4;have bY:=aM hl624_4;clear hi624_4 hl624_4;replace aI:=eq_true aI;replace aJ:=eq_true aJ;have ea_:=Option.some.inj (aC.symm.trans aK)
    injection ea_ with ea_ en_ ec_
    subst ea_;subst ec_;clear en_;have aN:0≤(aA:Int):=dT;have aQ:aA<(l0.length:Int):=dT;obtain ⟨bQ,cT,cU,bZ,cH,cK,cL,cN,aV,hl625_4,hi625_4⟩:=at_T65 aT.out aA aN aQ;obtain rfl:aE=bQ:=(by injection bZ)
    have cO:=aM hi625_4;have cP:=aM hl625_4;clear hi625_4 hl625_4;replace aN:=eq_true aN;replace aQ:=eq_true aQ;have ea_:=Option.some.inj (aC.symm.trans aV)
    injection ea_ with ea_ en_ ec_
    subst ea_;subst ec_;clear en_;have bG:0≤(aA:Int):=dT;have bH:aA<(l0.length:Int):=dT;obtain ⟨cG,dG,dH,cV,cW,cX,cY,dA,bO,hl626_4,hi626_4⟩:=at_T65 aT.out aA bG bH;obtain rfl:aE=cG:=(by injection cV)
    have dB:=aM hi626_4;have dC:=aM hl626_4;clear hi626_4 hl626_4;replace bG:=eq_true bG;replace bH:=eq_true bH;have ea_:=Option.some.inj (aC.symm.trans bO)
    injection ea_ with ea_ en_ ec_
    subst ea_;subst ec_;clear en_;have cA:0≤(aA:Int):=dT;have cC:aA<(l0.length:Int):=dT;obtain ⟨dF,dN,dO,dI,dJ,dK,dL,dM,cQ,hl627_4,hi627_4⟩:=at_T65 aT.out aA cA cC;obtain rfl:aE=dF:=(by injection dI)
    have cR:=aM hi627_4;have cS:=aM hl627_4;clear hi627_4 hl627_4;replace cA:=eq_true cA;replace cC:=eq_true cC;have ea_:=Option.some.inj (aC.symm.trans cQ)
    injection ea_ with ea_ en_ ec_
    subst ea_;subst ec_;clear en_;go_wp2_with (first|((with_reducible refine gC (f:=52) rfl ?_);refine gL (some 58) Try.func52 #[.slice aX ((rd_T65 l0 aA).f1.f3).length bA,.int .i64 (wS (wS (wS (wS aD))))] ?_;(with_reducible refine (Y41.calls k1 _ _ ((rd_T65 l0 aA).f1.f3) (wS (wS (wS (wS aD)))) dE _ ?side1 ?side2 A9.out).mono ?_);(case side1=>exact cM cR.out);(case side2=>exact cS.out);rintro e w' ⟨rfl,⟨nd,rfl⟩⟩;refine ⟨_,rfl,?_⟩))
    go_ret
    exact ⟨by first|rfl|(simp;done)|(simp [*];done),by repeat (first|exact Drawn0.refl _|apply Drawn0.step)⟩
   rw [if_neg dD] at H
   have dP:=decide_eq_false dD;clear dD;have H':=aM H;clear H;have aG:0≤(aA:Int):=dT;have aH:aA<(l0.length:Int):=dT;obtain ⟨aE,aX,bA,bD,bI,bJ,bK,bL,aC,hl623_4,hi623_4⟩:=at_T65 aT.out aA aG aH;cases bD
   have bM:=aM hi623_4;have bN:=aM hl623_4;clear hi623_4 hl623_4;replace aG:=eq_true aG;replace aH:=eq_true aH;have aI:0≤(aA:Int):=dT;have aJ:aA<(l0.length:Int):=dT;obtain ⟨aW,cD,cE,bP,bT,bU,bV,bW,aK,hl624_4,hi624_4⟩:=at_T65 aT.out aA aI aJ;obtain rfl:aE=aW:=(by injection bP)
   have bX:=aM hi624_4;have bY:=aM hl624_4;clear hi624_4 hl624_4;replace aI:=eq_true aI;replace aJ:=eq_true aJ;have ea_:=Option.some.inj (aC.symm.trans aK)
   injection ea_ with ea_ en_ ec_
   subst ea_;subst ec_;clear en_;have aN:0≤(aA:Int):=dT;have aQ:aA<(l0.length:Int):=dT;obtain ⟨bQ,cT,cU,bZ,cH,cK,cL,cN,aV,hl625_4,hi625_4⟩:=at_T65 aT.out aA aN aQ;obtain rfl:aE=bQ:=(by injection bZ)
   have cO:=aM hi625_4;have cP:=aM hl625_4;clear hi625_4 hl625_4;replace aN:=eq_true aN;replace aQ:=eq_true aQ;have ea_:=Option.some.inj (aC.symm.trans aV)
   injection ea_ with ea_ en_ ec_
   subst ea_;subst ec_;clear en_;have bG:0≤(aA:Int):=dT;have bH:aA<(l0.length:Int):=dT;obtain ⟨cG,dG,dH,cV,cW,cX,cY,dA,bO,hl626_4,hi626_4⟩:=at_T65 aT.out aA bG bH;obtain rfl:aE=cG:=(by injection cV)
   have dB:=aM hi626_4;have dC:=aM hl626_4;clear hi626_4 hl626_4;replace bG:=eq_true bG;replace bH:=eq_true bH;have ea_:=Option.some.inj (aC.symm.trans bO)
   injection ea_ with ea_ en_ ec_
   subst ea_;subst ec_;clear en_;have cA:0≤(aA:Int):=dT;have cC:aA<(l0.length:Int):=dT;obtain ⟨dF,dN,dO,dI,dJ,dK,dL,dM,cQ,hl627_4,hi627_4⟩:=at_T65 aT.out aA cA cC;obtain rfl:aE=dF:=(by injection dI)
   have cR:=aM hi627_4;have cS:=aM hl627_4;clear hi627_4 hl627_4;replace cA:=eq_true cA;replace cC:=eq_true cC;have ea_:=Option.some.inj (aC.symm.trans cQ)
   injection ea_ with ea_ en_ ec_
   subst ea_;subst ec_;clear en_;go_wp2_with (first|((with_reducible refine gC (f:=52) rfl ?_);refine gL (some 58) Try.func52 #[.slice aX ((rd_T65 l0 aA).f1.f3).length bA,.int .i64 (wS (wS (wS (wS aD))))] ?_;(with_reducible refine (Y41.calls k1 _ _ ((rd_T65 l0 aA).f1.f3) (wS (wS (wS (wS aD)))) dE _ ?side1 ?side2 A9.out).mono ?_);(case side1=>exact cM cR.out);(case side2=>exact cS.out);rintro e w' ⟨rfl,⟨nd,rfl⟩⟩;refine ⟨_,rfl,?_⟩))
   go_roundg k1
   case measure=>have:=dQ.out;omega
   case rel=>exact ⟨(dE),(wS aA),xE,xE,H',⟨by have:=dQ.out;omega⟩,by repeat (first|exact Drawn0.refl _|apply Drawn0.step)⟩

-- NOT PRINTED: function 3 (Y49)

end Go.Proofs.Ytfljolhhgheheaa.PFnExactPass

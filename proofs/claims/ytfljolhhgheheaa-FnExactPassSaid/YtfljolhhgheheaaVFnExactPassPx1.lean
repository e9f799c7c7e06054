/- A part of the proof of laws.FnExactPass. No condition beyond what its theorems say. -/
import Derived.Test.YtfljolhhgheheaaVFnExactPassPx0
namespace Go.Proofs.Ytfljolhhgheheaa.PFnExactPass
open Go.RowKit Go.Proofs.YtfljolhhgheheaaW.PrintWords Go.Proofs.YtfljolhhgheheaaW.PrintLast Go.Proofs.YtfljolhhgheheaaW.PrintMore
set_option linter.unusedVariables false
set_option linter.unusedSimpArgs false

def Y69.f (l0:List Bool) (a1:Int):Option (Int):=if (wrap64 (a1 - (l0.length:Int)))<0 then (some (-1)) else (some (wrap64 (a1 - (l0.length:Int))))
set_option maxHeartbeats 60000000 in
set_option maxRecDepth 100000 in
theorem Y69.calls (A0:Option Addr) (c0:Nat) (l0:List Bool) (a1 r:Int) (w:World) (hr0:Kd.C Kd.bool w A0 l0.length l0) (hc0:l0.length≤c0) (h:Y69.f l0 a1=some r) :
  Calls Try.prog 18 #[.slice A0 l0.length c0,a1] w fun e w'=>e=.returned (.int .i64 r)∧Drawn0 w w':=by
 have aC:=aM hr0;have aD:=aM hc0;clear hr0 hc0;have H:(if (wrap64 (a1 - (l0.length:Int)))<0 then (some (-1)) else (some (wrap64 (a1 - (l0.length:Int)))))=some r:=h;clear h
 by_cases c3:(wrap64 (a1 - (l0.length:Int)))<0
 case pos =>
  rw [if_pos c3] at H
  have aA:=decide_eq_true c3;clear c3;obtain rfl:=Option.some.inj H;go_enter Try.func18,Try.ntmps18
  go_wp2
  go_ret
  exact ⟨by first|rfl|(simp;done)|(simp [*];done),by repeat (first|exact Drawn0.refl _|apply Drawn0.step)⟩
 rw [if_neg c3] at H
 have aA:=decide_eq_false c3;clear c3;obtain rfl:=Option.some.inj H;go_enter Try.func18,Try.ntmps18
 go_wp2
 go_ret
 exact ⟨by first|rfl|(simp;done)|(simp [*];done),by repeat (first|exact Drawn0.refl _|apply Drawn0.step)⟩

def Y73.f (l0:List Int) (a1:Int):Option (Int):=if (wrap64 (a1 - (l0.length:Int)))<0 then (some (-1)) else (some (wrap64 (a1 - (l0.length:Int))))
set_option maxHeartbeats 60000000 in
set_option maxRecDepth 100000 in
theorem Y73.calls (A0:Option Addr) (c0:Nat) (l0:List Int) (a1 r:Int) (w:World) (hr0:Kd.C (Kd.int .i64) w A0 l0.length l0) (hc0:l0.length≤c0) (h:Y73.f l0 a1=some r) :
  Calls Try.prog 78 #[.slice A0 l0.length c0,a1] w fun e w'=>e=.returned (.int .i64 r)∧Drawn0 w w':=by
 have aC:=aM hr0;have aD:=aM hc0;clear hr0 hc0;have H:(if (wrap64 (a1 - (l0.length:Int)))<0 then (some (-1)) else (some (wrap64 (a1 - (l0.length:Int)))))=some r:=h;clear h
 by_cases c3:(wrap64 (a1 - (l0.length:Int)))<0
 case pos =>
  rw [if_pos c3] at H
  have aA:=decide_eq_true c3;clear c3;obtain rfl:=Option.some.inj H;go_enter Try.func78,Try.ntmps78
  go_wp2
  go_ret
  exact ⟨by first|rfl|(simp;done)|(simp [*];done),by repeat (first|exact Drawn0.refl _|apply Drawn0.step)⟩
 rw [if_neg c3] at H
 have aA:=decide_eq_false c3;clear c3;obtain rfl:=Option.some.inj H;go_enter Try.func78,Try.ntmps78
 go_wp2
 go_ret
 exact ⟨by first|rfl|(simp;done)|(simp [*];done),by repeat (first|exact Drawn0.refl _|apply Drawn0.step)⟩

def Y81.f (aD:Int) (aC:List Int) (a1:Int):Option (Int):=(Y73.f aC a1).bind fun aA=>(if aA<0 then (some (-1)) else (some aA))
set_option maxHeartbeats 60000000 in
set_option maxRecDepth 100000 in
theorem Y81.calls (aG:Int) (aC:Option Addr) (aD:Nat) (aA:List Int) (a1 r:Int) (w:World) (hr0_1:Kd.C (Kd.int .i64) w aC aA.length aA) (hc0_1:aA.length≤aD) (h:Y81.f aG aA a1=some r) :
  Calls Try.prog 53 #[.agg #[aG,.slice aC aA.length aD],a1] w fun e w'=>e=.returned (.int .i64 r)∧Below w.heap.size w w':=by
 have aW:=Try.underlying79;have aI:=aM hr0_1;have aJ:=aM hc0_1;clear hr0_1 hc0_1;have HB:=aM (Below.refl w.heap.size w);have H:((Y73.f aA a1).bind fun aE=>(if aE<0 then (some (-1)) else (some aE)))=some r:=h
 clear h;obtain ⟨aE,aT,H⟩:=hB H;have A3:=aM aT;clear aT
 by_cases c4:aE<0
 case pos =>
  rw [if_pos c4] at H
  have aV:=decide_eq_true c4;clear c4;obtain rfl:=Option.some.inj H;go_enter Try.func53,Try.ntmps53
  go_wp2_with (first|((with_reducible refine gD (N:=2) rfl ?_);refine bE (N:=2) (cs:=#[aG,.slice aC aA.length aD]) (t:=79) ?_;intro aK hg w5 hbox hb;have aH:=aM (hbox);have aN:=gF hg HB;have aQ:=gF hg HB;replace HB:=rS HB hb;clear hb hbox hg;have aX:=cA2 aH.out)|((with_reducible refine gC (f:=78) rfl ?_);refine gL (some 8) Try.func78 #[.slice aC aA.length aD,a1] ?_;(with_reducible refine (Y73.calls _ _ aA a1 aE _ ?side1 ?side2 A3.out).mono ?_);(case side1=>exact cM (cB aI.out HB.out));(case side2=>exact aJ.out);rintro e w' ⟨rfl,⟨nd,rfl⟩⟩;refine ⟨_,rfl,?_⟩))
  go_ret
  exact ⟨xW,bl HB.out⟩
 rw [if_neg c4] at H
 have aV:=decide_eq_false c4;clear c4;obtain rfl:=Option.some.inj H;go_enter Try.func53,Try.ntmps53
 go_wp2_with (first|((with_reducible refine gD (N:=2) rfl ?_);refine bE (N:=2) (cs:=#[aG,.slice aC aA.length aD]) (t:=79) ?_;intro aK hg w7 hbox hb;have aH:=aM (hbox);have aN:=gF hg HB;have aQ:=gF hg HB;replace HB:=rS HB hb;clear hb hbox hg;have bA:=cA2 aH.out)|((with_reducible refine gC (f:=78) rfl ?_);refine gL (some 8) Try.func78 #[.slice aC aA.length aD,a1] ?_;(with_reducible refine (Y73.calls _ _ aA a1 aE _ ?side1 ?side2 A3.out).mono ?_);(case side1=>exact cM (cB aI.out HB.out));(case side2=>exact aJ.out);rintro e w' ⟨rfl,⟨nd,rfl⟩⟩;refine ⟨_,rfl,?_⟩))
 go_ret
 exact ⟨xW,bl HB.out⟩

def Y27.l0:Nat→List (S79)→Int→Int→Option (Int)
 | 0,_,_,_=>none
 | k+1,x0,x1,x5=>if x5<(x0.length:Int) then (if 0≤x5 then ((Y81.f ((rd_T79 x0 x5).f0) ((rd_T79 x0 x5).f1) x1).bind fun aA=>(if aA<0 then (some (-1)) else (Y27.l0 k x0 aA (wrap64 (x5+1))))) else (none)) else (some x1)
def Y27.f (k:Nat) (l0:List (S79)) (a1:Int):Option (Int):=if (wrap64 (a1 - (l0.length:Int)))<0 then (some (-1)) else (Y27.l0 k l0 (wrap64 (a1 - (l0.length:Int))) 0)
theorem Y27.mono_l:∀ k,(∀ y0 y1 y2,LeO (Y27.l0 k y0 y1 y2) (Y27.l0 (k+1) y0 y1 y2))
 | 0=>fun _ _ _ r h=>by simp [Y27.l0] at h
 | k+1=>by
  have ih0:=Y27.mono_l k
  ·intro y0 y1 y2
   unfold Y27.l0
   repeat' first|(with_reducible first|apply ih0|exact lR _|exact lN _|refine lI ?_ ?_|refine lB ?_ fun _=>?_)|exact lN _|refine lI ?_ ?_|refine lB ?_ fun _=>?_
theorem Y27.mono:∀ a0 a1 k,LeO (Y27.f k a0 a1) (Y27.f (k+1) a0 a1):=by
 intro a0 a1 k;have ih0:=Y27.mono_l k;unfold Y27.f
 repeat' first|(with_reducible first|apply ih0|exact lR _|exact lN _|refine lI ?_ ?_|refine lB ?_ fun _=>?_)|exact lN _|refine lI ?_ ?_|refine lB ?_ fun _=>?_
set_option maxHeartbeats 60000000 in
set_option maxRecDepth 100000 in
theorem Y27.calls (k:Nat) (A0:Option Addr) (c0:Nat) (l0:List (S79)) (a1 r:Int) (w:World) (hr0:Kd.C k79 w A0 l0.length l0) (hc0:l0.length≤c0) (h:Y27.f k l0 a1=some r) :
  Calls Try.prog 19 #[.slice A0 l0.length c0,a1] w fun e w'=>e=.returned (.int .i64 r)∧Below w.heap.size w w':=by
 have bI:=Try.underlying79;have aX:=aM hr0;have bK:=aM hc0;clear hr0 hc0;have HB:=aM (Below.refl w.heap.size w);have H:(if (wrap64 (a1 - (l0.length:Int)))<0 then (some (-1)) else (Y27.l0 k l0 (wrap64 (a1 - (l0.length:Int))) 0))=some r:=h;clear h
 by_cases c3:(wrap64 (a1 - (l0.length:Int)))<0
 case pos =>
  rw [if_pos c3] at H
  have aV:=decide_eq_true c3;clear c3;obtain rfl:=Option.some.inj H;go_enter Try.func19,Try.ntmps19
  go_wp2
  go_ret
  exact ⟨xW,bl HB.out⟩
 rw [if_neg c3] at H
 have aV:=decide_eq_false c3;clear c3;have H':=aM H;clear H;go_enter Try.func19,Try.ntmps19
 go_wp2
 go_loopg [1,5] k (fun kq v1 v5 w'=>∃ (aE:Int) (aA:Int),v1=.int .i64 aE∧v5=.int .i64 aA∧Aside0 (Y27.l0 kq l0 aE aA=some r)∧Aside0 (kq≤k)∧Aside0 (Below w.heap.size w w'))
 case atStart=>exact ⟨(wrap64 (a1 - (l0.length:Int))),(0),xE,xE,H',⟨Nat.le_refl _⟩,⟨bl HB.out⟩⟩
 case round =>
  clear H'
  repeat first|clear c1|clear p2|clear c3|clear aV
  obtain ⟨aE,aA,rfl,rfl,HA,bA,HB⟩:=hrel;cases gk with
  | zero=>exact absurd HA.out (by simp [Y27.l0])
  | succ k1 =>
   have H:=HA.out;clear HA;simp only [Y27.l0] at H
   by_cases c4:aA<(l0.length:Int)
   case neg =>
    rw [if_neg c4] at H
    have bG:=decide_eq_false c4;clear c4;obtain rfl:=Option.some.inj H;go_wp2
    go_ret
    exact ⟨xW,bl HB.out⟩
   rw [if_pos c4] at H
   have bG:=decide_eq_true c4;clear c4;obtain ⟨bJ,H⟩:=gI H;obtain ⟨aQ,bD,H⟩:=hB H;have A6:=aM bD;clear bD
   by_cases c7:aQ<0
   case pos =>
    rw [if_pos c7] at H
    have bH:=decide_eq_true c7;clear c7;obtain rfl:=Option.some.inj H;have aG:0≤(aA:Int):=dT;have aH:aA<(l0.length:Int):=dT;obtain ⟨aW,aK,aN,aT,aC,aD,hl103_1,hi103_1⟩:=at_T79 aX.out aA aG aH;cases aT
    replace aC:=xB HB aC;replace aD:=xB HB aD;have aI:=aM hi103_1;have aJ:=aM hl103_1;clear hi103_1 hl103_1;replace aG:=eq_true aG;replace aH:=eq_true aH;go_wp2_with (first|((with_reducible refine gC (f:=53) rfl ?_);refine gL (some 23) Try.func53 #[.agg #[((rd_T79 l0 aA).f0),.slice aK ((rd_T79 l0 aA).f1).length aN],aE] ?_;(with_reducible refine (Y81.calls ((rd_T79 l0 aA).f0) _ _ ((rd_T79 l0 aA).f1) aE aQ _ ?side1 ?side2 A6.out).mono ?_);(case side1=>exact cM (cB aI.out HB.out));(case side2=>exact aJ.out);rintro e w8 ⟨rfl,hb⟩;refine ⟨_,rfl,?_⟩;replace HB:=rS HB hb;(try clear hb)))
    go_ret
    exact ⟨xW,bl HB.out⟩
   rw [if_neg c7] at H
   have bH:=decide_eq_false c7;clear c7;have H':=aM H;clear H;have aG:0≤(aA:Int):=dT;have aH:aA<(l0.length:Int):=dT;obtain ⟨aW,aK,aN,aT,aC,aD,hl103_1,hi103_1⟩:=at_T79 aX.out aA aG aH;cases aT
   replace aC:=xB HB aC;replace aD:=xB HB aD;have aI:=aM hi103_1;have aJ:=aM hl103_1;clear hi103_1 hl103_1;replace aG:=eq_true aG;replace aH:=eq_true aH;go_wp2_with (first|((with_reducible refine gC (f:=53) rfl ?_);refine gL (some 23) Try.func53 #[.agg #[((rd_T79 l0 aA).f0),.slice aK ((rd_T79 l0 aA).f1).length aN],aE] ?_;(with_reducible refine (Y81.calls ((rd_T79 l0 aA).f0) _ _ ((rd_T79 l0 aA).f1) aE aQ _ ?side1 ?side2 A6.out).mono ?_);(case side1=>exact cM (cB aI.out HB.out));(case side2=>exact aJ.out);rintro e w9 ⟨rfl,hb⟩;refine ⟨_,rfl,?_⟩;replace HB:=rS HB hb;(try clear hb)))
   go_roundg k1
   case measure=>have:=bA.out;omega
   case rel=>exact ⟨(aQ),(wS aA),xE,xE,H',⟨by have:=bA.out;omega⟩,⟨bl HB.out⟩⟩

def Y75.f (l0:List (S90)) (a1:Int):Option (Int):=if (wrap64 (a1 - (l0.length:Int)))<0 then (some (-1)) else (some (wrap64 (a1 - (l0.length:Int))))
set_option maxHeartbeats 60000000 in
set_option maxRecDepth 100000 in
theorem Y75.calls (A0:Option Addr) (c0:Nat) (l0:List (S90)) (a1 r:Int) (w:World) (hr0:Kd.C k90 w A0 l0.length l0) (hc0:l0.length≤c0) (h:Y75.f l0 a1=some r) :
  Calls Try.prog 20 #[.slice A0 l0.length c0,a1] w fun e w'=>e=.returned (.int .i64 r)∧Drawn0 w w':=by
 have aC:=aM hr0;have aD:=aM hc0;clear hr0 hc0;have H:(if (wrap64 (a1 - (l0.length:Int)))<0 then (some (-1)) else (some (wrap64 (a1 - (l0.length:Int)))))=some r:=h;clear h
 by_cases c3:(wrap64 (a1 - (l0.length:Int)))<0
 case pos =>
  rw [if_pos c3] at H
  have aA:=decide_eq_true c3;clear c3;obtain rfl:=Option.some.inj H;go_enter Try.func20,Try.ntmps20
  go_wp2
  go_ret
  exact ⟨by first|rfl|(simp;done)|(simp [*];done),by repeat (first|exact Drawn0.refl _|apply Drawn0.step)⟩
 rw [if_neg c3] at H
 have aA:=decide_eq_false c3;clear c3;obtain rfl:=Option.some.inj H;go_enter Try.func20,Try.ntmps20
 go_wp2
 go_ret
 exact ⟨by first|rfl|(simp;done)|(simp [*];done),by repeat (first|exact Drawn0.refl _|apply Drawn0.step)⟩

def Y60.f (k:Nat) (aE:List Bool) (aG:List (S79)) (aH:List (S90)) (a1:Int):Option (Int):=(Y69.f aE a1).bind fun aA=>(if aA<0 then (some (-1)) else ((Y27.f k aG aA).bind fun aC=>(if aC<0 then (some (-1)) else ((Y75.f aH aC).bind fun aD=>(if aD<0 then (some (-1)) else (some aD))))))
theorem Y60.mono:∀ a0 a1 a2 a3 k,LeO (Y60.f k a0 a1 a2 a3) (Y60.f (k+1) a0 a1 a2 a3):=by
 intro a0 a1 a2 a3 k;unfold Y60.f
 repeat' first|(with_reducible first|apply Y27.mono|exact lR _|exact lN _|refine lI ?_ ?_|refine lB ?_ fun _=>?_)|exact lN _|refine lI ?_ ?_|refine lB ?_ fun _=>?_
set_option maxHeartbeats 60000000 in
set_option maxRecDepth 100000 in
theorem Y60.calls (k:Nat) (aI:Option Addr) (aJ:Nat) (aC:List Bool) (aK:Option Addr) (aN:Nat) (aD:List (S79)) (aQ:Option Addr) (aT:Nat) (aE:List (S90)) (a1 r:Int) (w:World) (hr0_0:Kd.C Kd.bool w aI aC.length aC) (hc0_0:aC.length≤aJ) (hr0_1:Kd.C k79 w aK aD.length aD) (hc0_1:aD.length≤aN) (hr0_2:Kd.C k90 w aQ aE.length aE) (hc0_2:aE.length≤aT) (h:Y60.f k aC aD aE a1=some r) :
  Calls Try.prog 4 #[.agg #[.slice aI aC.length aJ,.slice aK aD.length aN,.slice aQ aE.length aT],a1] w fun e w'=>e=.returned (.int .i64 r)∧Below w.heap.size w w':=by
 have cA:=Try.underlying26;have aW:=aM hr0_0;have aX:=aM hc0_0;clear hr0_0 hc0_0;have bD:=aM hr0_1;have bG:=aM hc0_1;clear hr0_1 hc0_1;have bK:=aM hr0_2;have bL:=aM hc0_2;clear hr0_2 hc0_2;have HB:=aM (Below.refl w.heap.size w);have H:((Y69.f aC a1).bind fun aG=>(if aG<0 then (some (-1)) else ((Y27.f k aD aG).bind fun aH=>(if aH<0 then (some (-1)) else ((Y75.f aE aH).bind fun aV=>(if aV<0 then (some (-1)) else (some aV)))))))=some r:=h
 clear h;obtain ⟨aG,bO,H⟩:=hB H;have A3:=aM bO;clear bO
 by_cases c4:aG<0
 case pos =>
  rw [if_pos c4] at H
  have bT:=decide_eq_true c4;clear c4;obtain rfl:=Option.some.inj H;go_enter Try.func4,Try.ntmps4
  go_wp2_with (first|((with_reducible refine gD (N:=2) rfl ?_);refine bE (N:=2) (cs:=#[.slice aI aC.length aJ,.slice aK aD.length aN,.slice aQ aE.length aT]) (t:=26) ?_;intro bH hg w5 hbox hb;have aA:=aM (hbox);have bI:=gF hg HB;have bJ:=gF hg HB;replace HB:=rS HB hb;clear hb hbox hg;have cC:=cA3 aA.out)|((with_reducible refine gC (f:=18) rfl ?_);refine gL (some 8) Try.func18 #[.slice aI aC.length aJ,a1] ?_;(with_reducible refine (Y69.calls _ _ aC a1 aG _ ?side1 ?side2 A3.out).mono ?_);(case side1=>exact cM (cB aW.out HB.out));(case side2=>exact aX.out);rintro e w' ⟨rfl,⟨nd,rfl⟩⟩;refine ⟨_,rfl,?_⟩))
  go_ret
  exact ⟨xW,bl HB.out⟩
 rw [if_neg c4] at H
 have bT:=decide_eq_false c4;clear c4;obtain ⟨aH,bP,H⟩:=hB H;have A7:=aM bP;clear bP
 by_cases c8:aH<0
 case pos =>
  rw [if_pos c8] at H
  have bU:=decide_eq_true c8;clear c8;obtain rfl:=Option.some.inj H;go_enter Try.func4,Try.ntmps4
  go_wp2_with (first|((with_reducible refine gD (N:=2) rfl ?_);refine bE (N:=2) (cs:=#[.slice aI aC.length aJ,.slice aK aD.length aN,.slice aQ aE.length aT]) (t:=26) ?_;intro bH hg w9 hbox hb;have aA:=aM (hbox);have bI:=gF hg HB;have bJ:=gF hg HB;replace HB:=rS HB hb;clear hb hbox hg;have bV:=cA3 aA.out)|((with_reducible refine gC (f:=18) rfl ?_);refine gL (some 8) Try.func18 #[.slice aI aC.length aJ,a1] ?_;(with_reducible refine (Y69.calls _ _ aC a1 aG _ ?side1 ?side2 A3.out).mono ?_);(case side1=>exact cM (cB aW.out HB.out));(case side2=>exact aX.out);rintro e w' ⟨rfl,⟨nd,rfl⟩⟩;refine ⟨_,rfl,?_⟩)|((with_reducible refine gC (f:=19) rfl ?_);refine gL (some 14) Try.func19 #[.slice aK aD.length aN,aG] ?_;(with_reducible refine (Y27.calls k _ _ aD aG aH _ ?side1 ?side2 A7.out).mono ?_);(case side1=>exact cM (cB bD.out (bl HB.out)));(case side2=>exact bG.out);rintro e cD ⟨rfl,hb⟩;refine ⟨_,rfl,?_⟩;replace aA:=rB aA hb;replace HB:=rS HB hb;(try clear hb)))
  go_ret
  exact ⟨xW,bl HB.out⟩
 rw [if_neg c8] at H
 have bU:=decide_eq_false c8;clear c8;obtain ⟨aV,bM,H⟩:=hB H;have bQ:=aM bM;clear bM
 by_cases bA:aV<0
 case pos =>
  rw [if_pos bA] at H
  have bN:=decide_eq_true bA;clear bA;obtain rfl:=Option.some.inj H;go_enter Try.func4,Try.ntmps4
  go_wp2_with (first|((with_reducible refine gD (N:=2) rfl ?_);refine bE (N:=2) (cs:=#[.slice aI aC.length aJ,.slice aK aD.length aN,.slice aQ aE.length aT]) (t:=26) ?_;intro bH hg cE hbox hb;have aA:=aM (hbox);have bI:=gF hg HB;have bJ:=gF hg HB;replace HB:=rS HB hb;clear hb hbox hg;have bW:=cA3 aA.out)|((with_reducible refine gC (f:=18) rfl ?_);refine gL (some 8) Try.func18 #[.slice aI aC.length aJ,a1] ?_;(with_reducible refine (Y69.calls _ _ aC a1 aG _ ?side1 ?side2 A3.out).mono ?_);(case side1=>exact cM (cB aW.out HB.out));(case side2=>exact aX.out);rintro e w' ⟨rfl,⟨nd,rfl⟩⟩;refine ⟨_,rfl,?_⟩)|((with_reducible refine gC (f:=19) rfl ?_);refine gL (some 14) Try.func19 #[.slice aK aD.length aN,aG] ?_;(with_reducible refine (Y27.calls k _ _ aD aG aH _ ?side1 ?side2 A7.out).mono ?_);(case side1=>exact cM (cB bD.out (bl HB.out)));(case side2=>exact bG.out);rintro e cG ⟨rfl,hb⟩;refine ⟨_,rfl,?_⟩;replace aA:=rB aA hb;replace HB:=rS HB hb;(try clear hb);have bX:=cA3 aA.out)|((with_reducible refine gC (f:=20) rfl ?_);refine gL (some 20) Try.func20 #[.slice aQ aE.length aT,aH] ?_;(with_reducible refine (Y75.calls _ _ aE aH aV _ ?side1 ?side2 bQ.out).mono ?_);(case side1=>exact cM (cB bK.out HB.out));(case side2=>exact bL.out);rintro e w' ⟨rfl,⟨nd,rfl⟩⟩;refine ⟨_,rfl,?_⟩))
  go_ret
  exact ⟨xW,bl HB.out⟩
 rw [if_neg bA] at H
 have bN:=decide_eq_false bA;clear bA;obtain rfl:=Option.some.inj H;go_enter Try.func4,Try.ntmps4
 go_wp2_with (first|((with_reducible refine gD (N:=2) rfl ?_);refine bE (N:=2) (cs:=#[.slice aI aC.length aJ,.slice aK aD.length aN,.slice aQ aE.length aT]) (t:=26) ?_;intro bH hg cH hbox hb;have aA:=aM (hbox);have bI:=gF hg HB;have bJ:=gF hg HB;replace HB:=rS HB hb;clear hb hbox hg;have bY:=cA3 aA.out)|((with_reducible refine gC (f:=18) rfl ?_);refine gL (some 8) Try.func18 #[.slice aI aC.length aJ,a1] ?_;(with_reducible refine (Y69.calls _ _ aC a1 aG _ ?side1 ?side2 A3.out).mono ?_);(case side1=>exact cM (cB aW.out HB.out));(case side2=>exact aX.out);rintro e w' ⟨rfl,⟨nd,rfl⟩⟩;refine ⟨_,rfl,?_⟩)|((with_reducible refine gC (f:=19) rfl ?_);refine gL (some 14) Try.func19 #[.slice aK aD.length aN,aG] ?_;(with_reducible refine (Y27.calls k _ _ aD aG aH _ ?side1 ?side2 A7.out).mono ?_);(case side1=>exact cM (cB bD.out (bl HB.out)));(case side2=>exact bG.out);rintro e cK ⟨rfl,hb⟩;refine ⟨_,rfl,?_⟩;replace aA:=rB aA hb;replace HB:=rS HB hb;(try clear hb);have bZ:=cA3 aA.out)|((with_reducible refine gC (f:=20) rfl ?_);refine gL (some 20) Try.func20 #[.slice aQ aE.length aT,aH] ?_;(with_reducible refine (Y75.calls _ _ aE aH aV _ ?side1 ?side2 bQ.out).mono ?_);(case side1=>exact cM (cB bK.out HB.out));(case side2=>exact bL.out);rintro e w' ⟨rfl,⟨nd,rfl⟩⟩;refine ⟨_,rfl,?_⟩))
 go_ret
 exact ⟨xW,bl HB.out⟩

def Y72.f (l0:List Int) (a1:Int):Option (Int):=if (wrap64 (a1 - (l0.length:Int)))<0 then (some (-1)) else (some (wrap64 (a1 - (l0.length:Int))))
set_option maxHeartbeats 60000000 in
set_option maxRecDepth 100000 in
theorem Y72.calls (A0:Option Addr) (c0:Nat) (l0:List Int) (a1 r:Int) (w:World) (hr0:Kd.C (Kd.int .u8) w A0 l0.length l0) (hc0:l0.length≤c0) (h:Y72.f l0 a1=some r) :
  Calls Try.prog 21 #[.slice A0 l0.length c0,a1] w fun e w'=>e=.returned (.int .i64 r)∧Drawn0 w w':=by
 have aC:=aM hr0;have aD:=aM hc0;clear hr0 hc0;have H:(if (wrap64 (a1 - (l0.length:Int)))<0 then (some (-1)) else (some (wrap64 (a1 - (l0.length:Int)))))=some r:=h;clear h
 by_cases c3:(wrap64 (a1 - (l0.length:Int)))<0
 case pos =>
  rw [if_pos c3] at H
  have aA:=decide_eq_true c3;clear c3;obtain rfl:=Option.some.inj H;go_enter Try.func21,Try.ntmps21
  go_wp2
  go_ret
  exact ⟨by first|rfl|(simp;done)|(simp [*];done),by repeat (first|exact Drawn0.refl _|apply Drawn0.step)⟩
 rw [if_neg c3] at H
 have aA:=decide_eq_false c3;clear c3;obtain rfl:=Option.some.inj H;go_enter Try.func21,Try.ntmps21
 go_wp2
 go_ret
 exact ⟨by first|rfl|(simp;done)|(simp [*];done),by repeat (first|exact Drawn0.refl _|apply Drawn0.step)⟩

def Y78.f (aD aE aG:Int) (aC:List Int) (a1:Int):Option (Int):=(Y72.f aC a1).bind fun aA=>(if aA<0 then (some (-1)) else (some aA))
set_option maxHeartbeats 60000000 in
set_option maxRecDepth 100000 in
theorem Y78.calls (aG aH aI:Int) (aC:Option Addr) (aD:Nat) (aA:List Int) (a1 r:Int) (w:World) (hr0_3:Kd.C (Kd.int .u8) w aC aA.length aA) (hc0_3:aA.length≤aD) (h:Y78.f aG aH aI aA a1=some r) :
  Calls Try.prog 5 #[.agg #[aG,aH,aI,.slice aC aA.length aD],a1] w fun e w'=>e=.returned (.int .i64 r)∧Below w.heap.size w w':=by
 have bA:=Try.underlying29;have aK:=aM hr0_3;have aN:=aM hc0_3;clear hr0_3 hc0_3;have HB:=aM (Below.refl w.heap.size w);have H:((Y72.f aA a1).bind fun aE=>(if aE<0 then (some (-1)) else (some aE)))=some r:=h
 clear h;obtain ⟨aE,aW,H⟩:=hB H;have A3:=aM aW;clear aW
 by_cases c4:aE<0
 case pos =>
  rw [if_pos c4] at H
  have aX:=decide_eq_true c4;clear c4;obtain rfl:=Option.some.inj H;go_enter Try.func5,Try.ntmps5
  go_wp2_with (first|((with_reducible refine gD (N:=2) rfl ?_);refine bE (N:=2) (cs:=#[aG,aH,aI,.slice aC aA.length aD]) (t:=29) ?_;intro aQ hg w5 hbox hb;have aJ:=aM (hbox);have aT:=gF hg HB;have aV:=gF hg HB;replace HB:=rS HB hb;clear hb hbox hg;have bD:=cA4 aJ.out)|((with_reducible refine gC (f:=21) rfl ?_);refine gL (some 8) Try.func21 #[.slice aC aA.length aD,a1] ?_;(with_reducible refine (Y72.calls _ _ aA a1 aE _ ?side1 ?side2 A3.out).mono ?_);(case side1=>exact cM (cB aK.out HB.out));(case side2=>exact aN.out);rintro e w' ⟨rfl,⟨nd,rfl⟩⟩;refine ⟨_,rfl,?_⟩))
  go_ret
  exact ⟨xW,bl HB.out⟩
 rw [if_neg c4] at H
 have aX:=decide_eq_false c4;clear c4;obtain rfl:=Option.some.inj H;go_enter Try.func5,Try.ntmps5
 go_wp2_with (first|((with_reducible refine gD (N:=2) rfl ?_);refine bE (N:=2) (cs:=#[aG,aH,aI,.slice aC aA.length aD]) (t:=29) ?_;intro aQ hg w7 hbox hb;have aJ:=aM (hbox);have aT:=gF hg HB;have aV:=gF hg HB;replace HB:=rS HB hb;clear hb hbox hg;have bG:=cA4 aJ.out)|((with_reducible refine gC (f:=21) rfl ?_);refine gL (some 8) Try.func21 #[.slice aC aA.length aD,a1] ?_;(with_reducible refine (Y72.calls _ _ aA a1 aE _ ?side1 ?side2 A3.out).mono ?_);(case side1=>exact cM (cB aK.out HB.out));(case side2=>exact aN.out);rintro e w' ⟨rfl,⟨nd,rfl⟩⟩;refine ⟨_,rfl,?_⟩))
 go_ret
 exact ⟨xW,bl HB.out⟩

end Go.Proofs.Ytfljolhhgheheaa.PFnExactPass

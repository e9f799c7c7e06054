/- A part of the proof of laws.FnExactPass. No condition beyond what its theorems say. -/
import Derived.Test.YtfljolhhgheheaaVFnExactPassPx20
namespace Go.Proofs.Ytfljolhhgheheaa.PFnExactPass
open Go.RowKit Go.Proofs.YtfljolhhgheheaaW.PrintWords Go.Proofs.YtfljolhhgheheaaW.PrintLast Go.Proofs.YtfljolhhgheheaaW.PrintMore
set_option linter.unusedVariables false
set_option linter.unusedSimpArgs false

def Y16.l0:Nat→List (S86)→List (S86)→Int→Option (Bool)
 | 0,_,_,_=>none
 | k+1,x0,x1,x5=>if x5<(x0.length:Int) then (if 0≤x5 then (if x5<(x1.length:Int) then ((Y82.f ((rd_T86 x0 x5).f0) ((rd_T86 x0 x5).f1) ((rd_T86 x0 x5).f2) ((rd_T86 x0 x5).f3) ((rd_T86 x1 x5).f0) ((rd_T86 x1 x5).f1) ((rd_T86 x1 x5).f2) ((rd_T86 x1 x5).f3)).bind fun aA=>(if aA=true then (Y16.l0 k x0 x1 (wrap64 (x5+1))) else (some false))) else (none)) else (none)) else (some true)
def Y16.f (k:Nat) (l0:List (S86)) (l1:List (S86)):Option (Bool):=if (l0.length:Int)=(l1.length:Int) then (Y16.l0 k l0 l1 0) else (some false)
theorem Y16.mono_l:∀ k,(∀ y0 y1 y2,LeO (Y16.l0 k y0 y1 y2) (Y16.l0 (k+1) y0 y1 y2))
 | 0=>fun _ _ _ r h=>by simp [Y16.l0] at h
 | k+1=>by
  have ih0:=Y16.mono_l k
  ·intro y0 y1 y2
   unfold Y16.l0
   repeat' first|(with_reducible first|apply ih0|exact lR _|exact lN _|refine lI ?_ ?_|refine lB ?_ fun _=>?_)|exact lN _|refine lI ?_ ?_|refine lB ?_ fun _=>?_
theorem Y16.mono:∀ a0 a1 k,LeO (Y16.f k a0 a1) (Y16.f (k+1) a0 a1):=by
 intro a0 a1 k;have ih0:=Y16.mono_l k;unfold Y16.f
 repeat' first|(with_reducible first|apply ih0|exact lR _|exact lN _|refine lI ?_ ?_|refine lB ?_ fun _=>?_)|exact lN _|refine lI ?_ ?_|refine lB ?_ fun _=>?_
def Y16.T6:Bool × List (List Nat × List Nat):=(true,[([],[]),([],[]),([0,1],[0,1]),([2],[2]),([],[]),([],[]),([4,5],[4,5]),([6],[6]),([3,7],[3,7]),([8],[8])])
def Y16.B6:List Nat:=[0,0,3,7,0,0,48,112,255,511]
theorem Y16.tab6:rtab .any (opsOf Try.f42 6)=Y16.T6:=by kernel_rfl
theorem Y16.bits6:waitsOk Y16.T6.2 Y16.B6=true:=by kernel_rfl
set_option maxHeartbeats 60000000 in
set_option maxRecDepth 100000 in
theorem Y16.calls (k:Nat) (A0:Option Addr) (c0:Nat) (l0:List (S86)) (A1:Option Addr) (c1:Nat) (l1:List (S86)) (r:Bool) (w:World) (hr0:Kd.C k86 w A0 l0.length l0) (hc0:l0.length≤c0) (hr1:Kd.C k86 w A1 l1.length l1) (hc1:l1.length≤c1) (h:Y16.f k l0 l1=some r) :
  Calls Try.prog 42 #[.slice A0 l0.length c0,.slice A1 l1.length c1] w fun e w'=>e=.returned (.bool r)∧Below w.heap.size w w':=by
 have bZ:=Try.underlying86;have bT:=aM hr0;have cD:=aM hc0;clear hr0 hc0;have bU:=aM hr1;have cE:=aM hc1;clear hr1 hc1;have HB:=aM (Below.refl w.heap.size w);have H:(if (l0.length:Int)=(l1.length:Int) then (Y16.l0 k l0 l1 0) else (some false))=some r:=h;clear h
 by_cases c3:(l0.length:Int)=(l1.length:Int)
 case neg =>
  rw [if_neg c3] at H
  have bO:((l0.length:Int) == (l1.length:Int))=false:=beq_eq_false_iff_ne.mpr c3;have bP:((l0.length:Int) != (l1.length:Int))=true:=bne_iff_ne.mpr c3;have bQ:(l0.length == l1.length)=false:=by first|simpa using c3|(simp at c3 ⊢;omega)
  obtain rfl:=Option.some.inj H;go_enter Try.func42,Try.ntmps42
  go_wp2
  go_ret
  exact ⟨xW,bl HB.out⟩
 rw [if_pos c3] at H
 have bO:((l0.length:Int) == (l1.length:Int))=true:=beq_iff_eq.mpr c3;have bP:((l0.length:Int) != (l1.length:Int))=false:=bne_eq_false_iff_eq.mpr c3;have bQ:(l0.length == l1.length)=true:=by first|simpa using c3|(simp at c3 ⊢;omega)
 clear c3;have H':=aM H;clear H;go_enter Try.func42,Try.ntmps42
 go_wp2
 go_loopg [5] k (fun kq v5 w'=>∃ (aA:Int),v5=.int .i64 aA∧Aside0 (Y16.l0 kq l0 l1 aA=some r)∧Aside0 (kq≤k)∧Aside0 (Below w.heap.size w w'))
 case atStart=>exact ⟨(0),xE,H',⟨Nat.le_refl _⟩,⟨bl HB.out⟩⟩
 case round =>
  clear H'
  repeat first|clear c1|clear p2|clear c3|clear bO|clear bP|clear bQ
  obtain ⟨aA,rfl,HA,bV,HB⟩:=hrel;cases gk with
  | zero=>exact absurd HA.out (by simp [Y16.l0])
  | succ k1 =>
   have H:=HA.out;clear HA;simp only [Y16.l0] at H
   by_cases c4:aA<(l0.length:Int)
   case neg =>
    rw [if_neg c4] at H
    have bX:=decide_eq_false c4;clear c4;obtain rfl:=Option.some.inj H;go_wp2
    go_ret
    exact ⟨xW,bl HB.out⟩
   rw [if_pos c4] at H
   have bX:=decide_eq_true c4;clear c4;obtain ⟨cA,H⟩:=gI H;obtain ⟨cC,H⟩:=gI H;obtain ⟨bY,bW,H⟩:=hB H;have A7:=aM bW;clear bW
   by_cases c8:bY=true
   case neg =>
    replace c8:=Bool.eq_false_iff.mpr c8;subst c8;replace H:=hF H;obtain rfl:=Option.some.inj H
    try go_wp2
    replace HB:=aM (below_drew1 HB.out);have bG:0≤(aA:Int):=dT;have bH:aA<(l0.length:Int):=dT;obtain ⟨bK,bM,aC,aD,aE,aG⟩:=at_T86 bT.out aA bG bH;have aN:=aG;have aQ:=aE;have aT:=aD;have aV:=aC;cases bM
    replace aC:=xB HB aC;replace aD:=xB HB aD;replace aE:=xB HB aE;replace aG:=xB HB aG;replace bG:=eq_true bG;replace bH:=eq_true bH;have bI:0≤(aA:Int):=dT;have bJ:aA<(l1.length:Int):=dT;obtain ⟨bL,bN,aH,aI,aJ,aK⟩:=at_T86 bU.out aA bI bJ;have aW:=aK;have aX:=aJ;have bA:=aI;have bD:=aH;cases bN
    replace aH:=xB HB aH;replace aI:=xB HB aI;replace aJ:=xB HB aJ;replace aK:=xB HB aK;replace bI:=eq_true bI;replace bJ:=eq_true bJ;refine start_ (n:=10) (S:=fun w'=>cF86 w' bK (aA).toNat (rd_T86 l0 aA) (cE86 w' bL (aA).toNat (rd_T86 l1 aA))) (ds:=[]) (dn 10 0) (by kernel_rfl) rfl rfl ⟨(xB HB aV :),(xB HB aT :),(xB HB aQ :),(xB HB aN :),(xB HB bD :),(xB HB bA :),(xB HB aX :),(xB HB aW :)⟩ (fun hHeld=>?_);refine with_tabW Y16.tab6 Y16.bits6 (fun HT_ HW_=>?_)
    generalize wr.drew=cG at HB aC aD aE aG aH aI aJ aK hHeld ⊢
    refine nY (N:=some 17) HT_ ?_;refine nY (N:=some 18) HT_ ?_;refine nY (N:=some 19) HT_ ?_;refine pZ 4 21 (bv 10 23) HT_ ?_;refine pZ 5 22 (bv 10 55) HT_ ?_;refine pZ 6 23 (bv 10 119) HT_ ?_;refine aZ 3 20 (bv 10 127) HT_ HW_ hHeld ?_;refine aZ 7 24 (bv 10 255) HT_ HW_ hHeld ?_;refine one_ (i:=8) (N:=some 25) (bv 10 511) rfl rfl (one_of HT_.out (by kernel_rfl)) (by decide) (fun K hK=>?_)
    refine goes_ Try.func75 (by kernel_rfl) rfl #[.agg #[((rd_T86 l0 aA).f0),((rd_T86 l0 aA).f1),((rd_T86 l0 aA).f2),((rd_T86 l0 aA).f3)],.agg #[((rd_T86 l1 aA).f0),((rd_T86 l1 aA).f1),((rd_T86 l1 aA).f2),((rd_T86 l1 aA).f3)]] (by rfl) rfl rfl xR ?_
    with_reducible refine (Y82.calls ((rd_T86 l0 aA).f0) ((rd_T86 l0 aA).f1) ((rd_T86 l0 aA).f2) ((rd_T86 l0 aA).f3) ((rd_T86 l1 aA).f0) ((rd_T86 l1 aA).f1) ((rd_T86 l1 aA).f2) ((rd_T86 l1 aA).f3) false _ A7.out).mono ?_
    rintro e cH ⟨rfl,hb⟩;refine ⟨_,rfl,?_⟩;replace HB:=rS HB hb
    (try clear hb)
    (try clear hb2)
    (try clear hk)
    (try clear hi)
    refine hK.out _ _ ⟨(xB HB aV :),(xB HB aT :),(xB HB aQ :),(xB HB aN :),(xB HB bD :),(xB HB bA :),(xB HB aX :),(xB HB aW :)⟩ (fun hHeld=>?_)
    clear hK K;refine norm_ (a':=?_) ?_ ?_;rotate_left
    ·show Act.put _ (some 25) _=_
     simp only [Act.put,sA,sZ,sS,i64_w,i32_w]
     rfl
    refine pZ 9 26 (bv 10 1023) HT_ ?_;refine done_ (done_of HT_.out (by kernel_rfl)) ?_
    try go_wp2
    go_ret
    exact ⟨xW,bl HB.out⟩
   subst c8;replace H:=hP H rfl;have H':=aM H;clear H
   try go_wp2
   replace HB:=aM (below_drew1 HB.out);have bG:0≤(aA:Int):=dT;have bH:aA<(l0.length:Int):=dT;obtain ⟨bK,bM,aC,aD,aE,aG⟩:=at_T86 bT.out aA bG bH;have aN:=aG;have aQ:=aE;have aT:=aD;have aV:=aC;cases bM
   replace aC:=xB HB aC;replace aD:=xB HB aD;replace aE:=xB HB aE;replace aG:=xB HB aG;replace bG:=eq_true bG;replace bH:=eq_true bH;have bI:0≤(aA:Int):=dT;have bJ:aA<(l1.length:Int):=dT;obtain ⟨bL,bN,aH,aI,aJ,aK⟩:=at_T86 bU.out aA bI bJ;have aW:=aK;have aX:=aJ;have bA:=aI;have bD:=aH;cases bN
   replace aH:=xB HB aH;replace aI:=xB HB aI;replace aJ:=xB HB aJ;replace aK:=xB HB aK;replace bI:=eq_true bI;replace bJ:=eq_true bJ;refine start_ (n:=10) (S:=fun w'=>cF86 w' bK (aA).toNat (rd_T86 l0 aA) (cE86 w' bL (aA).toNat (rd_T86 l1 aA))) (ds:=[]) (dn 10 0) (by kernel_rfl) rfl rfl ⟨(xB HB aV :),(xB HB aT :),(xB HB aQ :),(xB HB aN :),(xB HB bD :),(xB HB bA :),(xB HB aX :),(xB HB aW :)⟩ (fun hHeld=>?_);refine with_tabW Y16.tab6 Y16.bits6 (fun HT_ HW_=>?_)
   generalize wr.drew=w9 at HB aC aD aE aG aH aI aJ aK hHeld ⊢
   refine nY (N:=some 17) HT_ ?_;refine nY (N:=some 18) HT_ ?_;refine nY (N:=some 19) HT_ ?_;refine pZ 4 21 (bv 10 23) HT_ ?_;refine pZ 5 22 (bv 10 55) HT_ ?_;refine pZ 6 23 (bv 10 119) HT_ ?_;refine aZ 3 20 (bv 10 127) HT_ HW_ hHeld ?_;refine aZ 7 24 (bv 10 255) HT_ HW_ hHeld ?_;refine one_ (i:=8) (N:=some 25) (bv 10 511) rfl rfl (one_of HT_.out (by kernel_rfl)) (by decide) (fun K hK=>?_)
   refine goes_ Try.func75 (by kernel_rfl) rfl #[.agg #[((rd_T86 l0 aA).f0),((rd_T86 l0 aA).f1),((rd_T86 l0 aA).f2),((rd_T86 l0 aA).f3)],.agg #[((rd_T86 l1 aA).f0),((rd_T86 l1 aA).f1),((rd_T86 l1 aA).f2),((rd_T86 l1 aA).f3)]] (by rfl) rfl rfl xR ?_
   with_reducible refine (Y82.calls ((rd_T86 l0 aA).f0) ((rd_T86 l0 aA).f1) ((rd_T86 l0 aA).f2) ((rd_T86 l0 aA).f3) ((rd_T86 l1 aA).f0) ((rd_T86 l1 aA).f1) ((rd_T86 l1 aA).f2) ((rd_T86 l1 aA).f3) true _ A7.out).mono ?_
   rintro e cK ⟨rfl,hb⟩;refine ⟨_,rfl,?_⟩;replace HB:=rS HB hb
   (try clear hb)
   (try clear hb2)
   (try clear hk)
   (try clear hi)
   refine hK.out _ _ ⟨(xB HB aV :),(xB HB aT :),(xB HB aQ :),(xB HB aN :),(xB HB bD :),(xB HB bA :),(xB HB aX :),(xB HB aW :)⟩ (fun hHeld=>?_)
   clear hK K;refine norm_ (a':=?_) ?_ ?_;rotate_left
   ·show Act.put _ (some 25) _=_
    simp only [Act.put,sA,sZ,sS,i64_w,i32_w]
    rfl
   refine pZ 9 26 (bv 10 1023) HT_ ?_;refine done_ (done_of HT_.out (by kernel_rfl)) ?_
   try go_wp2
   go_roundg k1
   case measure=>have:=bV.out;omega
   case rel=>exact ⟨(wS aA),xE,H',⟨by have:=bV.out;omega⟩,⟨bl HB.out⟩⟩

def Y59.f (k:Nat) (aA:List Bool) (aC:List (S60)) (aD:List (S86)) (aE:List Bool) (aG:List (S60)) (aH:List (S86)):Option (Bool):=(Y30.f k aA aE).bind fun aI=>(if aI=true then ((Y13.f k aC aG).bind fun aJ=>(if aJ=true then ((Y16.f k aD aH).bind fun aK=>(if aK=true then (some true) else (some false))) else (some false))) else (some false))
theorem Y59.mono:∀ a0 a1 a2 a3 a4 a5 k,LeO (Y59.f k a0 a1 a2 a3 a4 a5) (Y59.f (k+1) a0 a1 a2 a3 a4 a5):=by
 intro a0 a1 a2 a3 a4 a5 k;unfold Y59.f
 repeat' first|(with_reducible first|apply Y30.mono|apply Y16.mono|apply Y13.mono|exact lR _|exact lN _|refine lI ?_ ?_|refine lB ?_ fun _=>?_)|exact lN _|refine lI ?_ ?_|refine lB ?_ fun _=>?_
set_option maxHeartbeats 60000000 in
set_option maxRecDepth 100000 in
theorem Y59.calls (k:Nat) (aQ:Option Addr) (aT:Nat) (aD:List Bool) (aX:Option Addr) (bA:Nat) (aI:List (S60)) (bH:Option Addr) (bI:Nat) (aK:List (S86)) (aV:Option Addr) (aW:Nat) (aE:List Bool) (bD:Option Addr) (bG:Nat) (aJ:List (S60)) (bJ:Option Addr) (bK:Nat) (aN:List (S86)) (r:Bool) (w:World) (hr0_0:Kd.C Kd.bool w aQ aD.length aD) (hc0_0:aD.length≤aT) (hr0_1:Kd.C k60 w aX aI.length aI) (hc0_1:aI.length≤bA) (hr0_2:Kd.C k86 w bH aK.length aK) (hc0_2:aK.length≤bI) (hr1_0:Kd.C Kd.bool w aV aE.length aE) (hc1_0:aE.length≤aW) (hr1_1:Kd.C k60 w bD aJ.length aJ) (hc1_1:aJ.length≤bG) (hr1_2:Kd.C k86 w bJ aN.length aN) (hc1_2:aN.length≤bK) (h:Y59.f k aD aI aK aE aJ aN=some r) :
  Calls Try.prog 10 #[.agg #[.slice aQ aD.length aT,.slice aX aI.length bA,.slice bH aK.length bI],.agg #[.slice aV aE.length aW,.slice bD aJ.length bG,.slice bJ aN.length bK]] w fun e w'=>e=.returned (.bool r)∧Below w.heap.size w w':=by
 have dL:=Try.underlying35;have bL:=aM hr0_0;have bM:=aM hc0_0;clear hr0_0 hc0_0;have bP:=aM hr0_1;have bQ:=aM hc0_1;clear hr0_1 hc0_1;have cG:=aM hr0_2;have cH:=aM hc0_2;clear hr0_2 hc0_2;have bN:=aM hr1_0;have bO:=aM hc1_0;clear hr1_0 hc1_0;have bT:=aM hr1_1;have bU:=aM hc1_1;clear hr1_1 hc1_1;have cK:=aM hr1_2;have cL:=aM hc1_2;clear hr1_2 hc1_2;have HB:=aM (Below.refl w.heap.size w);have H:((Y30.f k aD aE).bind fun cC=>(if cC=true then ((Y13.f k aI aJ).bind fun cD=>(if cD=true then ((Y16.f k aK aN).bind fun cE=>(if cE=true then (some true) else (some false))) else (some false))) else (some false)))=some r:=h
 clear h;obtain ⟨cC,cN,H⟩:=hB H;have A3:=aM cN;clear cN
 by_cases c4:cC=true
 case neg =>
  replace c4:=Bool.eq_false_iff.mpr c4;subst c4;replace H:=hF H;obtain rfl:=Option.some.inj H;go_enter Try.func10,Try.ntmps10
  go_wp2_with (first|((with_reducible refine gD (N:=2) rfl ?_);refine bE (N:=2) (cs:=#[.slice aQ aD.length aT,.slice aX aI.length bA,.slice bH aK.length bI]) (t:=35) ?_;intro bV hg dM hbox hb;have aA:=aM (hbox);have bW:=gF hg HB;have bX:=gF hg HB;replace HB:=rS HB hb;clear hb hbox hg)|((with_reducible refine gD (N:=3) rfl ?_);refine bE (N:=3) (cs:=#[.slice aV aE.length aW,.slice bD aJ.length bG,.slice bJ aN.length bK]) (t:=35) ?_;intro bY hg dN hbox hb;have aC:=aM (hbox);have bZ:=gF hg HB;have cA:=gF hg HB;have aG:=nM hg aA;have aH:=nH hg aA;replace aA:=rB aA hb;replace HB:=rS HB hb;clear hb hbox hg;have cQ:=aG.out;have cR:=aH.out;have cS:=cA3 aA.out;have cT:=cA3 aC.out)|((with_reducible refine gC (f:=40) rfl ?_);refine gL (some 9) Try.func40 #[.slice aQ aD.length aT,.slice aV aE.length aW] ?_;(with_reducible refine (Y30.calls k _ _ aD _ _ aE false _ ?side1 ?side2 ?side3 ?side4 A3.out).mono ?_);(case side1=>exact cM (cB bL.out HB.out));(case side2=>exact bM.out);(case side3=>exact cM (cB bN.out HB.out));(case side4=>exact bO.out);rintro e w' ⟨rfl,⟨nd,rfl⟩⟩;refine ⟨_,rfl,?_⟩))
  go_ret
  exact ⟨xW,bl HB.out⟩
 subst c4;replace H:=hP H rfl;obtain ⟨cD,cO,H⟩:=hB H;have A5:=aM cO;clear cO
 by_cases c6:cD=true
 case neg =>
  replace c6:=Bool.eq_false_iff.mpr c6;subst c6;replace H:=hF H;obtain rfl:=Option.some.inj H;go_enter Try.func10,Try.ntmps10
  go_wp2_with (first|((with_reducible refine gD (N:=2) rfl ?_);refine bE (N:=2) (cs:=#[.slice aQ aD.length aT,.slice aX aI.length bA,.slice bH aK.length bI]) (t:=35) ?_;intro bV hg dO hbox hb;have aA:=aM (hbox);have bW:=gF hg HB;have bX:=gF hg HB;replace HB:=rS HB hb;clear hb hbox hg)|((with_reducible refine gD (N:=3) rfl ?_);refine bE (N:=3) (cs:=#[.slice aV aE.length aW,.slice bD aJ.length bG,.slice bJ aN.length bK]) (t:=35) ?_;intro bY hg dP hbox hb;have aC:=aM (hbox);have bZ:=gF hg HB;have cA:=gF hg HB;have aG:=nM hg aA;have aH:=nH hg aA;replace aA:=rB aA hb;replace HB:=rS HB hb;clear hb hbox hg;have cU:=aG.out;have cV:=aH.out;have cW:=cA3 aA.out;have cX:=cA3 aC.out)|((with_reducible refine gC (f:=40) rfl ?_);refine gL (some 9) Try.func40 #[.slice aQ aD.length aT,.slice aV aE.length aW] ?_;(with_reducible refine (Y30.calls k _ _ aD _ _ aE true _ ?side1 ?side2 ?side3 ?side4 A3.out).mono ?_);(case side1=>exact cM (cB bL.out HB.out));(case side2=>exact bM.out);(case side3=>exact cM (cB bN.out HB.out));(case side4=>exact bO.out);rintro e w' ⟨rfl,⟨nd,rfl⟩⟩;refine ⟨_,rfl,?_⟩)|((with_reducible refine gC (f:=41) rfl ?_);refine gL (some 15) Try.func41 #[.slice aX aI.length bA,.slice bD aJ.length bG] ?_;(with_reducible refine (Y13.calls k _ _ aI _ _ aJ false _ ?side1 ?side2 ?side3 ?side4 A5.out).mono ?_);(case side1=>exact cM (cB bP.out (bl HB.out)));(case side2=>exact bQ.out);(case side3=>exact cM (cB bT.out (bl HB.out)));(case side4=>exact bU.out);rintro e dQ ⟨rfl,hb⟩;refine ⟨_,rfl,?_⟩;replace aA:=rB aA hb;replace aC:=rB aC hb;replace HB:=rS HB hb;(try clear hb)))
  go_ret
  exact ⟨xW,bl HB.out⟩
 subst c6;replace H:=hP H rfl;obtain ⟨cE,cP,H⟩:=hB H;have A7:=aM cP;clear cP
 by_cases c8:cE=true
 case pos =>
  subst c8;replace H:=hP H rfl;obtain rfl:=Option.some.inj H;go_enter Try.func10,Try.ntmps10
  go_wp2_with (first|((with_reducible refine gD (N:=2) rfl ?_);refine bE (N:=2) (cs:=#[.slice aQ aD.length aT,.slice aX aI.length bA,.slice bH aK.length bI]) (t:=35) ?_;intro bV hg w9 hbox hb;have aA:=aM (hbox);have bW:=gF hg HB;have bX:=gF hg HB;replace HB:=rS HB hb;clear hb hbox hg)|((with_reducible refine gD (N:=3) rfl ?_);refine bE (N:=3) (cs:=#[.slice aV aE.length aW,.slice bD aJ.length bG,.slice bJ aN.length bK]) (t:=35) ?_;intro bY hg dR hbox hb;have aC:=aM (hbox);have bZ:=gF hg HB;have cA:=gF hg HB;have aG:=nM hg aA;have aH:=nH hg aA;replace aA:=rB aA hb;replace HB:=rS HB hb;clear hb hbox hg;have cY:=aG.out;have dA:=aH.out;have dB:=cA3 aA.out;have dC:=cA3 aC.out)|((with_reducible refine gC (f:=40) rfl ?_);refine gL (some 9) Try.func40 #[.slice aQ aD.length aT,.slice aV aE.length aW] ?_;(with_reducible refine (Y30.calls k _ _ aD _ _ aE true _ ?side1 ?side2 ?side3 ?side4 A3.out).mono ?_);(case side1=>exact cM (cB bL.out HB.out));(case side2=>exact bM.out);(case side3=>exact cM (cB bN.out HB.out));(case side4=>exact bO.out);rintro e w' ⟨rfl,⟨nd,rfl⟩⟩;refine ⟨_,rfl,?_⟩)|((with_reducible refine gC (f:=41) rfl ?_);refine gL (some 15) Try.func41 #[.slice aX aI.length bA,.slice bD aJ.length bG] ?_;(with_reducible refine (Y13.calls k _ _ aI _ _ aJ true _ ?side1 ?side2 ?side3 ?side4 A5.out).mono ?_);(case side1=>exact cM (cB bP.out (bl HB.out)));(case side2=>exact bQ.out);(case side3=>exact cM (cB bT.out (bl HB.out)));(case side4=>exact bU.out);rintro e dS ⟨rfl,hb⟩;refine ⟨_,rfl,?_⟩;replace aA:=rB aA hb;replace aC:=rB aC hb;replace HB:=rS HB hb;(try clear hb);have dD:=cA3 aA.out;have dE:=cA3 aC.out)|((with_reducible refine gC (f:=42) rfl ?_);refine gL (some 21) Try.func42 #[.slice bH aK.length bI,.slice bJ aN.length bK] ?_;(with_reducible refine (Y16.calls k _ _ aK _ _ aN true _ ?side1 ?side2 ?side3 ?side4 A7.out).mono ?_);(case side1=>exact cM (cB cG.out HB.out));(case side2=>exact cH.out);(case side3=>exact cM (cB cK.out HB.out));(case side4=>exact cL.out);rintro e dU ⟨rfl,hb⟩;refine ⟨_,rfl,?_⟩;replace aA:=rB aA hb;replace aC:=rB aC hb;replace HB:=rS HB hb;(try clear hb)))
  go_ret
  exact ⟨xW,bl HB.out⟩
 replace c8:=Bool.eq_false_iff.mpr c8;subst c8;replace H:=hF H;obtain rfl:=Option.some.inj H;go_enter Try.func10,Try.ntmps10
 go_wp2_with (first|((with_reducible refine gD (N:=2) rfl ?_);refine bE (N:=2) (cs:=#[.slice aQ aD.length aT,.slice aX aI.length bA,.slice bH aK.length bI]) (t:=35) ?_;intro bV hg dV hbox hb;have aA:=aM (hbox);have bW:=gF hg HB;have bX:=gF hg HB;replace HB:=rS HB hb;clear hb hbox hg)|((with_reducible refine gD (N:=3) rfl ?_);refine bE (N:=3) (cs:=#[.slice aV aE.length aW,.slice bD aJ.length bG,.slice bJ aN.length bK]) (t:=35) ?_;intro bY hg dW hbox hb;have aC:=aM (hbox);have bZ:=gF hg HB;have cA:=gF hg HB;have aG:=nM hg aA;have aH:=nH hg aA;replace aA:=rB aA hb;replace HB:=rS HB hb;clear hb hbox hg;have dF:=aG.out;have dG:=aH.out;have dH:=cA3 aA.out;have dI:=cA3 aC.out)|((with_reducible refine gC (f:=40) rfl ?_);refine gL (some 9) Try.func40 #[.slice aQ aD.length aT,.slice aV aE.length aW] ?_;(with_reducible refine (Y30.calls k _ _ aD _ _ aE true _ ?side1 ?side2 ?side3 ?side4 A3.out).mono ?_);(case side1=>exact cM (cB bL.out HB.out));(case side2=>exact bM.out);(case side3=>exact cM (cB bN.out HB.out));(case side4=>exact bO.out);rintro e w' ⟨rfl,⟨nd,rfl⟩⟩;refine ⟨_,rfl,?_⟩)|((with_reducible refine gC (f:=41) rfl ?_);refine gL (some 15) Try.func41 #[.slice aX aI.length bA,.slice bD aJ.length bG] ?_;(with_reducible refine (Y13.calls k _ _ aI _ _ aJ true _ ?side1 ?side2 ?side3 ?side4 A5.out).mono ?_);(case side1=>exact cM (cB bP.out (bl HB.out)));(case side2=>exact bQ.out);(case side3=>exact cM (cB bT.out (bl HB.out)));(case side4=>exact bU.out);rintro e dX ⟨rfl,hb⟩;refine ⟨_,rfl,?_⟩;replace aA:=rB aA hb;replace aC:=rB aC hb;replace HB:=rS HB hb;(try clear hb);have dJ:=cA3 aA.out;have dK:=cA3 aC.out)|((with_reducible refine gC (f:=42) rfl ?_);refine gL (some 21) Try.func42 #[.slice bH aK.length bI,.slice bJ aN.length bK] ?_;(with_reducible refine (Y16.calls k _ _ aK _ _ aN false _ ?side1 ?side2 ?side3 ?side4 A7.out).mono ?_);(case side1=>exact cM (cB cG.out HB.out));(case side2=>exact cH.out);(case side3=>exact cM (cB cK.out HB.out));(case side4=>exact cL.out);rintro e dY ⟨rfl,hb⟩;refine ⟨_,rfl,?_⟩;replace aA:=rB aA hb;replace aC:=rB aC hb;replace HB:=rS HB hb;(try clear hb)))
 go_ret
 exact ⟨xW,bl HB.out⟩

def Y39.l0:Nat→List Int→List Int→Int→Option (Bool)
 | 0,_,_,_=>none
 | k+1,x0,x1,x5=>if x5<(x0.length:Int) then (if 0≤x5 then (if x5<(x1.length:Int) then (if (rd x0 x5)=(rd x1 x5) then (Y39.l0 k x0 x1 (wrap64 (x5+1))) else (some false)) else (none)) else (none)) else (some true)
def Y39.f (k:Nat) (l0:List Int) (l1:List Int):Option (Bool):=if (l0.length:Int)=(l1.length:Int) then (Y39.l0 k l0 l1 0) else (some false)
theorem Y39.mono_l:∀ k,(∀ y0 y1 y2,LeO (Y39.l0 k y0 y1 y2) (Y39.l0 (k+1) y0 y1 y2))
 | 0=>fun _ _ _ r h=>by simp [Y39.l0] at h
 | k+1=>by
  have ih0:=Y39.mono_l k
  ·intro y0 y1 y2
   unfold Y39.l0
   repeat' first|(with_reducible first|apply ih0|exact lR _|exact lN _|refine lI ?_ ?_|refine lB ?_ fun _=>?_)|exact lN _|refine lI ?_ ?_|refine lB ?_ fun _=>?_
theorem Y39.mono:∀ a0 a1 k,LeO (Y39.f k a0 a1) (Y39.f (k+1) a0 a1):=by
 intro a0 a1 k;have ih0:=Y39.mono_l k;unfold Y39.f
 repeat' first|(with_reducible first|apply ih0|exact lR _|exact lN _|refine lI ?_ ?_|refine lB ?_ fun _=>?_)|exact lN _|refine lI ?_ ?_|refine lB ?_ fun _=>?_
set_option maxHeartbeats 60000000 in
set_option maxRecDepth 100000 in
theorem Y39.calls (k:Nat) (A0:Option Addr) (c0:Nat) (l0:List Int) (A1:Option Addr) (c1:Nat) (l1:List Int) (r:Bool) (w:World) (hr0:Kd.C (Kd.int .u8) w A0 l0.length l0) (hc0:l0.length≤c0) (hr1:Kd.C (Kd.int .u8) w A1 l1.length l1) (hc1:l1.length≤c1) (h:Y39.f k l0 l1=some r) :
  Calls Try.prog 44 #[.slice A0 l0.length c0,.slice A1 l1.length c1] w fun e w'=>e=.returned (.bool r)∧Drawn0 w w':=by
 have aX:=aM hr0;have bL:=aM hc0;clear hr0 hc0;have bA:=aM hr1;have bM:=aM hc1;clear hr1 hc1;have H:(if (l0.length:Int)=(l1.length:Int) then (Y39.l0 k l0 l1 0) else (some false))=some r:=h;clear h
 by_cases c3:(l0.length:Int)=(l1.length:Int)
 case neg =>
  rw [if_neg c3] at H
  have aN:((l0.length:Int) == (l1.length:Int))=false:=beq_eq_false_iff_ne.mpr c3;have aQ:((l0.length:Int) != (l1.length:Int))=true:=bne_iff_ne.mpr c3;have aT:(l0.length == l1.length)=false:=by first|simpa using c3|(simp at c3 ⊢;omega)
  obtain rfl:=Option.some.inj H;go_enter Try.func44,Try.ntmps44
  go_wp2
  repeat (go_quiet (fail);try go_wp2)
  go_ret
  exact ⟨by first|rfl|(simp;done)|(simp [*];done),by repeat (first|exact Drawn0.refl _|apply Drawn0.step)⟩
 rw [if_pos c3] at H
 have aN:((l0.length:Int) == (l1.length:Int))=true:=beq_iff_eq.mpr c3;have aQ:((l0.length:Int) != (l1.length:Int))=false:=bne_eq_false_iff_eq.mpr c3;have aT:(l0.length == l1.length)=true:=by first|simpa using c3|(simp at c3 ⊢;omega)
 clear c3;have H':=aM H;clear H;go_enter Try.func44,Try.ntmps44
 go_wp2
 repeat (go_quiet (fail);try go_wp2)
 go_loopg [5] k (fun kq v5 w'=>∃ (aA:Int),v5=.int .i64 aA∧Aside0 (Y39.l0 kq l0 l1 aA=some r)∧Aside0 (kq≤k)∧Drawn0 w w')
 case atStart=>exact ⟨(0),xE,H',⟨Nat.le_refl _⟩,by repeat (first|exact Drawn0.refl _|apply Drawn0.step)⟩
 case round =>
  clear H'
  repeat first|clear c1|clear p2|clear c3|clear aN|clear aQ|clear aT
  obtain ⟨aA,rfl,HA,bD,⟨m1,rfl⟩⟩:=hrel;cases gk with
  | zero=>exact absurd HA.out (by simp [Y39.l0])
  | succ k1 =>
   have H:=HA.out;clear HA;simp only [Y39.l0] at H
   by_cases c4:aA<(l0.length:Int)
   case neg =>
    rw [if_neg c4] at H
    have bG:=decide_eq_false c4;clear c4;obtain rfl:=Option.some.inj H;go_wp2
    repeat (go_quiet (fail);try go_wp2)
    go_ret
    exact ⟨by first|rfl|(simp;done)|(simp [*];done),by repeat (first|exact Drawn0.refl _|apply Drawn0.step)⟩
   rw [if_pos c4] at H
   have bG:=decide_eq_true c4;clear c4;obtain ⟨bJ,H⟩:=gI H;obtain ⟨bK,H⟩:=gI H
   by_cases c7:(rd l0 aA)=(rd l1 aA)
   case neg =>
    rw [if_neg c7] at H
    have bH:((rd l0 aA) == (rd l1 aA))=false:=beq_eq_false_iff_ne.mpr c7;have bI:((rd l0 aA) != (rd l1 aA))=true:=bne_iff_ne.mpr c7;obtain rfl:=Option.some.inj H;have aC:0≤(aA:Int):=dT;have aD:aA<(l0.length:Int):=dT;obtain ⟨aV,aH,aJ⟩:=Kd.at_int aX.out aA aC aD;cases aH
    replace aC:=eq_true aC;replace aD:=eq_true aD;have aE:0≤(aA:Int):=dT;have aG:aA<(l1.length:Int):=dT;obtain ⟨aW,aI,aK⟩:=Kd.at_int bA.out aA aE aG;cases aI
    replace aE:=eq_true aE;replace aG:=eq_true aG;go_wp2
    repeat (go_quiet (fail);try go_wp2)
    go_ret
    exact ⟨by first|rfl|(simp;done)|(simp [*];done),by repeat (first|exact Drawn0.refl _|apply Drawn0.step)⟩
   rw [if_pos c7] at H
   have bH:((rd l0 aA) == (rd l1 aA))=true:=beq_iff_eq.mpr c7;have bI:((rd l0 aA) != (rd l1 aA))=false:=bne_eq_false_iff_eq.mpr c7;clear c7;have H':=aM H;clear H;have aC:0≤(aA:Int):=dT;have aD:aA<(l0.length:Int):=dT;obtain ⟨aV,aH,aJ⟩:=Kd.at_int aX.out aA aC aD;cases aH
   replace aC:=eq_true aC;replace aD:=eq_true aD;have aE:0≤(aA:Int):=dT;have aG:aA<(l1.length:Int):=dT;obtain ⟨aW,aI,aK⟩:=Kd.at_int bA.out aA aE aG;cases aI
   replace aE:=eq_true aE;replace aG:=eq_true aG;go_wp2
   repeat (go_quiet (fail);try go_wp2)
   go_roundg k1
   case measure=>have:=bD.out;omega
   case rel=>exact ⟨(wS aA),xE,H',⟨by have:=bD.out;omega⟩,by repeat (first|exact Drawn0.refl _|apply Drawn0.step)⟩

def Y52.f (k:Nat) (aA aC aD:Int) (aE:List Int) (aG aH aI:Int) (aJ:List Int):Option (Bool):=if aA=aG then (if aC=aH then (if aD=aI then ((Y39.f k aE aJ).bind fun aK=>(if aK=true then (some true) else (some false))) else (some false)) else (some false)) else (some false)
theorem Y52.mono:∀ a0 a1 a2 a3 a4 a5 a6 a7 k,LeO (Y52.f k a0 a1 a2 a3 a4 a5 a6 a7) (Y52.f (k+1) a0 a1 a2 a3 a4 a5 a6 a7):=by
 intro a0 a1 a2 a3 a4 a5 a6 a7 k;unfold Y52.f
 repeat' first|(with_reducible first|apply Y39.mono|exact lR _|exact lN _|refine lI ?_ ?_|refine lB ?_ fun _=>?_)|exact lN _|refine lI ?_ ?_|refine lB ?_ fun _=>?_
set_option maxHeartbeats 60000000 in
set_option maxRecDepth 100000 in
theorem Y52.calls (k:Nat) (aH aI aJ:Int) (aV:Option Addr) (aW:Nat) (aE:List Int) (aK aN aQ:Int) (aX:Option Addr) (bA:Nat) (aG:List Int) (r:Bool) (w:World) (hr0_3:Kd.C (Kd.int .u8) w aV aE.length aE) (hc0_3:aE.length≤aW) (hr1_3:Kd.C (Kd.int .u8) w aX aG.length aG) (hc1_3:aG.length≤bA) (h:Y52.f k aH aI aJ aE aK aN aQ aG=some r) :
  Calls Try.prog 12 #[.agg #[aH,aI,aJ,.slice aV aE.length aW],.agg #[aK,aN,aQ,.slice aX aG.length bA]] w fun e w'=>e=.returned (.bool r)∧Below w.heap.size w w':=by
 have cY:=Try.underlying40;have bM:=aM hr0_3;have bN:=aM hc0_3;clear hr0_3 hc0_3;have bO:=aM hr1_3;have bP:=aM hc1_3;clear hr1_3 hc1_3;have HB:=aM (Below.refl w.heap.size w);have H:(if aH=aK then (if aI=aN then (if aJ=aQ then ((Y39.f k aE aG).bind fun bL=>(if bL=true then (some true) else (some false))) else (some false)) else (some false)) else (some false))=some r:=h
 clear h
 by_cases c3:aH=aK
 case neg =>
  rw [if_neg c3] at H
  have bT:(aH == aK)=false:=beq_eq_false_iff_ne.mpr c3;have bU:(aH != aK)=true:=bne_iff_ne.mpr c3;obtain rfl:=Option.some.inj H;go_enter Try.func12,Try.ntmps12
  go_wp2_with (first|((with_reducible refine gD (N:=2) rfl ?_);refine bE (N:=2) (cs:=#[aH,aI,aJ,.slice aV aE.length aW]) (t:=40) ?_;intro bD hg dA hbox hb;have aA:=aM (hbox);have bG:=gF hg HB;have bH:=gF hg HB;replace HB:=rS HB hb;clear hb hbox hg)|((with_reducible refine gD (N:=3) rfl ?_);refine bE (N:=3) (cs:=#[aK,aN,aQ,.slice aX aG.length bA]) (t:=40) ?_;intro bI hg dB hbox hb;have aT:=aM (hbox);have bJ:=gF hg HB;have bK:=gF hg HB;have aC:=nM hg aA;have aD:=nH hg aA;replace aA:=rB aA hb;replace HB:=rS HB hb;clear hb hbox hg;have bZ:=aC.out;have cA:=aD.out;have cC:=cA4 aA.out;have cD:=cA4 aT.out))
  go_ret
  exact ⟨xW,bl HB.out⟩
 rw [if_pos c3] at H
 have bT:(aH == aK)=true:=beq_iff_eq.mpr c3;have bU:(aH != aK)=false:=bne_eq_false_iff_eq.mpr c3;clear c3
 by_cases c4:aI=aN
 case neg =>
  rw [if_neg c4] at H
  have bV:(aI == aN)=false:=beq_eq_false_iff_ne.mpr c4;have bW:(aI != aN)=true:=bne_iff_ne.mpr c4;obtain rfl:=Option.some.inj H;go_enter Try.func12,Try.ntmps12
  go_wp2_with (first|((with_reducible refine gD (N:=2) rfl ?_);refine bE (N:=2) (cs:=#[aH,aI,aJ,.slice aV aE.length aW]) (t:=40) ?_;intro bD hg dC hbox hb;have aA:=aM (hbox);have bG:=gF hg HB;have bH:=gF hg HB;replace HB:=rS HB hb;clear hb hbox hg)|((with_reducible refine gD (N:=3) rfl ?_);refine bE (N:=3) (cs:=#[aK,aN,aQ,.slice aX aG.length bA]) (t:=40) ?_;intro bI hg dD hbox hb;have aT:=aM (hbox);have bJ:=gF hg HB;have bK:=gF hg HB;have aC:=nM hg aA;have aD:=nH hg aA;replace aA:=rB aA hb;replace HB:=rS HB hb;clear hb hbox hg;have cE:=aC.out;have cG:=aD.out;have cH:=cA4 aA.out;have cK:=cA4 aT.out))
  go_ret
  exact ⟨xW,bl HB.out⟩
 rw [if_pos c4] at H
 have bV:(aI == aN)=true:=beq_iff_eq.mpr c4;have bW:(aI != aN)=false:=bne_eq_false_iff_eq.mpr c4;clear c4
 by_cases c5:aJ=aQ
 case neg =>
  rw [if_neg c5] at H
  have bX:(aJ == aQ)=false:=beq_eq_false_iff_ne.mpr c5;have bY:(aJ != aQ)=true:=bne_iff_ne.mpr c5;obtain rfl:=Option.some.inj H;go_enter Try.func12,Try.ntmps12
  go_wp2_with (first|((with_reducible refine gD (N:=2) rfl ?_);refine bE (N:=2) (cs:=#[aH,aI,aJ,.slice aV aE.length aW]) (t:=40) ?_;intro bD hg dE hbox hb;have aA:=aM (hbox);have bG:=gF hg HB;have bH:=gF hg HB;replace HB:=rS HB hb;clear hb hbox hg)|((with_reducible refine gD (N:=3) rfl ?_);refine bE (N:=3) (cs:=#[aK,aN,aQ,.slice aX aG.length bA]) (t:=40) ?_;intro bI hg dF hbox hb;have aT:=aM (hbox);have bJ:=gF hg HB;have bK:=gF hg HB;have aC:=nM hg aA;have aD:=nH hg aA;replace aA:=rB aA hb;replace HB:=rS HB hb;clear hb hbox hg;have cL:=aC.out;have cN:=aD.out;have cO:=cA4 aA.out;have cP:=cA4 aT.out))
  go_ret
  exact ⟨xW,bl HB.out⟩
 rw [if_pos c5] at H
 have bX:(aJ == aQ)=true:=beq_iff_eq.mpr c5;have bY:(aJ != aQ)=false:=bne_eq_false_iff_eq.mpr c5;clear c5;obtain ⟨bL,bQ,H⟩:=hB H;have A6:=aM bQ;clear bQ
 by_cases c7:bL=true
 case pos =>
  subst c7;replace H:=hP H rfl;obtain rfl:=Option.some.inj H;go_enter Try.func12,Try.ntmps12
  go_wp2_with (first|((with_reducible refine gD (N:=2) rfl ?_);refine bE (N:=2) (cs:=#[aH,aI,aJ,.slice aV aE.length aW]) (t:=40) ?_;intro bD hg w8 hbox hb;have aA:=aM (hbox);have bG:=gF hg HB;have bH:=gF hg HB;replace HB:=rS HB hb;clear hb hbox hg)|((with_reducible refine gD (N:=3) rfl ?_);refine bE (N:=3) (cs:=#[aK,aN,aQ,.slice aX aG.length bA]) (t:=40) ?_;intro bI hg w9 hbox hb;have aT:=aM (hbox);have bJ:=gF hg HB;have bK:=gF hg HB;have aC:=nM hg aA;have aD:=nH hg aA;replace aA:=rB aA hb;replace HB:=rS HB hb;clear hb hbox hg;have cQ:=aC.out;have cR:=aD.out;have cS:=cA4 aA.out;have cT:=cA4 aT.out)|((with_reducible refine gC (f:=44) rfl ?_);refine gL (some 24) Try.func44 #[.slice aV aE.length aW,.slice aX aG.length bA] ?_;(with_reducible refine (Y39.calls k _ _ aE _ _ aG true _ ?side1 ?side2 ?side3 ?side4 A6.out).mono ?_);(case side1=>exact cM (cB bM.out HB.out));(case side2=>exact bN.out);(case side3=>exact cM (cB bO.out HB.out));(case side4=>exact bP.out);rintro e w' ⟨rfl,⟨nd,rfl⟩⟩;refine ⟨_,rfl,?_⟩))
  go_ret
  exact ⟨xW,bl HB.out⟩
 replace c7:=Bool.eq_false_iff.mpr c7;subst c7;replace H:=hF H;obtain rfl:=Option.some.inj H;go_enter Try.func12,Try.ntmps12
 go_wp2_with (first|((with_reducible refine gD (N:=2) rfl ?_);refine bE (N:=2) (cs:=#[aH,aI,aJ,.slice aV aE.length aW]) (t:=40) ?_;intro bD hg dG hbox hb;have aA:=aM (hbox);have bG:=gF hg HB;have bH:=gF hg HB;replace HB:=rS HB hb;clear hb hbox hg)|((with_reducible refine gD (N:=3) rfl ?_);refine bE (N:=3) (cs:=#[aK,aN,aQ,.slice aX aG.length bA]) (t:=40) ?_;intro bI hg dH hbox hb;have aT:=aM (hbox);have bJ:=gF hg HB;have bK:=gF hg HB;have aC:=nM hg aA;have aD:=nH hg aA;replace aA:=rB aA hb;replace HB:=rS HB hb;clear hb hbox hg;have cU:=aC.out;have cV:=aD.out;have cW:=cA4 aA.out;have cX:=cA4 aT.out)|((with_reducible refine gC (f:=44) rfl ?_);refine gL (some 24) Try.func44 #[.slice aV aE.length aW,.slice aX aG.length bA] ?_;(with_reducible refine (Y39.calls k _ _ aE _ _ aG false _ ?side1 ?side2 ?side3 ?side4 A6.out).mono ?_);(case side1=>exact cM (cB bM.out HB.out));(case side2=>exact bN.out);(case side3=>exact cM (cB bO.out HB.out));(case side4=>exact bP.out);rintro e w' ⟨rfl,⟨nd,rfl⟩⟩;refine ⟨_,rfl,?_⟩))
 go_ret
 exact ⟨xW,bl HB.out⟩

def Y54.f (k:Nat) (aA aC aD aE:Int) (aG:List Int) (aH aI aJ aK:Int) (aN:List Int):Option (Bool):=if aA=aH then ((Y52.f k aC aD aE aG aI aJ aK aN).bind fun aQ=>(if aQ=true then (some true) else (some false))) else (some false)
theorem Y54.mono:∀ a0 a1 a2 a3 a4 a5 a6 a7 a8 a9 k,LeO (Y54.f k a0 a1 a2 a3 a4 a5 a6 a7 a8 a9) (Y54.f (k+1) a0 a1 a2 a3 a4 a5 a6 a7 a8 a9):=by
 intro a0 a1 a2 a3 a4 a5 a6 a7 a8 a9 k;unfold Y54.f
 repeat' first|(with_reducible first|apply Y52.mono|exact lR _|exact lN _|refine lI ?_ ?_|refine lB ?_ fun _=>?_)|exact lN _|refine lI ?_ ?_|refine lB ?_ fun _=>?_
set_option maxHeartbeats 60000000 in
set_option maxRecDepth 100000 in
theorem Y54.calls (k:Nat) (aI aK aN aQ:Int) (aX:Option Addr) (bA:Nat) (aC:List Int) (aJ aT aV aW:Int) (bD:Option Addr) (bG:Nat) (aD:List Int) (r:Bool) (w:World) (hr0_4:Kd.C (Kd.int .u8) w aX aC.length aC) (hc0_4:aC.length≤bA) (hr1_4:Kd.C (Kd.int .u8) w bD aD.length aD) (hc1_4:aD.length≤bG) (h:Y54.f k aI aK aN aQ aC aJ aT aV aW aD=some r) :
  Calls Try.prog 43 #[.agg #[aI,aK,aN,aQ,.slice aX aC.length bA],.agg #[aJ,aT,aV,aW,.slice bD aD.length bG]] w fun e w'=>e=.returned (.bool r)∧Below w.heap.size w w':=by
 have cK:=Try.underlying65;have cL:=Try.underlying40;have bI:=aM hr0_4;have bJ:=aM hc0_4;clear hr0_4 hc0_4;have bK:=aM hr1_4;have bL:=aM hc1_4;clear hr1_4 hc1_4;have HB:=aM (Below.refl w.heap.size w);have H:(if aI=aJ then ((Y52.f k aK aN aQ aC aT aV aW aD).bind fun bH=>(if bH=true then (some true) else (some false))) else (some false))=some r:=h
 clear h
 by_cases c3:aI=aJ
 case neg =>
  rw [if_neg c3] at H
  have bV:(aI == aJ)=false:=beq_eq_false_iff_ne.mpr c3;have bW:(aI != aJ)=true:=bne_iff_ne.mpr c3;obtain rfl:=Option.some.inj H;go_enter Try.func43,Try.ntmps43
  go_wp2_with (first|((with_reducible refine gD (N:=2) rfl ?_);refine bE (N:=2) (cs:=#[aI,aK,aN,aQ,.slice aX aC.length bA]) (t:=65) ?_;intro bM hg cQ hbox hb;have aA:=aM (hbox);have bN:=gF hg HB;have bO:=gF hg HB;replace HB:=rS HB hb;clear hb hbox hg)|((with_reducible refine gD (N:=3) rfl ?_);refine bE (N:=3) (cs:=#[aJ,aT,aV,aW,.slice bD aD.length bG]) (t:=65) ?_;intro bP hg cR hbox hb;have aH:=aM (hbox);have bQ:=gF hg HB;have bT:=gF hg HB;have aE:=nM hg aA;have aG:=nH hg aA;replace aA:=rB aA hb;replace HB:=rS HB hb;clear hb hbox hg;have bX:=aE.out;have bY:=aG.out;have bZ:=cA5 aA.out;have cA:=cA5 aH.out))
  go_ret
  exact ⟨xW,bl HB.out⟩
 rw [if_pos c3] at H
 have bV:(aI == aJ)=true:=beq_iff_eq.mpr c3;have bW:(aI != aJ)=false:=bne_eq_false_iff_eq.mpr c3;clear c3;obtain ⟨bH,bU,H⟩:=hB H;have A4:=aM bU;clear bU
 by_cases c5:bH=true
 case pos =>
  subst c5;replace H:=hP H rfl;obtain rfl:=Option.some.inj H;go_enter Try.func43,Try.ntmps43
  go_wp2_with (first|((with_reducible refine gD (N:=2) rfl ?_);refine bE (N:=2) (cs:=#[aI,aK,aN,aQ,.slice aX aC.length bA]) (t:=65) ?_;intro bM hg w6 hbox hb;have aA:=aM (hbox);have bN:=gF hg HB;have bO:=gF hg HB;replace HB:=rS HB hb;clear hb hbox hg)|((with_reducible refine gD (N:=3) rfl ?_);refine bE (N:=3) (cs:=#[aJ,aT,aV,aW,.slice bD aD.length bG]) (t:=65) ?_;intro bP hg w7 hbox hb;have aH:=aM (hbox);have bQ:=gF hg HB;have bT:=gF hg HB;have aE:=nM hg aA;have aG:=nH hg aA;replace aA:=rB aA hb;replace HB:=rS HB hb;clear hb hbox hg;have cN:=aE.out;have cO:=aG.out;have cP:=cA5 aA.out;have cC:=cA5 aH.out)|((with_reducible refine gC (f:=12) rfl ?_);refine gL (some 14) Try.func12 #[.agg #[aK,aN,aQ,.slice aX aC.length bA],.agg #[aT,aV,aW,.slice bD aD.length bG]] ?_;(with_reducible refine (Y52.calls k aK aN aQ _ _ aC aT aV aW _ _ aD true _ ?side1 ?side2 ?side3 ?side4 A4.out).mono ?_);(case side1=>exact cM (cB bI.out HB.out));(case side2=>exact bJ.out);(case side3=>exact cM (cB bK.out HB.out));(case side4=>exact bL.out);rintro e cS ⟨rfl,hb⟩;refine ⟨_,rfl,?_⟩;replace aA:=rB aA hb;replace aH:=rB aH hb;replace HB:=rS HB hb;(try clear hb)))
  go_ret
  exact ⟨xW,bl HB.out⟩
 replace c5:=Bool.eq_false_iff.mpr c5;subst c5;replace H:=hF H;obtain rfl:=Option.some.inj H;go_enter Try.func43,Try.ntmps43
 go_wp2_with (first|((with_reducible refine gD (N:=2) rfl ?_);refine bE (N:=2) (cs:=#[aI,aK,aN,aQ,.slice aX aC.length bA]) (t:=65) ?_;intro bM hg cT hbox hb;have aA:=aM (hbox);have bN:=gF hg HB;have bO:=gF hg HB;replace HB:=rS HB hb;clear hb hbox hg)|((with_reducible refine gD (N:=3) rfl ?_);refine bE (N:=3) (cs:=#[aJ,aT,aV,aW,.slice bD aD.length bG]) (t:=65) ?_;intro bP hg cU hbox hb;have aH:=aM (hbox);have bQ:=gF hg HB;have bT:=gF hg HB;have aE:=nM hg aA;have aG:=nH hg aA;replace aA:=rB aA hb;replace HB:=rS HB hb;clear hb hbox hg;have cD:=aE.out;have cE:=aG.out;have cG:=cA5 aA.out;have cH:=cA5 aH.out)|((with_reducible refine gC (f:=12) rfl ?_);refine gL (some 14) Try.func12 #[.agg #[aK,aN,aQ,.slice aX aC.length bA],.agg #[aT,aV,aW,.slice bD aD.length bG]] ?_;(with_reducible refine (Y52.calls k aK aN aQ _ _ aC aT aV aW _ _ aD false _ ?side1 ?side2 ?side3 ?side4 A4.out).mono ?_);(case side1=>exact cM (cB bI.out HB.out));(case side2=>exact bJ.out);(case side3=>exact cM (cB bK.out HB.out));(case side4=>exact bL.out);rintro e cV ⟨rfl,hb⟩;refine ⟨_,rfl,?_⟩;replace aA:=rB aA hb;replace aH:=rB aH hb;replace HB:=rS HB hb;(try clear hb)))
 go_ret
 exact ⟨xW,bl HB.out⟩

end Go.Proofs.Ytfljolhhgheheaa.PFnExactPass

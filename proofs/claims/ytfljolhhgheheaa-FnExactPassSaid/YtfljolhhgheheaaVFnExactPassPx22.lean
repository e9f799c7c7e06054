/- A part of the proof of laws.FnExactPass. No condition beyond what its theorems say. -/
import Derived.Test.YtfljolhhgheheaaVFnExactPassPx1
import Derived.Test.YtfljolhhgheheaaVFnExactPassPx21
namespace Go.Proofs.Ytfljolhhgheheaa.PFnExactPass
open Go.RowKit Go.Proofs.YtfljolhhgheheaaW.PrintWords Go.Proofs.YtfljolhhgheheaaW.PrintLast Go.Proofs.YtfljolhhgheheaaW.PrintMore
set_option linter.unusedVariables false
set_option linter.unusedSimpArgs false

def Y17.l0:Nat→List (S65)→List (S65)→Int→Option (Bool)
 | 0,_,_,_=>none
 | k+1,x0,x1,x5=>if x5<(x0.length:Int) then (if 0≤x5 then (if x5<(x1.length:Int) then ((Y54.f k ((rd_T65 x0 x5).f0) ((rd_T65 x0 x5).f1.f0) ((rd_T65 x0 x5).f1.f1) ((rd_T65 x0 x5).f1.f2) ((rd_T65 x0 x5).f1.f3) ((rd_T65 x1 x5).f0) ((rd_T65 x1 x5).f1.f0) ((rd_T65 x1 x5).f1.f1) ((rd_T65 x1 x5).f1.f2) ((rd_T65 x1 x5).f1.f3)).bind fun aA=>(if aA=true then (Y17.l0 k x0 x1 (wrap64 (x5+1))) else (some false))) else (none)) else (none)) else (some true)
def Y17.f (k:Nat) (l0:List (S65)) (l1:List (S65)):Option (Bool):=if (l0.length:Int)=(l1.length:Int) then (Y17.l0 k l0 l1 0) else (some false)
theorem Y17.mono_l:∀ k,(∀ y0 y1 y2,LeO (Y17.l0 k y0 y1 y2) (Y17.l0 (k+1) y0 y1 y2))
 | 0=>fun _ _ _ r h=>by simp [Y17.l0] at h
 | k+1=>by
  have ih0:=Y17.mono_l k
  ·intro y0 y1 y2
   unfold Y17.l0
   repeat' first|(with_reducible first|apply ih0|apply Y54.mono|exact lR _|exact lN _|refine lI ?_ ?_|refine lB ?_ fun _=>?_)|exact lN _|refine lI ?_ ?_|refine lB ?_ fun _=>?_
theorem Y17.mono:∀ a0 a1 k,LeO (Y17.f k a0 a1) (Y17.f (k+1) a0 a1):=by
 intro a0 a1 k;have ih0:=Y17.mono_l k;unfold Y17.f
 repeat' first|(with_reducible first|apply ih0|apply Y54.mono|exact lR _|exact lN _|refine lI ?_ ?_|refine lB ?_ fun _=>?_)|exact lN _|refine lI ?_ ?_|refine lB ?_ fun _=>?_
def Y17.T6:Bool × List (List Nat × List Nat):=(true,[([],[]),([],[]),([0,1],[0,1]),([2],[2]),([],[]),([],[]),([4,5],[4,5]),([6],[6]),([3,7],[3,7]),([8],[8])])
def Y17.B6:List Nat:=[0,0,3,7,0,0,48,112,255,511]
theorem Y17.tab6:rtab .any (opsOf Try.f11 6)=Y17.T6:=by kernel_rfl
theorem Y17.bits6:waitsOk Y17.T6.2 Y17.B6=true:=by kernel_rfl
set_option maxHeartbeats 60000000 in
set_option maxRecDepth 100000 in
theorem Y17.calls (k:Nat) (A0:Option Addr) (c0:Nat) (l0:List (S65)) (A1:Option Addr) (c1:Nat) (l1:List (S65)) (r:Bool) (w:World) (hr0:Kd.C k65 w A0 l0.length l0) (hc0:l0.length≤c0) (hr1:Kd.C k65 w A1 l1.length l1) (hc1:l1.length≤c1) (h:Y17.f k l0 l1=some r) :
  Calls Try.prog 11 #[.slice A0 l0.length c0,.slice A1 l1.length c1] w fun e w'=>e=.returned (.bool r)∧Below w.heap.size w w':=by
 have cQ:=Try.underlying65;have cH:=aM hr0;have cT:=aM hc0;clear hr0 hc0;have cK:=aM hr1;have cU:=aM hc1;clear hr1 hc1;have HB:=aM (Below.refl w.heap.size w);have H:(if (l0.length:Int)=(l1.length:Int) then (Y17.l0 k l0 l1 0) else (some false))=some r:=h;clear h
 by_cases c3:(l0.length:Int)=(l1.length:Int)
 case neg =>
  rw [if_neg c3] at H
  have cD:((l0.length:Int) == (l1.length:Int))=false:=beq_eq_false_iff_ne.mpr c3;have cE:((l0.length:Int) != (l1.length:Int))=true:=bne_iff_ne.mpr c3;have cG:(l0.length == l1.length)=false:=by first|simpa using c3|(simp at c3 ⊢;omega)
  obtain rfl:=Option.some.inj H;go_enter Try.func11,Try.ntmps11
  go_wp2
  go_ret
  exact ⟨xW,bl HB.out⟩
 rw [if_pos c3] at H
 have cD:((l0.length:Int) == (l1.length:Int))=true:=beq_iff_eq.mpr c3;have cE:((l0.length:Int) != (l1.length:Int))=false:=bne_eq_false_iff_eq.mpr c3;have cG:(l0.length == l1.length)=true:=by first|simpa using c3|(simp at c3 ⊢;omega)
 clear c3;have H':=aM H;clear H;go_enter Try.func11,Try.ntmps11
 go_wp2
 go_loopg [5] k (fun kq v5 w'=>∃ (aA:Int),v5=.int .i64 aA∧Aside0 (Y17.l0 kq l0 l1 aA=some r)∧Aside0 (kq≤k)∧Aside0 (Below w.heap.size w w'))
 case atStart=>exact ⟨(0),xE,H',⟨Nat.le_refl _⟩,⟨bl HB.out⟩⟩
 case round =>
  clear H'
  repeat first|clear c1|clear p2|clear c3|clear cD|clear cE|clear cG
  obtain ⟨aA,rfl,HA,cL,HB⟩:=hrel;cases gk with
  | zero=>exact absurd HA.out (by simp [Y17.l0])
  | succ k1 =>
   have H:=HA.out;clear HA;simp only [Y17.l0] at H
   by_cases c4:aA<(l0.length:Int)
   case neg =>
    rw [if_neg c4] at H
    have cO:=decide_eq_false c4;clear c4;obtain rfl:=Option.some.inj H;go_wp2
    go_ret
    exact ⟨xW,bl HB.out⟩
   rw [if_pos c4] at H
   have cO:=decide_eq_true c4;clear c4;obtain ⟨cR,H⟩:=gI H;obtain ⟨cS,H⟩:=gI H;obtain ⟨cP,cN,H⟩:=hB H;have A7:=aM cN;clear cN
   by_cases c8:cP=true
   case neg =>
    replace c8:=Bool.eq_false_iff.mpr c8;subst c8;replace H:=hF H;obtain rfl:=Option.some.inj H
    try go_wp2
    replace HB:=aM (below_drew1 HB.out);have bU:0≤(aA:Int):=dT;have bV:aA<(l0.length:Int):=dT;obtain ⟨aC,bO,bP,cA,aE,aG,aH,aI,aJ,hl587_4,hi587_4⟩:=at_T65 cH.out aA bU bV;have aW:=aJ;have aX:=aI;have bA:=aH;have bD:=aG;have bG:=aE;cases cA
    replace aE:=xB HB aE;replace aG:=xB HB aG;replace aH:=xB HB aH;replace aI:=xB HB aI;replace aJ:=xB HB aJ;have bH:=aM hi587_4;have bY:=aM hl587_4;clear hi587_4 hl587_4;replace bU:=eq_true bU;replace bV:=eq_true bV;have bW:0≤(aA:Int):=dT;have bX:aA<(l1.length:Int):=dT;obtain ⟨aD,bQ,bT,cC,aK,aN,aQ,aT,aV,hl588_4,hi588_4⟩:=at_T65 cK.out aA bW bX;have bI:=aV;have bJ:=aT;have bK:=aQ;have bL:=aN;have bM:=aK;cases cC
    replace aK:=xB HB aK;replace aN:=xB HB aN;replace aQ:=xB HB aQ;replace aT:=xB HB aT;replace aV:=xB HB aV;have bN:=aM hi588_4;have bZ:=aM hl588_4;clear hi588_4 hl588_4;replace bW:=eq_true bW;replace bX:=eq_true bX;refine start_ (n:=10) (S:=fun w'=>w'.cell? (aC.add ((aA).toNat*5))=some ((rd_T65 l0 aA).f0)∧w'.cell? ⟨(aC.add ((aA).toNat*5)).block,(aC.add ((aA).toNat*5)).off+1,none⟩=some ((rd_T65 l0 aA).f1.f0)∧w'.cell? ⟨(aC.add ((aA).toNat*5)).block,(aC.add ((aA).toNat*5)).off+2,none⟩=some ((rd_T65 l0 aA).f1.f1)∧w'.cell? ⟨(aC.add ((aA).toNat*5)).block,(aC.add ((aA).toNat*5)).off+3,none⟩=some ((rd_T65 l0 aA).f1.f2)∧w'.cell? ⟨(aC.add ((aA).toNat*5)).block,(aC.add ((aA).toNat*5)).off+4,none⟩=some (.slice bO ((rd_T65 l0 aA).f1.f3).length bP)∧w'.cell? (aD.add ((aA).toNat*5))=some ((rd_T65 l1 aA).f0)∧w'.cell? ⟨(aD.add ((aA).toNat*5)).block,(aD.add ((aA).toNat*5)).off+1,none⟩=some ((rd_T65 l1 aA).f1.f0)∧w'.cell? ⟨(aD.add ((aA).toNat*5)).block,(aD.add ((aA).toNat*5)).off+2,none⟩=some ((rd_T65 l1 aA).f1.f1)∧w'.cell? ⟨(aD.add ((aA).toNat*5)).block,(aD.add ((aA).toNat*5)).off+3,none⟩=some ((rd_T65 l1 aA).f1.f2)∧w'.cell? ⟨(aD.add ((aA).toNat*5)).block,(aD.add ((aA).toNat*5)).off+4,none⟩=some (.slice bQ ((rd_T65 l1 aA).f1.f3).length bT)) (ds:=[]) (dn 10 0) (by kernel_rfl) rfl rfl ⟨(xB HB bG :),(xB HB bD :),(xB HB bA :),(xB HB aX :),(xB HB aW :),(xB HB bM :),(xB HB bL :),(xB HB bK :),(xB HB bJ :),(xB HB bI :)⟩ (fun hHeld=>?_);refine with_tabW Y17.tab6 Y17.bits6 (fun HT_ HW_=>?_)
    generalize wr.drew=cV at HB bH bN aE aG aH aI aJ aK aN aQ aT aV hHeld ⊢
    refine nY (N:=some 17) HT_ ?_;refine nY (N:=some 18) HT_ ?_;refine nY (N:=some 19) HT_ ?_;refine pZ 4 21 (bv 10 23) HT_ ?_;refine pZ 5 22 (bv 10 55) HT_ ?_;refine pZ 6 23 (bv 10 119) HT_ ?_;refine aZ 3 20 (bv 10 127) HT_ HW_ hHeld ?_;refine aZ 7 24 (bv 10 255) HT_ HW_ hHeld ?_;refine one_ (i:=8) (N:=some 25) (bv 10 511) rfl rfl (one_of HT_.out (by kernel_rfl)) (by decide) (fun K hK=>?_)
    refine goes_ Try.func43 (by kernel_rfl) rfl #[.agg #[((rd_T65 l0 aA).f0),((rd_T65 l0 aA).f1.f0),((rd_T65 l0 aA).f1.f1),((rd_T65 l0 aA).f1.f2),.slice bO ((rd_T65 l0 aA).f1.f3).length bP],.agg #[((rd_T65 l1 aA).f0),((rd_T65 l1 aA).f1.f0),((rd_T65 l1 aA).f1.f1),((rd_T65 l1 aA).f1.f2),.slice bQ ((rd_T65 l1 aA).f1.f3).length bT]] (by rfl) rfl rfl xR ?_
    with_reducible refine (Y54.calls k1 ((rd_T65 l0 aA).f0) ((rd_T65 l0 aA).f1.f0) ((rd_T65 l0 aA).f1.f1) ((rd_T65 l0 aA).f1.f2) _ _ ((rd_T65 l0 aA).f1.f3) ((rd_T65 l1 aA).f0) ((rd_T65 l1 aA).f1.f0) ((rd_T65 l1 aA).f1.f1) ((rd_T65 l1 aA).f1.f2) _ _ ((rd_T65 l1 aA).f1.f3) false _ ?side1 ?side2 ?side3 ?side4 A7.out).mono ?_
    (case side1=>exact cM (cB bH.out HB.out))
    (case side2=>exact bY.out)
    (case side3=>exact cM (cB bN.out HB.out))
    (case side4=>exact bZ.out)
    rintro e cW ⟨rfl,hb⟩;refine ⟨_,rfl,?_⟩;replace HB:=rS HB hb
    (try clear hb)
    (try clear hb2)
    (try clear hk)
    (try clear hi)
    refine hK.out _ _ ⟨(xB HB bG :),(xB HB bD :),(xB HB bA :),(xB HB aX :),(xB HB aW :),(xB HB bM :),(xB HB bL :),(xB HB bK :),(xB HB bJ :),(xB HB bI :)⟩ (fun hHeld=>?_)
    clear hK K;refine norm_ (a':=?_) ?_ ?_;rotate_left
    ·show Act.put _ (some 25) _=_
     simp only [Act.put,sA,sZ,sS,i64_w,i32_w]
     rfl
    refine pZ 9 26 (bv 10 1023) HT_ ?_;refine done_ (done_of HT_.out (by kernel_rfl)) ?_
    try go_wp2
    go_ret
    exact ⟨xW,bl HB.out⟩
   subst c8;replace H:=hP H rfl;have H':=aM H;clear H
   try go_wp2
   replace HB:=aM (below_drew1 HB.out);have bU:0≤(aA:Int):=dT;have bV:aA<(l0.length:Int):=dT;obtain ⟨aC,bO,bP,cA,aE,aG,aH,aI,aJ,hl587_4,hi587_4⟩:=at_T65 cH.out aA bU bV;have aW:=aJ;have aX:=aI;have bA:=aH;have bD:=aG;have bG:=aE;cases cA
   replace aE:=xB HB aE;replace aG:=xB HB aG;replace aH:=xB HB aH;replace aI:=xB HB aI;replace aJ:=xB HB aJ;have bH:=aM hi587_4;have bY:=aM hl587_4;clear hi587_4 hl587_4;replace bU:=eq_true bU;replace bV:=eq_true bV;have bW:0≤(aA:Int):=dT;have bX:aA<(l1.length:Int):=dT;obtain ⟨aD,bQ,bT,cC,aK,aN,aQ,aT,aV,hl588_4,hi588_4⟩:=at_T65 cK.out aA bW bX;have bI:=aV;have bJ:=aT;have bK:=aQ;have bL:=aN;have bM:=aK;cases cC
   replace aK:=xB HB aK;replace aN:=xB HB aN;replace aQ:=xB HB aQ;replace aT:=xB HB aT;replace aV:=xB HB aV;have bN:=aM hi588_4;have bZ:=aM hl588_4;clear hi588_4 hl588_4;replace bW:=eq_true bW;replace bX:=eq_true bX;refine start_ (n:=10) (S:=fun w'=>w'.cell? (aC.add ((aA).toNat*5))=some ((rd_T65 l0 aA).f0)∧w'.cell? ⟨(aC.add ((aA).toNat*5)).block,(aC.add ((aA).toNat*5)).off+1,none⟩=some ((rd_T65 l0 aA).f1.f0)∧w'.cell? ⟨(aC.add ((aA).toNat*5)).block,(aC.add ((aA).toNat*5)).off+2,none⟩=some ((rd_T65 l0 aA).f1.f1)∧w'.cell? ⟨(aC.add ((aA).toNat*5)).block,(aC.add ((aA).toNat*5)).off+3,none⟩=some ((rd_T65 l0 aA).f1.f2)∧w'.cell? ⟨(aC.add ((aA).toNat*5)).block,(aC.add ((aA).toNat*5)).off+4,none⟩=some (.slice bO ((rd_T65 l0 aA).f1.f3).length bP)∧w'.cell? (aD.add ((aA).toNat*5))=some ((rd_T65 l1 aA).f0)∧w'.cell? ⟨(aD.add ((aA).toNat*5)).block,(aD.add ((aA).toNat*5)).off+1,none⟩=some ((rd_T65 l1 aA).f1.f0)∧w'.cell? ⟨(aD.add ((aA).toNat*5)).block,(aD.add ((aA).toNat*5)).off+2,none⟩=some ((rd_T65 l1 aA).f1.f1)∧w'.cell? ⟨(aD.add ((aA).toNat*5)).block,(aD.add ((aA).toNat*5)).off+3,none⟩=some ((rd_T65 l1 aA).f1.f2)∧w'.cell? ⟨(aD.add ((aA).toNat*5)).block,(aD.add ((aA).toNat*5)).off+4,none⟩=some (.slice bQ ((rd_T65 l1 aA).f1.f3).length bT)) (ds:=[]) (dn 10 0) (by kernel_rfl) rfl rfl ⟨(xB HB bG :),(xB HB bD :),(xB HB bA :),(xB HB aX :),(xB HB aW :),(xB HB bM :),(xB HB bL :),(xB HB bK :),(xB HB bJ :),(xB HB bI :)⟩ (fun hHeld=>?_);refine with_tabW Y17.tab6 Y17.bits6 (fun HT_ HW_=>?_)
   generalize wr.drew=w9 at HB bH bN aE aG aH aI aJ aK aN aQ aT aV hHeld ⊢
   refine nY (N:=some 17) HT_ ?_;refine nY (N:=some 18) HT_ ?_;refine nY (N:=some 19) HT_ ?_;refine pZ 4 21 (bv 10 23) HT_ ?_;refine pZ 5 22 (bv 10 55) HT_ ?_;refine pZ 6 23 (bv 10 119) HT_ ?_;refine aZ 3 20 (bv 10 127) HT_ HW_ hHeld ?_;refine aZ 7 24 (bv 10 255) HT_ HW_ hHeld ?_;refine one_ (i:=8) (N:=some 25) (bv 10 511) rfl rfl (one_of HT_.out (by kernel_rfl)) (by decide) (fun K hK=>?_)
   refine goes_ Try.func43 (by kernel_rfl) rfl #[.agg #[((rd_T65 l0 aA).f0),((rd_T65 l0 aA).f1.f0),((rd_T65 l0 aA).f1.f1),((rd_T65 l0 aA).f1.f2),.slice bO ((rd_T65 l0 aA).f1.f3).length bP],.agg #[((rd_T65 l1 aA).f0),((rd_T65 l1 aA).f1.f0),((rd_T65 l1 aA).f1.f1),((rd_T65 l1 aA).f1.f2),.slice bQ ((rd_T65 l1 aA).f1.f3).length bT]] (by rfl) rfl rfl xR ?_
   with_reducible refine (Y54.calls k1 ((rd_T65 l0 aA).f0) ((rd_T65 l0 aA).f1.f0) ((rd_T65 l0 aA).f1.f1) ((rd_T65 l0 aA).f1.f2) _ _ ((rd_T65 l0 aA).f1.f3) ((rd_T65 l1 aA).f0) ((rd_T65 l1 aA).f1.f0) ((rd_T65 l1 aA).f1.f1) ((rd_T65 l1 aA).f1.f2) _ _ ((rd_T65 l1 aA).f1.f3) true _ ?side1 ?side2 ?side3 ?side4 A7.out).mono ?_
   (case side1=>exact cM (cB bH.out HB.out))
   (case side2=>exact bY.out)
   (case side3=>exact cM (cB bN.out HB.out))
   (case side4=>exact bZ.out)
   rintro e cX ⟨rfl,hb⟩;refine ⟨_,rfl,?_⟩;replace HB:=rS HB hb
   (try clear hb)
   (try clear hb2)
   (try clear hk)
   (try clear hi)
   refine hK.out _ _ ⟨(xB HB bG :),(xB HB bD :),(xB HB bA :),(xB HB aX :),(xB HB aW :),(xB HB bM :),(xB HB bL :),(xB HB bK :),(xB HB bJ :),(xB HB bI :)⟩ (fun hHeld=>?_)
   clear hK K;refine norm_ (a':=?_) ?_ ?_;rotate_left
   ·show Act.put _ (some 25) _=_
    simp only [Act.put,sA,sZ,sS,i64_w,i32_w]
    rfl
   refine pZ 9 26 (bv 10 1023) HT_ ?_;refine done_ (done_of HT_.out (by kernel_rfl)) ?_
   try go_wp2
   go_roundg k1
   case measure=>have:=cL.out;omega
   case rel=>exact ⟨(wS aA),xE,H',⟨by have:=cL.out;omega⟩,⟨bl HB.out⟩⟩

def Y46.l0:Nat→List Bool→Int→Int→Option (Int × List Bool)
 | 0,_,_,_=>none
 | k+1,x0,x1,x5=>if x5<(x0.length:Int) then (if 0≤x5 then (Y46.l0 k (x0.set (x5:Int).toNat ((Int.tmod x1 3) == 0)) (wrap64 (x1+1)) (wrap64 (x5+1))) else (none)) else (some (x1,x0))
def Y46.f (k:Nat) (l0:List Bool) (a1:Int):Option (Int × List Bool):=Y46.l0 k l0 a1 0
theorem Y46.mono_l:∀ k,(∀ y0 y1 y2,LeO (Y46.l0 k y0 y1 y2) (Y46.l0 (k+1) y0 y1 y2))
 | 0=>fun _ _ _ r h=>by simp [Y46.l0] at h
 | k+1=>by
  have ih0:=Y46.mono_l k
  ·intro y0 y1 y2
   unfold Y46.l0
   repeat' first|(with_reducible first|apply ih0|exact lR _|exact lN _|refine lI ?_ ?_|refine lB ?_ fun _=>?_)|exact lN _|refine lI ?_ ?_|refine lB ?_ fun _=>?_
theorem Y46.mono:∀ a0 a1 k,LeO (Y46.f k a0 a1) (Y46.f (k+1) a0 a1):=by
 intro a0 a1 k;have ih0:=Y46.mono_l k;unfold Y46.f
 repeat' first|(with_reducible first|apply ih0|exact lR _|exact lN _|refine lI ?_ ?_|refine lB ?_ fun _=>?_)|exact lN _|refine lI ?_ ?_|refine lB ?_ fun _=>?_
set_option maxHeartbeats 60000000 in
set_option maxRecDepth 100000 in
theorem Y46.calls (k:Nat) (P0_:Nat→Prop) (aD:Value) (l0:List Bool) (a1 r1:Int) (r2:List Bool) (w0 w:World) (hB:Below w0.heap.size w0 w) (ho0:Kd.R Kd.bool 4 w w0.heap.size P0_ aD l0) (h:Y46.f k l0 a1=some (r1,r2)) :
  Calls Try.prog 45 #[aD,a1] w fun e w'=>e=.returned (.int .i64 r1)∧Kd.R Kd.bool 4 w' w0.heap.size (fun k_=>(P0_ k_∨w.heap.size≤k_)) aD r2∧Below w0.heap.size w0 w'∧Kept w w' (fun k_=>P0_ k_):=by
 have bA:=aM (show Kd.R Kd.bool 4 w w0.heap.size (fun k_=>(P0_ k_∨w.heap.size≤k_)) aD l0 from Kd.R_mono ho0 (fun k_ hk=>(.inl hk)))
 have HK:=aM (Kept.refl w (fun k_=>P0_ k_))
 have HW0:=aM hB.size;have HB:=aM hB;clear hB;have H:(Y46.l0 k l0 a1 0)=some (r1,r2):=h;clear h;have H':=aM H;clear H;go_enter Try.func45,Try.ntmps45
 go_wp2
 go_loopg [1,5] k (fun kq v1 v5 w'=>∃ (aG:List Bool) (aE:Int) (aA:Int),v1=.int .i64 aE∧v5=.int .i64 aA∧Aside0 (Y46.l0 kq aG aE aA=some (r1,r2))∧Aside0 (kq≤k)∧Aside0 (Kd.R Kd.bool 4 w' w0.heap.size (fun k_=>(P0_ k_∨w.heap.size≤k_)) aD aG)∧Aside0 (Kept w w' (fun k_=>P0_ k_))∧Aside0 (Below w0.heap.size w0 w'))
 case atStart=>exact ⟨(l0),(a1),(0),xE,xE,H',⟨Nat.le_refl _⟩,⟨kr bA.out⟩,⟨kk HK.out⟩,⟨bl HB.out⟩⟩
 case round =>
  clear H'
  try clear p2
  obtain ⟨aG,aE,aA,rfl,rfl,HA,aQ,aC,HK,HB⟩:=hrel;cases gk with
  | zero=>exact absurd HA.out (by simp [Y46.l0])
  | succ k1 =>
   have H:=HA.out;clear HA;simp only [Y46.l0] at H
   by_cases c3:aA<(aG.length:Int)
   case neg =>
    rw [if_neg c3] at H
    have aX:=decide_eq_false c3;clear c3;simp only [Option.some.injEq,Prod.mk.injEq] at H;obtain ⟨rfl,rfl⟩:=H;obtain ⟨bN,bO,bD⟩:=Kd.R_slice aC.out;subst bD;go_wp2
    go_ret
    exact ⟨xW,by (with_reducible repeat (first|apply Kd.R_alloc|apply Kd.R_drewN|apply Kd.R_drew));exact aC.out,bl HB.out,kk HK.out⟩
   rw [if_pos c3] at H
   have aX:=decide_eq_true c3;clear c3;obtain ⟨bM,H⟩:=gI H;obtain ⟨aJ,aH⟩:∃ y_:List Bool,y_=(aG.set (aA:Int).toNat ((Int.tmod aE 3) == 0)):=⟨_,rfl⟩;replace H:(Y46.l0 k1 aJ (wS aE) (wS aA))=some (r1,r2):=by first|(rw [aH];with_reducible exact H)|(have H2_:=(Option.bind_some _ _).symm.trans H;rw [aH];with_reducible exact H2_)|(have H2_:=(Option.bind_some _ _).symm.trans H;with_reducible exact H2_)|with_reducible exact H|(rw [aH];exact H)|exact H
   have aN:=aM aH;clear aH;have H':=aM H;clear H;obtain ⟨bP,bG,bH⟩:=Kd.R_slice aC.out;subst bH;have p5:0≤(aA:Int):=dT;have q5:(aA:Int)<((aG.length:Int):Int):=dT;obtain ⟨aI,bQ,aT,aV,bI,bT,aW⟩:=Kd.R_form aC.out (by omega)
   (first|cases aT|(injection aT with ea_ en_ ec_;(first|subst ea_|(injection ea_ with ea_;subst ea_));subst ec_;clear en_))
   have bJ:=aM aV;have bU:=aM aW;clear aV bI aW;have HMgo5:=aM (show (P0_ aI∨w.heap.size≤aI) from (aC.out.1 _ rfl));obtain ⟨bK,bL⟩:=Kd.R_celln false aC.out (aA:Int) p5 q5;replace p5:=eq_true p5;replace q5:=eq_true q5;have aK:=Kd.R_putg aC.out (aA:Int) ((Int.tmod aE 3) == 0);go_wp2_with (first|((with_reducible refine gate_store (t:=4) (p:=17) rfl ?_);refine store_event (t:=4) (p:=17) (v:=?vo_w8) (w1:=(wr.setCell ⟨aI,(aA:Int).toNat,none⟩ (.bool ((Int.tmod aE 3) == 0)))) ?hg ?ho ?hn ?hr ?_;(case ho=>rfl);(case hg=>rfl);(case hn=>rfl);(case hr=>first|(go_simp;done)|(go_simp;rfl)|(obtain ⟨A_,c_,e_⟩:=Kd.R_slice aC.out;subst e_;(first|(go_simp;done)|(go_simp;rfl)))|(obtain ⟨A_,c_,e_⟩:=Kd.S_slice aC.out;subst e_;(first|(go_simp;done)|(go_simp;rfl))));intro w8 hw;have hg:wr.grownBy w8 (some aI):=(by rw [hw];exact aK.2);have hp_:Kd.R Kd.bool 4 w8 w0.heap.size (fun k_=>(P0_ k_∨w.heap.size≤k_)) (.slice (some ⟨aI,0,none⟩) aG.length bG) aJ:=(by rw [hw,aN.out];exact aK.1);clear aK;replace HB:=aM ((by rw [hw];exact below_set (HB.out) bJ.out:Below w0.heap.size w0 w8));replace HK:=aM (Kept.of_grown (S:=(fun k_=>P0_ k_)) hg (kk HK.out) (fun k_ e_=>(aC.out.1 k_ e_)));replace aC:=aM (hp_);clear hg hw hp_))
   go_roundg k1
   case measure=>have:=aQ.out;omega
   case rel=>exact ⟨(aJ),(wS aE),(wS aA),xE,xE,H',⟨by have:=aQ.out;omega⟩,⟨kr aC.out⟩,⟨kk HK.out⟩,⟨bl HB.out⟩⟩

def Y37.l0:Nat→List Int→Int→Int→Option (Int × List Int)
 | 0,_,_,_=>none
 | k+1,x0,x1,x5=>if x5<(x0.length:Int) then (if 0≤x5 then (Y37.l0 k (x0.set (x5:Int).toNat x1) (wrap64 (x1+1)) (wrap64 (x5+1))) else (none)) else (some (x1,x0))
def Y37.f (k:Nat) (l0:List Int) (a1:Int):Option (Int × List Int):=Y37.l0 k l0 a1 0
theorem Y37.mono_l:∀ k,(∀ y0 y1 y2,LeO (Y37.l0 k y0 y1 y2) (Y37.l0 (k+1) y0 y1 y2))
 | 0=>fun _ _ _ r h=>by simp [Y37.l0] at h
 | k+1=>by
  have ih0:=Y37.mono_l k
  ·intro y0 y1 y2
   unfold Y37.l0
   repeat' first|(with_reducible first|apply ih0|exact lR _|exact lN _|refine lI ?_ ?_|refine lB ?_ fun _=>?_)|exact lN _|refine lI ?_ ?_|refine lB ?_ fun _=>?_
theorem Y37.mono:∀ a0 a1 k,LeO (Y37.f k a0 a1) (Y37.f (k+1) a0 a1):=by
 intro a0 a1 k;have ih0:=Y37.mono_l k;unfold Y37.f
 repeat' first|(with_reducible first|apply ih0|exact lR _|exact lN _|refine lI ?_ ?_|refine lB ?_ fun _=>?_)|exact lN _|refine lI ?_ ?_|refine lB ?_ fun _=>?_
set_option maxHeartbeats 60000000 in
set_option maxRecDepth 100000 in
theorem Y37.calls (k:Nat) (P0_:Nat→Prop) (aD:Value) (l0:List Int) (a1 r1:Int) (r2:List Int) (w0 w:World) (hB:Below w0.heap.size w0 w) (ho0:Kd.R (Kd.int .i64) 3 w w0.heap.size P0_ aD l0) (h:Y37.f k l0 a1=some (r1,r2)) :
  Calls Try.prog 76 #[aD,a1] w fun e w'=>e=.returned (.int .i64 r1)∧Kd.R (Kd.int .i64) 3 w' w0.heap.size (fun k_=>(P0_ k_∨w.heap.size≤k_)) aD r2∧Below w0.heap.size w0 w'∧Kept w w' (fun k_=>P0_ k_):=by
 have bA:=aM (show Kd.R (Kd.int .i64) 3 w w0.heap.size (fun k_=>(P0_ k_∨w.heap.size≤k_)) aD l0 from Kd.R_mono ho0 (fun k_ hk=>(.inl hk)))
 have HK:=aM (Kept.refl w (fun k_=>P0_ k_))
 have HW0:=aM hB.size;have HB:=aM hB;clear hB;have H:(Y37.l0 k l0 a1 0)=some (r1,r2):=h;clear h;have H':=aM H;clear H;go_enter Try.func76,Try.ntmps76
 go_wp2
 go_loopg [1,5] k (fun kq v1 v5 w'=>∃ (aG:List Int) (aE:Int) (aA:Int),v1=.int .i64 aE∧v5=.int .i64 aA∧Aside0 (Y37.l0 kq aG aE aA=some (r1,r2))∧Aside0 (kq≤k)∧Aside0 (Kd.R (Kd.int .i64) 3 w' w0.heap.size (fun k_=>(P0_ k_∨w.heap.size≤k_)) aD aG)∧Aside0 (Kept w w' (fun k_=>P0_ k_))∧Aside0 (Below w0.heap.size w0 w'))
 case atStart=>exact ⟨(l0),(a1),(0),xE,xE,H',⟨Nat.le_refl _⟩,⟨kr bA.out⟩,⟨kk HK.out⟩,⟨bl HB.out⟩⟩
 case round =>
  clear H'
  try clear p2
  obtain ⟨aG,aE,aA,rfl,rfl,HA,aQ,aC,HK,HB⟩:=hrel;cases gk with
  | zero=>exact absurd HA.out (by simp [Y37.l0])
  | succ k1 =>
   have H:=HA.out;clear HA;simp only [Y37.l0] at H
   by_cases c3:aA<(aG.length:Int)
   case neg =>
    rw [if_neg c3] at H
    have aX:=decide_eq_false c3;clear c3;simp only [Option.some.injEq,Prod.mk.injEq] at H;obtain ⟨rfl,rfl⟩:=H;obtain ⟨bN,bO,bD⟩:=Kd.R_slice aC.out;subst bD;go_wp2
    go_ret
    exact ⟨xW,by (with_reducible repeat (first|apply Kd.R_alloc|apply Kd.R_drewN|apply Kd.R_drew));exact aC.out,bl HB.out,kk HK.out⟩
   rw [if_pos c3] at H
   have aX:=decide_eq_true c3;clear c3;obtain ⟨bM,H⟩:=gI H;obtain ⟨aJ,aH⟩:∃ y_:List Int,y_=(aG.set (aA:Int).toNat aE):=⟨_,rfl⟩;replace H:(Y37.l0 k1 aJ (wS aE) (wS aA))=some (r1,r2):=by first|(rw [aH];with_reducible exact H)|(have H2_:=(Option.bind_some _ _).symm.trans H;rw [aH];with_reducible exact H2_)|(have H2_:=(Option.bind_some _ _).symm.trans H;with_reducible exact H2_)|with_reducible exact H|(rw [aH];exact H)|exact H
   have aN:=aM aH;clear aH;have H':=aM H;clear H;obtain ⟨bP,bG,bH⟩:=Kd.R_slice aC.out;subst bH;have p5:0≤(aA:Int):=dT;have q5:(aA:Int)<((aG.length:Int):Int):=dT;obtain ⟨aI,bQ,aT,aV,bI,bT,aW⟩:=Kd.R_form aC.out (by omega)
   (first|cases aT|(injection aT with ea_ en_ ec_;(first|subst ea_|(injection ea_ with ea_;subst ea_));subst ec_;clear en_))
   have bJ:=aM aV;have bU:=aM aW;clear aV bI aW;have HMgo5:=aM (show (P0_ aI∨w.heap.size≤aI) from (aC.out.1 _ rfl));obtain ⟨bK,bL⟩:=Kd.R_celln 0 aC.out (aA:Int) p5 q5;replace p5:=eq_true p5;replace q5:=eq_true q5;have aK:=Kd.R_putg aC.out (aA:Int) aE;go_wp2_with (first|((with_reducible refine gate_store (t:=3) (p:=15) rfl ?_);refine store_event (t:=3) (p:=15) (v:=?vo_w8) (w1:=(wr.setCell ⟨aI,(aA:Int).toNat,none⟩ (.int .i64 aE))) ?hg ?ho ?hn ?hr ?_;(case ho=>rfl);(case hg=>rfl);(case hn=>rfl);(case hr=>first|(go_simp;done)|(go_simp;rfl)|(obtain ⟨A_,c_,e_⟩:=Kd.R_slice aC.out;subst e_;(first|(go_simp;done)|(go_simp;rfl)))|(obtain ⟨A_,c_,e_⟩:=Kd.S_slice aC.out;subst e_;(first|(go_simp;done)|(go_simp;rfl))));intro w8 hw;have hg:wr.grownBy w8 (some aI):=(by rw [hw];exact aK.2);have hp_:Kd.R (Kd.int .i64) 3 w8 w0.heap.size (fun k_=>(P0_ k_∨w.heap.size≤k_)) (.slice (some ⟨aI,0,none⟩) aG.length bG) aJ:=(by rw [hw,aN.out];exact aK.1);clear aK;replace HB:=aM ((by rw [hw];exact below_set (HB.out) bJ.out:Below w0.heap.size w0 w8));replace HK:=aM (Kept.of_grown (S:=(fun k_=>P0_ k_)) hg (kk HK.out) (fun k_ e_=>(aC.out.1 k_ e_)));replace aC:=aM (hp_);clear hg hw hp_))
   go_roundg k1
   case measure=>have:=aQ.out;omega
   case rel=>exact ⟨(aJ),(wS aE),(wS aA),xE,xE,H',⟨by have:=aQ.out;omega⟩,⟨kr aC.out⟩,⟨kk HK.out⟩,⟨bl HB.out⟩⟩

def Y45.l0:Nat→List (S86)→Int→Int→Option (Int × (List (S86)))
 | 0,_,_,_=>none
 | k+1,x0,x1,x5=>if x5<(x0.length:Int) then (if 0≤x5 then ((some (x0.set (x5:Int).toNat (⟨x1,(rd_T86 x0 x5).f1,(rd_T86 x0 x5).f2,(rd_T86 x0 x5).f3⟩:S86):List (S86))).bind fun aA=>((some (aA.set (x5:Int).toNat (⟨(rd_T86 aA x5).f0,wrap64 (x1+1),(rd_T86 aA x5).f2,(rd_T86 aA x5).f3⟩:S86):List (S86))).bind fun aC=>((some (aC.set (x5:Int).toNat (⟨(rd_T86 aC x5).f0,(rd_T86 aC x5).f1,wrap64 ((wrap64 (x1+1))+1),(rd_T86 aC x5).f3⟩:S86):List (S86))).bind fun aD=>(Y45.l0 k (aD.set (x5:Int).toNat (⟨(rd_T86 aD x5).f0,(rd_T86 aD x5).f1,(rd_T86 aD x5).f2,wrap64 ((wrap64 ((wrap64 (x1+1))+1))+1)⟩:S86)) (wrap64 ((wrap64 ((wrap64 ((wrap64 (x1+1))+1))+1))+1)) (wrap64 (x5+1)))))) else (none)) else (some (x1,x0))
def Y45.f (k:Nat) (l0:List (S86)) (a1:Int):Option (Int × (List (S86))):=Y45.l0 k l0 a1 0
theorem Y45.mono_l:∀ k,(∀ y0 y1 y2,LeO (Y45.l0 k y0 y1 y2) (Y45.l0 (k+1) y0 y1 y2))
 | 0=>fun _ _ _ r h=>by simp [Y45.l0] at h
 | k+1=>by
  have ih0:=Y45.mono_l k
  ·intro y0 y1 y2
   unfold Y45.l0
   repeat' first|(with_reducible first|apply ih0|exact lR _|exact lN _|refine lI ?_ ?_|refine lB ?_ fun _=>?_)|exact lN _|refine lI ?_ ?_|refine lB ?_ fun _=>?_
theorem Y45.mono:∀ a0 a1 k,LeO (Y45.f k a0 a1) (Y45.f (k+1) a0 a1):=by
 intro a0 a1 k;have ih0:=Y45.mono_l k;unfold Y45.f
 repeat' first|(with_reducible first|apply ih0|exact lR _|exact lN _|refine lI ?_ ?_|refine lB ?_ fun _=>?_)|exact lN _|refine lI ?_ ?_|refine lB ?_ fun _=>?_
set_option maxHeartbeats 60000000 in
set_option maxRecDepth 100000 in
theorem Y45.calls (k:Nat) (P0_:Nat→Prop) (aI:Value) (l0:List (S86)) (a1 r1:Int) (r2:List (S86)) (w0 w:World) (hB:Below w0.heap.size w0 w) (ho0:Kd.R k86 86 w w0.heap.size P0_ aI l0) (h:Y45.f k l0 a1=some (r1,r2)) :
  Calls Try.prog 47 #[aI,a1] w fun e w'=>e=.returned (.int .i64 r1)∧Kd.R k86 86 w' w0.heap.size (fun k_=>(P0_ k_∨w.heap.size≤k_)) aI r2∧Below w0.heap.size w0 w'∧Kept w w' (fun k_=>P0_ k_):=by
 have dP:=aM (show Kd.R k86 86 w w0.heap.size (fun k_=>(P0_ k_∨w.heap.size≤k_)) aI l0 from Kd.R_mono ho0 (fun k_ hk=>(.inl hk)))
 have HK:=aM (Kept.refl w (fun k_=>P0_ k_))
 have HW0:=aM hB.size;have HB:=aM hB;clear hB;have H:(Y45.l0 k l0 a1 0)=some (r1,r2):=h;clear h;have H':=aM H;clear H;go_enter Try.func47,Try.ntmps47
 go_wp2
 go_loopg [1,5] k (fun kq v1 v5 w'=>∃ (aD:List (S86)) (aE:Int) (aA:Int),v1=.int .i64 aE∧v5=.int .i64 aA∧Aside0 (Y45.l0 kq aD aE aA=some (r1,r2))∧Aside0 (kq≤k)∧Aside0 (Kd.R k86 86 w' w0.heap.size (fun k_=>(P0_ k_∨w.heap.size≤k_)) aI aD)∧Aside0 (Kept w w' (fun k_=>P0_ k_))∧Aside0 (Below w0.heap.size w0 w'))
 case atStart=>exact ⟨(l0),(a1),(0),xE,xE,H',⟨Nat.le_refl _⟩,⟨kr dP.out⟩,⟨kk HK.out⟩,⟨bl HB.out⟩⟩
 case round =>
  clear H'
  try clear p2
  obtain ⟨aD,aE,aA,rfl,rfl,HA,dB,aC,HK,HB⟩:=hrel;cases gk with
  | zero=>exact absurd HA.out (by simp [Y45.l0])
  | succ k1 =>
   have H:=HA.out;clear HA;simp only [Y45.l0] at H
   by_cases c3:aA<(aD.length:Int)
   case neg =>
    rw [if_neg c3] at H
    have dJ:=decide_eq_false c3;clear c3;simp only [Option.some.injEq,Prod.mk.injEq] at H;obtain ⟨rfl,rfl⟩:=H;obtain ⟨fH,fI,dK⟩:=Kd.R_slice aC.out;subst dK;go_wp2
    go_ret
    exact ⟨xW,by (with_reducible repeat (first|apply Kd.R_alloc|apply Kd.R_drewN|apply Kd.R_drew));exact aC.out,bl HB.out,kk HK.out⟩
   rw [if_pos c3] at H
   have dJ:=decide_eq_true c3;clear c3;obtain ⟨fK,H⟩:=gI H;obtain ⟨aK,bM,H⟩:=hS H;have cW:=aM bM;clear bM;obtain ⟨aN,bN,H⟩:=hS H;have cX:=aM bN;clear bN;obtain ⟨aH,bO,H⟩:=hS H;have cY:=aM bO;clear bO;obtain ⟨bH,aJ⟩:∃ y_:List (S86),y_=(aH.set (aA:Int).toNat (⟨(rd_T86 aH aA).f0,(rd_T86 aH aA).f1,(rd_T86 aH aA).f2,wS (wS (wS aE))⟩:S86)):=⟨_,rfl⟩;replace H:(Y45.l0 k1 bH (wS (wS (wS (wS aE)))) (wS aA))=some (r1,r2):=by first|(rw [aJ];with_reducible exact H)|(have H2_:=(Option.bind_some _ _).symm.trans H;rw [aJ];with_reducible exact H2_)|(have H2_:=(Option.bind_some _ _).symm.trans H;with_reducible exact H2_)|with_reducible exact H|(rw [aJ];exact H)|exact H
   have dA:=aM aJ;clear aJ;have H':=aM H;clear H;obtain ⟨fP,aQ,dQ⟩:=Kd.R_slice aC.out;subst dQ;have p5:0≤(aA:Int):=dT;have q5:(aA:Int)<((aD.length:Int):Int):=dT;obtain ⟨aG,fQ,dC,dD,dR,fS,dE⟩:=Kd.R_form aC.out (by omega)
   (first|cases dC|(injection dC with ea_ en_ ec_;(first|subst ea_|(injection ea_ with ea_;subst ea_));subst ec_;clear en_))
   have bP:=aM dD;have fT:=aM dE;clear dD dR dE;have HMgo5:=aM (show (P0_ aG∨w.heap.size≤aG) from (aC.out.1 _ rfl));obtain ⟨fU,dL,dF,cA,cC⟩:=Kd.R_elem aC.out z86 (aA:Int) p5 q5;obtain rfl:=k86_openM dF;obtain ⟨eB,eC,eD,eE,eF,eG,eH,eI⟩:=eS86 (rd_T86 aD aA) cA cC;clear dL cA cC dF;replace p5:=eq_true p5;replace q5:=eq_true q5;have cD:=aM (show Kd.R k86 86 wr w0.heap.size (fun k_=>(P0_ k_∨w.heap.size≤k_)) (.slice (some ⟨aG,0,none⟩) aD.length aQ) aD from (kr aC.out))
   obtain ⟨fL,bQ,cE,aX,bT⟩:=Kd.R_elem cD.out z86 (aA:Int) (dT) dT;obtain rfl:=k86_openM cE;have bI:=Kd.R_seg cD.out (aA:Int) (dT) dT (seg:=[.int .i64 aE]) (j:=0) bQ aX (show 1≤4 from by decide) (x':=(⟨aE,(rd_T86 aD aA).f1,(rd_T86 aD aA).f2,(rd_T86 aD aA).f3⟩:S86)) (k86_mkM _ _ _ _) (fun _ hk=>hk)
   have dS:=cZ 4 (aX 0 _ rfl);have dU:=fZ 4 (bT 0);clear bQ aX bT cE;go_wp2_with (first|((with_reducible refine gate_store (t:=3) (p:=16) rfl ?_);refine store_event (t:=3) (p:=16) (v:=?vo_w11) (w1:=(wr.setCell ⟨aG,(aA:Int).toNat*4,none⟩ (.int .i64 aE))) ?hg ?ho ?hn ?hr ?_;(case ho=>rfl);(case hg=>rfl);(case hn=>rfl);(case hr=>first|(go_simp;done)|(go_simp;rfl)|(obtain ⟨A_,c_,e_⟩:=Kd.R_slice aC.out;subst e_;(first|(go_simp;done)|(go_simp;rfl)))|(obtain ⟨A_,c_,e_⟩:=Kd.S_slice aC.out;subst e_;(first|(go_simp;done)|(go_simp;rfl))));intro aT hw;have hg:wr.grownBy aT (some aG):=(by rw [hw];exact bI.2);have hp_:Kd.R k86 86 aT w0.heap.size (fun k_=>(P0_ k_∨w.heap.size≤k_)) (.slice (some ⟨aG,0,none⟩) aD.length aQ) aK:=(by rw [hw,cW.out];exact bI.1);clear bI;replace HB:=aM ((by rw [hw];exact below_set (HB.out) bP.out:Below w0.heap.size w0 aT));replace HK:=aM (Kept.of_grown (S:=(fun k_=>P0_ k_)) hg (kk HK.out) (fun k_ e_=>(aC.out.1 k_ e_)));replace aC:=aM (hp_);clear hg hw hp_;have p6:0≤(aA:Int):=dT;have q6:(aA:Int)<((aD.length:Int):Int):=dT;obtain ⟨fV,dM,dG,cG,cH⟩:=Kd.R_elem aC.out z86 (aA:Int) p6 q6;obtain rfl:=k86_openM dG;obtain ⟨eJ,eK,eL,eM,eN,eO,eP,eQ⟩:=eS86 (rd_T86 aK aA) cG cH;clear dM cG cH dG;replace p6:=eq_true p6;replace q6:=eq_true q6;have cK:=aM (show Kd.R k86 86 aT w0.heap.size (fun k_=>(P0_ k_∨w.heap.size≤k_)) (.slice (some ⟨aG,0,none⟩) aD.length aQ) aK from (kr aC.out));obtain ⟨fM,bU,cL,bA,bV⟩:=Kd.R_elem cK.out z86 (aA:Int) (dT) dT;obtain rfl:=k86_openM cL;have bJ:=Kd.R_seg cK.out (aA:Int) (dT) dT (seg:=[.int .i64 (wS aE)]) (j:=1) bU bA (show 2≤4 from by decide) (x':=(⟨(rd_T86 aK aA).f0,wS aE,(rd_T86 aK aA).f2,(rd_T86 aK aA).f3⟩:S86)) (k86_mkM _ _ _ _) (fun _ hk=>hk);have dV:=cJ 4 (bA 1 _ rfl);have dW:=fJ 4 (bV 1);clear bU bA bV cL)|((with_reducible refine gate_store (t:=3) (p:=23) rfl ?_);refine store_event (t:=3) (p:=23) (v:=?vo_w13) (w1:=(aT.setCell ⟨aG,(aA:Int).toNat*4+1,none⟩ (.int .i64 (wS aE)))) ?hg ?ho ?hn ?hr ?_;(case ho=>rfl);(case hg=>rfl);(case hn=>rfl);(case hr=>first|(go_simp;done)|(go_simp;rfl)|(obtain ⟨A_,c_,e_⟩:=Kd.R_slice aC.out;subst e_;(first|(go_simp;done)|(go_simp;rfl)))|(obtain ⟨A_,c_,e_⟩:=Kd.S_slice aC.out;subst e_;(first|(go_simp;done)|(go_simp;rfl))));intro aV hw;have hg:aT.grownBy aV (some aG):=(by rw [hw];exact bJ.2);have hp_:Kd.R k86 86 aV w0.heap.size (fun k_=>(P0_ k_∨w.heap.size≤k_)) (.slice (some ⟨aG,0,none⟩) aD.length aQ) aN:=(by rw [hw,cX.out];exact bJ.1);clear bJ;replace HB:=aM ((by rw [hw];exact below_set (HB.out) bP.out:Below w0.heap.size w0 aV));replace HK:=aM (Kept.of_grown (S:=(fun k_=>P0_ k_)) hg (kk HK.out) (fun k_ e_=>(aC.out.1 k_ e_)));replace aC:=aM (hp_);clear hg hw hp_;have p7:0≤(aA:Int):=dT;have q7:(aA:Int)<((aD.length:Int):Int):=dT;obtain ⟨fW,dN,dH,cN,cO⟩:=Kd.R_elem aC.out z86 (aA:Int) p7 q7;obtain rfl:=k86_openM dH;obtain ⟨eR,eS,eT,eU,eV,eW,eX,eY⟩:=eS86 (rd_T86 aN aA) cN cO;clear dN cN cO dH;replace p7:=eq_true p7;replace q7:=eq_true q7;have cP:=aM (show Kd.R k86 86 aV w0.heap.size (fun k_=>(P0_ k_∨w.heap.size≤k_)) (.slice (some ⟨aG,0,none⟩) aD.length aQ) aN from (kr aC.out));obtain ⟨fN,bW,cQ,bD,bX⟩:=Kd.R_elem cP.out z86 (aA:Int) (dT) dT;obtain rfl:=k86_openM cQ;have bK:=Kd.R_seg cP.out (aA:Int) (dT) dT (seg:=[.int .i64 (wS (wS aE))]) (j:=2) bW bD (show 3≤4 from by decide) (x':=(⟨(rd_T86 aN aA).f0,(rd_T86 aN aA).f1,wS (wS aE),(rd_T86 aN aA).f3⟩:S86)) (k86_mkM _ _ _ _) (fun _ hk=>hk);have dX:=cJ 4 (bD 2 _ rfl);have dY:=fJ 4 (bX 2);clear bW bD bX cQ)|((with_reducible refine gate_store (t:=3) (p:=30) rfl ?_);refine store_event (t:=3) (p:=30) (v:=?vo_w15) (w1:=(aV.setCell ⟨aG,(aA:Int).toNat*4+2,none⟩ (.int .i64 (wS (wS aE))))) ?hg ?ho ?hn ?hr ?_;(case ho=>rfl);(case hg=>rfl);(case hn=>rfl);(case hr=>first|(go_simp;done)|(go_simp;rfl)|(obtain ⟨A_,c_,e_⟩:=Kd.R_slice aC.out;subst e_;(first|(go_simp;done)|(go_simp;rfl)))|(obtain ⟨A_,c_,e_⟩:=Kd.S_slice aC.out;subst e_;(first|(go_simp;done)|(go_simp;rfl))));intro aW hw;have hg:aV.grownBy aW (some aG):=(by rw [hw];exact bK.2);have hp_:Kd.R k86 86 aW w0.heap.size (fun k_=>(P0_ k_∨w.heap.size≤k_)) (.slice (some ⟨aG,0,none⟩) aD.length aQ) aH:=(by rw [hw,cY.out];exact bK.1);clear bK;replace HB:=aM ((by rw [hw];exact below_set (HB.out) bP.out:Below w0.heap.size w0 aW));replace HK:=aM (Kept.of_grown (S:=(fun k_=>P0_ k_)) hg (kk HK.out) (fun k_ e_=>(aC.out.1 k_ e_)));replace aC:=aM (hp_);clear hg hw hp_;have p8:0≤(aA:Int):=dT;have q8:(aA:Int)<((aD.length:Int):Int):=dT;obtain ⟨fX,dO,dI,cR,cS⟩:=Kd.R_elem aC.out z86 (aA:Int) p8 q8;obtain rfl:=k86_openM dI;obtain ⟨eZ,fA,fB,fC,fD,fE,fF,fG⟩:=eS86 (rd_T86 aH aA) cR cS;clear dO cR cS dI;replace p8:=eq_true p8;replace q8:=eq_true q8;have cT:=aM (show Kd.R k86 86 aW w0.heap.size (fun k_=>(P0_ k_∨w.heap.size≤k_)) (.slice (some ⟨aG,0,none⟩) aD.length aQ) aH from (kr aC.out));obtain ⟨fO,bY,cU,bG,bZ⟩:=Kd.R_elem cT.out z86 (aA:Int) (dT) dT;obtain rfl:=k86_openM cU;have bL:=Kd.R_seg cT.out (aA:Int) (dT) dT (seg:=[.int .i64 (wS (wS (wS aE)))]) (j:=3) bY bG (show 4≤4 from by decide) (x':=(⟨(rd_T86 aH aA).f0,(rd_T86 aH aA).f1,(rd_T86 aH aA).f2,wS (wS (wS aE))⟩:S86)) (k86_mkM _ _ _ _) (fun _ hk=>hk);have dZ:=cJ 4 (bG 3 _ rfl);have eA:=fJ 4 (bZ 3);clear bY bG bZ cU)|((with_reducible refine gate_store (t:=3) (p:=37) rfl ?_);refine store_event (t:=3) (p:=37) (v:=?vo_w17) (w1:=(aW.setCell ⟨aG,(aA:Int).toNat*4+3,none⟩ (.int .i64 (wS (wS (wS aE)))))) ?hg ?ho ?hn ?hr ?_;(case ho=>rfl);(case hg=>rfl);(case hn=>rfl);(case hr=>first|(go_simp;done)|(go_simp;rfl)|(obtain ⟨A_,c_,e_⟩:=Kd.R_slice aC.out;subst e_;(first|(go_simp;done)|(go_simp;rfl)))|(obtain ⟨A_,c_,e_⟩:=Kd.S_slice aC.out;subst e_;(first|(go_simp;done)|(go_simp;rfl))));intro cV hw;have hg:aW.grownBy cV (some aG):=(by rw [hw];exact bL.2);have hp_:Kd.R k86 86 cV w0.heap.size (fun k_=>(P0_ k_∨w.heap.size≤k_)) (.slice (some ⟨aG,0,none⟩) aD.length aQ) bH:=(by rw [hw,dA.out];exact bL.1);clear bL;replace HB:=aM ((by rw [hw];exact below_set (HB.out) bP.out:Below w0.heap.size w0 cV));replace HK:=aM (Kept.of_grown (S:=(fun k_=>P0_ k_)) hg (kk HK.out) (fun k_ e_=>(aC.out.1 k_ e_)));replace aC:=aM (hp_);clear hg hw hp_))
   go_roundg k1
   case measure=>have:=dB.out;omega
   case rel=>exact ⟨(bH),(wS (wS (wS (wS aE)))),(wS aA),xE,xE,H',⟨by have:=dB.out;omega⟩,⟨kr aC.out⟩,⟨kk HK.out⟩,⟨bl HB.out⟩⟩

end Go.Proofs.Ytfljolhhgheheaa.PFnExactPass

/- A part of the proof of laws.FnIns. No condition beyond what its theorems say. -/
import Derived.Test.YtljbdchibfjbdaaDoorVFnInsPx14
import Derived.Test.YtljbdchibfjbdaaDoorVFnInsPx16
import Derived.Test.YtljbdchibfjbdaaDoorVFnInsPx20
namespace Go.Proofs.YtljbdchibfjbdaaDoor.PFnIns
open Go.RowKit Go.Proofs.YtljbdchibfjbdaaDoorW.PrintWords Go.Proofs.YtljbdchibfjbdaaDoorW.PrintLast Go.Proofs.YtljbdchibfjbdaaDoorW.PrintMore
set_option linter.unusedVariables false
set_option linter.unusedSimpArgs false

mutual
def Z5.j1:Nat→Int→List (S102)→Option (Int × (List (S102)))
 | 0,_,_=>none
 | k+1,aC,aD=>(Z6.f k aC aD).bind fun aA=>(some (aA.1,aA.2))
def Z5.l0:Nat→Int→Int→List (S102)→Option (Int × (List (S102)))
 | 0,_,_,_=>none
 | k+1,x5,aD,aA=>if x5<(aA.length:Int) then (if 0≤x5 then ((Z20.f k ((rd_T102 aA x5).f0) ((rd_T102 aA x5).f1) ((rd_T102 aA x5).f2.f0) ((rd_T102 aA x5).f2.f1) ((rd_T102 aA x5).f2.f2) ((rd_T102 aA x5).f2.f3) ((rd_T102 aA x5).f3) ((rd_T102 aA x5).f4) ((rd_T102 aA x5).f5) ((rd_T102 aA x5).f6) ((rd_T102 aA x5).f7)).bind fun aC=>(Z5.l0 k (wrap64 (x5+1)) aD (aA.set (x5:Int).toNat (⟨aC.1,aC.2.1,(⟨aC.2.2.1,aC.2.2.2.1,aC.2.2.2.2.1,aC.2.2.2.2.2.1⟩:S25),aC.2.2.2.2.2.2.1,aC.2.2.2.2.2.2.2.1,aC.2.2.2.2.2.2.2.2.1,aC.2.2.2.2.2.2.2.2.2.1,aC.2.2.2.2.2.2.2.2.2.2⟩:S102)))) else (none)) else (Z5.j1 k aD aA)
end
def Z5.f (k:Nat) (aE:Int) (aA:List (S102)) (aG aC aJ aK aN aQ aT:Int) (aH:Bool):Option (Int × (List (S102))):=if aG=1 then (if 0≤aC then (if aC<(aA.length:Int) then ((Z34.f k ((rd_T102 aA aC).f0) ((rd_T102 aA aC).f1) ((rd_T102 aA aC).f2.f0) ((rd_T102 aA aC).f2.f1) ((rd_T102 aA aC).f2.f2) ((rd_T102 aA aC).f2.f3) ((rd_T102 aA aC).f3) ((rd_T102 aA aC).f4) ((rd_T102 aA aC).f5) ((rd_T102 aA aC).f6) ((rd_T102 aA aC).f7) aJ aK aN aQ aT).bind fun aD=>(Z5.j1 k aE (aA.set (aC:Int).toNat (⟨aD.1,aD.2.1,(⟨aD.2.2.1,aD.2.2.2.1,aD.2.2.2.2.1,aD.2.2.2.2.2.1⟩:S25),aD.2.2.2.2.2.2.1,aD.2.2.2.2.2.2.2.1,aD.2.2.2.2.2.2.2.2.1,aD.2.2.2.2.2.2.2.2.2.1,aD.2.2.2.2.2.2.2.2.2.2⟩:S102)))) else (none)) else (none)) else (if aG=2 then (Z5.l0 k 0 aE aA) else (if aG=3 then (if 0≤aC then (if aC<(aA.length:Int) then (if (((rd_T102 aA aC).f0) == aH)=true then (some (aE,aA)) else ((some (aA.set (aC:Int).toNat (⟨false,false,(⟨0,0,0,0⟩:S25),0,0,0,0,false⟩:S102):List (S102))).bind fun aI=>(if aH=true then (Z5.j1 k aE (aI.set (aC:Int).toNat (⟨true,false,(⟨0,0,0,0⟩:S25),0,0,3,0,false⟩:S102))) else (Z5.j1 k aE aI)))) else (none)) else (none)) else (Z5.j1 k aE aA)))
theorem Z5.mono_l:∀ k,(∀ y0 y1,LeO (Z5.j1 k y0 y1) (Z5.j1 (k+1) y0 y1))∧(∀ y0 y1 y2,LeO (Z5.l0 k y0 y1 y2) (Z5.l0 (k+1) y0 y1 y2))
 | 0=>by refine ⟨?_,?_⟩ <;> intros <;> intro r h <;> simp [Z5.j1,Z5.l0] at h
 | k+1=>by
  obtain ⟨ih0,ih1⟩:=Z5.mono_l k;refine ⟨?_,?_⟩
  ·intro y0 y1
   unfold Z5.j1
   repeat' (with_reducible first|apply Z6.mono|exact lR _|refine lB ?_ fun _=>?_)
  ·intro y0 y1 y2
   unfold Z5.l0
   repeat' (with_reducible first|apply ih0|apply ih1|apply Z20.mono|exact lR _|refine lI ?_ ?_|refine lB ?_ fun _=>?_)
theorem Z5.mono:∀ a0 a1 a2 a3 a4 a5 a6 a7 a8 a9 k,LeO (Z5.f k a0 a1 a2 a3 a4 a5 a6 a7 a8 a9) (Z5.f (k+1) a0 a1 a2 a3 a4 a5 a6 a7 a8 a9):=by
 intro a0 a1 a2 a3 a4 a5 a6 a7 a8 a9 k;obtain ⟨ih0,ih1⟩:=Z5.mono_l k;unfold Z5.f
 repeat' (with_reducible first|apply ih0|apply ih1|apply Z34.mono|exact lR _|refine lI ?_ ?_|refine lB ?_ fun _=>?_)
def Z5.T3:Bool × List (List Nat × List Nat):=(true,[([],[]),([0],[0]),([],[]),([2],[2]),([],[]),([4],[4]),([],[]),([6],[6]),([5,7],[5,7]),([8],[8]),([],[]),([10],[10]),([],[]),([12],[12]),([9,11,13],[9,11,13]),([1,3,0,1,2,3,4,5,6,7,8,9,10,11,12,13,14],[1,3]),([15,14,14,0,1,2,3,4,5,6,7,8,9,10,11,12,13,14],[14,15])])
def Z5.B3:List Nat:=[0,1,0,4,0,16,0,64,240,496,0,1024,0,4096,16368,32767,65535]
theorem Z5.tab3:rtab .any (opsOf Tryd.f80 3)=Z5.T3:=by kernel_rfl
theorem Z5.bits3:waitsOk Z5.T3.2 Z5.B3=true:=by kernel_rfl
def Z5.T8:Bool × List (List Nat × List Nat):=(true,[([],[]),([0],[0]),([],[]),([],[]),([3],[3]),([],[]),([4,5],[4,5]),([6],[6]),([7],[7]),([1,2,0,1,2,3,4,5,6,7,8],[1,2]),([9,8,8,0,1,2,3,4,5,6,7,8],[8,9])])
def Z5.B8:List Nat:=[0,1,0,0,8,0,56,120,248,511,1023]
theorem Z5.tab8:rtab .any (opsOf Tryd.f80 8)=Z5.T8:=by kernel_rfl
theorem Z5.bits8:waitsOk Z5.T8.2 Z5.B8=true:=by kernel_rfl
def Z5.T10:Bool × List (List Nat × List Nat):=(true,[([],[]),([0],[0]),([],[]),([2],[2]),([1,3],[1,3]),([4],[4]),([5],[5]),([],[]),([7],[7]),([6,8],[6,8])])
def Z5.B10:List Nat:=[0,1,0,4,15,31,63,0,128,511]
theorem Z5.tab10:rtab .any (opsOf Tryd.f80 10)=Z5.T10:=by kernel_rfl
theorem Z5.bits10:waitsOk Z5.T10.2 Z5.B10=true:=by kernel_rfl
set_option maxHeartbeats 60000000 in
set_option maxRecDepth 100000 in
theorem Z5.calls (k:Nat) (aV:Int) (P0_1_:Nat→Prop) (eH:Value) (aE:List (S102)) (aT aA cK cL cN cO cP:Int) (bN:Bool) (r1:Int) (r2:List (S102)) (w0 w:World) (hB:Below w0.heap.size w0 w) (ho0_1:Kd.R k102 102 w w0.heap.size P0_1_ eH aE) (h:Z5.f k aV aE aT aA cK cL cN cO cP bN=some (r1,r2)) :
  Calls Tryd.prog 80 #[.agg #[aV,eH],.agg #[aT,aA,cK,cL,cN,cO,cP,bN]] w fun e w'=>∃ lD:Value,e=.returned (.agg #[r1,lD])∧Kd.R k102 102 w' w0.heap.size (fun k_=>(P0_1_ k_∨w.heap.size≤k_)) lD r2∧Below w0.heap.size w0 w'∧Kept w w' (fun k_=>P0_1_ k_):=by
 have uH:=Tryd.underlying79;have uI:=Tryd.underlying27;have sB:=Tryd.underlying102;have uJ:=Tryd.underlying25;have aD:=aM (show Kd.R k102 102 w w0.heap.size (fun k_=>(P0_1_ k_∨w.heap.size≤k_)) eH aE from Kd.R_mono ho0_1 (fun k_ hk=>(.inl hk)))
 have HK:=aM (Kept.refl w (fun k_=>P0_1_ k_))
 have HW0:=aM hB.size;have HB:=aM hB;clear hB;have H:(if aT=1 then (if 0≤aA then (if aA<(aE.length:Int) then ((Z34.f k ((rd_T102 aE aA).f0) ((rd_T102 aE aA).f1) ((rd_T102 aE aA).f2.f0) ((rd_T102 aE aA).f2.f1) ((rd_T102 aE aA).f2.f2) ((rd_T102 aE aA).f2.f3) ((rd_T102 aE aA).f3) ((rd_T102 aE aA).f4) ((rd_T102 aE aA).f5) ((rd_T102 aE aA).f6) ((rd_T102 aE aA).f7) cK cL cN cO cP).bind fun cA=>(Z5.j1 k aV (aE.set (aA:Int).toNat (⟨cA.1,cA.2.1,(⟨cA.2.2.1,cA.2.2.2.1,cA.2.2.2.2.1,cA.2.2.2.2.2.1⟩:S25),cA.2.2.2.2.2.2.1,cA.2.2.2.2.2.2.2.1,cA.2.2.2.2.2.2.2.2.1,cA.2.2.2.2.2.2.2.2.2.1,cA.2.2.2.2.2.2.2.2.2.2⟩:S102)))) else (none)) else (none)) else (if aT=2 then (Z5.l0 k 0 aV aE) else (if aT=3 then (if 0≤aA then (if aA<(aE.length:Int) then (if (((rd_T102 aE aA).f0) == bN)=true then (some (aV,aE)) else ((some (aE.set (aA:Int).toNat (⟨false,false,(⟨0,0,0,0⟩:S25),0,0,0,0,false⟩:S102):List (S102))).bind fun cT=>(if bN=true then (Z5.j1 k aV (cT.set (aA:Int).toNat (⟨true,false,(⟨0,0,0,0⟩:S25),0,0,3,0,false⟩:S102))) else (Z5.j1 k aV cT)))) else (none)) else (none)) else (Z5.j1 k aV aE))))=some (r1,r2):=h
 clear h;have iN:=aM H;clear H;obtain ⟨iO,cC,mJ⟩:=Kd.R_slice aD.out;subst mJ;go_enter Tryd.func80,Tryd.ntmps80
 go_upto_block 0 with (first|((with_reducible refine gD (N:=2) rfl ?_);refine bR aD (N:=2) (cs:=#[aV,.slice iO aE.length cC]) (t:=79) ?_;intro cU hg w5 hbox hb;have aG:=aM (hbox);have gQ:=gE hg (kk HK.out).1;have sC:=gF hg HB;replace aD:=rK aD hb;replace HK:=aM (Kept.below (S:=(fun k_=>P0_1_ k_)) (kk HK.out) hb);replace HB:=rS HB hb;clear hb hbox hg)|((with_reducible refine gD (N:=3) rfl ?_);refine bR aD (N:=3) (cs:=#[aT,aA,cK,cL,cN,cO,cP,bN]) (t:=27) ?_;intro cW hg w6 hbox hb;have aC:=aM (hbox);have gR:=gE hg (kk HK.out).1;have sD:=gF hg HB;have bO:=nM hg aG;have bP:=nH hg aG;replace aD:=rK aD hb;replace aG:=rB aG hb;replace HK:=aM (Kept.below (S:=(fun k_=>P0_1_ k_)) (kk HK.out) hb);replace HB:=rS HB hb;clear hb hbox hg)|((with_reducible refine gD (N:=4) rfl ?_);refine bR aD (N:=4) (cs:=#[.int .i64 0,.slice none 0 0]) (t:=79) ?_;intro cS hg w7 hbox hb;have aI:=aM (hbox);have gS:=gE hg (kk HK.out).1;have sE:=gF hg HB;have bY:=nM hg aG;have bZ:=nH hg aG;have cE:=nM hg aC;have cG:=nH hg aC;replace aD:=rK aD hb;replace aG:=rB aG hb;replace aC:=rB aC hb;replace HK:=aM (Kept.below (S:=(fun k_=>P0_1_ k_)) (kk HK.out) hb);replace HB:=rS HB hb;clear hb hbox hg;have uK:=bP.out;have uL:=bO.out;have uM:=cE.out;have uN:=cG.out;have sF:=cA8 aC.out))
 go_cut [] (fun wc=>∃ (kq:Nat) (cH:List (S102)) (eD:Int) (u856001:Value),Aside0 (Z5.j1 kq aV cH=some (r1,r2))∧Aside0 (kq≤k)∧Aside0 (Kd.R k102 102 wc w0.heap.size (fun k_=>(P0_1_ k_∨w.heap.size≤k_)) u856001 cH)∧Aside0 (wc.heap[cU]?=some (.cells #[aV,u856001] 79 (0,0)))∧Aside0 (wc.heap[cW]?=some (.cells #[aT,aA,cK,cL,cN,cO,cP,bN] 27 (0,0)))∧Aside0 (wc.heap[cS]?=some (.cells #[eD,(.slice none 0 0)] 79 (0,0)))∧Aside0 (Kept w wc (fun k_=>P0_1_ k_))∧Aside0 (Below w0.heap.size w0 wc))
 case first =>
  have H:=iN.out;clear iN
  by_cases eE:aT=1
  case pos =>
   rw [if_pos eE] at H
   have cX:(aT == 1)=true:=beq_iff_eq.mpr eE;have gT:(aT != 1)=false:=bne_eq_false_iff_eq.mpr eE;clear eE
   (skip)
   obtain ⟨kR,H⟩:=gI H;obtain ⟨kS,H⟩:=gI H;obtain ⟨⟨eP,eQ,eR,eS,eT,eU,eV,eW,eX,eY,eZ⟩,iP,H⟩:=hB H
   try dsimp only at H
   have mK:=aM iP;clear iP;obtain ⟨iQ,dB⟩:∃ y_:List (S102),y_=(aE.set (aA:Int).toNat (⟨eP,eQ,(⟨eR,eS,eT,eU⟩:S25),eV,eW,eX,eY,eZ⟩:S102)):=⟨_,rfl⟩;replace H:(Z5.j1 k aV iQ)=some (r1,r2):=by (rw [dB];with_reducible exact H)
   have kT:=aM dB;clear dB;have H':=aM H;clear H
   try go_wp2
   replace aD:=aM (Kd.R_drew aD.out);replace aG:=aM (blk_drew aG.out);replace aC:=aM (blk_drew aC.out);replace aI:=aM (blk_drew aI.out);replace HK:=aM (Kept.drew HK.out);replace HB:=aM (below_drew1 HB.out);have fA:0≤(aA:Int):=dT;have fB:aA<(aE.length:Int):=dT;obtain ⟨gU,lE,dI,dJ,dK,dL,dM,dN,dO,dP,dQ,dR,cY⟩:=at_T102 (Kd.R_reads' aD.out).2.2 aA fA fB;cases lE
   replace fA:=eq_true fA;replace fB:=eq_true fB;refine start_ (n:=17) (S:=fun w'=>cT2 w' cU (.int .i64 aV) (.slice (some gU) aE.length cC) (cT8 w' cW (.int .i64 aT) (.int .i64 aA) (.int .i64 cK) (.int .i64 cL) (.int .i64 cN) (.int .i64 cO) (.int .i64 cP) (.bool bN) (cE102 w' gU (aA).toNat (rd_T102 aE aA)))) (ds:=[16]) (dn 17 0) (by kernel_rfl) rfl rfl ⟨cI aG.out 0,cI aG.out 1,cI aC.out 0,cI aC.out 1,cI aC.out 2,cI aC.out 3,cI aC.out 4,cI aC.out 5,cI aC.out 6,cI aC.out 7,dI,dJ,dK,dL,dM,dN,dO,dP,dQ,dR,cY⟩ (fun hHeld=>?_);refine with_tabW Z5.tab3 Z5.bits3 (fun HT_ HW_=>?_)
   generalize w7.drew=vG at aD aG aC aI HK HB dI dJ cY dK dL dM dN dO dP dQ dR hHeld ⊢
   refine nY (N:=some 10) HT_ ?_;refine pZ 2 12 (bv 17 5) HT_ ?_;refine pZ 4 14 (bv 17 21) HT_ ?_;refine pZ 6 16 (bv 17 85) HT_ ?_;refine pZ 10 20 (bv 17 1109) HT_ ?_;refine pZ 12 22 (bv 17 5205) HT_ ?_;refine aZ 1 11 (bv 17 5207) HT_ HW_ hHeld ?_;refine aZ 3 13 (bv 17 5215) HT_ HW_ hHeld ?_;refine aZ 5 15 (bv 17 5247) HT_ HW_ hHeld ?_;refine aZ 7 17 (bv 17 5375) HT_ HW_ hHeld ?_;refine pZ 8 18 (bv 17 5631) HT_ ?_;refine aZ 9 19 (bv 17 6143) HT_ HW_ hHeld ?_;refine aZ 11 21 (bv 17 8191) HT_ HW_ hHeld ?_;refine aZ 13 23 (bv 17 16383) HT_ HW_ hHeld ?_;refine one_ (i:=14) (N:=some 24) (bv 17 32767) rfl rfl (one_of HT_.out (by kernel_rfl)) (by decide) (fun K hK=>?_)
   refine goes_ Tryd.func90 (by kernel_rfl) rfl #[.agg #[((rd_T102 aE aA).f0),((rd_T102 aE aA).f1),((rd_T102 aE aA).f2.f0),((rd_T102 aE aA).f2.f1),((rd_T102 aE aA).f2.f2),((rd_T102 aE aA).f2.f3),((rd_T102 aE aA).f3),((rd_T102 aE aA).f4),((rd_T102 aE aA).f5),((rd_T102 aE aA).f6),((rd_T102 aE aA).f7)],.agg #[cK,cL,cN,cO],cP] (by rfl) rfl rfl xR ?_
   with_reducible refine (Z34.calls k ((rd_T102 aE aA).f0) ((rd_T102 aE aA).f1) ((rd_T102 aE aA).f2.f0) ((rd_T102 aE aA).f2.f1) ((rd_T102 aE aA).f2.f2) ((rd_T102 aE aA).f2.f3) ((rd_T102 aE aA).f3) ((rd_T102 aE aA).f4) ((rd_T102 aE aA).f5) ((rd_T102 aE aA).f6) ((rd_T102 aE aA).f7) cK cL cN cO cP eP eQ eR eS eT eU eV eW eX eY eZ _ mK.out).mono ?_
   rintro e vH ⟨rfl,hb⟩;have HS10_:=(hb.cell (World.block_lt_of_cell? _ _ (hHeld.2.2.2.2.2.2.2.2.2.2.1))).trans (hHeld.2.2.2.2.2.2.2.2.2.2.1);have HS11_:=(hb.cell (World.block_lt_of_cell? _ _ (hHeld.2.2.2.2.2.2.2.2.2.2.2.1))).trans (hHeld.2.2.2.2.2.2.2.2.2.2.2.1);have HS12_:=(hb.cell (World.block_lt_of_cell? _ _ (hHeld.2.2.2.2.2.2.2.2.2.2.2.2.1))).trans (hHeld.2.2.2.2.2.2.2.2.2.2.2.2.1);have HS13_:=(hb.cell (World.block_lt_of_cell? _ _ (hHeld.2.2.2.2.2.2.2.2.2.2.2.2.2.1))).trans (hHeld.2.2.2.2.2.2.2.2.2.2.2.2.2.1);have HS14_:=(hb.cell (World.block_lt_of_cell? _ _ (hHeld.2.2.2.2.2.2.2.2.2.2.2.2.2.2.1))).trans (hHeld.2.2.2.2.2.2.2.2.2.2.2.2.2.2.1);have HS15_:=(hb.cell (World.block_lt_of_cell? _ _ (hHeld.2.2.2.2.2.2.2.2.2.2.2.2.2.2.2.1))).trans (hHeld.2.2.2.2.2.2.2.2.2.2.2.2.2.2.2.1);have HS16_:=(hb.cell (World.block_lt_of_cell? _ _ (hHeld.2.2.2.2.2.2.2.2.2.2.2.2.2.2.2.2.1))).trans (hHeld.2.2.2.2.2.2.2.2.2.2.2.2.2.2.2.2.1);have HS17_:=(hb.cell (World.block_lt_of_cell? _ _ (hHeld.2.2.2.2.2.2.2.2.2.2.2.2.2.2.2.2.2.1))).trans (hHeld.2.2.2.2.2.2.2.2.2.2.2.2.2.2.2.2.2.1);have HS18_:=(hb.cell (World.block_lt_of_cell? _ _ (hHeld.2.2.2.2.2.2.2.2.2.2.2.2.2.2.2.2.2.2.1))).trans (hHeld.2.2.2.2.2.2.2.2.2.2.2.2.2.2.2.2.2.2.1);have HS19_:=(hb.cell (World.block_lt_of_cell? _ _ (hHeld.2.2.2.2.2.2.2.2.2.2.2.2.2.2.2.2.2.2.2.1))).trans (hHeld.2.2.2.2.2.2.2.2.2.2.2.2.2.2.2.2.2.2.2.1);have HS20_:=(hb.cell (World.block_lt_of_cell? _ _ (hHeld.2.2.2.2.2.2.2.2.2.2.2.2.2.2.2.2.2.2.2.2))).trans (hHeld.2.2.2.2.2.2.2.2.2.2.2.2.2.2.2.2.2.2.2.2);refine ⟨_,rfl,?_⟩;replace aD:=rK aD hb;replace aG:=rB aG hb;replace aC:=rB aC hb;replace aI:=rB aI hb;replace HK:=aM (Kept.below (S:=(fun k_=>P0_1_ k_)) (kk HK.out) hb)
   replace HB:=rS HB hb
   (try clear hb)
   have fP:0≤(aA:Int):=dT;have fQ:(aA:Int)<((aE.length:Int):Int):=dT;obtain ⟨fV,uO,iR,iS,lF,uP,iT⟩:=Kd.R_form aD.out (by omega)
   (cases iR)
   have uQ:=aM iS;have uR:=aM iT;clear iS lF iT;have HMgo15:=aM (show (P0_1_ fV∨w.heap.size≤fV) from (aD.out.1 _ rfl))
   (simp only [add_plain] at dI)
   (simp only [add_plain] at dJ)
   (simp only [add_plain] at dK)
   (simp only [add_plain] at dL)
   (simp only [add_plain] at dM)
   (simp only [add_plain] at dN)
   (simp only [add_plain] at dO)
   (simp only [add_plain] at dP)
   (simp only [add_plain] at dQ)
   (simp only [add_plain] at dR)
   (simp only [add_plain] at cY)
   obtain ⟨uS,kU,iU,gV,gW⟩:=Kd.R_elem aD.out z102 (aA:Int) fP fQ;obtain rfl:=k102_openM iU;obtain ⟨mL,mM,mN,mO,mP,mQ,mR,mS,mT,mU,lX,mV,mW,mX,mY,mZ,nA,nB,nC,nD,nE,lY⟩:=eS102 (rd_T102 aE aA) gV gW;clear kU gV gW iU;replace fP:=eq_true fP;replace fQ:=eq_true fQ;obtain ⟨uT,gX,iV,gY,kV⟩:=Kd.R_elem aD.out z102 (aA:Int) (dT) dT;obtain rfl:=k102_openM iV;have fW:=(Kd.R_seg aD.out (aA:Int) (dT) dT (seg:=[.bool eP,.bool eQ,.int .i64 eR,.int .i64 eS,.int .i64 eT,.int .i64 eU,.int .i64 eV,.int .i64 eW,.int .i64 eX,.int .i64 eY,.bool eZ]) (j:=0) gX gY (show 11≤11 from by decide) (x':=(⟨eP,eQ,(⟨eR,eS,eT,eU⟩:S25),eV,eW,eX,eY,eZ⟩:S102)) (k102_mkM _ _ _ _) (fun _ hk=>hk)).1
   rw [← kT.out] at fW
   have HQ18:=aM fW;clear gX gY kV iV fW;refine hK.out _ _ ⟨cI aG.out 0,cI aG.out 1,cI aC.out 0,cI aC.out 1,cI aC.out 2,cI aC.out 3,cI aC.out 4,cI aC.out 5,cI aC.out 6,cI aC.out 7,HS10_,HS11_,HS12_,HS13_,HS14_,HS15_,HS16_,HS17_,HS18_,HS19_,HS20_⟩ (fun hHeld=>?_)
   clear hK K;refine norm_ (a':=?_) ?_ ?_;rotate_left
   ·show Act.put _ (some 24) _=_
    simp only [Act.put,sA,sZ,sS,i64_w,i32_w]
    rfl
   refine pZ 15 25 (bv 17 65535) HT_ ?_;refine last_ (i:=16) (N:=none) (bv 17 131071) rfl rfl (one_of HT_.out (by kernel_rfl)) (by decide) (fun K hK=>?_)
   refine skip_ (w1:=?_) (by rfl) rfl ?_ ?_
   rotate_left
   ·go_simp
    rfl
   refine hK.out _ _ ?_;clear hK K;refine done_ (done_of HT_.out (by kernel_rfl)) ?_
   try go_wp2
   go_meet
   case rel=>exact ⟨_,(iQ),(0),(.slice (some ⟨fV,0,none⟩) aE.length cC),H',⟨by omega⟩,⟨kr HQ18.out⟩,⟨fR aD.out aG.out⟩,⟨fR aD.out aC.out⟩,⟨fR aD.out aI.out⟩,⟨by repeat ((with_reducible first|exact HK.out|refine Kept.setCell ?_ HMgo15.out _))⟩,⟨bl HB.out⟩⟩
  rw [if_neg eE] at H
  have cX:(aT == 1)=false:=beq_eq_false_iff_ne.mpr eE;have gT:(aT != 1)=true:=bne_iff_ne.mpr eE
  (skip)
  by_cases eF:aT=2
  case pos =>
   rw [if_pos eF] at H
   have gZ:(aT == 2)=true:=beq_iff_eq.mpr eF;have hD:(aT != 2)=false:=bne_eq_false_iff_eq.mpr eF;clear eF;have H':=aM H;clear H;go_wp2
   go_loopg [5] k (fun kq v5 w'=>∃ (aN:Int) (aH:List (S102)) (u856001:Value),v5=.int .i64 aN∧Aside0 (Z5.l0 kq aN aV aH=some (r1,r2))∧Aside0 (kq≤k)∧Aside0 (Kd.R k102 102 w' w0.heap.size (fun k_=>(P0_1_ k_∨w.heap.size≤k_)) u856001 aH)∧Aside0 (w'.heap[cU]?=some (.cells #[aV,u856001] 79 (0,0)))∧Aside0 (w'.heap[cW]?=some (.cells #[aT,aA,cK,cL,cN,cO,cP,bN] 27 (0,0)))∧Aside0 (w'.heap[cS]?=some (.cells #[.int .i64 0,(.slice none 0 0)] 79 (0,0)))∧Aside0 (Kept w w' (fun k_=>P0_1_ k_))∧Aside0 (Below w0.heap.size w0 w'))
   case atStart=>exact ⟨(0),(aE),(.slice iO aE.length cC),xE,H',⟨Nat.le_refl _⟩,⟨kr aD.out⟩,⟨bk aG.out⟩,⟨bk aC.out⟩,⟨bk aI.out⟩,⟨kk HK.out⟩,⟨bl HB.out⟩⟩
   case round =>
    clear H'
    repeat first|clear eE|clear cX|clear gT|clear gZ|clear hD
    obtain ⟨aN,aH,u856001,rfl,HA,iW,aJ,aG,aC,aI,HK,HB⟩:=hrel;cases gk with
    | zero=>exact absurd HA.out (by simp [Z5.l0])
    | succ k1 =>
     have H:=HA.out;clear HA;simp only [Z5.l0] at H
     by_cases eN:aN<(aH.length:Int)
     case neg =>
      rw [if_neg eN] at H
      have kW:=decide_eq_false eN;clear eN;have H':=aM H;clear H;have sG:=bO.out;have sH:=bP.out;have sI:=bY.out;have sJ:=bZ.out;have sK:=cA2 aG.out;obtain ⟨lG,lH,lJ⟩:=Kd.R_slice aJ.out;subst lJ;go_wp2
      go_meet
      case rel=>exact ⟨_,(aH),(0),(.slice lG aH.length lH),H',⟨by have:=iW.out;omega⟩,⟨kr aJ.out⟩,⟨bk aG.out⟩,⟨bk aC.out⟩,⟨bk aI.out⟩,⟨kk HK.out⟩,⟨bl HB.out⟩⟩
     rw [if_pos eN] at H
     have kW:=decide_eq_true eN;clear eN;obtain ⟨sL,H⟩:=gI H;obtain ⟨⟨fC,fD,fE,fF,fG,fH,fI,fK,fL,fM,fN⟩,iX,H⟩:=hB H
     try dsimp only at H
     have nF:=aM iX;clear iX;obtain ⟨iY,dC⟩:∃ y_:List (S102),y_=(aH.set (aN:Int).toNat (⟨fC,fD,(⟨fE,fF,fG,fH⟩:S25),fI,fK,fL,fM,fN⟩:S102)):=⟨_,rfl⟩;replace H:(Z5.l0 k1 (wS aN) aV iY)=some (r1,r2):=by (rw [dC];with_reducible exact H)
     have kX:=aM dC;clear dC;have H':=aM H;clear H;have sM:=bO.out;have sN:=bP.out;have sO:=bY.out;have sP:=bZ.out;have sQ:=cA2 aG.out;obtain ⟨uU,iZ,lK⟩:=Kd.R_slice aJ.out;subst lK
     try go_wp2
     replace aJ:=aM (Kd.R_drew aJ.out);replace aG:=aM (blk_drew aG.out);replace aC:=aM (blk_drew aC.out);replace aI:=aM (blk_drew aI.out);replace HK:=aM (Kept.drew HK.out);replace HB:=aM (below_drew1 HB.out);have fX:0≤(aN:Int):=dT;have fY:aN<(aH.length:Int):=dT;obtain ⟨hH,lL,dS,dU,dV,dW,dX,dY,dZ,eA,eB,eC,dA⟩:=at_T102 (Kd.R_reads' aJ.out).2.2 aN fX fY;cases lL
     replace fX:=eq_true fX;replace fY:=eq_true fY;refine start_ (n:=11) (S:=fun w'=>cT2 w' cU (.int .i64 aV) (.slice (some hH) aH.length iZ) (cE102 w' hH (aN).toNat (rd_T102 aH aN))) (ds:=[10]) (dn 11 0) (by kernel_rfl) rfl rfl ⟨cI aG.out 0,cI aG.out 1,dS,dU,dV,dW,dX,dY,dZ,eA,eB,eC,dA⟩ (fun hHeld=>?_);refine with_tabW Z5.tab8 Z5.bits8 (fun HT_ HW_=>?_)
     generalize wr.drew=vM at aJ aG aC aI HK HB dS dU dA dV dW dX dY dZ eA eB eC hHeld ⊢
     refine nY (N:=some 35) HT_ ?_;refine pZ 2 37 (bv 11 5) HT_ ?_;refine pZ 3 38 (bv 11 13) HT_ ?_;refine pZ 5 40 (bv 11 45) HT_ ?_;refine aZ 1 36 (bv 11 47) HT_ HW_ hHeld ?_;refine aZ 4 39 (bv 11 63) HT_ HW_ hHeld ?_;refine pZ 6 41 (bv 11 127) HT_ ?_;refine aZ 7 42 (bv 11 255) HT_ HW_ hHeld ?_;refine one_ (i:=8) (N:=some 43) (bv 11 511) rfl rfl (one_of HT_.out (by kernel_rfl)) (by decide) (fun K hK=>?_)
     refine goes_ Tryd.func91 (by kernel_rfl) rfl #[.agg #[((rd_T102 aH aN).f0),((rd_T102 aH aN).f1),((rd_T102 aH aN).f2.f0),((rd_T102 aH aN).f2.f1),((rd_T102 aH aN).f2.f2),((rd_T102 aH aN).f2.f3),((rd_T102 aH aN).f3),((rd_T102 aH aN).f4),((rd_T102 aH aN).f5),((rd_T102 aH aN).f6),((rd_T102 aH aN).f7)]] (by rfl) rfl rfl xR ?_
     with_reducible refine (Z20.calls k1 ((rd_T102 aH aN).f0) ((rd_T102 aH aN).f1) ((rd_T102 aH aN).f2.f0) ((rd_T102 aH aN).f2.f1) ((rd_T102 aH aN).f2.f2) ((rd_T102 aH aN).f2.f3) ((rd_T102 aH aN).f3) ((rd_T102 aH aN).f4) ((rd_T102 aH aN).f5) ((rd_T102 aH aN).f6) ((rd_T102 aH aN).f7) fC fD fE fF fG fH fI fK fL fM fN _ nF.out).mono ?_
     rintro e vN ⟨rfl,hb⟩;have HS2_:=(hb.cell (World.block_lt_of_cell? _ _ (hHeld.2.2.1))).trans (hHeld.2.2.1);have HS3_:=(hb.cell (World.block_lt_of_cell? _ _ (hHeld.2.2.2.1))).trans (hHeld.2.2.2.1);have HS4_:=(hb.cell (World.block_lt_of_cell? _ _ (hHeld.2.2.2.2.1))).trans (hHeld.2.2.2.2.1);have HS5_:=(hb.cell (World.block_lt_of_cell? _ _ (hHeld.2.2.2.2.2.1))).trans (hHeld.2.2.2.2.2.1);have HS6_:=(hb.cell (World.block_lt_of_cell? _ _ (hHeld.2.2.2.2.2.2.1))).trans (hHeld.2.2.2.2.2.2.1);have HS7_:=(hb.cell (World.block_lt_of_cell? _ _ (hHeld.2.2.2.2.2.2.2.1))).trans (hHeld.2.2.2.2.2.2.2.1);have HS8_:=(hb.cell (World.block_lt_of_cell? _ _ (hHeld.2.2.2.2.2.2.2.2.1))).trans (hHeld.2.2.2.2.2.2.2.2.1);have HS9_:=(hb.cell (World.block_lt_of_cell? _ _ (hHeld.2.2.2.2.2.2.2.2.2.1))).trans (hHeld.2.2.2.2.2.2.2.2.2.1);have HS10_:=(hb.cell (World.block_lt_of_cell? _ _ (hHeld.2.2.2.2.2.2.2.2.2.2.1))).trans (hHeld.2.2.2.2.2.2.2.2.2.2.1);have HS11_:=(hb.cell (World.block_lt_of_cell? _ _ (hHeld.2.2.2.2.2.2.2.2.2.2.2.1))).trans (hHeld.2.2.2.2.2.2.2.2.2.2.2.1);have HS12_:=(hb.cell (World.block_lt_of_cell? _ _ (hHeld.2.2.2.2.2.2.2.2.2.2.2.2))).trans (hHeld.2.2.2.2.2.2.2.2.2.2.2.2);refine ⟨_,rfl,?_⟩;replace aJ:=rK aJ hb;replace aG:=rB aG hb;replace aC:=rB aC hb;replace aI:=rB aI hb;replace HK:=aM (Kept.below (S:=(fun k_=>P0_1_ k_)) (kk HK.out) hb)
     replace HB:=rS HB hb
     (try clear hb)
     have jA:0≤(aN:Int):=dT;have jB:(aN:Int)<((aH.length:Int):Int):=dT;obtain ⟨gA,uV,jC,jD,lM,uW,jE⟩:=Kd.R_form aJ.out (by omega)
     (cases jC)
     have uX:=aM jD;have uY:=aM jE;clear jD lM jE;have HMgo23:=aM (show (P0_1_ gA∨w.heap.size≤gA) from (aJ.out.1 _ rfl))
     (simp only [add_plain] at dS)
     (simp only [add_plain] at dU)
     (simp only [add_plain] at dV)
     (simp only [add_plain] at dW)
     (simp only [add_plain] at dX)
     (simp only [add_plain] at dY)
     (simp only [add_plain] at dZ)
     (simp only [add_plain] at eA)
     (simp only [add_plain] at eB)
     (simp only [add_plain] at eC)
     (simp only [add_plain] at dA)
     obtain ⟨uZ,kY,jF,hJ,hO⟩:=Kd.R_elem aJ.out z102 (aN:Int) jA jB;obtain rfl:=k102_openM jF;obtain ⟨nI,nJ,nK,nN,nO,nP,nQ,nR,nS,nT,lZ,nV,nZ,oA,oB,oC,oD,oE,oF,oG,oH,mA⟩:=eS102 (rd_T102 aH aN) hJ hO;clear kY hJ hO jF;replace jA:=eq_true jA;replace jB:=eq_true jB;obtain ⟨vA,hU,jG,hX,kZ⟩:=Kd.R_elem aJ.out z102 (aN:Int) (dT) dT;obtain rfl:=k102_openM jG;have gB:=(Kd.R_seg aJ.out (aN:Int) (dT) dT (seg:=[.bool fC,.bool fD,.int .i64 fE,.int .i64 fF,.int .i64 fG,.int .i64 fH,.int .i64 fI,.int .i64 fK,.int .i64 fL,.int .i64 fM,.bool fN]) (j:=0) hU hX (show 11≤11 from by decide) (x':=(⟨fC,fD,(⟨fE,fF,fG,fH⟩:S25),fI,fK,fL,fM,fN⟩:S102)) (k102_mkM _ _ _ _) (fun _ hk=>hk)).1
     rw [← kX.out] at gB
     have HQ30:=aM gB;clear hU hX kZ jG gB;refine hK.out _ _ ⟨cI aG.out 0,cI aG.out 1,HS2_,HS3_,HS4_,HS5_,HS6_,HS7_,HS8_,HS9_,HS10_,HS11_,HS12_⟩ (fun hHeld=>?_)
     clear hK K;refine norm_ (a':=?_) ?_ ?_;rotate_left
     ·show Act.put _ (some 43) _=_
      simp only [Act.put,sA,sZ,sS,i64_w,i32_w]
      rfl
     refine pZ 9 44 (bv 11 1023) HT_ ?_;refine last_ (i:=10) (N:=none) (bv 11 2047) rfl rfl (one_of HT_.out (by kernel_rfl)) (by decide) (fun K hK=>?_)
     refine skip_ (w1:=?_) (by rfl) rfl ?_ ?_
     rotate_left
     ·go_simp
      rfl
     refine hK.out _ _ ?_;clear hK K;refine done_ (done_of HT_.out (by kernel_rfl)) ?_
     try go_wp2
     go_roundg k1
     case measure=>have:=iW.out;omega
     case rel=>exact ⟨(wS aN),(iY),(.slice (some ⟨gA,0,none⟩) aH.length iZ),xE,H',⟨by have:=iW.out;omega⟩,⟨kr HQ30.out⟩,⟨fR aJ.out aG.out⟩,⟨fR aJ.out aC.out⟩,⟨fR aJ.out aI.out⟩,⟨by repeat ((with_reducible first|exact HK.out|refine Kept.setCell ?_ HMgo23.out _))⟩,⟨bl HB.out⟩⟩
  rw [if_neg eF] at H
  have gZ:(aT == 2)=false:=beq_eq_false_iff_ne.mpr eF;have hD:(aT != 2)=true:=bne_iff_ne.mpr eF
  by_cases eG:aT=3
  case neg =>
   rw [if_neg eG] at H
   have hY:(aT == 3)=false:=beq_eq_false_iff_ne.mpr eG;have hZ:(aT != 3)=true:=bne_iff_ne.mpr eG;have H':=aM H;clear H;go_wp2
   go_meet
   case rel=>exact ⟨_,(aE),(0),(.slice iO aE.length cC),H',⟨by omega⟩,⟨kr aD.out⟩,⟨bk aG.out⟩,⟨bk aC.out⟩,⟨bk aI.out⟩,⟨kk HK.out⟩,⟨bl HB.out⟩⟩
  rw [if_pos eG] at H
  have hY:(aT == 3)=true:=beq_iff_eq.mpr eG;have hZ:(aT != 3)=false:=bne_eq_false_iff_eq.mpr eG;clear eG;obtain ⟨sR,H⟩:=gI H;obtain ⟨sT,H⟩:=gI H
  by_cases cV:(((rd_T102 aE aA).f0) == bN)=true
  case pos =>
   rw [if_pos cV] at H
   have iA:(((rd_T102 aE aA).f0) == bN)=true:=cV
   (try (have iB:decide (((rd_T102 aE aA).f0)=bN)=true:=by simpa using cV))
   (try (have iC:(((rd_T102 aE aA).f0) == bN)=true:=by simpa using cV))
   clear cV;simp only [Option.some.injEq,Prod.mk.injEq] at H;obtain ⟨rfl,rfl⟩:=H
   try go_wp2
   replace aD:=aM (Kd.R_drew aD.out);replace aG:=aM (blk_drew aG.out);replace aC:=aM (blk_drew aC.out);replace aI:=aM (blk_drew aI.out);replace HK:=aM (Kept.drew HK.out);replace HB:=aM (below_drew1 HB.out);have cQ:0≤(aA:Int):=dT;have cR:aA<(aE.length:Int):=dT;obtain ⟨cD,eI,aX,bA,bD,bG,bH,bI,bJ,bK,bL,bM,aW⟩:=at_T102 (Kd.R_reads' aD.out).2.2 aA cQ cR;cases eI
   replace cQ:=eq_true cQ;replace cR:=eq_true cR;refine start_ (n:=10) (S:=fun w'=>cT2 w' cU (.int .i64 aV) (.slice (some cD) aE.length cC) (cT8 w' cW (.int .i64 aT) (.int .i64 aA) (.int .i64 cK) (.int .i64 cL) (.int .i64 cN) (.int .i64 cO) (.int .i64 cP) (.bool bN) (cE102 w' cD (aA).toNat (rd_T102 aE aA)))) (ds:=[]) (dn 10 0) (by kernel_rfl) rfl rfl ⟨cI aG.out 0,cI aG.out 1,cI aC.out 0,cI aC.out 1,cI aC.out 2,cI aC.out 3,cI aC.out 4,cI aC.out 5,cI aC.out 6,cI aC.out 7,aX,bA,bD,bG,bH,bI,bJ,bK,bL,bM,aW⟩ (fun hHeld=>?_);refine with_tabW Z5.tab10 Z5.bits10 (fun HT_ HW_=>?_)
   generalize w7.drew=vO at aD aG aC aI HK HB aX bA aW bD bG bH bI bJ bK bL bM hHeld ⊢
   refine nY (N:=some 47) HT_ ?_;refine pZ 2 49 (bv 10 5) HT_ ?_;refine pZ 7 54 (bv 10 133) HT_ ?_;refine aZ 1 48 (bv 10 135) HT_ HW_ hHeld ?_;refine aZ 3 50 (bv 10 143) HT_ HW_ hHeld ?_;refine pZ 4 51 (bv 10 159) HT_ ?_;refine pZ 5 52 (bv 10 191) HT_ ?_;refine aZ 6 53 (bv 10 255) HT_ HW_ hHeld ?_;refine aZ 8 55 (bv 10 511) HT_ HW_ hHeld ?_;refine pZ 9 56 (bv 10 1023) HT_ ?_;refine done_ (done_of HT_.out (by kernel_rfl)) ?_
   have sU:=bO.out;have sV:=bP.out;have sW:=bY.out;have sX:=bZ.out;have sY:=cA2 aG.out;have tA:=cG.out;have tB:=cE.out;have tC:=cA2 aI.out
   try go_wp2
   refine bodyPost_ret (results_cell_row rfl _ _ cS 79 #[aV,.slice (some cD) aE.length cC] (0,0) _ rfl (bm aI.out) Tryd.underlying79 rfl (by kernel_rfl)) rfl ?_
   exact ⟨_,xW,kr (rT2 aD.out aI.out (.int .i64 aV) (.slice (some cD) aE.length cC)),bl HB.out,kk HK.out⟩
  rw [if_neg cV] at H
  have iA:(((rd_T102 aE aA).f0) == bN)=false:=by simpa using cV
  (try (have iB:decide (((rd_T102 aE aA).f0)=bN)=false:=by simpa using cV))
  (try (have iC:(((rd_T102 aE aA).f0) == bN)=false:=by simpa using cV))
  (try (have tD:¬ (((rd_T102 aE aA).f0)=bN):=by simpa using cV))
  clear cV;obtain ⟨cT,iD,H⟩:=hS H;have iE:=aM iD;clear iD
  by_cases fS:bN=true
  case neg =>
   replace fS:=Bool.eq_false_iff.mpr fS;subst fS;replace H:=hF H;have H':=aM H;clear H
   try go_wp2
   replace aD:=aM (Kd.R_drew aD.out);replace aG:=aM (blk_drew aG.out);replace aC:=aM (blk_drew aC.out);replace aI:=aM (blk_drew aI.out);replace HK:=aM (Kept.drew HK.out);replace HB:=aM (below_drew1 HB.out);have cQ:0≤(aA:Int):=dT;have cR:aA<(aE.length:Int):=dT;obtain ⟨cD,eI,aX,bA,bD,bG,bH,bI,bJ,bK,bL,bM,aW⟩:=at_T102 (Kd.R_reads' aD.out).2.2 aA cQ cR;cases eI
   replace cQ:=eq_true cQ;replace cR:=eq_true cR;refine start_ (n:=10) (S:=fun w'=>cT2 w' cU (.int .i64 aV) (.slice (some cD) aE.length cC) (cT8 w' cW (.int .i64 aT) (.int .i64 aA) (.int .i64 cK) (.int .i64 cL) (.int .i64 cN) (.int .i64 cO) (.int .i64 cP) (.bool false) (cE102 w' cD (aA).toNat (rd_T102 aE aA)))) (ds:=[]) (dn 10 0) (by kernel_rfl) rfl rfl ⟨cI aG.out 0,cI aG.out 1,cI aC.out 0,cI aC.out 1,cI aC.out 2,cI aC.out 3,cI aC.out 4,cI aC.out 5,cI aC.out 6,cI aC.out 7,aX,bA,bD,bG,bH,bI,bJ,bK,bL,bM,aW⟩ (fun hHeld=>?_);refine with_tabW Z5.tab10 Z5.bits10 (fun HT_ HW_=>?_)
   generalize w7.drew=jH at aD aG aC aI HK HB aX bA aW bD bG bH bI bJ bK bL bM hHeld ⊢
   refine nY (N:=some 47) HT_ ?_;refine pZ 2 49 (bv 10 5) HT_ ?_;refine pZ 7 54 (bv 10 133) HT_ ?_;refine aZ 1 48 (bv 10 135) HT_ HW_ hHeld ?_;refine aZ 3 50 (bv 10 143) HT_ HW_ hHeld ?_;refine pZ 4 51 (bv 10 159) HT_ ?_;refine pZ 5 52 (bv 10 191) HT_ ?_;refine aZ 6 53 (bv 10 255) HT_ HW_ hHeld ?_;refine aZ 8 55 (bv 10 511) HT_ HW_ hHeld ?_;refine pZ 9 56 (bv 10 1023) HT_ ?_;refine done_ (done_of HT_.out (by kernel_rfl)) ?_
   have tE:=bO.out;have tF:=bP.out;have tG:=bY.out;have tH:=bZ.out;have tI:=cA2 aG.out;have tJ:=cE.out;have tK:=cG.out;have tL:=cA8 aC.out;have dD:0≤(aA:Int):=dT;have dE:(aA:Int)<((aE.length:Int):Int):=dT;obtain ⟨aK,lO,eJ,eK,gG,lP,eL⟩:=Kd.R_form aD.out (by omega)
   (cases eJ)
   have aQ:=aM eK;have lQ:=aM eL;clear eK gG eL;have HMgo45:=aM (show (P0_1_ aK∨w.heap.size≤aK) from (aD.out.1 _ rfl))
   (simp only [add_plain] at aX)
   (simp only [add_plain] at bA)
   (simp only [add_plain] at bD)
   (simp only [add_plain] at bG)
   (simp only [add_plain] at bH)
   (simp only [add_plain] at bI)
   (simp only [add_plain] at bJ)
   (simp only [add_plain] at bK)
   (simp only [add_plain] at bL)
   (simp only [add_plain] at bM)
   (simp only [add_plain] at aW)
   obtain ⟨lS,fO,eM,dF,dG⟩:=Kd.R_elem aD.out z102 (aA:Int) dD dE;obtain rfl:=k102_openM eM;obtain ⟨jI,jJ,jK,jL,jM,jN,jO,jP,jQ,jR,iL,jS,jT,jU,jV,jW,jX,jY,jZ,kA,kC,iM⟩:=eS102 (rd_T102 aE aA) dF dG;clear fO dF dG eM;replace dD:=eq_true dD;replace dE:=eq_true dE;have kD:=aM (show Kd.R k102 102 jH w0.heap.size (fun k_=>(P0_1_ k_∨w.heap.size≤k_)) (.slice (some ⟨aK,0,none⟩) aE.length cC) aE from (kr aD.out))
   obtain ⟨vB,iF,kE,bQ,bV⟩:=Kd.R_elem kD.out z102 (aA:Int) (dT) dT;obtain rfl:=k102_openM kE;have gH:=Kd.R_seg kD.out (aA:Int) (dT) dT (seg:=[.bool false,.bool false,.int .i64 0,.int .i64 0,.int .i64 0,.int .i64 0,.int .i64 0,.int .i64 0,.int .i64 0,.int .i64 0,.bool false]) (j:=0) iF bQ (show 11≤11 from by decide) (x':=(⟨false,false,(⟨0,0,0,0⟩:S25),0,0,0,0,false⟩:S102)) (k102_mkM _ _ _ _) (fun _ hk=>hk)
   have oI:=cZ 11 (bQ 0 _ rfl);have oJ:=fZ 11 (bV 0);have oK:=cJ 11 (bQ 1 _ rfl);have oL:=fJ 11 (bV 1);have oM:=cJ 11 (bQ 2 _ rfl);have oO:=fJ 11 (bV 2);have oP:=cJ 11 (bQ 3 _ rfl);have oQ:=fJ 11 (bV 3);have oR:=cJ 11 (bQ 4 _ rfl);have oS:=fJ 11 (bV 4);have oT:=cJ 11 (bQ 5 _ rfl);have oU:=fJ 11 (bV 5);have oV:=cJ 11 (bQ 6 _ rfl);have oW:=fJ 11 (bV 6);have oX:=cJ 11 (bQ 7 _ rfl);have oY:=fJ 11 (bV 7);have oZ:=cJ 11 (bQ 8 _ rfl);have pA:=fJ 11 (bV 8);have pB:=cJ 11 (bQ 9 _ rfl);have pC:=fJ 11 (bV 9);have mB:=cJ 11 (bQ 10 _ rfl);have mC:=fJ 11 (bV 10);clear iF bQ bV kE
   try go_wp2_with (((with_reducible refine gate_store (t:=102) (p:=63) rfl ?_);refine store_event (t:=102) (p:=63) (v:=?vo_w67) (w1:=(((((((((((jH.setCell ⟨aK,(aA:Int).toNat*11,none⟩ (.bool false)).setCell ⟨aK,(aA:Int).toNat*11+1,none⟩ (.bool false)).setCell ⟨aK,(aA:Int).toNat*11+2,none⟩ (.int .i64 0)).setCell ⟨aK,(aA:Int).toNat*11+3,none⟩ (.int .i64 0)).setCell ⟨aK,(aA:Int).toNat*11+4,none⟩ (.int .i64 0)).setCell ⟨aK,(aA:Int).toNat*11+5,none⟩ (.int .i64 0)).setCell ⟨aK,(aA:Int).toNat*11+6,none⟩ (.int .i64 0)).setCell ⟨aK,(aA:Int).toNat*11+7,none⟩ (.int .i64 0)).setCell ⟨aK,(aA:Int).toNat*11+8,none⟩ (.int .i64 0)).setCell ⟨aK,(aA:Int).toNat*11+9,none⟩ (.int .i64 0)).setCell ⟨aK,(aA:Int).toNat*11+10,none⟩ (.bool false))) ?hg ?ho ?hn ?hr ?_;(case ho=>rfl);(case hg=>rfl);(case hn=>rfl);(case hr=>(go_simp;done));intro kG hw;have hg:jH.grownBy kG (some aK):=(by rw [hw];exact gH.2);have hp_:Kd.R k102 102 kG w0.heap.size (fun k_=>(P0_1_ k_∨w.heap.size≤k_)) (.slice (some ⟨aK,0,none⟩) aE.length cC) cT:=(by rw [hw,iE.out];exact gH.1);clear gH;replace aG:=aM (blk_grown (bk aG.out) hg (Kd.R_ne aD.out aG.out (by decide)));replace aC:=aM (blk_grown (bk aC.out) hg (Kd.R_ne aD.out aC.out (by decide)));replace aI:=aM (blk_grown (bk aI.out) hg (Kd.R_ne aD.out aI.out (by decide)));replace HB:=aM ((by rw [hw];exact below_set (below_set (below_set (below_set (below_set (below_set (below_set (below_set (below_set (below_set (below_set (HB.out) aQ.out) aQ.out) aQ.out) aQ.out) aQ.out) aQ.out) aQ.out) aQ.out) aQ.out) aQ.out) aQ.out:Below w0.heap.size w0 kG));replace HK:=aM (Kept.of_grown (S:=(fun k_=>P0_1_ k_)) hg (kk HK.out) (fun k_ e_=>(aD.out.1 k_ e_)));replace aD:=aM (hp_);clear hg hw hp_;have tM:=cA8 aC.out))
   go_meet
   case rel=>exact ⟨_,(cT),(0),(.slice (some ⟨aK,0,none⟩) aE.length cC),H',⟨by omega⟩,⟨kr aD.out⟩,⟨bk aG.out⟩,⟨bk aC.out⟩,⟨bk aI.out⟩,⟨kk HK.out⟩,⟨bl HB.out⟩⟩
  subst fS;replace H:=hP H rfl;obtain ⟨gJ,dH⟩:∃ y_:List (S102),y_=(cT.set (aA:Int).toNat (⟨true,false,(⟨0,0,0,0⟩:S25),0,0,3,0,false⟩:S102)):=⟨_,rfl⟩;replace H:(Z5.j1 k aV gJ)=some (r1,r2):=by (rw [dH];with_reducible exact H)
  have lA:=aM dH;clear dH;have H':=aM H;clear H
  try go_wp2
  replace aD:=aM (Kd.R_drew aD.out);replace aG:=aM (blk_drew aG.out);replace aC:=aM (blk_drew aC.out);replace aI:=aM (blk_drew aI.out);replace HK:=aM (Kept.drew HK.out);replace HB:=aM (below_drew1 HB.out);have cQ:0≤(aA:Int):=dT;have cR:aA<(aE.length:Int):=dT;obtain ⟨cD,eI,aX,bA,bD,bG,bH,bI,bJ,bK,bL,bM,aW⟩:=at_T102 (Kd.R_reads' aD.out).2.2 aA cQ cR;cases eI
  replace cQ:=eq_true cQ;replace cR:=eq_true cR;refine start_ (n:=10) (S:=fun w'=>cT2 w' cU (.int .i64 aV) (.slice (some cD) aE.length cC) (cT8 w' cW (.int .i64 aT) (.int .i64 aA) (.int .i64 cK) (.int .i64 cL) (.int .i64 cN) (.int .i64 cO) (.int .i64 cP) (.bool true) (cE102 w' cD (aA).toNat (rd_T102 aE aA)))) (ds:=[]) (dn 10 0) (by kernel_rfl) rfl rfl ⟨cI aG.out 0,cI aG.out 1,cI aC.out 0,cI aC.out 1,cI aC.out 2,cI aC.out 3,cI aC.out 4,cI aC.out 5,cI aC.out 6,cI aC.out 7,aX,bA,bD,bG,bH,bI,bJ,bK,bL,bM,aW⟩ (fun hHeld=>?_);refine with_tabW Z5.tab10 Z5.bits10 (fun HT_ HW_=>?_)
  generalize w7.drew=kH at aD aG aC aI HK HB aX bA aW bD bG bH bI bJ bK bL bM hHeld ⊢
  refine nY (N:=some 47) HT_ ?_;refine pZ 2 49 (bv 10 5) HT_ ?_;refine pZ 7 54 (bv 10 133) HT_ ?_;refine aZ 1 48 (bv 10 135) HT_ HW_ hHeld ?_;refine aZ 3 50 (bv 10 143) HT_ HW_ hHeld ?_;refine pZ 4 51 (bv 10 159) HT_ ?_;refine pZ 5 52 (bv 10 191) HT_ ?_;refine aZ 6 53 (bv 10 255) HT_ HW_ hHeld ?_;refine aZ 8 55 (bv 10 511) HT_ HW_ hHeld ?_;refine pZ 9 56 (bv 10 1023) HT_ ?_;refine done_ (done_of HT_.out (by kernel_rfl)) ?_
  have tN:=bO.out;have tO:=bP.out;have tP:=bY.out;have tQ:=bZ.out;have tR:=cA2 aG.out;have tS:=cE.out;have tT:=cG.out;have tV:=cA8 aC.out;have dD:0≤(aA:Int):=dT;have dE:(aA:Int)<((aE.length:Int):Int):=dT;obtain ⟨aK,lO,eJ,eK,gG,lP,eL⟩:=Kd.R_form aD.out (by omega)
  (cases eJ)
  have aQ:=aM eK;have lQ:=aM eL;clear eK gG eL;have HMgo45:=aM (show (P0_1_ aK∨w.heap.size≤aK) from (aD.out.1 _ rfl))
  (simp only [add_plain] at aX)
  (simp only [add_plain] at bA)
  (simp only [add_plain] at bD)
  (simp only [add_plain] at bG)
  (simp only [add_plain] at bH)
  (simp only [add_plain] at bI)
  (simp only [add_plain] at bJ)
  (simp only [add_plain] at bK)
  (simp only [add_plain] at bL)
  (simp only [add_plain] at bM)
  (simp only [add_plain] at aW)
  obtain ⟨lS,fO,eM,dF,dG⟩:=Kd.R_elem aD.out z102 (aA:Int) dD dE;obtain rfl:=k102_openM eM;obtain ⟨jI,jJ,jK,jL,jM,jN,jO,jP,jQ,jR,iL,jS,jT,jU,jV,jW,jX,jY,jZ,kA,kC,iM⟩:=eS102 (rd_T102 aE aA) dF dG;clear fO dF dG eM;replace dD:=eq_true dD;replace dE:=eq_true dE;have kI:=aM (show Kd.R k102 102 kH w0.heap.size (fun k_=>(P0_1_ k_∨w.heap.size≤k_)) (.slice (some ⟨aK,0,none⟩) aE.length cC) aE from (kr aD.out))
  obtain ⟨vC,iG,kJ,bT,bW⟩:=Kd.R_elem kI.out z102 (aA:Int) (dT) dT;obtain rfl:=k102_openM kJ;have gK:=Kd.R_seg kI.out (aA:Int) (dT) dT (seg:=[.bool false,.bool false,.int .i64 0,.int .i64 0,.int .i64 0,.int .i64 0,.int .i64 0,.int .i64 0,.int .i64 0,.int .i64 0,.bool false]) (j:=0) iG bT (show 11≤11 from by decide) (x':=(⟨false,false,(⟨0,0,0,0⟩:S25),0,0,0,0,false⟩:S102)) (k102_mkM _ _ _ _) (fun _ hk=>hk)
  have pD:=cZ 11 (bT 0 _ rfl);have pE:=fZ 11 (bW 0);have pF:=cJ 11 (bT 1 _ rfl);have pG:=fJ 11 (bW 1);have pH:=cJ 11 (bT 2 _ rfl);have pI:=fJ 11 (bW 2);have pJ:=cJ 11 (bT 3 _ rfl);have pK:=fJ 11 (bW 3);have pL:=cJ 11 (bT 4 _ rfl);have pM:=fJ 11 (bW 4);have pN:=cJ 11 (bT 5 _ rfl);have pO:=fJ 11 (bW 5);have pP:=cJ 11 (bT 6 _ rfl);have pQ:=fJ 11 (bW 6);have pR:=cJ 11 (bT 7 _ rfl);have pS:=fJ 11 (bW 7);have pT:=cJ 11 (bT 8 _ rfl);have pV:=fJ 11 (bW 8);have pW:=cJ 11 (bT 9 _ rfl);have pX:=fJ 11 (bW 9);have mD:=cJ 11 (bT 10 _ rfl);have mE:=fJ 11 (bW 10);clear iG bT bW kJ
  try go_wp2_with (first|((with_reducible refine gate_store (t:=102) (p:=63) rfl ?_);refine store_event (t:=102) (p:=63) (v:=?vo_w55) (w1:=(((((((((((kH.setCell ⟨aK,(aA:Int).toNat*11,none⟩ (.bool false)).setCell ⟨aK,(aA:Int).toNat*11+1,none⟩ (.bool false)).setCell ⟨aK,(aA:Int).toNat*11+2,none⟩ (.int .i64 0)).setCell ⟨aK,(aA:Int).toNat*11+3,none⟩ (.int .i64 0)).setCell ⟨aK,(aA:Int).toNat*11+4,none⟩ (.int .i64 0)).setCell ⟨aK,(aA:Int).toNat*11+5,none⟩ (.int .i64 0)).setCell ⟨aK,(aA:Int).toNat*11+6,none⟩ (.int .i64 0)).setCell ⟨aK,(aA:Int).toNat*11+7,none⟩ (.int .i64 0)).setCell ⟨aK,(aA:Int).toNat*11+8,none⟩ (.int .i64 0)).setCell ⟨aK,(aA:Int).toNat*11+9,none⟩ (.int .i64 0)).setCell ⟨aK,(aA:Int).toNat*11+10,none⟩ (.bool false))) ?hg ?ho ?hn ?hr ?_;(case ho=>rfl);(case hg=>rfl);(case hn=>rfl);(case hr=>(go_simp;done));intro eO hw;have hg:kH.grownBy eO (some aK):=(by rw [hw];exact gK.2);have hp_:Kd.R k102 102 eO w0.heap.size (fun k_=>(P0_1_ k_∨w.heap.size≤k_)) (.slice (some ⟨aK,0,none⟩) aE.length cC) cT:=(by rw [hw,iE.out];exact gK.1);clear gK;replace aG:=aM (blk_grown (bk aG.out) hg (Kd.R_ne aD.out aG.out (by decide)));replace aC:=aM (blk_grown (bk aC.out) hg (Kd.R_ne aD.out aC.out (by decide)));replace aI:=aM (blk_grown (bk aI.out) hg (Kd.R_ne aD.out aI.out (by decide)));replace HB:=aM ((by rw [hw];exact below_set (below_set (below_set (below_set (below_set (below_set (below_set (below_set (below_set (below_set (below_set (HB.out) aQ.out) aQ.out) aQ.out) aQ.out) aQ.out) aQ.out) aQ.out) aQ.out) aQ.out) aQ.out) aQ.out:Below w0.heap.size w0 eO));replace HK:=aM (Kept.of_grown (S:=(fun k_=>P0_1_ k_)) hg (kk HK.out) (fun k_ e_=>(aD.out.1 k_ e_)));replace aD:=aM (hp_);clear hg hw hp_;have tW:=cA8 aC.out;have tX:=cA2 aG.out;have fT:0≤(aA:Int):=dT;have fU:(aA:Int)<((aE.length:Int):Int):=dT;obtain ⟨vD,lC,kK,iH,iI⟩:=Kd.R_elem aD.out z102 (aA:Int) fT fU;obtain rfl:=k102_openM kK;obtain ⟨qA,qC,qD,qE,qF,qG,qH,qI,qJ,qM,mF,qN,qO,qP,qQ,qS,qT,qV,qW,qX,qY,mG⟩:=eS102 (rd_T102 cT aA) iH iI;clear lC iH iI kK;replace fT:=eq_true fT;replace fU:=eq_true fU;have kL:=aM (show Kd.R k102 102 eO w0.heap.size (fun k_=>(P0_1_ k_∨w.heap.size≤k_)) (.slice (some ⟨aK,0,none⟩) aE.length cC) cT from (kr aD.out));obtain ⟨vE,iJ,kM,bU,bX⟩:=Kd.R_elem kL.out z102 (aA:Int) (dT) dT;obtain rfl:=k102_openM kM;have gM:=Kd.R_seg kL.out (aA:Int) (dT) dT (seg:=[.bool true,.bool false,.int .i64 0,.int .i64 0,.int .i64 0,.int .i64 0,.int .i64 0,.int .i64 0,.int .i64 3,.int .i64 0,.bool false]) (j:=0) iJ bU (show 11≤11 from by decide) (x':=(⟨true,false,(⟨0,0,0,0⟩:S25),0,0,3,0,false⟩:S102)) (k102_mkM _ _ _ _) (fun _ hk=>hk);have qZ:=cZ 11 (bU 0 _ rfl);have rA:=fZ 11 (bX 0);have rC:=cJ 11 (bU 1 _ rfl);have rD:=fJ 11 (bX 1);have rE:=cJ 11 (bU 2 _ rfl);have rF:=fJ 11 (bX 2);have rG:=cJ 11 (bU 3 _ rfl);have rH:=fJ 11 (bX 3);have rI:=cJ 11 (bU 4 _ rfl);have rJ:=fJ 11 (bX 4);have rL:=cJ 11 (bU 5 _ rfl);have rM:=fJ 11 (bX 5);have rN:=cJ 11 (bU 6 _ rfl);have rO:=fJ 11 (bX 6);have rQ:=cJ 11 (bU 7 _ rfl);have rR:=fJ 11 (bX 7);have rT:=cJ 11 (bU 8 _ rfl);have rV:=fJ 11 (bX 8);have rW:=cJ 11 (bU 9 _ rfl);have rX:=fJ 11 (bX 9);have mH:=cJ 11 (bU 10 _ rfl);have mI:=fJ 11 (bX 10);clear iJ bU bX kM)|((with_reducible refine gate_store (t:=102) (p:=71) rfl ?_);refine store_event (t:=102) (p:=71) (v:=?vo_w59) (w1:=(((((((((((eO.setCell ⟨aK,(aA:Int).toNat*11,none⟩ (.bool true)).setCell ⟨aK,(aA:Int).toNat*11+1,none⟩ (.bool false)).setCell ⟨aK,(aA:Int).toNat*11+2,none⟩ (.int .i64 0)).setCell ⟨aK,(aA:Int).toNat*11+3,none⟩ (.int .i64 0)).setCell ⟨aK,(aA:Int).toNat*11+4,none⟩ (.int .i64 0)).setCell ⟨aK,(aA:Int).toNat*11+5,none⟩ (.int .i64 0)).setCell ⟨aK,(aA:Int).toNat*11+6,none⟩ (.int .i64 0)).setCell ⟨aK,(aA:Int).toNat*11+7,none⟩ (.int .i64 0)).setCell ⟨aK,(aA:Int).toNat*11+8,none⟩ (.int .i64 3)).setCell ⟨aK,(aA:Int).toNat*11+9,none⟩ (.int .i64 0)).setCell ⟨aK,(aA:Int).toNat*11+10,none⟩ (.bool false))) ?hg ?ho ?hn ?hr ?_;(case ho=>rfl);(case hg=>rfl);(case hn=>rfl);(case hr=>(go_simp;done));intro kN hw;have hg:eO.grownBy kN (some aK):=(by rw [hw];exact gM.2);have hp_:Kd.R k102 102 kN w0.heap.size (fun k_=>(P0_1_ k_∨w.heap.size≤k_)) (.slice (some ⟨aK,0,none⟩) aE.length cC) gJ:=(by rw [hw,lA.out];exact gM.1);clear gM;replace aG:=aM (blk_grown (bk aG.out) hg (Kd.R_ne aD.out aG.out (by decide)));replace aC:=aM (blk_grown (bk aC.out) hg (Kd.R_ne aD.out aC.out (by decide)));replace aI:=aM (blk_grown (bk aI.out) hg (Kd.R_ne aD.out aI.out (by decide)));replace HB:=aM ((by rw [hw];exact below_set (below_set (below_set (below_set (below_set (below_set (below_set (below_set (below_set (below_set (below_set (HB.out) aQ.out) aQ.out) aQ.out) aQ.out) aQ.out) aQ.out) aQ.out) aQ.out) aQ.out) aQ.out) aQ.out:Below w0.heap.size w0 kN));replace HK:=aM (Kept.of_grown (S:=(fun k_=>P0_1_ k_)) hg (kk HK.out) (fun k_ e_=>(aD.out.1 k_ e_)));replace aD:=aM (hp_);clear hg hw hp_))
  go_meet
  case rel=>exact ⟨_,(gJ),(0),(.slice (some ⟨aK,0,none⟩) aE.length cC),H',⟨by omega⟩,⟨kr aD.out⟩,⟨bk aG.out⟩,⟨bk aC.out⟩,⟨bk aI.out⟩,⟨kk HK.out⟩,⟨bl HB.out⟩⟩
 case rest =>
  clear iN
  repeat first|clear p2|clear c3|clear c4|clear p4|clear q4|clear c5|clear c6|clear p8|clear q8|clear eG|clear hY|clear hZ|clear vP|clear vQ|clear cV|clear iA|clear iB|clear iC|clear vR|clear vS|clear vT|clear vU|clear dD|clear dE|clear fS|clear vV|clear fT|clear fU|clear vW|clear vX|clear vY|clear vZ|clear wA|clear wB|clear wC|clear wD|clear wE|clear dD|clear fT|clear cQ|clear dE|clear fU|clear cR
  obtain ⟨kq,cH,eD,u856001,HA,HJ2,aJ,aG,aC,aI,HK,HB⟩:=hcut;cases kq with
  | zero=>exact absurd HA.out (by simp [Z5.j1])
  | succ rY =>
   have H:=HA.out;clear HA;simp only [Z5.j1] at H;obtain ⟨⟨gO,gP⟩,kO,H⟩:=hB H
   try dsimp only at H
   have rZ:=aM kO;clear kO;simp only [Option.some.injEq,Prod.mk.injEq] at H;obtain ⟨rfl,rfl⟩:=H;have tZ:=bO.out;have uA:=bP.out;have uB:=bY.out;have uC:=bZ.out;have uD:=cA2 aG.out;obtain ⟨lT,lU,lV⟩:=Kd.R_slice aJ.out;subst lV;go_wp2_with (((with_reducible refine gC (f:=92) rfl ?_);refine goesL_ (some 73) rfl rfl Tryd.func92 (by kernel_rfl) rfl #[.agg #[aV,.slice lT cH.length lU]] rfl xR ?_;(with_reducible refine (Z6.calls rY aV _ _ cH gO gP _ ?side1 ?side2 rZ.out).mono ?_);(case side1=>exact cM ((Kd.R_reads' aJ.out).2.2));(case side2=>exact (Kd.R_reads' aJ.out).2.1);rintro e wF ⟨vF,rfl,ho0,hb⟩;refine ⟨_,rfl,?_⟩;have iK:=aM (Kd.R_lower (Kd.R_new' (Kd.R_newM (M:=fun k_=>(P0_1_ k_∨w.heap.size≤k_)) ho0 (kk HK.out).1 (fun k_ h_=>.inr h_)) (Kd.R_lt (kr aJ.out))) (below_size (bl HB.out)));replace aJ:=aM (Kd.R_elder' (kr aJ.out) (Kd.R_base ho0) hb);replace aG:=rB aG hb;replace aC:=rB aC hb;replace aI:=rB aI hb;replace HK:=aM (Kept.below (S:=(fun k_=>P0_1_ k_)) (kk HK.out) hb);replace HB:=rS HB hb;(repeat first|clear hb|clear ho0);have uE:=cG.out;have uF:=cE.out;have uG:=cA2 aI.out;obtain ⟨kP,kQ,lW⟩:=Kd.R_slice iK.out;subst lW))
   refine bodyPost_ret (results_cell_row rfl _ _ cS 79 #[gO,.slice kP gP.length kQ] (0,0) _ rfl (bm aI.out) Tryd.underlying79 rfl (by kernel_rfl)) rfl ?_
   exact ⟨_,xW,kr (Kd.R_mono (rF2 (g:=cS) (Kd.R_types iK.out aI.out (by decide)) (fun _ hk=>hk.2) (.int .i64 gO) (.slice kP gP.length kQ)) (fun _ hk=>hk.1.1.1)),bl HB.out,kk HK.out⟩

end Go.Proofs.YtljbdchibfjbdaaDoor.PFnIns

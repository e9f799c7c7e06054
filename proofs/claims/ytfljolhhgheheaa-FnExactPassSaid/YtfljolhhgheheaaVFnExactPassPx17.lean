/- A part of the proof of laws.FnExactPass. No condition beyond what its theorems say. -/
import Derived.Test.YtfljolhhgheheaaVFnExactPassPx14
import Derived.Test.YtfljolhhgheheaaVFnExactPassPx16
namespace Go.Proofs.Ytfljolhhgheheaa.PFnExactPass
open Go.RowKit Go.Proofs.YtfljolhhgheheaaW.PrintWords Go.Proofs.YtfljolhhgheheaaW.PrintLast Go.Proofs.YtfljolhhgheheaaW.PrintMore
set_option linter.unusedVariables false
set_option linter.unusedSimpArgs false

mutual
def Y6.j1:Nat→List (S86)→Int→Int→List (S86)→Int→Int→Int→Int→Int→Option ((List (S86)))
 | 0,_,_,_,_,_,_,_,_,_=>none
 | k+1,x0,x1,x2,aH,aA,aC,aD,aE,aG=>if 0≤aA then (if aA≤(aH.length:Int) then ((Y15.f k (aH.take (aA:Int).toNat) x1 x2).bind fun aJ=>((Y15.f k (aH.drop (aA:Int).toNat) x1 x2).bind fun aK=>((Y3.f k (([aJ,(([(⟨aC,aD,aE,aG⟩:S86)]:List (S86))),aK]:List (List (S86))))).bind fun aI=>((Y4.f k aI).bind fun aN=>(if aN=true then (some aI) else ((Y50.f x0).bind fun aQ=>(some aQ))))))) else (none)) else (none)
def Y6.l0:Nat→List (S86)→Int→Int→List (S86)→Int→Int→Int→Int→Int→Option ((List (S86)))
 | 0,_,_,_,_,_,_,_,_,_=>none
 | k+1,x0,x1,x2,aH,aG,aA,aC,aD,aE=>if aG<(aH.length:Int) then (if 0≤aG then ((Y61.f ((rd_T86 aH aG).f0) ((rd_T86 aH aG).f1) ((rd_T86 aH aG).f2) ((rd_T86 aH aG).f3) aA aC aD aE).bind fun aI=>(if aI=true then (Y6.l0 k x0 x1 x2 aH (wrap64 (aG+1)) aA aC aD aE) else (Y6.j1 k x0 x1 x2 aH aG aA aC aD aE))) else (none)) else (Y6.j1 k x0 x1 x2 aH aG aA aC aD aE)
end
def Y6.f (k:Nat) (l0:List (S86)) (a1 a2 a3:Int):Option ((List (S86))):=(Y50.f l0).bind fun aA=>(Y6.l0 k l0 a1 a2 aA 0 a1 a2 a3 20)
theorem Y6.mono_l:∀ k,(∀ y0 y1 y2 y3 y4 y5 y6 y7 y8,LeO (Y6.j1 k y0 y1 y2 y3 y4 y5 y6 y7 y8) (Y6.j1 (k+1) y0 y1 y2 y3 y4 y5 y6 y7 y8))∧(∀ y0 y1 y2 y3 y4 y5 y6 y7 y8,LeO (Y6.l0 k y0 y1 y2 y3 y4 y5 y6 y7 y8) (Y6.l0 (k+1) y0 y1 y2 y3 y4 y5 y6 y7 y8))
 | 0=>by refine ⟨?_,?_⟩ <;> intros <;> intro r h <;> simp [Y6.j1,Y6.l0] at h
 | k+1=>by
  obtain ⟨ih0,ih1⟩:=Y6.mono_l k;refine ⟨?_,?_⟩
  ·intro y0 y1 y2 y3 y4 y5 y6 y7 y8
   unfold Y6.j1
   repeat' first|(with_reducible first|apply ih0|apply ih1|apply Y3.mono|apply Y4.mono|apply Y15.mono|exact lR _|exact lN _|refine lI ?_ ?_|refine lB ?_ fun _=>?_)|exact lN _|refine lI ?_ ?_|refine lB ?_ fun _=>?_
  ·intro y0 y1 y2 y3 y4 y5 y6 y7 y8
   unfold Y6.l0
   repeat' first|(with_reducible first|apply ih0|apply ih1|apply Y3.mono|apply Y4.mono|apply Y15.mono|exact lR _|exact lN _|refine lI ?_ ?_|refine lB ?_ fun _=>?_)|exact lN _|refine lI ?_ ?_|refine lB ?_ fun _=>?_
theorem Y6.mono:∀ a0 a1 a2 a3 k,LeO (Y6.f k a0 a1 a2 a3) (Y6.f (k+1) a0 a1 a2 a3):=by
 intro a0 a1 a2 a3 k;obtain ⟨ih0,ih1⟩:=Y6.mono_l k;unfold Y6.f
 repeat' first|(with_reducible first|apply ih0|apply ih1|apply Y3.mono|apply Y4.mono|apply Y15.mono|exact lR _|exact lN _|refine lI ?_ ?_|refine lB ?_ fun _=>?_)|exact lN _|refine lI ?_ ?_|refine lB ?_ fun _=>?_
def Y6.T4:Bool × List (List Nat × List Nat):=(true,[([],[]),([],[]),([1],[1]),([0,2],[0,2]),([3],[3]),([4],[4]),([4],[4]),([5,6,4],[4,5,6]),([7,4],[4,7]),([4],[4]),([8,9,4,4],[4,8,9]),([4,10],[4,10])])
def Y6.B4:List Nat:=[0,0,2,7,15,31,31,127,255,31,1023,2047]
theorem Y6.tab4:rtab .any (opsOf Try.f38 4)=Y6.T4:=by kernel_rfl
theorem Y6.bits4:waitsOk Y6.T4.2 Y6.B4=true:=by kernel_rfl
def Y6.T6:Bool × List (List Nat × List Nat):=(true,[([],[]),([],[]),([0,1],[0,1]),([],[]),([],[]),([2,3,4],[2,3,4]),([],[]),([],[]),([6,7],[6,7]),([],[]),([],[]),([8,9,10,5],[8,9,10]),([5,11,0,1,2,3,4,5],[5]),([11,12,0,1,2,3,4,5,6,7,8,9,10,11,12],[11])])
def Y6.B6:List Nat:=[0,0,3,0,0,31,0,0,192,0,0,2047,4095,8191]
theorem Y6.tab6:rtab .any (opsOf Try.f38 6)=Y6.T6:=by kernel_rfl
theorem Y6.bits6:waitsOk Y6.T6.2 Y6.B6=true:=by kernel_rfl
set_option maxHeartbeats 60000000 in
set_option maxRecDepth 100000 in
theorem Y6.calls (k:Nat) (A0:Option Addr) (c0:Nat) (l0:List (S86)) (a1 a2 a3:Int) (r:List (S86)) (w:World) (hr0:Kd.C k86 w A0 l0.length l0) (hc0:l0.length≤c0) (h:Y6.f k l0 a1 a2 a3=some r) :
  Calls Try.prog 38 #[.slice A0 l0.length c0,a1,a2,a3] w fun e w'=>∃ eN:Value,e=.returned (eN)∧Kd.R k86 86 w' w.heap.size (fun _=>True) eN r∧Below w.heap.size w w':=by
 have gS:=Try.underlying86;have eO:=aM hr0;have eP:=aM hc0;clear hr0 hc0;have HB:=aM (Below.refl w.heap.size w);have H:((Y50.f l0).bind fun aD=>(Y6.l0 k l0 a1 a2 aD 0 a1 a2 a3 20))=some r:=h
 clear h;obtain ⟨aD,eQ,H⟩:=hB H;have A5:=aM eQ;clear eQ;have cY:=aM H;clear H;go_enter Try.func38,Try.ntmps38
 go_upto_block 0 with (first|((with_reducible refine gD (N:=9) rfl ?_);refine bE (N:=9) (cs:=#[.int .i64 0,.int .i64 0,.int .i64 0,.int .i64 0]) (t:=86) ?_;intro aI hg w7 hbox hb;have aA:=aM (hbox);have gG:=gF hg HB;have gH:=gF hg HB;replace HB:=rS HB hb;clear hb hbox hg;have gT:=cA4 aA.out)|((with_reducible refine gC (f:=63) rfl ?_);refine gL (some 19) Try.func63 #[.slice A0 l0.length c0] ?_;(with_reducible refine (Y50.calls _ _ l0 aD _ ?side1 ?side2 A5.out).mono ?_);(case side1=>exact cB eO.out (bl HB.out));(case side2=>exact eP.out);rintro e w9 ⟨dA,rfl,ho0,hb⟩;refine ⟨_,rfl,?_⟩;have eI:=aM (Kd.R_lower (Kd.R_newB ho0 (g:=aI) (o:=.cells #[a1,a2,a3,.int .i64 20] 86 (0,0)) (bm aA.out)) (below_size (bl HB.out)));replace aA:=aM (bB (g:=aI) (o:=.cells #[a1,a2,a3,.int .i64 20] 86 (0,0)) (bm aA.out) hb);replace HB:=rS HB hb;(repeat first|clear hb|clear ho0)))
 (try simp only [Act.put,sA,sZ,sS])
 go_cut [11] (fun dB wc=>∃ (kq:Nat) (aH:Int),dB=.int .i64 aH∧Aside0 (Y6.j1 kq l0 a1 a2 aD aH a1 a2 a3 20=some r)∧Aside0 (kq≤k)∧Aside0 (Kd.R k86 86 wc w.heap.size (fun k_=>k_≠aI) dA aD)∧Aside0 (wc.heap[aI]?=some (.cells #[a1,a2,a3,.int .i64 20] 86 (0,0)))∧Aside0 (Below w.heap.size w wc))
 case first =>
  have H:=cY.out;clear cY;have H':=aM H;clear H;go_wp2
  go_loopg [11] k (fun kq dB w'=>∃ (aJ:Int),dB=.int .i64 aJ∧Aside0 (Y6.l0 kq l0 a1 a2 aD aJ a1 a2 a3 20=some r)∧Aside0 (kq≤k)∧Aside0 (Kd.R k86 86 w' w.heap.size (fun k_=>k_≠aI) dA aD)∧Aside0 (w'.heap[aI]?=some (.cells #[a1,a2,a3,.int .i64 20] 86 (0,0)))∧Aside0 (Below w.heap.size w w'))
  case atStart=>exact ⟨(0),xE,H',⟨Nat.le_refl _⟩,⟨kr (Kd.R_mono eI.out (fun _ hk=>hk.2))⟩,⟨bk aA.out⟩,⟨bl HB.out⟩⟩
  case round =>
   clear H'
   repeat first|clear p2|clear c3|clear c6
   obtain ⟨aJ,rfl,HA,cW,aC,aA,HB⟩:=hrel;cases gk with
   | zero=>exact absurd HA.out (by simp [Y6.l0])
   | succ k1 =>
    have H:=HA.out;clear HA;simp only [Y6.l0] at H
    by_cases cK:aJ<(aD.length:Int)
    case neg =>
     rw [if_neg cK] at H
     have bX:=decide_eq_false cK;clear cK
     (first|rw [bX]|(simp only [i64_w,i32_w];rw [bX])|skip)
     have H':=aM H;clear H
     try go_wp2
     replace aC:=aM (Kd.R_drew aC.out);replace aA:=aM (blk_drew aA.out);replace HB:=aM (below_drew1 HB.out);obtain ⟨gU,gV,dC⟩:=Kd.R_slice aC.out
     (first|subst dC|(injection dC with f1_ f2_ f3_;have f4_:=f1_.symm;have f5_:=f3_.symm;clear f1_ f2_ f3_;subst f4_;subst f5_))
     refine start_ (n:=12) (S:=fun w'=>True) (ds:=[]) (dn 12 0) (by kernel_rfl) rfl rfl trivial (fun hHeld=>?_);refine with_tabW Y6.tab4 Y6.bits4 (fun HT_ HW_=>?_)
     generalize wr.drew=hO at aC aA HB hHeld ⊢
     refine nY (N:=some 20) HT_ ?_;refine nY (N:=some 21) HT_ ?_;refine nY (N:=some 22) HT_ ?_;refine nY (N:=some 23) HT_ ?_;refine nY (N:=some 24) HT_ ?_;refine nU (N:=some 25) HT_ ?_;refine nU (N:=some 26) HT_ ?_;refine nU (N:=some 27) HT_ ?_;refine nU (N:=some 28) HT_ ?_;refine nU (N:=some 29) HT_ ?_;refine nU (N:=some 30) HT_ ?_;refine nY (N:=some 31) HT_ ?_;refine done_ (done_of HT_.out (by kernel_rfl)) ?_
     try go_wp2
     go_meet
     case rel=>exact ⟨_,(aJ),xE,H',⟨by have:=cW.out;first|omega|exact Nat.le_refl _⟩,⟨kr aC.out⟩,⟨bk aA.out⟩,⟨bl HB.out⟩⟩
    rw [if_pos cK] at H
    have bX:=decide_eq_true cK;clear cK
    (first|rw [bX]|(simp only [i64_w,i32_w];rw [bX])|skip)
    obtain ⟨eJ,H⟩:=gI H;obtain ⟨eW,dD,H⟩:=hB H;have eR:=aM dD;clear dD
    by_cases cQ:eW=true
    case pos =>
     subst cQ;replace H:=hP H rfl;have H':=aM H;clear H
     try go_wp2
     replace aC:=aM (Kd.R_drew aC.out);replace aA:=aM (blk_drew aA.out);replace HB:=aM (below_drew1 HB.out);obtain ⟨gW,gX,dE⟩:=Kd.R_slice aC.out
     (first|subst dE|(injection dE with f1_ f2_ f3_;have f4_:=f1_.symm;have f5_:=f3_.symm;clear f1_ f2_ f3_;subst f4_;subst f5_))
     have bV:0≤(aJ:Int):=dT;have bW:aJ<(aD.length:Int):=dT;obtain ⟨cP,cT,bN,bO,bP,bQ⟩:=at_T86 (Kd.R_reads' aC.out).2.2 aJ bV bW;cases cT
     replace bV:=eq_true bV;replace bW:=eq_true bW;refine start_ (n:=12) (S:=fun w'=>cT4 w' aI (.int .i64 a1) (.int .i64 a2) (.int .i64 a3) (.int .i64 20) (cE86 w' cP (aJ).toNat (rd_T86 aD aJ))) (ds:=[]) (dn 12 0) (by kernel_rfl) rfl rfl ⟨cI aA.out 0,cI aA.out 1,cI aA.out 2,cI aA.out 3,bN,bO,bP,bQ⟩ (fun hHeld=>?_);refine with_tabW Y6.tab4 Y6.bits4 (fun HT_ HW_=>?_)
     generalize wr.drew=hX at aC aA HB bN bO bP bQ hHeld ⊢
     refine nY (N:=some 20) HT_ ?_;refine nY (N:=some 21) HT_ ?_;refine nY (N:=some 22) HT_ ?_;refine nY (N:=some 23) HT_ ?_;refine nY (N:=some 24) HT_ ?_;refine nY (N:=some 25) HT_ ?_;refine nY (N:=some 26) HT_ ?_;refine nY (N:=some 27) HT_ ?_;refine tY (N:=some 28) HT_ HW_ hHeld ?_;refine tY (N:=some 29) HT_ HW_ hHeld ?_;refine oN (N:=some 30) HT_ (fun K hK=>?_)
     refine goes_ Try.func71 (by kernel_rfl) rfl #[.agg #[((rd_T86 aD aJ).f0),((rd_T86 aD aJ).f1),((rd_T86 aD aJ).f2),((rd_T86 aD aJ).f3)],.agg #[a1,a2,a3,.int .i64 20]] (by rfl) rfl rfl xR ?_
     with_reducible refine (Y61.calls ((rd_T86 aD aJ).f0) ((rd_T86 aD aJ).f1) ((rd_T86 aD aJ).f2) ((rd_T86 aD aJ).f3) a1 a2 a3 20 true _ eR.out).mono ?_
     rintro e hY ⟨rfl,hb⟩;have HS4_:=(hb.cell (World.block_lt_of_cell? _ _ (hHeld.2.2.2.2.1))).trans (hHeld.2.2.2.2.1);have HS5_:=(hb.cell (World.block_lt_of_cell? _ _ (hHeld.2.2.2.2.2.1))).trans (hHeld.2.2.2.2.2.1);have HS6_:=(hb.cell (World.block_lt_of_cell? _ _ (hHeld.2.2.2.2.2.2.1))).trans (hHeld.2.2.2.2.2.2.1);have HS7_:=(hb.cell (World.block_lt_of_cell? _ _ (hHeld.2.2.2.2.2.2.2))).trans (hHeld.2.2.2.2.2.2.2);refine ⟨_,rfl,?_⟩;replace aC:=rK aC hb;replace aA:=rB aA hb;replace HB:=rS HB hb
     (try clear hb)
     (try clear hb2)
     (try clear hk)
     (try clear hi)
     refine hK.out _ _ ⟨cI aA.out 0,cI aA.out 1,cI aA.out 2,cI aA.out 3,HS4_,HS5_,HS6_,HS7_⟩ (fun hHeld=>?_)
     clear hK K;refine norm_ (a':=?_) ?_ ?_;rotate_left
     ·show Act.put _ (some 30) _=_
      simp only [Act.put,sA,sZ,sS,i64_w,i32_w]
      rfl
     refine nY (N:=some 31) HT_ ?_;refine done_ (done_of HT_.out (by kernel_rfl)) ?_
     try go_wp2
     go_roundg k1
     case measure=>have:=cW.out;omega
     case rel=>exact ⟨(wS aJ),xE,H',⟨by have:=cW.out;omega⟩,⟨kr aC.out⟩,⟨bk aA.out⟩,⟨bl HB.out⟩⟩
    replace cQ:=Bool.eq_false_iff.mpr cQ;subst cQ;replace H:=hF H;have H':=aM H;clear H
    try go_wp2
    replace aC:=aM (Kd.R_drew aC.out);replace aA:=aM (blk_drew aA.out);replace HB:=aM (below_drew1 HB.out);obtain ⟨gY,gZ,dF⟩:=Kd.R_slice aC.out
    (first|subst dF|(injection dF with f1_ f2_ f3_;have f4_:=f1_.symm;have f5_:=f3_.symm;clear f1_ f2_ f3_;subst f4_;subst f5_))
    have bV:0≤(aJ:Int):=dT;have bW:aJ<(aD.length:Int):=dT;obtain ⟨cP,cT,bN,bO,bP,bQ⟩:=at_T86 (Kd.R_reads' aC.out).2.2 aJ bV bW;cases cT
    replace bV:=eq_true bV;replace bW:=eq_true bW;refine start_ (n:=12) (S:=fun w'=>cT4 w' aI (.int .i64 a1) (.int .i64 a2) (.int .i64 a3) (.int .i64 20) (cE86 w' cP (aJ).toNat (rd_T86 aD aJ))) (ds:=[]) (dn 12 0) (by kernel_rfl) rfl rfl ⟨cI aA.out 0,cI aA.out 1,cI aA.out 2,cI aA.out 3,bN,bO,bP,bQ⟩ (fun hHeld=>?_);refine with_tabW Y6.tab4 Y6.bits4 (fun HT_ HW_=>?_)
    generalize wr.drew=hZ at aC aA HB bN bO bP bQ hHeld ⊢
    refine nY (N:=some 20) HT_ ?_;refine nY (N:=some 21) HT_ ?_;refine nY (N:=some 22) HT_ ?_;refine nY (N:=some 23) HT_ ?_;refine nY (N:=some 24) HT_ ?_;refine nY (N:=some 25) HT_ ?_;refine nY (N:=some 26) HT_ ?_;refine nY (N:=some 27) HT_ ?_;refine tY (N:=some 28) HT_ HW_ hHeld ?_;refine tY (N:=some 29) HT_ HW_ hHeld ?_;refine oN (N:=some 30) HT_ (fun K hK=>?_)
    refine goes_ Try.func71 (by kernel_rfl) rfl #[.agg #[((rd_T86 aD aJ).f0),((rd_T86 aD aJ).f1),((rd_T86 aD aJ).f2),((rd_T86 aD aJ).f3)],.agg #[a1,a2,a3,.int .i64 20]] (by rfl) rfl rfl xR ?_
    with_reducible refine (Y61.calls ((rd_T86 aD aJ).f0) ((rd_T86 aD aJ).f1) ((rd_T86 aD aJ).f2) ((rd_T86 aD aJ).f3) a1 a2 a3 20 false _ eR.out).mono ?_
    rintro e iA ⟨rfl,hb⟩;have HS4_:=(hb.cell (World.block_lt_of_cell? _ _ (hHeld.2.2.2.2.1))).trans (hHeld.2.2.2.2.1);have HS5_:=(hb.cell (World.block_lt_of_cell? _ _ (hHeld.2.2.2.2.2.1))).trans (hHeld.2.2.2.2.2.1);have HS6_:=(hb.cell (World.block_lt_of_cell? _ _ (hHeld.2.2.2.2.2.2.1))).trans (hHeld.2.2.2.2.2.2.1);have HS7_:=(hb.cell (World.block_lt_of_cell? _ _ (hHeld.2.2.2.2.2.2.2))).trans (hHeld.2.2.2.2.2.2.2);refine ⟨_,rfl,?_⟩;replace aC:=rK aC hb;replace aA:=rB aA hb;replace HB:=rS HB hb
    (try clear hb)
    (try clear hb2)
    (try clear hk)
    (try clear hi)
    refine hK.out _ _ ⟨cI aA.out 0,cI aA.out 1,cI aA.out 2,cI aA.out 3,HS4_,HS5_,HS6_,HS7_⟩ (fun hHeld=>?_)
    clear hK K;refine norm_ (a':=?_) ?_ ?_;rotate_left
    ·show Act.put _ (some 30) _=_
     simp only [Act.put,sA,sZ,sS,i64_w,i32_w]
     rfl
    refine nY (N:=some 31) HT_ ?_;refine done_ (done_of HT_.out (by kernel_rfl)) ?_
    try go_wp2
    go_meet
    case rel=>exact ⟨_,(aJ),xE,H',⟨by have:=cW.out;first|omega|exact Nat.le_refl _⟩,⟨kr aC.out⟩,⟨bk aA.out⟩,⟨bl HB.out⟩⟩
 case rest =>
  clear cY
  repeat first|clear c1|clear p2|clear c3|clear p4|clear q4|clear c6|clear p6|clear c7|clear cK|clear bX|clear iB|clear eJ|clear cQ|clear p2|clear bV|clear bW
  obtain ⟨kq,aH,rfl,HA,HJ5,aC,aA,HB⟩:=hcut;cases kq with
  | zero=>exact absurd HA.out (by simp [Y6.j1])
  | succ bK =>
   have H:=HA.out;clear HA;simp only [Y6.j1] at H
   by_cases cR:0≤aH
   case neg =>
    rw [if_neg cR] at H
    exact absurd H (by simp)
   rw [if_pos cR] at H
   have gJ:=eq_true cR;have gK:decide (0≤aH)=true:=decide_eq_true cR;clear cR
   by_cases cS:aH≤(aD.length:Int)
   case neg =>
    rw [if_neg cS] at H
    exact absurd H (by simp)
   rw [if_pos cS] at H
   have gM:=eq_true cS;have gN:decide (aH≤(aD.length:Int))=true:=decide_eq_true cS;clear cS;obtain ⟨bL,bY⟩:∃ y_:List (S86),y_=(aD.take (aH:Int).toNat):=⟨_,rfl⟩;replace H:((Y15.f bK bL a1 a2).bind fun bJ=>((Y15.f bK (aD.drop (aH:Int).toNat) a1 a2).bind fun bI=>((Y3.f bK (([bJ,(([(⟨a1,a2,a3,20⟩:S86)]:List (S86))),bI]:List (List (S86))))).bind fun bD=>((Y4.f bK bD).bind fun bT=>(if bT=true then (some bD) else ((Y50.f l0).bind fun bU=>(some bU)))))))=some r:=by first|(rw [bY];with_reducible exact H)|(have H2_:=(Option.bind_some _ _).symm.trans H;rw [bY];with_reducible exact H2_)|(have H2_:=(Option.bind_some _ _).symm.trans H;with_reducible exact H2_)|with_reducible exact H|(rw [bY];exact H)|exact H
   have cD:=aM bY;clear bY;obtain ⟨bJ,dG,H⟩:=hB H;have eS:=aM dG;clear dG;have gO:=eq_true (dT:0≤aH);have gP:=eq_true (dT:aH≤(aD.length:Int));obtain ⟨aW,bZ⟩:∃ y_:List (S86),y_=(aD.drop (aH:Int).toNat):=⟨_,rfl⟩;replace H:((Y15.f bK aW a1 a2).bind fun bI=>((Y3.f bK (([bJ,(([(⟨a1,a2,a3,20⟩:S86)]:List (S86))),bI]:List (List (S86))))).bind fun bD=>((Y4.f bK bD).bind fun bT=>(if bT=true then (some bD) else ((Y50.f l0).bind fun bU=>(some bU))))))=some r:=by first|(rw [bZ];with_reducible exact H)|(have H2_:=(Option.bind_some _ _).symm.trans H;rw [bZ];with_reducible exact H2_)|(have H2_:=(Option.bind_some _ _).symm.trans H;with_reducible exact H2_)|with_reducible exact H|(rw [bZ];exact H)|exact H
   have cE:=aM bZ;clear bZ;obtain ⟨bI,dH,H⟩:=hB H;have eT:=aM dH;clear dH;obtain ⟨bM,cA⟩:∃ y_:List (S86),y_=(([(⟨a1,a2,a3,20⟩:S86)]:List (S86))):=⟨_,rfl⟩;replace H:((Y3.f bK (([bJ,bM,bI]:List (List (S86))))).bind fun bD=>((Y4.f bK bD).bind fun bT=>(if bT=true then (some bD) else ((Y50.f l0).bind fun bU=>(some bU)))))=some r:=by first|(rw [cA];with_reducible exact H)|(have H2_:=(Option.bind_some _ _).symm.trans H;rw [cA];with_reducible exact H2_)|(have H2_:=(Option.bind_some _ _).symm.trans H;with_reducible exact H2_)|with_reducible exact H|(rw [cA];exact H)|exact H
   have cG:=aM cA;clear cA;obtain ⟨cL,cC⟩:∃ y_:List (List (S86)),y_=(([bJ,bM,bI]:List (List (S86)))):=⟨_,rfl⟩;replace H:((Y3.f bK cL).bind fun bD=>((Y4.f bK bD).bind fun bT=>(if bT=true then (some bD) else ((Y50.f l0).bind fun bU=>(some bU)))))=some r:=by first|(rw [cC];with_reducible exact H)|(have H2_:=(Option.bind_some _ _).symm.trans H;rw [cC];with_reducible exact H2_)|(have H2_:=(Option.bind_some _ _).symm.trans H;with_reducible exact H2_)|with_reducible exact H|(rw [cC];exact H)|exact H
   have cH:=aM cC;clear cC;obtain ⟨bD,dI,H⟩:=hB H;have eU:=aM dI;clear dI;obtain ⟨bT,dJ,H⟩:=hB H;have eV:=aM dJ;clear dJ
   by_cases cX:bT=true
   case pos =>
    subst cX;replace H:=hP H rfl;obtain rfl:=Option.some.inj H
    try go_wp2
    replace aC:=aM (Kd.R_drew aC.out);replace aA:=aM (blk_drew aA.out);replace HB:=aM (below_drew1 HB.out);obtain ⟨bG,aX,dK⟩:=Kd.R_slice aC.out
    (first|subst dK|(injection dK with f1_ f2_ f3_;have f4_:=f1_.symm;have f5_:=f3_.symm;clear f1_ f2_ f3_;subst f4_;subst f5_))
    have dL:(aH:Int)≤((aD.length:Int):Int):=dT;obtain ⟨i032,hi032,_,hsz32,_⟩:=info_parts info86;have hroom32:aD.length≤aX:=(Kd.R_reads' aC.out).2.1;have hC32:Kd.F k86 _ _ bG aD.length aD:=(Kd.V_at (base:=w.heap.size) (Kd.R_V aC.out)).2.2;have hcut32:=cut_to (P:=Try.prog) 33 86 .i64 Try.underlying33 hi032 bG aD.length aX aH (dT) dL hroom32;have hr32:=Kd.F_take (m:=(aH:Int).toNat) hC32 (by omega)
    have cU:bL.length=(aH:Int).toNat:=(by rw [cD.out,List.length_take];omega)
    rw [← cD.out] at hr32
    rw [← cU] at hcut32
    have aE:=aM (show Kd.V k86 86 _ w.heap.size _ (.slice bG bL.length aX) bL from Kd.V_mk (by omega) hr32)
    have eK:=aM (show bL.length≤aX from by omega)
    clear hr32 hC32 hroom32 hi032 hsz32;have KY32:=aM cU;clear cU;replace dL:=eq_true dL;have dM:(aH:Int)≤((aD.length:Int):Int):=dT;obtain ⟨i034,hi034,_,hsz34,_⟩:=info_parts info86;have hroom34:aD.length≤aX:=(Kd.R_reads' aC.out).2.1;have hC34:Kd.F k86 _ _ bG aD.length aD:=(Kd.V_at (base:=w.heap.size) (Kd.R_V aC.out)).2.2;have eX:(0:Int)≤(aH:Int):=dT;have hcut34:=cut_from (P:=Try.prog) 33 86 .i64 Try.underlying33 hi034 4 hsz34 bG aD.length aX aH eX dM;have hr34:=Kd.F_cut (m:=(aH:Int).toNat) (c:=aX) hC34 (by omega) hroom34
    obtain ⟨dN,hA34⟩:∃ A1,A1=(if aX=(aH:Int).toNat then bG else (bG:Option Addr).map (·.add ((aH:Int).toNat*4))):=⟨_,rfl⟩;obtain ⟨dO,hc34⟩:∃ c1,c1=aX - (aH:Int).toNat:=⟨_,rfl⟩;have cN:aW.length=aD.length - (aH:Int).toNat:=(by rw [cE.out,List.length_drop] <;> omega)
    rw [show (aD).drop (aH:Int).toNat=aW from cE.out.symm] at hr34
    replace hr34:Kd.F k86 _ _ dN aW.length aW:=(by rw [hA34];exact hr34)
    rw [← cN,← hA34,← hc34] at hcut34
    have aG:=aM (show Kd.V k86 86 _ w.heap.size _ (.slice dN aW.length dO) aW from Kd.V_mk (by rw [cN,hc34];exact Nat.sub_le_sub_right hroom34 _) hr34)
    have eL:=aM (show aW.length≤dO from by rw [cN,hc34];exact Nat.sub_le_sub_right hroom34 _)
    clear hr34 hC34 hroom34 hi034 hsz34 hc34;have KY34:=aM cN;have KA34:=aM hA34;clear cN hA34;replace dM:=eq_true dM;refine start_ (n:=14) (S:=fun w'=>True) (ds:=[]) (dn 14 0) (by kernel_rfl) rfl rfl trivial (fun hHeld=>?_);refine with_tabW Y6.tab6 Y6.bits6 (fun HT_ HW_=>?_)
    generalize wc.drew=iC at aC aA HB aE aG hHeld ⊢
    refine nY (N:=some 34) HT_ ?_;refine nY (N:=some 35) HT_ ?_;refine nY (N:=some 36) HT_ ?_;refine nY (N:=some 37) HT_ ?_;refine nY (N:=some 38) HT_ ?_;refine pZ 6 40 (bv 14 95) HT_ ?_;refine pZ 7 41 (bv 14 223) HT_ ?_;refine pZ 8 42 (bv 14 479) HT_ ?_;refine pZ 9 43 (bv 14 991) HT_ ?_;refine pZ 10 44 (bv 14 2015) HT_ ?_;refine one_ (i:=5) (N:=some 39) (bv 14 2047) rfl rfl (one_of HT_.out (by kernel_rfl)) (by decide) (fun K hK=>?_)
    refine goes_ Try.func72 (by kernel_rfl) rfl #[.slice bG bL.length aX,a1,a2] (by rfl) rfl rfl xR ?_
    with_reducible refine (Y15.calls bK _ _ bL a1 a2 bJ _ ?side1 ?side2 eS.out).mono ?_
    (case side1=>exact cM ((Kd.V_reads' aE.out).2.2))
    (case side2=>exact (Kd.V_reads' aE.out).2.1)
    rintro e iD ⟨eY,rfl,ho0,hb⟩;refine ⟨_,rfl,?_⟩;have aK:=aM (Kd.R_lower (Kd.R_newB (Kd.R_new' ho0 (Kd.R_lt (kr aC.out))) (g:=aI) (o:=.cells #[a1,a2,a3,.int .i64 20] 86 (0,0)) (bk aA.out)) (below_size (bl HB.out)));replace aC:=aM (Kd.R_elder' (kr aC.out) (Kd.R_base ho0) hb);replace aE:=aM (Kd.V_elder' (by (with_reducible repeat (first|apply Kd.V_alloc|apply Kd.V_drewN|apply Kd.V_drew));exact aE.out) (Kd.R_base ho0) hb)
    replace aG:=aM (Kd.V_elder' (by (with_reducible repeat (first|apply Kd.V_alloc|apply Kd.V_drewN|apply Kd.V_drew));exact aG.out) (Kd.R_base ho0) hb)
    replace aA:=rB aA hb;replace HB:=rS HB hb
    (try clear hb)
    (try clear hb2)
    (try clear hk)
    (try clear hi)
    (try clear ho0)
    refine hK.out _ _ trivial (fun hHeld=>?_)
    clear hK K;refine norm_ (a':=?_) ?_ ?_;rotate_left
    ·show Act.put _ (some 39) _=_
     simp only [Act.put,sA,sZ,sS,i64_w,i32_w]
     rfl
    refine one_ (i:=11) (N:=some 45) (bv 14 4095) rfl rfl (one_of HT_.out (by kernel_rfl)) (by decide) (fun K hK=>?_)
    refine goes_ Try.func72 (by kernel_rfl) rfl #[.slice dN aW.length dO,a1,a2] (by rfl) rfl rfl xR ?_
    with_reducible refine (Y15.calls bK _ _ aW a1 a2 bI _ ?side1 ?side2 eT.out).mono ?_
    (case side1=>exact cM ((Kd.V_reads' aG.out).2.2))
    (case side2=>exact (Kd.V_reads' aG.out).2.1)
    rintro e iE ⟨eZ,rfl,ho0,hb⟩;refine ⟨_,rfl,?_⟩;have aQ:=aM (Kd.R_lower (Kd.R_newB (Kd.R_new' (Kd.R_new' ho0 (Kd.R_lt (kr aC.out))) (Kd.R_lt (kr aK.out))) (g:=aI) (o:=.cells #[a1,a2,a3,.int .i64 20] 86 (0,0)) (bk aA.out)) (below_size (bl HB.out)));replace aC:=aM (Kd.R_elder' (kr aC.out) (Kd.R_base ho0) hb);replace aE:=aM (Kd.V_elder' (by (with_reducible repeat (first|apply Kd.V_alloc|apply Kd.V_drewN|apply Kd.V_drew));exact aE.out) (Kd.R_base ho0) hb)
    replace aG:=aM (Kd.V_elder' (by (with_reducible repeat (first|apply Kd.V_alloc|apply Kd.V_drewN|apply Kd.V_drew));exact aG.out) (Kd.R_base ho0) hb)
    replace aK:=aM (Kd.R_elder' (kr aK.out) (Kd.R_base ho0) hb);replace aA:=rB aA hb;replace HB:=rS HB hb
    (try clear hb)
    (try clear hb2)
    (try clear hk)
    (try clear hi)
    (try clear ho0)
    refine hK.out _ _ trivial (fun hHeld=>?_)
    clear hK K;refine norm_ (a':=?_) ?_ ?_;rotate_left
    ·show Act.put _ (some 45) _=_
     simp only [Act.put,sA,sZ,sS,i64_w,i32_w]
     rfl
    refine pZ 12 12 (bv 14 8191) HT_ ?_;refine pZ 13 13 (bv 14 16383) HT_ ?_;refine done_ (done_of HT_.out (by kernel_rfl)) ?_
    have gQ:=cA4 aA.out
    try go_wp2_with (first|((with_reducible refine gD (N:=48) rfl ?_);refine Kd.R_lit k86 _ 86 ?hg (N:=48) ?hd (xs:=([(⟨a1,a2,a3,20⟩:S86)]:List (S86))) (inner:=[.int .i64 a1,.int .i64 a2,.int .i64 a3,.int .i64 20]) (ok:=fun _=>True) (okp:=fun _=>True) ?hr ?hp (fun _ hk=>hk) trivial (Below.refl _ _) (Nat.le_refl _) (by simp) ?_;(case hd=>rfl);(case hg=>rfl);(case hr=>first|(go_simp;done)|(go_simp;rfl)|(obtain ⟨A_,c_,e_⟩:=Kd.R_slice aC.out;subst e_;(first|(go_simp;done)|(go_simp;rfl)))|(obtain ⟨A_,c_,e_⟩:=Kd.S_slice aC.out;subst e_;(first|(go_simp;done)|(go_simp;rfl)))|(obtain ⟨A_,c_,e_⟩:=Kd.R_slice aE.out;subst e_;(first|(go_simp;done)|(go_simp;rfl)))|(obtain ⟨A_,c_,e_⟩:=Kd.S_slice aE.out;subst e_;(first|(go_simp;done)|(go_simp;rfl)))|(obtain ⟨A_,c_,e_⟩:=Kd.R_slice aG.out;subst e_;(first|(go_simp;done)|(go_simp;rfl)))|(obtain ⟨A_,c_,e_⟩:=Kd.S_slice aG.out;subst e_;(first|(go_simp;done)|(go_simp;rfl)))|(obtain ⟨A_,c_,e_⟩:=Kd.R_slice aK.out;subst e_;(first|(go_simp;done)|(go_simp;rfl)))|(obtain ⟨A_,c_,e_⟩:=Kd.S_slice aK.out;subst e_;(first|(go_simp;done)|(go_simp;rfl)))|(obtain ⟨A_,c_,e_⟩:=Kd.R_slice aQ.out;subst e_;(first|(go_simp;done)|(go_simp;rfl)))|(obtain ⟨A_,c_,e_⟩:=Kd.S_slice aQ.out;subst e_;(first|(go_simp;done)|(go_simp;rfl)))|(obtain ⟨A_,c_,e_⟩:=Kd.R_slice aV.out;subst e_;(first|(go_simp;done)|(go_simp;rfl)))|(obtain ⟨A_,c_,e_⟩:=Kd.S_slice aV.out;subst e_;(first|(go_simp;done)|(go_simp;rfl)))|(obtain ⟨A_,c_,e_⟩:=Kd.R_slice aN.out;subst e_;(first|(go_simp;done)|(go_simp;rfl)))|(obtain ⟨A_,c_,e_⟩:=Kd.S_slice aN.out;subst e_;(first|(go_simp;done)|(go_simp;rfl)))|(obtain ⟨A_,c_,e_⟩:=Kd.R_slice aT.out;subst e_;(first|(go_simp;done)|(go_simp;rfl)))|(obtain ⟨A_,c_,e_⟩:=Kd.S_slice aT.out;subst e_;(first|(go_simp;done)|(go_simp;rfl))));(case hp=>exact (Reps.c4 (show Kd.M k86 _ _ _ (⟨a1,a2,a3,20⟩:S86) [.int .i64 a1,.int .i64 a2,.int .i64 a3,.int .i64 20] from (k86_mkM _ _ _ (⟨a1,a2,a3,20⟩:S86) )) (Reps.none _ _)));intro fA fY ho39 hb hg_ hnew_;clear hg_ hnew_;(first|rw [← cG.out] at ho39|(simp only [Int.reduceToNat] at ho39;rw [← cG.out] at ho39));have aV:=aM (Kd.R_lower (Kd.R_newB (Kd.R_new' (Kd.R_new' (Kd.R_new' ho39 (Kd.R_lt (kr aC.out))) (Kd.R_lt (kr aK.out))) (Kd.R_lt (kr aQ.out))) (g:=aI) (o:=.cells #[a1,a2,a3,.int .i64 20] 86 (0,0)) (bk aA.out)) (below_size (bl HB.out)));replace aC:=aM (Kd.R_elder' (kr aC.out) (Kd.R_base ho39) hb);replace aE:=aM (Kd.V_elder' (by (with_reducible repeat (first|apply Kd.V_alloc|apply Kd.V_drewN|apply Kd.V_drew));exact aE.out) (Kd.R_base ho39) hb);replace aG:=aM (Kd.V_elder' (by (with_reducible repeat (first|apply Kd.V_alloc|apply Kd.V_drewN|apply Kd.V_drew));exact aG.out) (Kd.R_base ho39) hb);replace aK:=aM (Kd.R_elder' (kr aK.out) (Kd.R_base ho39) hb);replace aQ:=aM (Kd.R_elder' (kr aQ.out) (Kd.R_base ho39) hb);replace aA:=rB aA hb;replace HB:=rS HB hb;clear hb ho39;obtain ⟨dP,dQ,fB⟩:=Kd.R_slice aK.out;subst fB;obtain ⟨dR,dS,fC⟩:=Kd.R_slice aV.out;subst fC;obtain ⟨dU,dV,fD⟩:=Kd.R_slice aQ.out;subst fD)|((with_reducible refine gD (N:=50) rfl ?_);refine Kd.N_lit (Kd.slice 86 k86) _ 33 ?hg (N':=50) ?hd (xs:=([bJ,bM,bI]:List (List (S86)))) (inner:=[.slice dP bJ.length dQ,.slice dR bM.length dS,.slice dU bI.length dV]) (ok:=(fun k_=>some k_≠(.slice bG aD.length aX:Value).ownBlock∧k_≠aI)) (okp:=(fun k_=>some k_≠(.slice bG aD.length aX:Value).ownBlock∧k_≠aI)) ?hr ?hp (fun _ hk=>hk) ((show ∀ k_,fY.heap.size≤k_→(fun k_=>some k_≠(.slice bG aD.length aX:Value).ownBlock∧k_≠aI) k_ from fun k_ hk=>⟨Kd.fresh' (Kd.R_lt (kr aC.out)) k_ hk,Kd.freshB (g:=aI) (o:=.cells #[a1,a2,a3,.int .i64 20] 86 (0,0)) (bk aA.out) k_ hk⟩) _ (Nat.le_refl _)) (Below.refl _ _) (Nat.le_refl _) (by simp) ?_;(case hd=>rfl);(case hg=>rfl);(case hr=>first|(go_simp;done)|(go_simp;rfl)|(obtain ⟨A_,c_,e_⟩:=Kd.R_slice aC.out;subst e_;(first|(go_simp;done)|(go_simp;rfl)))|(obtain ⟨A_,c_,e_⟩:=Kd.S_slice aC.out;subst e_;(first|(go_simp;done)|(go_simp;rfl)))|(obtain ⟨A_,c_,e_⟩:=Kd.R_slice aE.out;subst e_;(first|(go_simp;done)|(go_simp;rfl)))|(obtain ⟨A_,c_,e_⟩:=Kd.S_slice aE.out;subst e_;(first|(go_simp;done)|(go_simp;rfl)))|(obtain ⟨A_,c_,e_⟩:=Kd.R_slice aG.out;subst e_;(first|(go_simp;done)|(go_simp;rfl)))|(obtain ⟨A_,c_,e_⟩:=Kd.S_slice aG.out;subst e_;(first|(go_simp;done)|(go_simp;rfl)))|(obtain ⟨A_,c_,e_⟩:=Kd.R_slice aK.out;subst e_;(first|(go_simp;done)|(go_simp;rfl)))|(obtain ⟨A_,c_,e_⟩:=Kd.S_slice aK.out;subst e_;(first|(go_simp;done)|(go_simp;rfl)))|(obtain ⟨A_,c_,e_⟩:=Kd.R_slice aQ.out;subst e_;(first|(go_simp;done)|(go_simp;rfl)))|(obtain ⟨A_,c_,e_⟩:=Kd.S_slice aQ.out;subst e_;(first|(go_simp;done)|(go_simp;rfl)))|(obtain ⟨A_,c_,e_⟩:=Kd.R_slice aV.out;subst e_;(first|(go_simp;done)|(go_simp;rfl)))|(obtain ⟨A_,c_,e_⟩:=Kd.S_slice aV.out;subst e_;(first|(go_simp;done)|(go_simp;rfl)))|(obtain ⟨A_,c_,e_⟩:=Kd.R_slice aN.out;subst e_;(first|(go_simp;done)|(go_simp;rfl)))|(obtain ⟨A_,c_,e_⟩:=Kd.S_slice aN.out;subst e_;(first|(go_simp;done)|(go_simp;rfl)))|(obtain ⟨A_,c_,e_⟩:=Kd.R_slice aT.out;subst e_;(first|(go_simp;done)|(go_simp;rfl)))|(obtain ⟨A_,c_,e_⟩:=Kd.S_slice aT.out;subst e_;(first|(go_simp;done)|(go_simp;rfl))));(case hp=>exact (Reps.one (show Kd.FK (Kd.slice 86 k86) _ _ bJ [.slice dP bJ.length dQ] from (Kd.FK_slice_mk (Kd.R_reads' (Kd.R_mono (ok':=(fun k_=>some k_≠(.slice bG aD.length aX:Value).ownBlock∧k_≠aI)) (aK.out) (fun k_ hk=>⟨hk.1.1.1.2,hk.1.1.2⟩))).2.1 (Kd.R_F (Kd.R_mono (ok':=(fun k_=>some k_≠(.slice bG aD.length aX:Value).ownBlock∧k_≠aI)) (aK.out) (fun k_ hk=>⟨hk.1.1.1.2,hk.1.1.2⟩))))) (Reps.one (show Kd.FK (Kd.slice 86 k86) _ _ bM [.slice dR bM.length dS] from (Kd.FK_slice_mk (Kd.R_reads' (Kd.R_mono (ok':=(fun k_=>some k_≠(.slice bG aD.length aX:Value).ownBlock∧k_≠aI)) (aV.out) (fun k_ hk=>⟨hk.1.1.1.2,hk.2⟩))).2.1 (Kd.R_F (Kd.R_mono (ok':=(fun k_=>some k_≠(.slice bG aD.length aX:Value).ownBlock∧k_≠aI)) (aV.out) (fun k_ hk=>⟨hk.1.1.1.2,hk.2⟩))))) (Reps.one (show Kd.FK (Kd.slice 86 k86) _ _ bI [.slice dU bI.length dV] from (Kd.FK_slice_mk (Kd.R_reads' (Kd.R_mono (ok':=(fun k_=>some k_≠(.slice bG aD.length aX:Value).ownBlock∧k_≠aI)) (aQ.out) (fun k_ hk=>⟨hk.1.1.1.2,hk.1.2⟩))).2.1 (Kd.R_F (Kd.R_mono (ok':=(fun k_=>some k_≠(.slice bG aD.length aX:Value).ownBlock∧k_≠aI)) (aQ.out) (fun k_ hk=>⟨hk.1.1.1.2,hk.1.2⟩))))) (Reps.none _ _)))));intro fE iF ho44 hb hg_ hnew_;clear hg_ hnew_;(first|rw [← cH.out] at ho44|(simp only [Int.reduceToNat] at ho44;rw [← cH.out] at ho44));have aN:=aM (Kd.N_lower ho44 (below_size (bl HB.out)));replace aC:=rK aC hb;replace aE:=aM (Kd.V_elder' (by (with_reducible repeat (first|apply Kd.V_alloc|apply Kd.V_drewN|apply Kd.V_drew));exact aE.out) (Kd.N_base ho44) hb);replace aG:=aM (Kd.V_elder' (by (with_reducible repeat (first|apply Kd.V_alloc|apply Kd.V_drewN|apply Kd.V_drew));exact aG.out) (Kd.N_base ho44) hb);replace aA:=rB aA hb;replace HB:=rS HB hb;clear aK aQ aV;clear hb ho44;obtain ⟨fF,fG,fH⟩:=Kd.N_slice aN.out;subst fH)|((with_reducible refine gC (f:=73) rfl ?_);refine gL (some 51) Try.func73 #[.slice fF cL.length fG] ?_;(with_reducible refine (Y3.calls bK _ _ cL bD _ ?side1 ?side2 eU.out).mono ?_);(case side1=>exact cM ((Kd.N_reads' aN.out).2.2));(case side2=>exact (Kd.N_reads' aN.out).2.1);rintro e iG ⟨fI,rfl,ho0,hb⟩;refine ⟨_,rfl,?_⟩;have aT:=aM (Kd.R_lower (Kd.R_newB (Kd.R_new' ho0 (Kd.R_lt (kr aC.out))) (g:=aI) (o:=.cells #[a1,a2,a3,.int .i64 20] 86 (0,0)) (bk aA.out)) (below_size (bl HB.out)));replace aC:=aM (Kd.R_elder' (kr aC.out) (Kd.R_base ho0) hb);replace aE:=aM (Kd.V_elder' (by (with_reducible repeat (first|apply Kd.V_alloc|apply Kd.V_drewN|apply Kd.V_drew));exact aE.out) (Kd.R_base ho0) hb);replace aG:=aM (Kd.V_elder' (by (with_reducible repeat (first|apply Kd.V_alloc|apply Kd.V_drewN|apply Kd.V_drew));exact aG.out) (Kd.R_base ho0) hb);replace aN:=aM (Kd.N_elder' (by (with_reducible repeat (first|apply Kd.N_alloc|apply Kd.N_drewN|apply Kd.N_drew));exact aN.out) (Kd.R_base ho0) hb);replace aA:=rB aA hb;replace HB:=rS HB hb;(repeat first|clear hb|clear ho0);obtain ⟨fK,fL,fM⟩:=Kd.R_slice aT.out;subst fM)|((with_reducible refine gC (f:=67) rfl ?_);refine gL (some 53) Try.func67 #[.slice fK bD.length fL] ?_;(with_reducible refine (Y4.calls bK _ _ bD true _ ?side1 ?side2 eV.out).mono ?_);(case side1=>exact cM ((Kd.R_reads' aT.out).2.2));(case side2=>exact (Kd.R_reads' aT.out).2.1);rintro e iH ⟨rfl,hb⟩;refine ⟨_,rfl,?_⟩;replace aC:=rK aC hb;replace aE:=aM (Kd.V_below (by (with_reducible repeat (first|apply Kd.V_alloc|apply Kd.V_drewN|apply Kd.V_drew));exact aE.out) hb);replace aG:=aM (Kd.V_below (by (with_reducible repeat (first|apply Kd.V_alloc|apply Kd.V_drewN|apply Kd.V_drew));exact aG.out) hb);replace aN:=aM (Kd.N_below (by (with_reducible repeat (first|apply Kd.N_alloc|apply Kd.N_drewN|apply Kd.N_drew));exact aN.out) hb);replace aT:=rK aT hb;replace aA:=rB aA hb;replace HB:=rS HB hb;(try clear hb)))
    go_ret
    exact ⟨_,xW,by (with_reducible repeat (first|apply Kd.R_alloc|apply Kd.R_drewN|apply Kd.R_drew));exact Kd.R_mono aT.out (fun _ hk=>trivial),bl HB.out⟩
   replace cX:=Bool.eq_false_iff.mpr cX;subst cX;replace H:=hF H;obtain ⟨bU,dW,H⟩:=hB H;have gA:=aM dW;clear dW;obtain rfl:=Option.some.inj H
   try go_wp2
   replace aC:=aM (Kd.R_drew aC.out);replace aA:=aM (blk_drew aA.out);replace HB:=aM (below_drew1 HB.out);obtain ⟨bH,bA,dX⟩:=Kd.R_slice aC.out
   (first|subst dX|(injection dX with f1_ f2_ f3_;have f4_:=f1_.symm;have f5_:=f3_.symm;clear f1_ f2_ f3_;subst f4_;subst f5_))
   have dY:(aH:Int)≤((aD.length:Int):Int):=dT;obtain ⟨i051,hi051,_,hsz51,_⟩:=info_parts info86;have hroom51:aD.length≤bA:=(Kd.R_reads' aC.out).2.1;have hC51:Kd.F k86 _ _ bH aD.length aD:=(Kd.V_at (base:=w.heap.size) (Kd.R_V aC.out)).2.2;have hcut51:=cut_to (P:=Try.prog) 33 86 .i64 Try.underlying33 hi051 bH aD.length bA aH (dT) dY hroom51;have hr51:=Kd.F_take (m:=(aH:Int).toNat) hC51 (by omega)
   have cV:bL.length=(aH:Int).toNat:=(by rw [cD.out,List.length_take];omega)
   rw [← cD.out] at hr51
   rw [← cV] at hcut51
   have aE:=aM (show Kd.V k86 86 _ w.heap.size _ (.slice bH bL.length bA) bL from Kd.V_mk (by omega) hr51)
   have eK:=aM (show bL.length≤bA from by omega)
   clear hr51 hC51 hroom51 hi051 hsz51;have KY51:=aM cV;clear cV;replace dY:=eq_true dY;have dZ:(aH:Int)≤((aD.length:Int):Int):=dT;obtain ⟨i053,hi053,_,hsz53,_⟩:=info_parts info86;have hroom53:aD.length≤bA:=(Kd.R_reads' aC.out).2.1;have hC53:Kd.F k86 _ _ bH aD.length aD:=(Kd.V_at (base:=w.heap.size) (Kd.R_V aC.out)).2.2;have fN:(0:Int)≤(aH:Int):=dT;have hcut53:=cut_from (P:=Try.prog) 33 86 .i64 Try.underlying33 hi053 4 hsz53 bH aD.length bA aH fN dZ;have hr53:=Kd.F_cut (m:=(aH:Int).toNat) (c:=bA) hC53 (by omega) hroom53
   obtain ⟨eA,hA53⟩:∃ A1,A1=(if bA=(aH:Int).toNat then bH else (bH:Option Addr).map (·.add ((aH:Int).toNat*4))):=⟨_,rfl⟩;obtain ⟨eB,hc53⟩:∃ c1,c1=bA - (aH:Int).toNat:=⟨_,rfl⟩;have cO:aW.length=aD.length - (aH:Int).toNat:=(by rw [cE.out,List.length_drop] <;> omega)
   rw [show (aD).drop (aH:Int).toNat=aW from cE.out.symm] at hr53
   replace hr53:Kd.F k86 _ _ eA aW.length aW:=(by rw [hA53];exact hr53)
   rw [← cO,← hA53,← hc53] at hcut53
   have aG:=aM (show Kd.V k86 86 _ w.heap.size _ (.slice eA aW.length eB) aW from Kd.V_mk (by rw [cO,hc53];exact Nat.sub_le_sub_right hroom53 _) hr53)
   have eL:=aM (show aW.length≤eB from by rw [cO,hc53];exact Nat.sub_le_sub_right hroom53 _)
   clear hr53 hC53 hroom53 hi053 hsz53 hc53;have KY53:=aM cO;have KA53:=aM hA53;clear cO hA53;replace dZ:=eq_true dZ;refine start_ (n:=14) (S:=fun w'=>True) (ds:=[]) (dn 14 0) (by kernel_rfl) rfl rfl trivial (fun hHeld=>?_);refine with_tabW Y6.tab6 Y6.bits6 (fun HT_ HW_=>?_)
   generalize wc.drew=iI at aC aA HB aE aG hHeld ⊢
   refine nY (N:=some 34) HT_ ?_;refine nY (N:=some 35) HT_ ?_;refine nY (N:=some 36) HT_ ?_;refine nY (N:=some 37) HT_ ?_;refine nY (N:=some 38) HT_ ?_;refine pZ 6 40 (bv 14 95) HT_ ?_;refine pZ 7 41 (bv 14 223) HT_ ?_;refine pZ 8 42 (bv 14 479) HT_ ?_;refine pZ 9 43 (bv 14 991) HT_ ?_;refine pZ 10 44 (bv 14 2015) HT_ ?_;refine one_ (i:=5) (N:=some 39) (bv 14 2047) rfl rfl (one_of HT_.out (by kernel_rfl)) (by decide) (fun K hK=>?_)
   refine goes_ Try.func72 (by kernel_rfl) rfl #[.slice bH bL.length bA,a1,a2] (by rfl) rfl rfl xR ?_
   with_reducible refine (Y15.calls bK _ _ bL a1 a2 bJ _ ?side1 ?side2 eS.out).mono ?_
   (case side1=>exact cM ((Kd.V_reads' aE.out).2.2))
   (case side2=>exact (Kd.V_reads' aE.out).2.1)
   rintro e iJ ⟨eY,rfl,ho0,hb⟩;refine ⟨_,rfl,?_⟩;have aK:=aM (Kd.R_lower (Kd.R_newB (Kd.R_new' ho0 (Kd.R_lt (kr aC.out))) (g:=aI) (o:=.cells #[a1,a2,a3,.int .i64 20] 86 (0,0)) (bk aA.out)) (below_size (bl HB.out)));replace aC:=aM (Kd.R_elder' (kr aC.out) (Kd.R_base ho0) hb);replace aE:=aM (Kd.V_elder' (by (with_reducible repeat (first|apply Kd.V_alloc|apply Kd.V_drewN|apply Kd.V_drew));exact aE.out) (Kd.R_base ho0) hb)
   replace aG:=aM (Kd.V_elder' (by (with_reducible repeat (first|apply Kd.V_alloc|apply Kd.V_drewN|apply Kd.V_drew));exact aG.out) (Kd.R_base ho0) hb)
   replace aA:=rB aA hb;replace HB:=rS HB hb
   (try clear hb)
   (try clear hb2)
   (try clear hk)
   (try clear hi)
   (try clear ho0)
   refine hK.out _ _ trivial (fun hHeld=>?_)
   clear hK K;refine norm_ (a':=?_) ?_ ?_;rotate_left
   ·show Act.put _ (some 39) _=_
    simp only [Act.put,sA,sZ,sS,i64_w,i32_w]
    rfl
   refine one_ (i:=11) (N:=some 45) (bv 14 4095) rfl rfl (one_of HT_.out (by kernel_rfl)) (by decide) (fun K hK=>?_)
   refine goes_ Try.func72 (by kernel_rfl) rfl #[.slice eA aW.length eB,a1,a2] (by rfl) rfl rfl xR ?_
   with_reducible refine (Y15.calls bK _ _ aW a1 a2 bI _ ?side1 ?side2 eT.out).mono ?_
   (case side1=>exact cM ((Kd.V_reads' aG.out).2.2))
   (case side2=>exact (Kd.V_reads' aG.out).2.1)
   rintro e iK ⟨eZ,rfl,ho0,hb⟩;refine ⟨_,rfl,?_⟩;have aQ:=aM (Kd.R_lower (Kd.R_newB (Kd.R_new' (Kd.R_new' ho0 (Kd.R_lt (kr aC.out))) (Kd.R_lt (kr aK.out))) (g:=aI) (o:=.cells #[a1,a2,a3,.int .i64 20] 86 (0,0)) (bk aA.out)) (below_size (bl HB.out)));replace aC:=aM (Kd.R_elder' (kr aC.out) (Kd.R_base ho0) hb);replace aE:=aM (Kd.V_elder' (by (with_reducible repeat (first|apply Kd.V_alloc|apply Kd.V_drewN|apply Kd.V_drew));exact aE.out) (Kd.R_base ho0) hb)
   replace aG:=aM (Kd.V_elder' (by (with_reducible repeat (first|apply Kd.V_alloc|apply Kd.V_drewN|apply Kd.V_drew));exact aG.out) (Kd.R_base ho0) hb)
   replace aK:=aM (Kd.R_elder' (kr aK.out) (Kd.R_base ho0) hb);replace aA:=rB aA hb;replace HB:=rS HB hb
   (try clear hb)
   (try clear hb2)
   (try clear hk)
   (try clear hi)
   (try clear ho0)
   refine hK.out _ _ trivial (fun hHeld=>?_)
   clear hK K;refine norm_ (a':=?_) ?_ ?_;rotate_left
   ·show Act.put _ (some 45) _=_
    simp only [Act.put,sA,sZ,sS,i64_w,i32_w]
    rfl
   refine pZ 12 12 (bv 14 8191) HT_ ?_;refine pZ 13 13 (bv 14 16383) HT_ ?_;refine done_ (done_of HT_.out (by kernel_rfl)) ?_
   have gR:=cA4 aA.out
   try go_wp2_with (first|((with_reducible refine gD (N:=48) rfl ?_);refine Kd.R_lit k86 _ 86 ?hg (N:=48) ?hd (xs:=([(⟨a1,a2,a3,20⟩:S86)]:List (S86))) (inner:=[.int .i64 a1,.int .i64 a2,.int .i64 a3,.int .i64 20]) (ok:=fun _=>True) (okp:=fun _=>True) ?hr ?hp (fun _ hk=>hk) trivial (Below.refl _ _) (Nat.le_refl _) (by simp) ?_;(case hd=>rfl);(case hg=>rfl);(case hr=>first|(go_simp;done)|(go_simp;rfl)|(obtain ⟨A_,c_,e_⟩:=Kd.R_slice aC.out;subst e_;(first|(go_simp;done)|(go_simp;rfl)))|(obtain ⟨A_,c_,e_⟩:=Kd.S_slice aC.out;subst e_;(first|(go_simp;done)|(go_simp;rfl)))|(obtain ⟨A_,c_,e_⟩:=Kd.R_slice aE.out;subst e_;(first|(go_simp;done)|(go_simp;rfl)))|(obtain ⟨A_,c_,e_⟩:=Kd.S_slice aE.out;subst e_;(first|(go_simp;done)|(go_simp;rfl)))|(obtain ⟨A_,c_,e_⟩:=Kd.R_slice aG.out;subst e_;(first|(go_simp;done)|(go_simp;rfl)))|(obtain ⟨A_,c_,e_⟩:=Kd.S_slice aG.out;subst e_;(first|(go_simp;done)|(go_simp;rfl)))|(obtain ⟨A_,c_,e_⟩:=Kd.R_slice aK.out;subst e_;(first|(go_simp;done)|(go_simp;rfl)))|(obtain ⟨A_,c_,e_⟩:=Kd.S_slice aK.out;subst e_;(first|(go_simp;done)|(go_simp;rfl)))|(obtain ⟨A_,c_,e_⟩:=Kd.R_slice aQ.out;subst e_;(first|(go_simp;done)|(go_simp;rfl)))|(obtain ⟨A_,c_,e_⟩:=Kd.S_slice aQ.out;subst e_;(first|(go_simp;done)|(go_simp;rfl)))|(obtain ⟨A_,c_,e_⟩:=Kd.R_slice aV.out;subst e_;(first|(go_simp;done)|(go_simp;rfl)))|(obtain ⟨A_,c_,e_⟩:=Kd.S_slice aV.out;subst e_;(first|(go_simp;done)|(go_simp;rfl)))|(obtain ⟨A_,c_,e_⟩:=Kd.R_slice aN.out;subst e_;(first|(go_simp;done)|(go_simp;rfl)))|(obtain ⟨A_,c_,e_⟩:=Kd.S_slice aN.out;subst e_;(first|(go_simp;done)|(go_simp;rfl)))|(obtain ⟨A_,c_,e_⟩:=Kd.R_slice aT.out;subst e_;(first|(go_simp;done)|(go_simp;rfl)))|(obtain ⟨A_,c_,e_⟩:=Kd.S_slice aT.out;subst e_;(first|(go_simp;done)|(go_simp;rfl))));(case hp=>exact (Reps.c4 (show Kd.M k86 _ _ _ (⟨a1,a2,a3,20⟩:S86) [.int .i64 a1,.int .i64 a2,.int .i64 a3,.int .i64 20] from (k86_mkM _ _ _ (⟨a1,a2,a3,20⟩:S86) )) (Reps.none _ _)));intro fA gB ho58 hb hg_ hnew_;clear hg_ hnew_;(first|rw [← cG.out] at ho58|(simp only [Int.reduceToNat] at ho58;rw [← cG.out] at ho58));have aV:=aM (Kd.R_lower (Kd.R_newB (Kd.R_new' (Kd.R_new' (Kd.R_new' ho58 (Kd.R_lt (kr aC.out))) (Kd.R_lt (kr aK.out))) (Kd.R_lt (kr aQ.out))) (g:=aI) (o:=.cells #[a1,a2,a3,.int .i64 20] 86 (0,0)) (bk aA.out)) (below_size (bl HB.out)));replace aC:=aM (Kd.R_elder' (kr aC.out) (Kd.R_base ho58) hb);replace aE:=aM (Kd.V_elder' (by (with_reducible repeat (first|apply Kd.V_alloc|apply Kd.V_drewN|apply Kd.V_drew));exact aE.out) (Kd.R_base ho58) hb);replace aG:=aM (Kd.V_elder' (by (with_reducible repeat (first|apply Kd.V_alloc|apply Kd.V_drewN|apply Kd.V_drew));exact aG.out) (Kd.R_base ho58) hb);replace aK:=aM (Kd.R_elder' (kr aK.out) (Kd.R_base ho58) hb);replace aQ:=aM (Kd.R_elder' (kr aQ.out) (Kd.R_base ho58) hb);replace aA:=rB aA hb;replace HB:=rS HB hb;clear hb ho58;obtain ⟨eC,eD,fO⟩:=Kd.R_slice aK.out;subst fO;obtain ⟨eE,eF,fP⟩:=Kd.R_slice aV.out;subst fP;obtain ⟨eG,eH,fQ⟩:=Kd.R_slice aQ.out;subst fQ)|((with_reducible refine gD (N:=50) rfl ?_);refine Kd.N_lit (Kd.slice 86 k86) _ 33 ?hg (N':=50) ?hd (xs:=([bJ,bM,bI]:List (List (S86)))) (inner:=[.slice eC bJ.length eD,.slice eE bM.length eF,.slice eG bI.length eH]) (ok:=(fun k_=>some k_≠(.slice bH aD.length bA:Value).ownBlock∧k_≠aI)) (okp:=(fun k_=>some k_≠(.slice bH aD.length bA:Value).ownBlock∧k_≠aI)) ?hr ?hp (fun _ hk=>hk) ((show ∀ k_,gB.heap.size≤k_→(fun k_=>some k_≠(.slice bH aD.length bA:Value).ownBlock∧k_≠aI) k_ from fun k_ hk=>⟨Kd.fresh' (Kd.R_lt (kr aC.out)) k_ hk,Kd.freshB (g:=aI) (o:=.cells #[a1,a2,a3,.int .i64 20] 86 (0,0)) (bk aA.out) k_ hk⟩) _ (Nat.le_refl _)) (Below.refl _ _) (Nat.le_refl _) (by simp) ?_;(case hd=>rfl);(case hg=>rfl);(case hr=>first|(go_simp;done)|(go_simp;rfl)|(obtain ⟨A_,c_,e_⟩:=Kd.R_slice aC.out;subst e_;(first|(go_simp;done)|(go_simp;rfl)))|(obtain ⟨A_,c_,e_⟩:=Kd.S_slice aC.out;subst e_;(first|(go_simp;done)|(go_simp;rfl)))|(obtain ⟨A_,c_,e_⟩:=Kd.R_slice aE.out;subst e_;(first|(go_simp;done)|(go_simp;rfl)))|(obtain ⟨A_,c_,e_⟩:=Kd.S_slice aE.out;subst e_;(first|(go_simp;done)|(go_simp;rfl)))|(obtain ⟨A_,c_,e_⟩:=Kd.R_slice aG.out;subst e_;(first|(go_simp;done)|(go_simp;rfl)))|(obtain ⟨A_,c_,e_⟩:=Kd.S_slice aG.out;subst e_;(first|(go_simp;done)|(go_simp;rfl)))|(obtain ⟨A_,c_,e_⟩:=Kd.R_slice aK.out;subst e_;(first|(go_simp;done)|(go_simp;rfl)))|(obtain ⟨A_,c_,e_⟩:=Kd.S_slice aK.out;subst e_;(first|(go_simp;done)|(go_simp;rfl)))|(obtain ⟨A_,c_,e_⟩:=Kd.R_slice aQ.out;subst e_;(first|(go_simp;done)|(go_simp;rfl)))|(obtain ⟨A_,c_,e_⟩:=Kd.S_slice aQ.out;subst e_;(first|(go_simp;done)|(go_simp;rfl)))|(obtain ⟨A_,c_,e_⟩:=Kd.R_slice aV.out;subst e_;(first|(go_simp;done)|(go_simp;rfl)))|(obtain ⟨A_,c_,e_⟩:=Kd.S_slice aV.out;subst e_;(first|(go_simp;done)|(go_simp;rfl)))|(obtain ⟨A_,c_,e_⟩:=Kd.R_slice aN.out;subst e_;(first|(go_simp;done)|(go_simp;rfl)))|(obtain ⟨A_,c_,e_⟩:=Kd.S_slice aN.out;subst e_;(first|(go_simp;done)|(go_simp;rfl)))|(obtain ⟨A_,c_,e_⟩:=Kd.R_slice aT.out;subst e_;(first|(go_simp;done)|(go_simp;rfl)))|(obtain ⟨A_,c_,e_⟩:=Kd.S_slice aT.out;subst e_;(first|(go_simp;done)|(go_simp;rfl))));(case hp=>exact (Reps.one (show Kd.FK (Kd.slice 86 k86) _ _ bJ [.slice eC bJ.length eD] from (Kd.FK_slice_mk (Kd.R_reads' (Kd.R_mono (ok':=(fun k_=>some k_≠(.slice bH aD.length bA:Value).ownBlock∧k_≠aI)) (aK.out) (fun k_ hk=>⟨hk.1.1.1.2,hk.1.1.2⟩))).2.1 (Kd.R_F (Kd.R_mono (ok':=(fun k_=>some k_≠(.slice bH aD.length bA:Value).ownBlock∧k_≠aI)) (aK.out) (fun k_ hk=>⟨hk.1.1.1.2,hk.1.1.2⟩))))) (Reps.one (show Kd.FK (Kd.slice 86 k86) _ _ bM [.slice eE bM.length eF] from (Kd.FK_slice_mk (Kd.R_reads' (Kd.R_mono (ok':=(fun k_=>some k_≠(.slice bH aD.length bA:Value).ownBlock∧k_≠aI)) (aV.out) (fun k_ hk=>⟨hk.1.1.1.2,hk.2⟩))).2.1 (Kd.R_F (Kd.R_mono (ok':=(fun k_=>some k_≠(.slice bH aD.length bA:Value).ownBlock∧k_≠aI)) (aV.out) (fun k_ hk=>⟨hk.1.1.1.2,hk.2⟩))))) (Reps.one (show Kd.FK (Kd.slice 86 k86) _ _ bI [.slice eG bI.length eH] from (Kd.FK_slice_mk (Kd.R_reads' (Kd.R_mono (ok':=(fun k_=>some k_≠(.slice bH aD.length bA:Value).ownBlock∧k_≠aI)) (aQ.out) (fun k_ hk=>⟨hk.1.1.1.2,hk.1.2⟩))).2.1 (Kd.R_F (Kd.R_mono (ok':=(fun k_=>some k_≠(.slice bH aD.length bA:Value).ownBlock∧k_≠aI)) (aQ.out) (fun k_ hk=>⟨hk.1.1.1.2,hk.1.2⟩))))) (Reps.none _ _)))));intro fE iL ho63 hb hg_ hnew_;clear hg_ hnew_;(first|rw [← cH.out] at ho63|(simp only [Int.reduceToNat] at ho63;rw [← cH.out] at ho63));have aN:=aM (Kd.N_lower ho63 (below_size (bl HB.out)));replace aC:=rK aC hb;replace aE:=aM (Kd.V_elder' (by (with_reducible repeat (first|apply Kd.V_alloc|apply Kd.V_drewN|apply Kd.V_drew));exact aE.out) (Kd.N_base ho63) hb);replace aG:=aM (Kd.V_elder' (by (with_reducible repeat (first|apply Kd.V_alloc|apply Kd.V_drewN|apply Kd.V_drew));exact aG.out) (Kd.N_base ho63) hb);replace aA:=rB aA hb;replace HB:=rS HB hb;clear aK aQ aV;clear hb ho63;obtain ⟨fS,fT,fU⟩:=Kd.N_slice aN.out;subst fU)|((with_reducible refine gC (f:=73) rfl ?_);refine gL (some 51) Try.func73 #[.slice fS cL.length fT] ?_;(with_reducible refine (Y3.calls bK _ _ cL bD _ ?side1 ?side2 eU.out).mono ?_);(case side1=>exact cM ((Kd.N_reads' aN.out).2.2));(case side2=>exact (Kd.N_reads' aN.out).2.1);rintro e iM ⟨fI,rfl,ho0,hb⟩;refine ⟨_,rfl,?_⟩;have aT:=aM (Kd.R_lower (Kd.R_newB (Kd.R_new' ho0 (Kd.R_lt (kr aC.out))) (g:=aI) (o:=.cells #[a1,a2,a3,.int .i64 20] 86 (0,0)) (bk aA.out)) (below_size (bl HB.out)));replace aC:=aM (Kd.R_elder' (kr aC.out) (Kd.R_base ho0) hb);replace aE:=aM (Kd.V_elder' (by (with_reducible repeat (first|apply Kd.V_alloc|apply Kd.V_drewN|apply Kd.V_drew));exact aE.out) (Kd.R_base ho0) hb);replace aG:=aM (Kd.V_elder' (by (with_reducible repeat (first|apply Kd.V_alloc|apply Kd.V_drewN|apply Kd.V_drew));exact aG.out) (Kd.R_base ho0) hb);replace aN:=aM (Kd.N_elder' (by (with_reducible repeat (first|apply Kd.N_alloc|apply Kd.N_drewN|apply Kd.N_drew));exact aN.out) (Kd.R_base ho0) hb);replace aA:=rB aA hb;replace HB:=rS HB hb;(repeat first|clear hb|clear ho0);obtain ⟨fV,fW,fX⟩:=Kd.R_slice aT.out;subst fX)|((with_reducible refine gC (f:=67) rfl ?_);refine gL (some 53) Try.func67 #[.slice fV bD.length fW] ?_;(with_reducible refine (Y4.calls bK _ _ bD false _ ?side1 ?side2 eV.out).mono ?_);(case side1=>exact cM ((Kd.R_reads' aT.out).2.2));(case side2=>exact (Kd.R_reads' aT.out).2.1);rintro e iN ⟨rfl,hb⟩;refine ⟨_,rfl,?_⟩;replace aC:=rK aC hb;replace aE:=aM (Kd.V_below (by (with_reducible repeat (first|apply Kd.V_alloc|apply Kd.V_drewN|apply Kd.V_drew));exact aE.out) hb);replace aG:=aM (Kd.V_below (by (with_reducible repeat (first|apply Kd.V_alloc|apply Kd.V_drewN|apply Kd.V_drew));exact aG.out) hb);replace aN:=aM (Kd.N_below (by (with_reducible repeat (first|apply Kd.N_alloc|apply Kd.N_drewN|apply Kd.N_drew));exact aN.out) hb);replace aT:=rK aT hb;replace aA:=rB aA hb;replace HB:=rS HB hb;(try clear hb))|((with_reducible refine gC (f:=63) rfl ?_);refine gL (some 56) Try.func63 #[.slice A0 l0.length c0] ?_;(with_reducible refine (Y50.calls _ _ l0 bU _ ?side1 ?side2 gA.out).mono ?_);(case side1=>exact cM (cB eO.out HB.out));(case side2=>exact eP.out);rintro e iO ⟨hJ,rfl,ho0,hb⟩;refine ⟨_,rfl,?_⟩;have eM:=aM (Kd.R_lower (Kd.R_newB (Kd.R_new' (Kd.R_new' ho0 (Kd.R_lt (kr aC.out))) (Kd.R_lt (kr aT.out))) (g:=aI) (o:=.cells #[a1,a2,a3,.int .i64 20] 86 (0,0)) (bk aA.out)) (below_size (bl HB.out)));replace aC:=aM (Kd.R_elder' (kr aC.out) (Kd.R_base ho0) hb);replace aE:=aM (Kd.V_elder' (by (with_reducible repeat (first|apply Kd.V_alloc|apply Kd.V_drewN|apply Kd.V_drew));exact aE.out) (Kd.R_base ho0) hb);replace aG:=aM (Kd.V_elder' (by (with_reducible repeat (first|apply Kd.V_alloc|apply Kd.V_drewN|apply Kd.V_drew));exact aG.out) (Kd.R_base ho0) hb);replace aN:=aM (Kd.N_elder' (by (with_reducible repeat (first|apply Kd.N_alloc|apply Kd.N_drewN|apply Kd.N_drew));exact aN.out) (Kd.R_base ho0) hb);replace aT:=aM (Kd.R_elder' (kr aT.out) (Kd.R_base ho0) hb);replace aA:=rB aA hb;replace HB:=rS HB hb;(repeat first|clear hb|clear ho0)))
   go_ret
   exact ⟨_,xW,by (with_reducible repeat (first|apply Kd.R_alloc|apply Kd.R_drewN|apply Kd.R_drew));exact Kd.R_mono eM.out (fun _ hk=>trivial),bl HB.out⟩

end Go.Proofs.Ytfljolhhgheheaa.PFnExactPass

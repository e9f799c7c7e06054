/- A part of the proof of laws.FnCards. No condition beyond what its theorems say. -/
import Derived.Test.YtjodolkdelffaaaVFnCardsPx9
import Derived.Test.YtjodolkdelffaaaVFnCardsPx11
import Derived.Test.YtjodolkdelffaaaVFnCardsPx13
namespace Go.Proofs.Ytjodolkdelffaaa.PFnCards
open Go.RowKit Go.Proofs.YtjodolkdelffaaaW.PrintWords Go.Proofs.YtjodolkdelffaaaW.PrintLast Go.Proofs.YtjodolkdelffaaaW.PrintMore
set_option linter.unusedVariables false
set_option linter.unusedSimpArgs false

mutual
def Z8.j1:Nat→List (S72)→Int→Int→List (S72)→Int→Int→Int→Int→Int→Option ((List (S72)))
 | 0,_,_,_,_,_,_,_,_,_=>none
 | k+1,x0,x1,x2,aH,aA,aC,aD,aE,aG=>if 0≤aA then (if aA≤(aH.length:Int) then ((Z21.f k (aH.take (aA:Int).toNat) x1 x2).bind fun aJ=>((Z21.f k (aH.drop (aA:Int).toNat) x1 x2).bind fun aK=>((Z6.f k (([aJ,(([(⟨aC,aD,aE,aG⟩:S72)]:List (S72))),aK]:List (List (S72))))).bind fun aI=>((Z7.f k aI).bind fun aN=>(if aN=true then (some aI) else ((Z40.f x0).bind fun aQ=>(some aQ))))))) else (none)) else (none)
def Z8.l0:Nat→List (S72)→Int→Int→List (S72)→Int→Int→Int→Int→Int→Option ((List (S72)))
 | 0,_,_,_,_,_,_,_,_,_=>none
 | k+1,x0,x1,x2,aH,aG,aA,aC,aD,aE=>if aG<(aH.length:Int) then (if 0≤aG then ((Z52.f ((rd_T72 aH aG).f0) ((rd_T72 aH aG).f1) ((rd_T72 aH aG).f2) ((rd_T72 aH aG).f3) aA aC aD aE).bind fun aI=>(if aI=true then (Z8.l0 k x0 x1 x2 aH (wrap64 (aG+1)) aA aC aD aE) else (Z8.j1 k x0 x1 x2 aH aG aA aC aD aE))) else (none)) else (Z8.j1 k x0 x1 x2 aH aG aA aC aD aE)
end
def Z8.f (k:Nat) (l0:List (S72)) (a1 a2 a3:Int):Option ((List (S72))):=(Z40.f l0).bind fun aA=>(Z8.l0 k l0 a1 a2 aA 0 a1 a2 a3 20)
theorem Z8.mono_l:∀ k,(∀ y0 y1 y2 y3 y4 y5 y6 y7 y8,LeO (Z8.j1 k y0 y1 y2 y3 y4 y5 y6 y7 y8) (Z8.j1 (k+1) y0 y1 y2 y3 y4 y5 y6 y7 y8))∧(∀ y0 y1 y2 y3 y4 y5 y6 y7 y8,LeO (Z8.l0 k y0 y1 y2 y3 y4 y5 y6 y7 y8) (Z8.l0 (k+1) y0 y1 y2 y3 y4 y5 y6 y7 y8))
 | 0=>by refine ⟨?_,?_⟩ <;> intros <;> intro r h <;> simp [Z8.j1,Z8.l0] at h
 | k+1=>by
  obtain ⟨ih0,ih1⟩:=Z8.mono_l k;refine ⟨?_,?_⟩
  ·intro y0 y1 y2 y3 y4 y5 y6 y7 y8
   unfold Z8.j1
   repeat' (with_reducible first|apply Z6.mono|apply Z7.mono|apply Z21.mono|exact lR _|refine lI ?_ ?_|refine lB ?_ fun _=>?_)
  ·intro y0 y1 y2 y3 y4 y5 y6 y7 y8
   unfold Z8.l0
   repeat' (with_reducible first|apply ih0|apply ih1|exact lR _|refine lI ?_ ?_|refine lB ?_ fun _=>?_)
theorem Z8.mono:∀ a0 a1 a2 a3 k,LeO (Z8.f k a0 a1 a2 a3) (Z8.f (k+1) a0 a1 a2 a3):=by
 intro a0 a1 a2 a3 k;obtain ⟨ih0,ih1⟩:=Z8.mono_l k;unfold Z8.f
 repeat' (with_reducible first|apply ih1|exact lR _|refine lB ?_ fun _=>?_)
def Z8.T4:Bool × List (List Nat × List Nat):=(true,[([],[]),([],[]),([1],[1]),([0,2],[0,2]),([3],[3]),([4],[4]),([4],[4]),([5,6,4],[4,5,6]),([7,4],[4,7]),([4],[4]),([8,9,4,4],[4,8,9]),([4,10],[4,10])])
def Z8.B4:List Nat:=[0,0,2,7,15,31,31,127,255,31,1023,2047]
theorem Z8.tab4:rtab .any (opsOf Try.f28 4)=Z8.T4:=by kernel_rfl
theorem Z8.bits4:waitsOk Z8.T4.2 Z8.B4=true:=by kernel_rfl
def Z8.T6:Bool × List (List Nat × List Nat):=(true,[([],[]),([],[]),([0,1],[0,1]),([],[]),([],[]),([2,3,4],[2,3,4]),([],[]),([],[]),([6,7],[6,7]),([],[]),([],[]),([8,9,10,5],[8,9,10]),([5,11,0,1,2,3,4,5],[5]),([11,12,0,1,2,3,4,5,6,7,8,9,10,11,12],[11])])
def Z8.B6:List Nat:=[0,0,3,0,0,31,0,0,192,0,0,2047,4095,8191]
theorem Z8.tab6:rtab .any (opsOf Try.f28 6)=Z8.T6:=by kernel_rfl
theorem Z8.bits6:waitsOk Z8.T6.2 Z8.B6=true:=by kernel_rfl
set_option maxHeartbeats 60000000 in
set_option maxRecDepth 100000 in
theorem Z8.calls (k:Nat) (A0:Option Addr) (c0:Nat) (l0:List (S72)) (a1 a2 a3:Int) (r:List (S72)) (w:World) (hr0:Kd.C k72 w A0 l0.length l0) (hc0:l0.length≤c0) (h:Z8.f k l0 a1 a2 a3=some r) :
  Calls Try.prog 28 #[.slice A0 l0.length c0,a1,a2,a3] w fun e w'=>∃ eN:Value,e=.returned (eN)∧Kd.R k72 72 w' w.heap.size (fun _=>True) eN r∧Below w.heap.size w w':=by
 have eO:=aM hr0;have eP:=aM hc0;clear hr0 hc0;have HB:=aM (Below.refl w.heap.size w);have H:((Z40.f l0).bind fun aD=>(Z8.l0 k l0 a1 a2 aD 0 a1 a2 a3 20))=some r:=h
 clear h;obtain ⟨aD,eQ,H⟩:=hB H;have A5:=aM eQ;clear eQ;have cY:=aM H;clear H;go_enter Try.func28,Try.ntmps28
 go_upto_block 0 with (first|((with_reducible refine gD (N:=9) rfl ?_);refine bE (N:=9) (cs:=#[.int .i64 0,.int .i64 0,.int .i64 0,.int .i64 0]) (t:=72) ?_;intro aI hg w7 hbox hb;have aA:=aM (hbox);have gH:=gF hg HB;replace HB:=rS HB hb;clear hb hbox hg;have gT:=cA4 aA.out)|((with_reducible refine gC (f:=56) rfl ?_);refine gL (some 19) Try.func56 #[.slice A0 l0.length c0] ?_;(with_reducible refine (Z40.calls _ _ l0 aD _ ?side1 ?side2 A5.out).mono ?_);(case side1=>exact cB eO.out (bl HB.out));(case side2=>exact eP.out);rintro e w9 ⟨dA,rfl,ho0,hb⟩;refine ⟨_,rfl,?_⟩;have eI:=aM (Kd.R_lower (Kd.R_newB ho0 (g:=aI) (o:=.cells #[a1,a2,a3,.int .i64 20] 72 (0,0)) (bm aA.out)) (below_size (bl HB.out)));replace aA:=aM (bB (g:=aI) (o:=.cells #[a1,a2,a3,.int .i64 20] 72 (0,0)) (bm aA.out) hb);replace HB:=rS HB hb;(repeat first|clear hb|clear ho0)))
 go_cut [11] (fun dB wc=>∃ (kq:Nat) (aH:Int),dB=.int .i64 aH∧Aside0 (Z8.j1 kq l0 a1 a2 aD aH a1 a2 a3 20=some r)∧Aside0 (kq≤k)∧Aside0 (Kd.R k72 72 wc w.heap.size (fun k_=>k_≠aI) dA aD)∧Aside0 (wc.heap[aI]?=some (.cells #[a1,a2,a3,.int .i64 20] 72 (0,0)))∧Aside0 (Below w.heap.size w wc))
 case first =>
  have H:=cY.out;clear cY;have H':=aM H;clear H;go_wp2
  go_loopg [11] k (fun kq dB w'=>∃ (aJ:Int),dB=.int .i64 aJ∧Aside0 (Z8.l0 kq l0 a1 a2 aD aJ a1 a2 a3 20=some r)∧Aside0 (kq≤k)∧Aside0 (Kd.R k72 72 w' w.heap.size (fun k_=>k_≠aI) dA aD)∧Aside0 (w'.heap[aI]?=some (.cells #[a1,a2,a3,.int .i64 20] 72 (0,0)))∧Aside0 (Below w.heap.size w w'))
  case atStart=>exact ⟨(0),xE,H',⟨Nat.le_refl _⟩,⟨kr (Kd.R_mono eI.out (fun _ hk=>hk.2))⟩,⟨bk aA.out⟩,⟨bl HB.out⟩⟩
  case round =>
   clear H'
   repeat first|clear c2|clear p2|clear c5
   obtain ⟨aJ,rfl,HA,cW,aC,aA,HB⟩:=hrel;cases gk with
   | zero=>exact absurd HA.out (by simp [Z8.l0])
   | succ k1 =>
    have H:=HA.out;clear HA;simp only [Z8.l0] at H
    by_cases cK:aJ<(aD.length:Int)
    case neg =>
     rw [if_neg cK] at H
     have bX:=decide_eq_false cK;clear cK
     (skip)
     have H':=aM H;clear H
     try go_wp2
     replace aC:=aM (Kd.R_drew aC.out);replace aA:=aM (blk_drew aA.out);replace HB:=aM (below_drew1 HB.out);obtain ⟨gU,gV,dC⟩:=Kd.R_slice aC.out
     (subst dC)
     refine start_ (n:=12) (S:=fun w'=>True) (ds:=[]) (dn 12 0) (by kernel_rfl) rfl rfl trivial (fun hHeld=>?_);refine with_tabW Z8.tab4 Z8.bits4 (fun HT_ HW_=>?_)
     generalize wr.drew=hH at aC aA HB hHeld ⊢
     refine nY (N:=some 20) HT_ ?_;refine nY (N:=some 21) HT_ ?_;refine nY (N:=some 22) HT_ ?_;refine nY (N:=some 23) HT_ ?_;refine nY (N:=some 24) HT_ ?_;refine nU (N:=some 25) HT_ ?_;refine nU (N:=some 26) HT_ ?_;refine nU (N:=some 27) HT_ ?_;refine nU (N:=some 28) HT_ ?_;refine nU (N:=some 29) HT_ ?_;refine nU (N:=some 30) HT_ ?_;refine nY (N:=some 31) HT_ ?_;refine done_ (done_of HT_.out (by kernel_rfl)) ?_
     try go_wp2
     go_meet
     case rel=>exact ⟨_,(aJ),xE,H',⟨by have:=cW.out;omega⟩,⟨kr aC.out⟩,⟨bk aA.out⟩,⟨bl HB.out⟩⟩
    rw [if_pos cK] at H
    have bX:=decide_eq_true cK;clear cK
    (skip)
    obtain ⟨eJ,H⟩:=gI H;obtain ⟨eW,dD,H⟩:=hB H;have eR:=aM dD;clear dD
    by_cases cQ:eW=true
    case pos =>
     subst cQ;replace H:=hP H rfl;have H':=aM H;clear H
     try go_wp2
     replace aC:=aM (Kd.R_drew aC.out);replace aA:=aM (blk_drew aA.out);replace HB:=aM (below_drew1 HB.out);obtain ⟨gW,gX,dE⟩:=Kd.R_slice aC.out
     (subst dE)
     have bV:0≤(aJ:Int):=dT;have bW:aJ<(aD.length:Int):=dT;obtain ⟨cP,cT,bN,bO,bP,bQ⟩:=at_T72 (Kd.R_reads' aC.out).2.2 aJ bV bW;cases cT
     replace bV:=eq_true bV;replace bW:=eq_true bW;refine start_ (n:=12) (S:=fun w'=>cT4 w' aI (.int .i64 a1) (.int .i64 a2) (.int .i64 a3) (.int .i64 20) (cE72 w' cP (aJ).toNat (rd_T72 aD aJ))) (ds:=[]) (dn 12 0) (by kernel_rfl) rfl rfl ⟨cI aA.out 0,cI aA.out 1,cI aA.out 2,cI aA.out 3,bN,bO,bP,bQ⟩ (fun hHeld=>?_);refine with_tabW Z8.tab4 Z8.bits4 (fun HT_ HW_=>?_)
     generalize wr.drew=hJ at aC aA HB bN bO bP bQ hHeld ⊢
     refine nY (N:=some 20) HT_ ?_;refine nY (N:=some 21) HT_ ?_;refine nY (N:=some 22) HT_ ?_;refine nY (N:=some 23) HT_ ?_;refine nY (N:=some 24) HT_ ?_;refine nY (N:=some 25) HT_ ?_;refine nY (N:=some 26) HT_ ?_;refine nY (N:=some 27) HT_ ?_;refine tY (N:=some 28) HT_ HW_ hHeld ?_;refine tY (N:=some 29) HT_ HW_ hHeld ?_;refine oN (N:=some 30) HT_ (fun K hK=>?_)
     refine goes_ Try.func58 (by kernel_rfl) rfl #[.agg #[((rd_T72 aD aJ).f0),((rd_T72 aD aJ).f1),((rd_T72 aD aJ).f2),((rd_T72 aD aJ).f3)],.agg #[a1,a2,a3,.int .i64 20]] (by rfl) rfl rfl xR ?_
     with_reducible refine (Z52.calls ((rd_T72 aD aJ).f0) ((rd_T72 aD aJ).f1) ((rd_T72 aD aJ).f2) ((rd_T72 aD aJ).f3) a1 a2 a3 20 true _ eR.out).mono ?_
     rintro e hO ⟨rfl,hb⟩;have HS4_:=(hb.cell (World.block_lt_of_cell? _ _ (hHeld.2.2.2.2.1))).trans (hHeld.2.2.2.2.1);have HS5_:=(hb.cell (World.block_lt_of_cell? _ _ (hHeld.2.2.2.2.2.1))).trans (hHeld.2.2.2.2.2.1);have HS6_:=(hb.cell (World.block_lt_of_cell? _ _ (hHeld.2.2.2.2.2.2.1))).trans (hHeld.2.2.2.2.2.2.1);have HS7_:=(hb.cell (World.block_lt_of_cell? _ _ (hHeld.2.2.2.2.2.2.2))).trans (hHeld.2.2.2.2.2.2.2);refine ⟨_,rfl,?_⟩;replace aC:=rK aC hb;replace aA:=rB aA hb;replace HB:=rS HB hb
     (try clear hb)
     refine hK.out _ _ ⟨cI aA.out 0,cI aA.out 1,cI aA.out 2,cI aA.out 3,HS4_,HS5_,HS6_,HS7_⟩ (fun hHeld=>?_)
     clear hK K;refine norm_ (a':=?_) ?_ ?_;rotate_left
     ·show Act.put _ (some 30) _=_
      simp only [Act.put,sA,sZ,sS,i64_w,i32_w]
      rfl
     refine nY (N:=some 31) HT_ ?_;refine done_ (done_of HT_.out (by kernel_rfl)) ?_
     try go_wp2
     go_roundg k1
     case measure=>have:=cW.out;omega
     case rel=>exact ⟨(wS aJ),xE,H',⟨by have:=cW.out;omega⟩,⟨kr aC.out⟩,⟨bk aA.out⟩,⟨bl HB.out⟩⟩
    replace cQ:=Bool.eq_false_iff.mpr cQ;subst cQ;replace H:=hF H;have H':=aM H;clear H
    try go_wp2
    replace aC:=aM (Kd.R_drew aC.out);replace aA:=aM (blk_drew aA.out);replace HB:=aM (below_drew1 HB.out);obtain ⟨gY,gZ,dF⟩:=Kd.R_slice aC.out
    (subst dF)
    have bV:0≤(aJ:Int):=dT;have bW:aJ<(aD.length:Int):=dT;obtain ⟨cP,cT,bN,bO,bP,bQ⟩:=at_T72 (Kd.R_reads' aC.out).2.2 aJ bV bW;cases cT
    replace bV:=eq_true bV;replace bW:=eq_true bW;refine start_ (n:=12) (S:=fun w'=>cT4 w' aI (.int .i64 a1) (.int .i64 a2) (.int .i64 a3) (.int .i64 20) (cE72 w' cP (aJ).toNat (rd_T72 aD aJ))) (ds:=[]) (dn 12 0) (by kernel_rfl) rfl rfl ⟨cI aA.out 0,cI aA.out 1,cI aA.out 2,cI aA.out 3,bN,bO,bP,bQ⟩ (fun hHeld=>?_);refine with_tabW Z8.tab4 Z8.bits4 (fun HT_ HW_=>?_)
    generalize wr.drew=hU at aC aA HB bN bO bP bQ hHeld ⊢
    refine nY (N:=some 20) HT_ ?_;refine nY (N:=some 21) HT_ ?_;refine nY (N:=some 22) HT_ ?_;refine nY (N:=some 23) HT_ ?_;refine nY (N:=some 24) HT_ ?_;refine nY (N:=some 25) HT_ ?_;refine nY (N:=some 26) HT_ ?_;refine nY (N:=some 27) HT_ ?_;refine tY (N:=some 28) HT_ HW_ hHeld ?_;refine tY (N:=some 29) HT_ HW_ hHeld ?_;refine oN (N:=some 30) HT_ (fun K hK=>?_)
    refine goes_ Try.func58 (by kernel_rfl) rfl #[.agg #[((rd_T72 aD aJ).f0),((rd_T72 aD aJ).f1),((rd_T72 aD aJ).f2),((rd_T72 aD aJ).f3)],.agg #[a1,a2,a3,.int .i64 20]] (by rfl) rfl rfl xR ?_
    with_reducible refine (Z52.calls ((rd_T72 aD aJ).f0) ((rd_T72 aD aJ).f1) ((rd_T72 aD aJ).f2) ((rd_T72 aD aJ).f3) a1 a2 a3 20 false _ eR.out).mono ?_
    rintro e hY ⟨rfl,hb⟩;have HS4_:=(hb.cell (World.block_lt_of_cell? _ _ (hHeld.2.2.2.2.1))).trans (hHeld.2.2.2.2.1);have HS5_:=(hb.cell (World.block_lt_of_cell? _ _ (hHeld.2.2.2.2.2.1))).trans (hHeld.2.2.2.2.2.1);have HS6_:=(hb.cell (World.block_lt_of_cell? _ _ (hHeld.2.2.2.2.2.2.1))).trans (hHeld.2.2.2.2.2.2.1);have HS7_:=(hb.cell (World.block_lt_of_cell? _ _ (hHeld.2.2.2.2.2.2.2))).trans (hHeld.2.2.2.2.2.2.2);refine ⟨_,rfl,?_⟩;replace aC:=rK aC hb;replace aA:=rB aA hb;replace HB:=rS HB hb
    (try clear hb)
    refine hK.out _ _ ⟨cI aA.out 0,cI aA.out 1,cI aA.out 2,cI aA.out 3,HS4_,HS5_,HS6_,HS7_⟩ (fun hHeld=>?_)
    clear hK K;refine norm_ (a':=?_) ?_ ?_;rotate_left
    ·show Act.put _ (some 30) _=_
     simp only [Act.put,sA,sZ,sS,i64_w,i32_w]
     rfl
    refine nY (N:=some 31) HT_ ?_;refine done_ (done_of HT_.out (by kernel_rfl)) ?_
    try go_wp2
    go_meet
    case rel=>exact ⟨_,(aJ),xE,H',⟨by have:=cW.out;omega⟩,⟨kr aC.out⟩,⟨bk aA.out⟩,⟨bl HB.out⟩⟩
 case rest =>
  clear cY
  repeat first|clear c1|clear c2|clear p2|clear c5|clear p5|clear q5|clear p6|clear cK|clear bX|clear hZ|clear eJ|clear cQ|clear p2|clear bV|clear bW
  obtain ⟨kq,aH,rfl,HA,HJ5,aC,aA,HB⟩:=hcut;cases kq with
  | zero=>exact absurd HA.out (by simp [Z8.j1])
  | succ bK =>
   have H:=HA.out;clear HA;simp only [Z8.j1] at H
   by_cases cR:0≤aH
   case neg =>
    rw [if_neg cR] at H
    exact absurd H (by simp)
   rw [if_pos cR] at H
   have gK:decide (0≤aH)=true:=decide_eq_true cR;clear cR
   by_cases cS:aH≤(aD.length:Int)
   case neg =>
    rw [if_neg cS] at H
    exact absurd H (by simp)
   rw [if_pos cS] at H
   have gN:decide (aH≤(aD.length:Int))=true:=decide_eq_true cS;clear cS;obtain ⟨bL,bY⟩:∃ y_:List (S72),y_=(aD.take (aH:Int).toNat):=⟨_,rfl⟩;replace H:((Z21.f bK bL a1 a2).bind fun bJ=>((Z21.f bK (aD.drop (aH:Int).toNat) a1 a2).bind fun bI=>((Z6.f bK (([bJ,(([(⟨a1,a2,a3,20⟩:S72)]:List (S72))),bI]:List (List (S72))))).bind fun bD=>((Z7.f bK bD).bind fun bT=>(if bT=true then (some bD) else ((Z40.f l0).bind fun bU=>(some bU)))))))=some r:=by (rw [bY];with_reducible exact H)
   have cD:=aM bY;clear bY;obtain ⟨bJ,dG,H⟩:=hB H;have eS:=aM dG;clear dG;obtain ⟨aW,bZ⟩:∃ y_:List (S72),y_=(aD.drop (aH:Int).toNat):=⟨_,rfl⟩;replace H:((Z21.f bK aW a1 a2).bind fun bI=>((Z6.f bK (([bJ,(([(⟨a1,a2,a3,20⟩:S72)]:List (S72))),bI]:List (List (S72))))).bind fun bD=>((Z7.f bK bD).bind fun bT=>(if bT=true then (some bD) else ((Z40.f l0).bind fun bU=>(some bU))))))=some r:=by (rw [bZ];with_reducible exact H)
   have cE:=aM bZ;clear bZ;obtain ⟨bI,dH,H⟩:=hB H;have eT:=aM dH;clear dH;obtain ⟨bM,cA⟩:∃ y_:List (S72),y_=(([(⟨a1,a2,a3,20⟩:S72)]:List (S72))):=⟨_,rfl⟩;replace H:((Z6.f bK (([bJ,bM,bI]:List (List (S72))))).bind fun bD=>((Z7.f bK bD).bind fun bT=>(if bT=true then (some bD) else ((Z40.f l0).bind fun bU=>(some bU)))))=some r:=by (rw [cA];with_reducible exact H)
   have cG:=aM cA;clear cA;obtain ⟨cL,cC⟩:∃ y_:List (List (S72)),y_=(([bJ,bM,bI]:List (List (S72)))):=⟨_,rfl⟩;replace H:((Z6.f bK cL).bind fun bD=>((Z7.f bK bD).bind fun bT=>(if bT=true then (some bD) else ((Z40.f l0).bind fun bU=>(some bU)))))=some r:=by (rw [cC];with_reducible exact H)
   have cH:=aM cC;clear cC;obtain ⟨bD,dI,H⟩:=hB H;have eU:=aM dI;clear dI;obtain ⟨bT,dJ,H⟩:=hB H;have eV:=aM dJ;clear dJ
   by_cases cX:bT=true
   case pos =>
    subst cX;replace H:=hP H rfl;obtain rfl:=Option.some.inj H
    try go_wp2
    replace aC:=aM (Kd.R_drew aC.out);replace aA:=aM (blk_drew aA.out);replace HB:=aM (below_drew1 HB.out);obtain ⟨bG,aX,dK⟩:=Kd.R_slice aC.out
    (subst dK)
    have dL:(aH:Int)≤((aD.length:Int):Int):=dT;obtain ⟨i032,hi032,_,hsz32,_⟩:=info_parts info72;have hroom32:aD.length≤aX:=(Kd.R_reads' aC.out).2.1;have hC32:Kd.F k72 _ _ bG aD.length aD:=(Kd.V_at (base:=w.heap.size) (Kd.R_V aC.out)).2.2;have hcut32:=cut_to (P:=Try.prog) 26 72 .i64 Try.underlying26 hi032 bG aD.length aX aH (dT) dL hroom32;have hr32:=Kd.F_take (m:=(aH:Int).toNat) hC32 (by omega)
    have cU:bL.length=(aH:Int).toNat:=(by rw [cD.out,List.length_take];omega)
    rw [← cD.out] at hr32
    rw [← cU] at hcut32
    have aE:=aM (show Kd.V k72 72 _ w.heap.size _ (.slice bG bL.length aX) bL from Kd.V_mk (by omega) hr32)
    clear hr32 hC32 hroom32 hi032 hsz32;clear cU;replace dL:=eq_true dL;have dM:(aH:Int)≤((aD.length:Int):Int):=dT;obtain ⟨i034,hi034,_,hsz34,_⟩:=info_parts info72;have hroom34:aD.length≤aX:=(Kd.R_reads' aC.out).2.1;have hC34:Kd.F k72 _ _ bG aD.length aD:=(Kd.V_at (base:=w.heap.size) (Kd.R_V aC.out)).2.2;have eX:(0:Int)≤(aH:Int):=dT;have hcut34:=cut_from (P:=Try.prog) 26 72 .i64 Try.underlying26 hi034 4 hsz34 bG aD.length aX aH eX dM;have hr34:=Kd.F_cut (m:=(aH:Int).toNat) (c:=aX) hC34 (by omega) hroom34
    obtain ⟨dN,hA34⟩:∃ A1,A1=(if aX=(aH:Int).toNat then bG else (bG:Option Addr).map (·.add ((aH:Int).toNat*4))):=⟨_,rfl⟩;obtain ⟨dO,hc34⟩:∃ c1,c1=aX - (aH:Int).toNat:=⟨_,rfl⟩;have cN:aW.length=aD.length - (aH:Int).toNat:=(by rw [cE.out,List.length_drop] <;> omega)
    rw [show (aD).drop (aH:Int).toNat=aW from cE.out.symm] at hr34
    replace hr34:Kd.F k72 _ _ dN aW.length aW:=(by rw [hA34];exact hr34)
    rw [← cN,← hA34,← hc34] at hcut34
    have aG:=aM (show Kd.V k72 72 _ w.heap.size _ (.slice dN aW.length dO) aW from Kd.V_mk (by rw [cN,hc34];exact Nat.sub_le_sub_right hroom34 _) hr34)
    clear hr34 hC34 hroom34 hi034 hsz34 hc34;clear cN hA34;replace dM:=eq_true dM;refine start_ (n:=14) (S:=fun w'=>True) (ds:=[]) (dn 14 0) (by kernel_rfl) rfl rfl trivial (fun hHeld=>?_);refine with_tabW Z8.tab6 Z8.bits6 (fun HT_ HW_=>?_)
    generalize wc.drew=iA at aC aA HB aE aG hHeld ⊢
    refine nY (N:=some 34) HT_ ?_;refine nY (N:=some 35) HT_ ?_;refine nY (N:=some 36) HT_ ?_;refine nY (N:=some 37) HT_ ?_;refine nY (N:=some 38) HT_ ?_;refine pZ 6 40 (bv 14 95) HT_ ?_;refine pZ 7 41 (bv 14 223) HT_ ?_;refine pZ 8 42 (bv 14 479) HT_ ?_;refine pZ 9 43 (bv 14 991) HT_ ?_;refine pZ 10 44 (bv 14 2015) HT_ ?_;refine one_ (i:=5) (N:=some 39) (bv 14 2047) rfl rfl (one_of HT_.out (by kernel_rfl)) (by decide) (fun K hK=>?_)
    refine goes_ Try.func59 (by kernel_rfl) rfl #[.slice bG bL.length aX,a1,a2] (by rfl) rfl rfl xR ?_
    with_reducible refine (Z21.calls bK _ _ bL a1 a2 bJ _ ?side1 ?side2 eS.out).mono ?_
    (case side1=>exact cM ((Kd.V_reads' aE.out).2.2))
    (case side2=>exact (Kd.V_reads' aE.out).2.1)
    rintro e iB ⟨eY,rfl,ho0,hb⟩;refine ⟨_,rfl,?_⟩;have aK:=aM (Kd.R_lower (Kd.R_newB (Kd.R_new' ho0 (Kd.R_lt (kr aC.out))) (g:=aI) (o:=.cells #[a1,a2,a3,.int .i64 20] 72 (0,0)) (bk aA.out)) (below_size (bl HB.out)));replace aC:=aM (Kd.R_elder' (kr aC.out) (Kd.R_base ho0) hb);replace aE:=aM (Kd.V_elder' (by (with_reducible repeat (first|apply Kd.V_alloc|apply Kd.V_drewN|apply Kd.V_drew));exact aE.out) (Kd.R_base ho0) hb)
    replace aG:=aM (Kd.V_elder' (by (with_reducible repeat (first|apply Kd.V_alloc|apply Kd.V_drewN|apply Kd.V_drew));exact aG.out) (Kd.R_base ho0) hb)
    replace aA:=rB aA hb;replace HB:=rS HB hb
    (try clear hb)
    (try clear ho0)
    refine hK.out _ _ trivial (fun hHeld=>?_)
    clear hK K;refine norm_ (a':=?_) ?_ ?_;rotate_left
    ·show Act.put _ (some 39) _=_
     simp only [Act.put,sA,sZ,sS,i64_w,i32_w]
     rfl
    refine one_ (i:=11) (N:=some 45) (bv 14 4095) rfl rfl (one_of HT_.out (by kernel_rfl)) (by decide) (fun K hK=>?_)
    refine goes_ Try.func59 (by kernel_rfl) rfl #[.slice dN aW.length dO,a1,a2] (by rfl) rfl rfl xR ?_
    with_reducible refine (Z21.calls bK _ _ aW a1 a2 bI _ ?side1 ?side2 eT.out).mono ?_
    (case side1=>exact cM ((Kd.V_reads' aG.out).2.2))
    (case side2=>exact (Kd.V_reads' aG.out).2.1)
    rintro e iC ⟨eZ,rfl,ho0,hb⟩;refine ⟨_,rfl,?_⟩;have aQ:=aM (Kd.R_lower (Kd.R_newB (Kd.R_new' (Kd.R_new' ho0 (Kd.R_lt (kr aC.out))) (Kd.R_lt (kr aK.out))) (g:=aI) (o:=.cells #[a1,a2,a3,.int .i64 20] 72 (0,0)) (bk aA.out)) (below_size (bl HB.out)));replace aC:=aM (Kd.R_elder' (kr aC.out) (Kd.R_base ho0) hb);replace aE:=aM (Kd.V_elder' (by (with_reducible repeat (first|apply Kd.V_alloc|apply Kd.V_drewN|apply Kd.V_drew));exact aE.out) (Kd.R_base ho0) hb)
    replace aG:=aM (Kd.V_elder' (by (with_reducible repeat (first|apply Kd.V_alloc|apply Kd.V_drewN|apply Kd.V_drew));exact aG.out) (Kd.R_base ho0) hb)
    replace aK:=aM (Kd.R_elder' (kr aK.out) (Kd.R_base ho0) hb);replace aA:=rB aA hb;replace HB:=rS HB hb
    (try clear hb)
    (try clear ho0)
    refine hK.out _ _ trivial (fun hHeld=>?_)
    clear hK K;refine norm_ (a':=?_) ?_ ?_;rotate_left
    ·show Act.put _ (some 45) _=_
     simp only [Act.put,sA,sZ,sS,i64_w,i32_w]
     rfl
    refine pZ 12 12 (bv 14 8191) HT_ ?_;refine pZ 13 13 (bv 14 16383) HT_ ?_;refine done_ (done_of HT_.out (by kernel_rfl)) ?_
    have gQ:=cA4 aA.out
    try go_wp2_with (first|((with_reducible refine gD (N:=48) rfl ?_);refine Kd.R_lit k72 _ 72 ?hg (N:=48) ?hd (xs:=([(⟨a1,a2,a3,20⟩:S72)]:List (S72))) (inner:=[.int .i64 a1,.int .i64 a2,.int .i64 a3,.int .i64 20]) (ok:=fun _=>True) (okp:=fun _=>True) ?hr ?hp (fun _ hk=>hk) trivial (Below.refl _ _) (Nat.le_refl _) (by simp) ?_;(case hd=>rfl);(case hg=>rfl);(case hr=>(go_simp;done));(case hp=>exact (Reps.c4 (show Kd.M k72 _ _ _ (⟨a1,a2,a3,20⟩:S72) [.int .i64 a1,.int .i64 a2,.int .i64 a3,.int .i64 20] from (k72_mkM _ _ _ (⟨a1,a2,a3,20⟩:S72) )) (Reps.none _ _)));intro fA fY ho39 hb hg_ hnew_;clear hg_ hnew_;(rw [← cG.out] at ho39);have aV:=aM (Kd.R_lower (Kd.R_newB (Kd.R_new' (Kd.R_new' (Kd.R_new' ho39 (Kd.R_lt (kr aC.out))) (Kd.R_lt (kr aK.out))) (Kd.R_lt (kr aQ.out))) (g:=aI) (o:=.cells #[a1,a2,a3,.int .i64 20] 72 (0,0)) (bk aA.out)) (below_size (bl HB.out)));replace aC:=aM (Kd.R_elder' (kr aC.out) (Kd.R_base ho39) hb);replace aE:=aM (Kd.V_elder' (by (with_reducible repeat (first|apply Kd.V_alloc|apply Kd.V_drewN|apply Kd.V_drew));exact aE.out) (Kd.R_base ho39) hb);replace aG:=aM (Kd.V_elder' (by (with_reducible repeat (first|apply Kd.V_alloc|apply Kd.V_drewN|apply Kd.V_drew));exact aG.out) (Kd.R_base ho39) hb);replace aK:=aM (Kd.R_elder' (kr aK.out) (Kd.R_base ho39) hb);replace aQ:=aM (Kd.R_elder' (kr aQ.out) (Kd.R_base ho39) hb);replace aA:=rB aA hb;replace HB:=rS HB hb;clear hb ho39;obtain ⟨dP,dQ,fB⟩:=Kd.R_slice aK.out;subst fB;obtain ⟨dR,dS,fC⟩:=Kd.R_slice aV.out;subst fC;obtain ⟨dU,dV,fD⟩:=Kd.R_slice aQ.out;subst fD)|((with_reducible refine gD (N:=50) rfl ?_);refine Kd.N_lit (Kd.slice 72 k72) _ 26 ?hg (N':=50) ?hd (xs:=([bJ,bM,bI]:List (List (S72)))) (inner:=[.slice dP bJ.length dQ,.slice dR bM.length dS,.slice dU bI.length dV]) (ok:=(fun k_=>some k_≠(.slice bG aD.length aX:Value).ownBlock∧k_≠aI)) (okp:=(fun k_=>some k_≠(.slice bG aD.length aX:Value).ownBlock∧k_≠aI)) ?hr ?hp (fun _ hk=>hk) ((show ∀ k_,fY.heap.size≤k_→(fun k_=>some k_≠(.slice bG aD.length aX:Value).ownBlock∧k_≠aI) k_ from fun k_ hk=>⟨Kd.fresh' (Kd.R_lt (kr aC.out)) k_ hk,Kd.freshB (g:=aI) (o:=.cells #[a1,a2,a3,.int .i64 20] 72 (0,0)) (bk aA.out) k_ hk⟩) _ (Nat.le_refl _)) (Below.refl _ _) (Nat.le_refl _) (by simp) ?_;(case hd=>rfl);(case hg=>rfl);(case hr=>(go_simp;done));(case hp=>exact (Reps.one (show Kd.FK (Kd.slice 72 k72) _ _ bJ [.slice dP bJ.length dQ] from (Kd.FK_slice_mk (Kd.R_reads' (Kd.R_mono (ok':=(fun k_=>some k_≠(.slice bG aD.length aX:Value).ownBlock∧k_≠aI)) (aK.out) (fun k_ hk=>⟨hk.1.1.1.2,hk.1.1.2⟩))).2.1 (Kd.R_F (Kd.R_mono (ok':=(fun k_=>some k_≠(.slice bG aD.length aX:Value).ownBlock∧k_≠aI)) (aK.out) (fun k_ hk=>⟨hk.1.1.1.2,hk.1.1.2⟩))))) (Reps.one (show Kd.FK (Kd.slice 72 k72) _ _ bM [.slice dR bM.length dS] from (Kd.FK_slice_mk (Kd.R_reads' (Kd.R_mono (ok':=(fun k_=>some k_≠(.slice bG aD.length aX:Value).ownBlock∧k_≠aI)) (aV.out) (fun k_ hk=>⟨hk.1.1.1.2,hk.2⟩))).2.1 (Kd.R_F (Kd.R_mono (ok':=(fun k_=>some k_≠(.slice bG aD.length aX:Value).ownBlock∧k_≠aI)) (aV.out) (fun k_ hk=>⟨hk.1.1.1.2,hk.2⟩))))) (Reps.one (show Kd.FK (Kd.slice 72 k72) _ _ bI [.slice dU bI.length dV] from (Kd.FK_slice_mk (Kd.R_reads' (Kd.R_mono (ok':=(fun k_=>some k_≠(.slice bG aD.length aX:Value).ownBlock∧k_≠aI)) (aQ.out) (fun k_ hk=>⟨hk.1.1.1.2,hk.1.2⟩))).2.1 (Kd.R_F (Kd.R_mono (ok':=(fun k_=>some k_≠(.slice bG aD.length aX:Value).ownBlock∧k_≠aI)) (aQ.out) (fun k_ hk=>⟨hk.1.1.1.2,hk.1.2⟩))))) (Reps.none _ _)))));intro fE iD ho44 hb hg_ hnew_;clear hg_ hnew_;(rw [← cH.out] at ho44);have aN:=aM (Kd.N_lower ho44 (below_size (bl HB.out)));replace aC:=rK aC hb;replace aE:=aM (Kd.V_elder' (by (with_reducible repeat (first|apply Kd.V_alloc|apply Kd.V_drewN|apply Kd.V_drew));exact aE.out) (Kd.N_base ho44) hb);replace aG:=aM (Kd.V_elder' (by (with_reducible repeat (first|apply Kd.V_alloc|apply Kd.V_drewN|apply Kd.V_drew));exact aG.out) (Kd.N_base ho44) hb);replace aA:=rB aA hb;replace HB:=rS HB hb;clear aK aQ aV;clear hb ho44;obtain ⟨fF,fG,fH⟩:=Kd.N_slice aN.out;subst fH)|((with_reducible refine gC (f:=60) rfl ?_);refine gL (some 51) Try.func60 #[.slice fF cL.length fG] ?_;(with_reducible refine (Z6.calls bK _ _ cL bD _ ?side1 ?side2 eU.out).mono ?_);(case side1=>exact cM ((Kd.N_reads' aN.out).2.2));(case side2=>exact (Kd.N_reads' aN.out).2.1);rintro e iE ⟨fI,rfl,ho0,hb⟩;refine ⟨_,rfl,?_⟩;have aT:=aM (Kd.R_lower (Kd.R_newB (Kd.R_new' ho0 (Kd.R_lt (kr aC.out))) (g:=aI) (o:=.cells #[a1,a2,a3,.int .i64 20] 72 (0,0)) (bk aA.out)) (below_size (bl HB.out)));replace aC:=aM (Kd.R_elder' (kr aC.out) (Kd.R_base ho0) hb);replace aE:=aM (Kd.V_elder' (by (with_reducible repeat (first|apply Kd.V_alloc|apply Kd.V_drewN|apply Kd.V_drew));exact aE.out) (Kd.R_base ho0) hb);replace aG:=aM (Kd.V_elder' (by (with_reducible repeat (first|apply Kd.V_alloc|apply Kd.V_drewN|apply Kd.V_drew));exact aG.out) (Kd.R_base ho0) hb);replace aN:=aM (Kd.N_elder' (by (with_reducible repeat (first|apply Kd.N_alloc|apply Kd.N_drewN|apply Kd.N_drew));exact aN.out) (Kd.R_base ho0) hb);replace aA:=rB aA hb;replace HB:=rS HB hb;(repeat first|clear hb|clear ho0);obtain ⟨fK,fL,fM⟩:=Kd.R_slice aT.out;subst fM)|((with_reducible refine gC (f:=41) rfl ?_);refine gL (some 53) Try.func41 #[.slice fK bD.length fL] ?_;(with_reducible refine (Z7.calls bK _ _ bD true _ ?side1 ?side2 eV.out).mono ?_);(case side1=>exact cM ((Kd.R_reads' aT.out).2.2));(case side2=>exact (Kd.R_reads' aT.out).2.1);rintro e iF ⟨rfl,hb⟩;refine ⟨_,rfl,?_⟩;replace aC:=rK aC hb;replace aE:=aM (Kd.V_below (by (with_reducible repeat (first|apply Kd.V_alloc|apply Kd.V_drewN|apply Kd.V_drew));exact aE.out) hb);replace aG:=aM (Kd.V_below (by (with_reducible repeat (first|apply Kd.V_alloc|apply Kd.V_drewN|apply Kd.V_drew));exact aG.out) hb);replace aN:=aM (Kd.N_below (by (with_reducible repeat (first|apply Kd.N_alloc|apply Kd.N_drewN|apply Kd.N_drew));exact aN.out) hb);replace aT:=rK aT hb;replace aA:=rB aA hb;replace HB:=rS HB hb;(try clear hb)))
    go_ret
    exact ⟨_,xW,by (with_reducible repeat (first|apply Kd.R_alloc|apply Kd.R_drewN|apply Kd.R_drew));exact Kd.R_mono aT.out (fun _ hk=>trivial),bl HB.out⟩
   replace cX:=Bool.eq_false_iff.mpr cX;subst cX;replace H:=hF H;obtain ⟨bU,dW,H⟩:=hB H;have gA:=aM dW;clear dW;obtain rfl:=Option.some.inj H
   try go_wp2
   replace aC:=aM (Kd.R_drew aC.out);replace aA:=aM (blk_drew aA.out);replace HB:=aM (below_drew1 HB.out);obtain ⟨bH,bA,dX⟩:=Kd.R_slice aC.out
   (subst dX)
   have dY:(aH:Int)≤((aD.length:Int):Int):=dT;obtain ⟨i051,hi051,_,hsz51,_⟩:=info_parts info72;have hroom51:aD.length≤bA:=(Kd.R_reads' aC.out).2.1;have hC51:Kd.F k72 _ _ bH aD.length aD:=(Kd.V_at (base:=w.heap.size) (Kd.R_V aC.out)).2.2;have hcut51:=cut_to (P:=Try.prog) 26 72 .i64 Try.underlying26 hi051 bH aD.length bA aH (dT) dY hroom51;have hr51:=Kd.F_take (m:=(aH:Int).toNat) hC51 (by omega)
   have cV:bL.length=(aH:Int).toNat:=(by rw [cD.out,List.length_take];omega)
   rw [← cD.out] at hr51
   rw [← cV] at hcut51
   have aE:=aM (show Kd.V k72 72 _ w.heap.size _ (.slice bH bL.length bA) bL from Kd.V_mk (by omega) hr51)
   clear hr51 hC51 hroom51 hi051 hsz51;clear cV;replace dY:=eq_true dY;have dZ:(aH:Int)≤((aD.length:Int):Int):=dT;obtain ⟨i053,hi053,_,hsz53,_⟩:=info_parts info72;have hroom53:aD.length≤bA:=(Kd.R_reads' aC.out).2.1;have hC53:Kd.F k72 _ _ bH aD.length aD:=(Kd.V_at (base:=w.heap.size) (Kd.R_V aC.out)).2.2;have fN:(0:Int)≤(aH:Int):=dT;have hcut53:=cut_from (P:=Try.prog) 26 72 .i64 Try.underlying26 hi053 4 hsz53 bH aD.length bA aH fN dZ;have hr53:=Kd.F_cut (m:=(aH:Int).toNat) (c:=bA) hC53 (by omega) hroom53
   obtain ⟨eA,hA53⟩:∃ A1,A1=(if bA=(aH:Int).toNat then bH else (bH:Option Addr).map (·.add ((aH:Int).toNat*4))):=⟨_,rfl⟩;obtain ⟨eB,hc53⟩:∃ c1,c1=bA - (aH:Int).toNat:=⟨_,rfl⟩;have cO:aW.length=aD.length - (aH:Int).toNat:=(by rw [cE.out,List.length_drop] <;> omega)
   rw [show (aD).drop (aH:Int).toNat=aW from cE.out.symm] at hr53
   replace hr53:Kd.F k72 _ _ eA aW.length aW:=(by rw [hA53];exact hr53)
   rw [← cO,← hA53,← hc53] at hcut53
   have aG:=aM (show Kd.V k72 72 _ w.heap.size _ (.slice eA aW.length eB) aW from Kd.V_mk (by rw [cO,hc53];exact Nat.sub_le_sub_right hroom53 _) hr53)
   clear hr53 hC53 hroom53 hi053 hsz53 hc53;clear cO hA53;replace dZ:=eq_true dZ;refine start_ (n:=14) (S:=fun w'=>True) (ds:=[]) (dn 14 0) (by kernel_rfl) rfl rfl trivial (fun hHeld=>?_);refine with_tabW Z8.tab6 Z8.bits6 (fun HT_ HW_=>?_)
   generalize wc.drew=iG at aC aA HB aE aG hHeld ⊢
   refine nY (N:=some 34) HT_ ?_;refine nY (N:=some 35) HT_ ?_;refine nY (N:=some 36) HT_ ?_;refine nY (N:=some 37) HT_ ?_;refine nY (N:=some 38) HT_ ?_;refine pZ 6 40 (bv 14 95) HT_ ?_;refine pZ 7 41 (bv 14 223) HT_ ?_;refine pZ 8 42 (bv 14 479) HT_ ?_;refine pZ 9 43 (bv 14 991) HT_ ?_;refine pZ 10 44 (bv 14 2015) HT_ ?_;refine one_ (i:=5) (N:=some 39) (bv 14 2047) rfl rfl (one_of HT_.out (by kernel_rfl)) (by decide) (fun K hK=>?_)
   refine goes_ Try.func59 (by kernel_rfl) rfl #[.slice bH bL.length bA,a1,a2] (by rfl) rfl rfl xR ?_
   with_reducible refine (Z21.calls bK _ _ bL a1 a2 bJ _ ?side1 ?side2 eS.out).mono ?_
   (case side1=>exact cM ((Kd.V_reads' aE.out).2.2))
   (case side2=>exact (Kd.V_reads' aE.out).2.1)
   rintro e iH ⟨eY,rfl,ho0,hb⟩;refine ⟨_,rfl,?_⟩;have aK:=aM (Kd.R_lower (Kd.R_newB (Kd.R_new' ho0 (Kd.R_lt (kr aC.out))) (g:=aI) (o:=.cells #[a1,a2,a3,.int .i64 20] 72 (0,0)) (bk aA.out)) (below_size (bl HB.out)));replace aC:=aM (Kd.R_elder' (kr aC.out) (Kd.R_base ho0) hb);replace aE:=aM (Kd.V_elder' (by (with_reducible repeat (first|apply Kd.V_alloc|apply Kd.V_drewN|apply Kd.V_drew));exact aE.out) (Kd.R_base ho0) hb)
   replace aG:=aM (Kd.V_elder' (by (with_reducible repeat (first|apply Kd.V_alloc|apply Kd.V_drewN|apply Kd.V_drew));exact aG.out) (Kd.R_base ho0) hb)
   replace aA:=rB aA hb;replace HB:=rS HB hb
   (try clear hb)
   (try clear ho0)
   refine hK.out _ _ trivial (fun hHeld=>?_)
   clear hK K;refine norm_ (a':=?_) ?_ ?_;rotate_left
   ·show Act.put _ (some 39) _=_
    simp only [Act.put,sA,sZ,sS,i64_w,i32_w]
    rfl
   refine one_ (i:=11) (N:=some 45) (bv 14 4095) rfl rfl (one_of HT_.out (by kernel_rfl)) (by decide) (fun K hK=>?_)
   refine goes_ Try.func59 (by kernel_rfl) rfl #[.slice eA aW.length eB,a1,a2] (by rfl) rfl rfl xR ?_
   with_reducible refine (Z21.calls bK _ _ aW a1 a2 bI _ ?side1 ?side2 eT.out).mono ?_
   (case side1=>exact cM ((Kd.V_reads' aG.out).2.2))
   (case side2=>exact (Kd.V_reads' aG.out).2.1)
   rintro e iI ⟨eZ,rfl,ho0,hb⟩;refine ⟨_,rfl,?_⟩;have aQ:=aM (Kd.R_lower (Kd.R_newB (Kd.R_new' (Kd.R_new' ho0 (Kd.R_lt (kr aC.out))) (Kd.R_lt (kr aK.out))) (g:=aI) (o:=.cells #[a1,a2,a3,.int .i64 20] 72 (0,0)) (bk aA.out)) (below_size (bl HB.out)));replace aC:=aM (Kd.R_elder' (kr aC.out) (Kd.R_base ho0) hb);replace aE:=aM (Kd.V_elder' (by (with_reducible repeat (first|apply Kd.V_alloc|apply Kd.V_drewN|apply Kd.V_drew));exact aE.out) (Kd.R_base ho0) hb)
   replace aG:=aM (Kd.V_elder' (by (with_reducible repeat (first|apply Kd.V_alloc|apply Kd.V_drewN|apply Kd.V_drew));exact aG.out) (Kd.R_base ho0) hb)
   replace aK:=aM (Kd.R_elder' (kr aK.out) (Kd.R_base ho0) hb);replace aA:=rB aA hb;replace HB:=rS HB hb
   (try clear hb)
   (try clear ho0)
   refine hK.out _ _ trivial (fun hHeld=>?_)
   clear hK K;refine norm_ (a':=?_) ?_ ?_;rotate_left
   ·show Act.put _ (some 45) _=_
    simp only [Act.put,sA,sZ,sS,i64_w,i32_w]
    rfl
   refine pZ 12 12 (bv 14 8191) HT_ ?_;refine pZ 13 13 (bv 14 16383) HT_ ?_;refine done_ (done_of HT_.out (by kernel_rfl)) ?_
   have gR:=cA4 aA.out
   try go_wp2_with (first|((with_reducible refine gD (N:=48) rfl ?_);refine Kd.R_lit k72 _ 72 ?hg (N:=48) ?hd (xs:=([(⟨a1,a2,a3,20⟩:S72)]:List (S72))) (inner:=[.int .i64 a1,.int .i64 a2,.int .i64 a3,.int .i64 20]) (ok:=fun _=>True) (okp:=fun _=>True) ?hr ?hp (fun _ hk=>hk) trivial (Below.refl _ _) (Nat.le_refl _) (by simp) ?_;(case hd=>rfl);(case hg=>rfl);(case hr=>(go_simp;done));(case hp=>exact (Reps.c4 (show Kd.M k72 _ _ _ (⟨a1,a2,a3,20⟩:S72) [.int .i64 a1,.int .i64 a2,.int .i64 a3,.int .i64 20] from (k72_mkM _ _ _ (⟨a1,a2,a3,20⟩:S72) )) (Reps.none _ _)));intro fA gB ho58 hb hg_ hnew_;clear hg_ hnew_;(rw [← cG.out] at ho58);have aV:=aM (Kd.R_lower (Kd.R_newB (Kd.R_new' (Kd.R_new' (Kd.R_new' ho58 (Kd.R_lt (kr aC.out))) (Kd.R_lt (kr aK.out))) (Kd.R_lt (kr aQ.out))) (g:=aI) (o:=.cells #[a1,a2,a3,.int .i64 20] 72 (0,0)) (bk aA.out)) (below_size (bl HB.out)));replace aC:=aM (Kd.R_elder' (kr aC.out) (Kd.R_base ho58) hb);replace aE:=aM (Kd.V_elder' (by (with_reducible repeat (first|apply Kd.V_alloc|apply Kd.V_drewN|apply Kd.V_drew));exact aE.out) (Kd.R_base ho58) hb);replace aG:=aM (Kd.V_elder' (by (with_reducible repeat (first|apply Kd.V_alloc|apply Kd.V_drewN|apply Kd.V_drew));exact aG.out) (Kd.R_base ho58) hb);replace aK:=aM (Kd.R_elder' (kr aK.out) (Kd.R_base ho58) hb);replace aQ:=aM (Kd.R_elder' (kr aQ.out) (Kd.R_base ho58) hb);replace aA:=rB aA hb;replace HB:=rS HB hb;clear hb ho58;obtain ⟨eC,eD,fO⟩:=Kd.R_slice aK.out;subst fO;obtain ⟨eE,eF,fP⟩:=Kd.R_slice aV.out;subst fP;obtain ⟨eG,eH,fQ⟩:=Kd.R_slice aQ.out;subst fQ)|((with_reducible refine gD (N:=50) rfl ?_);refine Kd.N_lit (Kd.slice 72 k72) _ 26 ?hg (N':=50) ?hd (xs:=([bJ,bM,bI]:List (List (S72)))) (inner:=[.slice eC bJ.length eD,.slice eE bM.length eF,.slice eG bI.length eH]) (ok:=(fun k_=>some k_≠(.slice bH aD.length bA:Value).ownBlock∧k_≠aI)) (okp:=(fun k_=>some k_≠(.slice bH aD.length bA:Value).ownBlock∧k_≠aI)) ?hr ?hp (fun _ hk=>hk) ((show ∀ k_,gB.heap.size≤k_→(fun k_=>some k_≠(.slice bH aD.length bA:Value).ownBlock∧k_≠aI) k_ from fun k_ hk=>⟨Kd.fresh' (Kd.R_lt (kr aC.out)) k_ hk,Kd.freshB (g:=aI) (o:=.cells #[a1,a2,a3,.int .i64 20] 72 (0,0)) (bk aA.out) k_ hk⟩) _ (Nat.le_refl _)) (Below.refl _ _) (Nat.le_refl _) (by simp) ?_;(case hd=>rfl);(case hg=>rfl);(case hr=>(go_simp;done));(case hp=>exact (Reps.one (show Kd.FK (Kd.slice 72 k72) _ _ bJ [.slice eC bJ.length eD] from (Kd.FK_slice_mk (Kd.R_reads' (Kd.R_mono (ok':=(fun k_=>some k_≠(.slice bH aD.length bA:Value).ownBlock∧k_≠aI)) (aK.out) (fun k_ hk=>⟨hk.1.1.1.2,hk.1.1.2⟩))).2.1 (Kd.R_F (Kd.R_mono (ok':=(fun k_=>some k_≠(.slice bH aD.length bA:Value).ownBlock∧k_≠aI)) (aK.out) (fun k_ hk=>⟨hk.1.1.1.2,hk.1.1.2⟩))))) (Reps.one (show Kd.FK (Kd.slice 72 k72) _ _ bM [.slice eE bM.length eF] from (Kd.FK_slice_mk (Kd.R_reads' (Kd.R_mono (ok':=(fun k_=>some k_≠(.slice bH aD.length bA:Value).ownBlock∧k_≠aI)) (aV.out) (fun k_ hk=>⟨hk.1.1.1.2,hk.2⟩))).2.1 (Kd.R_F (Kd.R_mono (ok':=(fun k_=>some k_≠(.slice bH aD.length bA:Value).ownBlock∧k_≠aI)) (aV.out) (fun k_ hk=>⟨hk.1.1.1.2,hk.2⟩))))) (Reps.one (show Kd.FK (Kd.slice 72 k72) _ _ bI [.slice eG bI.length eH] from (Kd.FK_slice_mk (Kd.R_reads' (Kd.R_mono (ok':=(fun k_=>some k_≠(.slice bH aD.length bA:Value).ownBlock∧k_≠aI)) (aQ.out) (fun k_ hk=>⟨hk.1.1.1.2,hk.1.2⟩))).2.1 (Kd.R_F (Kd.R_mono (ok':=(fun k_=>some k_≠(.slice bH aD.length bA:Value).ownBlock∧k_≠aI)) (aQ.out) (fun k_ hk=>⟨hk.1.1.1.2,hk.1.2⟩))))) (Reps.none _ _)))));intro fE iJ ho63 hb hg_ hnew_;clear hg_ hnew_;(rw [← cH.out] at ho63);have aN:=aM (Kd.N_lower ho63 (below_size (bl HB.out)));replace aC:=rK aC hb;replace aE:=aM (Kd.V_elder' (by (with_reducible repeat (first|apply Kd.V_alloc|apply Kd.V_drewN|apply Kd.V_drew));exact aE.out) (Kd.N_base ho63) hb);replace aG:=aM (Kd.V_elder' (by (with_reducible repeat (first|apply Kd.V_alloc|apply Kd.V_drewN|apply Kd.V_drew));exact aG.out) (Kd.N_base ho63) hb);replace aA:=rB aA hb;replace HB:=rS HB hb;clear aK aQ aV;clear hb ho63;obtain ⟨fS,fT,fU⟩:=Kd.N_slice aN.out;subst fU)|((with_reducible refine gC (f:=60) rfl ?_);refine gL (some 51) Try.func60 #[.slice fS cL.length fT] ?_;(with_reducible refine (Z6.calls bK _ _ cL bD _ ?side1 ?side2 eU.out).mono ?_);(case side1=>exact cM ((Kd.N_reads' aN.out).2.2));(case side2=>exact (Kd.N_reads' aN.out).2.1);rintro e iK ⟨fI,rfl,ho0,hb⟩;refine ⟨_,rfl,?_⟩;have aT:=aM (Kd.R_lower (Kd.R_newB (Kd.R_new' ho0 (Kd.R_lt (kr aC.out))) (g:=aI) (o:=.cells #[a1,a2,a3,.int .i64 20] 72 (0,0)) (bk aA.out)) (below_size (bl HB.out)));replace aC:=aM (Kd.R_elder' (kr aC.out) (Kd.R_base ho0) hb);replace aE:=aM (Kd.V_elder' (by (with_reducible repeat (first|apply Kd.V_alloc|apply Kd.V_drewN|apply Kd.V_drew));exact aE.out) (Kd.R_base ho0) hb);replace aG:=aM (Kd.V_elder' (by (with_reducible repeat (first|apply Kd.V_alloc|apply Kd.V_drewN|apply Kd.V_drew));exact aG.out) (Kd.R_base ho0) hb);replace aN:=aM (Kd.N_elder' (by (with_reducible repeat (first|apply Kd.N_alloc|apply Kd.N_drewN|apply Kd.N_drew));exact aN.out) (Kd.R_base ho0) hb);replace aA:=rB aA hb;replace HB:=rS HB hb;(repeat first|clear hb|clear ho0);obtain ⟨fV,fW,fX⟩:=Kd.R_slice aT.out;subst fX)|((with_reducible refine gC (f:=41) rfl ?_);refine gL (some 53) Try.func41 #[.slice fV bD.length fW] ?_;(with_reducible refine (Z7.calls bK _ _ bD false _ ?side1 ?side2 eV.out).mono ?_);(case side1=>exact cM ((Kd.R_reads' aT.out).2.2));(case side2=>exact (Kd.R_reads' aT.out).2.1);rintro e iL ⟨rfl,hb⟩;refine ⟨_,rfl,?_⟩;replace aC:=rK aC hb;replace aE:=aM (Kd.V_below (by (with_reducible repeat (first|apply Kd.V_alloc|apply Kd.V_drewN|apply Kd.V_drew));exact aE.out) hb);replace aG:=aM (Kd.V_below (by (with_reducible repeat (first|apply Kd.V_alloc|apply Kd.V_drewN|apply Kd.V_drew));exact aG.out) hb);replace aN:=aM (Kd.N_below (by (with_reducible repeat (first|apply Kd.N_alloc|apply Kd.N_drewN|apply Kd.N_drew));exact aN.out) hb);replace aT:=rK aT hb;replace aA:=rB aA hb;replace HB:=rS HB hb;(try clear hb))|((with_reducible refine gC (f:=56) rfl ?_);refine gL (some 56) Try.func56 #[.slice A0 l0.length c0] ?_;(with_reducible refine (Z40.calls _ _ l0 bU _ ?side1 ?side2 gA.out).mono ?_);(case side1=>exact cM (cB eO.out HB.out));(case side2=>exact eP.out);rintro e iM ⟨hD,rfl,ho0,hb⟩;refine ⟨_,rfl,?_⟩;have eM:=aM (Kd.R_lower (Kd.R_newB (Kd.R_new' (Kd.R_new' ho0 (Kd.R_lt (kr aC.out))) (Kd.R_lt (kr aT.out))) (g:=aI) (o:=.cells #[a1,a2,a3,.int .i64 20] 72 (0,0)) (bk aA.out)) (below_size (bl HB.out)));replace aC:=aM (Kd.R_elder' (kr aC.out) (Kd.R_base ho0) hb);replace aE:=aM (Kd.V_elder' (by (with_reducible repeat (first|apply Kd.V_alloc|apply Kd.V_drewN|apply Kd.V_drew));exact aE.out) (Kd.R_base ho0) hb);replace aG:=aM (Kd.V_elder' (by (with_reducible repeat (first|apply Kd.V_alloc|apply Kd.V_drewN|apply Kd.V_drew));exact aG.out) (Kd.R_base ho0) hb);replace aN:=aM (Kd.N_elder' (by (with_reducible repeat (first|apply Kd.N_alloc|apply Kd.N_drewN|apply Kd.N_drew));exact aN.out) (Kd.R_base ho0) hb);replace aT:=aM (Kd.R_elder' (kr aT.out) (Kd.R_base ho0) hb);replace aA:=rB aA hb;replace HB:=rS HB hb;(repeat first|clear hb|clear ho0)))
   go_ret
   exact ⟨_,xW,by (with_reducible repeat (first|apply Kd.R_alloc|apply Kd.R_drewN|apply Kd.R_drew));exact Kd.R_mono eM.out (fun _ hk=>trivial),bl HB.out⟩

end Go.Proofs.Ytjodolkdelffaaa.PFnCards

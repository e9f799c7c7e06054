/- A part of the proof of laws.FnIns. No condition beyond what its theorems say. -/
import Derived.Test.YtljbdchibfjbdaaDoorVFnInsPx17
namespace Go.Proofs.YtljbdchibfjbdaaDoor.PFnIns
open Go.RowKit Go.Proofs.YtljbdchibfjbdaaDoorW.PrintWords Go.Proofs.YtljbdchibfjbdaaDoorW.PrintLast Go.Proofs.YtljbdchibfjbdaaDoorW.PrintMore
set_option linter.unusedVariables false
set_option linter.unusedSimpArgs false

def Z26.j0:Nat→Int→Bool→Int→List (S102)→Option (Int × Int × Int × Int)
 | 0,_,_,_,_=>none
 | k+1,x1,aE,aA,aC=>if aE=true then (some (0,0,0,0)) else ((Z4.f k aA aC).bind fun aD=>(if aD.2=true then (if 0≤aD.1 then (if aD.1<(aC.length:Int) then (some ((rd_T102 aC aD.1).f2.f0,wrap64 (((rd_T102 aC aD.1).f2.f1)+1),aA,x1)) else (none)) else (none)) else (some (aA,0,aA,x1))))
def Z26.f (k:Nat) (aC:Int) (aA:List (S102)) (a1:Int):Option (Int × Int × Int × Int):=(Z11.f k aC aA).bind fun aD=>(if aD=true then ((Z2.f a1 0 (wrap64 ((aA.length:Int) - 1))).bind fun aE=>(Z26.j0 k a1 (!aE) aC aA)) else (Z26.j0 k a1 true aC aA))
theorem Z26.mono_l:∀ k,(∀ y0 y1 y2 y3,LeO (Z26.j0 k y0 y1 y2 y3) (Z26.j0 (k+1) y0 y1 y2 y3))
 | 0=>fun _ _ _ _ r h=>by simp [Z26.j0] at h
 | k+1=>by
  have ih0:=Z26.mono_l k
  ·intro y0 y1 y2 y3
   unfold Z26.j0
   repeat' (with_reducible first|apply Z4.mono|exact lR _|refine lI ?_ ?_|refine lB ?_ fun _=>?_)
theorem Z26.mono:∀ a0 a1 a2 k,LeO (Z26.f k a0 a1 a2) (Z26.f (k+1) a0 a1 a2):=by
 intro a0 a1 a2 k;have ih0:=Z26.mono_l k;unfold Z26.f
 repeat' (with_reducible first|apply ih0|apply Z11.mono|exact lR _|refine lI ?_ ?_|refine lB ?_ fun _=>?_)
set_option maxHeartbeats 60000000 in
set_option maxRecDepth 100000 in
theorem Z26.calls (k:Nat) (aE:Int) (aI:Option Addr) (aJ:Nat) (aD:List (S102)) (a1 r1 r2 r3 r4:Int) (w:World) (hr0_1:Kd.C k102 w aI aD.length aD) (hc0_1:aD.length≤aJ) (h:Z26.f k aE aD a1=some (r1,r2,r3,r4)) :
  Calls Tryd.prog 81 #[.agg #[aE,.slice aI aD.length aJ],a1] w fun e w'=>e=.returned (.agg #[r1,r2,r3,r4])∧Below w.heap.size w w':=by
 have dZ:=Tryd.underlying79;have eA:=Tryd.underlying25;have aQ:=aM hr0_1;have bK:=aM hc0_1;clear hr0_1 hc0_1;have HB:=aM (Below.refl w.heap.size w);have H:((Z11.f k aE aD).bind fun bU=>(if bU=true then ((Z2.f a1 0 (wrap64 ((aD.length:Int) - 1))).bind fun bN=>(Z26.j0 k a1 (!bN) aE aD)) else (Z26.j0 k a1 true aE aD)))=some (r1,r2,r3,r4):=h
 clear h;have bZ:=aM H;clear H;go_enter Tryd.func81,Tryd.ntmps81
 go_upto_region 1 with (first|((with_reducible refine gD (N:=2) rfl ?_);(try (refine gate_guard (by rfl) ?_;dsimp only));refine bE (N:=2) (cs:=#[aE,.slice aI aD.length aJ]) (t:=79) ?_;intro cC hg w4 hbox hb;have aA:=aM (hbox);have cP:=gF hg HB;have cQ:=gF hg HB;replace HB:=rS HB hb;clear hb hbox hg)|((with_reducible refine gD (N:=4) rfl ?_);(try (refine gate_guard (by rfl) ?_;dsimp only));refine bE (N:=4) (cs:=#[.int .i64 0,.int .i64 0,.int .i64 0,.int .i64 0]) (t:=25) ?_;intro bL hg w5 hbox hb;have aC:=aM (hbox);have cR:=gF hg HB;have cS:=gF hg HB;have aG:=nM hg aA;have aH:=nH hg aA;replace aA:=rB aA hb;replace HB:=rS HB hb;clear hb hbox hg))
 (try simp only [Act.put,sA,sZ,sS])
 go_cut [19] (fun cO wc=>∃ (kq:Nat) (bM:Bool),cO=.bool bM∧Aside0 (Z26.j0 kq a1 bM aE aD=some (r1,r2,r3,r4))∧Aside0 (kq≤k)∧Aside0 (wc.heap[cC]?=some (.cells #[aE,(.slice aI aD.length aJ)] 79 (0,0)))∧Aside0 (wc.heap[bL]?=some (.cells #[.int .i64 0,.int .i64 0,.int .i64 0,.int .i64 0] 25 (0,0)))∧Aside0 (Below w.heap.size w wc))
 case first =>
  have H:=bZ.out;clear bZ;obtain ⟨bU,cE,H⟩:=hB H;have A6:=aM cE;clear cE
  by_cases c7:bU=true
  case neg =>
   replace c7:=Bool.eq_false_iff.mpr c7;subst c7;replace H:=hF H;have H':=aM H;clear H;have cT:=aG.out;have cU:=aH.out;have cV:=cA2 aA.out;go_wp2_with (((with_reducible refine gC (f:=78) rfl ?_);refine goesL_ (some 9) rfl rfl Tryd.func78 (by kernel_rfl) rfl #[.agg #[aE,.slice aI aD.length aJ]] rfl xR ?_;(with_reducible refine (Z11.calls k aE _ _ aD false _ ?side1 ?side2 A6.out).mono ?_);(case side1=>exact cM (cB aQ.out HB.out));(case side2=>exact bK.out);rintro e eD ⟨rfl,hb⟩;refine ⟨_,rfl,?_⟩;replace aA:=rB aA hb;replace aC:=rB aC hb;replace HB:=rS HB hb;(try clear hb)))
   go_meet
   case rel=>exact ⟨_,(true),xE,H',⟨by omega⟩,⟨bk aA.out⟩,⟨bk aC.out⟩,⟨bl HB.out⟩⟩
  subst c7;replace H:=hP H rfl;obtain ⟨bN,cG,H⟩:=hB H;have A8:=aM cG;clear cG;have H':=aM H;clear H;have eB:=aG.out;have eC:=aH.out;have cW:=cA2 aA.out;go_wp2_with (first|((with_reducible refine gC (f:=78) rfl ?_);refine goesL_ (some 9) rfl rfl Tryd.func78 (by kernel_rfl) rfl #[.agg #[aE,.slice aI aD.length aJ]] rfl xR ?_;(with_reducible refine (Z11.calls k aE _ _ aD true _ ?side1 ?side2 A6.out).mono ?_);(case side1=>exact cM (cB aQ.out HB.out));(case side2=>exact bK.out);rintro e eE ⟨rfl,hb⟩;refine ⟨_,rfl,?_⟩;replace aA:=rB aA hb;replace aC:=rB aC hb;replace HB:=rS HB hb;(try clear hb);have cX:=cA2 aA.out)|(go_at_call 69;(with_reducible refine (Z2.calls a1 0 (wrap64 ((aD.length:Int) - 1)) bN _ A8.out).mono ?_);rintro e w' ⟨rfl,⟨nd,rfl⟩⟩))
  go_meet
  case rel=>exact ⟨_,(!bN),xE,H',⟨by omega⟩,⟨bk aA.out⟩,⟨bk aC.out⟩,⟨bl HB.out⟩⟩
 case rest =>
  clear bZ
  repeat first|clear c1|clear p2|clear p6|clear c7|clear c8|clear c9|clear eF
  obtain ⟨kq,bM,rfl,HA,HJ2,aA,aC,HB⟩:=hcut;cases kq with
  | zero=>exact absurd HA.out (by simp [Z26.j0])
  | succ cH =>
   have H:=HA.out;clear HA;simp only [Z26.j0] at H
   by_cases bX:bM=true
   case pos =>
    subst bX;replace H:=hP H rfl;simp only [Option.some.injEq,Prod.mk.injEq] at H;obtain ⟨rfl,rfl,rfl,rfl⟩:=H;have cY:=aH.out;have dA:=aG.out;have dB:=cA4 aC.out;go_wp2
    refine bodyPost_ret (results_cell_row rfl _ _ bL 25 #[.int .i64 0,.int .i64 0,.int .i64 0,.int .i64 0] (0,0) _ rfl (bm aC.out) Tryd.underlying25 rfl (by kernel_rfl)) rfl ?_
    exact ⟨xW,bl HB.out⟩
   replace bX:=Bool.eq_false_iff.mpr bX;subst bX;replace H:=hF H;obtain ⟨⟨aK,cL⟩,cA,H⟩:=hB H
   try dsimp only at H
   have cK:=aM cA;clear cA
   by_cases bY:cL=true
   case neg =>
    replace bY:=Bool.eq_false_iff.mpr bY;subst bY;replace H:=hF H;simp only [Option.some.injEq,Prod.mk.injEq] at H;obtain ⟨rfl,rfl,rfl,rfl⟩:=H;have dC:=aG.out;have dD:=aH.out;have dE:=cA2 aA.out;go_wp2_with (((with_reducible refine gC (f:=93) rfl ?_);refine goesL_ (some 23) rfl rfl Tryd.func93 (by kernel_rfl) rfl #[.agg #[aE,.slice aI aD.length aJ]] rfl xR ?_;(with_reducible refine (Z4.calls cH aE _ _ aD aK false _ ?side1 ?side2 cK.out).mono ?_);(case side1=>exact cM (cB aQ.out HB.out));(case side2=>exact bK.out);rintro e eG ⟨rfl,hb⟩;refine ⟨_,rfl,?_⟩;replace aA:=rB aA hb;replace aC:=rB aC hb;replace HB:=rS HB hb;(try clear hb);have dF:=cA2 aA.out;have dG:=cA4 aC.out))
    refine bodyPost_ret (results_cell_row rfl _ _ bL 25 #[aE,.int .i64 0,aE,a1] (0,0) _ rfl (bm aC.out) Tryd.underlying25 rfl (by kernel_rfl)) rfl ?_
    exact ⟨xW,bl HB.out⟩
   subst bY;replace H:=hP H rfl;obtain ⟨dH,H⟩:=gI H;obtain ⟨dI,H⟩:=gI H;simp only [Option.some.injEq,Prod.mk.injEq] at H;obtain ⟨rfl,rfl,rfl,rfl⟩:=H;have dJ:=aG.out;have dK:=aH.out;have dL:=cA2 aA.out;go_wp2_with (first|((with_reducible refine gC (f:=93) rfl ?_);refine goesL_ (some 23) rfl rfl Tryd.func93 (by kernel_rfl) rfl #[.agg #[aE,.slice aI aD.length aJ]] rfl xR ?_;(with_reducible refine (Z4.calls cH aE _ _ aD aK true _ ?side1 ?side2 cK.out).mono ?_);(case side1=>exact cM (cB aQ.out HB.out));(case side2=>exact bK.out);rintro e eH ⟨rfl,hb⟩;refine ⟨_,rfl,?_⟩;replace aA:=rB aA hb;replace aC:=rB aC hb;replace HB:=rS HB hb;(try clear hb);have dM:=cA2 aA.out;have bV:0≤(aK:Int):=dT;have bW:aK<(aD.length:Int):=dT;obtain ⟨dN,cN,aT,aV,aW,aX,bA,bD,bG,bH,bI,bJ,aN⟩:=at_T102 aQ.out aK bV bW;cases cN;replace aT:=(HB.out.cell (World.block_lt_of_cell? w _ aT)).trans aT;replace aV:=(HB.out.cell (World.block_lt_of_cell? w _ aV)).trans aV;replace aW:=(HB.out.cell (World.block_lt_of_cell? w _ aW)).trans aW;replace aX:=(HB.out.cell (World.block_lt_of_cell? w _ aX)).trans aX;replace bA:=(HB.out.cell (World.block_lt_of_cell? w _ bA)).trans bA;replace bD:=(HB.out.cell (World.block_lt_of_cell? w _ bD)).trans bD;replace bG:=(HB.out.cell (World.block_lt_of_cell? w _ bG)).trans bG;replace bH:=(HB.out.cell (World.block_lt_of_cell? w _ bH)).trans bH;replace bI:=(HB.out.cell (World.block_lt_of_cell? w _ bI)).trans bI;replace bJ:=(HB.out.cell (World.block_lt_of_cell? w _ bJ)).trans bJ;replace aN:=(HB.out.cell (World.block_lt_of_cell? w _ aN)).trans aN;replace bV:=eq_true bV;replace bW:=eq_true bW)|((with_reducible refine gD (N:=7) rfl ?_);(try (refine gate_guard (by rfl) ?_;dsimp only));refine bE (N:=7) (cs:=#[.int .i64 0,.int .i64 0,.int .i64 0,.int .i64 0]) (t:=25) ?_;intro dO hg eI hbox hb;have cD:=aM (hbox);have dP:=gF hg HB;have dQ:=gF hg HB;have bO:=nM hg aA;have bP:=nH hg aA;have bQ:=nM hg aC;have bT:=nH hg aC;replace aA:=rB aA hb;replace aC:=rB aC hb;replace HB:=rS HB hb;clear hb hbox hg;have dR:=bP.out;have dS:=bO.out;have dU:=bT.out;have dV:=bQ.out;have dW:=cA4 cD.out;have dX:=cA2 aA.out;have dY:=cA4 aC.out))
   refine bodyPost_ret (results_cell_row rfl _ _ bL 25 #[((rd_T102 aD aK).f2.f0),.int .i64 (wS ((rd_T102 aD aK).f2.f1)),aE,a1] (0,0) _ rfl (bm aC.out) Tryd.underlying25 rfl (by kernel_rfl)) rfl ?_
   exact ⟨xW,bl HB.out⟩

end Go.Proofs.YtljbdchibfjbdaaDoor.PFnIns

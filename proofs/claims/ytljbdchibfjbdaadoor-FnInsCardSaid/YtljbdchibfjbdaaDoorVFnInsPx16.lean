/- A part of the proof of laws.FnIns. No condition beyond what its theorems say. -/
import Derived.Test.YtljbdchibfjbdaaDoorVFnInsPx15
namespace Go.Proofs.YtljbdchibfjbdaaDoor.PFnIns
open Go.RowKit Go.Proofs.YtljbdchibfjbdaaDoorW.PrintWords Go.Proofs.YtljbdchibfjbdaaDoorW.PrintLast Go.Proofs.YtljbdchibfjbdaaDoorW.PrintMore
set_option linter.unusedVariables false
set_option linter.unusedSimpArgs false

mutual
def Z20.j0:Nat→Bool→Bool→Bool→Int→Int→Int→Int→Int→Int→Int→Int→Bool→Option (Bool × Bool × Int × Int × Int × Int × Int × Int × Int × Int × Bool)
 | 0,_,_,_,_,_,_,_,_,_,_,_,_=>none
 | k+1,aT,aA,aC,aD,aE,aG,aH,aI,aJ,aK,aN,aQ=>if aT=true then (Z20.j1 k aA aC aD aE aG aH aI aJ aK (wrap64 (aN - 1)) aQ) else (Z20.j1 k aA aC aD aE aG aH aI aJ aK aN aQ)
def Z20.j1:Nat→Bool→Bool→Int→Int→Int→Int→Int→Int→Int→Int→Bool→Option (Bool × Bool × Int × Int × Int × Int × Int × Int × Int × Int × Bool)
 | 0,_,_,_,_,_,_,_,_,_,_,_=>none
 | k+1,aC,aD,aE,aG,aH,aI,aJ,aK,aN,aQ,aT=>(Z68.f aC aD aE aG aH aI aJ aK aN aQ aT).bind fun aA=>(some (aA.1,aA.2.1,aA.2.2.1,aA.2.2.2.1,aA.2.2.2.2.1,aA.2.2.2.2.2.1,aA.2.2.2.2.2.2.1,aA.2.2.2.2.2.2.2.1,aA.2.2.2.2.2.2.2.2.1,aA.2.2.2.2.2.2.2.2.2.1,aA.2.2.2.2.2.2.2.2.2.2))
end
def Z20.f (k:Nat) (aD aE:Bool) (aG aH aI aJ aK aN aQ aT:Int) (aC:Bool):Option (Bool × Bool × Int × Int × Int × Int × Int × Int × Int × Int × Bool):=(Z39.f k aD aE aG aH aI aJ aK aN aQ aT aC).bind fun aA=>(if aA.2.2.2.2.2.2.2.2.1=1 then (Z20.j0 k (decide (aA.2.2.2.2.2.2.2.2.2.1 > 0)) aA.1 aA.2.1 aA.2.2.1 aA.2.2.2.1 aA.2.2.2.2.1 aA.2.2.2.2.2.1 aA.2.2.2.2.2.2.1 aA.2.2.2.2.2.2.2.1 aA.2.2.2.2.2.2.2.2.1 aA.2.2.2.2.2.2.2.2.2.1 aA.2.2.2.2.2.2.2.2.2.2) else (if aA.2.2.2.2.2.2.2.2.1=2 then (Z20.j0 k (decide (aA.2.2.2.2.2.2.2.2.2.1 > 0)) aA.1 aA.2.1 aA.2.2.1 aA.2.2.2.1 aA.2.2.2.2.1 aA.2.2.2.2.2.1 aA.2.2.2.2.2.2.1 aA.2.2.2.2.2.2.2.1 aA.2.2.2.2.2.2.2.2.1 aA.2.2.2.2.2.2.2.2.2.1 aA.2.2.2.2.2.2.2.2.2.2) else (Z20.j0 k false aA.1 aA.2.1 aA.2.2.1 aA.2.2.2.1 aA.2.2.2.2.1 aA.2.2.2.2.2.1 aA.2.2.2.2.2.2.1 aA.2.2.2.2.2.2.2.1 aA.2.2.2.2.2.2.2.2.1 aA.2.2.2.2.2.2.2.2.2.1 aA.2.2.2.2.2.2.2.2.2.2)))
theorem Z20.mono_l:∀ k,(∀ y0 y1 y2 y3 y4 y5 y6 y7 y8 y9 aA aC,LeO (Z20.j0 k y0 y1 y2 y3 y4 y5 y6 y7 y8 y9 aA aC) (Z20.j0 (k+1) y0 y1 y2 y3 y4 y5 y6 y7 y8 y9 aA aC))∧(∀ y0 y1 y2 y3 y4 y5 y6 y7 y8 y9 aA,LeO (Z20.j1 k y0 y1 y2 y3 y4 y5 y6 y7 y8 y9 aA) (Z20.j1 (k+1) y0 y1 y2 y3 y4 y5 y6 y7 y8 y9 aA))
 | 0=>by refine ⟨?_,?_⟩ <;> intros <;> intro r h <;> simp [Z20.j0,Z20.j1] at h
 | k+1=>by
  obtain ⟨ih0,ih1⟩:=Z20.mono_l k;refine ⟨?_,?_⟩
  ·intro y0 y1 y2 y3 y4 y5 y6 y7 y8 y9 aA aC
   unfold Z20.j0
   repeat' (with_reducible first|apply ih1|refine lI ?_ ?_)
  ·intro y0 y1 y2 y3 y4 y5 y6 y7 y8 y9 aA
   unfold Z20.j1
   repeat' (with_reducible exact lR _)
theorem Z20.mono:∀ a0 a1 a2 a3 a4 a5 a6 a7 a8 a9 aA k,LeO (Z20.f k a0 a1 a2 a3 a4 a5 a6 a7 a8 a9 aA) (Z20.f (k+1) a0 a1 a2 a3 a4 a5 a6 a7 a8 a9 aA):=by
 intro a0 a1 a2 a3 a4 a5 a6 a7 a8 a9 aA k;obtain ⟨ih0,ih1⟩:=Z20.mono_l k;unfold Z20.f
 repeat' (with_reducible first|apply ih0|apply Z39.mono|refine lI ?_ ?_|refine lB ?_ fun _=>?_)
set_option maxHeartbeats 60000000 in
set_option maxRecDepth 100000 in
theorem Z20.calls (k:Nat) (bK bL:Bool) (bM bN bO bP bQ bT bU bV:Int) (bH r1 r2:Bool) (r3 r4 r5 r6 r7 r8 r9 cC:Int) (cD:Bool) (w:World) (h:Z20.f k bK bL bM bN bO bP bQ bT bU bV bH=some (r1,r2,r3,r4,r5,r6,r7,r8,r9,cC,cD)) :
  Calls Tryd.prog 91 #[.agg #[bK,bL,bM,bN,bO,bP,bQ,bT,bU,bV,bH]] w fun e w'=>e=.returned (.agg #[r1,r2,r3,r4,r5,r6,r7,r8,r9,cC,cD])∧Below w.heap.size w w':=by
 have dG:=Tryd.underlying102;have HB:=aM (Below.refl w.heap.size w);have H:((Z39.f k bK bL bM bN bO bP bQ bT bU bV bH).bind fun aA=>(if aA.2.2.2.2.2.2.2.2.1=1 then (Z20.j0 k (decide (aA.2.2.2.2.2.2.2.2.2.1 > 0)) aA.1 aA.2.1 aA.2.2.1 aA.2.2.2.1 aA.2.2.2.2.1 aA.2.2.2.2.2.1 aA.2.2.2.2.2.2.1 aA.2.2.2.2.2.2.2.1 aA.2.2.2.2.2.2.2.2.1 aA.2.2.2.2.2.2.2.2.2.1 aA.2.2.2.2.2.2.2.2.2.2) else (if aA.2.2.2.2.2.2.2.2.1=2 then (Z20.j0 k (decide (aA.2.2.2.2.2.2.2.2.2.1 > 0)) aA.1 aA.2.1 aA.2.2.1 aA.2.2.2.1 aA.2.2.2.2.1 aA.2.2.2.2.2.1 aA.2.2.2.2.2.2.1 aA.2.2.2.2.2.2.2.1 aA.2.2.2.2.2.2.2.2.1 aA.2.2.2.2.2.2.2.2.2.1 aA.2.2.2.2.2.2.2.2.2.2) else (Z20.j0 k false aA.1 aA.2.1 aA.2.2.1 aA.2.2.2.1 aA.2.2.2.2.1 aA.2.2.2.2.2.1 aA.2.2.2.2.2.2.1 aA.2.2.2.2.2.2.2.1 aA.2.2.2.2.2.2.2.2.1 aA.2.2.2.2.2.2.2.2.2.1 aA.2.2.2.2.2.2.2.2.2.2))))=some (r1,r2,r3,r4,r5,r6,r7,r8,r9,cC,cD):=h
 clear h;obtain ⟨⟨aK,aN,aQ,aT,aV,aW,aX,bA,aD,bD,bG⟩,cY,H⟩:=hB H
 try dsimp only at H
 have A2:=aM cY;clear cY;have cK:=aM H;clear H;go_enter Tryd.func91,Tryd.ntmps91
 go_upto_region 2 with (first|((with_reducible refine gD (N:=1) rfl ?_);refine bE (N:=1) (cs:=#[bK,bL,bM,bN,bO,bP,bQ,bT,bU,bV,bH]) (t:=102) ?_;intro cH hg w4 hbox hb;have aC:=aM (hbox);have dH:=gF hg HB;have dI:=gF hg HB;replace HB:=rS HB hb;clear hb hbox hg)|((with_reducible refine gD (N:=2) rfl ?_);refine bE (N:=2) (cs:=#[.bool false,.bool false,.int .i64 0,.int .i64 0,.int .i64 0,.int .i64 0,.int .i64 0,.int .i64 0,.int .i64 0,.int .i64 0,.bool false]) (t:=102) ?_;intro bX hg w5 hbox hb;have aE:=aM (hbox);have dJ:=gF hg HB;have dK:=gF hg HB;have aG:=nM hg aC;have aH:=nH hg aC;replace aC:=rB aC hb;replace HB:=rS HB hb;clear hb hbox hg;have eC:=aG.out;have eD:=aH.out;have eE:=cA11 aC.out)|((with_reducible refine gC (f:=100) rfl ?_);refine goesL_ (some 4) rfl rfl Tryd.func100 (by kernel_rfl) rfl #[.agg #[bK,bL,bM,bN,bO,bP,bQ,bT,bU,bV,bH]] rfl xR ?_;(with_reducible refine (Z39.calls k bK bL bM bN bO bP bQ bT bU bV bH aK aN aQ aT aV aW aX bA aD bD bG _ A2.out).mono ?_);rintro e w8 ⟨rfl,hb⟩;refine ⟨_,rfl,?_⟩;replace aC:=rB aC hb;replace aE:=rB aE hb;replace HB:=rS HB hb;(try clear hb);have eF:=cA11 aC.out))
 go_cut [17] (fun dA wc=>∃ (kq:Nat) (bW:Bool),dA=.bool bW∧Aside0 (Z20.j0 kq bW aK aN aQ aT aV aW aX bA aD bD bG=some (r1,r2,r3,r4,r5,r6,r7,r8,r9,cC,cD))∧Aside0 (kq≤k)∧Aside0 (wc.heap[cH]?=some (.cells #[aK,aN,aQ,aT,aV,aW,aX,bA,aD,bD,bG] 102 (0,0)))∧Aside0 (wc.heap[bX]?=some (.cells #[.bool false,.bool false,.int .i64 0,.int .i64 0,.int .i64 0,.int .i64 0,.int .i64 0,.int .i64 0,.int .i64 0,.int .i64 0,.bool false] 102 (0,0)))∧Aside0 (Below w.heap.size w wc))
 case first =>
  have H:=cK.out;clear cK
  by_cases bI:aD=1
  case pos =>
   rw [if_pos bI] at H
   have aJ:(aD == 1)=true:=beq_iff_eq.mpr bI;have bY:(aD != 1)=false:=bne_eq_false_iff_eq.mpr bI;clear bI
   (skip)
   have H':=aM H;clear H;have dL:=aG.out;have dM:=aH.out;have dN:=cA11 aC.out;go_wp2
   go_meet
   case rel=>exact ⟨_,(decide (bD > 0)),xE,H',⟨by omega⟩,⟨bm aC.out⟩,⟨fm aE.out⟩,⟨bl HB.out⟩⟩
  rw [if_neg bI] at H
  have aJ:(aD == 1)=false:=beq_eq_false_iff_ne.mpr bI;have bY:(aD != 1)=true:=bne_iff_ne.mpr bI
  (skip)
  by_cases bJ:aD=2
  case neg =>
   rw [if_neg bJ] at H
   have bZ:(aD == 2)=false:=beq_eq_false_iff_ne.mpr bJ;have cA:(aD != 2)=true:=bne_iff_ne.mpr bJ;have H':=aM H;clear H;have dO:=aG.out;have dP:=aH.out;have dQ:=cA11 aC.out;go_wp2
   go_meet
   case rel=>exact ⟨_,(false),xE,H',⟨by omega⟩,⟨bm aC.out⟩,⟨fm aE.out⟩,⟨bl HB.out⟩⟩
  rw [if_pos bJ] at H
  have bZ:(aD == 2)=true:=beq_iff_eq.mpr bJ;have cA:(aD != 2)=false:=bne_eq_false_iff_eq.mpr bJ;clear bJ;have H':=aM H;clear H;have dR:=aG.out;have dS:=aH.out;have dU:=cA11 aC.out;go_wp2
  go_meet
  case rel=>exact ⟨_,(decide (bD > 0)),xE,H',⟨by omega⟩,⟨bm aC.out⟩,⟨fm aE.out⟩,⟨bl HB.out⟩⟩
 case rest =>
  clear cK
  repeat first|clear c1|clear p2|clear c6|clear c9|clear bI|clear aJ|clear bY|clear dB|clear bJ|clear bZ|clear cA|clear dC|clear dD
  obtain ⟨kq,bW,rfl,HA,HJ2,aC,aE,HB⟩:=hcut;cases kq with
  | zero=>exact absurd HA.out (by simp [Z20.j0])
  | succ dE =>
   have H:=HA.out;clear HA;simp only [Z20.j0] at H;have cG:=aM H;clear H;go_upto_if 17 with (fail)
   go_cut [] (fun wc=>∃ (kq:Nat) (aI:Int),Aside0 (Z20.j1 kq aK aN aQ aT aV aW aX bA aD aI bG=some (r1,r2,r3,r4,r5,r6,r7,r8,r9,cC,cD))∧Aside0 (kq≤dE)∧Aside0 (wc.heap[cH]?=some (.cells #[aK,aN,aQ,aT,aV,aW,aX,bA,aD,aI,bG] 102 (0,0)))∧Aside0 (wc.heap[bX]?=some (.cells #[.bool false,.bool false,.int .i64 0,.int .i64 0,.int .i64 0,.int .i64 0,.int .i64 0,.int .i64 0,.int .i64 0,.int .i64 0,.bool false] 102 (0,0)))∧Aside0 (Below w.heap.size w wc))
   case first =>
    have H:=cG.out;clear cG
    by_cases cE:bW=true
    case neg =>
     replace cE:=Bool.eq_false_iff.mpr cE;subst cE;replace H:=hF H;have H':=aM H;clear H;go_wp2
     go_meet
     case rel=>exact ⟨_,(bD),H',⟨by have:=HJ2.out;omega⟩,⟨bk aC.out⟩,⟨bk aE.out⟩,⟨bl HB.out⟩⟩
    subst cE;replace H:=hP H rfl;have H':=aM H;clear H;have dV:=aG.out;have dW:=aH.out;have dX:=cA11 aC.out;go_wp2
    go_meet
    case rel=>exact ⟨_,(wrap64 (bD - 1)),H',⟨by have:=HJ2.out;omega⟩,⟨by (with_reducible repeat (first|refine blk_drewN ?_ _|refine blk_drew ?_|refine blk_alloc ?_ _));refine blk_put (cs:=#[aK,aN,aQ,aT,aV,aW,aX,bA,aD,bD,bG]) ?_ 9 _ rfl;(with_reducible repeat (first|refine blk_drewN ?_ _|refine blk_drew ?_|refine blk_alloc ?_ _));exact aC.out⟩,⟨fm aE.out⟩,⟨bl HB.out⟩⟩
   case rest =>
    clear cG
    repeat first|clear c1|clear c2|clear p2|clear c6|clear p6|clear c9|clear bI|clear aJ|clear bY|clear dB|clear bJ|clear bZ|clear cA|clear dC|clear dD|clear cE|clear eH|clear p2
    obtain ⟨kq,aI,HA,HJ17,aC,aE,HB⟩:=hcut;cases kq with
    | zero=>exact absurd HA.out (by simp [Z20.j1])
    | succ eG =>
     have H:=HA.out;clear HA;simp only [Z20.j1] at H;obtain ⟨⟨cL,cN,cO,cP,cQ,cR,cS,cT,cU,cV,cW⟩,cX,H⟩:=hB H
     try dsimp only at H
     have dF:=aM cX;clear cX;simp only [Option.some.injEq,Prod.mk.injEq] at H;obtain ⟨rfl,rfl,rfl,rfl,rfl,rfl,rfl,rfl,rfl,rfl,rfl⟩:=H;have dY:=aG.out;have dZ:=aH.out;have eA:=cA11 aC.out;go_wp2_with (((with_reducible refine gC (f:=101) rfl ?_);refine goesL_ (some 23) rfl rfl Tryd.func101 (by kernel_rfl) rfl #[.agg #[aK,aN,aQ,aT,aV,aW,aX,bA,aD,aI,bG]] rfl xR ?_;(with_reducible refine (Z68.calls aK aN aQ aT aV aW aX bA aD aI bG cL cN cO cP cQ cR cS cT cU cV cW _ dF.out).mono ?_);rintro e eI ⟨rfl,hb⟩;refine ⟨_,rfl,?_⟩;replace aC:=rB aC hb;replace aE:=rB aE hb;replace HB:=rS HB hb;(try clear hb);have eB:=cA11 aE.out))
     refine bodyPost_ret (results_cell_row rfl _ _ bX 102 #[cL,cN,cO,cP,cQ,cR,cS,cT,cU,cV,cW] (0,0) _ rfl (bm aE.out) Tryd.underlying102 rfl (by kernel_rfl)) rfl ?_
     exact ⟨xW,bl HB.out⟩

end Go.Proofs.YtljbdchibfjbdaaDoor.PFnIns

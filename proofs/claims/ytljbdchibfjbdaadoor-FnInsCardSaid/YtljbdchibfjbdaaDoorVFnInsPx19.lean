/- A part of the proof of laws.FnIns. No condition beyond what its theorems say. -/
import Derived.Test.YtljbdchibfjbdaaDoorVFnInsPx15
namespace Go.Proofs.YtljbdchibfjbdaaDoor.PFnIns
open Go.RowKit Go.Proofs.YtljbdchibfjbdaaDoorW.PrintWords Go.Proofs.YtljbdchibfjbdaaDoorW.PrintLast Go.Proofs.YtljbdchibfjbdaaDoorW.PrintMore
set_option linter.unusedVariables false
set_option linter.unusedSimpArgs false

mutual
def Z17.j0:Nat→Int→Bool→Bool→Bool→Int→Int→Int→Int→Int→Int→Int→Int→Bool→Option (Bool × Bool × Int × Int × Int × Int × Int × Int × Int × Int × Bool)
 | 0,_,_,_,_,_,_,_,_,_,_,_,_,_=>none
 | k+1,x1,aT,aC,aD,aE,aG,aH,aI,aJ,aK,aA,aN,aQ=>if aT=true then (some (aC,aD,aE,aG,aH,aI,aJ,aK,aA,aN,aQ)) else (if aA=3 then (Z17.j1 k x1 (x1 != 3) aC aD aE aG aH aI aJ aK aA aN aQ) else (Z17.j1 k x1 false aC aD aE aG aH aI aJ aK aA aN aQ))
def Z17.j1:Nat→Int→Bool→Bool→Bool→Int→Int→Int→Int→Int→Int→Int→Int→Bool→Option (Bool × Bool × Int × Int × Int × Int × Int × Int × Int × Int × Bool)
 | 0,_,_,_,_,_,_,_,_,_,_,_,_,_=>none
 | k+1,x1,bA,aG,aH,aI,aJ,aK,aN,aQ,aT,aX,aW,aV=>if bA=true then (if x1=3 then ((Z68.f aG aH aI aJ aK aN aQ aT x1 0 aV).bind fun aA=>(some (aA.1,aA.2.1,aA.2.2.1,aA.2.2.2.1,aA.2.2.2.2.1,aA.2.2.2.2.2.1,aA.2.2.2.2.2.2.1,aA.2.2.2.2.2.2.2.1,aA.2.2.2.2.2.2.2.2.1,aA.2.2.2.2.2.2.2.2.2.1,aA.2.2.2.2.2.2.2.2.2.2))) else ((Z68.f aG aH aI aJ aK aN aQ aT x1 4 aV).bind fun aC=>(some (aC.1,aC.2.1,aC.2.2.1,aC.2.2.2.1,aC.2.2.2.2.1,aC.2.2.2.2.2.1,aC.2.2.2.2.2.2.1,aC.2.2.2.2.2.2.2.1,aC.2.2.2.2.2.2.2.2.1,aC.2.2.2.2.2.2.2.2.2.1,aC.2.2.2.2.2.2.2.2.2.2)))) else (if x1=3 then ((Z68.f aG aH aI aJ aK aN aQ aT x1 0 aV).bind fun aD=>(some (aD.1,aD.2.1,aD.2.2.1,aD.2.2.2.1,aD.2.2.2.2.1,aD.2.2.2.2.2.1,aD.2.2.2.2.2.2.1,aD.2.2.2.2.2.2.2.1,aD.2.2.2.2.2.2.2.2.1,aD.2.2.2.2.2.2.2.2.2.1,aD.2.2.2.2.2.2.2.2.2.2))) else ((Z68.f aG aH aI aJ aK aN aQ aT x1 aW aV).bind fun aE=>(some (aE.1,aE.2.1,aE.2.2.1,aE.2.2.2.1,aE.2.2.2.2.1,aE.2.2.2.2.2.1,aE.2.2.2.2.2.2.1,aE.2.2.2.2.2.2.2.1,aE.2.2.2.2.2.2.2.2.1,aE.2.2.2.2.2.2.2.2.2.1,aE.2.2.2.2.2.2.2.2.2.2))))
end
def Z17.f (k:Nat) (aC aD:Bool) (aE aG aH aI aJ aK aN aQ:Int) (aA:Bool) (a1:Int):Option (Bool × Bool × Int × Int × Int × Int × Int × Int × Int × Int × Bool):=(Z9.f k aC aD aE aG aH aI aJ aK aN aQ aA).bind fun aT=>(if aT=true then (if aC=true then ((Z2.f a1 1 3).bind fun aV=>(Z17.j0 k a1 (!aV) aC aD aE aG aH aI aJ aK aN aQ aA)) else (Z17.j0 k a1 true aC aD aE aG aH aI aJ aK aN aQ aA)) else (Z17.j0 k a1 true aC aD aE aG aH aI aJ aK aN aQ aA))
theorem Z17.mono_l:∀ k,(∀ y0 y1 y2 y3 y4 y5 y6 y7 y8 y9 aA aC aD,LeO (Z17.j0 k y0 y1 y2 y3 y4 y5 y6 y7 y8 y9 aA aC aD) (Z17.j0 (k+1) y0 y1 y2 y3 y4 y5 y6 y7 y8 y9 aA aC aD))∧(∀ y0 y1 y2 y3 y4 y5 y6 y7 y8 y9 aA aC aD,LeO (Z17.j1 k y0 y1 y2 y3 y4 y5 y6 y7 y8 y9 aA aC aD) (Z17.j1 (k+1) y0 y1 y2 y3 y4 y5 y6 y7 y8 y9 aA aC aD))
 | 0=>by refine ⟨?_,?_⟩ <;> intros <;> intro r h <;> simp [Z17.j0,Z17.j1] at h
 | k+1=>by
  obtain ⟨ih0,ih1⟩:=Z17.mono_l k;refine ⟨?_,?_⟩
  ·intro y0 y1 y2 y3 y4 y5 y6 y7 y8 y9 aA aC aD
   unfold Z17.j0
   repeat' (with_reducible first|apply ih1|exact lR _|refine lI ?_ ?_)
  ·intro y0 y1 y2 y3 y4 y5 y6 y7 y8 y9 aA aC aD
   unfold Z17.j1
   repeat' (with_reducible exact lR _)
theorem Z17.mono:∀ a0 a1 a2 a3 a4 a5 a6 a7 a8 a9 aA aC k,LeO (Z17.f k a0 a1 a2 a3 a4 a5 a6 a7 a8 a9 aA aC) (Z17.f (k+1) a0 a1 a2 a3 a4 a5 a6 a7 a8 a9 aA aC):=by
 intro a0 a1 a2 a3 a4 a5 a6 a7 a8 a9 aA aC k;obtain ⟨ih0,ih1⟩:=Z17.mono_l k;unfold Z17.f
 repeat' (with_reducible first|apply ih0|apply Z9.mono|exact lR _|refine lI ?_ ?_|refine lB ?_ fun _=>?_)
set_option maxHeartbeats 60000000 in
set_option maxRecDepth 100000 in
theorem Z17.calls (k:Nat) (aQ aE:Bool) (aG aH aI aJ aK aN aT aV:Int) (aA:Bool) (a1:Int) (r1 r2:Bool) (r3 r4 r5 r6 r7 r8 r9 bN:Int) (bO:Bool) (w:World) (h:Z17.f k aQ aE aG aH aI aJ aK aN aT aV aA a1=some (r1,r2,r3,r4,r5,r6,r7,r8,r9,bN,bO)) :
  Calls Tryd.prog 102 #[.agg #[aQ,aE,aG,aH,aI,aJ,aK,aN,aT,aV,aA],a1] w fun e w'=>e=.returned (.agg #[r1,r2,r3,r4,r5,r6,r7,r8,r9,bN,bO])∧Below w.heap.size w w':=by
 have eQ:=Tryd.underlying102;have HB:=aM (Below.refl w.heap.size w);have H:((Z9.f k aQ aE aG aH aI aJ aK aN aT aV aA).bind fun bQ=>(if bQ=true then (if aQ=true then ((Z2.f a1 1 3).bind fun bM=>(Z17.j0 k a1 (!bM) aQ aE aG aH aI aJ aK aN aT aV aA)) else (Z17.j0 k a1 true aQ aE aG aH aI aJ aK aN aT aV aA)) else (Z17.j0 k a1 true aQ aE aG aH aI aJ aK aN aT aV aA)))=some (r1,r2,r3,r4,r5,r6,r7,r8,r9,bN,bO):=h
 clear h;have bW:=aM H;clear H;go_enter Tryd.func102,Tryd.ntmps102
 go_upto_region 1 with (first|((with_reducible refine gD (N:=2) rfl ?_);refine bE (N:=2) (cs:=#[aQ,aE,aG,aH,aI,aJ,aK,aN,aT,aV,aA]) (t:=102) ?_;intro bD hg w4 hbox hb;have aC:=aM (hbox);have eR:=gF hg HB;have eS:=gF hg HB;replace HB:=rS HB hb;clear hb hbox hg)|((with_reducible refine gD (N:=4) rfl ?_);refine bE (N:=4) (cs:=#[.bool false,.bool false,.int .i64 0,.int .i64 0,.int .i64 0,.int .i64 0,.int .i64 0,.int .i64 0,.int .i64 0,.int .i64 0,.bool false]) (t:=102) ?_;intro bA hg w5 hbox hb;have aD:=aM (hbox);have eT:=gF hg HB;have eU:=gF hg HB;have aW:=nM hg aC;have aX:=nH hg aC;replace aC:=rB aC hb;replace HB:=rS HB hb;clear hb hbox hg))
 (try simp only [Act.put,sA,sZ,sS])
 go_cut [17] (fun eG wc=>∃ (kq:Nat) (bJ:Bool),eG=.bool bJ∧Aside0 (Z17.j0 kq a1 bJ aQ aE aG aH aI aJ aK aN aT aV aA=some (r1,r2,r3,r4,r5,r6,r7,r8,r9,bN,bO))∧Aside0 (kq≤k)∧Aside0 (wc.heap[bD]?=some (.cells #[aQ,aE,aG,aH,aI,aJ,aK,aN,aT,aV,aA] 102 (0,0)))∧Aside0 (wc.heap[bA]?=some (.cells #[.bool false,.bool false,.int .i64 0,.int .i64 0,.int .i64 0,.int .i64 0,.int .i64 0,.int .i64 0,.int .i64 0,.int .i64 0,.bool false] 102 (0,0)))∧Aside0 (Below w.heap.size w wc))
 case first =>
  have H:=bW.out;clear bW;obtain ⟨bQ,eE,H⟩:=hB H;have A6:=aM eE;clear eE
  by_cases c7:bQ=true
  case neg =>
   replace c7:=Bool.eq_false_iff.mpr c7;subst c7;replace H:=hF H;have H':=aM H;clear H;have eV:=aW.out;have eW:=aX.out;have eX:=cA11 aC.out;go_wp2_with (((with_reducible refine gC (f:=89) rfl ?_);refine goesL_ (some 6) rfl rfl Tryd.func89 (by kernel_rfl) rfl #[.agg #[aQ,aE,aG,aH,aI,aJ,aK,aN,aT,aV,aA]] rfl xR ?_;(with_reducible refine (Z9.calls k aQ aE aG aH aI aJ aK aN aT aV aA false _ A6.out).mono ?_);rintro e gR ⟨rfl,hb⟩;refine ⟨_,rfl,?_⟩;replace aC:=rB aC hb;replace aD:=rB aD hb;replace HB:=rS HB hb;(try clear hb)))
   go_meet
   case rel=>exact ⟨_,(true),xE,H',⟨by omega⟩,⟨bk aC.out⟩,⟨bk aD.out⟩,⟨bl HB.out⟩⟩
  subst c7;replace H:=hP H rfl
  by_cases c8:aQ=true
  case neg =>
   replace c8:=Bool.eq_false_iff.mpr c8;subst c8;replace H:=hF H;have H':=aM H;clear H;have eY:=aW.out;have eZ:=aX.out;have fA:=cA11 aC.out;go_wp2_with (((with_reducible refine gC (f:=89) rfl ?_);refine goesL_ (some 6) rfl rfl Tryd.func89 (by kernel_rfl) rfl #[.agg #[.bool false,aE,aG,aH,aI,aJ,aK,aN,aT,aV,aA]] rfl xR ?_;(with_reducible refine (Z9.calls k false aE aG aH aI aJ aK aN aT aV aA true _ A6.out).mono ?_);rintro e gS ⟨rfl,hb⟩;refine ⟨_,rfl,?_⟩;replace aC:=rB aC hb;replace aD:=rB aD hb;replace HB:=rS HB hb;(try clear hb);have fB:=cA11 aC.out))
   go_meet
   case rel=>exact ⟨_,(true),xE,H',⟨by omega⟩,⟨bk aC.out⟩,⟨bk aD.out⟩,⟨bl HB.out⟩⟩
  subst c8;replace H:=hP H rfl;obtain ⟨bM,eF,H⟩:=hB H;have A9:=aM eF;clear eF;have H':=aM H;clear H;have fC:=aW.out;have fD:=aX.out;have fE:=cA11 aC.out;go_wp2_with (first|((with_reducible refine gC (f:=89) rfl ?_);refine goesL_ (some 6) rfl rfl Tryd.func89 (by kernel_rfl) rfl #[.agg #[.bool true,aE,aG,aH,aI,aJ,aK,aN,aT,aV,aA]] rfl xR ?_;(with_reducible refine (Z9.calls k true aE aG aH aI aJ aK aN aT aV aA true _ A6.out).mono ?_);rintro e gT ⟨rfl,hb⟩;refine ⟨_,rfl,?_⟩;replace aC:=rB aC hb;replace aD:=rB aD hb;replace HB:=rS HB hb;(try clear hb);have fF:=cA11 aC.out)|(go_at_call 69;(with_reducible refine (Z2.calls a1 1 3 bM _ A9.out).mono ?_);rintro e w' ⟨rfl,⟨nd,rfl⟩⟩))
  go_meet
  case rel=>exact ⟨_,(!bM),xE,H',⟨by omega⟩,⟨bk aC.out⟩,⟨bk aD.out⟩,⟨bl HB.out⟩⟩
 case rest =>
  clear bW
  repeat first|clear c1|clear p2|clear c7|clear c8|clear eH|clear eI|clear eJ
  obtain ⟨kq,bJ,rfl,HA,HJ2,aC,aD,HB⟩:=hcut;cases kq with
  | zero=>exact absurd HA.out (by simp [Z17.j0])
  | succ eK =>
   have H:=HA.out;clear HA;simp only [Z17.j0] at H
   by_cases bP:bJ=true
   case pos =>
    subst bP;replace H:=hP H rfl;simp only [Option.some.injEq,Prod.mk.injEq] at H;obtain ⟨rfl,rfl,rfl,rfl,rfl,rfl,rfl,rfl,rfl,rfl,rfl⟩:=H;have fG:=aW.out;have fH:=aX.out;have fI:=cA11 aC.out;have fK:=cA11 aD.out;go_wp2
    refine bodyPost_ret (results_cell_row rfl _ _ bA 102 #[aQ,aE,aG,aH,aI,aJ,aK,aN,aT,aV,aA] (0,0) _ rfl (bm aD.out) Tryd.underlying102 rfl (by kernel_rfl)) rfl ?_
    exact ⟨xW,bl HB.out⟩
   replace bP:=Bool.eq_false_iff.mpr bP;subst bP;replace H:=hF H;have bT:=aM H;clear H;go_upto_region 3 with (fail)
   go_cut [25] (fun eL wc=>∃ (kq:Nat) (bH:Bool),eL=.bool bH∧Aside0 (Z17.j1 kq a1 bH aQ aE aG aH aI aJ aK aN aT aV aA=some (r1,r2,r3,r4,r5,r6,r7,r8,r9,bN,bO))∧Aside0 (kq≤eK)∧Aside0 (wc.heap[bD]?=some (.cells #[aQ,aE,aG,aH,aI,aJ,aK,aN,aT,aV,aA] 102 (0,0)))∧Aside0 (wc.heap[bA]?=some (.cells #[.bool false,.bool false,.int .i64 0,.int .i64 0,.int .i64 0,.int .i64 0,.int .i64 0,.int .i64 0,.int .i64 0,.int .i64 0,.bool false] 102 (0,0)))∧Aside0 (Below w.heap.size w wc))
   case first =>
    have H:=bT.out;clear bT
    by_cases bI:aT=3
    case neg =>
     rw [if_neg bI] at H
     have bG:(aT == 3)=false:=beq_eq_false_iff_ne.mpr bI;have bU:(aT != 3)=true:=bne_iff_ne.mpr bI
     (skip)
     have H':=aM H;clear H;have fL:=aW.out;have fM:=aX.out;have fN:=cA11 aC.out;go_wp2
     go_meet
     case rel=>exact ⟨_,(false),xE,H',⟨by have:=HJ2.out;omega⟩,⟨bk aC.out⟩,⟨bk aD.out⟩,⟨bl HB.out⟩⟩
    rw [if_pos bI] at H
    have bG:(aT == 3)=true:=beq_iff_eq.mpr bI;have bU:(aT != 3)=false:=bne_eq_false_iff_eq.mpr bI;clear bI
    (skip)
    have H':=aM H;clear H;have fO:=aW.out;have fP:=aX.out;have fQ:=cA11 aC.out;go_wp2
    go_meet
    case rel=>exact ⟨_,((a1 != 3)),xE,H',⟨by have:=HJ2.out;omega⟩,⟨bk aC.out⟩,⟨bk aD.out⟩,⟨bl HB.out⟩⟩
   case rest =>
    clear bT
    repeat first|clear c1|clear c2|clear p2|clear c7|clear c8|clear eH|clear eI|clear eJ|clear bP|clear gU|clear bI|clear bG|clear bU|clear gV|clear gW|clear p2
    obtain ⟨kq,bH,rfl,HA,HJ24,aC,aD,HB⟩:=hcut;cases kq with
    | zero=>exact absurd HA.out (by simp [Z17.j1])
    | succ gQ =>
     have H:=HA.out;clear HA;simp only [Z17.j1] at H
     by_cases bV:bH=true
     case pos =>
      subst bV;replace H:=hP H rfl
      by_cases bK:a1=3
      case neg =>
       rw [if_neg bK] at H
       have eA:(a1 == 3)=false:=beq_eq_false_iff_ne.mpr bK;have eB:(a1 != 3)=true:=bne_iff_ne.mpr bK;obtain ⟨⟨bX,bY,bZ,cA,cC,cD,cE,cG,cH,cK,cL⟩,cN,H⟩:=hB H
       try dsimp only at H
       have eM:=aM cN;clear cN;simp only [Option.some.injEq,Prod.mk.injEq] at H;obtain ⟨rfl,rfl,rfl,rfl,rfl,rfl,rfl,rfl,rfl,rfl,rfl⟩:=H;have fS:=aW.out;have fT:=aX.out;have fU:=cA11 aC.out;go_wp2_with (((with_reducible refine gC (f:=101) rfl ?_);refine goesL_ (some 33) rfl rfl Tryd.func101 (by kernel_rfl) rfl #[.agg #[aQ,aE,aG,aH,aI,aJ,aK,aN,a1,.int .i64 4,aA]] rfl xR ?_;(with_reducible refine (Z68.calls aQ aE aG aH aI aJ aK aN a1 4 aA bX bY bZ cA cC cD cE cG cH cK cL _ eM.out).mono ?_);rintro e gX ⟨rfl,hb⟩;refine ⟨_,rfl,?_⟩;replace aC:=aM (bB (g:=bD) (o:=.cells #[aQ,aE,aG,aH,aI,aJ,aK,aN,a1,.int .i64 4,aA] 102 (0,0)) (by (with_reducible repeat (first|refine blk_drewN ?_ _|refine blk_drew ?_|refine blk_alloc ?_ _));refine blk_put (cs:=#[aQ,aE,aG,aH,aI,aJ,aK,aN,aT,.int .i64 4,aA]) ?_ 8 _ rfl;(with_reducible repeat (first|refine blk_drewN ?_ _|refine blk_drew ?_|refine blk_alloc ?_ _));refine blk_put (cs:=#[aQ,aE,aG,aH,aI,aJ,aK,aN,aT,aV,aA]) ?_ 9 _ rfl;(with_reducible repeat (first|refine blk_drewN ?_ _|refine blk_drew ?_|refine blk_alloc ?_ _));exact aC.out) hb);replace aD:=aM (bB (fm aD.out) hb);replace HB:=rS HB hb;(try clear hb);have fV:=cA11 aD.out))
       refine bodyPost_ret (results_cell_row rfl _ _ bA 102 #[bX,bY,bZ,cA,cC,cD,cE,cG,cH,cK,cL] (0,0) _ rfl (bm aD.out) Tryd.underlying102 rfl (by kernel_rfl)) rfl ?_
       exact ⟨xW,bl HB.out⟩
      rw [if_pos bK] at H
      have eA:(a1 == 3)=true:=beq_iff_eq.mpr bK;have eB:(a1 != 3)=false:=bne_eq_false_iff_eq.mpr bK;clear bK;obtain ⟨⟨cO,cP,cQ,cR,cS,cT,cU,cV,cW,cX,cY⟩,dA,H⟩:=hB H
      try dsimp only at H
      have eN:=aM dA;clear dA;simp only [Option.some.injEq,Prod.mk.injEq] at H;obtain ⟨rfl,rfl,rfl,rfl,rfl,rfl,rfl,rfl,rfl,rfl,rfl⟩:=H;have fW:=aW.out;have fX:=aX.out;have fY:=cA11 aC.out;go_wp2_with (((with_reducible refine gC (f:=101) rfl ?_);refine goesL_ (some 33) rfl rfl Tryd.func101 (by kernel_rfl) rfl #[.agg #[aQ,aE,aG,aH,aI,aJ,aK,aN,a1,.int .i64 0,aA]] rfl xR ?_;(with_reducible refine (Z68.calls aQ aE aG aH aI aJ aK aN a1 0 aA cO cP cQ cR cS cT cU cV cW cX cY _ eN.out).mono ?_);rintro e gY ⟨rfl,hb⟩;refine ⟨_,rfl,?_⟩;replace aC:=aM (bB (g:=bD) (o:=.cells #[aQ,aE,aG,aH,aI,aJ,aK,aN,a1,.int .i64 0,aA] 102 (0,0)) (by (with_reducible repeat (first|refine blk_drewN ?_ _|refine blk_drew ?_|refine blk_alloc ?_ _));refine blk_put (cs:=#[aQ,aE,aG,aH,aI,aJ,aK,aN,aT,.int .i64 0,aA]) ?_ 8 _ rfl;(with_reducible repeat (first|refine blk_drewN ?_ _|refine blk_drew ?_|refine blk_alloc ?_ _));refine blk_put (cs:=#[aQ,aE,aG,aH,aI,aJ,aK,aN,aT,.int .i64 4,aA]) ?_ 9 _ rfl;(with_reducible repeat (first|refine blk_drewN ?_ _|refine blk_drew ?_|refine blk_alloc ?_ _));refine blk_put (cs:=#[aQ,aE,aG,aH,aI,aJ,aK,aN,aT,aV,aA]) ?_ 9 _ rfl;(with_reducible repeat (first|refine blk_drewN ?_ _|refine blk_drew ?_|refine blk_alloc ?_ _));exact aC.out) hb);replace aD:=aM (bB (fm aD.out) hb);replace HB:=rS HB hb;(try clear hb);have gA:=cA11 aD.out))
      refine bodyPost_ret (results_cell_row rfl _ _ bA 102 #[cO,cP,cQ,cR,cS,cT,cU,cV,cW,cX,cY] (0,0) _ rfl (bm aD.out) Tryd.underlying102 rfl (by kernel_rfl)) rfl ?_
      exact ⟨xW,bl HB.out⟩
     replace bV:=Bool.eq_false_iff.mpr bV;subst bV;replace H:=hF H
     by_cases bL:a1=3
     case neg =>
      rw [if_neg bL] at H
      have eC:(a1 == 3)=false:=beq_eq_false_iff_ne.mpr bL;have eD:(a1 != 3)=true:=bne_iff_ne.mpr bL;obtain ⟨⟨dB,dC,dD,dE,dF,dG,dH,dI,dJ,dK,dL⟩,dM,H⟩:=hB H
      try dsimp only at H
      have eO:=aM dM;clear dM;simp only [Option.some.injEq,Prod.mk.injEq] at H;obtain ⟨rfl,rfl,rfl,rfl,rfl,rfl,rfl,rfl,rfl,rfl,rfl⟩:=H;have gB:=aW.out;have gG:=aX.out;have gH:=cA11 aC.out;go_wp2_with (((with_reducible refine gC (f:=101) rfl ?_);refine goesL_ (some 33) rfl rfl Tryd.func101 (by kernel_rfl) rfl #[.agg #[aQ,aE,aG,aH,aI,aJ,aK,aN,a1,aV,aA]] rfl xR ?_;(with_reducible refine (Z68.calls aQ aE aG aH aI aJ aK aN a1 aV aA dB dC dD dE dF dG dH dI dJ dK dL _ eO.out).mono ?_);rintro e gZ ⟨rfl,hb⟩;refine ⟨_,rfl,?_⟩;replace aC:=aM (bB (g:=bD) (o:=.cells #[aQ,aE,aG,aH,aI,aJ,aK,aN,a1,aV,aA] 102 (0,0)) (by (with_reducible repeat (first|refine blk_drewN ?_ _|refine blk_drew ?_|refine blk_alloc ?_ _));refine blk_put (cs:=#[aQ,aE,aG,aH,aI,aJ,aK,aN,aT,aV,aA]) ?_ 8 _ rfl;(with_reducible repeat (first|refine blk_drewN ?_ _|refine blk_drew ?_|refine blk_alloc ?_ _));exact aC.out) hb);replace aD:=aM (bB (fm aD.out) hb);replace HB:=rS HB hb;(try clear hb);have gJ:=cA11 aD.out))
      refine bodyPost_ret (results_cell_row rfl _ _ bA 102 #[dB,dC,dD,dE,dF,dG,dH,dI,dJ,dK,dL] (0,0) _ rfl (bm aD.out) Tryd.underlying102 rfl (by kernel_rfl)) rfl ?_
      exact ⟨xW,bl HB.out⟩
     rw [if_pos bL] at H
     have eC:(a1 == 3)=true:=beq_iff_eq.mpr bL;have eD:(a1 != 3)=false:=bne_eq_false_iff_eq.mpr bL;clear bL;obtain ⟨⟨dN,dO,dP,dQ,dR,dS,dU,dV,dW,dX,dY⟩,dZ,H⟩:=hB H
     try dsimp only at H
     have eP:=aM dZ;clear dZ;simp only [Option.some.injEq,Prod.mk.injEq] at H;obtain ⟨rfl,rfl,rfl,rfl,rfl,rfl,rfl,rfl,rfl,rfl,rfl⟩:=H;have gK:=aW.out;have gM:=aX.out;have gO:=cA11 aC.out;go_wp2_with (((with_reducible refine gC (f:=101) rfl ?_);refine goesL_ (some 33) rfl rfl Tryd.func101 (by kernel_rfl) rfl #[.agg #[aQ,aE,aG,aH,aI,aJ,aK,aN,a1,.int .i64 0,aA]] rfl xR ?_;(with_reducible refine (Z68.calls aQ aE aG aH aI aJ aK aN a1 0 aA dN dO dP dQ dR dS dU dV dW dX dY _ eP.out).mono ?_);rintro e hD ⟨rfl,hb⟩;refine ⟨_,rfl,?_⟩;replace aC:=aM (bB (g:=bD) (o:=.cells #[aQ,aE,aG,aH,aI,aJ,aK,aN,a1,.int .i64 0,aA] 102 (0,0)) (by (with_reducible repeat (first|refine blk_drewN ?_ _|refine blk_drew ?_|refine blk_alloc ?_ _));refine blk_put (cs:=#[aQ,aE,aG,aH,aI,aJ,aK,aN,aT,.int .i64 0,aA]) ?_ 8 _ rfl;(with_reducible repeat (first|refine blk_drewN ?_ _|refine blk_drew ?_|refine blk_alloc ?_ _));refine blk_put (cs:=#[aQ,aE,aG,aH,aI,aJ,aK,aN,aT,aV,aA]) ?_ 9 _ rfl;(with_reducible repeat (first|refine blk_drewN ?_ _|refine blk_drew ?_|refine blk_alloc ?_ _));exact aC.out) hb);replace aD:=aM (bB (fm aD.out) hb);replace HB:=rS HB hb;(try clear hb);have gP:=cA11 aD.out))
     refine bodyPost_ret (results_cell_row rfl _ _ bA 102 #[dN,dO,dP,dQ,dR,dS,dU,dV,dW,dX,dY] (0,0) _ rfl (bm aD.out) Tryd.underlying102 rfl (by kernel_rfl)) rfl ?_
     exact ⟨xW,bl HB.out⟩

end Go.Proofs.YtljbdchibfjbdaaDoor.PFnIns

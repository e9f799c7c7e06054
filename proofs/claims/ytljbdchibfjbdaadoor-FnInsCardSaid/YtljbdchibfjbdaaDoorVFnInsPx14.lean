/- A part of the proof of laws.FnIns. No condition beyond what its theorems say. -/
import Derived.Test.YtljbdchibfjbdaaDoorVFnInsPx13
namespace Go.Proofs.YtljbdchibfjbdaaDoor.PFnIns
open Go.RowKit Go.Proofs.YtljbdchibfjbdaaDoorW.PrintWords Go.Proofs.YtljbdchibfjbdaaDoorW.PrintLast Go.Proofs.YtljbdchibfjbdaaDoorW.PrintMore
set_option linter.unusedVariables false
set_option linter.unusedSimpArgs false

def Z34.j0:Nat→Int→Bool→Bool→Bool→Int→Int→Int→Int→Int→Int→Int→Int→Bool→Int→Int→Int→Int→Option (Bool × Bool × Int × Int × Int × Int × Int × Int × Int × Int × Bool)
 | 0,_,_,_,_,_,_,_,_,_,_,_,_,_,_,_,_,_=>none
 | k+1,x2,bD,aA,aK,aN,aQ,aG,aH,aW,aX,aC,aD,aE,aT,aV,aI,aJ=>if bD=true then (some (aA,aK,aN,aQ,aG,aH,aW,aX,aC,aD,aE)) else (if aK=true then ((Z66.f aN aQ aG aH aT aV aI aJ).bind fun bA=>(if bA=true then (if aG=aI then (if aH=aJ then (some (aA,true,aT,aV,aI,aJ,x2,3,aC,aD,aE)) else (some (aA,aK,aN,aQ,aG,aH,aW,aX,aC,aD,aE))) else (some (aA,aK,aN,aQ,aG,aH,aW,aX,aC,aD,aE))) else (some (aA,true,aT,aV,aI,aJ,x2,3,aC,aD,aE)))) else (some (aA,true,aT,aV,aI,aJ,x2,3,aC,aD,aE)))
def Z34.f (k:Nat) (aC aD:Bool) (aE aG aH aI aJ aK aN aQ:Int) (aA:Bool) (aT aV aW aX a2:Int):Option (Bool × Bool × Int × Int × Int × Int × Int × Int × Int × Int × Bool):=(Z9.f k aC aD aE aG aH aI aJ aK aN aQ aA).bind fun bA=>(if bA=true then (if aC=true then ((Z54.f aT aV aW aX).bind fun bD=>(if bD=true then ((Z2.f a2 0 8).bind fun bG=>(Z34.j0 k a2 (!bG) aC aD aE aG aH aI aJ aK aN aQ aA aT aV aW aX)) else (Z34.j0 k a2 true aC aD aE aG aH aI aJ aK aN aQ aA aT aV aW aX))) else (Z34.j0 k a2 true aC aD aE aG aH aI aJ aK aN aQ aA aT aV aW aX)) else (Z34.j0 k a2 true aC aD aE aG aH aI aJ aK aN aQ aA aT aV aW aX))
theorem Z34.mono_l:∀ k,(∀ y0 y1 y2 y3 y4 y5 y6 y7 y8 y9 aA aC aD aE aG aH aI,LeO (Z34.j0 k y0 y1 y2 y3 y4 y5 y6 y7 y8 y9 aA aC aD aE aG aH aI) (Z34.j0 (k+1) y0 y1 y2 y3 y4 y5 y6 y7 y8 y9 aA aC aD aE aG aH aI))
 | 0=>fun _ _ _ _ _ _ _ _ _ _ _ _ _ _ _ _ _ r h=>by simp [Z34.j0] at h
 | k+1=>by
  have ih0:=Z34.mono_l k
  ·intro y0 y1 y2 y3 y4 y5 y6 y7 y8 y9 aA aC aD aE aG aH aI
   unfold Z34.j0
   repeat' (with_reducible exact lR _)
theorem Z34.mono:∀ a0 a1 a2 a3 a4 a5 a6 a7 a8 a9 aA aC aD aE aG aH k,LeO (Z34.f k a0 a1 a2 a3 a4 a5 a6 a7 a8 a9 aA aC aD aE aG aH) (Z34.f (k+1) a0 a1 a2 a3 a4 a5 a6 a7 a8 a9 aA aC aD aE aG aH):=by
 intro a0 a1 a2 a3 a4 a5 a6 a7 a8 a9 aA aC aD aE aG aH k;have ih0:=Z34.mono_l k;unfold Z34.f
 repeat' (with_reducible first|apply ih0|apply Z9.mono|exact lR _|refine lI ?_ ?_|refine lB ?_ fun _=>?_)
set_option maxHeartbeats 60000000 in
set_option maxRecDepth 100000 in
theorem Z34.calls (k:Nat) (bH bI:Bool) (aI aJ aG aH bD bG aK aN:Int) (aE:Bool) (bL bM aQ aT a2:Int) (r1 r2:Bool) (r3 r4 r5 r6 r7 r8 r9 bY:Int) (bZ:Bool) (w:World) (h:Z34.f k bH bI aI aJ aG aH bD bG aK aN aE bL bM aQ aT a2=some (r1,r2,r3,r4,r5,r6,r7,r8,r9,bY,bZ)) :
  Calls Tryd.prog 90 #[.agg #[bH,bI,aI,aJ,aG,aH,bD,bG,aK,aN,aE],.agg #[bL,bM,aQ,aT],a2] w fun e w'=>e=.returned (.agg #[r1,r2,r3,r4,r5,r6,r7,r8,r9,bY,bZ])∧Below w.heap.size w w':=by
 have cY:=Tryd.underlying102;have hO:=Tryd.underlying25;have HB:=aM (Below.refl w.heap.size w);have H:((Z9.f k bH bI aI aJ aG aH bD bG aK aN aE).bind fun bW=>(if bW=true then (if bH=true then ((Z54.f bL bM aQ aT).bind fun bX=>(if bX=true then ((Z2.f a2 0 8).bind fun bT=>(Z34.j0 k a2 (!bT) bH bI aI aJ aG aH bD bG aK aN aE bL bM aQ aT)) else (Z34.j0 k a2 true bH bI aI aJ aG aH bD bG aK aN aE bL bM aQ aT))) else (Z34.j0 k a2 true bH bI aI aJ aG aH bD bG aK aN aE bL bM aQ aT)) else (Z34.j0 k a2 true bH bI aI aJ aG aH bD bG aK aN aE bL bM aQ aT)))=some (r1,r2,r3,r4,r5,r6,r7,r8,r9,bY,bZ):=h
 clear h;have cG:=aM H;clear H;go_enter Tryd.func90,Tryd.ntmps90
 go_upto_region 1 with (first|((with_reducible refine gD (N:=3) rfl ?_);refine bE (N:=3) (cs:=#[bH,bI,aI,aJ,aG,aH,bD,bG,aK,aN,aE]) (t:=102) ?_;intro cN hg w5 hbox hb;have aA:=aM (hbox);have dA:=gF hg HB;have dB:=gF hg HB;replace HB:=rS HB hb;clear hb hbox hg)|((with_reducible refine gD (N:=4) rfl ?_);refine bE (N:=4) (cs:=#[bL,bM,aQ,aT]) (t:=25) ?_;intro cO hg w6 hbox hb;have aC:=aM (hbox);have dC:=gF hg HB;have dD:=gF hg HB;have aV:=nM hg aA;have aW:=nH hg aA;replace aA:=rB aA hb;replace HB:=rS HB hb;clear hb hbox hg)|((with_reducible refine gD (N:=6) rfl ?_);refine bE (N:=6) (cs:=#[.bool false,.bool false,.int .i64 0,.int .i64 0,.int .i64 0,.int .i64 0,.int .i64 0,.int .i64 0,.int .i64 0,.int .i64 0,.bool false]) (t:=102) ?_;intro bN hg w7 hbox hb;have aD:=aM (hbox);have dE:=gF hg HB;have dF:=gF hg HB;have aX:=nM hg aA;have bA:=nH hg aA;have bJ:=nM hg aC;have bK:=nH hg aC;replace aA:=rB aA hb;replace aC:=rB aC hb;replace HB:=rS HB hb;clear hb hbox hg))
 (try simp only [Act.put,sA,sZ,sS])
 go_cut [24] (fun cW wc=>∃ (kq:Nat) (bO:Bool),cW=.bool bO∧Aside0 (Z34.j0 kq a2 bO bH bI aI aJ aG aH bD bG aK aN aE bL bM aQ aT=some (r1,r2,r3,r4,r5,r6,r7,r8,r9,bY,bZ))∧Aside0 (kq≤k)∧Aside0 (wc.heap[cN]?=some (.cells #[bH,bI,aI,aJ,aG,aH,bD,bG,aK,aN,aE] 102 (0,0)))∧Aside0 (wc.heap[cO]?=some (.cells #[bL,bM,aQ,aT] 25 (0,0)))∧Aside0 (wc.heap[bN]?=some (.cells #[.bool false,.bool false,.int .i64 0,.int .i64 0,.int .i64 0,.int .i64 0,.int .i64 0,.int .i64 0,.int .i64 0,.int .i64 0,.bool false] 102 (0,0)))∧Aside0 (Below w.heap.size w wc))
 case first =>
  have H:=cG.out;clear cG;obtain ⟨bW,cT,H⟩:=hB H;have A8:=aM cT;clear cT
  by_cases c9:bW=true
  case neg =>
   replace c9:=Bool.eq_false_iff.mpr c9;subst c9;replace H:=hF H;have H':=aM H;clear H;have dG:=aV.out;have dH:=aW.out;have dI:=aX.out;have dJ:=bA.out;have dK:=cA11 aA.out;go_wp2_with (((with_reducible refine gC (f:=89) rfl ?_);refine goesL_ (some 8) rfl rfl Tryd.func89 (by kernel_rfl) rfl #[.agg #[bH,bI,aI,aJ,aG,aH,bD,bG,aK,aN,aE]] rfl xR ?_;(with_reducible refine (Z9.calls k bH bI aI aJ aG aH bD bG aK aN aE false _ A8.out).mono ?_);rintro e hU ⟨rfl,hb⟩;refine ⟨_,rfl,?_⟩;replace aA:=rB aA hb;replace aC:=rB aC hb;replace aD:=rB aD hb;replace HB:=rS HB hb;(try clear hb)))
   go_meet
   case rel=>exact ⟨_,(true),xE,H',⟨by omega⟩,⟨bk aA.out⟩,⟨bk aC.out⟩,⟨bk aD.out⟩,⟨bl HB.out⟩⟩
  subst c9;replace H:=hP H rfl
  by_cases bU:bH=true
  case neg =>
   replace bU:=Bool.eq_false_iff.mpr bU;subst bU;replace H:=hF H;have H':=aM H;clear H;have dL:=aV.out;have dM:=aW.out;have dN:=aX.out;have dO:=bA.out;have dP:=cA11 aA.out;go_wp2_with (((with_reducible refine gC (f:=89) rfl ?_);refine goesL_ (some 8) rfl rfl Tryd.func89 (by kernel_rfl) rfl #[.agg #[.bool false,bI,aI,aJ,aG,aH,bD,bG,aK,aN,aE]] rfl xR ?_;(with_reducible refine (Z9.calls k false bI aI aJ aG aH bD bG aK aN aE true _ A8.out).mono ?_);rintro e hX ⟨rfl,hb⟩;refine ⟨_,rfl,?_⟩;replace aA:=rB aA hb;replace aC:=rB aC hb;replace aD:=rB aD hb;replace HB:=rS HB hb;(try clear hb);have dQ:=cA11 aA.out))
   go_meet
   case rel=>exact ⟨_,(true),xE,H',⟨by omega⟩,⟨bk aA.out⟩,⟨bk aC.out⟩,⟨bk aD.out⟩,⟨bl HB.out⟩⟩
  subst bU;replace H:=hP H rfl;obtain ⟨bX,cH,H⟩:=hB H;have cU:=aM cH;clear cH
  by_cases bV:bX=true
  case neg =>
   replace bV:=Bool.eq_false_iff.mpr bV;subst bV;replace H:=hF H;have H':=aM H;clear H;have dR:=aV.out;have dS:=aW.out;have dU:=aX.out;have dV:=bA.out;have dW:=cA11 aA.out;go_wp2_with (first|((with_reducible refine gC (f:=89) rfl ?_);refine goesL_ (some 8) rfl rfl Tryd.func89 (by kernel_rfl) rfl #[.agg #[.bool true,bI,aI,aJ,aG,aH,bD,bG,aK,aN,aE]] rfl xR ?_;(with_reducible refine (Z9.calls k true bI aI aJ aG aH bD bG aK aN aE true _ A8.out).mono ?_);rintro e hY ⟨rfl,hb⟩;refine ⟨_,rfl,?_⟩;replace aA:=rB aA hb;replace aC:=rB aC hb;replace aD:=rB aD hb;replace HB:=rS HB hb;(try clear hb);have dX:=cA11 aA.out;have dY:=bJ.out;have dZ:=bK.out;have eA:=cA4 aC.out)|(go_at_call 70;(with_reducible refine (Z54.calls bL bM aQ aT false _ cU.out).mono ?_);rintro e hZ ⟨rfl,hb⟩;replace aA:=rB aA hb;replace aC:=rB aC hb;replace aD:=rB aD hb;replace HB:=rS HB hb;(try clear hb)))
   go_meet
   case rel=>exact ⟨_,(true),xE,H',⟨by omega⟩,⟨bk aA.out⟩,⟨bk aC.out⟩,⟨bk aD.out⟩,⟨bl HB.out⟩⟩
  subst bV;replace H:=hP H rfl;obtain ⟨bT,cK,H⟩:=hB H;have cX:=aM cK;clear cK;have H':=aM H;clear H;have eB:=aV.out;have eC:=aW.out;have eD:=aX.out;have eE:=bA.out;have eF:=cA11 aA.out;go_wp2_with (first|((with_reducible refine gC (f:=89) rfl ?_);refine goesL_ (some 8) rfl rfl Tryd.func89 (by kernel_rfl) rfl #[.agg #[.bool true,bI,aI,aJ,aG,aH,bD,bG,aK,aN,aE]] rfl xR ?_;(with_reducible refine (Z9.calls k true bI aI aJ aG aH bD bG aK aN aE true _ A8.out).mono ?_);rintro e iA ⟨rfl,hb⟩;refine ⟨_,rfl,?_⟩;replace aA:=rB aA hb;replace aC:=rB aC hb;replace aD:=rB aD hb;replace HB:=rS HB hb;(try clear hb);have eG:=cA11 aA.out;have eH:=bJ.out;have eI:=bK.out;have eJ:=cA4 aC.out)|(go_at_call 70;(with_reducible refine (Z54.calls bL bM aQ aT true _ cU.out).mono ?_);rintro e iB ⟨rfl,hb⟩;replace aA:=rB aA hb;replace aC:=rB aC hb;replace aD:=rB aD hb;replace HB:=rS HB hb;(try clear hb))|(go_at_call 69;(with_reducible refine (Z2.calls a2 0 8 bT _ cX.out).mono ?_);rintro e w' ⟨rfl,⟨nd,rfl⟩⟩))
  go_meet
  case rel=>exact ⟨_,(!bT),xE,H',⟨by omega⟩,⟨bk aA.out⟩,⟨bk aC.out⟩,⟨bk aD.out⟩,⟨bl HB.out⟩⟩
 case rest =>
  clear cG
  repeat first|clear c1|clear c2|clear p2|clear c3|clear c8|clear c9|clear bU|clear bV|clear iC|clear iD|clear iE|clear iF|clear iG|clear iH|clear iI|clear iJ|clear iK|clear iL
  obtain ⟨kq,bO,rfl,HA,HJ3,aA,aC,aD,HB⟩:=hcut;cases kq with
  | zero=>exact absurd HA.out (by simp [Z34.j0])
  | succ iM =>
   have H:=HA.out;clear HA;simp only [Z34.j0] at H
   by_cases cA:bO=true
   case pos =>
    subst cA;replace H:=hP H rfl;simp only [Option.some.injEq,Prod.mk.injEq] at H;obtain ⟨rfl,rfl,rfl,rfl,rfl,rfl,rfl,rfl,rfl,rfl,rfl⟩:=H;have eK:=aV.out;have eL:=aW.out;have eM:=aX.out;have eN:=bA.out;have eO:=cA11 aA.out;have eP:=bK.out;have eQ:=bJ.out;have eR:=cA11 aD.out;go_wp2
    refine bodyPost_ret (results_cell_row rfl _ _ bN 102 #[bH,bI,aI,aJ,aG,aH,bD,bG,aK,aN,aE] (0,0) _ rfl (bm aD.out) Tryd.underlying102 rfl (by kernel_rfl)) rfl ?_
    exact ⟨xW,bl HB.out⟩
   replace cA:=Bool.eq_false_iff.mpr cA;subst cA;replace H:=hF H
   by_cases cC:bI=true
   case neg =>
    replace cC:=Bool.eq_false_iff.mpr cC;subst cC;replace H:=hF H;simp only [Option.some.injEq,Prod.mk.injEq] at H;obtain ⟨rfl,rfl,rfl,rfl,rfl,rfl,rfl,rfl,rfl,rfl,rfl⟩:=H;have eS:=aV.out;have eT:=aW.out;have eU:=aX.out;have eV:=bA.out;have eW:=cA11 aA.out;have eX:=bJ.out;have eY:=bK.out;have eZ:=cA4 aC.out;have fA:=cA11 aD.out;go_wp2
    refine bodyPost_ret (results_cell_row rfl _ _ bN 102 #[bH,.bool true,bL,bM,aQ,aT,a2,.int .i64 3,aK,aN,aE] (0,0) _ rfl (bm aD.out) Tryd.underlying102 rfl (by kernel_rfl)) rfl ?_
    exact ⟨xW,bl HB.out⟩
   subst cC;replace H:=hP H rfl;obtain ⟨cV,cL,H⟩:=hB H;have cD:=aM cL;clear cL
   by_cases cE:cV=true
   case neg =>
    replace cE:=Bool.eq_false_iff.mpr cE;subst cE;replace H:=hF H;simp only [Option.some.injEq,Prod.mk.injEq] at H;obtain ⟨rfl,rfl,rfl,rfl,rfl,rfl,rfl,rfl,rfl,rfl,rfl⟩:=H;have fB:=aV.out;have fC:=aW.out;have fD:=aX.out;have fE:=bA.out;have fF:=cA11 aA.out;have fG:=bJ.out;have fH:=bK.out;have fI:=cA4 aC.out;go_wp2_with ((go_at_call 99;(with_reducible refine (Z66.calls aI aJ aG aH bL bM aQ aT false _ cD.out).mono ?_);rintro e iN ⟨rfl,hb⟩;replace aA:=rB aA hb;replace aC:=rB aC hb;replace aD:=rB aD hb;replace HB:=rS HB hb;(try clear hb);have fK:=cA11 aA.out;have fL:=cA4 aC.out;have fM:=cA11 aD.out))
    refine bodyPost_ret (results_cell_row rfl _ _ bN 102 #[bH,.bool true,bL,bM,aQ,aT,a2,.int .i64 3,aK,aN,aE] (0,0) _ rfl (bm aD.out) Tryd.underlying102 rfl (by kernel_rfl)) rfl ?_
    exact ⟨xW,bl HB.out⟩
   subst cE;replace H:=hP H rfl
   by_cases bP:aG=aQ
   case neg =>
    rw [if_neg bP] at H
    have cP:(aG == aQ)=false:=beq_eq_false_iff_ne.mpr bP;have cQ:(aG != aQ)=true:=bne_iff_ne.mpr bP;simp only [Option.some.injEq,Prod.mk.injEq] at H;obtain ⟨rfl,rfl,rfl,rfl,rfl,rfl,rfl,rfl,rfl,rfl,rfl⟩:=H;have fN:=aV.out;have fO:=aW.out;have fP:=aX.out;have fQ:=bA.out;have fS:=cA11 aA.out;have fT:=bJ.out;have fU:=bK.out;have fV:=cA4 aC.out;go_wp2_with ((go_at_call 99;(with_reducible refine (Z66.calls aI aJ aG aH bL bM aQ aT true _ cD.out).mono ?_);rintro e iO ⟨rfl,hb⟩;replace aA:=rB aA hb;replace aC:=rB aC hb;replace aD:=rB aD hb;replace HB:=rS HB hb;(try clear hb);have fW:=cA11 aA.out;have fX:=cA4 aC.out;have fY:=cA11 aD.out))
    refine bodyPost_ret (results_cell_row rfl _ _ bN 102 #[bH,.bool true,aI,aJ,aG,aH,bD,bG,aK,aN,aE] (0,0) _ rfl (bm aD.out) Tryd.underlying102 rfl (by kernel_rfl)) rfl ?_
    exact ⟨xW,bl HB.out⟩
   rw [if_pos bP] at H
   have cP:(aG == aQ)=true:=beq_iff_eq.mpr bP;have cQ:(aG != aQ)=false:=bne_eq_false_iff_eq.mpr bP;clear bP
   by_cases bQ:aH=aT
   case neg =>
    rw [if_neg bQ] at H
    have cR:(aH == aT)=false:=beq_eq_false_iff_ne.mpr bQ;have cS:(aH != aT)=true:=bne_iff_ne.mpr bQ;simp only [Option.some.injEq,Prod.mk.injEq] at H;obtain ⟨rfl,rfl,rfl,rfl,rfl,rfl,rfl,rfl,rfl,rfl,rfl⟩:=H;have gA:=aV.out;have gB:=aW.out;have gG:=aX.out;have gH:=bA.out;have gJ:=cA11 aA.out;have gK:=bJ.out;have gM:=bK.out;have gO:=cA4 aC.out;go_wp2_with ((go_at_call 99;(with_reducible refine (Z66.calls aI aJ aG aH bL bM aQ aT true _ cD.out).mono ?_);rintro e iP ⟨rfl,hb⟩;replace aA:=rB aA hb;replace aC:=rB aC hb;replace aD:=rB aD hb;replace HB:=rS HB hb;(try clear hb);have gP:=cA11 aA.out;have gQ:=cA4 aC.out;have gR:=cA11 aD.out))
    refine bodyPost_ret (results_cell_row rfl _ _ bN 102 #[bH,.bool true,aI,aJ,aG,aH,bD,bG,aK,aN,aE] (0,0) _ rfl (bm aD.out) Tryd.underlying102 rfl (by kernel_rfl)) rfl ?_
    exact ⟨xW,bl HB.out⟩
   rw [if_pos bQ] at H
   have cR:(aH == aT)=true:=beq_iff_eq.mpr bQ;have cS:(aH != aT)=false:=bne_eq_false_iff_eq.mpr bQ;clear bQ;simp only [Option.some.injEq,Prod.mk.injEq] at H;obtain ⟨rfl,rfl,rfl,rfl,rfl,rfl,rfl,rfl,rfl,rfl,rfl⟩:=H;have gS:=aV.out;have gT:=aW.out;have gU:=aX.out;have gV:=bA.out;have gW:=cA11 aA.out;have gX:=bJ.out;have gY:=bK.out;have gZ:=cA4 aC.out;go_wp2_with ((go_at_call 99;(with_reducible refine (Z66.calls aI aJ aG aH bL bM aQ aT true _ cD.out).mono ?_);rintro e iQ ⟨rfl,hb⟩;replace aA:=rB aA hb;replace aC:=rB aC hb;replace aD:=rB aD hb;replace HB:=rS HB hb;(try clear hb);have hD:=cA11 aA.out;have hH:=cA4 aC.out;have hJ:=cA11 aD.out))
   refine bodyPost_ret (results_cell_row rfl _ _ bN 102 #[bH,.bool true,bL,bM,aQ,aT,a2,.int .i64 3,aK,aN,aE] (0,0) _ rfl (bm aD.out) Tryd.underlying102 rfl (by kernel_rfl)) rfl ?_
   exact ⟨xW,bl HB.out⟩

end Go.Proofs.YtljbdchibfjbdaaDoor.PFnIns

/- A part of the proof of laws.FnExactPass. No condition beyond what its theorems say. -/
import Derived.Test.YtfljolhhgheheaaVFnExactPassPx5
namespace Go.Proofs.Ytfljolhhgheheaa.PFnExactPass
open Go.RowKit Go.Proofs.YtfljolhhgheheaaW.PrintWords Go.Proofs.YtfljolhhgheheaaW.PrintLast Go.Proofs.YtfljolhhgheheaaW.PrintMore
set_option linter.unusedVariables false
set_option linter.unusedSimpArgs false

def Y20.j0:Nat→Int→List Int→Int→Int→Int→List Int→Int→Int→Int→List Int→Option (Int × Int × Int × List Int × Bool)
 | 0,_,_,_,_,_,_,_,_,_,_=>none
 | k+1,aD,aA,aE,aG,aH,aI,aJ,aK,aC,aN=>(Y11.f k aD aA).bind fun aQ=>(if aQ=true then ((Y57.f aE aG aH aI).bind fun aT=>(if aT=true then ((Y14.f k aA aC).bind fun aV=>(if aV=true then (some (aJ,aK,aC,aN,true)) else (some (0,0,0,([]:List Int),false)))) else (some (0,0,0,([]:List Int),false)))) else (some (0,0,0,([]:List Int),false)))
def Y20.f (k:Nat) (aD:Int) (aI:List Int) (aE aG aC:Int) (aH:List Int):Option (Int × Int × Int × List Int × Bool):=(Y68.f aE aG aC aH).bind fun aA=>(if aC=0 then (Y20.j0 k aD aI aE aG aC aH aA.1 aA.2.1 aD aA.2.2.2) else (Y20.j0 k aD aI aE aG aC aH aA.1 aA.2.1 aA.2.2.1 aA.2.2.2))
theorem Y20.mono_l:∀ k,(∀ y0 y1 y2 y3 y4 y5 y6 y7 y8 y9,LeO (Y20.j0 k y0 y1 y2 y3 y4 y5 y6 y7 y8 y9) (Y20.j0 (k+1) y0 y1 y2 y3 y4 y5 y6 y7 y8 y9))
 | 0=>fun _ _ _ _ _ _ _ _ _ _ r h=>by simp [Y20.j0] at h
 | k+1=>by
  have ih0:=Y20.mono_l k
  ·intro y0 y1 y2 y3 y4 y5 y6 y7 y8 y9
   unfold Y20.j0
   repeat' first|(with_reducible first|apply ih0|apply Y11.mono|apply Y14.mono|exact lR _|exact lN _|refine lI ?_ ?_|refine lB ?_ fun _=>?_)|exact lN _|refine lI ?_ ?_|refine lB ?_ fun _=>?_
theorem Y20.mono:∀ a0 a1 a2 a3 a4 a5 k,LeO (Y20.f k a0 a1 a2 a3 a4 a5) (Y20.f (k+1) a0 a1 a2 a3 a4 a5):=by
 intro a0 a1 a2 a3 a4 a5 k;have ih0:=Y20.mono_l k;unfold Y20.f
 repeat' first|(with_reducible first|apply ih0|apply Y11.mono|apply Y14.mono|exact lR _|exact lN _|refine lI ?_ ?_|refine lB ?_ fun _=>?_)|exact lN _|refine lI ?_ ?_|refine lB ?_ fun _=>?_
set_option maxHeartbeats 60000000 in
set_option maxRecDepth 100000 in
theorem Y20.calls (k:Nat) (aJ:Int) (bV:Option Addr) (bW:Nat) (aH:List Int) (bD bG aI:Int) (cL:Option Addr) (cN:Nat) (aN:List Int) (r1 r2 r3:Int) (r4:List Int) (r5:Bool) (w:World) (hr0_1:Kd.C (Kd.int .i64) w bV aH.length aH) (hc0_1:aH.length≤bW) (hr1_3:Kd.C (Kd.int .u8) w cL aN.length aN) (hc1_3:aN.length≤cN) (h:Y20.f k aJ aH bD bG aI aN=some (r1,r2,r3,r4,r5)) :
  Calls Try.prog 25 #[.agg #[aJ,.slice bV aH.length bW],.agg #[bD,bG,aI,.slice cL aN.length cN]] w fun e w'=>∃ dE:Value,e=.returned (.tuple #[.agg #[r1,r2,r3,dE],r5])∧Kd.R (Kd.int .u8) 5 w' w.heap.size (fun _=>True) dE r4∧Below w.heap.size w w':=by
 have iC:=Try.underlying60;have iD:=Try.underlying40;have bX:=aM hr0_1;have bY:=aM hc0_1;clear hr0_1 hc0_1;have cH:=aM hr1_3;have cK:=aM hc1_3;clear hr1_3 hc1_3;have HB:=aM (Below.refl w.heap.size w);have H:((Y68.f bD bG aI aN).bind fun bU=>(if aI=0 then (Y20.j0 k aJ aH bD bG aI aN bU.1 bU.2.1 aJ bU.2.2.2) else (Y20.j0 k aJ aH bD bG aI aN bU.1 bU.2.1 bU.2.2.1 bU.2.2.2)))=some (r1,r2,r3,r4,r5):=h
 clear h;obtain ⟨⟨bP,bQ,cE,bT⟩,dF,H⟩:=hB H
 try dsimp only at H
 have A3:=aM dF;clear dF;have cU:=aM H;clear H;go_enter Try.func25,Try.ntmps25
 go_upto_if 11 with (first|((with_reducible refine gD (N:=2) rfl ?_);refine bE (N:=2) (cs:=#[aJ,.slice bV aH.length bW]) (t:=60) ?_;intro dC hg w5 hbox hb;have aE:=aM (hbox);have dL:=gF hg HB;have dM:=gF hg HB;replace HB:=rS HB hb;clear hb hbox hg)|((with_reducible refine gD (N:=3) rfl ?_);refine bE (N:=3) (cs:=#[bD,bG,aI,.slice cL aN.length cN]) (t:=40) ?_;intro dD hg w6 hbox hb;have aA:=aM (hbox);have dN:=gF hg HB;have dO:=gF hg HB;have aQ:=nM hg aE;have aT:=nH hg aE;replace aE:=rB aE hb;replace HB:=rS HB hb;clear hb hbox hg)|((with_reducible refine gD (N:=4) rfl ?_);refine bE (N:=4) (cs:=#[.int .i64 0,.int .i64 0,.int .i64 0,.slice none 0 0]) (t:=40) ?_;intro bO hg w7 hbox hb;have aD:=aM (hbox);have dP:=gF hg HB;have dQ:=gF hg HB;have bI:=nM hg aE;have bJ:=nH hg aE;have bK:=nM hg aA;have bL:=nH hg aA;replace aE:=rB aE hb;replace aA:=rB aA hb;replace HB:=rS HB hb;clear hb hbox hg;have iE:=aT.out;have iF:=aQ.out;have iG:=bK.out;have iH:=bL.out;have dR:=cA4 aA.out)|((with_reducible refine gC (f:=56) rfl ?_);refine gL (some 8) Try.func56 #[.agg #[bD,bG,aI,.slice cL aN.length cN]] ?_;(with_reducible refine (Y68.calls bD bG aI _ _ aN bP bQ cE bT _ ?side1 ?side2 A3.out).mono ?_);(case side1=>exact cM (cB cH.out HB.out));(case side2=>exact cK.out);rintro e iJ ⟨iI,rfl,ho0,hb⟩;refine ⟨_,rfl,?_⟩;have bZ:=aM (Kd.R_lower ho0 (below_size (bl HB.out)));replace aE:=rB aE hb;replace aA:=rB aA hb;replace aD:=rB aD hb;replace HB:=rS HB hb;(repeat first|clear hb|clear ho0))|((with_reducible refine gD (N:=6) rfl ?_);refine bR bZ (N:=6) (cs:=#[.int .i64 0,.int .i64 0,.int .i64 0,.slice none 0 0]) (t:=40) ?_;intro bH hg iK hbox hb;have aC:=aM (hbox);have dS:=gF hg HB;have dU:=gF hg HB;have aV:=nM hg aE;have aW:=nH hg aE;have bM:=nM hg aA;have bN:=nH hg aA;have aX:=nM hg aD;have bA:=nH hg aD;replace bZ:=rK bZ hb;replace aE:=rB aE hb;replace aA:=rB aA hb;replace aD:=rB aD hb;replace HB:=rS HB hb;clear hb hbox hg;have dV:=aW.out;have dW:=aV.out;have dX:=bN.out;have dY:=bM.out;have dZ:=bA.out;have eA:=aX.out;have eB:=cA4 aC.out;obtain ⟨cC,cD,dH⟩:=Kd.R_slice bZ.out;subst dH;have eC:=cA4 aA.out))
 (try simp only [Act.put,sA,sZ,sS])
 go_cut [] (fun wc=>∃ (kq:Nat) (aK:Int),Aside0 (Y20.j0 kq aJ aH bD bG aI aN bP bQ aK bT=some (r1,r2,r3,r4,r5))∧Aside0 (kq≤k)∧Aside0 (Kd.R (Kd.int .u8) 5 wc w.heap.size (fun _=>True) (.slice cC bT.length cD) bT)∧Aside0 (wc.heap[dC]?=some (.cells #[aJ,(.slice bV aH.length bW)] 60 (0,0)))∧Aside0 (wc.heap[dD]?=some (.cells #[bD,bG,aI,(.slice cL aN.length cN)] 40 (0,0)))∧Aside0 (wc.heap[bO]?=some (.cells #[.int .i64 0,.int .i64 0,.int .i64 0,(.slice none 0 0)] 40 (0,0)))∧Aside0 (wc.heap[bH]?=some (.cells #[bP,bQ,aK,(.slice cC bT.length cD)] 40 (0,0)))∧Aside0 (Below w.heap.size w wc))
 case first =>
  have H:=cU.out;clear cU
  by_cases cG:aI=0
  case neg =>
   rw [if_neg cG] at H
   have cA:(aI == 0)=false:=beq_eq_false_iff_ne.mpr cG;have cP:(aI != 0)=true:=bne_iff_ne.mpr cG
   (first|rw [cA]|(simp only [i64_w,i32_w];rw [cA])|skip)
   have H':=aM H;clear H;go_wp2
   go_meet
   case rel=>exact ⟨_,(cE),H',⟨by first|omega|exact Nat.le_refl _⟩,⟨kr (Kd.R_mono (kF (p:=⟨bH,3,none⟩) (kF (p:=⟨bH,2,none⟩) (kF (p:=⟨bH,1,none⟩) (kF (p:=⟨bH,0,none⟩) (Kd.R_types bZ.out aC.out (by decide)) (fun _ hk=>hk.2) (.int .i64 bP)) (fun _ hk=>hk.2) (.int .i64 bQ)) (fun _ hk=>hk.2) (.int .i64 cE)) (fun _ hk=>hk.2) (.slice cC bT.length cD)) (fun _ hk=>trivial))⟩,⟨fm aE.out⟩,⟨fm aA.out⟩,⟨fm aD.out⟩,⟨bm aC.out⟩,⟨bl HB.out⟩⟩
  rw [if_pos cG] at H
  have cA:(aI == 0)=true:=beq_iff_eq.mpr cG;have cP:(aI != 0)=false:=bne_eq_false_iff_eq.mpr cG;clear cG
  (first|rw [cA]|(simp only [i64_w,i32_w];rw [cA])|skip)
  have H':=aM H;clear H;have eD:=aQ.out;have eE:=aT.out;have eF:=bI.out;have eG:=bJ.out;have eH:=aV.out;have eI:=aW.out;have eJ:=cA2 aE.out;have eK:=bN.out;have eL:=bM.out;have eM:=bA.out;have eN:=aX.out;have eO:=cA4 aC.out;go_wp2
  go_meet
  case rel=>exact ⟨_,(aJ),H',⟨by first|omega|exact Nat.le_refl _⟩,⟨kr (Kd.R_mono (kF (p:=⟨bH,2,none⟩) (kF (p:=⟨bH,3,none⟩) (kF (p:=⟨bH,2,none⟩) (kF (p:=⟨bH,1,none⟩) (kF (p:=⟨bH,0,none⟩) (Kd.R_types bZ.out aC.out (by decide)) (fun _ hk=>hk.2) (.int .i64 bP)) (fun _ hk=>hk.2) (.int .i64 bQ)) (fun _ hk=>hk.2) (.int .i64 cE)) (fun _ hk=>hk.2) (.slice cC bT.length cD)) (fun _ hk=>hk.2) (.int .i64 aJ)) (fun _ hk=>trivial))⟩,⟨fm aE.out⟩,⟨fm aA.out⟩,⟨fm aD.out⟩,⟨by (with_reducible repeat (first|refine blk_drewN ?_ _|refine blk_drew ?_|refine blk_alloc ?_ _));refine blk_put (cs:=#[bP,bQ,cE,.slice cC bT.length cD]) ?_ 2 _ rfl;(with_reducible repeat (first|refine blk_drewN ?_ _|refine blk_drew ?_|refine blk_alloc ?_ _));refine blk_put (cs:=#[bP,bQ,cE,.slice none 0 0]) ?_ 3 _ rfl;(with_reducible repeat (first|refine blk_drewN ?_ _|refine blk_drew ?_|refine blk_alloc ?_ _));refine blk_put (cs:=#[bP,bQ,.int .i64 0,.slice none 0 0]) ?_ 2 _ rfl;(with_reducible repeat (first|refine blk_drewN ?_ _|refine blk_drew ?_|refine blk_alloc ?_ _));refine blk_put (cs:=#[bP,.int .i64 0,.int .i64 0,.slice none 0 0]) ?_ 1 _ rfl;(with_reducible repeat (first|refine blk_drewN ?_ _|refine blk_drew ?_|refine blk_alloc ?_ _));refine blk_put (cs:=#[.int .i64 0,.int .i64 0,.int .i64 0,.slice none 0 0]) ?_ 0 _ rfl;(with_reducible repeat (first|refine blk_drewN ?_ _|refine blk_drew ?_|refine blk_alloc ?_ _));exact aC.out⟩,⟨bl HB.out⟩⟩
 case rest =>
  clear cU
  repeat first|clear c1|clear c2|clear p2|clear c5|clear c8|clear c9|clear iL|clear iM|clear iN|clear cG|clear cA|clear cP|clear iO|clear iP|clear iQ|clear iR|clear iS
  obtain ⟨kq,aK,HA,HJ3,aG,aE,aA,aD,aC,HB⟩:=hcut;cases kq with
  | zero=>exact absurd HA.out (by simp [Y20.j0])
  | succ cO =>
   have H:=HA.out;clear HA;simp only [Y20.j0] at H;obtain ⟨dI,cV,H⟩:=hB H;have cQ:=aM cV;clear cV
   by_cases cR:dI=true
   case neg =>
    replace cR:=Bool.eq_false_iff.mpr cR;subst cR;replace H:=hF H;simp only [Option.some.injEq,Prod.mk.injEq] at H;obtain ⟨rfl,rfl,rfl,rfl,rfl⟩:=H;have eP:=aQ.out;have eQ:=aT.out;have eR:=bI.out;have eS:=bJ.out;have eT:=aV.out;have eU:=aW.out;have eV:=cA2 aE.out;go_wp2_with (first|((with_reducible refine gC (f:=55) rfl ?_);refine gL (some 16) Try.func55 #[.agg #[aJ,.slice bV aH.length bW]] ?_;(with_reducible refine (Y11.calls cO aJ _ _ aH false _ ?side1 ?side2 cQ.out).mono ?_);(case side1=>exact cM (cB bX.out HB.out));(case side2=>exact bY.out);rintro e iT ⟨rfl,hb⟩;refine ⟨_,rfl,?_⟩;replace aG:=rK aG hb;replace aE:=rB aE hb;replace aA:=rB aA hb;replace aD:=rB aD hb;replace aC:=rB aC hb;replace HB:=rS HB hb;(try clear hb);have eW:=bL.out;have eX:=bK.out;have eY:=aX.out;have eZ:=bA.out;have fA:=cA4 aD.out;have hcw_gb172_0:=cI aE.out 0;have hfw_gb172_0:=bF aE.out 0;have hcw_gb172_1:=cI aE.out 1;have hfw_gb172_1:=bF aE.out 1;have hcw_gb173_0:=cI aA.out 0;have hfw_gb173_0:=bF aA.out 0;have hcw_gb173_1:=cI aA.out 1;have hfw_gb173_1:=bF aA.out 1;have hcw_gb173_2:=cI aA.out 2;have hfw_gb173_2:=bF aA.out 2;have hcw_gb173_3:=cI aA.out 3;have hfw_gb173_3:=bF aA.out 3;have hcw_gb181_0:=cI aC.out 0;have hfw_gb181_0:=bF aC.out 0;have hcw_gb181_1:=cI aC.out 1;have hfw_gb181_1:=bF aC.out 1;have hcw_gb181_2:=cI aC.out 2;have hfw_gb181_2:=bF aC.out 2;have hcw_gb181_3:=cI aC.out 3;have hfw_gb181_3:=bF aC.out 3))
    refine bodyPost_ret (results_ct rfl _ _ bO 40 #[.int .i64 0,.int .i64 0,.int .i64 0,.slice none 0 0] (0,0) _ rfl (bm aD.out) Try.underlying40 rfl (by kernel_rfl)) rfl ?_
    exact ⟨_,xW,by first|exact Kd.R_nil _ _ _ _ _|exact Kd.N_nil _ _ _ _ _|exact Kd.V_nil _ _ _ _ _|exact Kd.Q_nil _ _ _ _ _|exact Kd.S_nil _ _ _ _ _,bl HB.out⟩
   subst cR;replace H:=hP H rfl;obtain ⟨dJ,cW,H⟩:=hB H;have cX:=aM cW;clear cW
   by_cases cS:dJ=true
   case neg =>
    replace cS:=Bool.eq_false_iff.mpr cS;subst cS;replace H:=hF H;simp only [Option.some.injEq,Prod.mk.injEq] at H;obtain ⟨rfl,rfl,rfl,rfl,rfl⟩:=H;have fB:=aQ.out;have fC:=aT.out;have fD:=bI.out;have fE:=bJ.out;have fF:=aV.out;have fG:=aW.out;have fH:=cA2 aE.out;go_wp2_with (first|((with_reducible refine gC (f:=55) rfl ?_);refine gL (some 16) Try.func55 #[.agg #[aJ,.slice bV aH.length bW]] ?_;(with_reducible refine (Y11.calls cO aJ _ _ aH true _ ?side1 ?side2 cQ.out).mono ?_);(case side1=>exact cM (cB bX.out HB.out));(case side2=>exact bY.out);rintro e iU ⟨rfl,hb⟩;refine ⟨_,rfl,?_⟩;replace aG:=rK aG hb;replace aE:=rB aE hb;replace aA:=rB aA hb;replace aD:=rB aD hb;replace aC:=rB aC hb;replace HB:=rS HB hb;(try clear hb);have fI:=bK.out;have fK:=bL.out;have fL:=bM.out;have fM:=bN.out;have fN:=cA4 aA.out;have hcw_gb172_0:=cI aE.out 0;have hfw_gb172_0:=bF aE.out 0;have hcw_gb172_1:=cI aE.out 1;have hfw_gb172_1:=bF aE.out 1;have hcw_gb174_0:=cI aD.out 0;have hfw_gb174_0:=bF aD.out 0;have hcw_gb174_1:=cI aD.out 1;have hfw_gb174_1:=bF aD.out 1;have hcw_gb174_2:=cI aD.out 2;have hfw_gb174_2:=bF aD.out 2;have hcw_gb174_3:=cI aD.out 3;have hfw_gb174_3:=bF aD.out 3;have hcw_gb181_0:=cI aC.out 0;have hfw_gb181_0:=bF aC.out 0;have hcw_gb181_1:=cI aC.out 1;have hfw_gb181_1:=bF aC.out 1;have hcw_gb181_2:=cI aC.out 2;have hfw_gb181_2:=bF aC.out 2;have hcw_gb181_3:=cI aC.out 3;have hfw_gb181_3:=bF aC.out 3)|(go_at_call 57;(with_reducible refine (Y57.calls bD bG aI _ _ aN false _ ?side1 ?side2 cX.out).mono ?_);(case side1=>exact cM (cB cH.out HB.out));(case side2=>exact cK.out);rintro e iV ⟨rfl,hb⟩;replace aG:=rK aG hb;replace aE:=rB aE hb;replace aA:=rB aA hb;replace aD:=rB aD hb;replace aC:=rB aC hb;replace HB:=rS HB hb;(try clear hb);have fO:=aX.out;have fP:=bA.out;have fQ:=cA4 aD.out;have hcw_gb172_0:=cI aE.out 0;have hfw_gb172_0:=bF aE.out 0;have hcw_gb172_1:=cI aE.out 1;have hfw_gb172_1:=bF aE.out 1;have hcw_gb173_0:=cI aA.out 0;have hfw_gb173_0:=bF aA.out 0;have hcw_gb173_1:=cI aA.out 1;have hfw_gb173_1:=bF aA.out 1;have hcw_gb173_2:=cI aA.out 2;have hfw_gb173_2:=bF aA.out 2;have hcw_gb173_3:=cI aA.out 3;have hfw_gb173_3:=bF aA.out 3;have hcw_gb181_0:=cI aC.out 0;have hfw_gb181_0:=bF aC.out 0;have hcw_gb181_1:=cI aC.out 1;have hfw_gb181_1:=bF aC.out 1;have hcw_gb181_2:=cI aC.out 2;have hfw_gb181_2:=bF aC.out 2;have hcw_gb181_3:=cI aC.out 3;have hfw_gb181_3:=bF aC.out 3))
    refine bodyPost_ret (results_ct rfl _ _ bO 40 #[.int .i64 0,.int .i64 0,.int .i64 0,.slice none 0 0] (0,0) _ rfl (bm aD.out) Try.underlying40 rfl (by kernel_rfl)) rfl ?_
    exact ⟨_,xW,by first|exact Kd.R_nil _ _ _ _ _|exact Kd.N_nil _ _ _ _ _|exact Kd.V_nil _ _ _ _ _|exact Kd.Q_nil _ _ _ _ _|exact Kd.S_nil _ _ _ _ _,bl HB.out⟩
   subst cS;replace H:=hP H rfl;obtain ⟨dK,cY,H⟩:=hB H;have dG:=aM cY;clear cY
   by_cases cT:dK=true
   case pos =>
    subst cT;replace H:=hP H rfl;simp only [Option.some.injEq,Prod.mk.injEq] at H;obtain ⟨rfl,rfl,rfl,rfl,rfl⟩:=H;have fS:=aQ.out;have fT:=aT.out;have fU:=bI.out;have fV:=bJ.out;have fW:=aV.out;have fX:=aW.out;have fY:=cA2 aE.out;go_wp2_with (first|((with_reducible refine gC (f:=55) rfl ?_);refine gL (some 16) Try.func55 #[.agg #[aJ,.slice bV aH.length bW]] ?_;(with_reducible refine (Y11.calls cO aJ _ _ aH true _ ?side1 ?side2 cQ.out).mono ?_);(case side1=>exact cM (cB bX.out HB.out));(case side2=>exact bY.out);rintro e iW ⟨rfl,hb⟩;refine ⟨_,rfl,?_⟩;replace aG:=rK aG hb;replace aE:=rB aE hb;replace aA:=rB aA hb;replace aD:=rB aD hb;replace aC:=rB aC hb;replace HB:=rS HB hb;(try clear hb);have gA:=bK.out;have gB:=bL.out;have gG:=bM.out;have gH:=bN.out;have gJ:=cA4 aA.out;have hcw_gb172_0:=cI aE.out 0;have hfw_gb172_0:=bF aE.out 0;have hcw_gb172_1:=cI aE.out 1;have hfw_gb172_1:=bF aE.out 1;have hcw_gb174_0:=cI aD.out 0;have hfw_gb174_0:=bF aD.out 0;have hcw_gb174_1:=cI aD.out 1;have hfw_gb174_1:=bF aD.out 1;have hcw_gb174_2:=cI aD.out 2;have hfw_gb174_2:=bF aD.out 2;have hcw_gb174_3:=cI aD.out 3;have hfw_gb174_3:=bF aD.out 3;have hcw_gb181_0:=cI aC.out 0;have hfw_gb181_0:=bF aC.out 0;have hcw_gb181_1:=cI aC.out 1;have hfw_gb181_1:=bF aC.out 1;have hcw_gb181_2:=cI aC.out 2;have hfw_gb181_2:=bF aC.out 2;have hcw_gb181_3:=cI aC.out 3;have hfw_gb181_3:=bF aC.out 3)|(go_at_call 57;(with_reducible refine (Y57.calls bD bG aI _ _ aN true _ ?side1 ?side2 cX.out).mono ?_);(case side1=>exact cM (cB cH.out HB.out));(case side2=>exact cK.out);rintro e dA ⟨rfl,hb⟩;replace aG:=rK aG hb;replace aE:=rB aE hb;replace aA:=rB aA hb;replace aD:=rB aD hb;replace aC:=rB aC hb;replace HB:=rS HB hb;(try clear hb);have gK:=cA2 aE.out;have gM:=bA.out;have gN:=aX.out;have gO:=cA4 aC.out;have hcw_gb173_0:=cI aA.out 0;have hfw_gb173_0:=bF aA.out 0;have hcw_gb173_1:=cI aA.out 1;have hfw_gb173_1:=bF aA.out 1;have hcw_gb173_2:=cI aA.out 2;have hfw_gb173_2:=bF aA.out 2;have hcw_gb173_3:=cI aA.out 3;have hfw_gb173_3:=bF aA.out 3;have hcw_gb174_0:=cI aD.out 0;have hfw_gb174_0:=bF aD.out 0;have hcw_gb174_1:=cI aD.out 1;have hfw_gb174_1:=bF aD.out 1;have hcw_gb174_2:=cI aD.out 2;have hfw_gb174_2:=bF aD.out 2;have hcw_gb174_3:=cI aD.out 3;have hfw_gb174_3:=bF aD.out 3)|(go_at_call 58;(with_reducible refine (Y14.calls cO _ _ aH aK true _ ?side1 ?side2 dG.out).mono ?_);(case side1=>exact cM (cB bX.out HB.out));(case side2=>exact bY.out);rintro e w' ⟨rfl,⟨nd,rfl⟩⟩;(try (rw [drewN_self dA];generalize hq_:World.drewN dA _=dA;replace aG:=qR hq_ (kr aG.out);replace aE:=qB hq_ (bk aE.out);replace aA:=qB hq_ (bk aA.out);replace aD:=qB hq_ (bk aD.out);replace aC:=qB hq_ (bk aC.out);replace HB:=qL hq_ (bl HB.out);clear hq_));have gP:=cA4 aD.out;have hcw_gb172_0:=cI aE.out 0;have hfw_gb172_0:=bF aE.out 0;have hcw_gb172_1:=cI aE.out 1;have hfw_gb172_1:=bF aE.out 1;have hcw_gb173_0:=cI aA.out 0;have hfw_gb173_0:=bF aA.out 0;have hcw_gb173_1:=cI aA.out 1;have hfw_gb173_1:=bF aA.out 1;have hcw_gb173_2:=cI aA.out 2;have hfw_gb173_2:=bF aA.out 2;have hcw_gb173_3:=cI aA.out 3;have hfw_gb173_3:=bF aA.out 3;have hcw_gb181_0:=cI aC.out 0;have hfw_gb181_0:=bF aC.out 0;have hcw_gb181_1:=cI aC.out 1;have hfw_gb181_1:=bF aC.out 1;have hcw_gb181_2:=cI aC.out 2;have hfw_gb181_2:=bF aC.out 2;have hcw_gb181_3:=cI aC.out 3;have hfw_gb181_3:=bF aC.out 3))
    refine bodyPost_ret (results_ct rfl _ _ bO 40 #[bP,bQ,aK,.slice cC bT.length cD] (0,0) _ rfl (bm aD.out) Try.underlying40 rfl (by kernel_rfl)) rfl ?_
    exact ⟨_,xW,by (with_reducible repeat (first|apply Kd.R_alloc|apply Kd.R_drewN|apply Kd.R_drew));exact Kd.R_mono (kF (p:=⟨bO,3,none⟩) (kF (p:=⟨bO,2,none⟩) (kF (p:=⟨bO,1,none⟩) (kF (p:=⟨bO,0,none⟩) (Kd.R_types aG.out aD.out (by decide)) (fun _ hk=>hk.2) (.int .i64 bP)) (fun _ hk=>hk.2) (.int .i64 bQ)) (fun _ hk=>hk.2) (.int .i64 aK)) (fun _ hk=>hk.2) (.slice cC bT.length cD)) (fun _ hk=>trivial),bl HB.out⟩
   replace cT:=Bool.eq_false_iff.mpr cT;subst cT;replace H:=hF H;simp only [Option.some.injEq,Prod.mk.injEq] at H;obtain ⟨rfl,rfl,rfl,rfl,rfl⟩:=H;have gQ:=aQ.out;have gR:=aT.out;have gS:=bI.out;have gT:=bJ.out;have gU:=aV.out;have gV:=aW.out;have gW:=cA2 aE.out;go_wp2_with (first|((with_reducible refine gC (f:=55) rfl ?_);refine gL (some 16) Try.func55 #[.agg #[aJ,.slice bV aH.length bW]] ?_;(with_reducible refine (Y11.calls cO aJ _ _ aH true _ ?side1 ?side2 cQ.out).mono ?_);(case side1=>exact cM (cB bX.out HB.out));(case side2=>exact bY.out);rintro e iX ⟨rfl,hb⟩;refine ⟨_,rfl,?_⟩;replace aG:=rK aG hb;replace aE:=rB aE hb;replace aA:=rB aA hb;replace aD:=rB aD hb;replace aC:=rB aC hb;replace HB:=rS HB hb;(try clear hb);have gX:=bK.out;have gY:=bL.out;have gZ:=bM.out;have hJ:=bN.out;have hO:=cA4 aA.out;have hcw_gb172_0:=cI aE.out 0;have hfw_gb172_0:=bF aE.out 0;have hcw_gb172_1:=cI aE.out 1;have hfw_gb172_1:=bF aE.out 1;have hcw_gb174_0:=cI aD.out 0;have hfw_gb174_0:=bF aD.out 0;have hcw_gb174_1:=cI aD.out 1;have hfw_gb174_1:=bF aD.out 1;have hcw_gb174_2:=cI aD.out 2;have hfw_gb174_2:=bF aD.out 2;have hcw_gb174_3:=cI aD.out 3;have hfw_gb174_3:=bF aD.out 3;have hcw_gb181_0:=cI aC.out 0;have hfw_gb181_0:=bF aC.out 0;have hcw_gb181_1:=cI aC.out 1;have hfw_gb181_1:=bF aC.out 1;have hcw_gb181_2:=cI aC.out 2;have hfw_gb181_2:=bF aC.out 2;have hcw_gb181_3:=cI aC.out 3;have hfw_gb181_3:=bF aC.out 3)|(go_at_call 57;(with_reducible refine (Y57.calls bD bG aI _ _ aN true _ ?side1 ?side2 cX.out).mono ?_);(case side1=>exact cM (cB cH.out HB.out));(case side2=>exact cK.out);rintro e dB ⟨rfl,hb⟩;replace aG:=rK aG hb;replace aE:=rB aE hb;replace aA:=rB aA hb;replace aD:=rB aD hb;replace aC:=rB aC hb;replace HB:=rS HB hb;(try clear hb);have hX:=cA2 aE.out;have hY:=bA.out;have hZ:=aX.out;have iA:=cA4 aC.out;have hcw_gb173_0:=cI aA.out 0;have hfw_gb173_0:=bF aA.out 0;have hcw_gb173_1:=cI aA.out 1;have hfw_gb173_1:=bF aA.out 1;have hcw_gb173_2:=cI aA.out 2;have hfw_gb173_2:=bF aA.out 2;have hcw_gb173_3:=cI aA.out 3;have hfw_gb173_3:=bF aA.out 3;have hcw_gb174_0:=cI aD.out 0;have hfw_gb174_0:=bF aD.out 0;have hcw_gb174_1:=cI aD.out 1;have hfw_gb174_1:=bF aD.out 1;have hcw_gb174_2:=cI aD.out 2;have hfw_gb174_2:=bF aD.out 2;have hcw_gb174_3:=cI aD.out 3;have hfw_gb174_3:=bF aD.out 3)|(go_at_call 58;(with_reducible refine (Y14.calls cO _ _ aH aK false _ ?side1 ?side2 dG.out).mono ?_);(case side1=>exact cM (cB bX.out HB.out));(case side2=>exact bY.out);rintro e w' ⟨rfl,⟨nd,rfl⟩⟩;(try (rw [drewN_self dB];generalize hq_:World.drewN dB _=dB;replace aG:=qR hq_ (kr aG.out);replace aE:=qB hq_ (bk aE.out);replace aA:=qB hq_ (bk aA.out);replace aD:=qB hq_ (bk aD.out);replace aC:=qB hq_ (bk aC.out);replace HB:=qL hq_ (bl HB.out);clear hq_));have iB:=cA4 aD.out;have hcw_gb172_0:=cI aE.out 0;have hfw_gb172_0:=bF aE.out 0;have hcw_gb172_1:=cI aE.out 1;have hfw_gb172_1:=bF aE.out 1;have hcw_gb173_0:=cI aA.out 0;have hfw_gb173_0:=bF aA.out 0;have hcw_gb173_1:=cI aA.out 1;have hfw_gb173_1:=bF aA.out 1;have hcw_gb173_2:=cI aA.out 2;have hfw_gb173_2:=bF aA.out 2;have hcw_gb173_3:=cI aA.out 3;have hfw_gb173_3:=bF aA.out 3;have hcw_gb181_0:=cI aC.out 0;have hfw_gb181_0:=bF aC.out 0;have hcw_gb181_1:=cI aC.out 1;have hfw_gb181_1:=bF aC.out 1;have hcw_gb181_2:=cI aC.out 2;have hfw_gb181_2:=bF aC.out 2;have hcw_gb181_3:=cI aC.out 3;have hfw_gb181_3:=bF aC.out 3))
   refine bodyPost_ret (results_ct rfl _ _ bO 40 #[.int .i64 0,.int .i64 0,.int .i64 0,.slice none 0 0] (0,0) _ rfl (bm aD.out) Try.underlying40 rfl (by kernel_rfl)) rfl ?_
   exact ⟨_,xW,by first|exact Kd.R_nil _ _ _ _ _|exact Kd.N_nil _ _ _ _ _|exact Kd.V_nil _ _ _ _ _|exact Kd.Q_nil _ _ _ _ _|exact Kd.S_nil _ _ _ _ _,bl HB.out⟩

def Y25.l0:Nat→List (S86)→Int→Int→Int→Option (Int × Bool)
 | 0,_,_,_,_=>none
 | k+1,x0,x1,x2,x8=>if x8<(x0.length:Int) then (if 0≤x8 then (if ((rd_T86 x0 x8).f0)=x1 then (if ((rd_T86 x0 x8).f1)=x2 then (some ((rd_T86 x0 x8).f2,true)) else (Y25.l0 k x0 x1 x2 (wrap64 (x8+1)))) else (Y25.l0 k x0 x1 x2 (wrap64 (x8+1)))) else (none)) else (some (0,false))
def Y25.f (k:Nat) (l0:List (S86)) (a1 a2:Int):Option (Int × Bool):=Y25.l0 k l0 a1 a2 0
theorem Y25.mono_l:∀ k,(∀ y0 y1 y2 y3,LeO (Y25.l0 k y0 y1 y2 y3) (Y25.l0 (k+1) y0 y1 y2 y3))
 | 0=>fun _ _ _ _ r h=>by simp [Y25.l0] at h
 | k+1=>by
  have ih0:=Y25.mono_l k
  ·intro y0 y1 y2 y3
   unfold Y25.l0
   repeat' first|(with_reducible first|apply ih0|exact lR _|exact lN _|refine lI ?_ ?_|refine lB ?_ fun _=>?_)|exact lN _|refine lI ?_ ?_|refine lB ?_ fun _=>?_
theorem Y25.mono:∀ a0 a1 a2 k,LeO (Y25.f k a0 a1 a2) (Y25.f (k+1) a0 a1 a2):=by
 intro a0 a1 a2 k;have ih0:=Y25.mono_l k;unfold Y25.f
 repeat' first|(with_reducible first|apply ih0|exact lR _|exact lN _|refine lI ?_ ?_|refine lB ?_ fun _=>?_)|exact lN _|refine lI ?_ ?_|refine lB ?_ fun _=>?_
set_option maxHeartbeats 60000000 in
set_option maxRecDepth 100000 in
theorem Y25.calls (k:Nat) (A0:Option Addr) (c0:Nat) (l0:List (S86)) (a1 a2 r1:Int) (r2:Bool) (w:World) (hr0:Kd.C k86 w A0 l0.length l0) (hc0:l0.length≤c0) (h:Y25.f k l0 a1 a2=some (r1,r2)) :
  Calls Try.prog 26 #[.slice A0 l0.length c0,a1,a2] w fun e w'=>e=.returned (.tuple #[r1,r2])∧Drawn0 w w':=by
 have aJ:=aM hr0;have bY:=aM hc0;clear hr0 hc0;have H:(Y25.l0 k l0 a1 a2 0)=some (r1,r2):=h;clear h;have H':=aM H;clear H;go_enter Try.func26,Try.ntmps26
 go_wp2
 go_loopg [8] k (fun kq v8 w'=>∃ (aA:Int),v8=.int .i64 aA∧Aside0 (Y25.l0 kq l0 a1 a2 aA=some (r1,r2))∧Aside0 (kq≤k)∧Drawn0 w w')
 case atStart=>exact ⟨(0),xE,H',⟨Nat.le_refl _⟩,by repeat (first|exact Drawn0.refl _|apply Drawn0.step)⟩
 case round =>
  clear H'
  repeat first|clear c2|clear p2
  obtain ⟨aA,rfl,HA,bD,⟨m1,rfl⟩⟩:=hrel;cases gk with
  | zero=>exact absurd HA.out (by simp [Y25.l0])
  | succ k1 =>
   have H:=HA.out;clear HA;simp only [Y25.l0] at H
   by_cases c4:aA<(l0.length:Int)
   case neg =>
    rw [if_neg c4] at H
    have bL:=decide_eq_false c4;clear c4;simp only [Option.some.injEq,Prod.mk.injEq] at H;obtain ⟨rfl,rfl⟩:=H;go_wp2
    go_ret2
    exact ⟨by first|rfl|(simp;done)|(simp [*];done),by repeat (first|exact Drawn0.refl _|apply Drawn0.step)⟩
   rw [if_pos c4] at H
   have bL:=decide_eq_true c4;clear c4;obtain ⟨bX,H⟩:=gI H
   by_cases c6:((rd_T86 l0 aA).f0)=a1
   case neg =>
    rw [if_neg c6] at H
    have bM:(((rd_T86 l0 aA).f0) == a1)=false:=beq_eq_false_iff_ne.mpr c6;have bN:(((rd_T86 l0 aA).f0) != a1)=true:=bne_iff_ne.mpr c6;have H':=aM H;clear H;have aC:0≤(aA:Int):=dT;have aD:aA<(l0.length:Int):=dT;obtain ⟨aH,aI,aK,aN,aQ,aT⟩:=at_T86 aJ.out aA aC aD;cases aI
    replace aC:=eq_true aC;replace aD:=eq_true aD;go_wp2
    go_roundg k1
    case measure=>have:=bD.out;omega
    case rel=>exact ⟨(wS aA),xE,H',⟨by have:=bD.out;omega⟩,by repeat (first|exact Drawn0.refl _|apply Drawn0.step)⟩
   rw [if_pos c6] at H
   have bM:(((rd_T86 l0 aA).f0) == a1)=true:=beq_iff_eq.mpr c6;have bN:(((rd_T86 l0 aA).f0) != a1)=false:=bne_eq_false_iff_eq.mpr c6;clear c6
   by_cases c7:((rd_T86 l0 aA).f1)=a2
   case neg =>
    rw [if_neg c7] at H
    have bO:(((rd_T86 l0 aA).f1) == a2)=false:=beq_eq_false_iff_ne.mpr c7;have bP:(((rd_T86 l0 aA).f1) != a2)=true:=bne_iff_ne.mpr c7;have H':=aM H;clear H;have aC:0≤(aA:Int):=dT;have aD:aA<(l0.length:Int):=dT;obtain ⟨aH,aI,aK,aN,aQ,aT⟩:=at_T86 aJ.out aA aC aD;cases aI
    replace aC:=eq_true aC;replace aD:=eq_true aD;have aE:0≤(aA:Int):=dT;have aG:aA<(l0.length:Int):=dT;obtain ⟨aV,aW,bG,bH,bI,bJ⟩:=at_T86 aJ.out aA aE aG;obtain rfl:aH=aV:=(by injection aW)
    replace aE:=eq_true aE;replace aG:=eq_true aG;go_wp2
    go_roundg k1
    case measure=>have:=bD.out;omega
    case rel=>exact ⟨(wS aA),xE,H',⟨by have:=bD.out;omega⟩,by repeat (first|exact Drawn0.refl _|apply Drawn0.step)⟩
   rw [if_pos c7] at H
   have bO:(((rd_T86 l0 aA).f1) == a2)=true:=beq_iff_eq.mpr c7;have bP:(((rd_T86 l0 aA).f1) != a2)=false:=bne_eq_false_iff_eq.mpr c7;clear c7;simp only [Option.some.injEq,Prod.mk.injEq] at H;obtain ⟨rfl,rfl⟩:=H;have aC:0≤(aA:Int):=dT;have aD:aA<(l0.length:Int):=dT;obtain ⟨aH,aI,aK,aN,aQ,aT⟩:=at_T86 aJ.out aA aC aD;cases aI
   replace aC:=eq_true aC;replace aD:=eq_true aD;have aE:0≤(aA:Int):=dT;have aG:aA<(l0.length:Int):=dT;obtain ⟨aV,aW,bG,bH,bI,bJ⟩:=at_T86 aJ.out aA aE aG;obtain rfl:aH=aV:=(by injection aW)
   replace aE:=eq_true aE;replace aG:=eq_true aG;have aX:0≤(aA:Int):=dT;have bA:aA<(l0.length:Int):=dT;obtain ⟨bK,bQ,bT,bU,bV,bW⟩:=at_T86 aJ.out aA aX bA;obtain rfl:aH=bK:=(by injection bQ)
   replace aX:=eq_true aX;replace bA:=eq_true bA;go_wp2
   go_ret2
   exact ⟨by first|rfl|(simp;done)|(simp [*];done),by repeat (first|exact Drawn0.refl _|apply Drawn0.step)⟩

end Go.Proofs.Ytfljolhhgheheaa.PFnExactPass

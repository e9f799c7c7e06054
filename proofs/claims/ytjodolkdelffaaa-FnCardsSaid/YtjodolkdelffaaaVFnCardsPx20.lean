/- A part of the proof of laws.FnCards. No condition beyond what its theorems say. -/
import Derived.Test.YtjodolkdelffaaaVFnCardsPx19
namespace Go.Proofs.Ytjodolkdelffaaa.PFnCards
open Go.RowKit Go.Proofs.YtjodolkdelffaaaW.PrintWords Go.Proofs.YtjodolkdelffaaaW.PrintLast Go.Proofs.YtjodolkdelffaaaW.PrintMore
set_option linter.unusedVariables false
set_option linter.unusedSimpArgs false

def Z28.j0:Nat→Bool→Int→List Int→Int→Int→Int→List Int→Int→Int→Int→List Int→Option (Int × Int × Int × List Int × Bool)
 | 0,_,_,_,_,_,_,_,_,_,_,_=>none
 | k+1,aQ,aE,aI,aJ,aK,aG,aN,aA,aC,aH,aD=>if aQ=true then (some (0,0,0,([]:List Int),false)) else (if aG=aE then (some (aA,aC,0,aD,true)) else (some (aA,aC,aH,aD,true)))
def Z28.f (k:Nat) (aI:Int) (aD:List Int) (aE aG aC:Int) (aH:List Int):Option (Int × Int × Int × List Int × Bool):=(Z55.f aE aG aC aH).bind fun aA=>((Z16.f k aI aD).bind fun aJ=>(if aJ=true then ((Z51.f aE aG aC aH).bind fun aK=>(if aK=true then ((Z22.f k aD aC).bind fun aN=>(Z28.j0 k (!aN) aI aD aE aG aC aH aA.1 aA.2.1 aA.2.2.1 aA.2.2.2)) else (Z28.j0 k true aI aD aE aG aC aH aA.1 aA.2.1 aA.2.2.1 aA.2.2.2))) else (Z28.j0 k true aI aD aE aG aC aH aA.1 aA.2.1 aA.2.2.1 aA.2.2.2)))
theorem Z28.mono_l:∀ k,(∀ y0 y1 y2 y3 y4 y5 y6 y7 y8 y9 aA,LeO (Z28.j0 k y0 y1 y2 y3 y4 y5 y6 y7 y8 y9 aA) (Z28.j0 (k+1) y0 y1 y2 y3 y4 y5 y6 y7 y8 y9 aA))
 | 0=>fun _ _ _ _ _ _ _ _ _ _ _ r h=>by simp [Z28.j0] at h
 | k+1=>by
  have ih0:=Z28.mono_l k
  ·intro y0 y1 y2 y3 y4 y5 y6 y7 y8 y9 aA
   unfold Z28.j0
   repeat' (with_reducible exact lR _)
theorem Z28.mono:∀ a0 a1 a2 a3 a4 a5 k,LeO (Z28.f k a0 a1 a2 a3 a4 a5) (Z28.f (k+1) a0 a1 a2 a3 a4 a5):=by
 intro a0 a1 a2 a3 a4 a5 k;have ih0:=Z28.mono_l k;unfold Z28.f
 repeat' (with_reducible first|apply ih0|apply Z16.mono|apply Z22.mono|exact lR _|refine lI ?_ ?_|refine lB ?_ fun _=>?_)
set_option maxHeartbeats 60000000 in
set_option maxRecDepth 100000 in
theorem Z28.calls (k:Nat) (aJ:Int) (bX:Option Addr) (bY:Nat) (aK:List Int) (bK bL aI:Int) (cE:Option Addr) (cG:Nat) (aN:List Int) (r1 r2 r3:Int) (r4:List Int) (r5:Bool) (w:World) (hr0_1:Kd.C (Kd.int .i64) w bX aK.length aK) (hc0_1:aK.length≤bY) (hr1_3:Kd.C (Kd.int .u8) w cE aN.length aN) (hc1_3:aN.length≤cG) (h:Z28.f k aJ aK bK bL aI aN=some (r1,r2,r3,r4,r5)) :
  Calls Try.prog 35 #[.agg #[aJ,.slice bX aK.length bY],.agg #[bK,bL,aI,.slice cE aN.length cG]] w fun e w'=>∃ dD:Value,e=.returned (.tuple #[.agg #[r1,r2,r3,dD],r5])∧Kd.R (Kd.int .u8) 5 w' w.heap.size (fun _=>True) dD r4∧Below w.heap.size w w':=by
 have cA:=aM hr0_1;have cC:=aM hc0_1;clear hr0_1 hc0_1;have cK:=aM hr1_3;have cL:=aM hc1_3;clear hr1_3 hc1_3;have HB:=aM (Below.refl w.heap.size w);have H:((Z55.f bK bL aI aN).bind fun aQ=>((Z16.f k aJ aK).bind fun cQ=>(if cQ=true then ((Z51.f bK bL aI aN).bind fun cR=>(if cR=true then ((Z22.f k aK aI).bind fun cN=>(Z28.j0 k (!cN) aJ aK bK bL aI aN aQ.1 aQ.2.1 aQ.2.2.1 aQ.2.2.2)) else (Z28.j0 k true aJ aK bK bL aI aN aQ.1 aQ.2.1 aQ.2.2.1 aQ.2.2.2))) else (Z28.j0 k true aJ aK bK bL aI aN aQ.1 aQ.2.1 aQ.2.2.1 aQ.2.2.2))))=some (r1,r2,r3,r4,r5):=h
 clear h;obtain ⟨⟨bM,bN,bU,aV⟩,dE,H⟩:=hB H
 try dsimp only at H
 have A3:=aM dE;clear dE;have cT:=aM H;clear H;go_enter Try.func35,Try.ntmps35
 go_upto_region 2 with (first|((with_reducible refine gD (N:=2) rfl ?_);refine bE (N:=2) (cs:=#[aJ,.slice bX aK.length bY]) (t:=42) ?_;intro cY hg w5 hbox hb;have aA:=aM (hbox);replace HB:=rS HB hb;clear hb hbox hg)|((with_reducible refine gD (N:=3) rfl ?_);refine bE (N:=3) (cs:=#[bK,bL,aI,.slice cE aN.length cG]) (t:=30) ?_;intro dA hg w6 hbox hb;have aC:=aM (hbox);have aW:=nM hg aA;have aX:=nH hg aA;replace aA:=rB aA hb;replace HB:=rS HB hb;clear hb hbox hg)|((with_reducible refine gD (N:=4) rfl ?_);refine bE (N:=4) (cs:=#[.int .i64 0,.int .i64 0,.int .i64 0,.slice none 0 0]) (t:=30) ?_;intro aT hg w7 hbox hb;have aD:=aM (hbox);have dO:=gF hg HB;have bA:=nM hg aA;have bD:=nH hg aA;have bG:=nM hg aC;have bH:=nH hg aC;replace aA:=rB aA hb;replace aC:=rB aC hb;replace HB:=rS HB hb;clear hb hbox hg;have dP:=cA4 aC.out)|((with_reducible refine gC (f:=61) rfl ?_);refine gL (some 8) Try.func61 #[.agg #[bK,bL,aI,.slice cE aN.length cG]] ?_;(with_reducible refine (Z55.calls bK bL aI _ _ aN bM bN bU aV _ ?side1 ?side2 A3.out).mono ?_);(case side1=>exact cM (cB cK.out HB.out));(case side2=>exact cL.out);rintro e iD ⟨iC,rfl,ho0,hb⟩;refine ⟨_,rfl,?_⟩;have aG:=aM (Kd.R_lower ho0 (below_size (bl HB.out)));replace aA:=rB aA hb;replace aC:=rB aC hb;replace aD:=rB aD hb;replace HB:=rS HB hb;(repeat first|clear hb|clear ho0))|((with_reducible refine gD (N:=6) rfl ?_);refine bR aG (N:=6) (cs:=#[.int .i64 0,.int .i64 0,.int .i64 0,.slice none 0 0]) (t:=30) ?_;intro aH hg iE hbox hb;have aE:=aM (hbox);have dR:=gF hg HB;have bI:=nM hg aA;have bJ:=nH hg aA;have bO:=nM hg aC;have bP:=nH hg aC;have bV:=nM hg aD;have bW:=nH hg aD;replace aG:=rK aG hb;replace aA:=rB aA hb;replace aC:=rB aC hb;replace aD:=rB aD hb;replace HB:=rS HB hb;clear hb hbox hg;have dZ:=cA4 aE.out;obtain ⟨bQ,bT,dG⟩:=Kd.R_slice aG.out;subst dG))
 go_cut [24] (fun dH wc=>∃ (kq:Nat) (cD:Bool),dH=.bool cD∧Aside0 (Z28.j0 kq cD aJ aK bK bL aI aN bM bN bU aV=some (r1,r2,r3,r4,r5))∧Aside0 (kq≤k)∧Aside0 (Kd.R (Kd.int .u8) 5 wc w.heap.size (fun _=>True) (.slice bQ aV.length bT) aV)∧Aside0 (wc.heap[cY]?=some (.cells #[aJ,(.slice bX aK.length bY)] 42 (0,0)))∧Aside0 (wc.heap[dA]?=some (.cells #[bK,bL,aI,(.slice cE aN.length cG)] 30 (0,0)))∧Aside0 (wc.heap[aT]?=some (.cells #[.int .i64 0,.int .i64 0,.int .i64 0,(.slice none 0 0)] 30 (0,0)))∧Aside0 (wc.heap[aH]?=some (.cells #[bM,bN,bU,(.slice bQ aV.length bT)] 30 (0,0)))∧Aside0 (Below w.heap.size w wc))
 case first =>
  have H:=cT.out;clear cT;obtain ⟨cQ,cU,H⟩:=hB H;have cV:=aM cU;clear cU
  by_cases cO:cQ=true
  case neg =>
   replace cO:=Bool.eq_false_iff.mpr cO;subst cO;replace H:=hF H;have H':=aM H;clear H;have eF:=bJ.out;have eG:=cA2 aA.out;go_wp2_with (((with_reducible refine gC (f:=47) rfl ?_);refine gL (some 10) Try.func47 #[.agg #[aJ,.slice bX aK.length bY]] ?_;(with_reducible refine (Z16.calls k aJ _ _ aK false _ ?side1 ?side2 cV.out).mono ?_);(case side1=>exact cB cA.out (bl HB.out));(case side2=>exact cC.out);rintro e iF ⟨rfl,hb⟩;refine ⟨_,rfl,?_⟩;replace aG:=aM (kB (kr (rT4 aG.out aE.out (.int .i64 bM) (.int .i64 bN) (.int .i64 bU) (.slice bQ aV.length bT))) hb);replace aA:=aM (bB (fm aA.out) hb);replace aC:=aM (bB (fm aC.out) hb);replace aD:=aM (bB (fm aD.out) hb);replace aE:=aM (bB (g:=aH) (o:=.cells #[bM,bN,bU,.slice bQ aV.length bT] 30 (0,0)) (bm aE.out) hb);replace HB:=rS HB hb;(try clear hb)))
   go_meet
   case rel=>exact ⟨_,(true),xE,H',⟨by omega⟩,⟨kr aG.out⟩,⟨bk aA.out⟩,⟨bk aC.out⟩,⟨bk aD.out⟩,⟨bk aE.out⟩,⟨bl HB.out⟩⟩
  subst cO;replace H:=hP H rfl;obtain ⟨cR,cW,H⟩:=hB H;have dF:=aM cW;clear cW
  by_cases cP:cR=true
  case neg =>
   replace cP:=Bool.eq_false_iff.mpr cP;subst cP;replace H:=hF H;have H':=aM H;clear H;have eM:=bJ.out;have eN:=cA2 aA.out;go_wp2_with (first|((with_reducible refine gC (f:=47) rfl ?_);refine gL (some 10) Try.func47 #[.agg #[aJ,.slice bX aK.length bY]] ?_;(with_reducible refine (Z16.calls k aJ _ _ aK true _ ?side1 ?side2 cV.out).mono ?_);(case side1=>exact cB cA.out (bl HB.out));(case side2=>exact cC.out);rintro e iG ⟨rfl,hb⟩;refine ⟨_,rfl,?_⟩;replace aG:=aM (kB (kr (rT4 aG.out aE.out (.int .i64 bM) (.int .i64 bN) (.int .i64 bU) (.slice bQ aV.length bT))) hb);replace aA:=aM (bB (fm aA.out) hb);replace aC:=aM (bB (fm aC.out) hb);replace aD:=aM (bB (fm aD.out) hb);replace aE:=aM (bB (g:=aH) (o:=.cells #[bM,bN,bU,.slice bQ aV.length bT] 30 (0,0)) (bm aE.out) hb);replace HB:=rS HB hb;(try clear hb);have eS:=cA4 aC.out)|(go_at_call 62;(with_reducible refine (Z51.calls bK bL aI _ _ aN false _ ?side1 ?side2 dF.out).mono ?_);(case side1=>exact cM (cB cK.out HB.out));(case side2=>exact cL.out);rintro e iH ⟨rfl,hb⟩;replace aG:=rK aG hb;replace aA:=rB aA hb;replace aC:=rB aC hb;replace aD:=rB aD hb;replace aE:=rB aE hb;replace HB:=rS HB hb;(try clear hb)))
   go_meet
   case rel=>exact ⟨_,(true),xE,H',⟨by omega⟩,⟨kr aG.out⟩,⟨bk aA.out⟩,⟨bk aC.out⟩,⟨bk aD.out⟩,⟨bk aE.out⟩,⟨bl HB.out⟩⟩
  subst cP;replace H:=hP H rfl;obtain ⟨cN,cX,H⟩:=hB H;have dI:=aM cX;clear cX;have H':=aM H;clear H;have eY:=bJ.out;have eZ:=cA2 aA.out;go_wp2_with (first|((with_reducible refine gC (f:=47) rfl ?_);refine gL (some 10) Try.func47 #[.agg #[aJ,.slice bX aK.length bY]] ?_;(with_reducible refine (Z16.calls k aJ _ _ aK true _ ?side1 ?side2 cV.out).mono ?_);(case side1=>exact cB cA.out (bl HB.out));(case side2=>exact cC.out);rintro e iI ⟨rfl,hb⟩;refine ⟨_,rfl,?_⟩;replace aG:=aM (kB (kr (rT4 aG.out aE.out (.int .i64 bM) (.int .i64 bN) (.int .i64 bU) (.slice bQ aV.length bT))) hb);replace aA:=aM (bB (fm aA.out) hb);replace aC:=aM (bB (fm aC.out) hb);replace aD:=aM (bB (fm aD.out) hb);replace aE:=aM (bB (g:=aH) (o:=.cells #[bM,bN,bU,.slice bQ aV.length bT] 30 (0,0)) (bm aE.out) hb);replace HB:=rS HB hb;(try clear hb);have fE:=cA4 aC.out)|(go_at_call 62;(with_reducible refine (Z51.calls bK bL aI _ _ aN true _ ?side1 ?side2 dF.out).mono ?_);(case side1=>exact cM (cB cK.out HB.out));(case side2=>exact cL.out);rintro e iJ ⟨rfl,hb⟩;replace aG:=rK aG hb;replace aA:=rB aA hb;replace aC:=rB aC hb;replace aD:=rB aD hb;replace aE:=rB aE hb;replace HB:=rS HB hb;(try clear hb);have fF:=cA2 aA.out;have fG:=cA4 aC.out)|(go_at_call 63;(with_reducible refine (Z22.calls k _ _ aK aI cN _ ?side1 ?side2 dI.out).mono ?_);(case side1=>exact cM (cB cA.out HB.out));(case side2=>exact cC.out);rintro e w' ⟨rfl,⟨nd,rfl⟩⟩))
  go_meet
  case rel=>exact ⟨_,(!cN),xE,H',⟨by omega⟩,⟨kr aG.out⟩,⟨bk aA.out⟩,⟨bk aC.out⟩,⟨bk aD.out⟩,⟨bk aE.out⟩,⟨bl HB.out⟩⟩
 case rest =>
  clear cT
  repeat first|clear c1|clear c2|clear p2|clear c3|clear c4|clear c6|clear c8|clear c9|clear iK|clear iL|clear iM|clear cO|clear cP|clear iN|clear iO|clear iP|clear iQ|clear iR|clear iS|clear iT|clear iU|clear iV|clear iW|clear iX|clear iY|clear iZ|clear jA
  obtain ⟨kq,cD,rfl,HA,HJ3,bZ,aA,aC,aD,aE,HB⟩:=hcut;cases kq with
  | zero=>exact absurd HA.out (by simp [Z28.j0])
  | succ jB =>
   have H:=HA.out;clear HA;simp only [Z28.j0] at H
   by_cases cS:cD=true
   case pos =>
    subst cS;replace H:=hP H rfl;simp only [Option.some.injEq,Prod.mk.injEq] at H;obtain ⟨rfl,rfl,rfl,rfl,rfl⟩:=H;have fO:=cA4 aD.out;go_wp2
    refine bodyPost_ret (results_ct rfl _ _ aT 30 #[.int .i64 0,.int .i64 0,.int .i64 0,.slice none 0 0] (0,0) _ rfl (bm aD.out) Try.underlying30 rfl (by kernel_rfl)) rfl ?_
    exact ⟨_,xW,by exact Kd.R_nil _ _ _ _ _,bl HB.out⟩
   replace cS:=Bool.eq_false_iff.mpr cS;subst cS;replace H:=hF H
   by_cases cH:aI=aJ
   case neg =>
    rw [if_neg cH] at H
    have dB:(aI == aJ)=false:=beq_eq_false_iff_ne.mpr cH;simp only [Option.some.injEq,Prod.mk.injEq] at H;obtain ⟨rfl,rfl,rfl,rfl,rfl⟩:=H;have fW:=cA4 aC.out;have gG:=cA2 aA.out;have gK:=cA4 aE.out;have gM:=cA4 aD.out;go_wp2
    refine bodyPost_ret (results_ct rfl _ _ aT 30 #[bM,bN,bU,.slice bQ aV.length bT] (0,0) _ rfl (bm aD.out) Try.underlying30 rfl (by kernel_rfl)) rfl ?_
    exact ⟨_,xW,by (with_reducible repeat (first|apply Kd.R_alloc|apply Kd.R_drewN|apply Kd.R_drew));exact Kd.R_mono (rT4 bZ.out aD.out (.int .i64 bM) (.int .i64 bN) (.int .i64 bU) (.slice bQ aV.length bT)) (fun _ hk=>trivial),bl HB.out⟩
   rw [if_pos cH] at H
   have dB:(aI == aJ)=true:=beq_iff_eq.mpr cH;clear cH;simp only [Option.some.injEq,Prod.mk.injEq] at H;obtain ⟨rfl,rfl,rfl,rfl,rfl⟩:=H;have gT:=cA4 aC.out;have gY:=cA2 aA.out;have hD:=bV.out;have hH:=cA4 aE.out;have hJ:=cA4 aD.out;go_wp2
   refine bodyPost_ret (results_ct rfl _ _ aT 30 #[bM,bN,.int .i64 0,.slice bQ aV.length bT] (0,0) _ rfl (bm aD.out) Try.underlying30 rfl (by kernel_rfl)) rfl ?_
   exact ⟨_,xW,by (with_reducible repeat (first|apply Kd.R_alloc|apply Kd.R_drewN|apply Kd.R_drew));exact Kd.R_mono (rF4 (g:=aT) (kF (p:=⟨aH,2,none⟩) (Kd.R_types (Kd.R_types bZ.out aE.out (by decide)) aD.out (by decide)) (fun _ hk=>hk.1.2) (.int .i64 0)) (fun _ hk=>hk.2) (.int .i64 bM) (.int .i64 bN) (.int .i64 0) (.slice bQ aV.length bT)) (fun _ hk=>trivial),bl HB.out⟩

end Go.Proofs.Ytjodolkdelffaaa.PFnCards

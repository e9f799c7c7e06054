/- A part of the proof of laws.FnCards. No condition beyond what its theorems say. -/
import Derived.Test.YtjodolkdelffaaaVFnCardsPx10
namespace Go.Proofs.Ytjodolkdelffaaa.PFnCards
open Go.RowKit Go.Proofs.YtjodolkdelffaaaW.PrintWords Go.Proofs.YtjodolkdelffaaaW.PrintLast Go.Proofs.YtjodolkdelffaaaW.PrintMore
set_option linter.unusedVariables false
set_option linter.unusedSimpArgs false

def Z31.j0:Nat→Bool→Int→List Int→Int→Int→Int→List Int→Option (Int × Int × Int × List Int × Bool)
 | 0,_,_,_,_,_,_,_=>none
 | k+1,aJ,aC,aI,aD,aE,aG,aH=>if aJ=true then (some (0,0,0,([]:List Int),false)) else ((Z50.f aD aE aG aH).bind fun aA=>(if aA.2.2.1=aC then (some (aA.1,aA.2.1,0,aA.2.2.2,true)) else (some (aA.1,aA.2.1,aA.2.2.1,aA.2.2.2,true))))
def Z31.f (k:Nat) (aD:Int) (aA:List Int) (aE aG aC:Int) (aH:List Int):Option (Int × Int × Int × List Int × Bool):=(Z18.f k aD aA).bind fun aI=>(if aI=true then ((Z53.f aE aG aC aH).bind fun aJ=>(if aJ=true then ((Z39.f k aA aC).bind fun aK=>(Z31.j0 k (!aK) aD aA aE aG aC aH)) else (Z31.j0 k true aD aA aE aG aC aH))) else (Z31.j0 k true aD aA aE aG aC aH))
theorem Z31.mono_l:∀ k,(∀ y0 y1 y2 y3 y4 y5 y6,LeO (Z31.j0 k y0 y1 y2 y3 y4 y5 y6) (Z31.j0 (k+1) y0 y1 y2 y3 y4 y5 y6))
 | 0=>fun _ _ _ _ _ _ _ r h=>by simp [Z31.j0] at h
 | k+1=>by
  have ih0:=Z31.mono_l k
  ·intro y0 y1 y2 y3 y4 y5 y6
   unfold Z31.j0
   repeat' (with_reducible exact lR _)
theorem Z31.mono:∀ a0 a1 a2 a3 a4 a5 k,LeO (Z31.f k a0 a1 a2 a3 a4 a5) (Z31.f (k+1) a0 a1 a2 a3 a4 a5):=by
 intro a0 a1 a2 a3 a4 a5 k;have ih0:=Z31.mono_l k;unfold Z31.f
 repeat' (with_reducible first|apply ih0|apply Z18.mono|apply Z39.mono|exact lR _|refine lI ?_ ?_|refine lB ?_ fun _=>?_)
set_option maxHeartbeats 60000000 in
set_option maxRecDepth 100000 in
theorem Z31.calls (k:Nat) (aG:Int) (bM:Option Addr) (bN:Nat) (aH:List Int) (aQ aT aJ:Int) (bW:Option Addr) (bX:Nat) (aI:List Int) (r1 r2 r3:Int) (r4:List Int) (r5:Bool) (w:World) (hr0_1:Kd.C (Kd.int .i64) w bM aH.length aH) (hc0_1:aH.length≤bN) (hr1_3:Kd.C (Kd.int .u8) w bW aI.length aI) (hc1_3:aI.length≤bX) (h:Z31.f k aG aH aQ aT aJ aI=some (r1,r2,r3,r4,r5)) :
  Calls Try.prog 29 #[.agg #[aG,.slice bM aH.length bN],.agg #[aQ,aT,aJ,.slice bW aI.length bX]] w fun e w'=>∃ dC:Value,e=.returned (.tuple #[.agg #[r1,r2,r3,dC],r5])∧Kd.R (Kd.int .u8) 5 w' w.heap.size (fun _=>True) dC r4∧Below w.heap.size w w':=by
 have bY:=aM hr0_1;have bZ:=aM hc0_1;clear hr0_1 hc0_1;have cA:=aM hr1_3;have cC:=aM hc1_3;clear hr1_3 hc1_3;have HB:=aM (Below.refl w.heap.size w);have H:((Z18.f k aG aH).bind fun cN=>(if cN=true then ((Z53.f aQ aT aJ aI).bind fun cO=>(if cO=true then ((Z39.f k aH aJ).bind fun cK=>(Z31.j0 k (!cK) aG aH aQ aT aJ aI)) else (Z31.j0 k true aG aH aQ aT aJ aI))) else (Z31.j0 k true aG aH aQ aT aJ aI)))=some (r1,r2,r3,r4,r5):=h
 clear h;have cU:=aM H;clear H;go_enter Try.func29,Try.ntmps29
 go_upto_region 1 with (first|((with_reducible refine gD (N:=2) rfl ?_);refine bE (N:=2) (cs:=#[aG,.slice bM aH.length bN]) (t:=42) ?_;intro cR hg w4 hbox hb;have aD:=aM (hbox);replace HB:=rS HB hb;clear hb hbox hg)|((with_reducible refine gD (N:=3) rfl ?_);refine bE (N:=3) (cs:=#[aQ,aT,aJ,.slice bW aI.length bX]) (t:=30) ?_;intro cS hg w5 hbox hb;have aC:=aM (hbox);have bA:=nM hg aD;have bD:=nH hg aD;replace aD:=rB aD hb;replace HB:=rS HB hb;clear hb hbox hg)|((with_reducible refine gD (N:=4) rfl ?_);refine bE (N:=4) (cs:=#[.int .i64 0,.int .i64 0,.int .i64 0,.slice none 0 0]) (t:=30) ?_;intro aN hg w6 hbox hb;have aA:=aM (hbox);have eT:=gF hg HB;have aV:=nM hg aD;have aW:=nH hg aD;have bG:=nM hg aC;have bH:=nH hg aC;replace aD:=rB aD hb;replace aC:=rB aC hb;replace HB:=rS HB hb;clear hb hbox hg))
 go_cut [22] (fun eM wc=>∃ (kq:Nat) (cD:Bool),eM=.bool cD∧Aside0 (Z31.j0 kq cD aG aH aQ aT aJ aI=some (r1,r2,r3,r4,r5))∧Aside0 (kq≤k)∧Aside0 (wc.heap[cR]?=some (.cells #[aG,(.slice bM aH.length bN)] 42 (0,0)))∧Aside0 (wc.heap[cS]?=some (.cells #[aQ,aT,aJ,(.slice bW aI.length bX)] 30 (0,0)))∧Aside0 (wc.heap[aN]?=some (.cells #[.int .i64 0,.int .i64 0,.int .i64 0,(.slice none 0 0)] 30 (0,0)))∧Aside0 (Below w.heap.size w wc))
 case first =>
  have H:=cU.out;clear cU;obtain ⟨cN,dD,H⟩:=hB H;have A7:=aM dD;clear dD
  by_cases c8:cN=true
  case neg =>
   replace c8:=Bool.eq_false_iff.mpr c8;subst c8;replace H:=hF H;have H':=aM H;clear H;have eY:=cA2 aD.out;go_wp2_with (((with_reducible refine gC (f:=39) rfl ?_);refine gL (some 8) Try.func39 #[.agg #[aG,.slice bM aH.length bN]] ?_;(with_reducible refine (Z18.calls k aG _ _ aH false _ ?side1 ?side2 A7.out).mono ?_);(case side1=>exact cM (cB bY.out HB.out));(case side2=>exact bZ.out);rintro e iG ⟨rfl,hb⟩;refine ⟨_,rfl,?_⟩;replace aD:=rB aD hb;replace aC:=rB aC hb;replace aA:=rB aA hb;replace HB:=rS HB hb;(try clear hb)))
   go_meet
   case rel=>exact ⟨_,(true),xE,H',⟨by omega⟩,⟨bk aD.out⟩,⟨bk aC.out⟩,⟨bk aA.out⟩,⟨bl HB.out⟩⟩
  subst c8;replace H:=hP H rfl;obtain ⟨cO,dE,H⟩:=hB H;have A9:=aM dE;clear dE
  by_cases cL:cO=true
  case neg =>
   replace cL:=Bool.eq_false_iff.mpr cL;subst cL;replace H:=hF H;have H':=aM H;clear H;have fD:=cA2 aD.out;go_wp2_with (first|((with_reducible refine gC (f:=39) rfl ?_);refine gL (some 8) Try.func39 #[.agg #[aG,.slice bM aH.length bN]] ?_;(with_reducible refine (Z18.calls k aG _ _ aH true _ ?side1 ?side2 A7.out).mono ?_);(case side1=>exact cM (cB bY.out HB.out));(case side2=>exact bZ.out);rintro e iH ⟨rfl,hb⟩;refine ⟨_,rfl,?_⟩;replace aD:=rB aD hb;replace aC:=rB aC hb;replace aA:=rB aA hb;replace HB:=rS HB hb;(try clear hb);have fG:=cA4 aC.out)|(go_at_call 19;(with_reducible refine (Z53.calls aQ aT aJ _ _ aI false _ ?side1 ?side2 A9.out).mono ?_);(case side1=>exact cM (cB cA.out HB.out));(case side2=>exact cC.out);rintro e iI ⟨rfl,hb⟩;replace aD:=rB aD hb;replace aC:=rB aC hb;replace aA:=rB aA hb;replace HB:=rS HB hb;(try clear hb)))
   go_meet
   case rel=>exact ⟨_,(true),xE,H',⟨by omega⟩,⟨bk aD.out⟩,⟨bk aC.out⟩,⟨bk aA.out⟩,⟨bl HB.out⟩⟩
  subst cL;replace H:=hP H rfl;obtain ⟨cK,cV,H⟩:=hB H;have eN:=aM cV;clear cV;have H':=aM H;clear H;have fM:=cA2 aD.out;go_wp2_with (first|((with_reducible refine gC (f:=39) rfl ?_);refine gL (some 8) Try.func39 #[.agg #[aG,.slice bM aH.length bN]] ?_;(with_reducible refine (Z18.calls k aG _ _ aH true _ ?side1 ?side2 A7.out).mono ?_);(case side1=>exact cM (cB bY.out HB.out));(case side2=>exact bZ.out);rintro e iJ ⟨rfl,hb⟩;refine ⟨_,rfl,?_⟩;replace aD:=rB aD hb;replace aC:=rB aC hb;replace aA:=rB aA hb;replace HB:=rS HB hb;(try clear hb);have fP:=cA4 aC.out)|(go_at_call 19;(with_reducible refine (Z53.calls aQ aT aJ _ _ aI true _ ?side1 ?side2 A9.out).mono ?_);(case side1=>exact cM (cB cA.out HB.out));(case side2=>exact cC.out);rintro e iK ⟨rfl,hb⟩;replace aD:=rB aD hb;replace aC:=rB aC hb;replace aA:=rB aA hb;replace HB:=rS HB hb;(try clear hb);have fQ:=cA2 aD.out;have fS:=cA4 aC.out)|(go_at_call 43;(with_reducible refine (Z39.calls k _ _ aH aJ cK _ ?side1 ?side2 eN.out).mono ?_);(case side1=>exact cM (cB bY.out HB.out));(case side2=>exact bZ.out);rintro e w' ⟨rfl,⟨nd,rfl⟩⟩))
  go_meet
  case rel=>exact ⟨_,(!cK),xE,H',⟨by omega⟩,⟨bk aD.out⟩,⟨bk aC.out⟩,⟨bk aA.out⟩,⟨bl HB.out⟩⟩
 case rest =>
  clear cU
  repeat first|clear c1|clear c2|clear p2|clear c3|clear c8|clear cL|clear iL|clear iM|clear iN|clear iO|clear iP|clear iQ|clear iR|clear iS
  obtain ⟨kq,cD,rfl,HA,HJ2,aD,aC,aA,HB⟩:=hcut;cases kq with
  | zero=>exact absurd HA.out (by simp [Z31.j0])
  | succ iT =>
   have H:=HA.out;clear HA;simp only [Z31.j0] at H
   by_cases cT:cD=true
   case pos =>
    subst cT;replace H:=hP H rfl;simp only [Option.some.injEq,Prod.mk.injEq] at H;obtain ⟨rfl,rfl,rfl,rfl,rfl⟩:=H;have fX:=cA4 aA.out;go_wp2
    refine bodyPost_ret (results_ct rfl _ _ aN 30 #[.int .i64 0,.int .i64 0,.int .i64 0,.slice none 0 0] (0,0) _ rfl (bm aA.out) Try.underlying30 rfl (by kernel_rfl)) rfl ?_
    exact ⟨_,xW,by exact Kd.R_nil _ _ _ _ _,bl HB.out⟩
   replace cT:=Bool.eq_false_iff.mpr cT;subst cT;replace H:=hF H;obtain ⟨⟨bK,bL,bI,bJ⟩,cW,H⟩:=hB H
   try dsimp only at H
   have dF:=aM cW;clear cW
   by_cases cE:bI=aG
   case neg =>
    rw [if_neg cE] at H
    have cX:(bI == aG)=false:=beq_eq_false_iff_ne.mpr cE;simp only [Option.some.injEq,Prod.mk.injEq] at H;obtain ⟨rfl,rfl,rfl,rfl,rfl⟩:=H;have gH:=cA4 aC.out;go_wp2_with (first|((with_reducible refine gC (f:=42) rfl ?_);refine gL (some 25) Try.func42 #[.agg #[aQ,aT,aJ,.slice bW aI.length bX]] ?_;(with_reducible refine (Z50.calls aQ aT aJ _ _ aI bK bL bI bJ _ ?side1 ?side2 dF.out).mono ?_);(case side1=>exact cM (cB cA.out HB.out));(case side2=>exact cC.out);rintro e iU ⟨eJ,rfl,ho0,hb⟩;refine ⟨_,rfl,?_⟩;have aK:=aM (Kd.R_lower ho0 (below_size (bl HB.out)));replace aD:=rB aD hb;replace aC:=rB aC hb;replace aA:=rB aA hb;replace HB:=rS HB hb;(repeat first|clear hb|clear ho0))|((with_reducible refine gD (N:=6) rfl ?_);refine bR aK (N:=6) (cs:=#[.int .i64 0,.int .i64 0,.int .i64 0,.slice none 0 0]) (t:=30) ?_;intro aX hg iV hbox hb;have aE:=aM (hbox);have dB:=gF hg HB;have bO:=nM hg aD;have bP:=nH hg aD;have bQ:=nM hg aC;have bT:=nH hg aC;have bU:=nM hg aA;have bV:=nH hg aA;replace aK:=rK aK hb;replace aD:=rB aD hb;replace aC:=rB aC hb;replace aA:=rB aA hb;replace HB:=rS HB hb;clear hb hbox hg;have gK:=bO.out;have gM:=bT.out;have gN:=bQ.out;have gO:=bV.out;have gP:=bU.out;have gQ:=cA4 aE.out;obtain ⟨cP,cQ,eK⟩:=Kd.R_slice aK.out;subst eK;have gR:=aV.out;have gS:=aW.out;have gT:=cA2 aD.out;have gU:=cA4 aA.out))
    refine bodyPost_ret (results_ct rfl _ _ aN 30 #[bK,bL,bI,.slice cP bJ.length cQ] (0,0) _ rfl (bm aA.out) Try.underlying30 rfl (by kernel_rfl)) rfl ?_
    exact ⟨_,xW,by (with_reducible repeat (first|apply Kd.R_alloc|apply Kd.R_drewN|apply Kd.R_drew));exact Kd.R_mono (rF4 (g:=aN) (rF4 (g:=aX) (Kd.R_types (Kd.R_types aK.out aE.out (by decide)) aA.out (by decide)) (fun _ hk=>hk.1.2) (.int .i64 bK) (.int .i64 bL) (.int .i64 bI) (.slice cP bJ.length cQ)) (fun _ hk=>hk.2) (.int .i64 bK) (.int .i64 bL) (.int .i64 bI) (.slice cP bJ.length cQ)) (fun _ hk=>trivial),bl HB.out⟩
   rw [if_pos cE] at H
   have cX:(bI == aG)=true:=beq_iff_eq.mpr cE;clear cE;simp only [Option.some.injEq,Prod.mk.injEq] at H;obtain ⟨rfl,rfl,rfl,rfl,rfl⟩:=H;have gZ:=cA4 aC.out;go_wp2_with (first|((with_reducible refine gC (f:=42) rfl ?_);refine gL (some 25) Try.func42 #[.agg #[aQ,aT,aJ,.slice bW aI.length bX]] ?_;(with_reducible refine (Z50.calls aQ aT aJ _ _ aI bK bL bI bJ _ ?side1 ?side2 dF.out).mono ?_);(case side1=>exact cM (cB cA.out HB.out));(case side2=>exact cC.out);rintro e iW ⟨eJ,rfl,ho0,hb⟩;refine ⟨_,rfl,?_⟩;have aK:=aM (Kd.R_lower ho0 (below_size (bl HB.out)));replace aD:=rB aD hb;replace aC:=rB aC hb;replace aA:=rB aA hb;replace HB:=rS HB hb;(repeat first|clear hb|clear ho0))|((with_reducible refine gD (N:=6) rfl ?_);refine bR aK (N:=6) (cs:=#[.int .i64 0,.int .i64 0,.int .i64 0,.slice none 0 0]) (t:=30) ?_;intro aX hg iX hbox hb;have aE:=aM (hbox);have dB:=gF hg HB;have bO:=nM hg aD;have bP:=nH hg aD;have bQ:=nM hg aC;have bT:=nH hg aC;have bU:=nM hg aA;have bV:=nH hg aA;replace aK:=rK aK hb;replace aD:=rB aD hb;replace aC:=rB aC hb;replace aA:=rB aA hb;replace HB:=rS HB hb;clear hb hbox hg;have hH:=bO.out;have hJ:=bT.out;have hO:=bQ.out;have hU:=bV.out;have hY:=bU.out;have hZ:=cA4 aE.out;obtain ⟨cG,cH,eL⟩:=Kd.R_slice aK.out;subst eL;have iA:=aV.out;have iB:=aW.out;have iC:=cA2 aD.out)|((with_reducible refine gD (N:=31) rfl ?_);refine (show ∀ {P:Program} {ops:Array Oper} {Q:Exit→Act→World→Prop} {rest:List Oper} {a:Act} {w:World} (C:World→Prop),C w→(∀ W,C W→wpList P ops Q rest a W)→wpList P ops Q rest a w from fun _ hC h=>h _ hC) (fun W=>W.heap[cR]?=some (.cells #[aG,.slice bM aH.length bN] 42 (0,0))∧W.heap[cS]?=some (.cells #[aQ,aT,aJ,.slice bW aI.length bX] 30 (0,0))∧W.heap[aN]?=some (.cells #[.int .i64 0,.int .i64 0,.int .i64 0,.slice none 0 0] 30 (0,0))∧W.heap[aX]?=some (.cells #[bK,bL,bI,.slice cG bJ.length cH] 30 (0,0))∧Kd.R (Kd.int .u8) 5 W w.heap.size (fun _=>True) (.slice cG bJ.length cH) bJ∧Below w.heap.size w W) ⟨fm aD.out,fm aC.out,fm aA.out,bm aE.out,by (with_reducible repeat (first|apply Kd.R_alloc|apply Kd.R_drewN|apply Kd.R_drew));exact Kd.R_mono (rT4 aK.out aE.out (.int .i64 bK) (.int .i64 bL) (.int .i64 bI) (.slice cG bJ.length cH)) (fun _ hk=>trivial),bl HB.out⟩ ?_;intro W9 hW9;clear aD aC;clear aA aE;clear aK HB;have aD:=aM hW9.1;have aC:=aM hW9.2.1;have aA:=aM hW9.2.2.1;have aE:=aM hW9.2.2.2.1;have aK:=aM hW9.2.2.2.2.1;have HB:=aM hW9.2.2.2.2.2;clear hW9;have dS:=cI aA.out 0;have dU:=bF aA.out 0;have dV:=cI aA.out 1;have dW:=bF aA.out 1;have dX:=cI aA.out 2;have dY:=bF aA.out 2;have dZ:=cI aA.out 3;have eA:=bF aA.out 3;have eB:=cI aE.out 0;have eD:=cI aE.out 1;have eF:=cI aE.out 2;have eG:=bF aE.out 2;have eH:=cI aE.out 3))
   refine bodyPost_ret (results_ct rfl _ _ aN 30 #[bK,bL,.int .i64 0,.slice cG bJ.length cH] (0,0) _ rfl (bm aA.out) Try.underlying30 rfl (by kernel_rfl)) rfl ?_
   exact ⟨_,xW,by (with_reducible repeat (first|apply Kd.R_alloc|apply Kd.R_drewN|apply Kd.R_drew));exact Kd.R_mono (rF4 (g:=aN) (kF (p:=⟨aX,2,none⟩) (Kd.R_types (Kd.R_types aK.out aE.out (by decide)) aA.out (by decide)) (fun _ hk=>hk.1.2) (.int .i64 0)) (fun _ hk=>hk.2) (.int .i64 bK) (.int .i64 bL) (.int .i64 0) (.slice cG bJ.length cH)) (fun _ hk=>trivial),bl HB.out⟩

end Go.Proofs.Ytjodolkdelffaaa.PFnCards

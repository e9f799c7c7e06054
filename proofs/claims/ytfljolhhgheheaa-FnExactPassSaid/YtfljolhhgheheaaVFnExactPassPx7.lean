/- A part of the proof of laws.FnExactPass. No condition beyond what its theorems say. -/
import Derived.Test.YtfljolhhgheheaaVFnExactPassPx4
namespace Go.Proofs.Ytfljolhhgheheaa.PFnExactPass
open Go.RowKit Go.Proofs.YtfljolhhgheheaaW.PrintWords Go.Proofs.YtfljolhhgheheaaW.PrintLast Go.Proofs.YtfljolhhgheheaaW.PrintMore
set_option linter.unusedVariables false
set_option linter.unusedSimpArgs false

mutual
def Y5.l0:Nat→List (S86)→Int→Int→List (S86)→Bool→Int→Int→Int→Int→Int→Option ((List (S86)))
 | 0,_,_,_,_,_,_,_,_,_,_=>none
 | k+1,x0,x1,x2,aH,aI,aG,aA,aC,aD,aE=>if aG<(x0.length:Int) then (if aI=true then (Y5.j1 k x0 x1 x2 aH aI aG false aA aC aD aE) else (if 0≤aG then ((Y62.f ((rd_T86 x0 aG).f0) ((rd_T86 x0 aG).f1) ((rd_T86 x0 aG).f2) ((rd_T86 x0 aG).f3) aA aC aD aE).bind fun aQ=>(Y5.j1 k x0 x1 x2 aH aI aG (!aQ) aA aC aD aE)) else (none))) else (if aI=true then ((Y7.f k aH).bind fun aT=>(if aT=true then (some aH) else ((some (([]:List (S86)):List (S86))).bind fun aJ=>(if aJ.length+x0.length<4398046511104 then (some (aJ++x0)) else (none))))) else (if aH.length<4398046511104 then ((some (aH++[(⟨aA,aC,aD,aE⟩:S86)]:List (S86))).bind fun aK=>((Y7.f k aK).bind fun aV=>(if aV=true then (some aK) else ((some (([]:List (S86)):List (S86))).bind fun aN=>(if aN.length+x0.length<4398046511104 then (some (aN++x0)) else (none)))))) else (none)))
def Y5.j1:Nat→List (S86)→Int→Int→List (S86)→Bool→Int→Bool→Int→Int→Int→Int→Option ((List (S86)))
 | 0,_,_,_,_,_,_,_,_,_,_,_=>none
 | k+1,x0,x1,x2,aH,aJ,aA,aK,aC,aD,aE,aG=>if aK=true then (if aH.length<4398046511104 then ((some (aH++[(⟨aC,aD,aE,aG⟩:S86)]:List (S86))).bind fun aI=>(if 0≤aA then (if aA<(x0.length:Int) then (if ((rd_T86 x0 aA).f0)=x1 then (if ((rd_T86 x0 aA).f1)=x2 then (Y5.l0 k x0 x1 x2 aI true (wrap64 (aA+1)) aC aD aE aG) else (if aI.length<4398046511104 then (Y5.l0 k x0 x1 x2 (aI++[(⟨(rd_T86 x0 aA).f0,(rd_T86 x0 aA).f1,(rd_T86 x0 aA).f2,(rd_T86 x0 aA).f3⟩:S86)]) true (wrap64 (aA+1)) aC aD aE aG) else (none))) else (if aI.length<4398046511104 then (Y5.l0 k x0 x1 x2 (aI++[(⟨(rd_T86 x0 aA).f0,(rd_T86 x0 aA).f1,(rd_T86 x0 aA).f2,(rd_T86 x0 aA).f3⟩:S86)]) true (wrap64 (aA+1)) aC aD aE aG) else (none))) else (none)) else (none))) else (none)) else (if 0≤aA then (if aA<(x0.length:Int) then (if ((rd_T86 x0 aA).f0)=x1 then (if ((rd_T86 x0 aA).f1)=x2 then (Y5.l0 k x0 x1 x2 aH aJ (wrap64 (aA+1)) aC aD aE aG) else (if aH.length<4398046511104 then (Y5.l0 k x0 x1 x2 (aH++[(⟨(rd_T86 x0 aA).f0,(rd_T86 x0 aA).f1,(rd_T86 x0 aA).f2,(rd_T86 x0 aA).f3⟩:S86)]) aJ (wrap64 (aA+1)) aC aD aE aG) else (none))) else (if aH.length<4398046511104 then (Y5.l0 k x0 x1 x2 (aH++[(⟨(rd_T86 x0 aA).f0,(rd_T86 x0 aA).f1,(rd_T86 x0 aA).f2,(rd_T86 x0 aA).f3⟩:S86)]) aJ (wrap64 (aA+1)) aC aD aE aG) else (none))) else (none)) else (none))
end
def Y5.f (k:Nat) (l0:List (S86)) (a1 a2 a3:Int):Option ((List (S86))):=Y5.l0 k l0 a1 a2 (([]:List (S86))) false 0 a1 a2 a3 20
theorem Y5.mono_l:∀ k,(∀ y0 y1 y2 y3 y4 y5 y6 y7 y8 y9,LeO (Y5.l0 k y0 y1 y2 y3 y4 y5 y6 y7 y8 y9) (Y5.l0 (k+1) y0 y1 y2 y3 y4 y5 y6 y7 y8 y9))∧(∀ y0 y1 y2 y3 y4 y5 y6 y7 y8 y9 aA,LeO (Y5.j1 k y0 y1 y2 y3 y4 y5 y6 y7 y8 y9 aA) (Y5.j1 (k+1) y0 y1 y2 y3 y4 y5 y6 y7 y8 y9 aA))
 | 0=>by refine ⟨?_,?_⟩ <;> intros <;> intro r h <;> simp [Y5.l0,Y5.j1] at h
 | k+1=>by
  obtain ⟨ih0,ih1⟩:=Y5.mono_l k;refine ⟨?_,?_⟩
  ·intro y0 y1 y2 y3 y4 y5 y6 y7 y8 y9
   unfold Y5.l0
   repeat' first|(with_reducible first|apply ih0|apply ih1|apply Y7.mono|exact lR _|exact lN _|refine lI ?_ ?_|refine lB ?_ fun _=>?_)|exact lN _|refine lI ?_ ?_|refine lB ?_ fun _=>?_
  ·intro y0 y1 y2 y3 y4 y5 y6 y7 y8 y9 aA
   unfold Y5.j1
   repeat' first|(with_reducible first|apply ih0|apply ih1|apply Y7.mono|exact lR _|exact lN _|refine lI ?_ ?_|refine lB ?_ fun _=>?_)|exact lN _|refine lI ?_ ?_|refine lB ?_ fun _=>?_
theorem Y5.mono:∀ a0 a1 a2 a3 k,LeO (Y5.f k a0 a1 a2 a3) (Y5.f (k+1) a0 a1 a2 a3):=by
 intro a0 a1 a2 a3 k;obtain ⟨ih0,ih1⟩:=Y5.mono_l k;unfold Y5.f
 repeat' first|(with_reducible first|apply ih0|apply ih1|apply Y7.mono|exact lR _|exact lN _|refine lI ?_ ?_|refine lB ?_ fun _=>?_)|exact lN _|refine lI ?_ ?_|refine lB ?_ fun _=>?_
def Y5.T7:Bool × List (List Nat × List Nat):=(true,[([],[]),([0],[0]),([1],[1]),([2],[2]),([2],[2]),([3,4,2],[2,3,4]),([5,2],[2,5]),([2],[2]),([6,7,2,2],[2,6,7]),([8,2],[2,8]),([2,9],[2,9])])
def Y5.B7:List Nat:=[0,1,3,7,7,31,63,7,255,511,1023]
theorem Y5.tab7:rtab .any (opsOf Try.f27 7)=Y5.T7:=by kernel_rfl
theorem Y5.bits7:waitsOk Y5.T7.2 Y5.B7=true:=by kernel_rfl
set_option maxHeartbeats 60000000 in
set_option maxRecDepth 100000 in
theorem Y5.calls (k:Nat) (A0:Option Addr) (c0:Nat) (l0:List (S86)) (a1 a2 a3:Int) (r:List (S86)) (w:World) (hr0:Kd.C k86 w A0 l0.length l0) (hc0:l0.length≤c0) (h:Y5.f k l0 a1 a2 a3=some r) :
  Calls Try.prog 27 #[.slice A0 l0.length c0,a1,a2,a3] w fun e w'=>∃ iG:Value,e=.returned (iG)∧Kd.R k86 86 w' w.heap.size (fun _=>True) iG r∧Below w.heap.size w w':=by
 have jT:=Try.underlying86;have bI:=aM hr0;have kD:=aM hc0;clear hr0 hc0;have HB:=aM (Below.refl w.heap.size w);have H:(Y5.l0 k l0 a1 a2 (([]:List (S86))) false 0 a1 a2 a3 20)=some r:=h;clear h;obtain ⟨fP,cL⟩:∃ y_:List (S86),y_=(([]:List (S86))):=⟨_,rfl⟩;replace H:(Y5.l0 k l0 a1 a2 fP false 0 a1 a2 a3 20)=some r:=by first|(rw [cL];with_reducible exact H)|(have H2_:=(Option.bind_some _ _).symm.trans H;rw [cL];with_reducible exact H2_)|(have H2_:=(Option.bind_some _ _).symm.trans H;with_reducible exact H2_)|with_reducible exact H|(rw [cL];exact H)|exact H
 have eU:=aM cL;clear cL;have H':=aM H;clear H;go_enter Try.func27,Try.ntmps27
 go_wp2_with (first|((with_reducible refine gD (N:=9) rfl ?_);refine bE (N:=9) (cs:=#[.int .i64 0,.int .i64 0,.int .i64 0,.int .i64 0]) (t:=86) ?_;intro aE hg w5 hbox hb;have aC:=aM (hbox);have jI:=gF hg HB;have jJ:=gF hg HB;replace HB:=rS HB hb;clear hb hbox hg;have jU:=cA4 aC.out)|((with_reducible refine gD (N:=17) rfl ?_);refine Kd.R_lit k86 _ 86 ?hg (N:=17) ?hd (xs:=([]:List (S86))) (inner:=[]) (ok:=fun _=>True) (okp:=fun _=>True) ?hr ?hp (fun _ hk=>hk) trivial (Below.refl _ _) (Nat.le_refl _) (by simp) ?_;(case hd=>rfl);(case hg=>rfl);(case hr=>first|(go_simp;done)|(go_simp;rfl));(case hp=>exact (Reps.none _ _));intro jV w7 ho8 hb hg_ hnew_;clear hg_ hnew_;(first|rw [← eU.out] at ho8|(simp only [Int.reduceToNat] at ho8;rw [← eU.out] at ho8));have gK:=aM (Kd.R_lower (Kd.R_newB ho8 (g:=aE) (o:=.cells #[a1,a2,a3,.int .i64 20] 86 (0,0)) (bm aC.out)) (below_size (bl HB.out)));replace aC:=aM (bB (g:=aE) (o:=.cells #[a1,a2,a3,.int .i64 20] 86 (0,0)) (bm aC.out) hb);replace HB:=rS HB hb;clear hb ho8))
 go_loopg [10,11,12] k (fun kq jD jE jF w'=>∃ (aG:List (S86)) (aX:Bool) (aA:Int),jE=.bool aX∧jF=.int .i64 aA∧Aside0 (Y5.l0 kq l0 a1 a2 aG aX aA a1 a2 a3 20=some r)∧Aside0 (kq≤k)∧Aside0 (Kd.R k86 86 w' w.heap.size (fun k_=>k_≠aE) jD aG)∧Aside0 (w'.heap[aE]?=some (.cells #[a1,a2,a3,.int .i64 20] 86 (0,0)))∧Aside0 (Below w.heap.size w w'))
 case atStart=>exact ⟨(fP),(false),(0),xE,xE,H',⟨Nat.le_refl _⟩,⟨kr (Kd.R_mono gK.out (fun _ hk=>hk.2))⟩,⟨bk aC.out⟩,⟨bl HB.out⟩⟩
 case round =>
  clear H'
  repeat first|clear c2|clear p2
  obtain ⟨aG,aX,aA,rfl,rfl,HA,bO,aD,aC,HB⟩:=hrel;cases gk with
  | zero=>exact absurd HA.out (by simp [Y5.l0])
  | succ k1 =>
   have H:=HA.out;clear HA;simp only [Y5.l0] at H
   by_cases c9:aA<(l0.length:Int)
   case neg =>
    rw [if_neg c9] at H
    have fQ:=decide_eq_false c9;clear c9
    by_cases eV:aX=true
    case pos =>
     subst eV;replace H:=hP H rfl;obtain ⟨iJ,fS,H⟩:=hB H;have iH:=aM fS;clear fS
     by_cases eW:iJ=true
     case pos =>
      subst eW;replace H:=hP H rfl;obtain rfl:=Option.some.inj H;obtain ⟨iK,iL,iM⟩:=Kd.R_slice aD.out;subst iM;go_wp2_with (first|((with_reducible refine gC (f:=54) rfl ?_);refine gL (some 69) Try.func54 #[.slice iK aG.length iL] ?_;(with_reducible refine (Y7.calls k1 _ _ aG true _ ?side1 ?side2 iH.out).mono ?_);(case side1=>exact cM ((Kd.R_reads' aD.out).2.2));(case side2=>exact (Kd.R_reads' aD.out).2.1);rintro e kE ⟨rfl,hb⟩;refine ⟨_,rfl,?_⟩;replace aD:=rK aD hb;replace aC:=rB aC hb;replace HB:=rS HB hb;(try clear hb)))
      go_ret
      exact ⟨_,xW,by (with_reducible repeat (first|apply Kd.R_alloc|apply Kd.R_drewN|apply Kd.R_drew));exact Kd.R_mono aD.out (fun _ hk=>trivial),bl HB.out⟩
     replace eW:=Bool.eq_false_iff.mpr eW;subst eW;replace H:=hF H;obtain ⟨eH,eX,H⟩:=hS H;have eY:=aM eX;clear eX
     by_cases eZ:eH.length+l0.length<4398046511104
     case neg =>
      rw [if_neg eZ] at H
      exact absurd H (by simp)
     rw [if_pos eZ] at H
     have LMc46:=aM eZ;clear eZ;obtain ⟨iN,cN⟩:∃ y_:List (S86),y_=(eH++l0):=⟨_,rfl⟩;replace H:(some iN)=some r:=by first|(rw [cN];with_reducible exact H)|(have H2_:=(Option.bind_some _ _).symm.trans H;rw [cN];with_reducible exact H2_)|(have H2_:=(Option.bind_some _ _).symm.trans H;with_reducible exact H2_)|with_reducible exact H|(rw [cN];exact H)|exact H
     have gM:=aM cN;clear cN;obtain rfl:=Option.some.inj H;obtain ⟨fT,fU,iO⟩:=Kd.R_slice aD.out;subst iO;go_wp2_with (first|((with_reducible refine gC (f:=54) rfl ?_);refine gL (some 69) Try.func54 #[.slice fT aG.length fU] ?_;(with_reducible refine (Y7.calls k1 _ _ aG false _ ?side1 ?side2 iH.out).mono ?_);(case side1=>exact cM ((Kd.R_reads' aD.out).2.2));(case side2=>exact (Kd.R_reads' aD.out).2.1);rintro e kG ⟨rfl,hb⟩;refine ⟨_,rfl,?_⟩;replace aD:=rK aD hb;replace aC:=rB aC hb;replace HB:=rS HB hb;(try clear hb))|((with_reducible refine gD (N:=71) rfl ?_);refine Kd.R_lit k86 _ 86 ?hg (N:=71) ?hd (xs:=([]:List (S86))) (inner:=[]) (ok:=fun _=>True) (okp:=fun _=>True) ?hr ?hp (fun _ hk=>hk) trivial (Below.refl _ _) (Nat.le_refl _) (by simp) ?_;(case hd=>rfl);(case hg=>rfl);(case hr=>first|(go_simp;done)|(go_simp;rfl)|(obtain ⟨A_,c_,e_⟩:=Kd.R_slice aD.out;subst e_;(first|(go_simp;done)|(go_simp;rfl)))|(obtain ⟨A_,c_,e_⟩:=Kd.S_slice aD.out;subst e_;(first|(go_simp;done)|(go_simp;rfl)))|(obtain ⟨A_,c_,e_⟩:=Kd.R_slice cO.out;subst e_;(first|(go_simp;done)|(go_simp;rfl)))|(obtain ⟨A_,c_,e_⟩:=Kd.S_slice cO.out;subst e_;(first|(go_simp;done)|(go_simp;rfl))));(case hp=>exact (Reps.none _ _));intro iP kH ho50 hb hg_ hnew_;clear hg_ hnew_;(first|rw [← eY.out] at ho50|(simp only [Int.reduceToNat] at ho50;rw [← eY.out] at ho50));have cO:=aM (Kd.R_lower (Kd.R_newB (Kd.R_new' ho50 (Kd.R_lt (kr aD.out))) (g:=aE) (o:=.cells #[a1,a2,a3,.int .i64 20] 86 (0,0)) (bk aC.out)) (below_size (bl HB.out)));replace aD:=aM (Kd.R_elder' (kr aD.out) (Kd.R_base ho50) hb);replace aC:=rB aC hb;replace HB:=rS HB hb;clear hb ho50)|((with_reducible refine gate_builtin (b:=.append) (xs:=#[.tmp 71,.tmp 72]) rfl ?_);at_builtin;refine Kd.R_append_rows k86 (w0:=w) w.heap.size rfl (.tmp 71) (.tmp 72) 33 86 (.agg #[(.int .i64 0),(.int .i64 0),(.int .i64 0),(.int .i64 0)]) 32 rfl Try.underlying33 info86 rfl (by decide) (by omega) iP eH l0 _ _ _ (fun k_=>some k_≠(.slice fT aG.length fU:Value).ownBlock∧k_≠aE) (fun _=>False) rfl rfl ?aO ?aR (fun _ _ h=>h) (fun _ h=>h.elim) ?aF ?aB ?aS ?aL ?_;(case aR=>repeat (first|exact (cB bI.out HB.out)|(with_reducible refine Kd.C_alloc ?_ _)|(with_reducible refine Kd.C_drewN ?_ _)|(with_reducible refine Kd.C_drew ?_)));(case aB=>exact (bl HB.out));(case aF=>exact (fun k_ hk=>⟨Kd.fresh' (Kd.R_lt (kr aD.out)) k_ hk,Kd.freshB (g:=aE) (o:=.cells #[a1,a2,a3,.int .i64 20] 86 (0,0)) (bk aC.out) k_ hk⟩));(case aO=>exact (kr (Kd.R_mono cO.out (fun _ hk=>⟨hk.1.2,hk.2⟩))));(case aS=>exact (below_size (bl HB.out)));(case aL=>have:=LMc46.out;omega);intro jW kI ho hb hg hat;rw [← gM.out] at ho;have gN:=aM (ho);replace aD:=aM (Kd.R_after (ok:=(fun k_=>k_≠aE)) (kr aD.out) hg hat);replace aC:=aM (blk_grown (bk aC.out) hg (Kd.R_away cO.out (fun _ hk=>hk.2)));replace HB:=aM (hb);clear cO;clear ho hb hg hat))
     go_ret
     exact ⟨_,xW,by (with_reducible repeat (first|apply Kd.R_alloc|apply Kd.R_drewN|apply Kd.R_drew));exact Kd.R_mono gN.out (fun _ hk=>trivial),bl HB.out⟩
    replace eV:=Bool.eq_false_iff.mpr eV;subst eV;replace H:=hF H
    by_cases fA:aG.length<4398046511104
    case neg =>
     rw [if_neg fA] at H
     exact absurd H (by simp)
    rw [if_pos fA] at H
    have LMc52:=aM fA;clear fA;obtain ⟨dF,fB,H⟩:=hS H;have fC:=aM fB;clear fB;obtain ⟨iQ,fV,H⟩:=hB H;have iI:=aM fV;clear fV
    by_cases fD:iQ=true
    case pos =>
     subst fD;replace H:=hP H rfl;obtain rfl:=Option.some.inj H;have jK:=cA4 aC.out;go_wp2_with (first|((with_reducible refine gate_builtin (b:=.append) (xs:=#[.tmp 64,.tmp 66]) rfl ?_);at_builtin;refine Kd.R_append k86 (w0:=w) w.heap.size rfl (.tmp 64) (.tmp 66) 33 86 (.agg #[(.int .i64 0),(.int .i64 0),(.int .i64 0),(.int .i64 0)]) 32 rfl Try.underlying33 info86 rfl (by decide) (by omega) u10 aG (⟨a1,a2,a3,20⟩:S86) [.int .i64 a1,.int .i64 a2,.int .i64 a3,.int .i64 20] (fun k_=>k_≠aE) (fun _=>False) rfl rfl ?aP (fun _ hk=>hk.elim) ?aF ?aO ?aB ?aS ?aL ?_;(case aP=>exact k86_mkM _ _ _ (⟨a1,a2,a3,20⟩:S86));(case aB=>exact (bl HB.out));(case aF=>exact (fun k_ hk=>Kd.freshB (g:=aE) (o:=.cells #[a1,a2,a3,.int .i64 20] 86 (0,0)) (bk aC.out) k_ hk));(case aO=>exact (kr aD.out));(case aS=>exact (below_size (bl HB.out)));(case aL=>have:=LMc52.out;omega);intro iR kJ ho hb hg hat;rw [← fC.out] at ho;have aH:=aM (ho);replace aC:=aM (blk_grown (bk aC.out) hg (Kd.R_away aD.out (fun _ hk=>hk)));replace HB:=aM (hb);clear aD;clear ho hb hg hat;obtain ⟨iS,iT,iU⟩:=Kd.R_slice aH.out;subst iU)|((with_reducible refine gC (f:=54) rfl ?_);refine gL (some 69) Try.func54 #[.slice iS dF.length iT] ?_;(with_reducible refine (Y7.calls k1 _ _ dF true _ ?side1 ?side2 iI.out).mono ?_);(case side1=>exact cM ((Kd.R_reads' aH.out).2.2));(case side2=>exact (Kd.R_reads' aH.out).2.1);rintro e kK ⟨rfl,hb⟩;refine ⟨_,rfl,?_⟩;replace aH:=rK aH hb;replace aC:=rB aC hb;replace HB:=rS HB hb;(try clear hb)))
     go_ret
     exact ⟨_,xW,by (with_reducible repeat (first|apply Kd.R_alloc|apply Kd.R_drewN|apply Kd.R_drew));exact Kd.R_mono aH.out (fun _ hk=>trivial),bl HB.out⟩
    replace fD:=Bool.eq_false_iff.mpr fD;subst fD;replace H:=hF H;obtain ⟨eI,fE,H⟩:=hS H;have fF:=aM fE;clear fE
    by_cases fG:eI.length+l0.length<4398046511104
    case neg =>
     rw [if_neg fG] at H
     exact absurd H (by simp)
    rw [if_pos fG] at H
    have LMc59:=aM fG;clear fG;obtain ⟨iV,cP⟩:∃ y_:List (S86),y_=(eI++l0):=⟨_,rfl⟩;replace H:(some iV)=some r:=by first|(rw [cP];with_reducible exact H)|(have H2_:=(Option.bind_some _ _).symm.trans H;rw [cP];with_reducible exact H2_)|(have H2_:=(Option.bind_some _ _).symm.trans H;with_reducible exact H2_)|with_reducible exact H|(rw [cP];exact H)|exact H
    have gO:=aM cP;clear cP;obtain rfl:=Option.some.inj H;have jL:=cA4 aC.out;go_wp2_with (first|((with_reducible refine gate_builtin (b:=.append) (xs:=#[.tmp 64,.tmp 66]) rfl ?_);at_builtin;refine Kd.R_append k86 (w0:=w) w.heap.size rfl (.tmp 64) (.tmp 66) 33 86 (.agg #[(.int .i64 0),(.int .i64 0),(.int .i64 0),(.int .i64 0)]) 32 rfl Try.underlying33 info86 rfl (by decide) (by omega) u10 aG (⟨a1,a2,a3,20⟩:S86) [.int .i64 a1,.int .i64 a2,.int .i64 a3,.int .i64 20] (fun k_=>k_≠aE) (fun _=>False) rfl rfl ?aP (fun _ hk=>hk.elim) ?aF ?aO ?aB ?aS ?aL ?_;(case aP=>exact k86_mkM _ _ _ (⟨a1,a2,a3,20⟩:S86));(case aB=>exact (bl HB.out));(case aF=>exact (fun k_ hk=>Kd.freshB (g:=aE) (o:=.cells #[a1,a2,a3,.int .i64 20] 86 (0,0)) (bk aC.out) k_ hk));(case aO=>exact (kr aD.out));(case aS=>exact (below_size (bl HB.out)));(case aL=>have:=LMc52.out;omega);intro iR kL ho hb hg hat;rw [← fC.out] at ho;have aH:=aM (ho);replace aC:=aM (blk_grown (bk aC.out) hg (Kd.R_away aD.out (fun _ hk=>hk)));replace HB:=aM (hb);clear aD;clear ho hb hg hat;obtain ⟨fW,fX,iW⟩:=Kd.R_slice aH.out;subst iW)|((with_reducible refine gC (f:=54) rfl ?_);refine gL (some 69) Try.func54 #[.slice fW dF.length fX] ?_;(with_reducible refine (Y7.calls k1 _ _ dF false _ ?side1 ?side2 iI.out).mono ?_);(case side1=>exact cM ((Kd.R_reads' aH.out).2.2));(case side2=>exact (Kd.R_reads' aH.out).2.1);rintro e kM ⟨rfl,hb⟩;refine ⟨_,rfl,?_⟩;replace aH:=rK aH hb;replace aC:=rB aC hb;replace HB:=rS HB hb;(try clear hb))|((with_reducible refine gD (N:=71) rfl ?_);refine Kd.R_lit k86 _ 86 ?hg (N:=71) ?hd (xs:=([]:List (S86))) (inner:=[]) (ok:=fun _=>True) (okp:=fun _=>True) ?hr ?hp (fun _ hk=>hk) trivial (Below.refl _ _) (Nat.le_refl _) (by simp) ?_;(case hd=>rfl);(case hg=>rfl);(case hr=>first|(go_simp;done)|(go_simp;rfl)|(obtain ⟨A_,c_,e_⟩:=Kd.R_slice aH.out;subst e_;(first|(go_simp;done)|(go_simp;rfl)))|(obtain ⟨A_,c_,e_⟩:=Kd.S_slice aH.out;subst e_;(first|(go_simp;done)|(go_simp;rfl)))|(obtain ⟨A_,c_,e_⟩:=Kd.R_slice cQ.out;subst e_;(first|(go_simp;done)|(go_simp;rfl)))|(obtain ⟨A_,c_,e_⟩:=Kd.S_slice cQ.out;subst e_;(first|(go_simp;done)|(go_simp;rfl))));(case hp=>exact (Reps.none _ _));intro iX kN ho65 hb hg_ hnew_;clear hg_ hnew_;(first|rw [← fF.out] at ho65|(simp only [Int.reduceToNat] at ho65;rw [← fF.out] at ho65));have cQ:=aM (Kd.R_lower (Kd.R_newB (Kd.R_new' ho65 (Kd.R_lt (kr aH.out))) (g:=aE) (o:=.cells #[a1,a2,a3,.int .i64 20] 86 (0,0)) (bk aC.out)) (below_size (bl HB.out)));replace aH:=aM (Kd.R_elder' (kr aH.out) (Kd.R_base ho65) hb);replace aC:=rB aC hb;replace HB:=rS HB hb;clear hb ho65)|((with_reducible refine gate_builtin (b:=.append) (xs:=#[.tmp 71,.tmp 72]) rfl ?_);at_builtin;refine Kd.R_append_rows k86 (w0:=w) w.heap.size rfl (.tmp 71) (.tmp 72) 33 86 (.agg #[(.int .i64 0),(.int .i64 0),(.int .i64 0),(.int .i64 0)]) 32 rfl Try.underlying33 info86 rfl (by decide) (by omega) iX eI l0 _ _ _ (fun k_=>some k_≠(.slice fW dF.length fX:Value).ownBlock∧k_≠aE) (fun _=>False) rfl rfl ?aO ?aR (fun _ _ h=>h) (fun _ h=>h.elim) ?aF ?aB ?aS ?aL ?_;(case aR=>repeat (first|exact (cB bI.out HB.out)|(with_reducible refine Kd.C_alloc ?_ _)|(with_reducible refine Kd.C_drewN ?_ _)|(with_reducible refine Kd.C_drew ?_)));(case aB=>exact (bl HB.out));(case aF=>exact (fun k_ hk=>⟨Kd.fresh' (Kd.R_lt (kr aH.out)) k_ hk,Kd.freshB (g:=aE) (o:=.cells #[a1,a2,a3,.int .i64 20] 86 (0,0)) (bk aC.out) k_ hk⟩));(case aO=>exact (kr (Kd.R_mono cQ.out (fun _ hk=>⟨hk.1.2,hk.2⟩))));(case aS=>exact (below_size (bl HB.out)));(case aL=>have:=LMc59.out;omega);intro jX kO ho hb hg hat;rw [← gO.out] at ho;have gP:=aM (ho);replace aC:=aM (blk_grown (bk aC.out) hg (Kd.R_away cQ.out (fun _ hk=>hk.2)));replace aH:=aM (Kd.R_after (ok:=(fun k_=>k_≠aE)) (kr aH.out) hg hat);replace HB:=aM (hb);clear cQ;clear ho hb hg hat))
    go_ret
    exact ⟨_,xW,by (with_reducible repeat (first|apply Kd.R_alloc|apply Kd.R_drewN|apply Kd.R_drew));exact Kd.R_mono gP.out (fun _ hk=>trivial),bl HB.out⟩
   rw [if_pos c9] at H
   have fQ:=decide_eq_true c9;clear c9;have eJ:=aM H;clear H;go_upto_region 7 with (fail)
   go_cut [34] (fun jG wc=>∃ (kq:Nat) (dE:Bool),jG=.bool dE∧Aside0 (Y5.j1 kq l0 a1 a2 aG aX aA dE a1 a2 a3 20=some r)∧Aside0 (kq≤k1)∧Aside0 (Kd.R k86 86 wc w.heap.size (fun k_=>k_≠aE) u10 aG)∧Aside0 (wc.heap[aE]?=some (.cells #[a1,a2,a3,.int .i64 20] 86 (0,0)))∧Aside0 (Below w.heap.size w wc))
   case first =>
    have H:=eJ.out;clear eJ
    by_cases eG:aX=true
    case pos =>
     subst eG;replace H:=hP H rfl;have H':=aM H;clear H
     try go_wp2
     replace aD:=aM (Kd.R_drew aD.out);replace aC:=aM (blk_drew aC.out);replace HB:=aM (below_drew1 HB.out);refine start_ (n:=11) (S:=fun w'=>True) (ds:=[]) (dn 11 0) (by kernel_rfl) rfl rfl trivial (fun hHeld=>?_);refine with_tabW Y5.tab7 Y5.bits7 (fun HT_ HW_=>?_)
     generalize wr.drew=kP at aD aC HB hHeld ⊢
     refine nY (N:=some 24) HT_ ?_;refine nY (N:=some 25) HT_ ?_;refine nY (N:=some 26) HT_ ?_;refine nU (N:=some 27) HT_ ?_;refine nU (N:=some 28) HT_ ?_;refine nU (N:=some 29) HT_ ?_;refine nU (N:=some 30) HT_ ?_;refine nU (N:=some 31) HT_ ?_;refine nU (N:=some 32) HT_ ?_;refine nU (N:=some 33) HT_ ?_;refine nY (N:=some 34) HT_ ?_;refine done_ (done_of HT_.out (by kernel_rfl)) ?_
     try go_wp2
     go_meet
     case rel=>exact ⟨_,(false),xE,H',⟨by have:=bO.out;first|omega|exact Nat.le_refl _⟩,⟨kr aD.out⟩,⟨bk aC.out⟩,⟨bl HB.out⟩⟩
    replace eG:=Bool.eq_false_iff.mpr eG;subst eG;replace H:=hF H;obtain ⟨dZ,H⟩:=gI H
    (first|rw [dZ]|(simp only [i64_w,i32_w];rw [dZ])|skip)
    obtain ⟨fY,gA,H⟩:=hB H;have jH:=aM gA;clear gA;have H':=aM H;clear H
    try go_wp2
    replace aD:=aM (Kd.R_drew aD.out);replace aC:=aM (blk_drew aC.out);replace HB:=aM (below_drew1 HB.out);have eA:0≤(aA:Int):=dT;have eB:aA<(l0.length:Int):=dT;obtain ⟨gQ,iY,bV,bW,bX,bY⟩:=at_T86 bI.out aA eA eB;have dM:=bY;have dN:=bX;have dO:=bW;have dP:=bV;cases iY
    replace bV:=xB HB bV;replace bW:=xB HB bW;replace bX:=xB HB bX;replace bY:=xB HB bY;replace eA:=eq_true eA;replace eB:=eq_true eB;refine start_ (n:=11) (S:=fun w'=>cT4 w' aE (.int .i64 a1) (.int .i64 a2) (.int .i64 a3) (.int .i64 20) (cE86 w' gQ (aA).toNat (rd_T86 l0 aA))) (ds:=[]) (dn 11 0) (by kernel_rfl) rfl rfl ⟨cI aC.out 0,cI aC.out 1,cI aC.out 2,cI aC.out 3,(xB HB dP :),(xB HB dO :),(xB HB dN :),(xB HB dM :)⟩ (fun hHeld=>?_);refine with_tabW Y5.tab7 Y5.bits7 (fun HT_ HW_=>?_)
    generalize wr.drew=kQ at aD aC HB bV bW bX bY hHeld ⊢
    refine nY (N:=some 24) HT_ ?_;refine nY (N:=some 25) HT_ ?_;refine nY (N:=some 26) HT_ ?_;refine nY (N:=some 27) HT_ ?_;refine nY (N:=some 28) HT_ ?_;refine nY (N:=some 29) HT_ ?_;refine tY (N:=some 30) HT_ HW_ hHeld ?_;refine tY (N:=some 31) HT_ HW_ hHeld ?_;refine oN (N:=some 32) HT_ (fun K hK=>?_)
    refine goes_ Try.func59 (by kernel_rfl) rfl #[.agg #[((rd_T86 l0 aA).f0),((rd_T86 l0 aA).f1),((rd_T86 l0 aA).f2),((rd_T86 l0 aA).f3)],.agg #[a1,a2,a3,.int .i64 20]] (by rfl) rfl rfl xR ?_
    with_reducible refine (Y62.calls ((rd_T86 l0 aA).f0) ((rd_T86 l0 aA).f1) ((rd_T86 l0 aA).f2) ((rd_T86 l0 aA).f3) a1 a2 a3 20 fY _ jH.out).mono ?_
    rintro e kR ⟨rfl,hb⟩;refine ⟨_,rfl,?_⟩;replace aD:=rK aD hb;replace aC:=rB aC hb;replace HB:=rS HB hb
    (try clear hb)
    (try clear hb2)
    (try clear hk)
    (try clear hi)
    refine hK.out _ _ ⟨cI aC.out 0,cI aC.out 1,cI aC.out 2,cI aC.out 3,(xB HB dP :),(xB HB dO :),(xB HB dN :),(xB HB dM :)⟩ (fun hHeld=>?_)
    clear hK K;refine norm_ (a':=?_) ?_ ?_;rotate_left
    ·show Act.put _ (some 32) _=_
     simp only [Act.put,sA,sZ,sS,i64_w,i32_w]
     rfl
    refine nY (N:=some 33) HT_ ?_;refine nY (N:=some 34) HT_ ?_;refine done_ (done_of HT_.out (by kernel_rfl)) ?_
    try go_wp2
    go_meet
    case rel=>exact ⟨_,(!fY),xE,H',⟨by have:=bO.out;first|omega|exact Nat.le_refl _⟩,⟨kr aD.out⟩,⟨bk aC.out⟩,⟨bl HB.out⟩⟩
   case rest =>
    clear eJ
    repeat first|clear c1|clear p1|clear q1|clear c2|clear p2|clear c5|clear c9|clear fQ|clear eG|clear kS|clear dZ|clear eA|clear p2|clear eB
    obtain ⟨kq,dE,rfl,HA,HJ9,aD,aC,HB⟩:=hcut;cases kq with
    | zero=>exact absurd HA.out (by simp [Y5.j1])
    | succ cC =>
     have H:=HA.out;clear HA;simp only [Y5.j1] at H
     by_cases fH:dE=true
     case pos =>
      subst fH;replace H:=hP H rfl
      by_cases fI:aG.length<4398046511104
      case neg =>
       rw [if_neg fI] at H
       exact absurd H (by simp)
      rw [if_pos fI] at H
      have LMc18:=aM fI;clear fI;obtain ⟨cD,fK,H⟩:=hS H;have eC:=aM fK;clear fK;obtain ⟨jM,H⟩:=gI H;obtain ⟨jN,H⟩:=gI H
      by_cases dG:((rd_T86 l0 aA).f0)=a1
      case neg =>
       rw [if_neg dG] at H
       have gR:(((rd_T86 l0 aA).f0) == a1)=false:=beq_eq_false_iff_ne.mpr dG;have gS:(((rd_T86 l0 aA).f0) != a1)=true:=bne_iff_ne.mpr dG
       by_cases fL:cD.length<4398046511104
       case neg =>
        rw [if_neg fL] at H
        exact absurd H (by simp)
       rw [if_pos fL] at H
       have LMc29:=aM fL;clear fL;obtain ⟨gB,cR⟩:∃ y_:List (S86),y_=(cD++[(⟨(rd_T86 l0 aA).f0,(rd_T86 l0 aA).f1,(rd_T86 l0 aA).f2,(rd_T86 l0 aA).f3⟩:S86)]):=⟨_,rfl⟩;replace H:(Y5.l0 cC l0 a1 a2 gB true (wS aA) a1 a2 a3 20)=some r:=by first|(rw [cR];with_reducible exact H)|(have H2_:=(Option.bind_some _ _).symm.trans H;rw [cR];with_reducible exact H2_)|(have H2_:=(Option.bind_some _ _).symm.trans H;with_reducible exact H2_)|with_reducible exact H|(rw [cR];exact H)|exact H
       have gT:=aM cR;clear cR;have H':=aM H;clear H;have jO:=cA4 aC.out;go_wp2_with (first|((with_reducible refine gate_builtin (b:=.append) (xs:=#[.tmp 35,.tmp 37]) rfl ?_);at_builtin;refine Kd.R_append k86 (w0:=w) w.heap.size rfl (.tmp 35) (.tmp 37) 33 86 (.agg #[(.int .i64 0),(.int .i64 0),(.int .i64 0),(.int .i64 0)]) 32 rfl Try.underlying33 info86 rfl (by decide) (by omega) u10 aG (⟨a1,a2,a3,20⟩:S86) [.int .i64 a1,.int .i64 a2,.int .i64 a3,.int .i64 20] (fun k_=>k_≠aE) (fun _=>False) rfl rfl ?aP (fun _ hk=>hk.elim) ?aF ?aO ?aB ?aS ?aL ?_;(case aP=>exact k86_mkM _ _ _ (⟨a1,a2,a3,20⟩:S86));(case aB=>exact (bl HB.out));(case aF=>exact (fun k_ hk=>Kd.freshB (g:=aE) (o:=.cells #[a1,a2,a3,.int .i64 20] 86 (0,0)) (bk aC.out) k_ hk));(case aO=>exact (kr aD.out));(case aS=>exact (below_size (bl HB.out)));(case aL=>have:=LMc18.out;omega);intro eD kT ho hb hg hat;rw [← eC.out] at ho;have bJ:=aM (ho);replace aC:=aM (blk_grown (bk aC.out) hg (Kd.R_away aD.out (fun _ hk=>hk)));replace HB:=aM (hb);clear aD;clear ho hb hg hat;have bK:0≤(aA:Int):=dT;have bL:aA<(l0.length:Int):=dT;obtain ⟨bZ,dH,aI,aJ,aK,aN⟩:=at_T86 bI.out aA bK bL;cases dH;replace aI:=(HB.out.cell (World.block_lt_of_cell? w _ aI)).trans aI;replace aJ:=(HB.out.cell (World.block_lt_of_cell? w _ aJ)).trans aJ;replace aK:=(HB.out.cell (World.block_lt_of_cell? w _ aK)).trans aK;replace aN:=(HB.out.cell (World.block_lt_of_cell? w _ aN)).trans aN;replace bK:=eq_true bK;replace bL:=eq_true bL;have eK:0≤(aA:Int):=dT;have eL:aA<(l0.length:Int):=dT;obtain ⟨gU,iZ,cV,cW,cX,cY⟩:=at_T86 bI.out aA eK eL;obtain rfl:bZ=gU:=(by injection iZ);replace cV:=(HB.out.cell (World.block_lt_of_cell? w _ cV)).trans cV;replace cW:=(HB.out.cell (World.block_lt_of_cell? w _ cW)).trans cW;replace cX:=(HB.out.cell (World.block_lt_of_cell? w _ cX)).trans cX;replace cY:=(HB.out.cell (World.block_lt_of_cell? w _ cY)).trans cY;replace eK:=eq_true eK;replace eL:=eq_true eL)|((with_reducible refine gate_builtin (b:=.append) (xs:=#[.tmp 55,.tmp 60]) rfl ?_);at_builtin;refine Kd.R_append k86 (w0:=w) w.heap.size rfl (.tmp 55) (.tmp 60) 33 86 (.agg #[(.int .i64 0),(.int .i64 0),(.int .i64 0),(.int .i64 0)]) 32 rfl Try.underlying33 info86 rfl (by decide) (by omega) eD cD (⟨(rd_T86 l0 aA).f0,(rd_T86 l0 aA).f1,(rd_T86 l0 aA).f2,(rd_T86 l0 aA).f3⟩:S86) [.int .i64 ((rd_T86 l0 aA).f0),.int .i64 ((rd_T86 l0 aA).f1),.int .i64 ((rd_T86 l0 aA).f2),.int .i64 ((rd_T86 l0 aA).f3)] (fun k_=>k_≠aE) (fun _=>False) rfl rfl ?aP (fun _ hk=>hk.elim) ?aF ?aO ?aB ?aS ?aL ?_;(case aP=>exact k86_mkM _ _ _ (⟨(rd_T86 l0 aA).f0,(rd_T86 l0 aA).f1,(rd_T86 l0 aA).f2,(rd_T86 l0 aA).f3⟩:S86));(case aB=>exact (bl HB.out));(case aF=>exact (fun k_ hk=>Kd.freshB (g:=aE) (o:=.cells #[a1,a2,a3,.int .i64 20] 86 (0,0)) (bk aC.out) k_ hk));(case aO=>exact (kr bJ.out));(case aS=>exact (below_size (bl HB.out)));(case aL=>have:=LMc29.out;omega);intro jY kU ho hb hg hat;rw [← gT.out] at ho;have gV:=aM (ho);replace aC:=aM (blk_grown (bk aC.out) hg (Kd.R_away bJ.out (fun _ hk=>hk)));replace HB:=aM (hb);clear bJ;clear ho hb hg hat))
       go_roundg cC
       case measure=>have:=bO.out;have:=HJ9.out;omega
       case rel=>exact ⟨(gB),(true),(wS aA),xE,xE,H',⟨by have:=bO.out;have:=HJ9.out;omega⟩,⟨kr gV.out⟩,⟨bk aC.out⟩,⟨bl HB.out⟩⟩
      rw [if_pos dG] at H
      have gR:(((rd_T86 l0 aA).f0) == a1)=true:=beq_iff_eq.mpr dG;have gS:(((rd_T86 l0 aA).f0) != a1)=false:=bne_eq_false_iff_eq.mpr dG;clear dG
      by_cases dI:((rd_T86 l0 aA).f1)=a2
      case pos =>
       rw [if_pos dI] at H
       have gW:(((rd_T86 l0 aA).f1) == a2)=true:=beq_iff_eq.mpr dI;have gX:(((rd_T86 l0 aA).f1) != a2)=false:=bne_eq_false_iff_eq.mpr dI;clear dI;have H':=aM H;clear H;have jP:=cA4 aC.out;go_wp2_with (first|((with_reducible refine gate_builtin (b:=.append) (xs:=#[.tmp 35,.tmp 37]) rfl ?_);at_builtin;refine Kd.R_append k86 (w0:=w) w.heap.size rfl (.tmp 35) (.tmp 37) 33 86 (.agg #[(.int .i64 0),(.int .i64 0),(.int .i64 0),(.int .i64 0)]) 32 rfl Try.underlying33 info86 rfl (by decide) (by omega) u10 aG (⟨a1,a2,a3,20⟩:S86) [.int .i64 a1,.int .i64 a2,.int .i64 a3,.int .i64 20] (fun k_=>k_≠aE) (fun _=>False) rfl rfl ?aP (fun _ hk=>hk.elim) ?aF ?aO ?aB ?aS ?aL ?_;(case aP=>exact k86_mkM _ _ _ (⟨a1,a2,a3,20⟩:S86));(case aB=>exact (bl HB.out));(case aF=>exact (fun k_ hk=>Kd.freshB (g:=aE) (o:=.cells #[a1,a2,a3,.int .i64 20] 86 (0,0)) (bk aC.out) k_ hk));(case aO=>exact (kr aD.out));(case aS=>exact (below_size (bl HB.out)));(case aL=>have:=LMc18.out;omega);intro eD kV ho hb hg hat;rw [← eC.out] at ho;have bJ:=aM (ho);replace aC:=aM (blk_grown (bk aC.out) hg (Kd.R_away aD.out (fun _ hk=>hk)));replace HB:=aM (hb);clear aD;clear ho hb hg hat;have bK:0≤(aA:Int):=dT;have bL:aA<(l0.length:Int):=dT;obtain ⟨bZ,dH,aI,aJ,aK,aN⟩:=at_T86 bI.out aA bK bL;cases dH;replace aI:=(HB.out.cell (World.block_lt_of_cell? w _ aI)).trans aI;replace aJ:=(HB.out.cell (World.block_lt_of_cell? w _ aJ)).trans aJ;replace aK:=(HB.out.cell (World.block_lt_of_cell? w _ aK)).trans aK;replace aN:=(HB.out.cell (World.block_lt_of_cell? w _ aN)).trans aN;replace bK:=eq_true bK;replace bL:=eq_true bL;have cE:0≤(aA:Int):=dT;have cG:aA<(l0.length:Int):=dT;obtain ⟨eE,eM,bA,bD,bG,bH⟩:=at_T86 bI.out aA cE cG;obtain rfl:bZ=eE:=(by injection eM);replace bA:=(HB.out.cell (World.block_lt_of_cell? w _ bA)).trans bA;replace bD:=(HB.out.cell (World.block_lt_of_cell? w _ bD)).trans bD;replace bG:=(HB.out.cell (World.block_lt_of_cell? w _ bG)).trans bG;replace bH:=(HB.out.cell (World.block_lt_of_cell? w _ bH)).trans bH;replace cE:=eq_true cE;replace cG:=eq_true cG))
       go_roundg cC
       case measure=>have:=bO.out;have:=HJ9.out;omega
       case rel=>exact ⟨(cD),(true),(wS aA),xE,xE,H',⟨by have:=bO.out;have:=HJ9.out;omega⟩,⟨kr bJ.out⟩,⟨bk aC.out⟩,⟨bl HB.out⟩⟩
      rw [if_neg dI] at H
      have gW:(((rd_T86 l0 aA).f1) == a2)=false:=beq_eq_false_iff_ne.mpr dI;have gX:(((rd_T86 l0 aA).f1) != a2)=true:=bne_iff_ne.mpr dI
      by_cases fM:cD.length<4398046511104
      case neg =>
       rw [if_neg fM] at H
       exact absurd H (by simp)
      rw [if_pos fM] at H
      have LMc25:=aM fM;clear fM;obtain ⟨gG,cS⟩:∃ y_:List (S86),y_=(cD++[(⟨(rd_T86 l0 aA).f0,(rd_T86 l0 aA).f1,(rd_T86 l0 aA).f2,(rd_T86 l0 aA).f3⟩:S86)]):=⟨_,rfl⟩;replace H:(Y5.l0 cC l0 a1 a2 gG true (wS aA) a1 a2 a3 20)=some r:=by first|(rw [cS];with_reducible exact H)|(have H2_:=(Option.bind_some _ _).symm.trans H;rw [cS];with_reducible exact H2_)|(have H2_:=(Option.bind_some _ _).symm.trans H;with_reducible exact H2_)|with_reducible exact H|(rw [cS];exact H)|exact H
      have gY:=aM cS;clear cS;have H':=aM H;clear H;have jQ:=cA4 aC.out;go_wp2_with (first|((with_reducible refine gate_builtin (b:=.append) (xs:=#[.tmp 35,.tmp 37]) rfl ?_);at_builtin;refine Kd.R_append k86 (w0:=w) w.heap.size rfl (.tmp 35) (.tmp 37) 33 86 (.agg #[(.int .i64 0),(.int .i64 0),(.int .i64 0),(.int .i64 0)]) 32 rfl Try.underlying33 info86 rfl (by decide) (by omega) u10 aG (⟨a1,a2,a3,20⟩:S86) [.int .i64 a1,.int .i64 a2,.int .i64 a3,.int .i64 20] (fun k_=>k_≠aE) (fun _=>False) rfl rfl ?aP (fun _ hk=>hk.elim) ?aF ?aO ?aB ?aS ?aL ?_;(case aP=>exact k86_mkM _ _ _ (⟨a1,a2,a3,20⟩:S86));(case aB=>exact (bl HB.out));(case aF=>exact (fun k_ hk=>Kd.freshB (g:=aE) (o:=.cells #[a1,a2,a3,.int .i64 20] 86 (0,0)) (bk aC.out) k_ hk));(case aO=>exact (kr aD.out));(case aS=>exact (below_size (bl HB.out)));(case aL=>have:=LMc18.out;omega);intro eD kW ho hb hg hat;rw [← eC.out] at ho;have bJ:=aM (ho);replace aC:=aM (blk_grown (bk aC.out) hg (Kd.R_away aD.out (fun _ hk=>hk)));replace HB:=aM (hb);clear aD;clear ho hb hg hat;have bK:0≤(aA:Int):=dT;have bL:aA<(l0.length:Int):=dT;obtain ⟨bZ,dH,aI,aJ,aK,aN⟩:=at_T86 bI.out aA bK bL;cases dH;replace aI:=(HB.out.cell (World.block_lt_of_cell? w _ aI)).trans aI;replace aJ:=(HB.out.cell (World.block_lt_of_cell? w _ aJ)).trans aJ;replace aK:=(HB.out.cell (World.block_lt_of_cell? w _ aK)).trans aK;replace aN:=(HB.out.cell (World.block_lt_of_cell? w _ aN)).trans aN;replace bK:=eq_true bK;replace bL:=eq_true bL;have cE:0≤(aA:Int):=dT;have cG:aA<(l0.length:Int):=dT;obtain ⟨eE,eM,bA,bD,bG,bH⟩:=at_T86 bI.out aA cE cG;obtain rfl:bZ=eE:=(by injection eM);replace bA:=(HB.out.cell (World.block_lt_of_cell? w _ bA)).trans bA;replace bD:=(HB.out.cell (World.block_lt_of_cell? w _ bD)).trans bD;replace bG:=(HB.out.cell (World.block_lt_of_cell? w _ bG)).trans bG;replace bH:=(HB.out.cell (World.block_lt_of_cell? w _ bH)).trans bH;replace cE:=eq_true cE;replace cG:=eq_true cG;have eN:0≤(aA:Int):=dT;have eO:aA<(l0.length:Int):=dT;obtain ⟨gZ,jA,dA,dB,dC,dD⟩:=at_T86 bI.out aA eN eO;obtain rfl:bZ=gZ:=(by injection jA);replace dA:=(HB.out.cell (World.block_lt_of_cell? w _ dA)).trans dA;replace dB:=(HB.out.cell (World.block_lt_of_cell? w _ dB)).trans dB;replace dC:=(HB.out.cell (World.block_lt_of_cell? w _ dC)).trans dC;replace dD:=(HB.out.cell (World.block_lt_of_cell? w _ dD)).trans dD;replace eN:=eq_true eN;replace eO:=eq_true eO)|((with_reducible refine gate_builtin (b:=.append) (xs:=#[.tmp 55,.tmp 60]) rfl ?_);at_builtin;refine Kd.R_append k86 (w0:=w) w.heap.size rfl (.tmp 55) (.tmp 60) 33 86 (.agg #[(.int .i64 0),(.int .i64 0),(.int .i64 0),(.int .i64 0)]) 32 rfl Try.underlying33 info86 rfl (by decide) (by omega) eD cD (⟨(rd_T86 l0 aA).f0,(rd_T86 l0 aA).f1,(rd_T86 l0 aA).f2,(rd_T86 l0 aA).f3⟩:S86) [.int .i64 ((rd_T86 l0 aA).f0),.int .i64 ((rd_T86 l0 aA).f1),.int .i64 ((rd_T86 l0 aA).f2),.int .i64 ((rd_T86 l0 aA).f3)] (fun k_=>k_≠aE) (fun _=>False) rfl rfl ?aP (fun _ hk=>hk.elim) ?aF ?aO ?aB ?aS ?aL ?_;(case aP=>exact k86_mkM _ _ _ (⟨(rd_T86 l0 aA).f0,(rd_T86 l0 aA).f1,(rd_T86 l0 aA).f2,(rd_T86 l0 aA).f3⟩:S86));(case aB=>exact (bl HB.out));(case aF=>exact (fun k_ hk=>Kd.freshB (g:=aE) (o:=.cells #[a1,a2,a3,.int .i64 20] 86 (0,0)) (bk aC.out) k_ hk));(case aO=>exact (kr bJ.out));(case aS=>exact (below_size (bl HB.out)));(case aL=>have:=LMc25.out;omega);intro jZ kX ho hb hg hat;rw [← gY.out] at ho;have hJ:=aM (ho);replace aC:=aM (blk_grown (bk aC.out) hg (Kd.R_away bJ.out (fun _ hk=>hk)));replace HB:=aM (hb);clear bJ;clear ho hb hg hat))
      go_roundg cC
      case measure=>have:=bO.out;have:=HJ9.out;omega
      case rel=>exact ⟨(gG),(true),(wS aA),xE,xE,H',⟨by have:=bO.out;have:=HJ9.out;omega⟩,⟨kr hJ.out⟩,⟨bk aC.out⟩,⟨bl HB.out⟩⟩
     replace fH:=Bool.eq_false_iff.mpr fH;subst fH;replace H:=hF H;obtain ⟨jR,H⟩:=gI H;obtain ⟨jS,H⟩:=gI H
     by_cases dJ:((rd_T86 l0 aA).f0)=a1
     case neg =>
      rw [if_neg dJ] at H
      have hO:(((rd_T86 l0 aA).f0) == a1)=false:=beq_eq_false_iff_ne.mpr dJ;have hX:(((rd_T86 l0 aA).f0) != a1)=true:=bne_iff_ne.mpr dJ
      by_cases fN:aG.length<4398046511104
      case neg =>
       rw [if_neg fN] at H
       exact absurd H (by simp)
      rw [if_pos fN] at H
      have LMc39:=aM fN;clear fN;obtain ⟨gH,cT⟩:∃ y_:List (S86),y_=(aG++[(⟨(rd_T86 l0 aA).f0,(rd_T86 l0 aA).f1,(rd_T86 l0 aA).f2,(rd_T86 l0 aA).f3⟩:S86)]):=⟨_,rfl⟩;replace H:(Y5.l0 cC l0 a1 a2 gH aX (wS aA) a1 a2 a3 20)=some r:=by first|(rw [cT];with_reducible exact H)|(have H2_:=(Option.bind_some _ _).symm.trans H;rw [cT];with_reducible exact H2_)|(have H2_:=(Option.bind_some _ _).symm.trans H;with_reducible exact H2_)|with_reducible exact H|(rw [cT];exact H)|exact H
      have hY:=aM cT;clear cT;have H':=aM H;clear H;have bM:0≤(aA:Int):=dT;have bN:aA<(l0.length:Int):=dT;obtain ⟨cA,dK,aQ,aT,aV,aW⟩:=at_T86 bI.out aA bM bN;cases dK
      replace aQ:=xB HB aQ;replace aT:=xB HB aT;replace aV:=xB HB aV;replace aW:=xB HB aW;replace bM:=eq_true bM;replace bN:=eq_true bN;have eP:0≤(aA:Int):=dT;have eQ:aA<(l0.length:Int):=dT;obtain ⟨hZ,jB,dQ,dR,dS,dU⟩:=at_T86 bI.out aA eP eQ;obtain rfl:cA=hZ:=(by injection jB)
      replace dQ:=xB HB dQ;replace dR:=xB HB dR;replace dS:=xB HB dS;replace dU:=xB HB dU;replace eP:=eq_true eP;replace eQ:=eq_true eQ;go_wp2_with (first|((with_reducible refine gate_builtin (b:=.append) (xs:=#[.tmp 55,.tmp 60]) rfl ?_);at_builtin;refine Kd.R_append k86 (w0:=w) w.heap.size rfl (.tmp 55) (.tmp 60) 33 86 (.agg #[(.int .i64 0),(.int .i64 0),(.int .i64 0),(.int .i64 0)]) 32 rfl Try.underlying33 info86 rfl (by decide) (by omega) u10 aG (⟨(rd_T86 l0 aA).f0,(rd_T86 l0 aA).f1,(rd_T86 l0 aA).f2,(rd_T86 l0 aA).f3⟩:S86) [.int .i64 ((rd_T86 l0 aA).f0),.int .i64 ((rd_T86 l0 aA).f1),.int .i64 ((rd_T86 l0 aA).f2),.int .i64 ((rd_T86 l0 aA).f3)] (fun k_=>k_≠aE) (fun _=>False) rfl rfl ?aP (fun _ hk=>hk.elim) ?aF ?aO ?aB ?aS ?aL ?_;(case aP=>exact k86_mkM _ _ _ (⟨(rd_T86 l0 aA).f0,(rd_T86 l0 aA).f1,(rd_T86 l0 aA).f2,(rd_T86 l0 aA).f3⟩:S86));(case aB=>exact (bl HB.out));(case aF=>exact (fun k_ hk=>Kd.freshB (g:=aE) (o:=.cells #[a1,a2,a3,.int .i64 20] 86 (0,0)) (bk aC.out) k_ hk));(case aO=>exact (kr aD.out));(case aS=>exact (below_size (bl HB.out)));(case aL=>have:=LMc39.out;omega);intro kA kY ho hb hg hat;rw [← hY.out] at ho;have iA:=aM (ho);replace aC:=aM (blk_grown (bk aC.out) hg (Kd.R_away aD.out (fun _ hk=>hk)));replace HB:=aM (hb);clear aD;clear ho hb hg hat))
      go_roundg cC
      case measure=>have:=bO.out;have:=HJ9.out;omega
      case rel=>exact ⟨(gH),(aX),(wS aA),xE,xE,H',⟨by have:=bO.out;have:=HJ9.out;omega⟩,⟨kr iA.out⟩,⟨bk aC.out⟩,⟨bl HB.out⟩⟩
     rw [if_pos dJ] at H
     have hO:(((rd_T86 l0 aA).f0) == a1)=true:=beq_iff_eq.mpr dJ;have hX:(((rd_T86 l0 aA).f0) != a1)=false:=bne_eq_false_iff_eq.mpr dJ;clear dJ
     by_cases dL:((rd_T86 l0 aA).f1)=a2
     case pos =>
      rw [if_pos dL] at H
      have iB:(((rd_T86 l0 aA).f1) == a2)=true:=beq_iff_eq.mpr dL;have iC:(((rd_T86 l0 aA).f1) != a2)=false:=bne_eq_false_iff_eq.mpr dL;clear dL;have H':=aM H;clear H;have bM:0≤(aA:Int):=dT;have bN:aA<(l0.length:Int):=dT;obtain ⟨cA,dK,aQ,aT,aV,aW⟩:=at_T86 bI.out aA bM bN;cases dK
      replace aQ:=xB HB aQ;replace aT:=xB HB aT;replace aV:=xB HB aV;replace aW:=xB HB aW;replace bM:=eq_true bM;replace bN:=eq_true bN;have cH:0≤(aA:Int):=dT;have cK:aA<(l0.length:Int):=dT;obtain ⟨eF,eR,bP,bQ,bT,bU⟩:=at_T86 bI.out aA cH cK;obtain rfl:cA=eF:=(by injection eR)
      replace bP:=xB HB bP;replace bQ:=xB HB bQ;replace bT:=xB HB bT;replace bU:=xB HB bU;replace cH:=eq_true cH;replace cK:=eq_true cK;go_wp2
      go_roundg cC
      case measure=>have:=bO.out;have:=HJ9.out;omega
      case rel=>exact ⟨(aG),(aX),(wS aA),xE,xE,H',⟨by have:=bO.out;have:=HJ9.out;omega⟩,⟨kr aD.out⟩,⟨bk aC.out⟩,⟨bl HB.out⟩⟩
     rw [if_neg dL] at H
     have iB:(((rd_T86 l0 aA).f1) == a2)=false:=beq_eq_false_iff_ne.mpr dL;have iC:(((rd_T86 l0 aA).f1) != a2)=true:=bne_iff_ne.mpr dL
     by_cases fO:aG.length<4398046511104
     case neg =>
      rw [if_neg fO] at H
      exact absurd H (by simp)
     rw [if_pos fO] at H
     have LMc37:=aM fO;clear fO;obtain ⟨gJ,cU⟩:∃ y_:List (S86),y_=(aG++[(⟨(rd_T86 l0 aA).f0,(rd_T86 l0 aA).f1,(rd_T86 l0 aA).f2,(rd_T86 l0 aA).f3⟩:S86)]):=⟨_,rfl⟩;replace H:(Y5.l0 cC l0 a1 a2 gJ aX (wS aA) a1 a2 a3 20)=some r:=by first|(rw [cU];with_reducible exact H)|(have H2_:=(Option.bind_some _ _).symm.trans H;rw [cU];with_reducible exact H2_)|(have H2_:=(Option.bind_some _ _).symm.trans H;with_reducible exact H2_)|with_reducible exact H|(rw [cU];exact H)|exact H
     have iD:=aM cU;clear cU;have H':=aM H;clear H;have bM:0≤(aA:Int):=dT;have bN:aA<(l0.length:Int):=dT;obtain ⟨cA,dK,aQ,aT,aV,aW⟩:=at_T86 bI.out aA bM bN;cases dK
     replace aQ:=xB HB aQ;replace aT:=xB HB aT;replace aV:=xB HB aV;replace aW:=xB HB aW;replace bM:=eq_true bM;replace bN:=eq_true bN;have cH:0≤(aA:Int):=dT;have cK:aA<(l0.length:Int):=dT;obtain ⟨eF,eR,bP,bQ,bT,bU⟩:=at_T86 bI.out aA cH cK;obtain rfl:cA=eF:=(by injection eR)
     replace bP:=xB HB bP;replace bQ:=xB HB bQ;replace bT:=xB HB bT;replace bU:=xB HB bU;replace cH:=eq_true cH;replace cK:=eq_true cK;have eS:0≤(aA:Int):=dT;have eT:aA<(l0.length:Int):=dT;obtain ⟨iE,jC,dV,dW,dX,dY⟩:=at_T86 bI.out aA eS eT;obtain rfl:cA=iE:=(by injection jC)
     replace dV:=xB HB dV;replace dW:=xB HB dW;replace dX:=xB HB dX;replace dY:=xB HB dY;replace eS:=eq_true eS;replace eT:=eq_true eT;go_wp2_with (first|((with_reducible refine gate_builtin (b:=.append) (xs:=#[.tmp 55,.tmp 60]) rfl ?_);at_builtin;refine Kd.R_append k86 (w0:=w) w.heap.size rfl (.tmp 55) (.tmp 60) 33 86 (.agg #[(.int .i64 0),(.int .i64 0),(.int .i64 0),(.int .i64 0)]) 32 rfl Try.underlying33 info86 rfl (by decide) (by omega) u10 aG (⟨(rd_T86 l0 aA).f0,(rd_T86 l0 aA).f1,(rd_T86 l0 aA).f2,(rd_T86 l0 aA).f3⟩:S86) [.int .i64 ((rd_T86 l0 aA).f0),.int .i64 ((rd_T86 l0 aA).f1),.int .i64 ((rd_T86 l0 aA).f2),.int .i64 ((rd_T86 l0 aA).f3)] (fun k_=>k_≠aE) (fun _=>False) rfl rfl ?aP (fun _ hk=>hk.elim) ?aF ?aO ?aB ?aS ?aL ?_;(case aP=>exact k86_mkM _ _ _ (⟨(rd_T86 l0 aA).f0,(rd_T86 l0 aA).f1,(rd_T86 l0 aA).f2,(rd_T86 l0 aA).f3⟩:S86));(case aB=>exact (bl HB.out));(case aF=>exact (fun k_ hk=>Kd.freshB (g:=aE) (o:=.cells #[a1,a2,a3,.int .i64 20] 86 (0,0)) (bk aC.out) k_ hk));(case aO=>exact (kr aD.out));(case aS=>exact (below_size (bl HB.out)));(case aL=>have:=LMc37.out;omega);intro kC kZ ho hb hg hat;rw [← iD.out] at ho;have iF:=aM (ho);replace aC:=aM (blk_grown (bk aC.out) hg (Kd.R_away aD.out (fun _ hk=>hk)));replace HB:=aM (hb);clear aD;clear ho hb hg hat))
     go_roundg cC
     case measure=>have:=bO.out;have:=HJ9.out;omega
     case rel=>exact ⟨(gJ),(aX),(wS aA),xE,xE,H',⟨by have:=bO.out;have:=HJ9.out;omega⟩,⟨kr iF.out⟩,⟨bk aC.out⟩,⟨bl HB.out⟩⟩

end Go.Proofs.Ytfljolhhgheheaa.PFnExactPass

/- A part of the proof of laws.FnCards. No condition beyond what its theorems say. -/
import Derived.Test.YtjodolkdelffaaaVFnCardsPx3
namespace Go.Proofs.Ytjodolkdelffaaa.PFnCards
open Go.RowKit Go.Proofs.YtjodolkdelffaaaW.PrintWords Go.Proofs.YtjodolkdelffaaaW.PrintLast Go.Proofs.YtjodolkdelffaaaW.PrintMore
set_option linter.unusedVariables false
set_option linter.unusedSimpArgs false

mutual
def Z4.l0:Nat→List (S72)→Int→Int→List (S72)→Bool→Int→Int→Int→Int→Int→Option ((List (S72)))
 | 0,_,_,_,_,_,_,_,_,_,_=>none
 | k+1,x0,x1,x2,aH,aI,aG,aA,aC,aD,aE=>if aG<(x0.length:Int) then (if aI=true then (Z4.j1 k x0 x1 x2 aH aI aG false aA aC aD aE) else (if 0≤aG then ((Z54.f ((rd_T72 x0 aG).f0) ((rd_T72 x0 aG).f1) ((rd_T72 x0 aG).f2) ((rd_T72 x0 aG).f3) aA aC aD aE).bind fun aQ=>(Z4.j1 k x0 x1 x2 aH aI aG (!aQ) aA aC aD aE)) else (none))) else (if aI=true then ((Z9.f k aH).bind fun aT=>(if aT=true then (some aH) else ((some (([]:List (S72)):List (S72))).bind fun aJ=>(if aJ.length+x0.length<4398046511104 then (some (aJ++x0)) else (none))))) else (if aH.length<4398046511104 then ((some (aH++[(⟨aA,aC,aD,aE⟩:S72)]:List (S72))).bind fun aK=>((Z9.f k aK).bind fun aV=>(if aV=true then (some aK) else ((some (([]:List (S72)):List (S72))).bind fun aN=>(if aN.length+x0.length<4398046511104 then (some (aN++x0)) else (none)))))) else (none)))
def Z4.j1:Nat→List (S72)→Int→Int→List (S72)→Bool→Int→Bool→Int→Int→Int→Int→Option ((List (S72)))
 | 0,_,_,_,_,_,_,_,_,_,_,_=>none
 | k+1,x0,x1,x2,aH,aJ,aA,aK,aC,aD,aE,aG=>if aK=true then (if aH.length<4398046511104 then ((some (aH++[(⟨aC,aD,aE,aG⟩:S72)]:List (S72))).bind fun aI=>(if 0≤aA then (if aA<(x0.length:Int) then (if ((rd_T72 x0 aA).f0)=x1 then (if ((rd_T72 x0 aA).f1)=x2 then (Z4.l0 k x0 x1 x2 aI true (wrap64 (aA+1)) aC aD aE aG) else (if aI.length<4398046511104 then (Z4.l0 k x0 x1 x2 (aI++[(⟨(rd_T72 x0 aA).f0,(rd_T72 x0 aA).f1,(rd_T72 x0 aA).f2,(rd_T72 x0 aA).f3⟩:S72)]) true (wrap64 (aA+1)) aC aD aE aG) else (none))) else (if aI.length<4398046511104 then (Z4.l0 k x0 x1 x2 (aI++[(⟨(rd_T72 x0 aA).f0,(rd_T72 x0 aA).f1,(rd_T72 x0 aA).f2,(rd_T72 x0 aA).f3⟩:S72)]) true (wrap64 (aA+1)) aC aD aE aG) else (none))) else (none)) else (none))) else (none)) else (if 0≤aA then (if aA<(x0.length:Int) then (if ((rd_T72 x0 aA).f0)=x1 then (if ((rd_T72 x0 aA).f1)=x2 then (Z4.l0 k x0 x1 x2 aH aJ (wrap64 (aA+1)) aC aD aE aG) else (if aH.length<4398046511104 then (Z4.l0 k x0 x1 x2 (aH++[(⟨(rd_T72 x0 aA).f0,(rd_T72 x0 aA).f1,(rd_T72 x0 aA).f2,(rd_T72 x0 aA).f3⟩:S72)]) aJ (wrap64 (aA+1)) aC aD aE aG) else (none))) else (if aH.length<4398046511104 then (Z4.l0 k x0 x1 x2 (aH++[(⟨(rd_T72 x0 aA).f0,(rd_T72 x0 aA).f1,(rd_T72 x0 aA).f2,(rd_T72 x0 aA).f3⟩:S72)]) aJ (wrap64 (aA+1)) aC aD aE aG) else (none))) else (none)) else (none))
end
def Z4.f (k:Nat) (l0:List (S72)) (a1 a2 a3:Int):Option ((List (S72))):=Z4.l0 k l0 a1 a2 (([]:List (S72))) false 0 a1 a2 a3 20
theorem Z4.mono_l:∀ k,(∀ y0 y1 y2 y3 y4 y5 y6 y7 y8 y9,LeO (Z4.l0 k y0 y1 y2 y3 y4 y5 y6 y7 y8 y9) (Z4.l0 (k+1) y0 y1 y2 y3 y4 y5 y6 y7 y8 y9))∧(∀ y0 y1 y2 y3 y4 y5 y6 y7 y8 y9 aA,LeO (Z4.j1 k y0 y1 y2 y3 y4 y5 y6 y7 y8 y9 aA) (Z4.j1 (k+1) y0 y1 y2 y3 y4 y5 y6 y7 y8 y9 aA))
 | 0=>by refine ⟨?_,?_⟩ <;> intros <;> intro r h <;> simp [Z4.l0,Z4.j1] at h
 | k+1=>by
  obtain ⟨ih0,ih1⟩:=Z4.mono_l k;refine ⟨?_,?_⟩
  ·intro y0 y1 y2 y3 y4 y5 y6 y7 y8 y9
   unfold Z4.l0
   repeat' (with_reducible first|apply ih1|apply Z9.mono|exact lR _|refine lI ?_ ?_|refine lB ?_ fun _=>?_)
  ·intro y0 y1 y2 y3 y4 y5 y6 y7 y8 y9 aA
   unfold Z4.j1
   repeat' (with_reducible first|apply ih0|exact lR _|refine lI ?_ ?_|refine lB ?_ fun _=>?_)
theorem Z4.mono:∀ a0 a1 a2 a3 k,LeO (Z4.f k a0 a1 a2 a3) (Z4.f (k+1) a0 a1 a2 a3):=by
 intro a0 a1 a2 a3 k;obtain ⟨ih0,ih1⟩:=Z4.mono_l k;unfold Z4.f
 repeat' (with_reducible apply ih0)
def Z4.T7:Bool × List (List Nat × List Nat):=(true,[([],[]),([0],[0]),([1],[1]),([2],[2]),([2],[2]),([3,4,2],[2,3,4]),([5,2],[2,5]),([2],[2]),([6,7,2,2],[2,6,7]),([8,2],[2,8]),([2,9],[2,9])])
def Z4.B7:List Nat:=[0,1,3,7,7,31,63,7,255,511,1023]
theorem Z4.tab7:rtab .any (opsOf Try.f34 7)=Z4.T7:=by kernel_rfl
theorem Z4.bits7:waitsOk Z4.T7.2 Z4.B7=true:=by kernel_rfl
set_option maxHeartbeats 60000000 in
set_option maxRecDepth 100000 in
theorem Z4.calls (k:Nat) (A0:Option Addr) (c0:Nat) (l0:List (S72)) (a1 a2 a3:Int) (r:List (S72)) (w:World) (hr0:Kd.C k72 w A0 l0.length l0) (hc0:l0.length≤c0) (h:Z4.f k l0 a1 a2 a3=some r) :
  Calls Try.prog 34 #[.slice A0 l0.length c0,a1,a2,a3] w fun e w'=>∃ iE:Value,e=.returned (iE)∧Kd.R k72 72 w' w.heap.size (fun _=>True) iE r∧Below w.heap.size w w':=by
 have bI:=aM hr0;clear hr0 hc0;have HB:=aM (Below.refl w.heap.size w);have H:(Z4.l0 k l0 a1 a2 (([]:List (S72))) false 0 a1 a2 a3 20)=some r:=h;clear h;obtain ⟨fP,cL⟩:∃ y_:List (S72),y_=(([]:List (S72))):=⟨_,rfl⟩;replace H:(Z4.l0 k l0 a1 a2 fP false 0 a1 a2 a3 20)=some r:=by (rw [cL];with_reducible exact H)
 have eU:=aM cL;clear cL;have H':=aM H;clear H;go_enter Try.func34,Try.ntmps34
 go_wp2_with (first|((with_reducible refine gD (N:=9) rfl ?_);refine bE (N:=9) (cs:=#[.int .i64 0,.int .i64 0,.int .i64 0,.int .i64 0]) (t:=72) ?_;intro aE hg w5 hbox hb;have aC:=aM (hbox);have jH:=gF hg HB;replace HB:=rS HB hb;clear hb hbox hg;have jS:=cA4 aC.out)|((with_reducible refine gD (N:=17) rfl ?_);refine Kd.R_lit k72 _ 72 ?hg (N:=17) ?hd (xs:=([]:List (S72))) (inner:=[]) (ok:=fun _=>True) (okp:=fun _=>True) ?hr ?hp (fun _ hk=>hk) trivial (Below.refl _ _) (Nat.le_refl _) (by simp) ?_;(case hd=>rfl);(case hg=>rfl);(case hr=>(go_simp;done));(case hp=>exact (Reps.none _ _));intro jT w7 ho8 hb hg_ hnew_;clear hg_ hnew_;(rw [← eU.out] at ho8);have gK:=aM (Kd.R_lower (Kd.R_newB ho8 (g:=aE) (o:=.cells #[a1,a2,a3,.int .i64 20] 72 (0,0)) (bm aC.out)) (below_size (bl HB.out)));replace aC:=aM (bB (g:=aE) (o:=.cells #[a1,a2,a3,.int .i64 20] 72 (0,0)) (bm aC.out) hb);replace HB:=rS HB hb;clear hb ho8))
 go_loopg [10,11,12] k (fun kq jB jC jD w'=>∃ (aG:List (S72)) (aX:Bool) (aA:Int),jC=.bool aX∧jD=.int .i64 aA∧Aside0 (Z4.l0 kq l0 a1 a2 aG aX aA a1 a2 a3 20=some r)∧Aside0 (kq≤k)∧Aside0 (Kd.R k72 72 w' w.heap.size (fun k_=>k_≠aE) jB aG)∧Aside0 (w'.heap[aE]?=some (.cells #[a1,a2,a3,.int .i64 20] 72 (0,0)))∧Aside0 (Below w.heap.size w w'))
 case atStart=>exact ⟨(fP),(false),(0),xE,xE,H',⟨Nat.le_refl _⟩,⟨kr (Kd.R_mono gK.out (fun _ hk=>hk.2))⟩,⟨bk aC.out⟩,⟨bl HB.out⟩⟩
 case round =>
  clear H'
  repeat first|clear p2|clear c3
  obtain ⟨aG,aX,aA,rfl,rfl,HA,bO,aD,aC,HB⟩:=hrel;cases gk with
  | zero=>exact absurd HA.out (by simp [Z4.l0])
  | succ k1 =>
   have H:=HA.out;clear HA;simp only [Z4.l0] at H
   by_cases c9:aA<(l0.length:Int)
   case neg =>
    rw [if_neg c9] at H
    have fQ:=decide_eq_false c9;clear c9
    by_cases eV:aX=true
    case pos =>
     subst eV;replace H:=hP H rfl;obtain ⟨iH,fS,H⟩:=hB H;have iF:=aM fS;clear fS
     by_cases eW:iH=true
     case pos =>
      subst eW;replace H:=hP H rfl;obtain rfl:=Option.some.inj H;obtain ⟨iI,iJ,iK⟩:=Kd.R_slice aD.out;subst iK;go_wp2_with (((with_reducible refine gC (f:=46) rfl ?_);refine gL (some 69) Try.func46 #[.slice iI aG.length iJ] ?_;(with_reducible refine (Z9.calls k1 _ _ aG true _ ?side1 ?side2 iF.out).mono ?_);(case side1=>exact cM ((Kd.R_reads' aD.out).2.2));(case side2=>exact (Kd.R_reads' aD.out).2.1);rintro e kC ⟨rfl,hb⟩;refine ⟨_,rfl,?_⟩;replace aD:=rK aD hb;replace aC:=rB aC hb;replace HB:=rS HB hb;(try clear hb)))
      go_ret
      exact ⟨_,xW,by (with_reducible repeat (first|apply Kd.R_alloc|apply Kd.R_drewN|apply Kd.R_drew));exact Kd.R_mono aD.out (fun _ hk=>trivial),bl HB.out⟩
     replace eW:=Bool.eq_false_iff.mpr eW;subst eW;replace H:=hF H;obtain ⟨eH,eX,H⟩:=hS H;have eY:=aM eX;clear eX
     by_cases eZ:eH.length+l0.length<4398046511104
     case neg =>
      rw [if_neg eZ] at H
      exact absurd H (by simp)
     rw [if_pos eZ] at H
     have LMc46:=aM eZ;clear eZ;obtain ⟨iL,cN⟩:∃ y_:List (S72),y_=(eH++l0):=⟨_,rfl⟩;replace H:(some iL)=some r:=by (rw [cN];with_reducible exact H)
     have gM:=aM cN;clear cN;obtain rfl:=Option.some.inj H;obtain ⟨fT,fU,iM⟩:=Kd.R_slice aD.out;subst iM;go_wp2_with (first|((with_reducible refine gC (f:=46) rfl ?_);refine gL (some 69) Try.func46 #[.slice fT aG.length fU] ?_;(with_reducible refine (Z9.calls k1 _ _ aG false _ ?side1 ?side2 iF.out).mono ?_);(case side1=>exact cM ((Kd.R_reads' aD.out).2.2));(case side2=>exact (Kd.R_reads' aD.out).2.1);rintro e kD ⟨rfl,hb⟩;refine ⟨_,rfl,?_⟩;replace aD:=rK aD hb;replace aC:=rB aC hb;replace HB:=rS HB hb;(try clear hb))|((with_reducible refine gD (N:=71) rfl ?_);refine Kd.R_lit k72 _ 72 ?hg (N:=71) ?hd (xs:=([]:List (S72))) (inner:=[]) (ok:=fun _=>True) (okp:=fun _=>True) ?hr ?hp (fun _ hk=>hk) trivial (Below.refl _ _) (Nat.le_refl _) (by simp) ?_;(case hd=>rfl);(case hg=>rfl);(case hr=>(go_simp;done));(case hp=>exact (Reps.none _ _));intro iN kE ho50 hb hg_ hnew_;clear hg_ hnew_;(rw [← eY.out] at ho50);have cO:=aM (Kd.R_lower (Kd.R_newB (Kd.R_new' ho50 (Kd.R_lt (kr aD.out))) (g:=aE) (o:=.cells #[a1,a2,a3,.int .i64 20] 72 (0,0)) (bk aC.out)) (below_size (bl HB.out)));replace aD:=aM (Kd.R_elder' (kr aD.out) (Kd.R_base ho50) hb);replace aC:=rB aC hb;replace HB:=rS HB hb;clear hb ho50)|((with_reducible refine gate_builtin (b:=.append) (xs:=#[.tmp 71,.tmp 72]) rfl ?_);at_builtin;refine Kd.R_append_rows k72 (w0:=w) w.heap.size rfl (.tmp 71) (.tmp 72) 26 72 (.agg #[(.int .i64 0),(.int .i64 0),(.int .i64 0),(.int .i64 0)]) 32 rfl Try.underlying26 info72 rfl (by decide) (by omega) iN eH l0 _ _ _ (fun k_=>some k_≠(.slice fT aG.length fU:Value).ownBlock∧k_≠aE) (fun _=>False) rfl rfl ?aO ?aR (fun _ _ h=>h) (fun _ h=>h.elim) ?aF ?aB ?aS ?aL ?_;(case aR=>repeat (exact (cB bI.out HB.out)));(case aB=>exact (bl HB.out));(case aF=>exact (fun k_ hk=>⟨Kd.fresh' (Kd.R_lt (kr aD.out)) k_ hk,Kd.freshB (g:=aE) (o:=.cells #[a1,a2,a3,.int .i64 20] 72 (0,0)) (bk aC.out) k_ hk⟩));(case aO=>exact (kr (Kd.R_mono cO.out (fun _ hk=>⟨hk.1.2,hk.2⟩))));(case aS=>exact (below_size (bl HB.out)));(case aL=>have:=LMc46.out;omega);intro jU kG ho hb hg hat;rw [← gM.out] at ho;have gN:=aM (ho);replace aD:=aM (Kd.R_after (ok:=(fun k_=>k_≠aE)) (kr aD.out) hg hat);replace aC:=aM (blk_grown (bk aC.out) hg (Kd.R_away cO.out (fun _ hk=>hk.2)));replace HB:=aM (hb);clear cO;clear ho hb hg hat))
     go_ret
     exact ⟨_,xW,by (with_reducible repeat (first|apply Kd.R_alloc|apply Kd.R_drewN|apply Kd.R_drew));exact Kd.R_mono gN.out (fun _ hk=>trivial),bl HB.out⟩
    replace eV:=Bool.eq_false_iff.mpr eV;subst eV;replace H:=hF H
    by_cases fA:aG.length<4398046511104
    case neg =>
     rw [if_neg fA] at H
     exact absurd H (by simp)
    rw [if_pos fA] at H
    have LMc52:=aM fA;clear fA;obtain ⟨dF,fB,H⟩:=hS H;have fC:=aM fB;clear fB;obtain ⟨iO,fV,H⟩:=hB H;have iG:=aM fV;clear fV
    by_cases fD:iO=true
    case pos =>
     subst fD;replace H:=hP H rfl;obtain rfl:=Option.some.inj H;have jI:=cA4 aC.out;go_wp2_with (first|((with_reducible refine gate_builtin (b:=.append) (xs:=#[.tmp 64,.tmp 66]) rfl ?_);at_builtin;refine Kd.R_append k72 (w0:=w) w.heap.size rfl (.tmp 64) (.tmp 66) 26 72 (.agg #[(.int .i64 0),(.int .i64 0),(.int .i64 0),(.int .i64 0)]) 32 rfl Try.underlying26 info72 rfl (by decide) (by omega) u10 aG (⟨a1,a2,a3,20⟩:S72) [.int .i64 a1,.int .i64 a2,.int .i64 a3,.int .i64 20] (fun k_=>k_≠aE) (fun _=>False) rfl rfl ?aP (fun _ hk=>hk.elim) ?aF ?aO ?aB ?aS ?aL ?_;(case aP=>exact k72_mkM _ _ _ (⟨a1,a2,a3,20⟩:S72));(case aB=>exact (bl HB.out));(case aF=>exact (fun k_ hk=>Kd.freshB (g:=aE) (o:=.cells #[a1,a2,a3,.int .i64 20] 72 (0,0)) (bk aC.out) k_ hk));(case aO=>exact (kr aD.out));(case aS=>exact (below_size (bl HB.out)));(case aL=>have:=LMc52.out;omega);intro iP kH ho hb hg hat;rw [← fC.out] at ho;have aH:=aM (ho);replace aC:=aM (blk_grown (bk aC.out) hg (Kd.R_away aD.out (fun _ hk=>hk)));replace HB:=aM (hb);clear aD;clear ho hb hg hat;obtain ⟨iQ,iR,iS⟩:=Kd.R_slice aH.out;subst iS)|((with_reducible refine gC (f:=46) rfl ?_);refine gL (some 69) Try.func46 #[.slice iQ dF.length iR] ?_;(with_reducible refine (Z9.calls k1 _ _ dF true _ ?side1 ?side2 iG.out).mono ?_);(case side1=>exact cM ((Kd.R_reads' aH.out).2.2));(case side2=>exact (Kd.R_reads' aH.out).2.1);rintro e kI ⟨rfl,hb⟩;refine ⟨_,rfl,?_⟩;replace aH:=rK aH hb;replace aC:=rB aC hb;replace HB:=rS HB hb;(try clear hb)))
     go_ret
     exact ⟨_,xW,by (with_reducible repeat (first|apply Kd.R_alloc|apply Kd.R_drewN|apply Kd.R_drew));exact Kd.R_mono aH.out (fun _ hk=>trivial),bl HB.out⟩
    replace fD:=Bool.eq_false_iff.mpr fD;subst fD;replace H:=hF H;obtain ⟨eI,fE,H⟩:=hS H;have fF:=aM fE;clear fE
    by_cases fG:eI.length+l0.length<4398046511104
    case neg =>
     rw [if_neg fG] at H
     exact absurd H (by simp)
    rw [if_pos fG] at H
    have LMc59:=aM fG;clear fG;obtain ⟨iT,cP⟩:∃ y_:List (S72),y_=(eI++l0):=⟨_,rfl⟩;replace H:(some iT)=some r:=by (rw [cP];with_reducible exact H)
    have gO:=aM cP;clear cP;obtain rfl:=Option.some.inj H;have jJ:=cA4 aC.out;go_wp2_with (first|((with_reducible refine gate_builtin (b:=.append) (xs:=#[.tmp 64,.tmp 66]) rfl ?_);at_builtin;refine Kd.R_append k72 (w0:=w) w.heap.size rfl (.tmp 64) (.tmp 66) 26 72 (.agg #[(.int .i64 0),(.int .i64 0),(.int .i64 0),(.int .i64 0)]) 32 rfl Try.underlying26 info72 rfl (by decide) (by omega) u10 aG (⟨a1,a2,a3,20⟩:S72) [.int .i64 a1,.int .i64 a2,.int .i64 a3,.int .i64 20] (fun k_=>k_≠aE) (fun _=>False) rfl rfl ?aP (fun _ hk=>hk.elim) ?aF ?aO ?aB ?aS ?aL ?_;(case aP=>exact k72_mkM _ _ _ (⟨a1,a2,a3,20⟩:S72));(case aB=>exact (bl HB.out));(case aF=>exact (fun k_ hk=>Kd.freshB (g:=aE) (o:=.cells #[a1,a2,a3,.int .i64 20] 72 (0,0)) (bk aC.out) k_ hk));(case aO=>exact (kr aD.out));(case aS=>exact (below_size (bl HB.out)));(case aL=>have:=LMc52.out;omega);intro iP kJ ho hb hg hat;rw [← fC.out] at ho;have aH:=aM (ho);replace aC:=aM (blk_grown (bk aC.out) hg (Kd.R_away aD.out (fun _ hk=>hk)));replace HB:=aM (hb);clear aD;clear ho hb hg hat;obtain ⟨fW,fX,iU⟩:=Kd.R_slice aH.out;subst iU)|((with_reducible refine gC (f:=46) rfl ?_);refine gL (some 69) Try.func46 #[.slice fW dF.length fX] ?_;(with_reducible refine (Z9.calls k1 _ _ dF false _ ?side1 ?side2 iG.out).mono ?_);(case side1=>exact cM ((Kd.R_reads' aH.out).2.2));(case side2=>exact (Kd.R_reads' aH.out).2.1);rintro e kK ⟨rfl,hb⟩;refine ⟨_,rfl,?_⟩;replace aH:=rK aH hb;replace aC:=rB aC hb;replace HB:=rS HB hb;(try clear hb))|((with_reducible refine gD (N:=71) rfl ?_);refine Kd.R_lit k72 _ 72 ?hg (N:=71) ?hd (xs:=([]:List (S72))) (inner:=[]) (ok:=fun _=>True) (okp:=fun _=>True) ?hr ?hp (fun _ hk=>hk) trivial (Below.refl _ _) (Nat.le_refl _) (by simp) ?_;(case hd=>rfl);(case hg=>rfl);(case hr=>(go_simp;done));(case hp=>exact (Reps.none _ _));intro iV kL ho65 hb hg_ hnew_;clear hg_ hnew_;(rw [← fF.out] at ho65);have cQ:=aM (Kd.R_lower (Kd.R_newB (Kd.R_new' ho65 (Kd.R_lt (kr aH.out))) (g:=aE) (o:=.cells #[a1,a2,a3,.int .i64 20] 72 (0,0)) (bk aC.out)) (below_size (bl HB.out)));replace aH:=aM (Kd.R_elder' (kr aH.out) (Kd.R_base ho65) hb);replace aC:=rB aC hb;replace HB:=rS HB hb;clear hb ho65)|((with_reducible refine gate_builtin (b:=.append) (xs:=#[.tmp 71,.tmp 72]) rfl ?_);at_builtin;refine Kd.R_append_rows k72 (w0:=w) w.heap.size rfl (.tmp 71) (.tmp 72) 26 72 (.agg #[(.int .i64 0),(.int .i64 0),(.int .i64 0),(.int .i64 0)]) 32 rfl Try.underlying26 info72 rfl (by decide) (by omega) iV eI l0 _ _ _ (fun k_=>some k_≠(.slice fW dF.length fX:Value).ownBlock∧k_≠aE) (fun _=>False) rfl rfl ?aO ?aR (fun _ _ h=>h) (fun _ h=>h.elim) ?aF ?aB ?aS ?aL ?_;(case aR=>repeat (exact (cB bI.out HB.out)));(case aB=>exact (bl HB.out));(case aF=>exact (fun k_ hk=>⟨Kd.fresh' (Kd.R_lt (kr aH.out)) k_ hk,Kd.freshB (g:=aE) (o:=.cells #[a1,a2,a3,.int .i64 20] 72 (0,0)) (bk aC.out) k_ hk⟩));(case aO=>exact (kr (Kd.R_mono cQ.out (fun _ hk=>⟨hk.1.2,hk.2⟩))));(case aS=>exact (below_size (bl HB.out)));(case aL=>have:=LMc59.out;omega);intro jV kM ho hb hg hat;rw [← gO.out] at ho;have gP:=aM (ho);replace aC:=aM (blk_grown (bk aC.out) hg (Kd.R_away cQ.out (fun _ hk=>hk.2)));replace aH:=aM (Kd.R_after (ok:=(fun k_=>k_≠aE)) (kr aH.out) hg hat);replace HB:=aM (hb);clear cQ;clear ho hb hg hat))
    go_ret
    exact ⟨_,xW,by (with_reducible repeat (first|apply Kd.R_alloc|apply Kd.R_drewN|apply Kd.R_drew));exact Kd.R_mono gP.out (fun _ hk=>trivial),bl HB.out⟩
   rw [if_pos c9] at H
   have fQ:=decide_eq_true c9;clear c9;have eJ:=aM H;clear H;go_upto_region 7 with (fail)
   go_cut [34] (fun jE wc=>∃ (kq:Nat) (dE:Bool),jE=.bool dE∧Aside0 (Z4.j1 kq l0 a1 a2 aG aX aA dE a1 a2 a3 20=some r)∧Aside0 (kq≤k1)∧Aside0 (Kd.R k72 72 wc w.heap.size (fun k_=>k_≠aE) u10 aG)∧Aside0 (wc.heap[aE]?=some (.cells #[a1,a2,a3,.int .i64 20] 72 (0,0)))∧Aside0 (Below w.heap.size w wc))
   case first =>
    have H:=eJ.out;clear eJ
    by_cases eG:aX=true
    case pos =>
     subst eG;replace H:=hP H rfl;have H':=aM H;clear H
     try go_wp2
     replace aD:=aM (Kd.R_drew aD.out);replace aC:=aM (blk_drew aC.out);replace HB:=aM (below_drew1 HB.out);refine start_ (n:=11) (S:=fun w'=>True) (ds:=[]) (dn 11 0) (by kernel_rfl) rfl rfl trivial (fun hHeld=>?_);refine with_tabW Z4.tab7 Z4.bits7 (fun HT_ HW_=>?_)
     generalize wr.drew=kN at aD aC HB hHeld ⊢
     refine nY (N:=some 24) HT_ ?_;refine nY (N:=some 25) HT_ ?_;refine nY (N:=some 26) HT_ ?_;refine nU (N:=some 27) HT_ ?_;refine nU (N:=some 28) HT_ ?_;refine nU (N:=some 29) HT_ ?_;refine nU (N:=some 30) HT_ ?_;refine nU (N:=some 31) HT_ ?_;refine nU (N:=some 32) HT_ ?_;refine nU (N:=some 33) HT_ ?_;refine nY (N:=some 34) HT_ ?_;refine done_ (done_of HT_.out (by kernel_rfl)) ?_
     try go_wp2
     go_meet
     case rel=>exact ⟨_,(false),xE,H',⟨by have:=bO.out;omega⟩,⟨kr aD.out⟩,⟨bk aC.out⟩,⟨bl HB.out⟩⟩
    replace eG:=Bool.eq_false_iff.mpr eG;subst eG;replace H:=hF H;obtain ⟨dZ,H⟩:=gI H
    (skip)
    obtain ⟨fY,gA,H⟩:=hB H;have jF:=aM gA;clear gA;have H':=aM H;clear H
    try go_wp2
    replace aD:=aM (Kd.R_drew aD.out);replace aC:=aM (blk_drew aC.out);replace HB:=aM (below_drew1 HB.out);have eA:0≤(aA:Int):=dT;have eB:aA<(l0.length:Int):=dT;obtain ⟨gQ,iW,bV,bW,bX,bY⟩:=at_T72 bI.out aA eA eB;have dM:=bY;have dN:=bX;have dO:=bW;have dP:=bV;cases iW
    replace bV:=xB HB bV;replace bW:=xB HB bW;replace bX:=xB HB bX;replace bY:=xB HB bY;replace eA:=eq_true eA;replace eB:=eq_true eB;refine start_ (n:=11) (S:=fun w'=>cT4 w' aE (.int .i64 a1) (.int .i64 a2) (.int .i64 a3) (.int .i64 20) (cE72 w' gQ (aA).toNat (rd_T72 l0 aA))) (ds:=[]) (dn 11 0) (by kernel_rfl) rfl rfl ⟨cI aC.out 0,cI aC.out 1,cI aC.out 2,cI aC.out 3,(xB HB dP :),(xB HB dO :),(xB HB dN :),(xB HB dM :)⟩ (fun hHeld=>?_);refine with_tabW Z4.tab7 Z4.bits7 (fun HT_ HW_=>?_)
    generalize wr.drew=kO at aD aC HB bV bW bX bY hHeld ⊢
    refine nY (N:=some 24) HT_ ?_;refine nY (N:=some 25) HT_ ?_;refine nY (N:=some 26) HT_ ?_;refine nY (N:=some 27) HT_ ?_;refine nY (N:=some 28) HT_ ?_;refine nY (N:=some 29) HT_ ?_;refine tY (N:=some 30) HT_ HW_ hHeld ?_;refine tY (N:=some 31) HT_ HW_ hHeld ?_;refine oN (N:=some 32) HT_ (fun K hK=>?_)
    refine goes_ Try.func64 (by kernel_rfl) rfl #[.agg #[((rd_T72 l0 aA).f0),((rd_T72 l0 aA).f1),((rd_T72 l0 aA).f2),((rd_T72 l0 aA).f3)],.agg #[a1,a2,a3,.int .i64 20]] (by rfl) rfl rfl xR ?_
    with_reducible refine (Z54.calls ((rd_T72 l0 aA).f0) ((rd_T72 l0 aA).f1) ((rd_T72 l0 aA).f2) ((rd_T72 l0 aA).f3) a1 a2 a3 20 fY _ jF.out).mono ?_
    rintro e kP ⟨rfl,hb⟩;refine ⟨_,rfl,?_⟩;replace aD:=rK aD hb;replace aC:=rB aC hb;replace HB:=rS HB hb
    (try clear hb)
    refine hK.out _ _ ⟨cI aC.out 0,cI aC.out 1,cI aC.out 2,cI aC.out 3,(xB HB dP :),(xB HB dO :),(xB HB dN :),(xB HB dM :)⟩ (fun hHeld=>?_)
    clear hK K;refine norm_ (a':=?_) ?_ ?_;rotate_left
    ·show Act.put _ (some 32) _=_
     simp only [Act.put,sA,sZ,sS,i64_w,i32_w]
     rfl
    refine nY (N:=some 33) HT_ ?_;refine nY (N:=some 34) HT_ ?_;refine done_ (done_of HT_.out (by kernel_rfl)) ?_
    try go_wp2
    go_meet
    case rel=>exact ⟨_,(!fY),xE,H',⟨by have:=bO.out;omega⟩,⟨kr aD.out⟩,⟨bk aC.out⟩,⟨bl HB.out⟩⟩
   case rest =>
    clear eJ
    repeat clear fQ
    obtain ⟨kq,dE,rfl,HA,HJ9,aD,aC,HB⟩:=hcut;cases kq with
    | zero=>exact absurd HA.out (by simp [Z4.j1])
    | succ cC =>
     have H:=HA.out;clear HA;simp only [Z4.j1] at H
     by_cases fH:dE=true
     case pos =>
      subst fH;replace H:=hP H rfl
      by_cases fI:aG.length<4398046511104
      case neg =>
       rw [if_neg fI] at H
       exact absurd H (by simp)
      rw [if_pos fI] at H
      have LMc18:=aM fI;clear fI;obtain ⟨cD,fK,H⟩:=hS H;have eC:=aM fK;clear fK;obtain ⟨jK,H⟩:=gI H;obtain ⟨jL,H⟩:=gI H
      by_cases dG:((rd_T72 l0 aA).f0)=a1
      case neg =>
       rw [if_neg dG] at H
       have gS:(((rd_T72 l0 aA).f0) != a1)=true:=bne_iff_ne.mpr dG
       by_cases fL:cD.length<4398046511104
       case neg =>
        rw [if_neg fL] at H
        exact absurd H (by simp)
       rw [if_pos fL] at H
       have LMc29:=aM fL;clear fL;obtain ⟨gB,cR⟩:∃ y_:List (S72),y_=(cD++[(⟨(rd_T72 l0 aA).f0,(rd_T72 l0 aA).f1,(rd_T72 l0 aA).f2,(rd_T72 l0 aA).f3⟩:S72)]):=⟨_,rfl⟩;replace H:(Z4.l0 cC l0 a1 a2 gB true (wS aA) a1 a2 a3 20)=some r:=by (rw [cR];with_reducible exact H)
       have gT:=aM cR;clear cR;have H':=aM H;clear H;have jM:=cA4 aC.out;go_wp2_with (first|((with_reducible refine gate_builtin (b:=.append) (xs:=#[.tmp 35,.tmp 37]) rfl ?_);at_builtin;refine Kd.R_append k72 (w0:=w) w.heap.size rfl (.tmp 35) (.tmp 37) 26 72 (.agg #[(.int .i64 0),(.int .i64 0),(.int .i64 0),(.int .i64 0)]) 32 rfl Try.underlying26 info72 rfl (by decide) (by omega) u10 aG (⟨a1,a2,a3,20⟩:S72) [.int .i64 a1,.int .i64 a2,.int .i64 a3,.int .i64 20] (fun k_=>k_≠aE) (fun _=>False) rfl rfl ?aP (fun _ hk=>hk.elim) ?aF ?aO ?aB ?aS ?aL ?_;(case aP=>exact k72_mkM _ _ _ (⟨a1,a2,a3,20⟩:S72));(case aB=>exact (bl HB.out));(case aF=>exact (fun k_ hk=>Kd.freshB (g:=aE) (o:=.cells #[a1,a2,a3,.int .i64 20] 72 (0,0)) (bk aC.out) k_ hk));(case aO=>exact (kr aD.out));(case aS=>exact (below_size (bl HB.out)));(case aL=>have:=LMc18.out;omega);intro eD kT ho hb hg hat;rw [← eC.out] at ho;have bJ:=aM (ho);replace aC:=aM (blk_grown (bk aC.out) hg (Kd.R_away aD.out (fun _ hk=>hk)));replace HB:=aM (hb);clear aD;clear ho hb hg hat;have bK:0≤(aA:Int):=dT;have bL:aA<(l0.length:Int):=dT;obtain ⟨bZ,dH,aI,aJ,aK,aN⟩:=at_T72 bI.out aA bK bL;cases dH;replace aI:=(HB.out.cell (World.block_lt_of_cell? w _ aI)).trans aI;replace aJ:=(HB.out.cell (World.block_lt_of_cell? w _ aJ)).trans aJ;replace aK:=(HB.out.cell (World.block_lt_of_cell? w _ aK)).trans aK;replace aN:=(HB.out.cell (World.block_lt_of_cell? w _ aN)).trans aN;replace bK:=eq_true bK;replace bL:=eq_true bL;have eK:0≤(aA:Int):=dT;have eL:aA<(l0.length:Int):=dT;obtain ⟨gU,iX,cV,cW,cX,cY⟩:=at_T72 bI.out aA eK eL;obtain rfl:bZ=gU:=(by injection iX);replace eK:=eq_true eK;replace eL:=eq_true eL)|((with_reducible refine gate_builtin (b:=.append) (xs:=#[.tmp 55,.tmp 60]) rfl ?_);at_builtin;refine Kd.R_append k72 (w0:=w) w.heap.size rfl (.tmp 55) (.tmp 60) 26 72 (.agg #[(.int .i64 0),(.int .i64 0),(.int .i64 0),(.int .i64 0)]) 32 rfl Try.underlying26 info72 rfl (by decide) (by omega) eD cD (⟨(rd_T72 l0 aA).f0,(rd_T72 l0 aA).f1,(rd_T72 l0 aA).f2,(rd_T72 l0 aA).f3⟩:S72) [.int .i64 ((rd_T72 l0 aA).f0),.int .i64 ((rd_T72 l0 aA).f1),.int .i64 ((rd_T72 l0 aA).f2),.int .i64 ((rd_T72 l0 aA).f3)] (fun k_=>k_≠aE) (fun _=>False) rfl rfl ?aP (fun _ hk=>hk.elim) ?aF ?aO ?aB ?aS ?aL ?_;(case aP=>exact k72_mkM _ _ _ (⟨(rd_T72 l0 aA).f0,(rd_T72 l0 aA).f1,(rd_T72 l0 aA).f2,(rd_T72 l0 aA).f3⟩:S72));(case aB=>exact (bl HB.out));(case aF=>exact (fun k_ hk=>Kd.freshB (g:=aE) (o:=.cells #[a1,a2,a3,.int .i64 20] 72 (0,0)) (bk aC.out) k_ hk));(case aO=>exact (kr bJ.out));(case aS=>exact (below_size (bl HB.out)));(case aL=>have:=LMc29.out;omega);intro jW kU ho hb hg hat;rw [← gT.out] at ho;have gV:=aM (ho);replace aC:=aM (blk_grown (bk aC.out) hg (Kd.R_away bJ.out (fun _ hk=>hk)));replace HB:=aM (hb);clear bJ;clear ho hb hg hat))
       go_roundg cC
       case measure=>have:=bO.out;have:=HJ9.out;omega
       case rel=>exact ⟨(gB),(true),(wS aA),xE,xE,H',⟨by have:=bO.out;have:=HJ9.out;omega⟩,⟨kr gV.out⟩,⟨bk aC.out⟩,⟨bl HB.out⟩⟩
      rw [if_pos dG] at H
      have gS:(((rd_T72 l0 aA).f0) != a1)=false:=bne_eq_false_iff_eq.mpr dG;clear dG
      by_cases dI:((rd_T72 l0 aA).f1)=a2
      case pos =>
       rw [if_pos dI] at H
       have gX:(((rd_T72 l0 aA).f1) != a2)=false:=bne_eq_false_iff_eq.mpr dI;clear dI;have H':=aM H;clear H;have jN:=cA4 aC.out;go_wp2_with (((with_reducible refine gate_builtin (b:=.append) (xs:=#[.tmp 35,.tmp 37]) rfl ?_);at_builtin;refine Kd.R_append k72 (w0:=w) w.heap.size rfl (.tmp 35) (.tmp 37) 26 72 (.agg #[(.int .i64 0),(.int .i64 0),(.int .i64 0),(.int .i64 0)]) 32 rfl Try.underlying26 info72 rfl (by decide) (by omega) u10 aG (⟨a1,a2,a3,20⟩:S72) [.int .i64 a1,.int .i64 a2,.int .i64 a3,.int .i64 20] (fun k_=>k_≠aE) (fun _=>False) rfl rfl ?aP (fun _ hk=>hk.elim) ?aF ?aO ?aB ?aS ?aL ?_;(case aP=>exact k72_mkM _ _ _ (⟨a1,a2,a3,20⟩:S72));(case aB=>exact (bl HB.out));(case aF=>exact (fun k_ hk=>Kd.freshB (g:=aE) (o:=.cells #[a1,a2,a3,.int .i64 20] 72 (0,0)) (bk aC.out) k_ hk));(case aO=>exact (kr aD.out));(case aS=>exact (below_size (bl HB.out)));(case aL=>have:=LMc18.out;omega);intro eD kV ho hb hg hat;rw [← eC.out] at ho;have bJ:=aM (ho);replace aC:=aM (blk_grown (bk aC.out) hg (Kd.R_away aD.out (fun _ hk=>hk)));replace HB:=aM (hb);clear aD;clear ho hb hg hat;have bK:0≤(aA:Int):=dT;have bL:aA<(l0.length:Int):=dT;obtain ⟨bZ,dH,aI,aJ,aK,aN⟩:=at_T72 bI.out aA bK bL;cases dH;replace aI:=(HB.out.cell (World.block_lt_of_cell? w _ aI)).trans aI;replace aJ:=(HB.out.cell (World.block_lt_of_cell? w _ aJ)).trans aJ;replace aK:=(HB.out.cell (World.block_lt_of_cell? w _ aK)).trans aK;replace aN:=(HB.out.cell (World.block_lt_of_cell? w _ aN)).trans aN;replace bK:=eq_true bK;replace bL:=eq_true bL;have cE:0≤(aA:Int):=dT;have cG:aA<(l0.length:Int):=dT;obtain ⟨eE,eM,bA,bD,bG,bH⟩:=at_T72 bI.out aA cE cG;obtain rfl:bZ=eE:=(by injection eM);replace cE:=eq_true cE;replace cG:=eq_true cG))
       go_roundg cC
       case measure=>have:=bO.out;have:=HJ9.out;omega
       case rel=>exact ⟨(cD),(true),(wS aA),xE,xE,H',⟨by have:=bO.out;have:=HJ9.out;omega⟩,⟨kr bJ.out⟩,⟨bk aC.out⟩,⟨bl HB.out⟩⟩
      rw [if_neg dI] at H
      have gX:(((rd_T72 l0 aA).f1) != a2)=true:=bne_iff_ne.mpr dI
      by_cases fM:cD.length<4398046511104
      case neg =>
       rw [if_neg fM] at H
       exact absurd H (by simp)
      rw [if_pos fM] at H
      have LMc25:=aM fM;clear fM;obtain ⟨gG,cS⟩:∃ y_:List (S72),y_=(cD++[(⟨(rd_T72 l0 aA).f0,(rd_T72 l0 aA).f1,(rd_T72 l0 aA).f2,(rd_T72 l0 aA).f3⟩:S72)]):=⟨_,rfl⟩;replace H:(Z4.l0 cC l0 a1 a2 gG true (wS aA) a1 a2 a3 20)=some r:=by (rw [cS];with_reducible exact H)
      have gY:=aM cS;clear cS;have H':=aM H;clear H;have jO:=cA4 aC.out;go_wp2_with (first|((with_reducible refine gate_builtin (b:=.append) (xs:=#[.tmp 35,.tmp 37]) rfl ?_);at_builtin;refine Kd.R_append k72 (w0:=w) w.heap.size rfl (.tmp 35) (.tmp 37) 26 72 (.agg #[(.int .i64 0),(.int .i64 0),(.int .i64 0),(.int .i64 0)]) 32 rfl Try.underlying26 info72 rfl (by decide) (by omega) u10 aG (⟨a1,a2,a3,20⟩:S72) [.int .i64 a1,.int .i64 a2,.int .i64 a3,.int .i64 20] (fun k_=>k_≠aE) (fun _=>False) rfl rfl ?aP (fun _ hk=>hk.elim) ?aF ?aO ?aB ?aS ?aL ?_;(case aP=>exact k72_mkM _ _ _ (⟨a1,a2,a3,20⟩:S72));(case aB=>exact (bl HB.out));(case aF=>exact (fun k_ hk=>Kd.freshB (g:=aE) (o:=.cells #[a1,a2,a3,.int .i64 20] 72 (0,0)) (bk aC.out) k_ hk));(case aO=>exact (kr aD.out));(case aS=>exact (below_size (bl HB.out)));(case aL=>have:=LMc18.out;omega);intro eD kW ho hb hg hat;rw [← eC.out] at ho;have bJ:=aM (ho);replace aC:=aM (blk_grown (bk aC.out) hg (Kd.R_away aD.out (fun _ hk=>hk)));replace HB:=aM (hb);clear aD;clear ho hb hg hat;have bK:0≤(aA:Int):=dT;have bL:aA<(l0.length:Int):=dT;obtain ⟨bZ,dH,aI,aJ,aK,aN⟩:=at_T72 bI.out aA bK bL;cases dH;replace aI:=(HB.out.cell (World.block_lt_of_cell? w _ aI)).trans aI;replace aJ:=(HB.out.cell (World.block_lt_of_cell? w _ aJ)).trans aJ;replace aK:=(HB.out.cell (World.block_lt_of_cell? w _ aK)).trans aK;replace aN:=(HB.out.cell (World.block_lt_of_cell? w _ aN)).trans aN;replace bK:=eq_true bK;replace bL:=eq_true bL;have cE:0≤(aA:Int):=dT;have cG:aA<(l0.length:Int):=dT;obtain ⟨eE,eM,bA,bD,bG,bH⟩:=at_T72 bI.out aA cE cG;obtain rfl:bZ=eE:=(by injection eM);replace cE:=eq_true cE;replace cG:=eq_true cG;have eN:0≤(aA:Int):=dT;have eO:aA<(l0.length:Int):=dT;obtain ⟨gZ,iY,dA,dB,dC,dD⟩:=at_T72 bI.out aA eN eO;obtain rfl:bZ=gZ:=(by injection iY);replace eN:=eq_true eN;replace eO:=eq_true eO)|((with_reducible refine gate_builtin (b:=.append) (xs:=#[.tmp 55,.tmp 60]) rfl ?_);at_builtin;refine Kd.R_append k72 (w0:=w) w.heap.size rfl (.tmp 55) (.tmp 60) 26 72 (.agg #[(.int .i64 0),(.int .i64 0),(.int .i64 0),(.int .i64 0)]) 32 rfl Try.underlying26 info72 rfl (by decide) (by omega) eD cD (⟨(rd_T72 l0 aA).f0,(rd_T72 l0 aA).f1,(rd_T72 l0 aA).f2,(rd_T72 l0 aA).f3⟩:S72) [.int .i64 ((rd_T72 l0 aA).f0),.int .i64 ((rd_T72 l0 aA).f1),.int .i64 ((rd_T72 l0 aA).f2),.int .i64 ((rd_T72 l0 aA).f3)] (fun k_=>k_≠aE) (fun _=>False) rfl rfl ?aP (fun _ hk=>hk.elim) ?aF ?aO ?aB ?aS ?aL ?_;(case aP=>exact k72_mkM _ _ _ (⟨(rd_T72 l0 aA).f0,(rd_T72 l0 aA).f1,(rd_T72 l0 aA).f2,(rd_T72 l0 aA).f3⟩:S72));(case aB=>exact (bl HB.out));(case aF=>exact (fun k_ hk=>Kd.freshB (g:=aE) (o:=.cells #[a1,a2,a3,.int .i64 20] 72 (0,0)) (bk aC.out) k_ hk));(case aO=>exact (kr bJ.out));(case aS=>exact (below_size (bl HB.out)));(case aL=>have:=LMc25.out;omega);intro jX kX ho hb hg hat;rw [← gY.out] at ho;have hD:=aM (ho);replace aC:=aM (blk_grown (bk aC.out) hg (Kd.R_away bJ.out (fun _ hk=>hk)));replace HB:=aM (hb);clear bJ;clear ho hb hg hat))
      go_roundg cC
      case measure=>have:=bO.out;have:=HJ9.out;omega
      case rel=>exact ⟨(gG),(true),(wS aA),xE,xE,H',⟨by have:=bO.out;have:=HJ9.out;omega⟩,⟨kr hD.out⟩,⟨bk aC.out⟩,⟨bl HB.out⟩⟩
     replace fH:=Bool.eq_false_iff.mpr fH;subst fH;replace H:=hF H;obtain ⟨jP,H⟩:=gI H;obtain ⟨jQ,H⟩:=gI H
     by_cases dJ:((rd_T72 l0 aA).f0)=a1
     case neg =>
      rw [if_neg dJ] at H
      have hJ:(((rd_T72 l0 aA).f0) != a1)=true:=bne_iff_ne.mpr dJ
      by_cases fN:aG.length<4398046511104
      case neg =>
       rw [if_neg fN] at H
       exact absurd H (by simp)
      rw [if_pos fN] at H
      have LMc39:=aM fN;clear fN;obtain ⟨gH,cT⟩:∃ y_:List (S72),y_=(aG++[(⟨(rd_T72 l0 aA).f0,(rd_T72 l0 aA).f1,(rd_T72 l0 aA).f2,(rd_T72 l0 aA).f3⟩:S72)]):=⟨_,rfl⟩;replace H:(Z4.l0 cC l0 a1 a2 gH aX (wS aA) a1 a2 a3 20)=some r:=by (rw [cT];with_reducible exact H)
      have hO:=aM cT;clear cT;have H':=aM H;clear H;have bM:0≤(aA:Int):=dT;have bN:aA<(l0.length:Int):=dT;obtain ⟨cA,dK,aQ,aT,aV,aW⟩:=at_T72 bI.out aA bM bN;cases dK
      replace aQ:=xB HB aQ;replace aT:=xB HB aT;replace aV:=xB HB aV;replace aW:=xB HB aW;replace bM:=eq_true bM;replace bN:=eq_true bN;have eP:0≤(aA:Int):=dT;have eQ:aA<(l0.length:Int):=dT;obtain ⟨hU,iZ,dQ,dR,dS,dU⟩:=at_T72 bI.out aA eP eQ;obtain rfl:cA=hU:=(by injection iZ)
      replace eP:=eq_true eP;replace eQ:=eq_true eQ;go_wp2_with (((with_reducible refine gate_builtin (b:=.append) (xs:=#[.tmp 55,.tmp 60]) rfl ?_);at_builtin;refine Kd.R_append k72 (w0:=w) w.heap.size rfl (.tmp 55) (.tmp 60) 26 72 (.agg #[(.int .i64 0),(.int .i64 0),(.int .i64 0),(.int .i64 0)]) 32 rfl Try.underlying26 info72 rfl (by decide) (by omega) u10 aG (⟨(rd_T72 l0 aA).f0,(rd_T72 l0 aA).f1,(rd_T72 l0 aA).f2,(rd_T72 l0 aA).f3⟩:S72) [.int .i64 ((rd_T72 l0 aA).f0),.int .i64 ((rd_T72 l0 aA).f1),.int .i64 ((rd_T72 l0 aA).f2),.int .i64 ((rd_T72 l0 aA).f3)] (fun k_=>k_≠aE) (fun _=>False) rfl rfl ?aP (fun _ hk=>hk.elim) ?aF ?aO ?aB ?aS ?aL ?_;(case aP=>exact k72_mkM _ _ _ (⟨(rd_T72 l0 aA).f0,(rd_T72 l0 aA).f1,(rd_T72 l0 aA).f2,(rd_T72 l0 aA).f3⟩:S72));(case aB=>exact (bl HB.out));(case aF=>exact (fun k_ hk=>Kd.freshB (g:=aE) (o:=.cells #[a1,a2,a3,.int .i64 20] 72 (0,0)) (bk aC.out) k_ hk));(case aO=>exact (kr aD.out));(case aS=>exact (below_size (bl HB.out)));(case aL=>have:=LMc39.out;omega);intro jY kY ho hb hg hat;rw [← hO.out] at ho;have hY:=aM (ho);replace aC:=aM (blk_grown (bk aC.out) hg (Kd.R_away aD.out (fun _ hk=>hk)));replace HB:=aM (hb);clear aD;clear ho hb hg hat))
      go_roundg cC
      case measure=>have:=bO.out;have:=HJ9.out;omega
      case rel=>exact ⟨(gH),(aX),(wS aA),xE,xE,H',⟨by have:=bO.out;have:=HJ9.out;omega⟩,⟨kr hY.out⟩,⟨bk aC.out⟩,⟨bl HB.out⟩⟩
     rw [if_pos dJ] at H
     have hJ:(((rd_T72 l0 aA).f0) != a1)=false:=bne_eq_false_iff_eq.mpr dJ;clear dJ
     by_cases dL:((rd_T72 l0 aA).f1)=a2
     case pos =>
      rw [if_pos dL] at H
      have iA:(((rd_T72 l0 aA).f1) != a2)=false:=bne_eq_false_iff_eq.mpr dL;clear dL;have H':=aM H;clear H;have bM:0≤(aA:Int):=dT;have bN:aA<(l0.length:Int):=dT;obtain ⟨cA,dK,aQ,aT,aV,aW⟩:=at_T72 bI.out aA bM bN;cases dK
      replace aQ:=xB HB aQ;replace aT:=xB HB aT;replace aV:=xB HB aV;replace aW:=xB HB aW;replace bM:=eq_true bM;replace bN:=eq_true bN;have cH:0≤(aA:Int):=dT;have cK:aA<(l0.length:Int):=dT;obtain ⟨eF,eR,bP,bQ,bT,bU⟩:=at_T72 bI.out aA cH cK;obtain rfl:cA=eF:=(by injection eR)
      replace cH:=eq_true cH;replace cK:=eq_true cK;go_wp2
      go_roundg cC
      case measure=>have:=bO.out;have:=HJ9.out;omega
      case rel=>exact ⟨(aG),(aX),(wS aA),xE,xE,H',⟨by have:=bO.out;have:=HJ9.out;omega⟩,⟨kr aD.out⟩,⟨bk aC.out⟩,⟨bl HB.out⟩⟩
     rw [if_neg dL] at H
     have iA:(((rd_T72 l0 aA).f1) != a2)=true:=bne_iff_ne.mpr dL
     by_cases fO:aG.length<4398046511104
     case neg =>
      rw [if_neg fO] at H
      exact absurd H (by simp)
     rw [if_pos fO] at H
     have LMc37:=aM fO;clear fO;obtain ⟨gJ,cU⟩:∃ y_:List (S72),y_=(aG++[(⟨(rd_T72 l0 aA).f0,(rd_T72 l0 aA).f1,(rd_T72 l0 aA).f2,(rd_T72 l0 aA).f3⟩:S72)]):=⟨_,rfl⟩;replace H:(Z4.l0 cC l0 a1 a2 gJ aX (wS aA) a1 a2 a3 20)=some r:=by (rw [cU];with_reducible exact H)
     have iB:=aM cU;clear cU;have H':=aM H;clear H;have bM:0≤(aA:Int):=dT;have bN:aA<(l0.length:Int):=dT;obtain ⟨cA,dK,aQ,aT,aV,aW⟩:=at_T72 bI.out aA bM bN;cases dK
     replace aQ:=xB HB aQ;replace aT:=xB HB aT;replace aV:=xB HB aV;replace aW:=xB HB aW;replace bM:=eq_true bM;replace bN:=eq_true bN;have cH:0≤(aA:Int):=dT;have cK:aA<(l0.length:Int):=dT;obtain ⟨eF,eR,bP,bQ,bT,bU⟩:=at_T72 bI.out aA cH cK;obtain rfl:cA=eF:=(by injection eR)
     replace cH:=eq_true cH;replace cK:=eq_true cK;have eS:0≤(aA:Int):=dT;have eT:aA<(l0.length:Int):=dT;obtain ⟨iC,jA,dV,dW,dX,dY⟩:=at_T72 bI.out aA eS eT;obtain rfl:cA=iC:=(by injection jA)
     replace eS:=eq_true eS;replace eT:=eq_true eT;go_wp2_with (((with_reducible refine gate_builtin (b:=.append) (xs:=#[.tmp 55,.tmp 60]) rfl ?_);at_builtin;refine Kd.R_append k72 (w0:=w) w.heap.size rfl (.tmp 55) (.tmp 60) 26 72 (.agg #[(.int .i64 0),(.int .i64 0),(.int .i64 0),(.int .i64 0)]) 32 rfl Try.underlying26 info72 rfl (by decide) (by omega) u10 aG (⟨(rd_T72 l0 aA).f0,(rd_T72 l0 aA).f1,(rd_T72 l0 aA).f2,(rd_T72 l0 aA).f3⟩:S72) [.int .i64 ((rd_T72 l0 aA).f0),.int .i64 ((rd_T72 l0 aA).f1),.int .i64 ((rd_T72 l0 aA).f2),.int .i64 ((rd_T72 l0 aA).f3)] (fun k_=>k_≠aE) (fun _=>False) rfl rfl ?aP (fun _ hk=>hk.elim) ?aF ?aO ?aB ?aS ?aL ?_;(case aP=>exact k72_mkM _ _ _ (⟨(rd_T72 l0 aA).f0,(rd_T72 l0 aA).f1,(rd_T72 l0 aA).f2,(rd_T72 l0 aA).f3⟩:S72));(case aB=>exact (bl HB.out));(case aF=>exact (fun k_ hk=>Kd.freshB (g:=aE) (o:=.cells #[a1,a2,a3,.int .i64 20] 72 (0,0)) (bk aC.out) k_ hk));(case aO=>exact (kr aD.out));(case aS=>exact (below_size (bl HB.out)));(case aL=>have:=LMc37.out;omega);intro jZ kZ ho hb hg hat;rw [← iB.out] at ho;have iD:=aM (ho);replace aC:=aM (blk_grown (bk aC.out) hg (Kd.R_away aD.out (fun _ hk=>hk)));replace HB:=aM (hb);clear aD;clear ho hb hg hat))
     go_roundg cC
     case measure=>have:=bO.out;have:=HJ9.out;omega
     case rel=>exact ⟨(gJ),(aX),(wS aA),xE,xE,H',⟨by have:=bO.out;have:=HJ9.out;omega⟩,⟨kr iD.out⟩,⟨bk aC.out⟩,⟨bl HB.out⟩⟩

end Go.Proofs.Ytjodolkdelffaaa.PFnCards

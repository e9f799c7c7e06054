/- A part of the proof of laws.FnCards. No condition beyond what its theorems say. -/
import Derived.Test.YtjodolkdelffaaaVFnCardsPx6
namespace Go.Proofs.Ytjodolkdelffaaa.PFnCards
open Go.RowKit Go.Proofs.YtjodolkdelffaaaW.PrintWords Go.Proofs.YtjodolkdelffaaaW.PrintLast Go.Proofs.YtjodolkdelffaaaW.PrintMore
set_option linter.unusedVariables false
set_option linter.unusedSimpArgs false

def Z20.l0:Nat→Int→List Int→Int→Int→Int→Int→Int→List Int→Option (Int × Int × Int × List Int × Int × Int)
 | 0,_,_,_,_,_,_,_,_=>none
 | k+1,x4,aH,aJ,aK,aD,aE,aG,aC=>(Z3.f aH aJ aK 4).bind fun aA=>(if x4<aA.1 then ((Z3.f aH aA.2.1 aA.2.2 256).bind fun aI=>(if aC.length<140737488355328 then (Z20.l0 k (wrap64 (x4+1)) aH aI.2.1 aI.2.2 aD aE aG (aC++[(aI.1) % 256])) else (none))) else (some (aD,aE,aG,aC,aA.2.1,aA.2.2)))
def Z20.f (k:Nat) (aA:List Int) (aG aH:Int):Option (Int × Int × Int × List Int × Int × Int):=(Z3.f aA aG aH 5).bind fun aC=>((Z3.f aA aC.2.1 aC.2.2 4).bind fun aD=>((Z3.f aA aD.2.1 aD.2.2 3).bind fun aE=>(Z20.l0 k 0 aA aE.2.1 aE.2.2 aC.1 (wrap64 (1+aD.1)) aE.1 ([]:List Int))))
theorem Z20.mono_l:∀ k,(∀ y0 y1 y2 y3 y4 y5 y6 y7,LeO (Z20.l0 k y0 y1 y2 y3 y4 y5 y6 y7) (Z20.l0 (k+1) y0 y1 y2 y3 y4 y5 y6 y7))
 | 0=>fun _ _ _ _ _ _ _ _ r h=>by simp [Z20.l0] at h
 | k+1=>by
  have ih0:=Z20.mono_l k
  ·intro y0 y1 y2 y3 y4 y5 y6 y7
   unfold Z20.l0
   repeat' (with_reducible first|apply ih0|exact lR _|refine lI ?_ ?_|refine lB ?_ fun _=>?_)
theorem Z20.mono:∀ a0 a1 a2 k,LeO (Z20.f k a0 a1 a2) (Z20.f (k+1) a0 a1 a2):=by
 intro a0 a1 a2 k;have ih0:=Z20.mono_l k;unfold Z20.f
 repeat' (with_reducible first|apply ih0|exact lR _|refine lB ?_ fun _=>?_)
def Z20.T5:Bool × List (List Nat × List Nat):=(true,[([],[]),([0],[0]),([],[]),([2],[2]),([3],[3]),([4],[4]),([1,5,3],[1,5]),([0,1,2,3,4,5,6],[]),([7,6,6,0,1,2,3,4,5,6],[6,7])])
def Z20.B5:List Nat:=[0,1,0,4,12,28,63,127,255]
theorem Z20.tab5:rtab .any (opsOf Try.f54 5)=Z20.T5:=by kernel_rfl
theorem Z20.bits5:waitsOk Z20.T5.2 Z20.B5=true:=by kernel_rfl
set_option maxHeartbeats 60000000 in
set_option maxRecDepth 100000 in
theorem Z20.calls (k g:Nat) (aG:List Int) (bG bH r1 r2 r3:Int) (r4:List Int) (r5 r6:Int) (w0 w:World) (hI:IsS76 w0 w g aG bG bH) (hB:Below w0.heap.size w0 w) (h:Z20.f k aG bG bH=some (r1,r2,r3,r4,r5,r6)) :
  Calls Try.prog 54 #[.pointer (some ⟨g,0,none⟩)] w fun e w'=>∃ cV:Value,e=.returned (.agg #[r1,r2,r3,cV])∧Kd.R (Kd.int .u8) 5 w' w.heap.size (fun _=>True) cV r4∧IsS76 w0 w' g aG r5 r6∧Below w0.heap.size w0 w'∧KeepBut w w' g none:=by
 have aE:=aM hI;have HK:=aM (KeepBut.refl w g none);have HL:=aM hB.size;clear hI;have HW0:=aM hB.size;have HB:=aM hB;clear hB;have H:((Z3.f aG bG bH 5).bind fun bM=>((Z3.f aG bM.2.1 bM.2.2 4).bind fun bN=>((Z3.f aG bN.2.1 bN.2.2 3).bind fun bO=>(Z20.l0 k 0 aG bO.2.1 bO.2.2 bM.1 (wrap64 (1+bN.1)) bO.1 ([]:List Int)))))=some (r1,r2,r3,r4,r5,r6):=h
 clear h;obtain ⟨⟨aT,cE,cG⟩,cW,H⟩:=hB H
 try dsimp only at H
 have A2:=aM cW;clear cW;obtain ⟨⟨aQ,cH,cK⟩,cX,H⟩:=hB H
 try dsimp only at H
 have A3:=aM cX;clear cX;obtain ⟨⟨aV,bP,bQ⟩,cY,H⟩:=hB H
 try dsimp only at H
 have A4:=aM cY;clear cY;have H':=aM H;clear H;go_enter Try.func54,Try.ntmps54
 go_wp2_with (first|((with_reducible refine gD (N:=2) rfl ?_);refine bE (N:=2) (cs:=#[.int .i64 0,.int .i64 0,.int .i64 0,.slice none 0 0]) (t:=30) ?_;intro bA hg w5 hbox hb;have aD:=aM (hbox);have dO:=gE hg (keep_size (km HK.out));have dP:=gE2 HW0.out hg (keep_size (km HK.out));have cD:=nL hg (IsS76.lt (show IsS76 w0 _ g aG bG bH from IsS76.mv aE.out));have aI:=nG hg (IsS76.lt (show IsS76 w0 _ g aG bG bH from IsS76.mv aE.out));replace aE:=aM (IsS76.below (IsS76.mv aE.out) hb);replace HK:=rU HK hb;replace HB:=aM (bS (IsS76.bl HB.out) hb);clear hb hbox hg)|((with_reducible refine gC (f:=22) rfl ?_);refine gL (some 6) Try.func22 #[.pointer (some ⟨g,0,none⟩),.int .i64 5] ?_;(with_reducible refine (Z3.calls g aG bG bH 5 aT cE cG w0 _ ?side1 ?side2 A2.out).mono ?_);(case side1=>exact IsS76.mv aE.out);(case side2=>exact IsS76.bl HB.out);rintro e w6 ⟨rfl,hi,hb,hk⟩;refine ⟨_,rfl,?_⟩;replace aD:=rP hk aD aI;replace HK:=aM (KeepBut.trans (km HK.out) hk (.inl rfl));replace HB:=aM (hb);replace aE:=aM (hi);(repeat first|clear hb|clear hk|clear hi))|((with_reducible refine gC (f:=22) rfl ?_);refine gL (some 8) Try.func22 #[.pointer (some ⟨g,0,none⟩),.int .i64 4] ?_;(with_reducible refine (Z3.calls g aG cE cG 4 aQ cH cK w0 _ ?side1 ?side2 A3.out).mono ?_);(case side1=>exact IsS76.mv aE.out);(case side2=>exact IsS76.bl HB.out);rintro e w7 ⟨rfl,hi,hb,hk⟩;refine ⟨_,rfl,?_⟩;replace aD:=rP hk aD aI;replace HK:=aM (KeepBut.trans (km HK.out) hk (.inl rfl));replace HB:=aM (hb);replace aE:=aM (hi);(repeat first|clear hb|clear hk|clear hi))|((with_reducible refine gC (f:=22) rfl ?_);refine gL (some 11) Try.func22 #[.pointer (some ⟨g,0,none⟩),.int .i64 3] ?_;(with_reducible refine (Z3.calls g aG cH cK 3 aV bP bQ w0 _ ?side1 ?side2 A4.out).mono ?_);(case side1=>exact IsS76.mv aE.out);(case side2=>exact IsS76.bl HB.out);rintro e w8 ⟨rfl,hi,hb,hk⟩;refine ⟨_,rfl,?_⟩;replace aD:=rP hk aD aI;replace HK:=aM (KeepBut.trans (km HK.out) hk (.inl rfl));replace HB:=aM (hb);replace aE:=aM (hi);(repeat first|clear hb|clear hk|clear hi))|((with_reducible refine gD (N:=3) rfl ?_);refine bE (N:=3) (cs:=#[.int .i64 0,.int .i64 0,.int .i64 0,.slice none 0 0]) (t:=30) ?_;intro bJ hg w9 hbox hb;have aA:=aM (hbox);have dQ:=gE hg (keep_size (km HK.out));have dR:=gE2 HW0.out hg (keep_size (km HK.out));have aW:=nM hg aD;have aX:=nH hg aD;have bK:=nL hg (IsS76.lt (show IsS76 w0 _ g aG bP bQ from IsS76.mv aE.out));have aN:=nG hg (IsS76.lt (show IsS76 w0 _ g aG bP bQ from IsS76.mv aE.out));replace aE:=aM (IsS76.below (IsS76.mv aE.out) hb);replace aD:=rB aD hb;replace HK:=rU HK hb;replace HB:=aM (bS (IsS76.bl HB.out) hb);clear hb hbox hg;have dX:=cA4 aA.out))
 go_loopg [4] k (fun kq v4 w'=>∃ (bI:Int) (aJ:Int) (aK:Int) (aH:List Int) (u345003:Value),v4=.int .i64 bI∧Aside0 (Z20.l0 kq bI aG aJ aK aT (wrap64 (1+aQ)) aV aH=some (r1,r2,r3,r4,r5,r6))∧Aside0 (kq≤k)∧Aside0 (Kd.R (Kd.int .u8) 5 w' w.heap.size (fun _=>True) u345003 aH)∧Aside0 (w'.heap[bA]?=some (.cells #[.int .i64 0,.int .i64 0,.int .i64 0,(.slice none 0 0)] 30 (0,0)))∧Aside0 (w'.heap[bJ]?=some (.cells #[aT,.int .i64 (wrap64 (1+aQ)),aV,u345003] 30 (0,0)))∧Aside0 (IsS76 w0 w' g aG aJ aK)∧Aside0 (KeepBut w w' g none)∧Aside0 (Below w0.heap.size w0 w'))
 case atStart=>exact ⟨(0),(bP),(bQ),(([]:List Int)),(.slice none 0 0),xE,H',⟨Nat.le_refl _⟩,⟨by exact Kd.R_nil _ _ _ _ _⟩,⟨fm aD.out⟩,⟨bm aA.out⟩,⟨IsS76.mv aE.out⟩,⟨km HK.out⟩,⟨IsS76.bl HB.out⟩⟩
 case round =>
  clear H'
  repeat first|clear c1|clear c2|clear p2|clear c5|clear p6|clear eI|clear eJ
  obtain ⟨bI,aJ,aK,aH,u345003,rfl,HA,dA,aC,aD,aA,aE,HK,HB⟩:=hrel;cases gk with
  | zero=>exact absurd HA.out (by simp [Z20.l0])
  | succ k1 =>
   have H:=HA.out;clear HA;simp only [Z20.l0] at H;obtain ⟨⟨bX,bT,bU⟩,cL,H⟩:=hB H
   try dsimp only at H
   have dB:=aM cL;clear cL
   by_cases bL:bI<bX
   case neg =>
    rw [if_neg bL] at H
    have cT:=decide_eq_false bL;clear bL;simp only [Option.some.injEq,Prod.mk.injEq] at H;obtain ⟨rfl,rfl,rfl,rfl,rfl,rfl⟩:=H;go_wp2_with (((with_reducible refine gC (f:=22) rfl ?_);refine gL (some 15) Try.func22 #[.pointer (some ⟨g,0,none⟩),.int .i64 4] ?_;(with_reducible refine (Z3.calls g aG aJ aK 4 bX bT bU w0 _ ?side1 ?side2 dB.out).mono ?_);(case side1=>exact IsS76.mv aE.out);(case side2=>exact IsS76.bl HB.out);rintro e dL ⟨rfl,hi,hb,hk⟩;refine ⟨_,rfl,?_⟩;replace aC:=aM (IsS76.rJ aG aJ aK (IsS76.mv aE.out) (kr aC.out) hk);replace aD:=rP hk aD aI;replace aA:=rP hk aA aN;replace HK:=aM (KeepBut.trans (km HK.out) hk (.inl rfl));replace HB:=aM (hb);replace aE:=aM (hi);(repeat first|clear hb|clear hk|clear hi);have dD:=cI aA.out 0;have dE:dL.cell? ⟨bJ,1,none⟩=some (.int .i64 (wrap64 (1+aQ))):=cI aA.out 1;have dF:=cI aA.out 2;have dG:=cI aA.out 3;have eE:=cA4 aD.out;obtain ⟨cN,cO,dC⟩:=Kd.R_slice aC.out;subst dC))
    refine bodyPost_ret (results_cell_row rfl _ _ bA 30 #[aT,.int .i64 (wrap64 (1+aQ)),aV,.slice cN aH.length cO] (0,0) _ rfl (bm aD.out) Try.underlying30 rfl (by kernel_rfl)) rfl ?_
    exact ⟨_,xW,by (with_reducible repeat (first|apply Kd.R_alloc|apply Kd.R_drewN|apply Kd.R_drew));exact Kd.R_mono (rT4 aC.out aD.out (.int .i64 aT) (.int .i64 (wrap64 (1+aQ))) (.int .i64 aV) (.slice cN aH.length cO)) (fun _ hk=>trivial),IsS76.mv aE.out,IsS76.bl HB.out,km HK.out⟩
   rw [if_pos bL] at H
   have cT:=decide_eq_true bL;clear bL;obtain ⟨⟨bV,bY,bZ⟩,cP,H⟩:=hB H
   try dsimp only at H
   have dM:=aM cP;clear cP
   by_cases cA:aH.length<140737488355328
   case neg =>
    rw [if_neg cA] at H
    exact absurd H (by simp)
   rw [if_pos cA] at H
   have LMc16:=aM cA;clear cA;obtain ⟨bW,bD⟩:∃ y_:List Int,y_=(aH++[(bV) % 256]):=⟨_,rfl⟩;replace H:(Z20.l0 k1 (wS bI) aG bY bZ aT (wrap64 (1+aQ)) aV bW)=some (r1,r2,r3,r4,r5,r6):=by (rw [bD];with_reducible exact H)
   have cU:=aM bD;clear bD;have H':=aM H;clear H
   try go_wp2_with (((with_reducible refine gC (f:=22) rfl ?_);refine gL (some 15) Try.func22 #[.pointer (some ⟨g,0,none⟩),.int .i64 4] ?_;(with_reducible refine (Z3.calls g aG aJ aK 4 bX bT bU w0 _ ?side1 ?side2 dB.out).mono ?_);(case side1=>exact IsS76.mv aE.out);(case side2=>exact IsS76.bl HB.out);rintro e dN ⟨rfl,hi,hb,hk⟩;refine ⟨_,rfl,?_⟩;replace aC:=aM (IsS76.rJ aG aJ aK (IsS76.mv aE.out) (kr aC.out) hk);replace aD:=rP hk aD aI;replace aA:=rP hk aA aN;replace HK:=aM (KeepBut.trans (km HK.out) hk (.inl rfl));replace HB:=aM (hb);replace aE:=aM (hi);(repeat first|clear hb|clear hk|clear hi)))
   replace aC:=aM (Kd.R_drew aC.out);replace aD:=aM (blk_drew aD.out);replace aA:=aM (blk_drew aA.out);replace aE:=aM (IsS76.drew aE.out);replace HK:=aM (keep_drew HK.out);replace HB:=aM (below_drew1 HB.out);refine start_ (n:=9) (S:=fun w'=>cS4 w' bJ (.int .i64 aT) (.int .i64 (wrap64 (1+aQ))) (.int .i64 aV) (u345003)) (ds:=[8]) (dn 9 0) (by kernel_rfl) rfl rfl ⟨cI aA.out 0,cI aA.out 1,cI aA.out 2,cI aA.out 3⟩ (fun hHeld=>?_);refine with_tabW Z20.tab5 Z20.bits5 (fun HT_ HW_=>?_)
   generalize dN.drew=eK at aC aD aA aE HK HB hHeld ⊢
   refine nY (N:=some 19) HT_ ?_;refine pZ 2 21 (bv 9 5) HT_ ?_;refine aZ 1 20 (bv 9 7) HT_ HW_ hHeld ?_;refine one_ (i:=3) (N:=some 22) (bv 9 15) rfl rfl (one_of HT_.out (by kernel_rfl)) (by decide) (fun K hK=>?_)
   refine goes_ Try.func22 (by kernel_rfl) rfl #[.pointer (some ⟨g,0,none⟩),.int .i64 256] (by rfl) rfl rfl xR ?_
   with_reducible refine (Z3.calls g aG bT bU 256 bV bY bZ w0 _ ?side1 ?side2 dM.out).mono ?_
   (case side1=>exact IsS76.mv aE.out)
   (case side2=>exact IsS76.bl HB.out)
   rintro e eL ⟨rfl,hi,hb,hk⟩;refine ⟨_,rfl,?_⟩;replace aC:=aM (IsS76.rJ aG bT bU (IsS76.mv aE.out) (kr aC.out) hk)
   replace aD:=rP hk aD aI;replace aA:=rP hk aA aN;replace HK:=aM (KeepBut.trans (km HK.out) hk (.inl rfl));replace HB:=aM (hb);replace aE:=aM (hi)
   (try clear hb)
   (try clear hk)
   (try clear hi)
   refine hK.out _ _ ⟨cI aA.out 0,cI aA.out 1,cI aA.out 2,cI aA.out 3⟩ (fun hHeld=>?_)
   clear hK K;refine norm_ (a':=?_) ?_ ?_;rotate_left
   ·show Act.put _ (some 22) _=_
    simp only [Act.put,sA,sZ,sS,i64_w,i32_w]
    rfl
   refine pZ 4 23 (bv 9 31) HT_ ?_;refine one_ (i:=5) (N:=some 24) (bv 9 63) rfl rfl (one_of HT_.out (by kernel_rfl)) (by decide) (fun K hK=>?_)
   refine value_ (w1:=?_) (v:=?_) (by rfl) rfl ?_ ?_
   rotate_left 2
   ·go_simp
    constructor
    ·rfl
    ·rfl
   refine hK.out _ _ ⟨(bC (blk_alloc aA.out _) 0).trans rfl,(bC (blk_alloc aA.out _) 1).trans rfl,(bC (blk_alloc aA.out _) 2).trans rfl,(bC (blk_alloc aA.out _) 3).trans rfl⟩ (fun hHeld=>?_)
   clear hK K;refine norm_ (a':=?_) ?_ ?_;rotate_left
   ·show Act.put _ (some 24) _=_
    simp only [Act.put,sA,sZ,sS,i64_w,i32_w]
    rfl
   refine one_ (i:=6) (N:=some 25) (bv 9 127) rfl rfl (one_of HT_.out (by kernel_rfl)) (by decide) (fun K hK=>?_)
   refine Kd.R_append_step (Kd.int .u8) w.heap.size (by rfl) (.tmp 20) (.tmp 24) 22 5 (.int .u8 0) 1 rfl Try.underlying22 info5 rfl (by decide) (by omega) u345003 aH ((bV) % 256) [.int .u8 ((bV) % 256)] (fun _=>True) (fun _=>False) rfl rfl ?aP (fun _ hk=>hk.elim) ?aF ?aO (Below.refl _ _) ?aS ?aL ?_
   (case aP=>exact rfl)
   (case aF=>exact (fun _ _=>trivial))
   (case aO=>exact (kr aC.out))
   (case aS=>exact (keep_size (km HK.out)))
   (case aL=>have:=LMc16.out;omega)
   intro eG eM ho hb hg hat;rw [← cU.out] at ho
   have cC:=aM (ho);replace aD:=aM (blk_grown (bk aD.out) hg (Kd.R_ne aC.out aD.out (by decide)))
   replace aA:=aM (blk_grown (bk aA.out) hg (Kd.R_ne aC.out aA.out (by decide)))
   replace aE:=aM (IsS76.grown (IsS76.mv aE.out) hg (IsS76.own_ne aE.out aC.out (by decide)))
   replace HB:=aM (below_weaken (IsS76.bl HB.out) HL.out hb);replace HK:=aM (KeepBut.trans (km HK.out) (KeepBut.of_grown hg g) (Kd.R_base2 aC.out));clear aC;clear ho hb hg hat;obtain ⟨cQ,cR,cS⟩:=Kd.R_slice cC.out
   (subst cS)
   refine hK.out _ _ ⟨cI aA.out 0,cI aA.out 1,cI aA.out 2,cI aA.out 3⟩ (fun hHeld=>?_)
   clear hK K;refine norm_ (a':=?_) ?_ ?_;rotate_left
   ·show Act.put _ (some 25) _=_
    simp only [Act.put,sA,sZ,sS,i64_w,i32_w]
    rfl
   refine pZ 7 26 (bv 9 255) HT_ ?_;refine last_ (i:=8) (N:=none) (bv 9 511) rfl rfl (one_of HT_.out (by kernel_rfl)) (by decide) (fun K hK=>?_)
   have hfs22:=bF aA.out 3;refine skip_ (w1:=?_) (by rfl) rfl ?_ ?_
   rotate_left
   ·go_simp
    rfl
   refine hK.out _ _ ?_;clear hK K;refine done_ (done_of HT_.out (by kernel_rfl)) ?_
   try go_wp2
   go_roundg k1
   case measure=>have:=dA.out;omega
   case rel=>exact ⟨(wS bI),(bY),(bZ),(bW),(.slice cQ bW.length cR),xE,H',⟨by have:=dA.out;omega⟩,⟨kr (Kd.R_mono (rU1 3 cC.out aA.out (.slice cQ bW.length cR)) (fun _ hk=>trivial))⟩,⟨fm aD.out⟩,⟨by (with_reducible repeat (first|refine blk_drewN ?_ _|refine blk_drew ?_|refine blk_alloc ?_ _));refine blk_put (cs:=#[aT,.int .i64 (wrap64 (1+aQ)),aV,u345003]) ?_ 3 _ rfl;(with_reducible repeat (first|refine blk_drewN ?_ _|refine blk_drew ?_|refine blk_alloc ?_ _));exact aA.out⟩,⟨IsS76.mv aE.out⟩,⟨km HK.out⟩,⟨IsS76.bl HB.out⟩⟩

def Z47.f (k:Nat) (aE:List Int) (aJ aK:Int):Option (Int × Int × Int × List Int × Int × Int):=(Z20.f k aE aJ aK).bind fun aA=>((Z3.f aE aA.2.2.2.2.1 aA.2.2.2.2.2 10).bind fun aC=>(if aC.1=0 then ((Z38.f aE aC.2.1 aC.2.2 (([(-1),9,10]:List Int))).bind fun aG=>(some (aG.1,aA.2.1,aA.2.2.1,aA.2.2.2.1,aG.2.1,aG.2.2))) else (if aC.1=1 then ((Z38.f aE aC.2.1 aC.2.2 (([0,9,10]:List Int))).bind fun aH=>(some (aA.1,aH.1,aA.2.2.1,aA.2.2.2.1,aH.2.1,aH.2.2))) else (if aC.1=2 then ((Z38.f aE aC.2.1 aC.2.2 (([(-1),4,5]:List Int))).bind fun aI=>(some (aA.1,aA.2.1,aI.1,aA.2.2.2.1,aI.2.1,aI.2.2))) else (if aC.1=3 then ((Z3.f aE aC.2.1 aC.2.2 2).bind fun aD=>(if 0≤(wrap64 (30+aD.1)) then (if (wrap64 (30+aD.1):Int).toNat≤281474976710656 then (some (aA.1,aA.2.1,aA.2.2.1,(List.replicate (wrap64 (30+aD.1):Int).toNat 0),aD.2.1,aD.2.2)) else (none)) else (none))) else (some (aA.1,aA.2.1,aA.2.2.1,aA.2.2.2.1,aC.2.1,aC.2.2)))))))
theorem Z47.mono:∀ a0 a1 a2 k,LeO (Z47.f k a0 a1 a2) (Z47.f (k+1) a0 a1 a2):=by
 intro a0 a1 a2 k;unfold Z47.f
 repeat' (with_reducible first|apply Z20.mono|exact lR _|refine lB ?_ fun _=>?_)
set_option maxHeartbeats 60000000 in
set_option maxRecDepth 100000 in
theorem Z47.calls (k g:Nat) (aG:List Int) (bK bL r1 r2 r3:Int) (r4:List Int) (r5 r6:Int) (w0 w:World) (hI:IsS76 w0 w g aG bK bL) (hB:Below w0.heap.size w0 w) (h:Z47.f k aG bK bL=some (r1,r2,r3,r4,r5,r6)) :
  Calls Try.prog 25 #[.pointer (some ⟨g,0,none⟩)] w fun e w'=>∃ eD:Value,e=.returned (.agg #[r1,r2,r3,eD])∧Kd.R (Kd.int .u8) 5 w' w.heap.size (fun _=>True) eD r4∧IsS76 w0 w' g aG r5 r6∧Below w0.heap.size w0 w'∧KeepBut w w' g none:=by
 have aD:=aM hI;have HK:=aM (KeepBut.refl w g none);clear hI;have HW0:=aM hB.size;have HB:=aM hB;clear hB;have H:((Z20.f k aG bK bL).bind fun bD=>((Z3.f aG bD.2.2.2.2.1 bD.2.2.2.2.2 10).bind fun bM=>(if bM.1=0 then ((Z38.f aG bM.2.1 bM.2.2 (([(-1),9,10]:List Int))).bind fun bU=>(some (bU.1,bD.2.1,bD.2.2.1,bD.2.2.2.1,bU.2.1,bU.2.2))) else (if bM.1=1 then ((Z38.f aG bM.2.1 bM.2.2 (([0,9,10]:List Int))).bind fun bV=>(some (bD.1,bV.1,bD.2.2.1,bD.2.2.2.1,bV.2.1,bV.2.2))) else (if bM.1=2 then ((Z38.f aG bM.2.1 bM.2.2 (([(-1),4,5]:List Int))).bind fun bW=>(some (bD.1,bD.2.1,bW.1,bD.2.2.2.1,bW.2.1,bW.2.2))) else (if bM.1=3 then ((Z3.f aG bM.2.1 bM.2.2 2).bind fun bX=>(if 0≤(wrap64 (30+bX.1)) then (if (wrap64 (30+bX.1):Int).toNat≤281474976710656 then (some (bD.1,bD.2.1,bD.2.2.1,(List.replicate (wrap64 (30+bX.1):Int).toNat 0),bX.2.1,bX.2.2)) else (none)) else (none))) else (some (bD.1,bD.2.1,bD.2.2.1,bD.2.2.2.1,bM.2.1,bM.2.2))))))))=some (r1,r2,r3,r4,r5,r6):=h
 clear h;obtain ⟨⟨aN,aQ,aT,aV,aW,aX⟩,eE,H⟩:=hB H
 try dsimp only at H
 have A2:=aM eE;clear eE;obtain ⟨⟨bA,bI,bJ⟩,eF,H⟩:=hB H
 try dsimp only at H
 have A3:=aM eF;clear eF
 by_cases c4:bA=0
 case pos =>
  rw [if_pos c4] at H
  have eI:(bA == 0)=true:=beq_iff_eq.mpr c4;clear c4;obtain ⟨dE,bY⟩:∃ y_:List Int,y_=(([(-1),9,10]:List Int)):=⟨_,rfl⟩;replace H:((Z38.f aG bI bJ dE).bind fun bU=>(some (bU.1,aQ,aT,aV,bU.2.1,bU.2.2)))=some (r1,r2,r3,r4,r5,r6):=by (rw [bY];with_reducible exact H)
  have dM:=aM bY;clear bY;obtain ⟨⟨cO,eK,eL⟩,eG,H⟩:=hB H
  try dsimp only at H
  have A5:=aM eG;clear eG;simp only [Option.some.injEq,Prod.mk.injEq] at H;obtain ⟨rfl,rfl,rfl,rfl,rfl,rfl⟩:=H;go_enter Try.func25,Try.ntmps25
  go_wp2_with (first|((with_reducible refine gD (N:=2) rfl ?_);refine box_event ?hg (N:=2) ?hd (cs:=#[.int .i64 0,.int .i64 0,.int .i64 0,.slice none 0 0]) (t:=30) ?hr ?_;(case hd=>rfl);(case hg=>rfl);(case hr=>(go_simp;done));intro aJ hg w6 hbox hb;have aA:=aM (hbox);have cD:=gE hg (keep_size (km HK.out));have cE:=gE2 HW0.out hg (keep_size (km HK.out));have bN:=nL hg (IsS76.lt (show IsS76 w0 _ g aG bK bL from IsS76.mv aD.out));have aI:=nG hg (IsS76.lt (show IsS76 w0 _ g aG bK bL from IsS76.mv aD.out));replace aD:=aM (IsS76.below (IsS76.mv aD.out) hb);replace HK:=rU HK hb;replace HB:=aM (bS (IsS76.bl HB.out) hb);clear hb hbox hg)|((with_reducible refine gC (f:=54) rfl ?_);refine gL (some 5) Try.func54 #[.pointer (some ⟨g,0,none⟩)] ?_;(with_reducible refine (Z20.calls k g aG bK bL aN aQ aT aV aW aX w0 _ ?side1 ?side2 A2.out).mono ?_);(case side1=>exact IsS76.mv aD.out);(case side2=>exact IsS76.bl HB.out);rintro e w7 ⟨cP,rfl,ho0,hi,hb,hk⟩;refine ⟨_,rfl,?_⟩;have aC:=aM (Kd.R_lower ho0 (keep_size (km HK.out)));replace aA:=rP hk aA aI;replace HK:=aM (KeepBut.trans (km HK.out) hk (.inl rfl));replace HB:=aM (hb);replace aD:=aM (hi);(repeat first|clear hb|clear hk|clear hi|clear ho0))|((with_reducible refine gD (N:=3) rfl ?_);refine box_event ?hg (N:=3) ?hd (cs:=#[.int .i64 0,.int .i64 0,.int .i64 0,.slice none 0 0]) (t:=30) ?hr ?_;(case hd=>rfl);(case hg=>rfl);(case hr=>(go_simp;done));intro aH hg w8 hbox hb;have aE:=aM (hbox);have cG:=gE hg (keep_size (km HK.out));have cH:=gE2 HW0.out hg (keep_size (km HK.out));have bG:=nM hg aA;have bH:=nH hg aA;have bO:=nL hg (IsS76.lt (show IsS76 w0 _ g aG aW aX from IsS76.mv aD.out));have aK:=nG hg (IsS76.lt (show IsS76 w0 _ g aG aW aX from IsS76.mv aD.out));replace aC:=rK aC hb;replace aD:=aM (IsS76.below (IsS76.mv aD.out) hb);replace aA:=rB aA hb;replace HK:=rU HK hb;replace HB:=aM (bS (IsS76.bl HB.out) hb);clear hb hbox hg;have iG:=bG.out;have fH:=aK.out;have fI:=bO.out;have fK:=cA4 aE.out;obtain ⟨cQ,cR,eM⟩:=Kd.R_slice aC.out;subst eM)|((with_reducible refine gC (f:=22) rfl ?_);refine gL (some 7) Try.func22 #[.pointer (some ⟨g,0,none⟩),.int .i64 10] ?_;(with_reducible refine (Z3.calls g aG aW aX 10 bA bI bJ w0 _ ?side1 ?side2 A3.out).mono ?_);(case side1=>exact IsS76.mv aD.out);(case side2=>exact IsS76.bl HB.out);rintro e iL ⟨rfl,hi,hb,hk⟩;refine ⟨_,rfl,?_⟩;replace aA:=aM (KeepBut.blk hk (fm aA.out) aI.out (by simp));replace aC:=aM (IsS76.rJ aG aW aX (IsS76.mv aD.out) (kr (rT4 aC.out aE.out (.int .i64 aN) (.int .i64 aQ) (.int .i64 aT) (.slice cQ aV.length cR))) hk);replace aE:=aM (KeepBut.blk hk (g':=aH) (o:=.cells #[aN,aQ,aT,.slice cQ aV.length cR] 30 (0,0)) (bm aE.out) aK.out (by simp));replace HK:=aM (KeepBut.trans (km HK.out) hk (.inl rfl));replace HB:=aM (hb);replace aD:=aM (hi);(repeat first|clear hb|clear hk|clear hi))|((with_reducible refine gD (N:=11) rfl ?_);refine Kd.R_lit (Kd.int .i64) _ 3 ?hg (N:=11) ?hd (xs:=([(-1),9,10]:List Int)) (inner:=[.int .i64 (-1),.int .i64 9,.int .i64 10]) (ok:=fun _=>True) (okp:=fun _=>True) ?hr ?hp (fun _ hk=>hk) trivial (Below.refl _ _) (Nat.le_refl _) (by simp) ?_;(case hd=>rfl);(case hg=>rfl);(case hr=>(go_simp;done));(case hp=>exact (Reps.one (show Kd.M (Kd.int .i64) _ _ _ (-1) [.int .i64 (-1)] from rfl) (Reps.one (show Kd.M (Kd.int .i64) _ _ _ 9 [.int .i64 9] from rfl) (Reps.one (show Kd.M (Kd.int .i64) _ _ _ 10 [.int .i64 10] from rfl) (Reps.none _ _)))));intro iH iM ho15 hb hg_ hnew_;clear hg_ hnew_;(rw [← dM.out] at ho15);have bP:=aM (Kd.R_lower ho15 (keep_size (km HK.out)));replace aC:=rK aC hb;replace aD:=aM (IsS76.below (IsS76.mv aD.out) hb);replace aA:=rB aA hb;replace aE:=rB aE hb;replace HK:=rU HK hb;replace HB:=aM (bS (IsS76.bl HB.out) hb);clear hb ho15;obtain ⟨eN,eO,eP⟩:=Kd.R_slice bP.out;subst eP)|((with_reducible refine gC (f:=24) rfl ?_);refine gL (some 12) Try.func24 #[.pointer (some ⟨g,0,none⟩),.slice eN dE.length eO] ?_;(with_reducible refine (Z38.calls g aG bI bJ _ _ dE cO eK eL w0 _ ?side1 ?side2 ?side3 ?side4 ?side5 A5.out).mono ?_);(case side1=>exact IsS76.mv aD.out);(case side2=>exact IsS76.bl HB.out);(case side3=>exact cM ((Kd.R_reads' bP.out).2.2));(case side4=>exact (Kd.R_reads' bP.out).2.1);(case side5=>exact far_slice (IsS76.own_ne aD.out bP.out (by decide)));rintro e iN ⟨rfl,hi,hb,hk⟩;refine ⟨_,rfl,?_⟩;replace aA:=rP hk aA aI;replace aC:=aM (IsS76.rJ aG bI bJ (IsS76.mv aD.out) (kr aC.out) hk);replace aE:=rP hk aE aK;replace bP:=aM (IsS76.rJ aG bI bJ (IsS76.mv aD.out) (kr bP.out) hk);replace HK:=aM (KeepBut.trans (km HK.out) hk (.inl rfl));replace HB:=aM (hb);replace aD:=aM (hi);(repeat first|clear hb|clear hk|clear hi);have fL:=cA4 aE.out;have fM:=aI.out;have fN:=bN.out;have fO:=cA4 aA.out))
  refine bodyPost_ret (results_cell_row rfl _ _ aJ 30 #[cO,aQ,aT,.slice cQ aV.length cR] (0,0) _ rfl (bm aA.out) Try.underlying30 rfl (by kernel_rfl)) rfl ?_
  exact ⟨_,xW,by (with_reducible repeat (first|apply Kd.R_alloc|apply Kd.R_drewN|apply Kd.R_drew));exact Kd.R_mono (rF4 (g:=aJ) (kF (p:=⟨aH,0,none⟩) (Kd.R_types (Kd.R_types aC.out aE.out (by decide)) aA.out (by decide)) (fun _ hk=>hk.1.2) (.int .i64 cO)) (fun _ hk=>hk.2) (.int .i64 cO) (.int .i64 aQ) (.int .i64 aT) (.slice cQ aV.length cR)) (fun _ hk=>trivial),IsS76.mv aD.out,IsS76.bl HB.out,km HK.out⟩
 rw [if_neg c4] at H
 have eI:(bA == 0)=false:=beq_eq_false_iff_ne.mpr c4
 by_cases cK:bA=1
 case pos =>
  rw [if_pos cK] at H
  have dX:(bA == 1)=true:=beq_iff_eq.mpr cK;clear cK;obtain ⟨dF,bZ⟩:∃ y_:List Int,y_=(([0,9,10]:List Int)):=⟨_,rfl⟩;replace H:((Z38.f aG bI bJ dF).bind fun bV=>(some (aN,bV.1,aT,aV,bV.2.1,bV.2.2)))=some (r1,r2,r3,r4,r5,r6):=by (rw [bZ];with_reducible exact H)
  have dN:=aM bZ;clear bZ;obtain ⟨⟨cS,eQ,eR⟩,dR,H⟩:=hB H
  try dsimp only at H
  have fF:=aM dR;clear dR;simp only [Option.some.injEq,Prod.mk.injEq] at H;obtain ⟨rfl,rfl,rfl,rfl,rfl,rfl⟩:=H;go_enter Try.func25,Try.ntmps25
  go_wp2_with (first|((with_reducible refine gD (N:=2) rfl ?_);refine box_event ?hg (N:=2) ?hd (cs:=#[.int .i64 0,.int .i64 0,.int .i64 0,.slice none 0 0]) (t:=30) ?hr ?_;(case hd=>rfl);(case hg=>rfl);(case hr=>(go_simp;done));intro aJ hg iO hbox hb;have aA:=aM (hbox);have cD:=gE hg (keep_size (km HK.out));have cE:=gE2 HW0.out hg (keep_size (km HK.out));have bN:=nL hg (IsS76.lt (show IsS76 w0 _ g aG bK bL from IsS76.mv aD.out));have aI:=nG hg (IsS76.lt (show IsS76 w0 _ g aG bK bL from IsS76.mv aD.out));replace aD:=aM (IsS76.below (IsS76.mv aD.out) hb);replace HK:=rU HK hb;replace HB:=aM (bS (IsS76.bl HB.out) hb);clear hb hbox hg)|((with_reducible refine gC (f:=54) rfl ?_);refine gL (some 5) Try.func54 #[.pointer (some ⟨g,0,none⟩)] ?_;(with_reducible refine (Z20.calls k g aG bK bL aN aQ aT aV aW aX w0 _ ?side1 ?side2 A2.out).mono ?_);(case side1=>exact IsS76.mv aD.out);(case side2=>exact IsS76.bl HB.out);rintro e iP ⟨cP,rfl,ho0,hi,hb,hk⟩;refine ⟨_,rfl,?_⟩;have aC:=aM (Kd.R_lower ho0 (keep_size (km HK.out)));replace aA:=rP hk aA aI;replace HK:=aM (KeepBut.trans (km HK.out) hk (.inl rfl));replace HB:=aM (hb);replace aD:=aM (hi);(repeat first|clear hb|clear hk|clear hi|clear ho0))|((with_reducible refine gD (N:=3) rfl ?_);refine box_event ?hg (N:=3) ?hd (cs:=#[.int .i64 0,.int .i64 0,.int .i64 0,.slice none 0 0]) (t:=30) ?hr ?_;(case hd=>rfl);(case hg=>rfl);(case hr=>(go_simp;done));intro aH hg iQ hbox hb;have aE:=aM (hbox);have cG:=gE hg (keep_size (km HK.out));have cH:=gE2 HW0.out hg (keep_size (km HK.out));have bG:=nM hg aA;have bH:=nH hg aA;have bO:=nL hg (IsS76.lt (show IsS76 w0 _ g aG aW aX from IsS76.mv aD.out));have aK:=nG hg (IsS76.lt (show IsS76 w0 _ g aG aW aX from IsS76.mv aD.out));replace aC:=rK aC hb;replace aD:=aM (IsS76.below (IsS76.mv aD.out) hb);replace aA:=rB aA hb;replace HK:=rU HK hb;replace HB:=aM (bS (IsS76.bl HB.out) hb);clear hb hbox hg;have fQ:=bG.out;have fS:=aK.out;have fT:=bO.out;have fU:=cA4 aE.out;obtain ⟨cT,cU,eS⟩:=Kd.R_slice aC.out;subst eS)|((with_reducible refine gC (f:=22) rfl ?_);refine gL (some 7) Try.func22 #[.pointer (some ⟨g,0,none⟩),.int .i64 10] ?_;(with_reducible refine (Z3.calls g aG aW aX 10 bA bI bJ w0 _ ?side1 ?side2 A3.out).mono ?_);(case side1=>exact IsS76.mv aD.out);(case side2=>exact IsS76.bl HB.out);rintro e iR ⟨rfl,hi,hb,hk⟩;refine ⟨_,rfl,?_⟩;replace aA:=aM (KeepBut.blk hk (fm aA.out) aI.out (by simp));replace aC:=aM (IsS76.rJ aG aW aX (IsS76.mv aD.out) (kr (rT4 aC.out aE.out (.int .i64 aN) (.int .i64 aQ) (.int .i64 aT) (.slice cT aV.length cU))) hk);replace aE:=aM (KeepBut.blk hk (g':=aH) (o:=.cells #[aN,aQ,aT,.slice cT aV.length cU] 30 (0,0)) (bm aE.out) aK.out (by simp));replace HK:=aM (KeepBut.trans (km HK.out) hk (.inl rfl));replace HB:=aM (hb);replace aD:=aM (hi);(repeat first|clear hb|clear hk|clear hi))|((with_reducible refine gD (N:=17) rfl ?_);refine Kd.R_lit (Kd.int .i64) _ 3 ?hg (N:=17) ?hd (xs:=([0,9,10]:List Int)) (inner:=[.int .i64 0,.int .i64 9,.int .i64 10]) (ok:=fun _=>True) (okp:=fun _=>True) ?hr ?hp (fun _ hk=>hk) trivial (Below.refl _ _) (Nat.le_refl _) (by simp) ?_;(case hd=>rfl);(case hg=>rfl);(case hr=>(go_simp;done));(case hp=>exact (Reps.one (show Kd.M (Kd.int .i64) _ _ _ 0 [.int .i64 0] from rfl) (Reps.one (show Kd.M (Kd.int .i64) _ _ _ 9 [.int .i64 9] from rfl) (Reps.one (show Kd.M (Kd.int .i64) _ _ _ 10 [.int .i64 10] from rfl) (Reps.none _ _)))));intro iI iS ho32 hb hg_ hnew_;clear hg_ hnew_;(rw [← dN.out] at ho32);have bQ:=aM (Kd.R_lower ho32 (keep_size (km HK.out)));replace aC:=rK aC hb;replace aD:=aM (IsS76.below (IsS76.mv aD.out) hb);replace aA:=rB aA hb;replace aE:=rB aE hb;replace HK:=rU HK hb;replace HB:=aM (bS (IsS76.bl HB.out) hb);clear hb ho32;obtain ⟨eT,eU,eV⟩:=Kd.R_slice bQ.out;subst eV)|((with_reducible refine gC (f:=24) rfl ?_);refine gL (some 18) Try.func24 #[.pointer (some ⟨g,0,none⟩),.slice eT dF.length eU] ?_;(with_reducible refine (Z38.calls g aG bI bJ _ _ dF cS eQ eR w0 _ ?side1 ?side2 ?side3 ?side4 ?side5 fF.out).mono ?_);(case side1=>exact IsS76.mv aD.out);(case side2=>exact IsS76.bl HB.out);(case side3=>exact cM ((Kd.R_reads' bQ.out).2.2));(case side4=>exact (Kd.R_reads' bQ.out).2.1);(case side5=>exact far_slice (IsS76.own_ne aD.out bQ.out (by decide)));rintro e iT ⟨rfl,hi,hb,hk⟩;refine ⟨_,rfl,?_⟩;replace aA:=rP hk aA aI;replace aC:=aM (IsS76.rJ aG bI bJ (IsS76.mv aD.out) (kr aC.out) hk);replace aE:=rP hk aE aK;replace bQ:=aM (IsS76.rJ aG bI bJ (IsS76.mv aD.out) (kr bQ.out) hk);replace HK:=aM (KeepBut.trans (km HK.out) hk (.inl rfl));replace HB:=aM (hb);replace aD:=aM (hi);(repeat first|clear hb|clear hk|clear hi);have fV:=cA4 aE.out;have fW:=aI.out;have fX:=bN.out;have fY:=cA4 aA.out))
  refine bodyPost_ret (results_cell_row rfl _ _ aJ 30 #[aN,cS,aT,.slice cT aV.length cU] (0,0) _ rfl (bm aA.out) Try.underlying30 rfl (by kernel_rfl)) rfl ?_
  exact ⟨_,xW,by (with_reducible repeat (first|apply Kd.R_alloc|apply Kd.R_drewN|apply Kd.R_drew));exact Kd.R_mono (rF4 (g:=aJ) (kF (p:=⟨aH,1,none⟩) (Kd.R_types (Kd.R_types aC.out aE.out (by decide)) aA.out (by decide)) (fun _ hk=>hk.1.2) (.int .i64 cS)) (fun _ hk=>hk.2) (.int .i64 aN) (.int .i64 cS) (.int .i64 aT) (.slice cT aV.length cU)) (fun _ hk=>trivial),IsS76.mv aD.out,IsS76.bl HB.out,km HK.out⟩
 rw [if_neg cK] at H
 have dX:(bA == 1)=false:=beq_eq_false_iff_ne.mpr cK
 by_cases cL:bA=2
 case pos =>
  rw [if_pos cL] at H
  have dZ:(bA == 2)=true:=beq_iff_eq.mpr cL;clear cL;obtain ⟨dG,cA⟩:∃ y_:List Int,y_=(([(-1),4,5]:List Int)):=⟨_,rfl⟩;replace H:((Z38.f aG bI bJ dG).bind fun bW=>(some (aN,aQ,bW.1,aV,bW.2.1,bW.2.2)))=some (r1,r2,r3,r4,r5,r6):=by (rw [cA];with_reducible exact H)
  have dO:=aM cA;clear cA;obtain ⟨⟨cV,eW,eX⟩,dS,H⟩:=hB H
  try dsimp only at H
  have fG:=aM dS;clear dS;simp only [Option.some.injEq,Prod.mk.injEq] at H;obtain ⟨rfl,rfl,rfl,rfl,rfl,rfl⟩:=H;go_enter Try.func25,Try.ntmps25
  go_wp2_with (first|((with_reducible refine gD (N:=2) rfl ?_);refine box_event ?hg (N:=2) ?hd (cs:=#[.int .i64 0,.int .i64 0,.int .i64 0,.slice none 0 0]) (t:=30) ?hr ?_;(case hd=>rfl);(case hg=>rfl);(case hr=>(go_simp;done));intro aJ hg iU hbox hb;have aA:=aM (hbox);have cD:=gE hg (keep_size (km HK.out));have cE:=gE2 HW0.out hg (keep_size (km HK.out));have bN:=nL hg (IsS76.lt (show IsS76 w0 _ g aG bK bL from IsS76.mv aD.out));have aI:=nG hg (IsS76.lt (show IsS76 w0 _ g aG bK bL from IsS76.mv aD.out));replace aD:=aM (IsS76.below (IsS76.mv aD.out) hb);replace HK:=rU HK hb;replace HB:=aM (bS (IsS76.bl HB.out) hb);clear hb hbox hg)|((with_reducible refine gC (f:=54) rfl ?_);refine gL (some 5) Try.func54 #[.pointer (some ⟨g,0,none⟩)] ?_;(with_reducible refine (Z20.calls k g aG bK bL aN aQ aT aV aW aX w0 _ ?side1 ?side2 A2.out).mono ?_);(case side1=>exact IsS76.mv aD.out);(case side2=>exact IsS76.bl HB.out);rintro e iV ⟨cP,rfl,ho0,hi,hb,hk⟩;refine ⟨_,rfl,?_⟩;have aC:=aM (Kd.R_lower ho0 (keep_size (km HK.out)));replace aA:=rP hk aA aI;replace HK:=aM (KeepBut.trans (km HK.out) hk (.inl rfl));replace HB:=aM (hb);replace aD:=aM (hi);(repeat first|clear hb|clear hk|clear hi|clear ho0))|((with_reducible refine gD (N:=3) rfl ?_);refine box_event ?hg (N:=3) ?hd (cs:=#[.int .i64 0,.int .i64 0,.int .i64 0,.slice none 0 0]) (t:=30) ?hr ?_;(case hd=>rfl);(case hg=>rfl);(case hr=>(go_simp;done));intro aH hg iW hbox hb;have aE:=aM (hbox);have cG:=gE hg (keep_size (km HK.out));have cH:=gE2 HW0.out hg (keep_size (km HK.out));have bG:=nM hg aA;have bH:=nH hg aA;have bO:=nL hg (IsS76.lt (show IsS76 w0 _ g aG aW aX from IsS76.mv aD.out));have aK:=nG hg (IsS76.lt (show IsS76 w0 _ g aG aW aX from IsS76.mv aD.out));replace aC:=rK aC hb;replace aD:=aM (IsS76.below (IsS76.mv aD.out) hb);replace aA:=rB aA hb;replace HK:=rU HK hb;replace HB:=aM (bS (IsS76.bl HB.out) hb);clear hb hbox hg;have gB:=bG.out;have gG:=aK.out;have gH:=bO.out;have gJ:=cA4 aE.out;obtain ⟨cW,cX,eY⟩:=Kd.R_slice aC.out;subst eY)|((with_reducible refine gC (f:=22) rfl ?_);refine gL (some 7) Try.func22 #[.pointer (some ⟨g,0,none⟩),.int .i64 10] ?_;(with_reducible refine (Z3.calls g aG aW aX 10 bA bI bJ w0 _ ?side1 ?side2 A3.out).mono ?_);(case side1=>exact IsS76.mv aD.out);(case side2=>exact IsS76.bl HB.out);rintro e iX ⟨rfl,hi,hb,hk⟩;refine ⟨_,rfl,?_⟩;replace aA:=aM (KeepBut.blk hk (fm aA.out) aI.out (by simp));replace aC:=aM (IsS76.rJ aG aW aX (IsS76.mv aD.out) (kr (rT4 aC.out aE.out (.int .i64 aN) (.int .i64 aQ) (.int .i64 aT) (.slice cW aV.length cX))) hk);replace aE:=aM (KeepBut.blk hk (g':=aH) (o:=.cells #[aN,aQ,aT,.slice cW aV.length cX] 30 (0,0)) (bm aE.out) aK.out (by simp));replace HK:=aM (KeepBut.trans (km HK.out) hk (.inl rfl));replace HB:=aM (hb);replace aD:=aM (hi);(repeat first|clear hb|clear hk|clear hi))|((with_reducible refine gD (N:=23) rfl ?_);refine Kd.R_lit (Kd.int .i64) _ 3 ?hg (N:=23) ?hd (xs:=([(-1),4,5]:List Int)) (inner:=[.int .i64 (-1),.int .i64 4,.int .i64 5]) (ok:=fun _=>True) (okp:=fun _=>True) ?hr ?hp (fun _ hk=>hk) trivial (Below.refl _ _) (Nat.le_refl _) (by simp) ?_;(case hd=>rfl);(case hg=>rfl);(case hr=>(go_simp;done));(case hp=>exact (Reps.one (show Kd.M (Kd.int .i64) _ _ _ (-1) [.int .i64 (-1)] from rfl) (Reps.one (show Kd.M (Kd.int .i64) _ _ _ 4 [.int .i64 4] from rfl) (Reps.one (show Kd.M (Kd.int .i64) _ _ _ 5 [.int .i64 5] from rfl) (Reps.none _ _)))));intro iJ iY ho49 hb hg_ hnew_;clear hg_ hnew_;(rw [← dO.out] at ho49);have bT:=aM (Kd.R_lower ho49 (keep_size (km HK.out)));replace aC:=rK aC hb;replace aD:=aM (IsS76.below (IsS76.mv aD.out) hb);replace aA:=rB aA hb;replace aE:=rB aE hb;replace HK:=rU HK hb;replace HB:=aM (bS (IsS76.bl HB.out) hb);clear hb ho49;obtain ⟨eZ,fA,fB⟩:=Kd.R_slice bT.out;subst fB)|((with_reducible refine gC (f:=24) rfl ?_);refine gL (some 24) Try.func24 #[.pointer (some ⟨g,0,none⟩),.slice eZ dG.length fA] ?_;(with_reducible refine (Z38.calls g aG bI bJ _ _ dG cV eW eX w0 _ ?side1 ?side2 ?side3 ?side4 ?side5 fG.out).mono ?_);(case side1=>exact IsS76.mv aD.out);(case side2=>exact IsS76.bl HB.out);(case side3=>exact cM ((Kd.R_reads' bT.out).2.2));(case side4=>exact (Kd.R_reads' bT.out).2.1);(case side5=>exact far_slice (IsS76.own_ne aD.out bT.out (by decide)));rintro e iZ ⟨rfl,hi,hb,hk⟩;refine ⟨_,rfl,?_⟩;replace aA:=rP hk aA aI;replace aC:=aM (IsS76.rJ aG bI bJ (IsS76.mv aD.out) (kr aC.out) hk);replace aE:=rP hk aE aK;replace bT:=aM (IsS76.rJ aG bI bJ (IsS76.mv aD.out) (kr bT.out) hk);replace HK:=aM (KeepBut.trans (km HK.out) hk (.inl rfl));replace HB:=aM (hb);replace aD:=aM (hi);(repeat first|clear hb|clear hk|clear hi);have gK:=cA4 aE.out;have gM:=aI.out;have gN:=bN.out;have gO:=cA4 aA.out))
  refine bodyPost_ret (results_cell_row rfl _ _ aJ 30 #[aN,aQ,cV,.slice cW aV.length cX] (0,0) _ rfl (bm aA.out) Try.underlying30 rfl (by kernel_rfl)) rfl ?_
  exact ⟨_,xW,by (with_reducible repeat (first|apply Kd.R_alloc|apply Kd.R_drewN|apply Kd.R_drew));exact Kd.R_mono (rF4 (g:=aJ) (kF (p:=⟨aH,2,none⟩) (Kd.R_types (Kd.R_types aC.out aE.out (by decide)) aA.out (by decide)) (fun _ hk=>hk.1.2) (.int .i64 cV)) (fun _ hk=>hk.2) (.int .i64 aN) (.int .i64 aQ) (.int .i64 cV) (.slice cW aV.length cX)) (fun _ hk=>trivial),IsS76.mv aD.out,IsS76.bl HB.out,km HK.out⟩
 rw [if_neg cL] at H
 have dZ:(bA == 2)=false:=beq_eq_false_iff_ne.mpr cL
 by_cases cN:bA=3
 case neg =>
  rw [if_neg cN] at H
  have eB:(bA == 3)=false:=beq_eq_false_iff_ne.mpr cN;simp only [Option.some.injEq,Prod.mk.injEq] at H;obtain ⟨rfl,rfl,rfl,rfl,rfl,rfl⟩:=H;go_enter Try.func25,Try.ntmps25
  go_wp2_with (first|((with_reducible refine gD (N:=2) rfl ?_);refine bE (N:=2) (cs:=#[.int .i64 0,.int .i64 0,.int .i64 0,.slice none 0 0]) (t:=30) ?_;intro aJ hg jA hbox hb;have aA:=aM (hbox);have cD:=gE hg (keep_size (km HK.out));have cE:=gE2 HW0.out hg (keep_size (km HK.out));have bN:=nL hg (IsS76.lt (show IsS76 w0 _ g aG bK bL from IsS76.mv aD.out));have aI:=nG hg (IsS76.lt (show IsS76 w0 _ g aG bK bL from IsS76.mv aD.out));replace aD:=aM (IsS76.below (IsS76.mv aD.out) hb);replace HK:=rU HK hb;replace HB:=aM (bS (IsS76.bl HB.out) hb);clear hb hbox hg)|((with_reducible refine gC (f:=54) rfl ?_);refine gL (some 5) Try.func54 #[.pointer (some ⟨g,0,none⟩)] ?_;(with_reducible refine (Z20.calls k g aG bK bL aN aQ aT aV aW aX w0 _ ?side1 ?side2 A2.out).mono ?_);(case side1=>exact IsS76.mv aD.out);(case side2=>exact IsS76.bl HB.out);rintro e jB ⟨cP,rfl,ho0,hi,hb,hk⟩;refine ⟨_,rfl,?_⟩;have aC:=aM (Kd.R_lower ho0 (keep_size (km HK.out)));replace aA:=rP hk aA aI;replace HK:=aM (KeepBut.trans (km HK.out) hk (.inl rfl));replace HB:=aM (hb);replace aD:=aM (hi);(repeat first|clear hb|clear hk|clear hi|clear ho0))|((with_reducible refine gD (N:=3) rfl ?_);refine bR aC (N:=3) (cs:=#[.int .i64 0,.int .i64 0,.int .i64 0,.slice none 0 0]) (t:=30) ?_;intro aH hg jC hbox hb;have aE:=aM (hbox);have cG:=gE hg (keep_size (km HK.out));have cH:=gE2 HW0.out hg (keep_size (km HK.out));have bG:=nM hg aA;have bH:=nH hg aA;have bO:=nL hg (IsS76.lt (show IsS76 w0 _ g aG aW aX from IsS76.mv aD.out));have aK:=nG hg (IsS76.lt (show IsS76 w0 _ g aG aW aX from IsS76.mv aD.out));replace aC:=rK aC hb;replace aD:=aM (IsS76.below (IsS76.mv aD.out) hb);replace aA:=rB aA hb;replace HK:=rU HK hb;replace HB:=aM (bS (IsS76.bl HB.out) hb);clear hb hbox hg;have gT:=cA4 aE.out;obtain ⟨cY,dA,fC⟩:=Kd.R_slice aC.out;subst fC)|((with_reducible refine gC (f:=22) rfl ?_);refine gL (some 7) Try.func22 #[.pointer (some ⟨g,0,none⟩),.int .i64 10] ?_;(with_reducible refine (Z3.calls g aG aW aX 10 bA bI bJ w0 _ ?side1 ?side2 A3.out).mono ?_);(case side1=>exact IsS76.mv aD.out);(case side2=>exact IsS76.bl HB.out);rintro e jD ⟨rfl,hi,hb,hk⟩;refine ⟨_,rfl,?_⟩;replace aA:=aM (KeepBut.blk hk (fm aA.out) aI.out (by simp));replace aC:=aM (IsS76.rJ aG aW aX (IsS76.mv aD.out) (kr (rT4 aC.out aE.out (.int .i64 aN) (.int .i64 aQ) (.int .i64 aT) (.slice cY aV.length dA))) hk);replace aE:=aM (KeepBut.blk hk (g':=aH) (o:=.cells #[aN,aQ,aT,.slice cY aV.length dA] 30 (0,0)) (bm aE.out) aK.out (by simp));replace HK:=aM (KeepBut.trans (km HK.out) hk (.inl rfl));replace HB:=aM (hb);replace aD:=aM (hi);(repeat first|clear hb|clear hk|clear hi);have gU:=cA4 aE.out;have gX:=cA4 aA.out))
  refine bodyPost_ret (results_cell_row rfl _ _ aJ 30 #[aN,aQ,aT,.slice cY aV.length dA] (0,0) _ rfl (bm aA.out) Try.underlying30 rfl (by kernel_rfl)) rfl ?_
  exact ⟨_,xW,by (with_reducible repeat (first|apply Kd.R_alloc|apply Kd.R_drewN|apply Kd.R_drew));exact Kd.R_mono (rT4 aC.out aA.out (.int .i64 aN) (.int .i64 aQ) (.int .i64 aT) (.slice cY aV.length dA)) (fun _ hk=>trivial),IsS76.mv aD.out,IsS76.bl HB.out,km HK.out⟩
 rw [if_pos cN] at H
 have eB:(bA == 3)=true:=beq_iff_eq.mpr cN;clear cN;obtain ⟨⟨dH,dI,dJ⟩,dU,H⟩:=hB H
 try dsimp only at H
 have eH:=aM dU;clear dU;obtain ⟨ji57,hji57⟩:∃ j_:Int,(wrap64 (30+dH))=j_:=⟨_,rfl⟩;replace H:(if 0≤(ji57) then (if (ji57:Int).toNat≤281474976710656 then (some (aN,aQ,aT,(List.replicate (ji57:Int).toNat 0),dI,dJ)) else (none)) else (none))=some (r1,r2,r3,r4,r5,r6):=by (rw [hji57] at H;exact H)
 have hji57w:(IntKind.i64.wrap (30+dH))=ji57:=(i64_w _).trans hji57
 by_cases dC:0≤(ji57)
 case neg =>
  rw [if_neg dC] at H
  exact absurd H (by simp)
 rw [if_pos dC] at H
 have gZ:decide (0≤(ji57))=true:=decide_eq_true dC;clear dC
 by_cases dD:(ji57:Int).toNat≤281474976710656
 case neg =>
  rw [if_neg dD] at H
  exact absurd H (by simp)
 rw [if_pos dD] at H
 have hH:decide ((ji57:Int).toNat≤281474976710656)=true:=decide_eq_true dD;clear dD;obtain ⟨dB,cC⟩:∃ y_:List Int,y_=(List.replicate (ji57:Int).toNat 0):=⟨_,rfl⟩;replace H:(some (aN,aQ,aT,dB,dI,dJ))=some (r1,r2,r3,r4,r5,r6):=by (rw [cC];with_reducible exact H)
 have dP:=aM cC;clear cC;simp only [Option.some.injEq,Prod.mk.injEq] at H;obtain ⟨rfl,rfl,rfl,rfl,rfl,rfl⟩:=H;go_enter Try.func25,Try.ntmps25
 go_wp2_with (first|((with_reducible refine gD (N:=2) rfl ?_);refine bE (N:=2) (cs:=#[.int .i64 0,.int .i64 0,.int .i64 0,.slice none 0 0]) (t:=30) ?_;intro aJ hg jE hbox hb;have aA:=aM (hbox);have cD:=gE hg (keep_size (km HK.out));have cE:=gE2 HW0.out hg (keep_size (km HK.out));have bN:=nL hg (IsS76.lt (show IsS76 w0 _ g aG bK bL from IsS76.mv aD.out));have aI:=nG hg (IsS76.lt (show IsS76 w0 _ g aG bK bL from IsS76.mv aD.out));replace aD:=aM (IsS76.below (IsS76.mv aD.out) hb);replace HK:=rU HK hb;replace HB:=aM (bS (IsS76.bl HB.out) hb);clear hb hbox hg)|((with_reducible refine gC (f:=54) rfl ?_);refine gL (some 5) Try.func54 #[.pointer (some ⟨g,0,none⟩)] ?_;(with_reducible refine (Z20.calls k g aG bK bL aN aQ aT aV aW aX w0 _ ?side1 ?side2 A2.out).mono ?_);(case side1=>exact IsS76.mv aD.out);(case side2=>exact IsS76.bl HB.out);rintro e jF ⟨cP,rfl,ho0,hi,hb,hk⟩;refine ⟨_,rfl,?_⟩;have aC:=aM (Kd.R_lower ho0 (keep_size (km HK.out)));replace aA:=rP hk aA aI;replace HK:=aM (KeepBut.trans (km HK.out) hk (.inl rfl));replace HB:=aM (hb);replace aD:=aM (hi);(repeat first|clear hb|clear hk|clear hi|clear ho0))|((with_reducible refine gD (N:=3) rfl ?_);refine bR aC (N:=3) (cs:=#[.int .i64 0,.int .i64 0,.int .i64 0,.slice none 0 0]) (t:=30) ?_;intro aH hg jG hbox hb;have aE:=aM (hbox);have cG:=gE hg (keep_size (km HK.out));have cH:=gE2 HW0.out hg (keep_size (km HK.out));have bG:=nM hg aA;have bH:=nH hg aA;have bO:=nL hg (IsS76.lt (show IsS76 w0 _ g aG aW aX from IsS76.mv aD.out));have aK:=nG hg (IsS76.lt (show IsS76 w0 _ g aG aW aX from IsS76.mv aD.out));replace aC:=rK aC hb;replace aD:=aM (IsS76.below (IsS76.mv aD.out) hb);replace aA:=rB aA hb;replace HK:=rU HK hb;replace HB:=aM (bS (IsS76.bl HB.out) hb);clear hb hbox hg;have hO:=bG.out;have hU:=aK.out;have hY:=bO.out;have hZ:=cA4 aE.out;obtain ⟨dV,dW,fD⟩:=Kd.R_slice aC.out;subst fD)|((with_reducible refine gC (f:=22) rfl ?_);refine gL (some 7) Try.func22 #[.pointer (some ⟨g,0,none⟩),.int .i64 10] ?_;(with_reducible refine (Z3.calls g aG aW aX 10 bA bI bJ w0 _ ?side1 ?side2 A3.out).mono ?_);(case side1=>exact IsS76.mv aD.out);(case side2=>exact IsS76.bl HB.out);rintro e jH ⟨rfl,hi,hb,hk⟩;refine ⟨_,rfl,?_⟩;replace aA:=aM (KeepBut.blk hk (fm aA.out) aI.out (by simp));replace aC:=aM (IsS76.rJ aG aW aX (IsS76.mv aD.out) (kr (rT4 aC.out aE.out (.int .i64 aN) (.int .i64 aQ) (.int .i64 aT) (.slice dV aV.length dW))) hk);replace aE:=aM (KeepBut.blk hk (g':=aH) (o:=.cells #[aN,aQ,aT,.slice dV aV.length dW] 30 (0,0)) (bm aE.out) aK.out (by simp));replace HK:=aM (KeepBut.trans (km HK.out) hk (.inl rfl));replace HB:=aM (hb);replace aD:=aM (hi);(repeat first|clear hb|clear hk|clear hi))|((with_reducible refine gC (f:=22) rfl ?_);refine gL (some 29) Try.func22 #[.pointer (some ⟨g,0,none⟩),.int .i64 2] ?_;(with_reducible refine (Z3.calls g aG bI bJ 2 dH dI dJ w0 _ ?side1 ?side2 eH.out).mono ?_);(case side1=>exact IsS76.mv aD.out);(case side2=>exact IsS76.bl HB.out);rintro e jI ⟨rfl,hi,hb,hk⟩;refine ⟨_,rfl,?_⟩;replace aA:=rP hk aA aI;replace aC:=aM (IsS76.rJ aG bI bJ (IsS76.mv aD.out) (kr aC.out) hk);replace aE:=rP hk aE aK;replace HK:=aM (KeepBut.trans (km HK.out) hk (.inl rfl));replace HB:=aM (hb);replace aD:=aM (hi);(repeat first|clear hb|clear hk|clear hi))|((with_reducible refine gD (N:=31) rfl ?_);refine Kd.R_make (Kd.int .u8) _ 5 rfl (N:=31) rfl 22 _ _ rfl ji57 rfl rfl Try.underlying22 (.int .u8 0) 1 info5 rfl (by decide) (by omega) 0 (ok:=fun _=>True) (okp:=fun _=>True) rfl (fun _ hk=>hk) trivial (dT) (Nat.le_trans (Nat.mul_le_mul_right _ (dT:ji57.toNat≤281474976710656)) (by omega)) (Below.refl _ _) (Nat.le_refl _) ?_;intro iK jJ ho70 hb hg_ hnew_;clear hg_ hnew_;(rw [← dP.out] at ho70);have dQ:=aM (Kd.R_lower (Kd.R_new' ho70 (Kd.R_lt (kr aC.out))) (keep_size (km HK.out)));replace aC:=aM (Kd.R_elder' (kr aC.out) (Kd.R_base ho70) hb);replace aD:=aM (IsS76.below (IsS76.mv aD.out) hb);replace aA:=rB aA hb;replace aE:=rB aE hb;replace HK:=rU HK hb;replace HB:=aM (bS (IsS76.bl HB.out) hb);clear hb ho70;obtain ⟨dK,dL,fE⟩:=Kd.R_slice dQ.out;subst fE;have iA:=cA4 aE.out;have iB:=aI.out;have iC:=bN.out;have iD:=cA4 aA.out))
 refine bodyPost_ret (results_cell_row rfl _ _ aJ 30 #[aN,aQ,aT,.slice dK dB.length dL] (0,0) _ rfl (bm aA.out) Try.underlying30 rfl (by kernel_rfl)) rfl ?_
 exact ⟨_,by rfl,by (with_reducible repeat (first|apply Kd.R_alloc|apply Kd.R_drewN|apply Kd.R_drew));exact Kd.R_mono (rF4 (g:=aJ) (kF (p:=⟨aH,3,none⟩) (Kd.R_types (Kd.R_types dQ.out aE.out (by decide)) aA.out (by decide)) (fun _ hk=>hk.1.2) (.slice dK dB.length dL)) (fun _ hk=>hk.2) (.int .i64 aN) (.int .i64 aQ) (.int .i64 aT) (.slice dK dB.length dL)) (fun _ hk=>trivial),IsS76.mv aD.out,IsS76.bl HB.out,km HK.out⟩

def Z44.f (k:Nat) (l0:List Int):Option (List Bool × (List (S42)) × (List (S72)) × Int × Int × Int × Int × List Int):=(Z35.f k l0).bind fun aC=>((Z49.f k aC.1 aC.2.1 aC.2.2).bind fun aA=>((Z3.f aC.1 aA.2.2.2.1 aA.2.2.2.2 (wrap64 ((aA.1.length:Int)+1))).bind fun aH=>((Z45.f aC.1 aH.2.1 aH.2.2 12).bind fun aD=>(if aD.1=true then ((Z38.f aC.1 aD.2.1 aD.2.2 (([(-1),9223372036854775807]:List Int))).bind fun aI=>((Z47.f k aC.1 aI.2.1 aI.2.2).bind fun aE=>(some (aA.1,aA.2.1,aA.2.2.1,aI.1,aE.1,aE.2.1,aE.2.2.1,aE.2.2.2.1)))) else ((Z47.f k aC.1 aD.2.1 aD.2.2).bind fun aG=>(some (aA.1,aA.2.1,aA.2.2.1,aH.1,aG.1,aG.2.1,aG.2.2.1,aG.2.2.2.1)))))))
theorem Z44.mono:∀ a0 k,LeO (Z44.f k a0) (Z44.f (k+1) a0):=by
 intro a0 k;unfold Z44.f
 repeat' (with_reducible first|apply Z35.mono|apply Z47.mono|apply Z49.mono|exact lR _|refine lI ?_ ?_|refine lB ?_ fun _=>?_)
set_option maxHeartbeats 60000000 in
set_option maxRecDepth 100000 in
theorem Z44.calls (k:Nat) (A0:Option Addr) (c0:Nat) (l0:List Int) (r1:List Bool) (r2:List (S42)) (r3:List (S72)) (r4 r5 r6 r7:Int) (r8:List Int) (w:World) (hr0:Kd.C (Kd.int .u8) w A0 l0.length l0) (hc0:l0.length≤c0) (h:Z44.f k l0=some (r1,r2,r3,r4,r5,r6,r7,r8)) :
  Calls Try.prog 6 #[.slice A0 l0.length c0] w fun e w'=>∃ dX eK dY dZ:Value,e=.returned (.tuple #[.agg #[dX,eK,dY],r4,.agg #[r5,r6,r7,dZ]])∧Kd.R Kd.bool 4 w' w.heap.size (fun k_=>(w.heap.size≤k_)) dX r1∧Kd.N k42 42 w' w.heap.size (fun k_=>(w.heap.size≤k_)∧some k_≠(dX:Value).ownBlock∧some k_≠(dY:Value).ownBlock∧some k_≠(dZ:Value).ownBlock) eK r2∧Kd.R k72 72 w' w.heap.size (fun k_=>(w.heap.size≤k_)) dY r3∧Kd.R (Kd.int .u8) 5 w' w.heap.size (fun k_=>(w.heap.size≤k_)) dZ r8∧Below w.heap.size w w':=by
 have eL:=aM hr0;have eM:=aM hc0;clear hr0 hc0;have HB:=aM (Below.refl w.heap.size w);have H:((Z35.f k l0).bind fun cC=>((Z49.f k cC.1 cC.2.1 cC.2.2).bind fun bZ=>((Z3.f cC.1 bZ.2.2.2.1 bZ.2.2.2.2 (wS (bZ.1.length:Int))).bind fun dK=>((Z45.f cC.1 dK.2.1 dK.2.2 12).bind fun cR=>(if cR.1=true then ((Z38.f cC.1 cR.2.1 cR.2.2 (([(-1),9223372036854775807]:List Int))).bind fun cN=>((Z47.f k cC.1 cN.2.1 cN.2.2).bind fun cA=>(some (bZ.1,bZ.2.1,bZ.2.2.1,cN.1,cA.1,cA.2.1,cA.2.2.1,cA.2.2.2.1)))) else ((Z47.f k cC.1 cR.2.1 cR.2.2).bind fun dC=>(some (bZ.1,bZ.2.1,bZ.2.2.1,dK.1,dC.1,dC.2.1,dC.2.2.1,dC.2.2.2.1))))))))=some (r1,r2,r3,r4,r5,r6,r7,r8):=h
 clear h;obtain ⟨⟨aW,dL,dM⟩,eN,H⟩:=hB H
 try dsimp only at H
 have A2:=aM eN;clear eN;obtain ⟨⟨aV,bK,aX,bX,bY⟩,eO,H⟩:=hB H
 try dsimp only at H
 have A3:=aM eO;clear eO;obtain ⟨⟨eA,cO,cP⟩,eP,H⟩:=hB H
 try dsimp only at H
 have A4:=aM eP;clear eP;obtain ⟨⟨eT,cD,cE⟩,eQ,H⟩:=hB H
 try dsimp only at H
 have A5:=aM eQ;clear eQ
 by_cases c6:eT=true
 case neg =>
  replace c6:=Bool.eq_false_iff.mpr c6;subst c6;replace H:=hF H;obtain ⟨⟨cT,cU,cV,cW,eU,eV⟩,eB,H⟩:=hB H
  try dsimp only at H
  have fH:=aM eB;clear eB;simp only [Option.some.injEq,Prod.mk.injEq] at H;obtain ⟨rfl,rfl,rfl,rfl,rfl,rfl,rfl,rfl⟩:=H;go_enter Try.func6,Try.ntmps6
  try go_wp2_with (first|((with_reducible refine gD (N:=2) rfl ?_);refine box_event ?hg (N:=2) ?hd (cs:=#[.slice none 0 0,.slice none 0 0,.slice none 0 0]) (t:=28) ?hr ?_;(case hd=>rfl);(case hg=>rfl);(case hr=>(go_simp;done));intro aK hg hD hbox hb;have aA:=aM (hbox);have eF:=gF hg HB;replace HB:=rS HB hb;clear hb hbox hg)|((with_reducible refine gD (N:=4) rfl ?_);refine box_event ?hg (N:=4) ?hd (cs:=#[.int .i64 0,.int .i64 0,.int .i64 0,.slice none 0 0]) (t:=30) ?hr ?_;(case hd=>rfl);(case hg=>rfl);(case hr=>(go_simp;done));intro aE hg hH hbox hb;have aC:=aM (hbox);have eH:=gF hg HB;have aQ:=nM hg aA;have aT:=nH hg aA;replace aA:=rB aA hb;replace HB:=rS HB hb;clear hb hbox hg)|((with_reducible refine gC (f:=20) rfl ?_);refine gL (some 9) Try.func20 #[.slice A0 l0.length c0] ?_;(with_reducible refine (Z35.calls k _ _ l0 aW dL dM w _ ?side1 ?side2 ?side3 A2.out).mono ?_);(case side1=>exact bl HB.out);(case side2=>exact eL.out);(case side3=>exact eM.out);rintro e hJ ⟨g396,rfl,hi,hb,hb2⟩;refine ⟨_,rfl,?_⟩;have aD:=aM (hi);have bH:=aM (Ne.symm (IsS76.ne_blk hi (bB (bk aA.out) hb2) (by decide)));have bI:=aM (Ne.symm (IsS76.ne_blk hi (bB (bk aC.out) hb2) (by decide)));replace aA:=aM (bB (bk aA.out) hb2);replace aC:=aM (bB (bk aC.out) hb2);replace HB:=aM (hb);(repeat first|clear hb|clear hb2|clear hi))|((with_reducible refine gC (f:=21) rfl ?_);refine gL (some 11) Try.func21 #[.pointer (some ⟨g396,0,none⟩)] ?_;(with_reducible refine (Z49.calls k g396 aW dL dM aV bK aX bX bY w _ ?side1 ?side2 A3.out).mono ?_);(case side1=>exact IsS76.mv aD.out);(case side2=>exact IsS76.bl HB.out);rintro e hO ⟨dP,eW,dQ,rfl,ho0,ho1,ho2,hi,hb,hk⟩;refine ⟨_,rfl,?_⟩;have aG:=aM (Kd.R_lower (Kd.R_newM (M:=fun k_=>(w.heap.size≤k_)) (Kd.R_mono (ok':=fun k_=>True) ho0 (fun _ hk_=>trivial)) (below_size (IsS76.bl HB.out)) (fun k_ h_=>h_)) (below_size (IsS76.bl HB.out)));have aH:=aM (Kd.N_lower (Kd.N_mono (ok':=fun k_=>(w.heap.size≤k_)∧some k_≠(dP:Value).ownBlock∧some k_≠(dQ:Value).ownBlock∧k_≠aK∧k_≠aE∧k_≠g396) ho1 (fun k_ hk_=>⟨(Nat.le_trans (below_size (IsS76.bl HB.out)) hk_.1),hk_.2.1,hk_.2.2,(Kd.freshB (g:=aK) (o:=.cells #[.slice none 0 0,.slice none 0 0,.slice none 0 0] 28 (0,0)) (bk aA.out) k_ hk_.1),(Kd.freshB (g:=aE) (o:=.cells #[.int .i64 0,.int .i64 0,.int .i64 0,.slice none 0 0] 30 (0,0)) (bk aC.out) k_ hk_.1),(IsS76.fresh (IsS76.mv aD.out) k_ hk_.1)⟩)) (below_size (IsS76.bl HB.out)));have aI:=aM (Kd.R_lower (Kd.R_newM (M:=fun k_=>(w.heap.size≤k_)) (Kd.R_mono (ok':=fun k_=>True) ho2 (fun _ hk_=>trivial)) (below_size (IsS76.bl HB.out)) (fun k_ h_=>h_)) (below_size (IsS76.bl HB.out)));replace aA:=rP hk aA bH;replace aC:=rP hk aC bI;replace HB:=aM (hb);replace aD:=aM (hi);(repeat first|clear hb|clear hk|clear hi|clear ho0|clear ho1|clear ho2))|((with_reducible refine gD (N:=6) rfl ?_);refine box_event ?hg (N:=6) ?hd (cs:=#[.slice none 0 0,.slice none 0 0,.slice none 0 0]) (t:=28) ?hr ?_;(case hd=>rfl);(case hg=>rfl);(case hr=>(go_simp;done));intro aN hg hU hbox hb;have aJ:=aM (hbox);have eJ:=gE hg (below_size (IsS76.bl HB.out));have bL:=nM hg aA;have bM:=nH hg aA;have bA:=nM hg aC;have bD:=nH hg aC;have cQ:=nL hg (IsS76.lt (show IsS76 w _ g396 aW bX bY from IsS76.mv aD.out));have bJ:=nG hg (IsS76.lt (show IsS76 w _ g396 aW bX bY from IsS76.mv aD.out));replace aG:=rK aG hb;replace aH:=aM (Kd.N_below (Kd.N_elderB (by (with_reducible repeat (first|apply Kd.N_alloc|apply Kd.N_drewN|apply Kd.N_drew));exact aH.out) aN (Nat.le_of_eq hg.symm)) hb);replace aI:=rK aI hb;replace aA:=rB aA hb;replace aC:=rB aC hb;replace aD:=aM (IsS76.below (IsS76.mv aD.out) hb);replace HB:=aM (bS (IsS76.bl HB.out) hb);clear hb hbox hg;obtain ⟨bT,bU,eX⟩:=Kd.R_slice aG.out;subst eX;have fS:=cA3 aJ.out;obtain ⟨cG,cH,eY⟩:=Kd.N_slice aH.out;subst eY;obtain ⟨bV,bW,eZ⟩:=Kd.R_slice aI.out;subst eZ)|((with_reducible refine gC (f:=22) rfl ?_);refine gL (some 17) Try.func22 #[.pointer (some ⟨g396,0,none⟩),.int .i64 (wS (aV.length:Int))] ?_;(with_reducible refine (Z3.calls g396 aW bX bY (wS (aV.length:Int)) eA cO cP w _ ?side1 ?side2 A4.out).mono ?_);(case side1=>exact IsS76.mv aD.out);(case side2=>exact IsS76.bl HB.out);rintro e hY ⟨rfl,hi,hb,hk⟩;refine ⟨_,rfl,?_⟩;replace aA:=aM (KeepBut.blk hk (fm aA.out) bH.out (by simp));replace aC:=aM (KeepBut.blk hk (fm aC.out) bI.out (by simp));replace aG:=aM (IsS76.rJ aW bX bY (IsS76.mv aD.out) (kr (rT3 aG.out aJ.out (.slice bT aV.length bU) (.slice cG bK.length cH) (.slice bV aX.length bW))) hk);replace aH:=aM (Kd.N_mono (Kd.N_keep (Kd.N_mono (ok:=fun k_=>((((w.heap.size≤k_))∧(some k_≠(.slice bT aV.length bU:Value).ownBlock∧(some k_≠(.slice bV aX.length bW:Value).ownBlock∧(k_≠aK∧(k_≠aE∧k_≠g396)))))∧k_≠aN)) (by (with_reducible repeat (first|apply Kd.N_alloc|apply Kd.N_drewN|apply Kd.N_drew));exact (Kd.N_mono (nF3 (g:=aN) (Kd.N_mono aH.out (fun k_ hk=>(⟨hk,hk.2⟩:_∧k_≠aN))) (fun _ hk=>hk.2) (.slice bT aV.length bU) (.slice cG bK.length cH) (.slice bV aX.length bW)) (fun _ h_=>h_.1))) (fun k_ hk_=>(⟨hk_,hk_.1.2.2.2.2.2⟩:_∧k_≠g396))) hk (fun _ h=>h.2)) (fun _ h=>h.1));replace aI:=aM (IsS76.rJ aW bX bY (IsS76.mv aD.out) (kr (rT3 aI.out aJ.out (.slice bT aV.length bU) (.slice cG bK.length cH) (.slice bV aX.length bW))) hk);replace aJ:=aM (KeepBut.blk hk (g':=aN) (o:=.cells #[.slice bT aV.length bU,.slice cG bK.length cH,.slice bV aX.length bW] 28 (0,0)) (bm aJ.out) bJ.out (by simp));replace HB:=aM (hb);replace aD:=aM (hi);(repeat first|clear hb|clear hk|clear hi))|((with_reducible refine gC (f:=23) rfl ?_);refine gL (some 19) Try.func23 #[.pointer (some ⟨g396,0,none⟩),.int .i64 12] ?_;(with_reducible refine (Z45.calls g396 aW cO cP 12 false cD cE w _ ?side1 ?side2 A5.out).mono ?_);(case side1=>exact IsS76.mv aD.out);(case side2=>exact IsS76.bl HB.out);rintro e fI ⟨rfl,hi,hb,hk⟩;refine ⟨_,rfl,?_⟩;replace aA:=rP hk aA bH;replace aC:=rP hk aC bI;replace aG:=aM (IsS76.rJ aW cO cP (IsS76.mv aD.out) (kr aG.out) hk);replace aH:=aM (Kd.N_mono (Kd.N_keep (Kd.N_mono (ok:=fun k_=>((((w.heap.size≤k_))∧(some k_≠(.slice bT aV.length bU:Value).ownBlock∧(some k_≠(.slice bV aX.length bW:Value).ownBlock∧(k_≠aK∧(k_≠aE∧k_≠g396)))))∧k_≠aN)) (by (with_reducible repeat (first|apply Kd.N_alloc|apply Kd.N_drewN|apply Kd.N_drew));exact aH.out) (fun k_ hk_=>(⟨hk_,hk_.1.2.2.2.2.2⟩:_∧k_≠g396))) hk (fun _ h=>h.2)) (fun _ h=>h.1));replace aI:=aM (IsS76.rJ aW cO cP (IsS76.mv aD.out) (kr aI.out) hk);replace aJ:=rP hk aJ bJ;replace HB:=aM (hb);replace aD:=aM (hi);(repeat first|clear hb|clear hk|clear hi)))
  replace aG:=aM (Kd.R_drew aG.out);replace aH:=aM (Kd.N_drew aH.out);replace aI:=aM (Kd.R_drew aI.out);replace aA:=aM (blk_drew aA.out);replace aC:=aM (blk_drew aC.out);replace aJ:=aM (blk_drew aJ.out);replace aD:=aM (IsS76.drew aD.out);replace HB:=aM (below_drew1 HB.out);refine start_ (n:=7) (S:=fun w'=>cS3 w' aN (.slice bT aV.length bU) (.slice cG bK.length cH) (.slice bV aX.length bW)) (ds:=[]) (dn 7 0) (by kernel_rfl) rfl rfl ⟨cI aJ.out 0,cI aJ.out 1,cI aJ.out 2⟩ (fun hHeld=>?_)
  generalize fI.drew=hZ at aG aH aI aA aC aJ aD HB hHeld ⊢
  refine pure_ (i:=1) (N:=some 24) (v:=?_) (a':=?_) (bv 7 2) rfl rfl (by kernel_rfl) (fun _ _ _ h=>h) (Or.inl ⟨by rfl,?_⟩) ?_ ?_
  rotate_left
  ·intro w'
   go_simp
   with_reducible rfl
  rotate_left
  ·simp only [Act.put,sA,sZ,sS,i64_w,i32_w]
   rfl
  refine pure_ (i:=2) (N:=some 25) (v:=?_) (a':=?_) (bv 7 6) rfl rfl (by kernel_rfl) (fun _ _ _ h=>h) (Or.inl ⟨by rfl,?_⟩) ?_ ?_
  rotate_left
  ·intro w'
   go_simp
   with_reducible rfl
  rotate_left
  ·simp only [Act.put,sA,sZ,sS,i64_w,i32_w]
   rfl
  refine take_ (i:=0) (N:=some 23) (v:=?_) (a':=?_) (bv 7 7) rfl rfl (by kernel_rfl) (fun _ _ _ h=>h) (Or.inl ⟨by rfl,?_⟩) hHeld ?_ ?_
  rotate_left
  ·rintro w' ⟨s0,s1,s2⟩
   go_simp
   with_reducible rfl
  rotate_left
  ·simp only [Act.put,sA,sZ,sS,i64_w,i32_w]
   rfl
  refine one_ (i:=3) (N:=some 26) (bv 7 15) rfl rfl (by kernel_rfl) (by decide) (fun K hK=>?_)
  refine goes_ Try.func25 (by kernel_rfl) rfl #[.pointer (some ⟨g396,0,none⟩)] (by rfl) rfl rfl xR ?_
  with_reducible refine (Z47.calls k g396 aW cD cE cT cU cV cW eU eV w _ ?side1 ?side2 fH.out).mono ?_
  (case side1=>exact IsS76.mv aD.out)
  (case side2=>exact IsS76.bl HB.out)
  rintro e iA ⟨gH,rfl,ho0,hi,hb,hk⟩;refine ⟨_,rfl,?_⟩;have dU:=aM (Kd.R_lower (Kd.R_newM (M:=fun k_=>(w.heap.size≤k_)) ho0 (below_size (IsS76.bl HB.out)) (fun k_ h_=>h_)) (below_size (IsS76.bl HB.out)))
  replace aA:=rP hk aA bH;replace aC:=rP hk aC bI;replace aG:=aM (IsS76.rJ aW cD cE (IsS76.mv aD.out) (kr aG.out) hk)
  replace aH:=aM (Kd.N_mono (Kd.N_told (Kd.N_oldK (Kd.N_mono (ok:=fun k_=>((((w.heap.size≤k_))∧(some k_≠(.slice bT aV.length bU:Value).ownBlock∧(some k_≠(.slice bV aX.length bW:Value).ownBlock∧(k_≠aK∧(k_≠aE∧k_≠g396)))))∧k_≠aN)) (by (with_reducible repeat (first|apply Kd.N_alloc|apply Kd.N_drewN|apply Kd.N_drew));exact aH.out) (fun k_ hk_=>(⟨hk_,hk_.1.2.2.2.2.2⟩:_∧k_≠g396))) hk) (Kd.R_base ho0)) (fun _ h_=>h_.1))
  replace aI:=aM (IsS76.rJ aW cD cE (IsS76.mv aD.out) (kr aI.out) hk)
  replace aJ:=rP hk aJ bJ;replace HB:=aM (hb);replace aD:=aM (hi)
  (try clear hb)
  (try clear hk)
  (try clear hi)
  (try clear ho0)
  obtain ⟨dD,dE,eC⟩:=Kd.R_slice dU.out
  (subst eC)
  refine hK.out _ _ ⟨cI aJ.out 0,cI aJ.out 1,cI aJ.out 2⟩ (fun hHeld=>?_)
  clear hK K;refine norm_ (a':=?_) ?_ ?_;rotate_left
  ·show Act.put _ (some 26) _=_
   simp only [Act.put,sA,sZ,sS,i64_w,i32_w]
   rfl
  refine one_ (i:=4) (N:=none) (bv 7 31) rfl rfl (by kernel_rfl) (by decide) (fun K hK=>?_)
  have gJ:=cI aA.out 0;have hfs54:=bF aA.out 0;have gK:=cI aA.out 1;have hfs55:=bF aA.out 1;have gM:=cI aA.out 2;have hfs56:=bF aA.out 2;refine skip_ (w1:=?_) (by rfl) rfl ?_ ?_
  rotate_left
  ·go_simp
   rfl
  refine hK.out _ _ ⟨(cm (hHeld.1)),(cm (hHeld.2.1)),(cm (hHeld.2.2))⟩ (fun hHeld=>?_)
  clear hK K;refine pure_ (i:=5) (N:=some 3) (v:=?_) (a':=?_) (bv 7 63) rfl rfl (by kernel_rfl) (fun _ _ _ h=>h) (Or.inl ⟨by rfl,?_⟩) ?_ ?_
  rotate_left
  ·intro w'
   go_simp
   with_reducible rfl
  rotate_left
  ·simp only [Act.put,sA,sZ,sS,i64_w,i32_w]
   rfl
  refine one_ (i:=6) (N:=none) (bv 7 127) rfl rfl (by kernel_rfl) (by decide) (fun K hK=>?_)
  have gN:=cI aC.out 0;have hfs57:=bF aC.out 0;have gO:=cI aC.out 1;have hfs58:=bF aC.out 1;have gP:=cI aC.out 2;have hfs59:=bF aC.out 2;have gQ:=cI aC.out 3;have hfs61:=bF aC.out 3;have hms61_0:=aT.out;have hms61_2:=bA.out;refine skip_ (w1:=?_) (by rfl) rfl ?_ ?_
  rotate_left
  ·go_simp
   rfl
  refine hK.out _ _ ⟨(cm (hHeld.1)),(cm (hHeld.2.1)),(cm (hHeld.2.2))⟩ (fun hHeld=>?_)
  clear hK K;refine done_ (by kernel_rfl) ?_
  try go_wp2
  refine bodyPost_ret (results_list (rs:=[.cell 2 28,.tmp 3,.cell 4 30]) rfl (by simp) (.cell aK 28 #[.slice bT aV.length bU,.slice cG bK.length cH,.slice bV aX.length bW] (0,0) _ rfl (bm aA.out) Try.underlying28 rfl (by kernel_rfl) (.tmp (.cell aE 30 #[cT,cU,cV,.slice dD cW.length dE] (0,0) _ rfl (bm aC.out) Try.underlying30 rfl (by kernel_rfl) .nil)))) rfl ?_
  exact ⟨_,_,_,_,xW,by (with_reducible repeat (first|apply Kd.R_alloc|apply Kd.R_drewN|apply Kd.R_drew));exact Kd.R_mono (rF4 (g:=aE) (rF3 (g:=aK) (Kd.R_types (Kd.R_types aG.out aA.out (by decide)) aC.out (by decide)) (fun _ hk=>hk.1.2) (.slice bT aV.length bU) (.slice cG bK.length cH) (.slice bV aX.length bW)) (fun _ hk=>hk.2) (.int .i64 cT) (.int .i64 cU) (.int .i64 cV) (.slice dD cW.length dE)) (fun _ hk=>hk.1.1.1),by (with_reducible repeat (first|apply Kd.N_alloc|apply Kd.N_drewN|apply Kd.N_drew));exact Kd.N_mono (nF4 (g:=aE) (nF3 (g:=aK) (Kd.N_mono (Kd.N_mono aH.out (fun k_ hk=>(⟨hk,hk.1.1.2.2.2.1⟩:_∧k_≠aK))) (fun k_ hk=>(⟨hk,hk.1.1.1.2.2.2.2.1⟩:_∧k_≠aE))) (fun _ hk=>hk.1.2) (.slice bT aV.length bU) (.slice cG bK.length cH) (.slice bV aX.length bW)) (fun _ hk=>hk.2) (.int .i64 cT) (.int .i64 cU) (.int .i64 cV) (.slice dD cW.length dE)) (fun _ hk=>⟨hk.1.1.1.1.1,⟨hk.1.1.1.1.2.1,⟨hk.1.1.1.1.2.2.1,hk.1.1.2⟩⟩⟩),by (with_reducible repeat (first|apply Kd.R_alloc|apply Kd.R_drewN|apply Kd.R_drew));exact Kd.R_mono (rF4 (g:=aE) (rF3 (g:=aK) (Kd.R_types (Kd.R_types aI.out aA.out (by decide)) aC.out (by decide)) (fun _ hk=>hk.1.2) (.slice bT aV.length bU) (.slice cG bK.length cH) (.slice bV aX.length bW)) (fun _ hk=>hk.2) (.int .i64 cT) (.int .i64 cU) (.int .i64 cV) (.slice dD cW.length dE)) (fun _ hk=>hk.1.1.1),by (with_reducible repeat (first|apply Kd.R_alloc|apply Kd.R_drewN|apply Kd.R_drew));exact Kd.R_mono (rF4 (g:=aE) (rF3 (g:=aK) (Kd.R_types (Kd.R_types dU.out aA.out (by decide)) aC.out (by decide)) (fun _ hk=>hk.1.2) (.slice bT aV.length bU) (.slice cG bK.length cH) (.slice bV aX.length bW)) (fun _ hk=>hk.2) (.int .i64 cT) (.int .i64 cU) (.int .i64 cV) (.slice dD cW.length dE)) (fun _ hk=>hk.1.1.1),IsS76.bl HB.out⟩
 subst c6;replace H:=hP H rfl;obtain ⟨dF,cS⟩:∃ y_:List Int,y_=(([(-1),9223372036854775807]:List Int)):=⟨_,rfl⟩;replace H:((Z38.f aW cD cE dF).bind fun cN=>((Z47.f k aW cN.2.1 cN.2.2).bind fun cA=>(some (aV,bK,aX,cN.1,cA.1,cA.2.1,cA.2.2.1,cA.2.2.2.1))))=some (r1,r2,r3,r4,r5,r6,r7,r8):=by (rw [cS];with_reducible exact H)
 have dV:=aM cS;clear cS;obtain ⟨⟨fA,dG,dH⟩,eR,H⟩:=hB H
 try dsimp only at H
 have A7:=aM eR;clear eR;obtain ⟨⟨cX,cY,dA,dB,fB,fC⟩,eS,H⟩:=hB H
 try dsimp only at H
 have A8:=aM eS;clear eS;simp only [Option.some.injEq,Prod.mk.injEq] at H;obtain ⟨rfl,rfl,rfl,rfl,rfl,rfl,rfl,rfl⟩:=H;go_enter Try.func6,Try.ntmps6
 try go_wp2_with (first|((with_reducible refine gD (N:=2) rfl ?_);refine box_event ?hg (N:=2) ?hd (cs:=#[.slice none 0 0,.slice none 0 0,.slice none 0 0]) (t:=28) ?hr ?_;(case hd=>rfl);(case hg=>rfl);(case hr=>(go_simp;done));intro aK hg w9 hbox hb;have aA:=aM (hbox);have eF:=gF hg HB;replace HB:=rS HB hb;clear hb hbox hg)|((with_reducible refine gD (N:=4) rfl ?_);refine box_event ?hg (N:=4) ?hd (cs:=#[.int .i64 0,.int .i64 0,.int .i64 0,.slice none 0 0]) (t:=30) ?hr ?_;(case hd=>rfl);(case hg=>rfl);(case hr=>(go_simp;done));intro aE hg iB hbox hb;have aC:=aM (hbox);have eH:=gF hg HB;have aQ:=nM hg aA;have aT:=nH hg aA;replace aA:=rB aA hb;replace HB:=rS HB hb;clear hb hbox hg)|((with_reducible refine gC (f:=20) rfl ?_);refine gL (some 9) Try.func20 #[.slice A0 l0.length c0] ?_;(with_reducible refine (Z35.calls k _ _ l0 aW dL dM w _ ?side1 ?side2 ?side3 A2.out).mono ?_);(case side1=>exact bl HB.out);(case side2=>exact eL.out);(case side3=>exact eM.out);rintro e iC ⟨g396,rfl,hi,hb,hb2⟩;refine ⟨_,rfl,?_⟩;have aD:=aM (hi);have bH:=aM (Ne.symm (IsS76.ne_blk hi (bB (bk aA.out) hb2) (by decide)));have bI:=aM (Ne.symm (IsS76.ne_blk hi (bB (bk aC.out) hb2) (by decide)));replace aA:=aM (bB (bk aA.out) hb2);replace aC:=aM (bB (bk aC.out) hb2);replace HB:=aM (hb);(repeat first|clear hb|clear hb2|clear hi))|((with_reducible refine gC (f:=21) rfl ?_);refine gL (some 11) Try.func21 #[.pointer (some ⟨g396,0,none⟩)] ?_;(with_reducible refine (Z49.calls k g396 aW dL dM aV bK aX bX bY w _ ?side1 ?side2 A3.out).mono ?_);(case side1=>exact IsS76.mv aD.out);(case side2=>exact IsS76.bl HB.out);rintro e iD ⟨dP,eW,dQ,rfl,ho0,ho1,ho2,hi,hb,hk⟩;refine ⟨_,rfl,?_⟩;have aG:=aM (Kd.R_lower (Kd.R_newM (M:=fun k_=>(w.heap.size≤k_)) (Kd.R_mono (ok':=fun k_=>True) ho0 (fun _ hk_=>trivial)) (below_size (IsS76.bl HB.out)) (fun k_ h_=>h_)) (below_size (IsS76.bl HB.out)));have aH:=aM (Kd.N_lower (Kd.N_mono (ok':=fun k_=>(w.heap.size≤k_)∧some k_≠(dP:Value).ownBlock∧some k_≠(dQ:Value).ownBlock∧k_≠aK∧k_≠aE∧k_≠g396) ho1 (fun k_ hk_=>⟨(Nat.le_trans (below_size (IsS76.bl HB.out)) hk_.1),hk_.2.1,hk_.2.2,(Kd.freshB (g:=aK) (o:=.cells #[.slice none 0 0,.slice none 0 0,.slice none 0 0] 28 (0,0)) (bk aA.out) k_ hk_.1),(Kd.freshB (g:=aE) (o:=.cells #[.int .i64 0,.int .i64 0,.int .i64 0,.slice none 0 0] 30 (0,0)) (bk aC.out) k_ hk_.1),(IsS76.fresh (IsS76.mv aD.out) k_ hk_.1)⟩)) (below_size (IsS76.bl HB.out)));have aI:=aM (Kd.R_lower (Kd.R_newM (M:=fun k_=>(w.heap.size≤k_)) (Kd.R_mono (ok':=fun k_=>True) ho2 (fun _ hk_=>trivial)) (below_size (IsS76.bl HB.out)) (fun k_ h_=>h_)) (below_size (IsS76.bl HB.out)));replace aA:=rP hk aA bH;replace aC:=rP hk aC bI;replace HB:=aM (hb);replace aD:=aM (hi);(repeat first|clear hb|clear hk|clear hi|clear ho0|clear ho1|clear ho2))|((with_reducible refine gD (N:=6) rfl ?_);refine box_event ?hg (N:=6) ?hd (cs:=#[.slice none 0 0,.slice none 0 0,.slice none 0 0]) (t:=28) ?hr ?_;(case hd=>rfl);(case hg=>rfl);(case hr=>(go_simp;done));intro aN hg iE hbox hb;have aJ:=aM (hbox);have eJ:=gE hg (below_size (IsS76.bl HB.out));have bL:=nM hg aA;have bM:=nH hg aA;have bA:=nM hg aC;have bD:=nH hg aC;have cQ:=nL hg (IsS76.lt (show IsS76 w _ g396 aW bX bY from IsS76.mv aD.out));have bJ:=nG hg (IsS76.lt (show IsS76 w _ g396 aW bX bY from IsS76.mv aD.out));replace aG:=rK aG hb;replace aH:=aM (Kd.N_below (Kd.N_elderB (by (with_reducible repeat (first|apply Kd.N_alloc|apply Kd.N_drewN|apply Kd.N_drew));exact aH.out) aN (Nat.le_of_eq hg.symm)) hb);replace aI:=rK aI hb;replace aA:=rB aA hb;replace aC:=rB aC hb;replace aD:=aM (IsS76.below (IsS76.mv aD.out) hb);replace HB:=aM (bS (IsS76.bl HB.out) hb);clear hb hbox hg;obtain ⟨bN,bO,fD⟩:=Kd.R_slice aG.out;subst fD;have gA:=cA3 aJ.out;obtain ⟨cK,cL,fE⟩:=Kd.N_slice aH.out;subst fE;obtain ⟨bP,bQ,fF⟩:=Kd.R_slice aI.out;subst fF)|((with_reducible refine gC (f:=22) rfl ?_);refine gL (some 17) Try.func22 #[.pointer (some ⟨g396,0,none⟩),.int .i64 (wS (aV.length:Int))] ?_;(with_reducible refine (Z3.calls g396 aW bX bY (wS (aV.length:Int)) eA cO cP w _ ?side1 ?side2 A4.out).mono ?_);(case side1=>exact IsS76.mv aD.out);(case side2=>exact IsS76.bl HB.out);rintro e iF ⟨rfl,hi,hb,hk⟩;refine ⟨_,rfl,?_⟩;replace aA:=aM (KeepBut.blk hk (fm aA.out) bH.out (by simp));replace aC:=aM (KeepBut.blk hk (fm aC.out) bI.out (by simp));replace aG:=aM (IsS76.rJ aW bX bY (IsS76.mv aD.out) (kr (rT3 aG.out aJ.out (.slice bN aV.length bO) (.slice cK bK.length cL) (.slice bP aX.length bQ))) hk);replace aH:=aM (Kd.N_mono (Kd.N_keep (Kd.N_mono (ok:=fun k_=>((((w.heap.size≤k_))∧(some k_≠(.slice bN aV.length bO:Value).ownBlock∧(some k_≠(.slice bP aX.length bQ:Value).ownBlock∧(k_≠aK∧(k_≠aE∧k_≠g396)))))∧k_≠aN)) (by (with_reducible repeat (first|apply Kd.N_alloc|apply Kd.N_drewN|apply Kd.N_drew));exact (Kd.N_mono (nF3 (g:=aN) (Kd.N_mono aH.out (fun k_ hk=>(⟨hk,hk.2⟩:_∧k_≠aN))) (fun _ hk=>hk.2) (.slice bN aV.length bO) (.slice cK bK.length cL) (.slice bP aX.length bQ)) (fun _ h_=>h_.1))) (fun k_ hk_=>(⟨hk_,hk_.1.2.2.2.2.2⟩:_∧k_≠g396))) hk (fun _ h=>h.2)) (fun _ h=>h.1));replace aI:=aM (IsS76.rJ aW bX bY (IsS76.mv aD.out) (kr (rT3 aI.out aJ.out (.slice bN aV.length bO) (.slice cK bK.length cL) (.slice bP aX.length bQ))) hk);replace aJ:=aM (KeepBut.blk hk (g':=aN) (o:=.cells #[.slice bN aV.length bO,.slice cK bK.length cL,.slice bP aX.length bQ] 28 (0,0)) (bm aJ.out) bJ.out (by simp));replace HB:=aM (hb);replace aD:=aM (hi);(repeat first|clear hb|clear hk|clear hi))|((with_reducible refine gC (f:=23) rfl ?_);refine gL (some 19) Try.func23 #[.pointer (some ⟨g396,0,none⟩),.int .i64 12] ?_;(with_reducible refine (Z45.calls g396 aW cO cP 12 true cD cE w _ ?side1 ?side2 A5.out).mono ?_);(case side1=>exact IsS76.mv aD.out);(case side2=>exact IsS76.bl HB.out);rintro e iG ⟨rfl,hi,hb,hk⟩;refine ⟨_,rfl,?_⟩;replace aA:=rP hk aA bH;replace aC:=rP hk aC bI;replace aG:=aM (IsS76.rJ aW cO cP (IsS76.mv aD.out) (kr aG.out) hk);replace aH:=aM (Kd.N_mono (Kd.N_keep (Kd.N_mono (ok:=fun k_=>((((w.heap.size≤k_))∧(some k_≠(.slice bN aV.length bO:Value).ownBlock∧(some k_≠(.slice bP aX.length bQ:Value).ownBlock∧(k_≠aK∧(k_≠aE∧k_≠g396)))))∧k_≠aN)) (by (with_reducible repeat (first|apply Kd.N_alloc|apply Kd.N_drewN|apply Kd.N_drew));exact aH.out) (fun k_ hk_=>(⟨hk_,hk_.1.2.2.2.2.2⟩:_∧k_≠g396))) hk (fun _ h=>h.2)) (fun _ h=>h.1));replace aI:=aM (IsS76.rJ aW cO cP (IsS76.mv aD.out) (kr aI.out) hk);replace aJ:=rP hk aJ bJ;replace HB:=aM (hb);replace aD:=aM (hi);(repeat first|clear hb|clear hk|clear hi))|((with_reducible refine gD (N:=21) rfl ?_);refine Kd.R_lit (Kd.int .i64) _ 3 ?hg (N:=21) ?hd (xs:=([(-1),9223372036854775807]:List Int)) (inner:=[.int .i64 (-1),.int .i64 9223372036854775807]) (ok:=fun _=>True) (okp:=fun _=>True) ?hr ?hp (fun _ hk=>hk) trivial (Below.refl _ _) (Nat.le_refl _) (by simp) ?_;(case hd=>rfl);(case hg=>rfl);(case hr=>(go_simp;done));(case hp=>exact (Reps.one (show Kd.M (Kd.int .i64) _ _ _ (-1) [.int .i64 (-1)] from rfl) (Reps.one (show Kd.M (Kd.int .i64) _ _ _ 9223372036854775807 [.int .i64 9223372036854775807] from rfl) (Reps.none _ _))));intro gR iH ho24 hb hg_ hnew_;clear hg_ hnew_;(rw [← dV.out] at ho24);have bG:=aM (Kd.R_lower (Kd.R_newM (M:=fun k_=>(w.heap.size≤k_)) ho24 (below_size (IsS76.bl HB.out)) (fun k_ h_=>h_)) (below_size (IsS76.bl HB.out)));replace aG:=rK aG hb;replace aH:=aM (Kd.N_elder' (by (with_reducible repeat (first|apply Kd.N_alloc|apply Kd.N_drewN|apply Kd.N_drew));exact aH.out) (Kd.R_base ho24) hb);replace aI:=rK aI hb;replace aA:=rB aA hb;replace aC:=rB aC hb;replace aD:=aM (IsS76.below (IsS76.mv aD.out) hb);replace aJ:=rB aJ hb;replace HB:=aM (bS (IsS76.bl HB.out) hb);clear hb ho24;obtain ⟨dR,dS,fG⟩:=Kd.R_slice bG.out;subst fG)|((with_reducible refine gC (f:=24) rfl ?_);refine gL (some 22) Try.func24 #[.pointer (some ⟨g396,0,none⟩),.slice dR dF.length dS] ?_;(with_reducible refine (Z38.calls g396 aW cD cE _ _ dF fA dG dH w _ ?side1 ?side2 ?side3 ?side4 ?side5 A7.out).mono ?_);(case side1=>exact IsS76.mv aD.out);(case side2=>exact IsS76.bl HB.out);(case side3=>exact cM ((Kd.R_reads' bG.out).2.2));(case side4=>exact (Kd.R_reads' bG.out).2.1);(case side5=>exact far_slice (IsS76.own_ne aD.out bG.out (by decide)));rintro e fK ⟨rfl,hi,hb,hk⟩;refine ⟨_,rfl,?_⟩;replace aA:=rP hk aA bH;replace aC:=rP hk aC bI;replace aG:=aM (IsS76.rJ aW cD cE (IsS76.mv aD.out) (kr aG.out) hk);replace aH:=aM (Kd.N_mono (Kd.N_keep (Kd.N_mono (ok:=fun k_=>(((((w.heap.size≤k_))∧(some k_≠(.slice bN aV.length bO:Value).ownBlock∧(some k_≠(.slice bP aX.length bQ:Value).ownBlock∧(k_≠aK∧(k_≠aE∧k_≠g396)))))∧k_≠aN)∧some k_≠(.slice dR dF.length dS:Value).ownBlock)) (by (with_reducible repeat (first|apply Kd.N_alloc|apply Kd.N_drewN|apply Kd.N_drew));exact aH.out) (fun k_ hk_=>(⟨hk_,hk_.1.1.2.2.2.2.2⟩:_∧k_≠g396))) hk (fun _ h=>h.2)) (fun _ h=>h.1));replace aI:=aM (IsS76.rJ aW cD cE (IsS76.mv aD.out) (kr aI.out) hk);replace aJ:=rP hk aJ bJ;replace bG:=aM (IsS76.rJ aW cD cE (IsS76.mv aD.out) (kr bG.out) hk);replace HB:=aM (hb);replace aD:=aM (hi);(repeat first|clear hb|clear hk|clear hi)))
 replace aG:=aM (Kd.R_drew aG.out);replace aH:=aM (Kd.N_drew aH.out);replace aI:=aM (Kd.R_drew aI.out);replace bG:=aM (Kd.R_drew bG.out);replace aA:=aM (blk_drew aA.out);replace aC:=aM (blk_drew aC.out);replace aJ:=aM (blk_drew aJ.out);replace aD:=aM (IsS76.drew aD.out);replace HB:=aM (below_drew1 HB.out);refine start_ (n:=7) (S:=fun w'=>cS3 w' aN (.slice bN aV.length bO) (.slice cK bK.length cL) (.slice bP aX.length bQ)) (ds:=[]) (dn 7 0) (by kernel_rfl) rfl rfl ⟨cI aJ.out 0,cI aJ.out 1,cI aJ.out 2⟩ (fun hHeld=>?_)
 generalize fK.drew=iI at aG aH aI bG aA aC aJ aD HB hHeld ⊢
 refine pure_ (i:=1) (N:=some 24) (v:=?_) (a':=?_) (bv 7 2) rfl rfl (by kernel_rfl) (fun _ _ _ h=>h) (Or.inl ⟨by rfl,?_⟩) ?_ ?_
 rotate_left
 ·intro w'
  go_simp
  with_reducible rfl
 rotate_left
 ·simp only [Act.put,sA,sZ,sS,i64_w,i32_w]
  rfl
 refine pure_ (i:=2) (N:=some 25) (v:=?_) (a':=?_) (bv 7 6) rfl rfl (by kernel_rfl) (fun _ _ _ h=>h) (Or.inl ⟨by rfl,?_⟩) ?_ ?_
 rotate_left
 ·intro w'
  go_simp
  with_reducible rfl
 rotate_left
 ·simp only [Act.put,sA,sZ,sS,i64_w,i32_w]
  rfl
 refine take_ (i:=0) (N:=some 23) (v:=?_) (a':=?_) (bv 7 7) rfl rfl (by kernel_rfl) (fun _ _ _ h=>h) (Or.inl ⟨by rfl,?_⟩) hHeld ?_ ?_
 rotate_left
 ·rintro w' ⟨s0,s1,s2⟩
  go_simp
  with_reducible rfl
 rotate_left
 ·simp only [Act.put,sA,sZ,sS,i64_w,i32_w]
  rfl
 refine one_ (i:=3) (N:=some 26) (bv 7 15) rfl rfl (by kernel_rfl) (by decide) (fun K hK=>?_)
 refine goes_ Try.func25 (by kernel_rfl) rfl #[.pointer (some ⟨g396,0,none⟩)] (by rfl) rfl rfl xR ?_
 with_reducible refine (Z47.calls k g396 aW dG dH cX cY dA dB fB fC w _ ?side1 ?side2 A8.out).mono ?_
 (case side1=>exact IsS76.mv aD.out)
 (case side2=>exact IsS76.bl HB.out)
 rintro e iJ ⟨gS,rfl,ho0,hi,hb,hk⟩;refine ⟨_,rfl,?_⟩;have dW:=aM (Kd.R_lower (Kd.R_newM (M:=fun k_=>(w.heap.size≤k_)) ho0 (below_size (IsS76.bl HB.out)) (fun k_ h_=>h_)) (below_size (IsS76.bl HB.out)))
 replace aA:=rP hk aA bH;replace aC:=rP hk aC bI;replace aG:=aM (IsS76.rJ aW dG dH (IsS76.mv aD.out) (kr aG.out) hk)
 replace aH:=aM (Kd.N_mono (Kd.N_told (Kd.N_oldK (Kd.N_mono (ok:=fun k_=>(((((w.heap.size≤k_))∧(some k_≠(.slice bN aV.length bO:Value).ownBlock∧(some k_≠(.slice bP aX.length bQ:Value).ownBlock∧(k_≠aK∧(k_≠aE∧k_≠g396)))))∧k_≠aN)∧some k_≠(.slice dR dF.length dS:Value).ownBlock)) (by (with_reducible repeat (first|apply Kd.N_alloc|apply Kd.N_drewN|apply Kd.N_drew));exact aH.out) (fun k_ hk_=>(⟨hk_,hk_.1.1.2.2.2.2.2⟩:_∧k_≠g396))) hk) (Kd.R_base ho0)) (fun _ h_=>h_.1))
 replace aI:=aM (IsS76.rJ aW dG dH (IsS76.mv aD.out) (kr aI.out) hk)
 replace aJ:=rP hk aJ bJ;replace bG:=aM (IsS76.rJ aW dG dH (IsS76.mv aD.out) (kr bG.out) hk)
 replace HB:=aM (hb);replace aD:=aM (hi)
 (try clear hb)
 (try clear hk)
 (try clear hi)
 (try clear ho0)
 obtain ⟨dI,dJ,eD⟩:=Kd.R_slice dW.out
 (subst eD)
 refine hK.out _ _ ⟨cI aJ.out 0,cI aJ.out 1,cI aJ.out 2⟩ (fun hHeld=>?_)
 clear hK K;refine norm_ (a':=?_) ?_ ?_;rotate_left
 ·show Act.put _ (some 26) _=_
  simp only [Act.put,sA,sZ,sS,i64_w,i32_w]
  rfl
 refine one_ (i:=4) (N:=none) (bv 7 31) rfl rfl (by kernel_rfl) (by decide) (fun K hK=>?_)
 have gT:=cI aA.out 0;have hfs29:=bF aA.out 0;have gU:=cI aA.out 1;have hfs30:=bF aA.out 1;have gV:=cI aA.out 2;have hfs31:=bF aA.out 2;refine skip_ (w1:=?_) (by rfl) rfl ?_ ?_
 rotate_left
 ·go_simp
  rfl
 refine hK.out _ _ ⟨(cm (hHeld.1)),(cm (hHeld.2.1)),(cm (hHeld.2.2))⟩ (fun hHeld=>?_)
 clear hK K;refine pure_ (i:=5) (N:=some 3) (v:=?_) (a':=?_) (bv 7 63) rfl rfl (by kernel_rfl) (fun _ _ _ h=>h) (Or.inl ⟨by rfl,?_⟩) ?_ ?_
 rotate_left
 ·intro w'
  go_simp
  with_reducible rfl
 rotate_left
 ·simp only [Act.put,sA,sZ,sS,i64_w,i32_w]
  rfl
 refine one_ (i:=6) (N:=none) (bv 7 127) rfl rfl (by kernel_rfl) (by decide) (fun K hK=>?_)
 have gW:=cI aC.out 0;have hfs32:=bF aC.out 0;have gX:=cI aC.out 1;have hfs33:=bF aC.out 1;have gY:=cI aC.out 2;have hfs34:=bF aC.out 2;have gZ:=cI aC.out 3;have hfs36:=bF aC.out 3;have hms36_0:=aT.out;have hms36_2:=bA.out;refine skip_ (w1:=?_) (by rfl) rfl ?_ ?_
 rotate_left
 ·go_simp
  rfl
 refine hK.out _ _ ⟨(cm (hHeld.1)),(cm (hHeld.2.1)),(cm (hHeld.2.2))⟩ (fun hHeld=>?_)
 clear hK K;refine done_ (by kernel_rfl) ?_
 try go_wp2
 refine bodyPost_ret (results_list (rs:=[.cell 2 28,.tmp 3,.cell 4 30]) rfl (by simp) (.cell aK 28 #[.slice bN aV.length bO,.slice cK bK.length cL,.slice bP aX.length bQ] (0,0) _ rfl (bm aA.out) Try.underlying28 rfl (by kernel_rfl) (.tmp (.cell aE 30 #[cX,cY,dA,.slice dI dB.length dJ] (0,0) _ rfl (bm aC.out) Try.underlying30 rfl (by kernel_rfl) .nil)))) rfl ?_
 exact ⟨_,_,_,_,xW,by (with_reducible repeat (first|apply Kd.R_alloc|apply Kd.R_drewN|apply Kd.R_drew));exact Kd.R_mono (rF4 (g:=aE) (rF3 (g:=aK) (Kd.R_types (Kd.R_types aG.out aA.out (by decide)) aC.out (by decide)) (fun _ hk=>hk.1.2) (.slice bN aV.length bO) (.slice cK bK.length cL) (.slice bP aX.length bQ)) (fun _ hk=>hk.2) (.int .i64 cX) (.int .i64 cY) (.int .i64 dA) (.slice dI dB.length dJ)) (fun _ hk=>hk.1.1.1),by (with_reducible repeat (first|apply Kd.N_alloc|apply Kd.N_drewN|apply Kd.N_drew));exact Kd.N_mono (nF4 (g:=aE) (nF3 (g:=aK) (Kd.N_mono (Kd.N_mono aH.out (fun k_ hk=>(⟨hk,hk.1.1.1.2.2.2.1⟩:_∧k_≠aK))) (fun k_ hk=>(⟨hk,hk.1.1.1.1.2.2.2.2.1⟩:_∧k_≠aE))) (fun _ hk=>hk.1.2) (.slice bN aV.length bO) (.slice cK bK.length cL) (.slice bP aX.length bQ)) (fun _ hk=>hk.2) (.int .i64 cX) (.int .i64 cY) (.int .i64 dA) (.slice dI dB.length dJ)) (fun _ hk=>⟨hk.1.1.1.1.1.1,⟨hk.1.1.1.1.1.2.1,⟨hk.1.1.1.1.1.2.2.1,hk.1.1.2⟩⟩⟩),by (with_reducible repeat (first|apply Kd.R_alloc|apply Kd.R_drewN|apply Kd.R_drew));exact Kd.R_mono (rF4 (g:=aE) (rF3 (g:=aK) (Kd.R_types (Kd.R_types aI.out aA.out (by decide)) aC.out (by decide)) (fun _ hk=>hk.1.2) (.slice bN aV.length bO) (.slice cK bK.length cL) (.slice bP aX.length bQ)) (fun _ hk=>hk.2) (.int .i64 cX) (.int .i64 cY) (.int .i64 dA) (.slice dI dB.length dJ)) (fun _ hk=>hk.1.1.1),by (with_reducible repeat (first|apply Kd.R_alloc|apply Kd.R_drewN|apply Kd.R_drew));exact Kd.R_mono (rF4 (g:=aE) (rF3 (g:=aK) (Kd.R_types (Kd.R_types dW.out aA.out (by decide)) aC.out (by decide)) (fun _ hk=>hk.1.2) (.slice bN aV.length bO) (.slice cK bK.length cL) (.slice bP aX.length bQ)) (fun _ hk=>hk.2) (.int .i64 cX) (.int .i64 cY) (.int .i64 dA) (.slice dI dB.length dJ)) (fun _ hk=>hk.1.1.1),IsS76.bl HB.out⟩

end Go.Proofs.Ytjodolkdelffaaa.PFnCards

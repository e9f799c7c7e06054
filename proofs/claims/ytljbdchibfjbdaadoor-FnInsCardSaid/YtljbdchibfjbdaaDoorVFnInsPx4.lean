/- A part of the proof of laws.FnIns. No condition beyond what its theorems say. -/
import Derived.Test.YtljbdchibfjbdaaDoorVFnInsPx1
import Derived.Test.YtljbdchibfjbdaaDoorVFnInsPx3
namespace Go.Proofs.YtljbdchibfjbdaaDoor.PFnIns
open Go.RowKit Go.Proofs.YtljbdchibfjbdaaDoorW.PrintWords Go.Proofs.YtljbdchibfjbdaaDoorW.PrintLast Go.Proofs.YtljbdchibfjbdaaDoorW.PrintMore
set_option linter.unusedVariables false
set_option linter.unusedSimpArgs false

attribute [local go_sem high] eqA25 eqA27
def Z70.f (aE:List Int) (aJ aK:Int):Option (Int × Int × Int × Int × Int × Int × Int × Bool × Int × Int):=(Z51.f aE aJ aK).bind fun aA=>((Z3.f aE aA.2.2.2.2.2.2.2.2.1 aA.2.2.2.2.2.2.2.2.2 12).bind fun aC=>(if aC.1=0 then ((Z3.f aE aC.2.1 aC.2.2 6).bind fun aG=>(some (wrap64 (aG.1 - 1),aA.2.1,aA.2.2.1,aA.2.2.2.1,aA.2.2.2.2.1,aA.2.2.2.2.2.1,aA.2.2.2.2.2.2.1,aA.2.2.2.2.2.2.2.1,aG.2.1,aG.2.2))) else (if aC.1=1 then ((Z18.f aE aC.2.1 aC.2.2 (([(-1),3,4]:List Int))).bind fun aH=>(some (aA.1,aH.1,aA.2.2.1,aA.2.2.2.1,aA.2.2.2.2.1,aA.2.2.2.2.2.1,aA.2.2.2.2.2.2.1,aA.2.2.2.2.2.2.2.1,aH.2.1,aH.2.2))) else (if aC.1=2 then ((Z76.f aE aC.2.1 aC.2.2).bind fun aD=>(some (aA.1,aA.2.1,aD.1,aD.2.1,aD.2.2.1,aD.2.2.2.1,aA.2.2.2.2.2.2.1,aA.2.2.2.2.2.2.2.1,aD.2.2.2.2.1,aD.2.2.2.2.2))) else (if aC.1=3 then ((Z18.f aE aC.2.1 aC.2.2 (([(-1),8,9]:List Int))).bind fun aI=>(some (aA.1,aA.2.1,aA.2.2.1,aA.2.2.2.1,aA.2.2.2.2.1,aA.2.2.2.2.2.1,aI.1,aA.2.2.2.2.2.2.2.1,aI.2.1,aI.2.2))) else (some (aA.1,aA.2.1,aA.2.2.1,aA.2.2.2.1,aA.2.2.2.2.1,aA.2.2.2.2.2.1,aA.2.2.2.2.2.2.1,aA.2.2.2.2.2.2.2.1,aC.2.1,aC.2.2)))))))
set_option maxHeartbeats 60000000 in
set_option maxRecDepth 100000 in
theorem Z70.calls (g:Nat) (aD:List Int) (aV aW r1 r2 r3 r4 r5 r6 r7:Int) (r8:Bool) (r9 cO:Int) (w0 w:World) (hI:IsS96 w0 w g aD aV aW) (hB:Below w0.heap.size w0 w) (h:Z70.f aD aV aW=some (r1,r2,r3,r4,r5,r6,r7,r8,r9,cO)) :
  Calls Tryd.prog 43 #[.pointer (some ⟨g,0,none⟩)] w fun e w'=>e=.returned (.agg #[r1,r2,r3,r4,r5,r6,r7,r8])∧IsS96 w0 w' g aD r9 cO∧Below w0.heap.size w0 w'∧KeepBut w w' g none:=by
 have gB:=Tryd.underlying27;have gG:=Tryd.underlying25;have aC:=aM hI;have HK:=aM (KeepBut.refl w g none);have HL:=aM hB.size;clear hI;have HW0:=aM hB.size;have HB:=aM hB;clear hB;have H:((Z51.f aD aV aW).bind fun aG=>((Z3.f aD aG.2.2.2.2.2.2.2.2.1 aG.2.2.2.2.2.2.2.2.2 12).bind fun aX=>(if aX.1=0 then ((Z3.f aD aX.2.1 aX.2.2 6).bind fun cN=>(some (wrap64 (cN.1 - 1),aG.2.1,aG.2.2.1,aG.2.2.2.1,aG.2.2.2.2.1,aG.2.2.2.2.2.1,aG.2.2.2.2.2.2.1,aG.2.2.2.2.2.2.2.1,cN.2.1,cN.2.2))) else (if aX.1=1 then ((Z18.f aD aX.2.1 aX.2.2 (([(-1),3,4]:List Int))).bind fun bW=>(some (aG.1,bW.1,aG.2.2.1,aG.2.2.2.1,aG.2.2.2.2.1,aG.2.2.2.2.2.1,aG.2.2.2.2.2.2.1,aG.2.2.2.2.2.2.2.1,bW.2.1,bW.2.2))) else (if aX.1=2 then ((Z76.f aD aX.2.1 aX.2.2).bind fun bY=>(some (aG.1,aG.2.1,bY.1,bY.2.1,bY.2.2.1,bY.2.2.2.1,aG.2.2.2.2.2.2.1,aG.2.2.2.2.2.2.2.1,bY.2.2.2.2.1,bY.2.2.2.2.2))) else (if aX.1=3 then ((Z18.f aD aX.2.1 aX.2.2 (([(-1),8,9]:List Int))).bind fun bX=>(some (aG.1,aG.2.1,aG.2.2.1,aG.2.2.2.1,aG.2.2.2.2.1,aG.2.2.2.2.2.1,bX.1,aG.2.2.2.2.2.2.2.1,bX.2.1,bX.2.2))) else (some (aG.1,aG.2.1,aG.2.2.1,aG.2.2.2.1,aG.2.2.2.2.1,aG.2.2.2.2.2.1,aG.2.2.2.2.2.2.1,aG.2.2.2.2.2.2.2.1,aX.2.1,aX.2.2))))))))=some (r1,r2,r3,r4,r5,r6,r7,r8,r9,cO):=h
 clear h;obtain ⟨⟨bH,bM,bI,bJ,bK,bL,bN,bA,aQ,aT⟩,dK,H⟩:=hB H
 try dsimp only at H
 have A2:=aM dK;clear dK;obtain ⟨⟨aJ,bO,bP⟩,dL,H⟩:=hB H
 try dsimp only at H
 have A3:=aM dL;clear dL
 by_cases c4:aJ=0
 case pos =>
  rw [if_pos c4] at H
  have dN:(aJ == 0)=true:=beq_iff_eq.mpr c4;have dO:(aJ != 0)=false:=bne_eq_false_iff_eq.mpr c4;clear c4;obtain ⟨⟨cT,dP,dQ⟩,dM,H⟩:=hB H
  try dsimp only at H
  have A5:=aM dM;clear dM;simp only [Option.some.injEq,Prod.mk.injEq] at H;obtain ⟨rfl,rfl,rfl,rfl,rfl,rfl,rfl,rfl,rfl,rfl⟩:=H;go_enter Tryd.func43,Tryd.ntmps43
  go_wp2_with (first|((with_reducible refine gD (N:=2) rfl ?_);refine bE (N:=2) (cs:=#[.int .i64 0,.int .i64 0,.int .i64 0,.int .i64 0,.int .i64 0,.int .i64 0,.int .i64 0,.bool false]) (t:=27) ?_;intro bQ hg w6 hbox hb;have aA:=aM (hbox);have cC:=gE hg (keep_size (km HK.out));have cD:=gE2 HW0.out hg (keep_size (km HK.out));have bD:=nL hg (IsS96.lt (show IsS96 w0 _ g aD aV aW from IsS96.mv aC.out));have aH:=nG hg (IsS96.lt (show IsS96 w0 _ g aD aV aW from IsS96.mv aC.out));replace aC:=aM (IsS96.below (IsS96.mv aC.out) hb);replace HK:=rU HK hb;replace HB:=aM (bS (IsS96.bl HB.out) hb);clear hb hbox hg)|((with_reducible refine gC (f:=49) rfl ?_);refine goesL_ (some 5) rfl rfl Tryd.func49 (by kernel_rfl) rfl #[.pointer (some ⟨g,0,none⟩)] rfl xR ?_;(with_reducible refine (Z51.calls g aD aV aW bH bM bI bJ bK bL bN bA aQ aT w0 _ ?side1 ?side2 A2.out).mono ?_);(case side1=>exact IsS96.mv aC.out);(case side2=>exact IsS96.bl HB.out);rintro e w7 ⟨rfl,hi,hb,hk⟩;refine ⟨_,rfl,?_⟩;replace aA:=rP hk aA aH;replace HK:=aM (KeepBut.trans (km HK.out) hk (.inl rfl));replace HB:=aM (hb);replace aC:=aM (hi);(repeat first|clear hb|clear hk|clear hi))|((with_reducible refine gD (N:=3) rfl ?_);refine bE (N:=3) (cs:=#[.int .i64 0,.int .i64 0,.int .i64 0,.int .i64 0,.int .i64 0,.int .i64 0,.int .i64 0,.bool false]) (t:=27) ?_;intro bT hg w8 hbox hb;have aE:=aM (hbox);have cE:=gE hg (keep_size (km HK.out));have cG:=gE2 HW0.out hg (keep_size (km HK.out));have aK:=nM hg aA;have aN:=nH hg aA;have bG:=nL hg (IsS96.lt (show IsS96 w0 _ g aD aQ aT from IsS96.mv aC.out));have aI:=nG hg (IsS96.lt (show IsS96 w0 _ g aD aQ aT from IsS96.mv aC.out));replace aC:=aM (IsS96.below (IsS96.mv aC.out) hb);replace aA:=rB aA hb;replace HK:=rU HK hb;replace HB:=aM (bS (IsS96.bl HB.out) hb);clear hb hbox hg;have gH:=aN.out;have gJ:=aK.out;have eH:=aI.out;have eI:=bG.out;have eJ:=cA8 aE.out)|((with_reducible refine gC (f:=60) rfl ?_);refine goesL_ (some 7) rfl rfl Tryd.func60 (by kernel_rfl) rfl #[.pointer (some ⟨g,0,none⟩),.int .i64 12] rfl xR ?_;(with_reducible refine (Z3.calls g aD aQ aT 12 aJ bO bP w0 _ ?side1 ?side2 A3.out).mono ?_);(case side1=>exact IsS96.mv aC.out);(case side2=>exact IsS96.bl HB.out);rintro e gO ⟨rfl,hi,hb,hk⟩;refine ⟨_,rfl,?_⟩;replace aA:=aM (KeepBut.blk hk (fm aA.out) aH.out (by simp));replace aE:=aM (KeepBut.blk hk (g':=bT) (o:=.cells #[bH,bM,bI,bJ,bK,bL,bN,bA] 27 (0,0)) (bm aE.out) aI.out (by simp));replace HK:=aM (KeepBut.trans (km HK.out) hk (.inl rfl));replace HB:=aM (hb);replace aC:=aM (hi);(repeat first|clear hb|clear hk|clear hi))|((with_reducible refine gC (f:=60) rfl ?_);refine goesL_ (some 11) rfl rfl Tryd.func60 (by kernel_rfl) rfl #[.pointer (some ⟨g,0,none⟩),.int .i64 6] rfl xR ?_;(with_reducible refine (Z3.calls g aD bO bP 6 cT dP dQ w0 _ ?side1 ?side2 A5.out).mono ?_);(case side1=>exact IsS96.mv aC.out);(case side2=>exact IsS96.bl HB.out);rintro e gP ⟨rfl,hi,hb,hk⟩;refine ⟨_,rfl,?_⟩;replace aA:=rP hk aA aH;replace aE:=rP hk aE aI;replace HK:=aM (KeepBut.trans (km HK.out) hk (.inl rfl));replace HB:=aM (hb);replace aC:=aM (hi);(repeat first|clear hb|clear hk|clear hi);have eK:=cA8 aE.out;have eL:=aH.out;have eM:=bD.out;have eN:=cA8 aA.out))
  refine bodyPost_ret (results_cell_row rfl _ _ bQ 27 #[.int .i64 (wrap64 (cT - 1)),bM,bI,bJ,bK,bL,bN,bA] (0,0) _ rfl (bm aA.out) Tryd.underlying27 rfl (by kernel_rfl)) rfl ?_
  exact ⟨xW,IsS96.mv aC.out,IsS96.bl HB.out,km HK.out⟩
 rw [if_neg c4] at H
 have dN:(aJ == 0)=false:=beq_eq_false_iff_ne.mpr c4;have dO:(aJ != 0)=true:=bne_iff_ne.mpr c4
 by_cases cH:aJ=1
 case pos =>
  rw [if_pos cH] at H
  have dE:(aJ == 1)=true:=beq_iff_eq.mpr cH;have dF:(aJ != 1)=false:=bne_eq_false_iff_eq.mpr cH;clear cH;obtain ⟨cP,bZ⟩:∃ y_:List Int,y_=(([(-1),3,4]:List Int)):=⟨_,rfl⟩;replace H:((Z18.f aD bO bP cP).bind fun bW=>(some (bH,bW.1,bI,bJ,bK,bL,bN,bA,bW.2.1,bW.2.2)))=some (r1,r2,r3,r4,r5,r6,r7,r8,r9,cO):=by (rw [bZ];with_reducible exact H)
  have cR:=aM bZ;clear bZ;obtain ⟨⟨cU,dR,dS⟩,cV,H⟩:=hB H
  try dsimp only at H
  have eE:=aM cV;clear cV;simp only [Option.some.injEq,Prod.mk.injEq] at H;obtain ⟨rfl,rfl,rfl,rfl,rfl,rfl,rfl,rfl,rfl,rfl⟩:=H;go_enter Tryd.func43,Tryd.ntmps43
  go_wp2_with (first|((with_reducible refine gD (N:=2) rfl ?_);refine bE (N:=2) (cs:=#[.int .i64 0,.int .i64 0,.int .i64 0,.int .i64 0,.int .i64 0,.int .i64 0,.int .i64 0,.bool false]) (t:=27) ?_;intro bQ hg gQ hbox hb;have aA:=aM (hbox);have cC:=gE hg (keep_size (km HK.out));have cD:=gE2 HW0.out hg (keep_size (km HK.out));have bD:=nL hg (IsS96.lt (show IsS96 w0 _ g aD aV aW from IsS96.mv aC.out));have aH:=nG hg (IsS96.lt (show IsS96 w0 _ g aD aV aW from IsS96.mv aC.out));replace aC:=aM (IsS96.below (IsS96.mv aC.out) hb);replace HK:=rU HK hb;replace HB:=aM (bS (IsS96.bl HB.out) hb);clear hb hbox hg)|((with_reducible refine gC (f:=49) rfl ?_);refine goesL_ (some 5) rfl rfl Tryd.func49 (by kernel_rfl) rfl #[.pointer (some ⟨g,0,none⟩)] rfl xR ?_;(with_reducible refine (Z51.calls g aD aV aW bH bM bI bJ bK bL bN bA aQ aT w0 _ ?side1 ?side2 A2.out).mono ?_);(case side1=>exact IsS96.mv aC.out);(case side2=>exact IsS96.bl HB.out);rintro e gR ⟨rfl,hi,hb,hk⟩;refine ⟨_,rfl,?_⟩;replace aA:=rP hk aA aH;replace HK:=aM (KeepBut.trans (km HK.out) hk (.inl rfl));replace HB:=aM (hb);replace aC:=aM (hi);(repeat first|clear hb|clear hk|clear hi))|((with_reducible refine gD (N:=3) rfl ?_);refine bE (N:=3) (cs:=#[.int .i64 0,.int .i64 0,.int .i64 0,.int .i64 0,.int .i64 0,.int .i64 0,.int .i64 0,.bool false]) (t:=27) ?_;intro bT hg gS hbox hb;have aE:=aM (hbox);have cE:=gE hg (keep_size (km HK.out));have cG:=gE2 HW0.out hg (keep_size (km HK.out));have aK:=nM hg aA;have aN:=nH hg aA;have bG:=nL hg (IsS96.lt (show IsS96 w0 _ g aD aQ aT from IsS96.mv aC.out));have aI:=nG hg (IsS96.lt (show IsS96 w0 _ g aD aQ aT from IsS96.mv aC.out));replace aC:=aM (IsS96.below (IsS96.mv aC.out) hb);replace aA:=rB aA hb;replace HK:=rU HK hb;replace HB:=aM (bS (IsS96.bl HB.out) hb);clear hb hbox hg;have eO:=aN.out;have eP:=aK.out;have eQ:=aI.out;have eR:=bG.out;have eS:=cA8 aE.out)|((with_reducible refine gC (f:=60) rfl ?_);refine goesL_ (some 7) rfl rfl Tryd.func60 (by kernel_rfl) rfl #[.pointer (some ⟨g,0,none⟩),.int .i64 12] rfl xR ?_;(with_reducible refine (Z3.calls g aD aQ aT 12 aJ bO bP w0 _ ?side1 ?side2 A3.out).mono ?_);(case side1=>exact IsS96.mv aC.out);(case side2=>exact IsS96.bl HB.out);rintro e gT ⟨rfl,hi,hb,hk⟩;refine ⟨_,rfl,?_⟩;replace aA:=aM (KeepBut.blk hk (fm aA.out) aH.out (by simp));replace aE:=aM (KeepBut.blk hk (g':=bT) (o:=.cells #[bH,bM,bI,bJ,bK,bL,bN,bA] 27 (0,0)) (bm aE.out) aI.out (by simp));replace HK:=aM (KeepBut.trans (km HK.out) hk (.inl rfl));replace HB:=aM (hb);replace aC:=aM (hi);(repeat first|clear hb|clear hk|clear hi))|((with_reducible refine gD (N:=17) rfl ?_);refine Kd.R_lit (Kd.int .i64) _ 3 ?hg (N:=17) ?hd (xs:=([(-1),3,4]:List Int)) (inner:=[.int .i64 (-1),.int .i64 3,.int .i64 4]) (ok:=fun _=>True) (okp:=fun _=>True) ?hr ?hp (fun _ hk=>hk) trivial (Below.refl _ _) (Nat.le_refl _) (by simp) ?_;(case hd=>rfl);(case hg=>rfl);(case hr=>(go_simp;done));(case hp=>exact (Reps.one (show Kd.M (Kd.int .i64) _ _ _ (-1) [.int .i64 (-1)] from rfl) (Reps.one (show Kd.M (Kd.int .i64) _ _ _ 3 [.int .i64 3] from rfl) (Reps.one (show Kd.M (Kd.int .i64) _ _ _ 4 [.int .i64 4] from rfl) (Reps.none _ _)))));intro gK gU ho27 hb hg_ hnew_;clear hg_ hnew_;(rw [← cR.out] at ho27);have bU:=aM (Kd.R_lower ho27 (keep_size (km HK.out)));replace aC:=aM (IsS96.below (IsS96.mv aC.out) hb);replace aA:=rB aA hb;replace aE:=rB aE hb;replace HK:=rU HK hb;replace HB:=aM (bS (IsS96.bl HB.out) hb);clear hb ho27;obtain ⟨dU,dV,dW⟩:=Kd.R_slice bU.out;subst dW)|((with_reducible refine gC (f:=51) rfl ?_);refine goesL_ (some 18) rfl rfl Tryd.func51 (by kernel_rfl) rfl #[.pointer (some ⟨g,0,none⟩),.slice dU cP.length dV] rfl xR ?_;(with_reducible refine (Z18.calls g aD bO bP _ _ cP cU dR dS w0 _ ?side1 ?side2 ?side3 ?side4 ?side5 eE.out).mono ?_);(case side1=>exact IsS96.mv aC.out);(case side2=>exact IsS96.bl HB.out);(case side3=>exact cM ((Kd.R_reads' bU.out).2.2));(case side4=>exact (Kd.R_reads' bU.out).2.1);(case side5=>exact far_slice (IsS96.own_ne aC.out bU.out (by decide)));rintro e gV ⟨rfl,hi,hb,hk⟩;refine ⟨_,rfl,?_⟩;replace aA:=rP hk aA aH;replace aE:=rP hk aE aI;replace bU:=aM (IsS96.rJ aD bO bP (IsS96.mv aC.out) (kr bU.out) hk);replace HK:=aM (KeepBut.trans (km HK.out) hk (.inl rfl));replace HB:=aM (hb);replace aC:=aM (hi);(repeat first|clear hb|clear hk|clear hi);have eT:=cA8 aE.out;have eU:=aH.out;have eV:=bD.out;have eW:=cA8 aA.out))
  refine bodyPost_ret (results_cell_row rfl _ _ bQ 27 #[bH,cU,bI,bJ,bK,bL,bN,bA] (0,0) _ rfl (bm aA.out) Tryd.underlying27 rfl (by kernel_rfl)) rfl ?_
  exact ⟨xW,IsS96.mv aC.out,IsS96.bl HB.out,km HK.out⟩
 rw [if_neg cH] at H
 have dE:(aJ == 1)=false:=beq_eq_false_iff_ne.mpr cH;have dF:(aJ != 1)=true:=bne_iff_ne.mpr cH
 by_cases cK:aJ=2
 case pos =>
  rw [if_pos cK] at H
  have dG:(aJ == 2)=true:=beq_iff_eq.mpr cK;have dH:(aJ != 2)=false:=bne_eq_false_iff_eq.mpr cK;clear cK;obtain ⟨⟨cW,cX,cY,dA,dX,dY⟩,dB,H⟩:=hB H
  try dsimp only at H
  have eF:=aM dB;clear dB;simp only [Option.some.injEq,Prod.mk.injEq] at H;obtain ⟨rfl,rfl,rfl,rfl,rfl,rfl,rfl,rfl,rfl,rfl⟩:=H;go_enter Tryd.func43,Tryd.ntmps43
  go_wp2_with (first|((with_reducible refine gD (N:=2) rfl ?_);refine bE (N:=2) (cs:=#[.int .i64 0,.int .i64 0,.int .i64 0,.int .i64 0,.int .i64 0,.int .i64 0,.int .i64 0,.bool false]) (t:=27) ?_;intro bQ hg gW hbox hb;have aA:=aM (hbox);have cC:=gE hg (keep_size (km HK.out));have cD:=gE2 HW0.out hg (keep_size (km HK.out));have bD:=nL hg (IsS96.lt (show IsS96 w0 _ g aD aV aW from IsS96.mv aC.out));have aH:=nG hg (IsS96.lt (show IsS96 w0 _ g aD aV aW from IsS96.mv aC.out));replace aC:=aM (IsS96.below (IsS96.mv aC.out) hb);replace HK:=rU HK hb;replace HB:=aM (bS (IsS96.bl HB.out) hb);clear hb hbox hg)|((with_reducible refine gC (f:=49) rfl ?_);refine goesL_ (some 5) rfl rfl Tryd.func49 (by kernel_rfl) rfl #[.pointer (some ⟨g,0,none⟩)] rfl xR ?_;(with_reducible refine (Z51.calls g aD aV aW bH bM bI bJ bK bL bN bA aQ aT w0 _ ?side1 ?side2 A2.out).mono ?_);(case side1=>exact IsS96.mv aC.out);(case side2=>exact IsS96.bl HB.out);rintro e gX ⟨rfl,hi,hb,hk⟩;refine ⟨_,rfl,?_⟩;replace aA:=rP hk aA aH;replace HK:=aM (KeepBut.trans (km HK.out) hk (.inl rfl));replace HB:=aM (hb);replace aC:=aM (hi);(repeat first|clear hb|clear hk|clear hi))|((with_reducible refine gD (N:=3) rfl ?_);refine bE (N:=3) (cs:=#[.int .i64 0,.int .i64 0,.int .i64 0,.int .i64 0,.int .i64 0,.int .i64 0,.int .i64 0,.bool false]) (t:=27) ?_;intro bT hg gY hbox hb;have aE:=aM (hbox);have cE:=gE hg (keep_size (km HK.out));have cG:=gE2 HW0.out hg (keep_size (km HK.out));have aK:=nM hg aA;have aN:=nH hg aA;have bG:=nL hg (IsS96.lt (show IsS96 w0 _ g aD aQ aT from IsS96.mv aC.out));have aI:=nG hg (IsS96.lt (show IsS96 w0 _ g aD aQ aT from IsS96.mv aC.out));replace aC:=aM (IsS96.below (IsS96.mv aC.out) hb);replace aA:=rB aA hb;replace HK:=rU HK hb;replace HB:=aM (bS (IsS96.bl HB.out) hb);clear hb hbox hg;have eX:=aN.out;have eY:=aK.out;have eZ:=aI.out;have fA:=bG.out;have fB:=cA8 aE.out)|((with_reducible refine gC (f:=60) rfl ?_);refine goesL_ (some 7) rfl rfl Tryd.func60 (by kernel_rfl) rfl #[.pointer (some ⟨g,0,none⟩),.int .i64 12] rfl xR ?_;(with_reducible refine (Z3.calls g aD aQ aT 12 aJ bO bP w0 _ ?side1 ?side2 A3.out).mono ?_);(case side1=>exact IsS96.mv aC.out);(case side2=>exact IsS96.bl HB.out);rintro e gZ ⟨rfl,hi,hb,hk⟩;refine ⟨_,rfl,?_⟩;replace aA:=aM (KeepBut.blk hk (fm aA.out) aH.out (by simp));replace aE:=aM (KeepBut.blk hk (g':=bT) (o:=.cells #[bH,bM,bI,bJ,bK,bL,bN,bA] 27 (0,0)) (bm aE.out) aI.out (by simp));replace HK:=aM (KeepBut.trans (km HK.out) hk (.inl rfl));replace HB:=aM (hb);replace aC:=aM (hi);(repeat first|clear hb|clear hk|clear hi))|((with_reducible refine gC (f:=75) rfl ?_);refine goesL_ (some 23) rfl rfl Tryd.func75 (by kernel_rfl) rfl #[.pointer (some ⟨g,0,none⟩)] rfl xR ?_;(with_reducible refine (Z76.calls g aD bO bP cW cX cY dA dX dY w0 _ ?side1 ?side2 eF.out).mono ?_);(case side1=>exact IsS96.mv aC.out);(case side2=>exact IsS96.bl HB.out);rintro e hD ⟨rfl,hi,hb,hk⟩;refine ⟨_,rfl,?_⟩;replace aA:=rP hk aA aH;replace aE:=rP hk aE aI;replace HK:=aM (KeepBut.trans (km HK.out) hk (.inl rfl));replace HB:=aM (hb);replace aC:=aM (hi);(repeat first|clear hb|clear hk|clear hi);have fC:=cA8 aE.out;have fD:=aH.out;have fE:=bD.out;have fF:=cA8 aA.out))
  refine bodyPost_ret (results_cell_row rfl _ _ bQ 27 #[bH,bM,cW,cX,cY,dA,bN,bA] (0,0) _ rfl (bm aA.out) Tryd.underlying27 rfl (by kernel_rfl)) rfl ?_
  exact ⟨xW,IsS96.mv aC.out,IsS96.bl HB.out,km HK.out⟩
 rw [if_neg cK] at H
 have dG:(aJ == 2)=false:=beq_eq_false_iff_ne.mpr cK;have dH:(aJ != 2)=true:=bne_iff_ne.mpr cK
 by_cases cL:aJ=3
 case neg =>
  rw [if_neg cL] at H
  have dI:(aJ == 3)=false:=beq_eq_false_iff_ne.mpr cL;have dJ:(aJ != 3)=true:=bne_iff_ne.mpr cL;simp only [Option.some.injEq,Prod.mk.injEq] at H;obtain ⟨rfl,rfl,rfl,rfl,rfl,rfl,rfl,rfl,rfl,rfl⟩:=H;go_enter Tryd.func43,Tryd.ntmps43
  go_wp2_with (first|((with_reducible refine gD (N:=2) rfl ?_);refine bE (N:=2) (cs:=#[.int .i64 0,.int .i64 0,.int .i64 0,.int .i64 0,.int .i64 0,.int .i64 0,.int .i64 0,.bool false]) (t:=27) ?_;intro bQ hg hH hbox hb;have aA:=aM (hbox);have cC:=gE hg (keep_size (km HK.out));have cD:=gE2 HW0.out hg (keep_size (km HK.out));have bD:=nL hg (IsS96.lt (show IsS96 w0 _ g aD aV aW from IsS96.mv aC.out));have aH:=nG hg (IsS96.lt (show IsS96 w0 _ g aD aV aW from IsS96.mv aC.out));replace aC:=aM (IsS96.below (IsS96.mv aC.out) hb);replace HK:=rU HK hb;replace HB:=aM (bS (IsS96.bl HB.out) hb);clear hb hbox hg)|((with_reducible refine gC (f:=49) rfl ?_);refine goesL_ (some 5) rfl rfl Tryd.func49 (by kernel_rfl) rfl #[.pointer (some ⟨g,0,none⟩)] rfl xR ?_;(with_reducible refine (Z51.calls g aD aV aW bH bM bI bJ bK bL bN bA aQ aT w0 _ ?side1 ?side2 A2.out).mono ?_);(case side1=>exact IsS96.mv aC.out);(case side2=>exact IsS96.bl HB.out);rintro e hJ ⟨rfl,hi,hb,hk⟩;refine ⟨_,rfl,?_⟩;replace aA:=rP hk aA aH;replace HK:=aM (KeepBut.trans (km HK.out) hk (.inl rfl));replace HB:=aM (hb);replace aC:=aM (hi);(repeat first|clear hb|clear hk|clear hi))|((with_reducible refine gD (N:=3) rfl ?_);refine bE (N:=3) (cs:=#[.int .i64 0,.int .i64 0,.int .i64 0,.int .i64 0,.int .i64 0,.int .i64 0,.int .i64 0,.bool false]) (t:=27) ?_;intro bT hg hO hbox hb;have aE:=aM (hbox);have cE:=gE hg (keep_size (km HK.out));have cG:=gE2 HW0.out hg (keep_size (km HK.out));have aK:=nM hg aA;have aN:=nH hg aA;have bG:=nL hg (IsS96.lt (show IsS96 w0 _ g aD aQ aT from IsS96.mv aC.out));have aI:=nG hg (IsS96.lt (show IsS96 w0 _ g aD aQ aT from IsS96.mv aC.out));replace aC:=aM (IsS96.below (IsS96.mv aC.out) hb);replace aA:=rB aA hb;replace HK:=rU HK hb;replace HB:=aM (bS (IsS96.bl HB.out) hb);clear hb hbox hg;have fG:=aN.out;have fH:=aK.out;have fI:=aI.out;have fK:=bG.out;have fL:=cA8 aE.out)|((with_reducible refine gC (f:=60) rfl ?_);refine goesL_ (some 7) rfl rfl Tryd.func60 (by kernel_rfl) rfl #[.pointer (some ⟨g,0,none⟩),.int .i64 12] rfl xR ?_;(with_reducible refine (Z3.calls g aD aQ aT 12 aJ bO bP w0 _ ?side1 ?side2 A3.out).mono ?_);(case side1=>exact IsS96.mv aC.out);(case side2=>exact IsS96.bl HB.out);rintro e hU ⟨rfl,hi,hb,hk⟩;refine ⟨_,rfl,?_⟩;replace aA:=aM (KeepBut.blk hk (fm aA.out) aH.out (by simp));replace aE:=aM (KeepBut.blk hk (g':=bT) (o:=.cells #[bH,bM,bI,bJ,bK,bL,bN,bA] 27 (0,0)) (bm aE.out) aI.out (by simp));replace HK:=aM (KeepBut.trans (km HK.out) hk (.inl rfl));replace HB:=aM (hb);replace aC:=aM (hi);(repeat first|clear hb|clear hk|clear hi);have fM:=cA8 aE.out;have fN:=aH.out;have fO:=bD.out;have fP:=cA8 aA.out))
  refine bodyPost_ret (results_cell_row rfl _ _ bQ 27 #[bH,bM,bI,bJ,bK,bL,bN,bA] (0,0) _ rfl (bm aA.out) Tryd.underlying27 rfl (by kernel_rfl)) rfl ?_
  exact ⟨xW,IsS96.mv aC.out,IsS96.bl HB.out,km HK.out⟩
 rw [if_pos cL] at H
 have dI:(aJ == 3)=true:=beq_iff_eq.mpr cL;have dJ:(aJ != 3)=false:=bne_eq_false_iff_eq.mpr cL;clear cL;obtain ⟨cQ,cA⟩:∃ y_:List Int,y_=(([(-1),8,9]:List Int)):=⟨_,rfl⟩;replace H:((Z18.f aD bO bP cQ).bind fun bX=>(some (bH,bM,bI,bJ,bK,bL,bX.1,bA,bX.2.1,bX.2.2)))=some (r1,r2,r3,r4,r5,r6,r7,r8,r9,cO):=by (rw [cA];with_reducible exact H)
 have cS:=aM cA;clear cA;obtain ⟨⟨dC,dZ,eA⟩,dD,H⟩:=hB H
 try dsimp only at H
 have eG:=aM dD;clear dD;simp only [Option.some.injEq,Prod.mk.injEq] at H;obtain ⟨rfl,rfl,rfl,rfl,rfl,rfl,rfl,rfl,rfl,rfl⟩:=H;go_enter Tryd.func43,Tryd.ntmps43
 go_wp2_with (first|((with_reducible refine gD (N:=2) rfl ?_);refine bE (N:=2) (cs:=#[.int .i64 0,.int .i64 0,.int .i64 0,.int .i64 0,.int .i64 0,.int .i64 0,.int .i64 0,.bool false]) (t:=27) ?_;intro bQ hg hX hbox hb;have aA:=aM (hbox);have cC:=gE hg (keep_size (km HK.out));have cD:=gE2 HW0.out hg (keep_size (km HK.out));have bD:=nL hg (IsS96.lt (show IsS96 w0 _ g aD aV aW from IsS96.mv aC.out));have aH:=nG hg (IsS96.lt (show IsS96 w0 _ g aD aV aW from IsS96.mv aC.out));replace aC:=aM (IsS96.below (IsS96.mv aC.out) hb);replace HK:=rU HK hb;replace HB:=aM (bS (IsS96.bl HB.out) hb);clear hb hbox hg)|((with_reducible refine gC (f:=49) rfl ?_);refine goesL_ (some 5) rfl rfl Tryd.func49 (by kernel_rfl) rfl #[.pointer (some ⟨g,0,none⟩)] rfl xR ?_;(with_reducible refine (Z51.calls g aD aV aW bH bM bI bJ bK bL bN bA aQ aT w0 _ ?side1 ?side2 A2.out).mono ?_);(case side1=>exact IsS96.mv aC.out);(case side2=>exact IsS96.bl HB.out);rintro e hY ⟨rfl,hi,hb,hk⟩;refine ⟨_,rfl,?_⟩;replace aA:=rP hk aA aH;replace HK:=aM (KeepBut.trans (km HK.out) hk (.inl rfl));replace HB:=aM (hb);replace aC:=aM (hi);(repeat first|clear hb|clear hk|clear hi))|((with_reducible refine gD (N:=3) rfl ?_);refine bE (N:=3) (cs:=#[.int .i64 0,.int .i64 0,.int .i64 0,.int .i64 0,.int .i64 0,.int .i64 0,.int .i64 0,.bool false]) (t:=27) ?_;intro bT hg hZ hbox hb;have aE:=aM (hbox);have cE:=gE hg (keep_size (km HK.out));have cG:=gE2 HW0.out hg (keep_size (km HK.out));have aK:=nM hg aA;have aN:=nH hg aA;have bG:=nL hg (IsS96.lt (show IsS96 w0 _ g aD aQ aT from IsS96.mv aC.out));have aI:=nG hg (IsS96.lt (show IsS96 w0 _ g aD aQ aT from IsS96.mv aC.out));replace aC:=aM (IsS96.below (IsS96.mv aC.out) hb);replace aA:=rB aA hb;replace HK:=rU HK hb;replace HB:=aM (bS (IsS96.bl HB.out) hb);clear hb hbox hg;have fQ:=aN.out;have fS:=aK.out;have fT:=aI.out;have fU:=bG.out;have fV:=cA8 aE.out)|((with_reducible refine gC (f:=60) rfl ?_);refine goesL_ (some 7) rfl rfl Tryd.func60 (by kernel_rfl) rfl #[.pointer (some ⟨g,0,none⟩),.int .i64 12] rfl xR ?_;(with_reducible refine (Z3.calls g aD aQ aT 12 aJ bO bP w0 _ ?side1 ?side2 A3.out).mono ?_);(case side1=>exact IsS96.mv aC.out);(case side2=>exact IsS96.bl HB.out);rintro e iA ⟨rfl,hi,hb,hk⟩;refine ⟨_,rfl,?_⟩;replace aA:=aM (KeepBut.blk hk (fm aA.out) aH.out (by simp));replace aE:=aM (KeepBut.blk hk (g':=bT) (o:=.cells #[bH,bM,bI,bJ,bK,bL,bN,bA] 27 (0,0)) (bm aE.out) aI.out (by simp));replace HK:=aM (KeepBut.trans (km HK.out) hk (.inl rfl));replace HB:=aM (hb);replace aC:=aM (hi);(repeat first|clear hb|clear hk|clear hi))|((with_reducible refine gD (N:=28) rfl ?_);refine Kd.R_lit (Kd.int .i64) _ 3 ?hg (N:=28) ?hd (xs:=([(-1),8,9]:List Int)) (inner:=[.int .i64 (-1),.int .i64 8,.int .i64 9]) (ok:=fun _=>True) (okp:=fun _=>True) ?hr ?hp (fun _ hk=>hk) trivial (Below.refl _ _) (Nat.le_refl _) (by simp) ?_;(case hd=>rfl);(case hg=>rfl);(case hr=>(go_simp;done));(case hp=>exact (Reps.one (show Kd.M (Kd.int .i64) _ _ _ (-1) [.int .i64 (-1)] from rfl) (Reps.one (show Kd.M (Kd.int .i64) _ _ _ 8 [.int .i64 8] from rfl) (Reps.one (show Kd.M (Kd.int .i64) _ _ _ 9 [.int .i64 9] from rfl) (Reps.none _ _)))));intro gM iB ho56 hb hg_ hnew_;clear hg_ hnew_;(rw [← cS.out] at ho56);have bV:=aM (Kd.R_lower ho56 (keep_size (km HK.out)));replace aC:=aM (IsS96.below (IsS96.mv aC.out) hb);replace aA:=rB aA hb;replace aE:=rB aE hb;replace HK:=rU HK hb;replace HB:=aM (bS (IsS96.bl HB.out) hb);clear hb ho56;obtain ⟨eB,eC,eD⟩:=Kd.R_slice bV.out;subst eD)|((with_reducible refine gC (f:=51) rfl ?_);refine goesL_ (some 29) rfl rfl Tryd.func51 (by kernel_rfl) rfl #[.pointer (some ⟨g,0,none⟩),.slice eB cQ.length eC] rfl xR ?_;(with_reducible refine (Z18.calls g aD bO bP _ _ cQ dC dZ eA w0 _ ?side1 ?side2 ?side3 ?side4 ?side5 eG.out).mono ?_);(case side1=>exact IsS96.mv aC.out);(case side2=>exact IsS96.bl HB.out);(case side3=>exact cM ((Kd.R_reads' bV.out).2.2));(case side4=>exact (Kd.R_reads' bV.out).2.1);(case side5=>exact far_slice (IsS96.own_ne aC.out bV.out (by decide)));rintro e iC ⟨rfl,hi,hb,hk⟩;refine ⟨_,rfl,?_⟩;replace aA:=rP hk aA aH;replace aE:=rP hk aE aI;replace bV:=aM (IsS96.rJ aD bO bP (IsS96.mv aC.out) (kr bV.out) hk);replace HK:=aM (KeepBut.trans (km HK.out) hk (.inl rfl));replace HB:=aM (hb);replace aC:=aM (hi);(repeat first|clear hb|clear hk|clear hi);have fW:=cA8 aE.out;have fX:=aH.out;have fY:=bD.out;have gA:=cA8 aA.out))
 refine bodyPost_ret (results_cell_row rfl _ _ bQ 27 #[bH,bM,bI,bJ,bK,bL,dC,bA] (0,0) _ rfl (bm aA.out) Tryd.underlying27 rfl (by kernel_rfl)) rfl ?_
 exact ⟨xW,IsS96.mv aC.out,IsS96.bl HB.out,km HK.out⟩

def Z16.l0:Nat→List Int→Int→Int→Option (List Int × Int × Int)
 | 0,_,_,_=>none
 | k+1,x0,x3,x4=>if x4<(x0.length:Int) then (if x4<4000 then (if 0≤x4 then (Z16.l0 k x0 (Go.bits .and .i64 (wrap64 ((wrap64 ((wrap64 (x3*131))+(wrap64 (rd x0 x4))))+7)) 1073741823) (wrap64 (x4+1))) else (none)) else (some (x0,0,x3))) else (some (x0,0,x3))
def Z16.f (k:Nat) (l0:List Int):Option (List Int × Int × Int):=Z16.l0 k l0 (wrap64 (27397+(l0.length:Int))) 0
theorem Z16.mono_l:∀ k,(∀ y0 y1 y2,LeO (Z16.l0 k y0 y1 y2) (Z16.l0 (k+1) y0 y1 y2))
 | 0=>fun _ _ _ r h=>by simp [Z16.l0] at h
 | k+1=>by
  have ih0:=Z16.mono_l k
  ·intro y0 y1 y2
   unfold Z16.l0
   repeat' (with_reducible first|apply ih0|exact lR _|refine lI ?_ ?_)
theorem Z16.mono:∀ a0 k,LeO (Z16.f k a0) (Z16.f (k+1) a0):=by
 intro a0 k;have ih0:=Z16.mono_l k;unfold Z16.f
 repeat' (with_reducible apply ih0)
set_option maxHeartbeats 60000000 in
set_option maxRecDepth 100000 in
theorem Z16.calls (k:Nat) (A0:Option Addr) (c0:Nat) (l0:List Int) (r1:List Int) (r2 r3:Int) (w0 w:World) (hB:Below w0.heap.size w0 w) (hr0:Kd.C (Kd.int .u8) w0 A0 l0.length l0) (hc0:l0.length≤c0) (h:Z16.f k l0=some (r1,r2,r3)) :
  Calls Tryd.prog 44 #[.slice A0 l0.length c0] w fun e w'=>∃ g_:Nat,e=.returned (.pointer (some ⟨g_,0,none⟩))∧IsS96 w0 w' g_ r1 r2 r3∧Below w0.heap.size w0 w'∧Below w.heap.size w w':=by
 have bJ:=Tryd.underlying96;have aJ:=aM hr0;have aX:=aM hc0;clear hr0 hc0;have HBW:=aM (Below.refl w.heap.size w);have HW0:=aM hB.size;have HB:=aM hB;clear hB;have H:(Z16.l0 k l0 (wrap64 (27397+(l0.length:Int))) 0)=some (r1,r2,r3):=h;clear h;have H':=aM H;clear H;go_enter Tryd.func44,Tryd.ntmps44
 go_wp2
 go_loopg [3,4] k (fun kq v3 v4 w'=>∃ (aC:Int) (aA:Int),v3=.int .i64 aC∧v4=.int .i64 aA∧Aside0 (Z16.l0 kq l0 aC aA=some (r1,r2,r3))∧Aside0 (kq≤k)∧Aside0 (Below w0.heap.size w0 w')∧Aside0 (Below w.heap.size w w'))
 case atStart=>exact ⟨(wrap64 (27397+(l0.length:Int))),(0),xE,xE,H',⟨Nat.le_refl _⟩,⟨bl HB.out⟩,⟨by repeat ((with_reducible exact HBW.out))⟩⟩
 case round =>
  clear H';obtain ⟨aC,aA,rfl,rfl,HA,bA,HB,HBW⟩:=hrel;cases gk with
  | zero=>exact absurd HA.out (by simp [Z16.l0])
  | succ k1 =>
   have H:=HA.out;clear HA;simp only [Z16.l0] at H
   by_cases c2:aA<(l0.length:Int)
   case neg =>
    rw [if_neg c2] at H
    have bD:=decide_eq_false c2;clear c2;simp only [Option.some.injEq,Prod.mk.injEq] at H;obtain ⟨rfl,rfl,rfl⟩:=H;go_wp2_with (((with_reducible refine gD (N:=31) rfl ?_);refine bE (N:=31) (cs:=#[.slice A0 l0.length c0,.int .i64 0,aC]) (t:=96) ?_;intro aD hg w6 hbox hb;have aK:=aM (hbox);have aN:=aM ((by rw [hg];exact (below_size (by repeat ((with_reducible exact HBW.out)))):w.heap.size≤aD));have aQ:=aM ((Nat.le_trans HW0.out (by rw [hg];exact (below_size (by repeat ((with_reducible exact HBW.out)))):w.heap.size≤aD):w0.heap.size≤aD));replace HBW:=aM (bS HBW.out hb);replace HB:=rS HB hb;clear hb hbox hg))
    go_ret
    exact ⟨_,rfl,(show IsS96 w0 _ aD l0 0 aC from ⟨_,_,by (with_reducible repeat (first|refine blk_drewN ?_ _|refine blk_drew ?_|refine blk_alloc ?_ _));exact aK.out,aQ.out,⟨aJ.out,aX.out⟩⟩),bl HB.out,by repeat ((with_reducible exact HBW.out))⟩
   rw [if_pos c2] at H
   have bD:=decide_eq_true c2;clear c2
   by_cases c3:aA<4000
   case neg =>
    rw [if_neg c3] at H
    have bG:=decide_eq_false c3;clear c3;simp only [Option.some.injEq,Prod.mk.injEq] at H;obtain ⟨rfl,rfl,rfl⟩:=H;go_wp2_with (((with_reducible refine gD (N:=31) rfl ?_);refine bE (N:=31) (cs:=#[.slice A0 l0.length c0,.int .i64 0,aC]) (t:=96) ?_;intro aE hg w5 hbox hb;have aT:=aM (hbox);have aV:=aM ((by rw [hg];exact (below_size (by repeat ((with_reducible exact HBW.out)))):w.heap.size≤aE));have aW:=aM ((Nat.le_trans HW0.out (by rw [hg];exact (below_size (by repeat ((with_reducible exact HBW.out)))):w.heap.size≤aE):w0.heap.size≤aE));replace HBW:=aM (bS HBW.out hb);replace HB:=rS HB hb;clear hb hbox hg))
    go_ret
    exact ⟨_,rfl,(show IsS96 w0 _ aE l0 0 aC from ⟨_,_,by (with_reducible repeat (first|refine blk_drewN ?_ _|refine blk_drew ?_|refine blk_alloc ?_ _));exact aT.out,aW.out,⟨aJ.out,aX.out⟩⟩),bl HB.out,by repeat ((with_reducible exact HBW.out))⟩
   rw [if_pos c3] at H
   have bG:=decide_eq_true c3;clear c3;obtain ⟨bK,H⟩:=gI H;have H':=aM H;clear H;have aH:0≤(aA:Int):=dT;have aI:aA<(l0.length:Int):=dT;obtain ⟨bI,bH,aG⟩:=Kd.at_int aJ.out aA aH aI;cases bH
   replace aG:=pw_cell_below HB.out aG;replace aH:=eq_true aH;replace aI:=eq_true aI;go_wp2
   go_roundg k1
   case measure=>have:=bA.out;omega
   case rel=>exact ⟨(Go.bits .and .i64 (wrap64 ((wrap64 ((wrap64 (aC*131))+(wrap64 (rd l0 aA))))+7)) 1073741823),(wS aA),xE,xE,H',⟨by have:=bA.out;omega⟩,⟨bl HB.out⟩,⟨by repeat ((with_reducible exact HBW.out))⟩⟩

def Z59.f (k:Nat) (l0:List Int):Option (Int × Int × Int × Int × Int × Int × Int × Bool):=(Z16.f k l0).bind fun aC=>((Z70.f aC.1 aC.2.1 aC.2.2).bind fun aA=>(some (aA.1,aA.2.1,aA.2.2.1,aA.2.2.2.1,aA.2.2.2.2.1,aA.2.2.2.2.2.1,aA.2.2.2.2.2.2.1,aA.2.2.2.2.2.2.2.1)))
theorem Z59.mono:∀ a0 k,LeO (Z59.f k a0) (Z59.f (k+1) a0):=by
 intro a0 k;unfold Z59.f
 repeat' (with_reducible first|apply Z16.mono|exact lR _|refine lB ?_ fun _=>?_)
set_option maxHeartbeats 60000000 in
set_option maxRecDepth 100000 in
theorem Z59.calls (k:Nat) (A0:Option Addr) (c0:Nat) (l0:List Int) (r1 r2 r3 r4 r5 r6 r7:Int) (r8:Bool) (w:World) (hr0:Kd.C (Kd.int .u8) w A0 l0.length l0) (hc0:l0.length≤c0) (h:Z59.f k l0=some (r1,r2,r3,r4,r5,r6,r7,r8)) :
  Calls Tryd.prog 6 #[.slice A0 l0.length c0] w fun e w'=>e=.returned (.agg #[r1,r2,r3,r4,r5,r6,r7,r8])∧Below w.heap.size w w':=by
 have bP:=Tryd.underlying27;have bL:=aM hr0;have bM:=aM hc0;clear hr0 hc0;have HB:=aM (Below.refl w.heap.size w);have H:((Z16.f k l0).bind fun aE=>((Z70.f aE.1 aE.2.1 aE.2.2).bind fun aA=>(some (aA.1,aA.2.1,aA.2.2.1,aA.2.2.2.1,aA.2.2.2.2.1,aA.2.2.2.2.2.1,aA.2.2.2.2.2.2.1,aA.2.2.2.2.2.2.2.1))))=some (r1,r2,r3,r4,r5,r6,r7,r8):=h
 clear h;obtain ⟨⟨aI,aJ,aK⟩,bH,H⟩:=hB H
 try dsimp only at H
 have A2:=aM bH;clear bH;obtain ⟨⟨aN,aQ,aT,aV,aW,aX,bA,bD,bJ,bK⟩,bI,H⟩:=hB H
 try dsimp only at H
 have A3:=aM bI;clear bI;simp only [Option.some.injEq,Prod.mk.injEq] at H;obtain ⟨rfl,rfl,rfl,rfl,rfl,rfl,rfl,rfl⟩:=H;go_enter Tryd.func6,Tryd.ntmps6
 go_wp2_with (first|((with_reducible refine gD (N:=2) rfl ?_);refine bE (N:=2) (cs:=#[.int .i64 0,.int .i64 0,.int .i64 0,.int .i64 0,.int .i64 0,.int .i64 0,.int .i64 0,.bool false]) (t:=27) ?_;intro bG hg w4 hbox hb;have aC:=aM (hbox);have bN:=gF hg HB;have bO:=gF hg HB;replace HB:=rS HB hb;clear hb hbox hg)|((with_reducible refine gC (f:=44) rfl ?_);refine goesL_ (some 4) rfl rfl Tryd.func44 (by kernel_rfl) rfl #[.slice A0 l0.length c0] rfl xR ?_;(with_reducible refine (Z16.calls k _ _ l0 aI aJ aK w _ ?side1 ?side2 ?side3 A2.out).mono ?_);(case side1=>exact bl HB.out);(case side2=>exact bL.out);(case side3=>exact bM.out);rintro e w5 ⟨g235,rfl,hi,hb,hb2⟩;refine ⟨_,rfl,?_⟩;have aH:=aM (hi);have aG:=aM (IsS96.ne_blk hi (bB (bk aC.out) hb2) (by decide));have aD:=aM (Ne.symm (IsS96.ne_blk hi (bB (bk aC.out) hb2) (by decide)));replace aC:=aM (bB (bk aC.out) hb2);replace HB:=aM (hb);(repeat first|clear hb|clear hb2|clear hi))|((with_reducible refine gC (f:=43) rfl ?_);refine goesL_ (some 5) rfl rfl Tryd.func43 (by kernel_rfl) rfl #[.pointer (some ⟨g235,0,none⟩)] rfl xR ?_;(with_reducible refine (Z70.calls g235 aI aJ aK aN aQ aT aV aW aX bA bD bJ bK w _ ?side1 ?side2 A3.out).mono ?_);(case side1=>exact IsS96.mv aH.out);(case side2=>exact IsS96.bl HB.out);rintro e w6 ⟨rfl,hi,hb,hk⟩;refine ⟨_,rfl,?_⟩;replace aC:=rP hk aC aD;replace HB:=aM (hb);replace aH:=aM (hi);(repeat first|clear hb|clear hk|clear hi);have bQ:=aD.out;have bT:=aG.out;have bU:=cA8 aC.out))
 refine bodyPost_ret (results_cell_row rfl _ _ bG 27 #[aN,aQ,aT,aV,aW,aX,bA,bD] (0,0) _ rfl (bm aC.out) Tryd.underlying27 rfl (by kernel_rfl)) rfl ?_
 exact ⟨xW,IsS96.bl HB.out⟩

def Z33.f (a0 a1 a2:Int):Option (Bool):=if a0 ≥ a1 then (some (decide (a0≤a2))) else (some false)
set_option maxHeartbeats 60000000 in
set_option maxRecDepth 100000 in
theorem Z33.calls (a0 a1 a2:Int) (r:Bool) (w:World) (h:Z33.f a0 a1 a2=some r) :
  Calls Tryd.prog 71 #[a0,a1,a2] w fun e w'=>e=.returned (.bool r)∧Drawn0 w w':=by
 have H:(if a0 ≥ a1 then (some (decide (a0≤a2))) else (some false))=some r:=h;clear h
 by_cases c4:a0 ≥ a1
 case pos =>
  rw [if_pos c4] at H
  have aA:=decide_eq_true c4;clear c4;obtain rfl:=Option.some.inj H;go_enter Tryd.func71,Tryd.ntmps71
  go_wp2
  go_ret
  exact ⟨by rfl,by repeat (exact Drawn0.refl _)⟩
 rw [if_neg c4] at H
 have aA:=decide_eq_false c4;clear c4;obtain rfl:=Option.some.inj H;go_enter Tryd.func71,Tryd.ntmps71
 go_wp2
 go_ret
 exact ⟨by rfl,by repeat (exact Drawn0.refl _)⟩

def Z50.f (a0:Int):Option (Bool):=(Z33.f a0 0 3).bind fun aA=>(some aA)
set_option maxHeartbeats 60000000 in
set_option maxRecDepth 100000 in
theorem Z50.calls (a0:Int) (r:Bool) (w:World) (h:Z50.f a0=some r) :
  Calls Tryd.prog 66 #[a0] w fun e w'=>e=.returned (.bool r)∧Drawn0 w w':=by
 have H:((Z33.f a0 0 3).bind fun aA=>(some aA))=some r:=h
 clear h;obtain ⟨aA,aC,H⟩:=hB H;have A2:=aM aC;clear aC;obtain rfl:=Option.some.inj H;go_enter Tryd.func66,Tryd.ntmps66
 go_wp2_with (((with_reducible refine gC (f:=71) rfl ?_);refine goesL_ (some 4) rfl rfl Tryd.func71 (by kernel_rfl) rfl #[a0,.int .i64 0,.int .i64 3] rfl xR ?_;(with_reducible refine (Z33.calls a0 0 3 aA _ A2.out).mono ?_);rintro e w' ⟨rfl,⟨nd,rfl⟩⟩;refine ⟨_,rfl,?_⟩))
 go_ret
 exact ⟨by rfl,by repeat (first|exact Drawn0.refl _|apply Drawn0.step)⟩

def Z73.f (aA aD aC aE:Int):Option (Bool):=(Z33.f aA 1 9).bind fun aG=>(if aG=true then ((Z33.f aC 1 9).bind fun aH=>(if aH=true then (if aA > aC then (some false) else ((Z50.f aE).bind fun aI=>(if aI=true then ((Z33.f aD 0 20).bind fun aJ=>(if aJ=true then (some ((aD == 0) == (aA == aC))) else (some false))) else (some false)))) else (some false))) else (some false))
set_option maxHeartbeats 60000000 in
set_option maxRecDepth 100000 in
theorem Z73.calls (aA aD aC aG:Int) (r:Bool) (w:World) (h:Z73.f aA aD aC aG=some r) :
  Calls Tryd.prog 67 #[.agg #[aA,aD,aC,aG]] w fun e w'=>e=.returned (.bool r)∧Below w.heap.size w w':=by
 have bO:=Tryd.underlying25;have HB:=aM (Below.refl w.heap.size w);have H:((Z33.f aA 1 9).bind fun aK=>(if aK=true then ((Z33.f aC 1 9).bind fun aN=>(if aN=true then (if aA > aC then (some false) else ((Z50.f aG).bind fun aQ=>(if aQ=true then ((Z33.f aD 0 20).bind fun aT=>(if aT=true then (some ((aD == 0) == (aA == aC))) else (some false))) else (some false)))) else (some false))) else (some false)))=some r:=h
 clear h;obtain ⟨aK,bA,H⟩:=hB H;have A2:=aM bA;clear bA
 by_cases c3:aK=true
 case neg =>
  replace c3:=Bool.eq_false_iff.mpr c3;subst c3;replace H:=hF H;obtain rfl:=Option.some.inj H;go_enter Tryd.func67,Tryd.ntmps67
  go_wp2_with (first|((with_reducible refine gD (N:=1) rfl ?_);refine bE (N:=1) (cs:=#[aA,aD,aC,aG]) (t:=25) ?_;intro aH hg bQ hbox hb;have aE:=aM (hbox);have aI:=gF hg HB;have aJ:=gF hg HB;replace HB:=rS HB hb;clear hb hbox hg;have bJ:=cA4 aE.out)|((with_reducible refine gC (f:=71) rfl ?_);refine goesL_ (some 5) rfl rfl Tryd.func71 (by kernel_rfl) rfl #[aA,.int .i64 1,.int .i64 9] rfl xR ?_;(with_reducible refine (Z33.calls aA 1 9 false _ A2.out).mono ?_);rintro e w' ⟨rfl,⟨nd,rfl⟩⟩;refine ⟨_,rfl,?_⟩))
  go_ret
  exact ⟨xW,bl HB.out⟩
 subst c3;replace H:=hP H rfl;obtain ⟨aN,bD,H⟩:=hB H;have A4:=aM bD;clear bD
 by_cases c5:aN=true
 case neg =>
  replace c5:=Bool.eq_false_iff.mpr c5;subst c5;replace H:=hF H;obtain rfl:=Option.some.inj H;go_enter Tryd.func67,Tryd.ntmps67
  go_wp2_with (first|((with_reducible refine gD (N:=1) rfl ?_);refine bE (N:=1) (cs:=#[aA,aD,aC,aG]) (t:=25) ?_;intro aH hg bT hbox hb;have aE:=aM (hbox);have aI:=gF hg HB;have aJ:=gF hg HB;replace HB:=rS HB hb;clear hb hbox hg;have bK:=cA4 aE.out)|((with_reducible refine gC (f:=71) rfl ?_);refine goesL_ (some 5) rfl rfl Tryd.func71 (by kernel_rfl) rfl #[aA,.int .i64 1,.int .i64 9] rfl xR ?_;(with_reducible refine (Z33.calls aA 1 9 true _ A2.out).mono ?_);rintro e w' ⟨rfl,⟨nd,rfl⟩⟩;refine ⟨_,rfl,?_⟩)|(go_at_call 71;(with_reducible refine (Z33.calls aC 1 9 false _ A4.out).mono ?_);rintro e w' ⟨rfl,⟨nd,rfl⟩⟩))
  go_ret
  exact ⟨xW,bl HB.out⟩
 subst c5;replace H:=hP H rfl
 by_cases c6:aA > aC
 case pos =>
  rw [if_pos c6] at H
  have bI:=decide_eq_true c6;clear c6;obtain rfl:=Option.some.inj H;go_enter Tryd.func67,Tryd.ntmps67
  go_wp2_with (first|((with_reducible refine gD (N:=1) rfl ?_);refine bE (N:=1) (cs:=#[aA,aD,aC,aG]) (t:=25) ?_;intro aH hg w7 hbox hb;have aE:=aM (hbox);have aI:=gF hg HB;have aJ:=gF hg HB;replace HB:=rS HB hb;clear hb hbox hg;have bP:=cA4 aE.out)|((with_reducible refine gC (f:=71) rfl ?_);refine goesL_ (some 5) rfl rfl Tryd.func71 (by kernel_rfl) rfl #[aA,.int .i64 1,.int .i64 9] rfl xR ?_;(with_reducible refine (Z33.calls aA 1 9 true _ A2.out).mono ?_);rintro e w' ⟨rfl,⟨nd,rfl⟩⟩;refine ⟨_,rfl,?_⟩)|(go_at_call 71;(with_reducible refine (Z33.calls aC 1 9 true _ A4.out).mono ?_);rintro e w' ⟨rfl,⟨nd,rfl⟩⟩))
  go_ret
  exact ⟨xW,bl HB.out⟩
 rw [if_neg c6] at H
 have bI:=decide_eq_false c6;clear c6;obtain ⟨aQ,bG,H⟩:=hB H;have A9:=aM bG;clear bG
 by_cases aV:aQ=true
 case neg =>
  replace aV:=Bool.eq_false_iff.mpr aV;subst aV;replace H:=hF H;obtain rfl:=Option.some.inj H;go_enter Tryd.func67,Tryd.ntmps67
  go_wp2_with (first|((with_reducible refine gD (N:=1) rfl ?_);refine bE (N:=1) (cs:=#[aA,aD,aC,aG]) (t:=25) ?_;intro aH hg bU hbox hb;have aE:=aM (hbox);have aI:=gF hg HB;have aJ:=gF hg HB;replace HB:=rS HB hb;clear hb hbox hg;have bL:=cA4 aE.out)|((with_reducible refine gC (f:=71) rfl ?_);refine goesL_ (some 5) rfl rfl Tryd.func71 (by kernel_rfl) rfl #[aA,.int .i64 1,.int .i64 9] rfl xR ?_;(with_reducible refine (Z33.calls aA 1 9 true _ A2.out).mono ?_);rintro e w' ⟨rfl,⟨nd,rfl⟩⟩;refine ⟨_,rfl,?_⟩)|(go_at_call 71;(with_reducible refine (Z33.calls aC 1 9 true _ A4.out).mono ?_);rintro e w' ⟨rfl,⟨nd,rfl⟩⟩)|(go_at_call 66;(with_reducible refine (Z50.calls aG false _ A9.out).mono ?_);rintro e w' ⟨rfl,⟨nd,rfl⟩⟩))
  go_ret
  exact ⟨xW,bl HB.out⟩
 subst aV;replace H:=hP H rfl;obtain ⟨aT,aX,H⟩:=hB H;have bH:=aM aX;clear aX
 by_cases aW:aT=true
 case pos =>
  subst aW;replace H:=hP H rfl;obtain rfl:=Option.some.inj H;go_enter Tryd.func67,Tryd.ntmps67
  go_wp2_with (first|((with_reducible refine gD (N:=1) rfl ?_);refine bE (N:=1) (cs:=#[aA,aD,aC,aG]) (t:=25) ?_;intro aH hg bV hbox hb;have aE:=aM (hbox);have aI:=gF hg HB;have aJ:=gF hg HB;replace HB:=rS HB hb;clear hb hbox hg;have bM:=cA4 aE.out)|((with_reducible refine gC (f:=71) rfl ?_);refine goesL_ (some 5) rfl rfl Tryd.func71 (by kernel_rfl) rfl #[aA,.int .i64 1,.int .i64 9] rfl xR ?_;(with_reducible refine (Z33.calls aA 1 9 true _ A2.out).mono ?_);rintro e w' ⟨rfl,⟨nd,rfl⟩⟩;refine ⟨_,rfl,?_⟩)|(go_at_call 71;(with_reducible refine (Z33.calls aC 1 9 true _ A4.out).mono ?_);rintro e w' ⟨rfl,⟨nd,rfl⟩⟩)|(go_at_call 66;(with_reducible refine (Z50.calls aG true _ A9.out).mono ?_);rintro e w' ⟨rfl,⟨nd,rfl⟩⟩)|((with_reducible refine gC (f:=71) rfl ?_);refine goesL_ (some 28) rfl rfl Tryd.func71 (by kernel_rfl) rfl #[aD,.int .i64 0,.int .i64 20] rfl xR ?_;(with_reducible refine (Z33.calls aD 0 20 true _ bH.out).mono ?_);rintro e w' ⟨rfl,⟨nd,rfl⟩⟩;refine ⟨_,rfl,?_⟩))
  go_ret
  exact ⟨xW,bl HB.out⟩
 replace aW:=Bool.eq_false_iff.mpr aW;subst aW;replace H:=hF H;obtain rfl:=Option.some.inj H;go_enter Tryd.func67,Tryd.ntmps67
 go_wp2_with (first|((with_reducible refine gD (N:=1) rfl ?_);refine bE (N:=1) (cs:=#[aA,aD,aC,aG]) (t:=25) ?_;intro aH hg bW hbox hb;have aE:=aM (hbox);have aI:=gF hg HB;have aJ:=gF hg HB;replace HB:=rS HB hb;clear hb hbox hg;have bN:=cA4 aE.out)|((with_reducible refine gC (f:=71) rfl ?_);refine goesL_ (some 5) rfl rfl Tryd.func71 (by kernel_rfl) rfl #[aA,.int .i64 1,.int .i64 9] rfl xR ?_;(with_reducible refine (Z33.calls aA 1 9 true _ A2.out).mono ?_);rintro e w' ⟨rfl,⟨nd,rfl⟩⟩;refine ⟨_,rfl,?_⟩)|(go_at_call 71;(with_reducible refine (Z33.calls aC 1 9 true _ A4.out).mono ?_);rintro e w' ⟨rfl,⟨nd,rfl⟩⟩)|(go_at_call 66;(with_reducible refine (Z50.calls aG true _ A9.out).mono ?_);rintro e w' ⟨rfl,⟨nd,rfl⟩⟩)|((with_reducible refine gC (f:=71) rfl ?_);refine goesL_ (some 28) rfl rfl Tryd.func71 (by kernel_rfl) rfl #[aD,.int .i64 0,.int .i64 20] rfl xR ?_;(with_reducible refine (Z33.calls aD 0 20 false _ bH.out).mono ?_);rintro e w' ⟨rfl,⟨nd,rfl⟩⟩;refine ⟨_,rfl,?_⟩))
 go_ret
 exact ⟨xW,bl HB.out⟩

def Z75.f (a0:Int):Option (Bool):=(Z33.f a0 0 8).bind fun aA=>(some aA)
set_option maxHeartbeats 60000000 in
set_option maxRecDepth 100000 in
theorem Z75.calls (a0:Int) (r:Bool) (w:World) (h:Z75.f a0=some r) :
  Calls Tryd.prog 68 #[a0] w fun e w'=>e=.returned (.bool r)∧Drawn0 w w':=by
 have H:((Z33.f a0 0 8).bind fun aA=>(some aA))=some r:=h
 clear h;obtain ⟨aA,aC,H⟩:=hB H;have A2:=aM aC;clear aC;obtain rfl:=Option.some.inj H;go_enter Tryd.func68,Tryd.ntmps68
 go_wp2_with (((with_reducible refine gC (f:=71) rfl ?_);refine goesL_ (some 4) rfl rfl Tryd.func71 (by kernel_rfl) rfl #[a0,.int .i64 0,.int .i64 8] rfl xR ?_;(with_reducible refine (Z33.calls a0 0 8 aA _ A2.out).mono ?_);rintro e w' ⟨rfl,⟨nd,rfl⟩⟩;refine ⟨_,rfl,?_⟩))
 go_ret
 exact ⟨by rfl,by repeat (first|exact Drawn0.refl _|apply Drawn0.step)⟩

def Z49.f (aA aC aD aE aG aH aI:Int) (aJ:Bool):Option (Bool):=if aA=1 then ((Z50.f aC).bind fun aK=>(if aK=true then ((Z73.f aD aE aG aH).bind fun aN=>(if aN=true then ((Z75.f aI).bind fun aQ=>(if aQ=true then (some (!aJ)) else (some false))) else (some false))) else (some false))) else (if aA=3 then ((Z50.f aC).bind fun aT=>(if aT=true then (if (aD == 0 && (aE == 0 && (aG == 0 && (aH == 0))))=true then (some (aI == 0)) else (some false)) else (some false))) else (some (aA == 2 && (aC == 0 && ((aD == 0 && (aE == 0 && (aG == 0 && (aH == 0)))) && (aI == 0 && (!aJ)))))))
set_option maxHeartbeats 60000000 in
set_option maxRecDepth 100000 in
theorem Z49.calls (aI aC aD aE aG aH aJ:Int) (aK r:Bool) (w:World) (h:Z49.f aI aC aD aE aG aH aJ aK=some r) :
  Calls Tryd.prog 24 #[.agg #[aI,aC,aD,aE,aG,aH,aJ,aK]] w fun e w'=>e=.returned (.bool r)∧Below w.heap.size w w':=by
 have cL:=Tryd.underlying27;have cN:=Tryd.underlying25;have HB:=aM (Below.refl w.heap.size w);have H:(if aI=1 then ((Z50.f aC).bind fun aX=>(if aX=true then ((Z73.f aD aE aG aH).bind fun bA=>(if bA=true then ((Z75.f aJ).bind fun bD=>(if bD=true then (some (!aK)) else (some false))) else (some false))) else (some false))) else (if aI=3 then ((Z50.f aC).bind fun bG=>(if bG=true then (if (aD == 0 && (aE == 0 && (aG == 0 && (aH == 0))))=true then (some (aJ == 0)) else (some false)) else (some false))) else (some (aI == 2 && (aC == 0 && ((aD == 0 && (aE == 0 && (aG == 0 && (aH == 0)))) && (aJ == 0 && (!aK))))))))=some r:=h
 clear h
 by_cases c2:aI=1
 case neg =>
  rw [if_neg c2] at H
  have bU:(aI == 1)=false:=beq_eq_false_iff_ne.mpr c2;have bV:(aI != 1)=true:=bne_iff_ne.mpr c2
  by_cases aW:aI=3
  case neg =>
   rw [if_neg aW] at H
   have bK:(aI == 3)=false:=beq_eq_false_iff_ne.mpr aW;have bL:(aI != 3)=true:=bne_iff_ne.mpr aW;obtain rfl:=Option.some.inj H;go_enter Tryd.func24,Tryd.ntmps24
   go_wp2_with (((with_reducible refine gD (N:=1) rfl ?_);refine bE (N:=1) (cs:=#[aI,aC,aD,aE,aG,aH,aJ,aK]) (t:=27) ?_;intro aN hg cO hbox hb;have aA:=aM (hbox);have aQ:=gF hg HB;have aT:=gF hg HB;replace HB:=rS HB hb;clear hb hbox hg;have bW:=cA8 aA.out))
   go_ret
   exact ⟨xW,bl HB.out⟩
  rw [if_pos aW] at H
  have bK:(aI == 3)=true:=beq_iff_eq.mpr aW;have bL:(aI != 3)=false:=bne_eq_false_iff_eq.mpr aW;clear aW;obtain ⟨bG,bI,H⟩:=hB H;have bJ:=aM bI;clear bI
  by_cases bH:bG=true
  case neg =>
   replace bH:=Bool.eq_false_iff.mpr bH;subst bH;replace H:=hF H;obtain rfl:=Option.some.inj H;go_enter Tryd.func24,Tryd.ntmps24
   go_wp2_with (first|((with_reducible refine gD (N:=1) rfl ?_);refine bE (N:=1) (cs:=#[aI,aC,aD,aE,aG,aH,aJ,aK]) (t:=27) ?_;intro aN hg cP hbox hb;have aA:=aM (hbox);have aQ:=gF hg HB;have aT:=gF hg HB;replace HB:=rS HB hb;clear hb hbox hg;have bX:=cA8 aA.out)|((with_reducible refine gC (f:=66) rfl ?_);refine goesL_ (some 29) rfl rfl Tryd.func66 (by kernel_rfl) rfl #[aC] rfl xR ?_;(with_reducible refine (Z50.calls aC false _ bJ.out).mono ?_);rintro e w' ⟨rfl,⟨nd,rfl⟩⟩;refine ⟨_,rfl,?_⟩))
   go_ret
   exact ⟨xW,bl HB.out⟩
  subst bH;replace H:=hP H rfl
  by_cases aV:(aD == 0 && (aE == 0 && (aG == 0 && (aH == 0))))=true
  case pos =>
   rw [if_pos aV] at H
   have bM:(aD == 0 && (aE == 0 && (aG == 0 && (aH == 0))))=true:=aV
   (try (have bN:decide (aD=0 && (aE == 0 && (aG == 0 && (aH == 0))))=true:=by simpa using aV))
   (try (have bO:(aD == 0 && (aE == 0 && (aG == 0 && (aH == 0))))=true:=by simpa using aV))
   clear aV;obtain rfl:=Option.some.inj H;go_enter Tryd.func24,Tryd.ntmps24
   go_wp2_with (first|((with_reducible refine gD (N:=1) rfl ?_);refine bE (N:=1) (cs:=#[aI,aC,aD,aE,aG,aH,aJ,aK]) (t:=27) ?_;intro aN hg cQ hbox hb;have aA:=aM (hbox);have aQ:=gF hg HB;have aT:=gF hg HB;replace HB:=rS HB hb;clear hb hbox hg;have bY:=cA8 aA.out)|((with_reducible refine gC (f:=66) rfl ?_);refine goesL_ (some 29) rfl rfl Tryd.func66 (by kernel_rfl) rfl #[aC] rfl xR ?_;(with_reducible refine (Z50.calls aC true _ bJ.out).mono ?_);rintro e w' ⟨rfl,⟨nd,rfl⟩⟩;refine ⟨_,rfl,?_⟩))
   go_ret
   exact ⟨xW,bl HB.out⟩
  rw [if_neg aV] at H
  have bM:(aD == 0 && (aE == 0 && (aG == 0 && (aH == 0))))=false:=by simpa using aV
  (try (have bN:decide (aD=0 && (aE == 0 && (aG == 0 && (aH == 0))))=false:=by simpa using aV))
  (try (have bO:(aD == 0 && (aE == 0 && (aG == 0 && (aH == 0))))=false:=by simpa using aV))
  (try (have bZ:¬ (aD=0 && (aE == 0 && (aG == 0 && (aH == 0)))):=by simpa using aV))
  clear aV;obtain rfl:=Option.some.inj H;go_enter Tryd.func24,Tryd.ntmps24
  go_wp2_with (first|((with_reducible refine gD (N:=1) rfl ?_);refine bE (N:=1) (cs:=#[aI,aC,aD,aE,aG,aH,aJ,aK]) (t:=27) ?_;intro aN hg cR hbox hb;have aA:=aM (hbox);have aQ:=gF hg HB;have aT:=gF hg HB;replace HB:=rS HB hb;clear hb hbox hg;have cA:=cA8 aA.out)|((with_reducible refine gC (f:=66) rfl ?_);refine goesL_ (some 29) rfl rfl Tryd.func66 (by kernel_rfl) rfl #[aC] rfl xR ?_;(with_reducible refine (Z50.calls aC true _ bJ.out).mono ?_);rintro e w' ⟨rfl,⟨nd,rfl⟩⟩;refine ⟨_,rfl,?_⟩))
  go_ret
  exact ⟨xW,bl HB.out⟩
 rw [if_pos c2] at H
 have bU:(aI == 1)=true:=beq_iff_eq.mpr c2;have bV:(aI != 1)=false:=bne_eq_false_iff_eq.mpr c2;clear c2;obtain ⟨aX,bP,H⟩:=hB H;have A3:=aM bP;clear bP
 by_cases c4:aX=true
 case neg =>
  replace c4:=Bool.eq_false_iff.mpr c4;subst c4;replace H:=hF H;obtain rfl:=Option.some.inj H;go_enter Tryd.func24,Tryd.ntmps24
  go_wp2_with (first|((with_reducible refine gD (N:=1) rfl ?_);refine bE (N:=1) (cs:=#[aI,aC,aD,aE,aG,aH,aJ,aK]) (t:=27) ?_;intro aN hg cS hbox hb;have aA:=aM (hbox);have aQ:=gF hg HB;have aT:=gF hg HB;replace HB:=rS HB hb;clear hb hbox hg;have cC:=cA8 aA.out)|((with_reducible refine gC (f:=66) rfl ?_);refine goesL_ (some 9) rfl rfl Tryd.func66 (by kernel_rfl) rfl #[aC] rfl xR ?_;(with_reducible refine (Z50.calls aC false _ A3.out).mono ?_);rintro e w' ⟨rfl,⟨nd,rfl⟩⟩;refine ⟨_,rfl,?_⟩))
  go_ret
  exact ⟨xW,bl HB.out⟩
 subst c4;replace H:=hP H rfl;obtain ⟨bA,bQ,H⟩:=hB H;have A5:=aM bQ;clear bQ
 by_cases c6:bA=true
 case neg =>
  replace c6:=Bool.eq_false_iff.mpr c6;subst c6;replace H:=hF H;obtain rfl:=Option.some.inj H;go_enter Tryd.func24,Tryd.ntmps24
  go_wp2_with (first|((with_reducible refine gD (N:=1) rfl ?_);refine bE (N:=1) (cs:=#[aI,aC,aD,aE,aG,aH,aJ,aK]) (t:=27) ?_;intro aN hg cT hbox hb;have aA:=aM (hbox);have aQ:=gF hg HB;have aT:=gF hg HB;replace HB:=rS HB hb;clear hb hbox hg;have cD:=cA8 aA.out)|((with_reducible refine gC (f:=66) rfl ?_);refine goesL_ (some 9) rfl rfl Tryd.func66 (by kernel_rfl) rfl #[aC] rfl xR ?_;(with_reducible refine (Z50.calls aC true _ A3.out).mono ?_);rintro e w' ⟨rfl,⟨nd,rfl⟩⟩;refine ⟨_,rfl,?_⟩)|(go_at_call 67;(with_reducible refine (Z73.calls aD aE aG aH false _ A5.out).mono ?_);rintro e cU ⟨rfl,hb⟩;replace aA:=rB aA hb;replace HB:=rS HB hb;(try clear hb)))
  go_ret
  exact ⟨xW,bl HB.out⟩
 subst c6;replace H:=hP H rfl;obtain ⟨bD,bT,H⟩:=hB H;have A7:=aM bT;clear bT
 by_cases c8:bD=true
 case pos =>
  subst c8;replace H:=hP H rfl;obtain rfl:=Option.some.inj H;go_enter Tryd.func24,Tryd.ntmps24
  go_wp2_with (first|((with_reducible refine gD (N:=1) rfl ?_);refine bE (N:=1) (cs:=#[aI,aC,aD,aE,aG,aH,aJ,aK]) (t:=27) ?_;intro aN hg w9 hbox hb;have aA:=aM (hbox);have aQ:=gF hg HB;have aT:=gF hg HB;replace HB:=rS HB hb;clear hb hbox hg;have cE:=cA8 aA.out)|((with_reducible refine gC (f:=66) rfl ?_);refine goesL_ (some 9) rfl rfl Tryd.func66 (by kernel_rfl) rfl #[aC] rfl xR ?_;(with_reducible refine (Z50.calls aC true _ A3.out).mono ?_);rintro e w' ⟨rfl,⟨nd,rfl⟩⟩;refine ⟨_,rfl,?_⟩)|(go_at_call 67;(with_reducible refine (Z73.calls aD aE aG aH true _ A5.out).mono ?_);rintro e cV ⟨rfl,hb⟩;replace aA:=rB aA hb;replace HB:=rS HB hb;(try clear hb);have cG:=cA8 aA.out)|(go_at_call 68;(with_reducible refine (Z75.calls aJ true _ A7.out).mono ?_);rintro e w' ⟨rfl,⟨nd,rfl⟩⟩))
  go_ret
  exact ⟨xW,bl HB.out⟩
 replace c8:=Bool.eq_false_iff.mpr c8;subst c8;replace H:=hF H;obtain rfl:=Option.some.inj H;go_enter Tryd.func24,Tryd.ntmps24
 go_wp2_with (first|((with_reducible refine gD (N:=1) rfl ?_);refine bE (N:=1) (cs:=#[aI,aC,aD,aE,aG,aH,aJ,aK]) (t:=27) ?_;intro aN hg cW hbox hb;have aA:=aM (hbox);have aQ:=gF hg HB;have aT:=gF hg HB;replace HB:=rS HB hb;clear hb hbox hg;have cH:=cA8 aA.out)|((with_reducible refine gC (f:=66) rfl ?_);refine goesL_ (some 9) rfl rfl Tryd.func66 (by kernel_rfl) rfl #[aC] rfl xR ?_;(with_reducible refine (Z50.calls aC true _ A3.out).mono ?_);rintro e w' ⟨rfl,⟨nd,rfl⟩⟩;refine ⟨_,rfl,?_⟩)|(go_at_call 67;(with_reducible refine (Z73.calls aD aE aG aH true _ A5.out).mono ?_);rintro e cX ⟨rfl,hb⟩;replace aA:=rB aA hb;replace HB:=rS HB hb;(try clear hb);have cK:=cA8 aA.out)|(go_at_call 68;(with_reducible refine (Z75.calls aJ false _ A7.out).mono ?_);rintro e w' ⟨rfl,⟨nd,rfl⟩⟩))
 go_ret
 exact ⟨xW,bl HB.out⟩

def Z37.l0:Nat→Int→List Int→Option (List Int)
 | 0,_,_=>none
 | k+1,x0,x3=>if x0 > 127 then (if x3.length<140737488355328 then (Z37.l0 k (wrap64 (Int.tdiv x0 128)) (x3++[(wrap64 (128+(Int.tmod x0 128))) % 256])) else (none)) else (if x3.length<140737488355328 then (some (x3++[(x0) % 256])) else (none))
def Z37.f (k:Nat) (a0:Int):Option (List Int):=(Z33.f a0 0 2147483647).bind fun aA=>(if aA=true then (Z37.l0 k a0 ([]:List Int)) else (some ([]:List Int)))
theorem Z37.mono_l:∀ k,(∀ y0 y1,LeO (Z37.l0 k y0 y1) (Z37.l0 (k+1) y0 y1))
 | 0=>fun _ _ r h=>by simp [Z37.l0] at h
 | k+1=>by
  have ih0:=Z37.mono_l k
  ·intro y0 y1
   unfold Z37.l0
   repeat' (with_reducible first|apply ih0|exact lR _|refine lI ?_ ?_)
theorem Z37.mono:∀ a0 k,LeO (Z37.f k a0) (Z37.f (k+1) a0):=by
 intro a0 k;have ih0:=Z37.mono_l k;unfold Z37.f
 repeat' (with_reducible first|apply ih0|exact lR _|refine lI ?_ ?_|refine lB ?_ fun _=>?_)
set_option maxHeartbeats 60000000 in
set_option maxRecDepth 100000 in
theorem Z37.calls (k:Nat) (a0:Int) (r:List Int) (w:World) (h:Z37.f k a0=some r) :
  Calls Tryd.prog 27 #[a0] w fun e w'=>∃ aT:Value,e=.returned (aT)∧Kd.R (Kd.int .u8) 5 w' w.heap.size (fun _=>True) aT r∧Below w.heap.size w w':=by
 have HB:=aM (Below.refl w.heap.size w);have H:((Z33.f a0 0 2147483647).bind fun aH=>(if aH=true then (Z37.l0 k a0 ([]:List Int)) else (some ([]:List Int))))=some r:=h
 clear h;obtain ⟨aH,aV,H⟩:=hB H;have A2:=aM aV;clear aV
 by_cases c3:aH=true
 case neg =>
  replace c3:=Bool.eq_false_iff.mpr c3;subst c3;replace H:=hF H;obtain rfl:=Option.some.inj H;go_enter Tryd.func27,Tryd.ntmps27
  go_wp2_with (((with_reducible refine gC (f:=71) rfl ?_);refine goesL_ (some 5) rfl rfl Tryd.func71 (by kernel_rfl) rfl #[a0,.int .i64 0,.int .i64 2147483647] rfl xR ?_;(with_reducible refine (Z33.calls a0 0 2147483647 false _ A2.out).mono ?_);rintro e w' ⟨rfl,⟨nd,rfl⟩⟩;refine ⟨_,rfl,?_⟩))
  go_ret
  exact ⟨_,xW,by exact Kd.R_nil _ _ _ _ _,bl HB.out⟩
 subst c3;replace H:=hP H rfl;have H':=aM H;clear H;go_enter Tryd.func27,Tryd.ntmps27
 go_wp2_with (((with_reducible refine gC (f:=71) rfl ?_);refine goesL_ (some 5) rfl rfl Tryd.func71 (by kernel_rfl) rfl #[a0,.int .i64 0,.int .i64 2147483647] rfl xR ?_;(with_reducible refine (Z33.calls a0 0 2147483647 true _ A2.out).mono ?_);rintro e w' ⟨rfl,⟨nd,rfl⟩⟩;refine ⟨_,rfl,?_⟩))
 go_loopg [0,3] k (fun kq v0 v3 w'=>∃ (aA:Int) (aC:List Int),v0=.int .i64 aA∧Aside0 (Z37.l0 kq aA aC=some r)∧Aside0 (kq≤k)∧Aside0 (Kd.R (Kd.int .u8) 5 w' w.heap.size (fun _=>True) v3 aC)∧Aside0 (Below w.heap.size w w'))
 case atStart=>exact ⟨(a0),(([]:List Int)),xE,H',⟨Nat.le_refl _⟩,⟨by exact Kd.R_nil _ _ _ _ _⟩,⟨bl HB.out⟩⟩
 case round =>
  clear H'
  repeat first|clear c2|clear p2|clear c3
  obtain ⟨aA,aC,rfl,HA,aW,aG,HB⟩:=hrel;cases gk with
  | zero=>exact absurd HA.out (by simp [Z37.l0])
  | succ k1 =>
   have H:=HA.out;clear HA;simp only [Z37.l0] at H
   by_cases c4:aA > 127
   case neg =>
    rw [if_neg c4] at H
    have aX:=decide_eq_false c4;clear c4
    by_cases c7:aC.length<140737488355328
    case neg =>
     rw [if_neg c7] at H
     exact absurd H (by simp)
    rw [if_pos c7] at H
    have LMc7:=aM c7;clear c7;obtain ⟨bA,aD⟩:∃ y_:List Int,y_=(aC++[(aA) % 256]):=⟨_,rfl⟩;replace H:(some bA)=some r:=by (rw [aD];with_reducible exact H)
    have aJ:=aM aD;clear aD;obtain rfl:=Option.some.inj H;go_wp2_with (((with_reducible refine gate_builtin (b:=.append) (xs:=#[.tmp 18,.tmp 21]) rfl ?_);at_builtin;refine Kd.R_append (Kd.int .u8) (w0:=w) w.heap.size rfl (.tmp 18) (.tmp 21) 22 5 (.int .u8 0) 1 rfl Tryd.underlying22 info5 rfl (by decide) (by omega) u3 aC ((aA) % 256) [.int .u8 ((aA) % 256)] (fun _=>True) (fun _=>False) rfl rfl ?aP (fun _ hk=>hk.elim) ?aF ?aO ?aB ?aS ?aL ?_;(case aP=>exact rfl);(case aB=>exact (bl HB.out));(case aF=>exact (fun _ _=>trivial));(case aO=>exact (kr aG.out));(case aS=>exact (below_size (bl HB.out)));(case aL=>have:=LMc7.out;omega);intro bD w8 ho hb hg hat;rw [← aJ.out] at ho;have aK:=aM (ho);replace HB:=aM (hb);clear aG;clear ho hb hg hat))
    go_ret
    exact ⟨_,xW,kr aK.out,bl HB.out⟩
   rw [if_pos c4] at H
   have aX:=decide_eq_true c4;clear c4
   by_cases c5:aC.length<140737488355328
   case neg =>
    rw [if_neg c5] at H
    exact absurd H (by simp)
   rw [if_pos c5] at H
   have LMc5:=aM c5;clear c5;obtain ⟨aI,aE⟩:∃ y_:List Int,y_=(aC++[(wrap64 (128+(Int.tmod aA 128))) % 256]):=⟨_,rfl⟩;replace H:(Z37.l0 k1 (wrap64 (Int.tdiv aA 128)) aI)=some r:=by (rw [aE];with_reducible exact H)
   have aN:=aM aE;clear aE;have H':=aM H;clear H;go_wp2_with (((with_reducible refine gate_builtin (b:=.append) (xs:=#[.tmp 9,.tmp 14]) rfl ?_);at_builtin;refine Kd.R_append (Kd.int .u8) (w0:=w) w.heap.size rfl (.tmp 9) (.tmp 14) 22 5 (.int .u8 0) 1 rfl Tryd.underlying22 info5 rfl (by decide) (by omega) u3 aC ((wrap64 (128+(Int.tmod aA 128))) % 256) [.int .u8 ((wrap64 (128+(Int.tmod aA 128))) % 256)] (fun _=>True) (fun _=>False) rfl rfl ?aP (fun _ hk=>hk.elim) ?aF ?aO ?aB ?aS ?aL ?_;(case aP=>exact rfl);(case aB=>exact (bl HB.out));(case aF=>exact (fun _ _=>trivial));(case aO=>exact (kr aG.out));(case aS=>exact (below_size (bl HB.out)));(case aL=>have:=LMc5.out;omega);intro bG w6 ho hb hg hat;rw [← aN.out] at ho;have aQ:=aM (ho);replace HB:=aM (hb);clear aG;clear ho hb hg hat))
   go_roundg k1
   case measure=>have:=aW.out;omega
   case rel=>exact ⟨(wrap64 (Int.tdiv aA 128)),(aI),xE,H',⟨by have:=aW.out;omega⟩,⟨kr aQ.out⟩,⟨bl HB.out⟩⟩

def Z25.l0:Nat→List Int→List Int→Int→Int→Option (List Int)
 | 0,_,_,_,_=>none
 | k+1,x0,x7,x8,x9=>if x9<x8 then (if 0≤x9 then (if x9<(x7.length:Int) then ((Z37.f k (rd x7 x9)).bind fun aA=>(if x0.length+aA.length<140737488355328 then (Z25.l0 k (x0++aA) x7 x8 (wrap64 (x9+1))) else (none))) else (none)) else (none)) else (some x0)
def Z25.f (k:Nat) (l0:List Int) (l1:List Int):Option (List Int):=Z25.l0 k l0 l1 (l1.length:Int) 0
theorem Z25.mono_l:∀ k,(∀ y0 y1 y2 y3,LeO (Z25.l0 k y0 y1 y2 y3) (Z25.l0 (k+1) y0 y1 y2 y3))
 | 0=>fun _ _ _ _ r h=>by simp [Z25.l0] at h
 | k+1=>by
  have ih0:=Z25.mono_l k
  ·intro y0 y1 y2 y3
   unfold Z25.l0
   repeat' (with_reducible first|apply ih0|apply Z37.mono|exact lR _|refine lI ?_ ?_|refine lB ?_ fun _=>?_)
theorem Z25.mono:∀ a0 a1 k,LeO (Z25.f k a0 a1) (Z25.f (k+1) a0 a1):=by
 intro a0 a1 k;have ih0:=Z25.mono_l k;unfold Z25.f
 repeat' (with_reducible apply ih0)
set_option maxHeartbeats 60000000 in
set_option maxRecDepth 100000 in
theorem Z25.calls (k:Nat) (P0_:Nat→Prop) (aH:Value) (l0:List Int) (A1:Option Addr) (c1:Nat) (l1:List Int) (r:List Int) (w0 w:World) (hB:Below w0.heap.size w0 w) (ho0:Kd.R (Kd.int .u8) 5 w w0.heap.size P0_ aH l0) (hr1:∀ W_,Kept w W_ (fun k_=>P0_ k_)→Kd.C (Kd.int .i64) W_ A1 l1.length l1) (hc1:l1.length≤c1) (h:Z25.f k l0 l1=some r) :
  Calls Tryd.prog 45 #[aH,.slice A1 l1.length c1] w fun e w'=>∃ aV:Value,e=.returned (aV)∧Kd.R (Kd.int .u8) 5 w' w0.heap.size (fun k_=>(P0_ k_∨w.heap.size≤k_)) aV r∧Below w0.heap.size w0 w'∧Kept w w' (fun k_=>P0_ k_):=by
 have bK:=aM (show Kd.R (Kd.int .u8) 5 w w0.heap.size (fun k_=>(P0_ k_∨w.heap.size≤k_)) aH l0 from Kd.R_mono ho0 (fun k_ hk=>(.inl hk)))
 have bL:=aM hr1;have bT:=aM hc1;clear hr1 hc1;have HK:=aM (Kept.refl w (fun k_=>P0_ k_))
 have HW0:=aM hB.size;have HB:=aM hB;clear hB;have H:(Z25.l0 k l0 l1 (l1.length:Int) 0)=some r:=h;clear h;have H':=aM H;clear H;go_enter Tryd.func45,Tryd.ntmps45
 go_wp2
 go_loopg [0,9] k (fun kq v0 v9 w'=>∃ (aG:List Int) (aA:Int),v9=.int .i64 aA∧Aside0 (Z25.l0 kq aG l1 (l1.length:Int) aA=some r)∧Aside0 (kq≤k)∧Aside0 (Kd.R (Kd.int .u8) 5 w' w0.heap.size (fun k_=>(P0_ k_∨w.heap.size≤k_)) v0 aG)∧Aside0 (Kept w w' (fun k_=>P0_ k_))∧Aside0 (Below w0.heap.size w0 w'))
 case atStart=>exact ⟨(l0),(0),xE,H',⟨Nat.le_refl _⟩,⟨kr bK.out⟩,⟨kk HK.out⟩,⟨bl HB.out⟩⟩
 case round =>
  clear H'
  repeat first|clear c1|clear p2
  obtain ⟨aG,aA,rfl,HA,aW,aC,HK,HB⟩:=hrel;cases gk with
  | zero=>exact absurd HA.out (by simp [Z25.l0])
  | succ k1 =>
   have H:=HA.out;clear HA;simp only [Z25.l0] at H
   by_cases c3:aA<(l1.length:Int)
   case neg =>
    rw [if_neg c3] at H
    have bA:=decide_eq_false c3;clear c3;obtain rfl:=Option.some.inj H;go_wp2
    go_ret
    exact ⟨_,xW,kr aC.out,bl HB.out,kk HK.out⟩
   rw [if_pos c3] at H
   have bA:=decide_eq_true c3;clear c3;obtain ⟨bN,H⟩:=gI H;obtain ⟨bO,H⟩:=gI H;obtain ⟨aI,aX,H⟩:=hB H;have A6:=aM aX;clear aX
   by_cases c7:aG.length+aI.length<140737488355328
   case neg =>
    rw [if_neg c7] at H
    exact absurd H (by simp)
   rw [if_pos c7] at H
   have LMc7:=aM c7;clear c7;obtain ⟨aN,aD⟩:∃ y_:List Int,y_=(aG++aI):=⟨_,rfl⟩;replace H:(Z25.l0 k1 aN l1 (l1.length:Int) (wS aA))=some r:=by (rw [aD];with_reducible exact H)
   have aQ:=aM aD;clear aD;have H':=aM H;clear H;have aJ:0≤(aA:Int):=dT;have aK:aA<(l1.length:Int):=dT;obtain ⟨bM,bD,bJ⟩:=Kd.at_int (Kd.C_kept_now bL.out HK.out) aA aJ aK;cases bD
   replace aJ:=eq_true aJ;replace aK:=eq_true aK;go_wp2_with (first|((with_reducible refine gC (f:=27) rfl ?_);refine goesL_ (some 15) rfl rfl Tryd.func27 (by kernel_rfl) rfl #[.int .i64 (rd l1 aA)] rfl xR ?_;(with_reducible refine (Z37.calls k1 (rd l1 aA) aI _ A6.out).mono ?_);rintro e w8 ⟨bP,rfl,ho0,hb⟩;refine ⟨_,rfl,?_⟩;have aE:=aM (Kd.R_lower (Kd.R_new' (Kd.R_newM (M:=fun k_=>(P0_ k_∨w.heap.size≤k_)) ho0 (kk HK.out).1 (fun k_ h_=>.inr h_)) (Kd.R_lt (kr aC.out))) (below_size (bl HB.out)));replace aC:=aM (Kd.R_elder' (kr aC.out) (Kd.R_base ho0) hb);replace HK:=aM (Kept.below (S:=(fun k_=>P0_ k_)) (kk HK.out) hb);replace HB:=rS HB hb;(repeat first|clear hb|clear ho0);obtain ⟨bG,bH,bI⟩:=Kd.R_slice aE.out;subst bI)|((with_reducible refine gate_builtin (b:=.append) (xs:=#[.tmp 13,.tmp 15]) rfl ?_);at_builtin;refine Kd.R_append_rows (Kd.int .u8) (w0:=w0) w0.heap.size rfl (.tmp 13) (.tmp 15) 22 5 (.int .u8 0) 1 rfl Tryd.underlying22 info5 rfl (by decide) (by omega) u0 aG aI _ _ _ (fun k_=>(P0_ k_∨w.heap.size≤k_)∧some k_≠(.slice bG aI.length bH:Value).ownBlock) (fun _=>False) rfl rfl ?aO ?aR (fun _ _ h=>h) (fun _ h=>h.elim) ?aF ?aB ?aS ?aL ?_;(case aR=>repeat (exact (Kd.R_reads' aE.out).2.2));(case aB=>exact (bl HB.out));(case aF=>exact (fun k_ hk=>⟨(.inr (Nat.le_trans (kk HK.out).1 hk)),Kd.fresh' (Kd.R_lt (kr aE.out)) k_ hk⟩));(case aO=>exact (kr aC.out));(case aS=>exact (below_size (bl HB.out)));(case aL=>have:=LMc7.out;omega);intro bQ w9 ho hb hg hat;rw [← aQ.out] at ho;have aT:=aM (ho);replace aE:=aM (Kd.R_after (ok:=(fun k_=>(P0_ k_∨w.heap.size≤k_))) (kr (Kd.R_mono aE.out (fun _ hk=>⟨hk.1.1,hk.2⟩))) hg hat);replace HB:=aM (hb);replace HK:=aM (Kept.of_grown (S:=(fun k_=>P0_ k_)) hg (kk HK.out) (fun k_ e_=>(aC.out.1 k_ e_).1));clear aC;clear ho hb hg hat))
   go_roundg k1
   case measure=>have:=aW.out;omega
   case rel=>exact ⟨(aN),(wS aA),xE,H',⟨by have:=aW.out;omega⟩,⟨kr (Kd.R_mono aT.out (fun _ hk=>hk.1))⟩,⟨kk HK.out⟩,⟨bl HB.out⟩⟩

def Z79.f (a0:Bool):Option (Int):=if a0=true then (some 1) else (some 0)
set_option maxHeartbeats 60000000 in
set_option maxRecDepth 100000 in
theorem Z79.calls (a0:Bool) (r:Int) (w:World) (h:Z79.f a0=some r) :
  Calls Tryd.prog 46 #[a0] w fun e w'=>e=.returned (.int .u8 r)∧Drawn0 w w':=by
 have H:(if a0=true then (some 1) else (some 0))=some r:=h;clear h
 by_cases c2:a0=true
 case pos =>
  subst c2;replace H:=hP H rfl;obtain rfl:=Option.some.inj H;go_enter Tryd.func46,Tryd.ntmps46
  go_wp2
  go_ret
  exact ⟨by rfl,by repeat (exact Drawn0.refl _)⟩
 replace c2:=Bool.eq_false_iff.mpr c2;subst c2;replace H:=hF H;obtain rfl:=Option.some.inj H;go_enter Tryd.func46,Tryd.ntmps46
 go_wp2
 go_ret
 exact ⟨by rfl,by repeat (exact Drawn0.refl _)⟩

end Go.Proofs.YtljbdchibfjbdaaDoor.PFnIns

/- Of the proof of laws.FnRootPorts: a part. No condition beyond what its theorems say. -/
import Derived.Test.YthmijfekdeagpaaVFnRootPortsPx1
import Derived.Test.YthmijfekdeagpaaVFnRootPortsPx27
namespace Go.Proofs.Ythmijfekdeagpaa.PFnRootPorts
open Go.RowKit Go.Proofs.YthmijfekdeagpaaW.PrintWords Go.Proofs.YthmijfekdeagpaaW.PrintLast Go.Proofs.YthmijfekdeagpaaW.PrintMore
attribute [local go_sem] max2_int min2_int max_two min_two max_three min_three max_four min_four   -- for this text's walks alone
set_option linter.unusedVariables false
set_option linter.unusedSimpArgs false

attribute [local go_sem high] eqA79
def spec_DrawDecide.f (k : Nat) (l0 : List Int) : Option (Int × (List (S79))) := (spec_l1New.f k l0).bind fun aD => ((spec_l8Draw.f k aD.1 aD.2.1 aD.2.2).bind fun aC => ((spec_l1Once.f aD.1 aC.2.2.1 aC.2.2.2 2).bind fun aE => (if aE.1 = true then ((spec_l7DrawRight.f k aD.1 aE.2.1 aE.2.2).bind fun aA => (if 0 < (aC.2.1.length : Int) then (some (aC.1, (aC.2.1.set (0 : Int).toNat (⟨aA.1, aA.2.1, (⟨aA.2.2.1, aA.2.2.2.1, aA.2.2.2.2.1, aA.2.2.2.2.2.1⟩ : S73), aA.2.2.2.2.2.2.1, aA.2.2.2.2.2.2.2.1, aA.2.2.2.2.2.2.2.2.1, aA.2.2.2.2.2.2.2.2.2.1, aA.2.2.2.2.2.2.2.2.2.2.1⟩ : S79)))) else (none))) else (some (aC.1, aC.2.1)))))
theorem spec_DrawDecide.mono : ∀ a0 k, LeO (spec_DrawDecide.f k a0) (spec_DrawDecide.f (k + 1) a0) := by
 intro a0 k
 unfold spec_DrawDecide.f
 repeat' first|(with_reducible first|apply spec_l1New.mono|apply spec_l7DrawRight.mono|apply spec_l8Draw.mono|exact LeO.refl _|exact LeO.none _|refine LeO.ite ?_ ?_|refine LeO.bind ?_ (fun _ => ?_))|exact LeO.none _|refine LeO.ite ?_ ?_|refine LeO.bind ?_ (fun _ => ?_)
theorem nX2_ {G : Exit → Act → World → Prop} {e : Exit} {a : Act} {w : World} (C : World → Prop) (hC : C w) (h : ∀ W, C W → G e a W) : G e a w := h w hC
set_option maxHeartbeats 60000000 in
set_option maxRecDepth 100000 in
theorem spec_DrawDecide.calls (k : Nat) (A0 : Option Addr) (c0 : Nat) (l0 : List Int) (r1 : Int) (r2 : List (S79)) (w : World) (hr0 : Kd.C (Kd.int .u8) w A0 l0.length l0) (hc0 : l0.length ≤ c0) (h : spec_DrawDecide.f k l0 = some (r1, r2)) :
  Calls Try.prog 38 #[.slice A0 l0.length c0] w fun e w' => ∃ dY : Value, e = .returned (.agg #[r1, dY]) ∧ Kd.R k79 79 w' w.heap.size (fun _ => True) dY r2 ∧ Below w.heap.size w w' := by
 have fI := Try.underlying28
 have fK := Try.underlying79
 have dZ := aM hr0
 have eA := aM hc0
 clear hr0 hc0
 have HB := aM (Below.refl w.heap.size w)
 have H : ((spec_l1New.f k l0).bind fun bJ => ((spec_l8Draw.f k bJ.1 bJ.2.1 bJ.2.2).bind fun bA => ((spec_l1Once.f bJ.1 bA.2.2.1 bA.2.2.2 2).bind fun bX => (if bX.1 = true then ((spec_l7DrawRight.f k bJ.1 bX.2.1 bX.2.2).bind fun aK => (if 0 < (bA.2.1.length : Int) then (some (bA.1, (bA.2.1.set (0 : Int).toNat (⟨aK.1, aK.2.1, (⟨aK.2.2.1, aK.2.2.2.1, aK.2.2.2.2.1, aK.2.2.2.2.2.1⟩ : S73), aK.2.2.2.2.2.2.1, aK.2.2.2.2.2.2.2.1, aK.2.2.2.2.2.2.2.2.1, aK.2.2.2.2.2.2.2.2.2.1, aK.2.2.2.2.2.2.2.2.2.2.1⟩ : S79)))) else (none))) else (some (bA.1, bA.2.1)))))) = some (r1, r2) := h
 clear h
 obtain ⟨⟨aI, bY, bZ⟩, eB, H⟩ := hB H
 try dsimp only at H
 have A2 := aM eB
 clear eB
 obtain ⟨⟨aN, aG, aX, aZ⟩, eC, H⟩ := hB H
 try dsimp only at H
 have A3 := aM eC
 clear eC
 obtain ⟨⟨eJ, cA, cC⟩, eD, H⟩ := hB H
 try dsimp only at H
 have A4 := aM eD
 clear eD
 by_cases c5 : eJ = true
 case neg =>
  replace c5 := Bool.eq_false_iff.mpr c5
  subst c5
  replace H := hF H
  simp only [Option.some.injEq, Prod.mk.injEq] at H
  obtain ⟨rfl, rfl⟩ := H
  go_enter Try.func38, Try.ntmps38
  go_wp2_with (first | ((with_reducible refine gD (N := 2) rfl ?_); refine box_event ?hg (N := 2) ?hd (cs := #[.int .i64 0, .slice none 0 0]) (t := 28) ?hr ?_; (case hd => rfl); (case hg => rfl); (case hr => first | (go_simp; done) | (go_simp; rfl) | (obtain ⟨A_, c_, e_⟩ := Kd.R_slice aC.out; subst e_; (first | (go_simp; done) | (go_simp; rfl))) | (obtain ⟨A_, c_, e_⟩ := Kd.S_slice aC.out; subst e_; (first | (go_simp; done) | (go_simp; rfl)))); intro aT hg fO hbox hb; have aA := aM (hbox); have dU := gF hg HB; have cO := gF hg HB; replace HB := rS HB hb; clear hb hbox hg) | ((with_reducible refine gC (f := 97) rfl ?_); refine gL (some 6) Try.func97 #[.slice A0 l0.length c0] ?_; (with_reducible refine (spec_l1New.calls k _ _ l0 aI bY bZ w _ ?side1 ?side2 ?side3 A2.out).mono ?_); (case side1 => exact bl HB.out); (case side2 => exact dZ.out); (case side3 => exact eA.out); rintro e fP ⟨g819, rfl, hi, hb, hb2⟩; refine ⟨_, rfl, ?_⟩; have aD := aM (hi); have aV := aM (IsS175.ne_blk hi (bB (bk aA.out) hb2) (by decide)); have aH := aM (Ne.symm (IsS175.ne_blk hi (bB (bk aA.out) hb2) (by decide))); replace aA := aM (bB (bk aA.out) hb2); replace HB := aM (hb); (repeat first|clear hb|clear hb2|clear hi)) | ((with_reducible refine gC (f := 117) rfl ?_); refine gL (some 8) Try.func117 #[.pointer (some ⟨g819, 0, none⟩)] ?_; (with_reducible refine (spec_l8Draw.calls k g819 aI bY bZ aN aG aX aZ w _ ?side1 ?side2 A3.out).mono ?_); (case side1 => exact IsS175.mv aD.out); (case side2 => exact IsS175.bl HB.out); rintro e fQ ⟨eK, rfl, ho0, hi, hb, hk⟩; refine ⟨_, rfl, ?_⟩; have aC := aM (Kd.R_lower ho0 (below_size (IsS175.bl HB.out))); replace aA := rP hk aA aH; replace HB := aM (hb); replace aD := aM (hi); (repeat first|clear hb|clear hk|clear hi|clear ho0)) | ((with_reducible refine gD (N := 4) rfl ?_); refine box_event ?hg (N := 4) ?hd (cs := #[.int .i64 0, .slice none 0 0]) (t := 28) ?hr ?_; (case hd => rfl); (case hg => rfl); (case hr => first | (go_simp; done) | (go_simp; rfl) | (obtain ⟨A_, c_, e_⟩ := Kd.R_slice aC.out; subst e_; (first | (go_simp; done) | (go_simp; rfl))) | (obtain ⟨A_, c_, e_⟩ := Kd.S_slice aC.out; subst e_; (first | (go_simp; done) | (go_simp; rfl)))); intro aQ hg fS hbox hb; have aE := aM (hbox); have dV := gE hg (below_size (IsS175.bl HB.out)); have cP := gE hg (below_size (IsS175.bl HB.out)); have bD := nM hg aA; have bG := nH hg aA; have aW := nL hg (IsS175.lt (show IsS175 w _ g819 aI aX aZ from IsS175.mv aD.out)); have aJ := nG hg (IsS175.lt (show IsS175 w _ g819 aI aX aZ from IsS175.mv aD.out)); replace aC := aM (kB (kr aC.out) hb); replace aA := rB aA hb; replace aD := aM (IsS175.below (IsS175.mv aD.out) hb); replace HB := aM (bS (IsS175.bl HB.out) hb); clear hb hbox hg; have eQ := bG.out; have eR := bD.out; have eS := aJ.out; have eT := aW.out; have eU := cA2 aE.out; obtain ⟨cD, cE, eL⟩ := Kd.R_slice aC.out; subst eL) | ((with_reducible refine gC (f := 100) rfl ?_); refine gL (some 10) Try.func100 #[.pointer (some ⟨g819, 0, none⟩), .int .i64 2] ?_; (with_reducible refine (spec_l1Once.calls g819 aI aX aZ 2 false cA cC w _ ?side1 ?side2 A4.out).mono ?_); (case side1 => exact IsS175.mv aD.out); (case side2 => exact IsS175.bl HB.out); rintro e fT ⟨rfl, hi, hb, hk⟩; refine ⟨_, rfl, ?_⟩; replace aA := aM (KeepBut.blk hk (fm aA.out) aH.out (by simp)); replace aC := aM (Kd.R_mono (Kd.R_keep (IsS175.apart (show IsS175 w _ g819 aI aX aZ from IsS175.mv aD.out) (kr (Kd.R_mono (kF (p := ⟨aQ, 1, none⟩) (kF (p := ⟨aQ, 0, none⟩) (Kd.R_types aC.out aE.out (by decide)) (fun _ hk => hk.2) (.int .i64 aN)) (fun _ hk => hk.2) (.slice cD aG.length cE)) (fun _ h_ => h_.1))) (by decide)) hk (fun _ h => h.2)) (fun _ h => h.1)); replace aE := aM (KeepBut.blk hk (g' := aQ) (o := .cells #[aN, .slice cD aG.length cE] 28 (0, 0)) (bm aE.out) aJ.out (by simp)); replace HB := aM (hb); replace aD := aM (hi); (repeat first|clear hb|clear hk|clear hi); have eV := cA2 aE.out; have eW := aH.out; have eX := aV.out; have eY := cA2 aA.out))
  refine bodyPost_ret (results_cell_row rfl _ _ aT 28 #[aN, .slice cD aG.length cE] (0, 0) _ rfl (bm aA.out) Try.underlying28 rfl (by kernel_rfl)) rfl ?_
  exact ⟨_, xW, by (with_reducible repeat (first | apply Kd.R_alloc | apply Kd.R_drewN | apply Kd.R_drew)); exact Kd.R_mono (kF (p := ⟨aT, 1, none⟩) (kF (p := ⟨aT, 0, none⟩) (Kd.R_types aC.out aA.out (by decide)) (fun _ hk => hk.2) (.int .i64 aN)) (fun _ hk => hk.2) (.slice cD aG.length cE)) (fun _ hk => trivial), IsS175.bl HB.out⟩
 subst c5
 replace H := hP H rfl
 obtain ⟨⟨bL, bM, bN, bO, bP, bQ, bR, bT, bU, bV, bW, dN, dO⟩, eE, H⟩ := hB H
 try dsimp only at H
 have A6 := aM eE
 clear eE
 by_cases c7 : 0 < (aG.length : Int)
 case neg =>
  rw [if_neg c7] at H
  exact absurd H (by simp)
 rw [if_pos c7] at H
 have fL := decide_eq_true c7
 have fM : decide (0 < aG.length) = true := decide_eq_true (by omega)
 clear c7
 obtain ⟨dP, bK⟩ : ∃ y_ : List (S79), y_ = (aG.set (0 : Int).toNat (⟨bL, bM, (⟨bN, bO, bP, bQ⟩ : S73), bR, bT, bU, bV, bW⟩ : S79)) := ⟨_, rfl⟩
 replace H : (some (aN, dP)) = some (r1, r2) := by first | (rw [bK]; with_reducible exact H) | (have H2_ := (Option.bind_some _ _).symm.trans H; rw [bK]; with_reducible exact H2_) | (have H2_ := (Option.bind_some _ _).symm.trans H; with_reducible exact H2_) | with_reducible exact H | (rw [bK]; exact H) | exact H
 have dW := aM bK
 clear bK
 simp only [Option.some.injEq, Prod.mk.injEq] at H
 obtain ⟨rfl, rfl⟩ := H
 go_enter Try.func38, Try.ntmps38
 try go_wp2_with (first | ((with_reducible refine gD (N := 2) rfl ?_); refine box_event ?hg (N := 2) ?hd (cs := #[.int .i64 0, .slice none 0 0]) (t := 28) ?hr ?_; (case hd => rfl); (case hg => rfl); (case hr => first | (go_simp; done) | (go_simp; rfl) | (obtain ⟨A_, c_, e_⟩ := Kd.R_slice aC.out; subst e_; (first | (go_simp; done) | (go_simp; rfl))) | (obtain ⟨A_, c_, e_⟩ := Kd.S_slice aC.out; subst e_; (first | (go_simp; done) | (go_simp; rfl)))); intro aT hg w9 hbox hb; have aA := aM (hbox); have dU := gF hg HB; have cO := gF hg HB; replace HB := rS HB hb; clear hb hbox hg) | ((with_reducible refine gC (f := 97) rfl ?_); refine gL (some 6) Try.func97 #[.slice A0 l0.length c0] ?_; (with_reducible refine (spec_l1New.calls k _ _ l0 aI bY bZ w _ ?side1 ?side2 ?side3 A2.out).mono ?_); (case side1 => exact bl HB.out); (case side2 => exact dZ.out); (case side3 => exact eA.out); rintro e fU ⟨g819, rfl, hi, hb, hb2⟩; refine ⟨_, rfl, ?_⟩; have aD := aM (hi); have aV := aM (IsS175.ne_blk hi (bB (bk aA.out) hb2) (by decide)); have aH := aM (Ne.symm (IsS175.ne_blk hi (bB (bk aA.out) hb2) (by decide))); replace aA := aM (bB (bk aA.out) hb2); replace HB := aM (hb); (repeat first|clear hb|clear hb2|clear hi)) | ((with_reducible refine gC (f := 117) rfl ?_); refine gL (some 8) Try.func117 #[.pointer (some ⟨g819, 0, none⟩)] ?_; (with_reducible refine (spec_l8Draw.calls k g819 aI bY bZ aN aG aX aZ w _ ?side1 ?side2 A3.out).mono ?_); (case side1 => exact IsS175.mv aD.out); (case side2 => exact IsS175.bl HB.out); rintro e fV ⟨eK, rfl, ho0, hi, hb, hk⟩; refine ⟨_, rfl, ?_⟩; have aC := aM (Kd.R_lower ho0 (below_size (IsS175.bl HB.out))); replace aA := rP hk aA aH; replace HB := aM (hb); replace aD := aM (hi); (repeat first|clear hb|clear hk|clear hi|clear ho0)) | ((with_reducible refine gD (N := 4) rfl ?_); refine box_event ?hg (N := 4) ?hd (cs := #[.int .i64 0, .slice none 0 0]) (t := 28) ?hr ?_; (case hd => rfl); (case hg => rfl); (case hr => first | (go_simp; done) | (go_simp; rfl) | (obtain ⟨A_, c_, e_⟩ := Kd.R_slice aC.out; subst e_; (first | (go_simp; done) | (go_simp; rfl))) | (obtain ⟨A_, c_, e_⟩ := Kd.S_slice aC.out; subst e_; (first | (go_simp; done) | (go_simp; rfl)))); intro aQ hg fW hbox hb; have aE := aM (hbox); have dV := gE hg (below_size (IsS175.bl HB.out)); have cP := gE hg (below_size (IsS175.bl HB.out)); have bD := nM hg aA; have bG := nH hg aA; have aW := nL hg (IsS175.lt (show IsS175 w _ g819 aI aX aZ from IsS175.mv aD.out)); have aJ := nG hg (IsS175.lt (show IsS175 w _ g819 aI aX aZ from IsS175.mv aD.out)); replace aC := aM (kB (kr aC.out) hb); replace aA := rB aA hb; replace aD := aM (IsS175.below (IsS175.mv aD.out) hb); replace HB := aM (bS (IsS175.bl HB.out) hb); clear hb hbox hg; have eZ := bG.out; have fA := bD.out; have fB := aJ.out; have fC := aW.out; have fD := cA2 aE.out; obtain ⟨cL, bI, eM⟩ := Kd.R_slice aC.out; subst eM) | ((with_reducible refine gC (f := 100) rfl ?_); refine gL (some 10) Try.func100 #[.pointer (some ⟨g819, 0, none⟩), .int .i64 2] ?_; (with_reducible refine (spec_l1Once.calls g819 aI aX aZ 2 true cA cC w _ ?side1 ?side2 A4.out).mono ?_); (case side1 => exact IsS175.mv aD.out); (case side2 => exact IsS175.bl HB.out); rintro e eO ⟨rfl, hi, hb, hk⟩; refine ⟨_, rfl, ?_⟩; replace aA := aM (KeepBut.blk hk (fm aA.out) aH.out (by simp)); replace aC := aM (Kd.R_mono (Kd.R_keep (IsS175.apart (show IsS175 w _ g819 aI aX aZ from IsS175.mv aD.out) (kr (Kd.R_mono (kF (p := ⟨aQ, 1, none⟩) (kF (p := ⟨aQ, 0, none⟩) (Kd.R_types aC.out aE.out (by decide)) (fun _ hk => hk.2) (.int .i64 aN)) (fun _ hk => hk.2) (.slice cL aG.length bI)) (fun _ h_ => h_.1))) (by decide)) hk (fun _ h => h.2)) (fun _ h => h.1)); replace aE := aM (KeepBut.blk hk (g' := aQ) (o := .cells #[aN, .slice cL aG.length bI] 28 (0, 0)) (bm aE.out) aJ.out (by simp)); replace HB := aM (hb); replace aD := aM (hi); (repeat first|clear hb|clear hk|clear hi)))
 replace aC := aM (Kd.R_drew aC.out)
 replace aA := aM (blk_drew aA.out)
 replace aE := aM (blk_drew aE.out)
 replace aD := aM (IsS175.drew aD.out)
 replace HB := aM (below_drew1 HB.out)
 refine start_ (n := 6) (S := fun w' => cS2 w' aQ (.int .i64 aN) (.slice cL aG.length bI)) (ds := [5]) (dn 6 0) (by kernel_rfl) rfl rfl ⟨cI aE.out 0, cI aE.out 1⟩ (fun hHeld => ?_)
 generalize eO.drew = fX at aC aA aE aD HB hHeld ⊢
 refine pure_ (i := 0) (N := some 11) (v := ?_) (a' := ?_) #[Y,U,U,U,U,U] rfl rfl (by kernel_rfl) (fun _ _ _ h => h) (Or.inl ⟨by rfl, ?_⟩) ?_ ?_
 rotate_left
 ·intro w'
  go_simp
  with_reducible rfl
 rotate_left
 ·simp only [Act.put, sA, sZ, sS, i64_w, i32_w]
  rfl
 refine pure_ (i := 2) (N := some 13) (v := ?_) (a' := ?_) #[Y,U,Y,U,U,U] rfl rfl (by kernel_rfl) (fun _ _ _ h => h) (Or.inl ⟨by rfl, ?_⟩) ?_ ?_
 rotate_left
 ·intro w'
  go_simp
  with_reducible rfl
 rotate_left
 ·simp only [Act.put, sA, sZ, sS, i64_w, i32_w]
  rfl
 refine take_ (i := 1) (N := some 12) (v := ?_) (a' := ?_) #[Y,Y,Y,U,U,U] rfl rfl (by kernel_rfl) (fun _ _ _ h => h) (Or.inl ⟨by rfl, ?_⟩) hHeld ?_ ?_
 rotate_left
 ·rintro w' ⟨s0, s1⟩
  go_simp
  with_reducible rfl
 rotate_left
 ·simp only [Act.put, sA, sZ, sS, i64_w, i32_w]
  rfl
 refine one_ (i := 3) (N := some 14) #[Y,Y,Y,Y,U,U] rfl rfl (by kernel_rfl) (by decide) (fun K hK => ?_)
 refine goes_ Try.func119 (by kernel_rfl) rfl #[.pointer (some ⟨g819, 0, none⟩)] (by rfl) rfl rfl xR ?_
 with_reducible refine (spec_l7DrawRight.calls k g819 aI cA cC bL bM bN bO bP bQ bR bT bU bV bW dN dO w _ ?side1 ?side2 A6.out).mono ?_
 (case side1 => exact IsS175.mv aD.out)
 (case side2 => exact IsS175.bl HB.out)
 rintro e fY ⟨rfl, hi, hb, hk⟩
 refine ⟨_, rfl, ?_⟩
 replace aA := rP hk aA aH
 replace aC := aM (Kd.R_mono (Kd.R_keep (IsS175.apart (show IsS175 w _ g819 aI cA cC from IsS175.mv aD.out) (kr aC.out) (by decide)) hk (fun _ h => h.2)) (fun _ h => h.1))
 replace aE := rP hk aE aJ
 replace HB := aM (hb)
 replace aD := aM (hi)
 (try clear hb)
 (try clear hb2)
 (try clear hk)
 (try clear hi)
 have p8 : 0 ≤ (0 : Int) := (by omega)
 have q8 : (0 : Int) < ((aG.length : Int) : Int) := dT
 have qi8 : (0 < aG.length) = True := eq_true (by omega)
 obtain ⟨cG, gA, eF, eG, eP, gB, eH⟩ := Kd.R_form aC.out (by omega)
 (first | cases eF | (injection eF with ea_ en_ ec_; (first | subst ea_ | (injection ea_ with ea_; subst ea_)); subst ec_; clear en_))
 have bH := aM eG
 have gG := aM eH
 clear eG eP eH
 obtain ⟨gH, eN, eI, dQ, dR⟩ := Kd.R_elem aC.out z79 (0 : Int) p8 q8
 obtain rfl := k79_openM eI
 obtain ⟨cQ, cR, cS, cT, cU, cV, cW, cX, cY, dA, cH, dB, dC, dD, dE, dF, dG, dH, dI, dJ, dK, cK⟩ := eS79 (rd_T79 aG 0) dQ dR
 clear eN dQ dR eI
 (try rw [show ((0 : Int)).toNat = 0 from rfl] at cQ)
 (try simp only [Nat.reduceMul, Nat.zero_mul, Nat.zero_add, Nat.reduceAdd] at cQ)
 (try rw [show ((0 : Int)).toNat = 0 from rfl] at dB)
 (try simp only [Nat.reduceMul, Nat.zero_mul, Nat.zero_add, Nat.reduceAdd] at dB)
 (try rw [show ((0 : Int)).toNat = 0 from rfl] at cR)
 (try simp only [Nat.reduceMul, Nat.zero_mul, Nat.zero_add, Nat.reduceAdd] at cR)
 (try rw [show ((0 : Int)).toNat = 0 from rfl] at dC)
 (try simp only [Nat.reduceMul, Nat.zero_mul, Nat.zero_add, Nat.reduceAdd] at dC)
 (try rw [show ((0 : Int)).toNat = 0 from rfl] at cS)
 (try simp only [Nat.reduceMul, Nat.zero_mul, Nat.zero_add, Nat.reduceAdd] at cS)
 (try rw [show ((0 : Int)).toNat = 0 from rfl] at dD)
 (try simp only [Nat.reduceMul, Nat.zero_mul, Nat.zero_add, Nat.reduceAdd] at dD)
 (try rw [show ((0 : Int)).toNat = 0 from rfl] at cT)
 (try simp only [Nat.reduceMul, Nat.zero_mul, Nat.zero_add, Nat.reduceAdd] at cT)
 (try rw [show ((0 : Int)).toNat = 0 from rfl] at dE)
 (try simp only [Nat.reduceMul, Nat.zero_mul, Nat.zero_add, Nat.reduceAdd] at dE)
 (try rw [show ((0 : Int)).toNat = 0 from rfl] at cU)
 (try simp only [Nat.reduceMul, Nat.zero_mul, Nat.zero_add, Nat.reduceAdd] at cU)
 (try rw [show ((0 : Int)).toNat = 0 from rfl] at dF)
 (try simp only [Nat.reduceMul, Nat.zero_mul, Nat.zero_add, Nat.reduceAdd] at dF)
 (try rw [show ((0 : Int)).toNat = 0 from rfl] at cV)
 (try simp only [Nat.reduceMul, Nat.zero_mul, Nat.zero_add, Nat.reduceAdd] at cV)
 (try rw [show ((0 : Int)).toNat = 0 from rfl] at dG)
 (try simp only [Nat.reduceMul, Nat.zero_mul, Nat.zero_add, Nat.reduceAdd] at dG)
 (try rw [show ((0 : Int)).toNat = 0 from rfl] at cW)
 (try simp only [Nat.reduceMul, Nat.zero_mul, Nat.zero_add, Nat.reduceAdd] at cW)
 (try rw [show ((0 : Int)).toNat = 0 from rfl] at dH)
 (try simp only [Nat.reduceMul, Nat.zero_mul, Nat.zero_add, Nat.reduceAdd] at dH)
 (try rw [show ((0 : Int)).toNat = 0 from rfl] at cX)
 (try simp only [Nat.reduceMul, Nat.zero_mul, Nat.zero_add, Nat.reduceAdd] at cX)
 (try rw [show ((0 : Int)).toNat = 0 from rfl] at dI)
 (try simp only [Nat.reduceMul, Nat.zero_mul, Nat.zero_add, Nat.reduceAdd] at dI)
 (try rw [show ((0 : Int)).toNat = 0 from rfl] at cY)
 (try simp only [Nat.reduceMul, Nat.zero_mul, Nat.zero_add, Nat.reduceAdd] at cY)
 (try rw [show ((0 : Int)).toNat = 0 from rfl] at dJ)
 (try simp only [Nat.reduceMul, Nat.zero_mul, Nat.zero_add, Nat.reduceAdd] at dJ)
 (try rw [show ((0 : Int)).toNat = 0 from rfl] at dA)
 (try simp only [Nat.reduceMul, Nat.zero_mul, Nat.zero_add, Nat.reduceAdd] at dA)
 (try rw [show ((0 : Int)).toNat = 0 from rfl] at dK)
 (try simp only [Nat.reduceMul, Nat.zero_mul, Nat.zero_add, Nat.reduceAdd] at dK)
 (try rw [show ((0 : Int)).toNat = 0 from rfl] at cH)
 (try simp only [Nat.reduceMul, Nat.zero_mul, Nat.zero_add, Nat.reduceAdd] at cH)
 (try rw [show ((0 : Int)).toNat = 0 from rfl] at cK)
 (try simp only [Nat.reduceMul, Nat.zero_mul, Nat.zero_add, Nat.reduceAdd] at cK)
 replace p8 := eq_true p8
 replace q8 := eq_true q8
 have HN819_go8 := aM (show g819 ≠ cG from by have h_ := IsS175.own_ne aD.out aC.out (by decide); intro e_; exact h_ (by rw [e_]; rfl))
 obtain ⟨fN, dL, dS, dM, dX⟩ := Kd.R_elem aC.out z79 (0 : Int) (by omega) (by have h_ : (0 : Int) < ((aG.length : Int) : Int) := dT; first | exact h_ | (have e_ := (Kd.R_reads' aC.out).1; omega) | simpa using h_)
 obtain rfl := k79_openM dS
 have cN := (Kd.R_seg aC.out (0 : Int) (by omega) (by have h_ : (0 : Int) < ((aG.length : Int) : Int) := dT; first | exact h_ | (have e_ := (Kd.R_reads' aC.out).1; omega) | simpa using h_) (seg := [.bool bL, .bool bM, .int .i64 bN, .int .i64 bO, .int .i64 bP, .int .i64 bQ, .int .i64 bR, .int .i64 bT, .int .i64 bU, .int .i64 bV, .bool bW]) (j := 0) dL dM (show 11 ≤ 11 from by decide) (x' := (⟨bL, bM, (⟨bN, bO, bP, bQ⟩ : S73), bR, bT, bU, bV, bW⟩ : S79)) (k79_mkM _ _ _ (⟨bL, bM, (⟨bN, bO, bP, bQ⟩ : S73), bR, bT, bU, bV, bW⟩ : S79) ) (fun _ hk => hk)).1
 rw [← dW.out] at cN
 have HQ20 := aM cN
 clear dL dM dX dS cN
 refine hK.out _ _ ⟨cI aE.out 0, cI aE.out 1⟩ (fun hHeld => ?_)
 clear hK K
 refine norm_ (a' := ?_) ?_ ?_
 rotate_left
 ·show Act.put _ (some 14) _ = _
  simp only [Act.put, sA, sZ, sS, i64_w, i32_w]
  rfl
 refine pure_ (i := 4) (N := some 15) (v := ?_) (a' := ?_) #[Y,Y,Y,Y,Y,U] rfl rfl (by kernel_rfl) (fun _ _ _ h => h) (Or.inl ⟨by rfl, ?_⟩) ?_ ?_
 rotate_left
 ·intro w'
  go_simp
  with_reducible rfl
 rotate_left
 ·simp only [Act.put, sA, sZ, sS, i64_w, i32_w]
  rfl
 refine last_ (i := 5) (N := none) #[Y,Y,Y,Y,Y,Y] rfl rfl (by kernel_rfl) (by decide) (fun K hK => ?_)
 refine skip_ (w1 := ?_) (by rfl) rfl ?_ ?_
 rotate_left
 ·go_simp
  rfl
 refine hK.out _ _ ?_
 clear hK K
 refine done_ (by kernel_rfl) ?_
 refine nX2_ (fun W => Aside0 (Kd.R k79 79 W w.heap.size (fun _ => True) (.slice (some ⟨cG, 0, none⟩) aG.length bI) dP) ∧ Aside0 (W.heap[aT]? = some (.cells #[.int .i64 0, .slice none 0 0] 28 (0, 0))) ∧ Aside0 (W.heap[aQ]? = some (.cells #[aN, .slice (some ⟨cG, 0, none⟩) aG.length bI] 28 (0, 0))) ∧ Aside0 (IsS175 w W g819 aI dN dO) ∧ Aside0 (Below w.heap.size w W)) ⟨⟨kr HQ20.out⟩, ⟨fR aC.out aA.out⟩, ⟨fR aC.out aE.out⟩, ⟨by repeat (first | (with_reducible first | exact aD.out | apply IsS175.alloc | apply IsS175.drewN | apply IsS175.drew | apply IsS175.set_1 | apply IsS175.set_2 | refine IsS175.far ?_ HN819_go8.out _ | refine IsS175.far ?_ HN819_go8.out _ | refine IsS175.far ?_ HN819_go8.out _ | refine IsS175.far ?_ HN819_go8.out _ | refine IsS175.far ?_ HN819_go8.out _ | refine IsS175.far ?_ HN819_go8.out _ | refine IsS175.far ?_ HN819_go8.out _ | refine IsS175.far ?_ HN819_go8.out _ | refine IsS175.far ?_ HN819_go8.out _ | refine IsS175.far ?_ HN819_go8.out _ | refine IsS175.far ?_ HN819_go8.out _ | refine IsS175.far ?_ aV.out _ | refine IsS175.far ?_ aW.out _) | exact aD.out)⟩, ⟨by repeat (first | (with_reducible first | exact HB.out | apply below_alloc | apply pw_below_drewN | apply below_drew1 | refine below_set ?_ bH.out | refine below_set ?_ bH.out | refine below_set ?_ bH.out | refine below_set ?_ bH.out | refine below_set ?_ bH.out | refine below_set ?_ bH.out | refine below_set ?_ bH.out | refine below_set ?_ bH.out | refine below_set ?_ bH.out | refine below_set ?_ bH.out | refine below_set ?_ bH.out | refine below_set ?_ (IsS175.ge aD.out) | refine below_set ?_ cO.out | refine below_set ?_ cP.out) | exact HB.out)⟩⟩ ?_
 intro gJ nn_
 replace aC := nn_.1
 replace aA := nn_.2.1
 replace aE := nn_.2.2.1
 replace aD := nn_.2.2.2.1
 replace HB := nn_.2.2.2.2
 clear nn_
 have fE := cA2 aE.out
 have fF := aH.out
 have fG := aV.out
 have fH := cA2 aA.out
 try go_wp2
 refine bodyPost_ret (results_cell_row rfl _ _ aT 28 #[aN, .slice (some ⟨cG, 0, none⟩) aG.length bI] (0, 0) _ rfl (bm aA.out) Try.underlying28 rfl (by kernel_rfl)) rfl ?_
 exact ⟨_, xW, by (with_reducible repeat (first | apply Kd.R_alloc | apply Kd.R_drewN | apply Kd.R_drew)); exact Kd.R_mono (kF (p := ⟨aT, 1, none⟩) (kF (p := ⟨aT, 0, none⟩) (Kd.R_types aC.out aA.out (by decide)) (fun _ hk => hk.2) (.int .i64 aN)) (fun _ hk => hk.2) (.slice (some ⟨cG, 0, none⟩) aG.length bI)) (fun _ hk => trivial), IsS175.bl HB.out⟩

def spec_DrawHops.f (k : Nat) (l0 : List Int) : Option (Int × (List (S79))) := (spec_l1New.f k l0).bind fun aA => ((spec_l8Draw.f k aA.1 aA.2.1 aA.2.2).bind fun aC => (some (aC.1, aC.2.1)))
theorem spec_DrawHops.mono : ∀ a0 k, LeO (spec_DrawHops.f k a0) (spec_DrawHops.f (k + 1) a0) := by
 intro a0 k
 unfold spec_DrawHops.f
 repeat' first|(with_reducible first|apply spec_l1New.mono|apply spec_l8Draw.mono|exact LeO.refl _|exact LeO.none _|refine LeO.ite ?_ ?_|refine LeO.bind ?_ (fun _ => ?_))|exact LeO.none _|refine LeO.ite ?_ ?_|refine LeO.bind ?_ (fun _ => ?_)
set_option maxHeartbeats 60000000 in
set_option maxRecDepth 100000 in
theorem spec_DrawHops.calls (k : Nat) (A0 : Option Addr) (c0 : Nat) (l0 : List Int) (r1 : Int) (r2 : List (S79)) (w : World) (hr0 : Kd.C (Kd.int .u8) w A0 l0.length l0) (hc0 : l0.length ≤ c0) (h : spec_DrawHops.f k l0 = some (r1, r2)) :
  Calls Try.prog 39 #[.slice A0 l0.length c0] w fun e w' => ∃ aW : Value, e = .returned (.agg #[r1, aW]) ∧ Kd.R k79 79 w' w.heap.size (fun _ => True) aW r2 ∧ Below w.heap.size w w' := by
 have bN := Try.underlying28
 have bI := aM hr0
 have bJ := aM hc0
 clear hr0 hc0
 have HB := aM (Below.refl w.heap.size w)
 have H : ((spec_l1New.f k l0).bind fun aD => ((spec_l8Draw.f k aD.1 aD.2.1 aD.2.2).bind fun aJ => (some (aJ.1, aJ.2.1)))) = some (r1, r2) := h
 clear h
 obtain ⟨⟨aQ, aT, aV⟩, aX, H⟩ := hB H
 try dsimp only at H
 have A2 := aM aX
 clear aX
 obtain ⟨⟨aH, aI, bG, bH⟩, aZ, H⟩ := hB H
 try dsimp only at H
 have A3 := aM aZ
 clear aZ
 simp only [Option.some.injEq, Prod.mk.injEq] at H
 obtain ⟨rfl, rfl⟩ := H
 go_enter Try.func39, Try.ntmps39
 go_wp2_with (first | ((with_reducible refine gD (N := 2) rfl ?_); refine bE (N := 2) (cs := #[.int .i64 0, .slice none 0 0]) (t := 28) ?_; intro aE hg w4 hbox hb; have aA := aM (hbox); have bL := gF hg HB; have bM := gF hg HB; replace HB := rS HB hb; clear hb hbox hg) | ((with_reducible refine gC (f := 97) rfl ?_); refine gL (some 4) Try.func97 #[.slice A0 l0.length c0] ?_; (with_reducible refine (spec_l1New.calls k _ _ l0 aQ aT aV w _ ?side1 ?side2 ?side3 A2.out).mono ?_); (case side1 => exact bl HB.out); (case side2 => exact bI.out); (case side3 => exact bJ.out); rintro e w5 ⟨g848, rfl, hi, hb, hb2⟩; refine ⟨_, rfl, ?_⟩; have aK := aM (hi); have aG := aM (IsS175.ne_blk hi (bB (bk aA.out) hb2) (by decide)); have aC := aM (Ne.symm (IsS175.ne_blk hi (bB (bk aA.out) hb2) (by decide))); replace aA := aM (bB (bk aA.out) hb2); replace HB := aM (hb); (repeat first|clear hb|clear hb2|clear hi)) | ((with_reducible refine gC (f := 117) rfl ?_); refine gL (some 5) Try.func117 #[.pointer (some ⟨g848, 0, none⟩)] ?_; (with_reducible refine (spec_l8Draw.calls k g848 aQ aT aV aH aI bG bH w _ ?side1 ?side2 A3.out).mono ?_); (case side1 => exact IsS175.mv aK.out); (case side2 => exact IsS175.bl HB.out); rintro e w6 ⟨bO, rfl, ho0, hi, hb, hk⟩; refine ⟨_, rfl, ?_⟩; have aN := aM (Kd.R_lower ho0 (below_size (IsS175.bl HB.out))); replace aA := rP hk aA aC; replace HB := aM (hb); replace aK := aM (hi); (repeat first|clear hb|clear hk|clear hi|clear ho0); have bP := aC.out; have bQ := aG.out; have bR := cA2 aA.out; obtain ⟨bA, bD, bK⟩ := Kd.R_slice aN.out; subst bK))
 refine bodyPost_ret (results_cell_row rfl _ _ aE 28 #[aH, .slice bA aI.length bD] (0, 0) _ rfl (bm aA.out) Try.underlying28 rfl (by kernel_rfl)) rfl ?_
 exact ⟨_, xW, by (with_reducible repeat (first | apply Kd.R_alloc | apply Kd.R_drewN | apply Kd.R_drew)); exact Kd.R_mono (kF (p := ⟨aE, 1, none⟩) (kF (p := ⟨aE, 0, none⟩) (Kd.R_types aN.out aA.out (by decide)) (fun _ hk => hk.2) (.int .i64 aH)) (fun _ hk => hk.2) (.slice bA aI.length bD)) (fun _ hk => trivial), IsS175.bl HB.out⟩

def impl_Own.f (k : Nat) (aD : Int) (aC : List (S79)) (a1 : Int) : Option (Int × Int × Int × Int) := (impl_inRange.f a1 0 (wrap64 ((aC.length : Int) - 1))).bind fun aE => (if aE = true then ((impl_BridgeOk.f k aD aC).bind fun aG => (if aG = true then ((impl_Bridge_own.f k aD aC a1).bind fun aA => (some (aA.1, aA.2.1, aA.2.2.1, aA.2.2.2))) else (some (0, 0, 0, 0)))) else (some (0, 0, 0, 0)))
theorem impl_Own.mono : ∀ a0 a1 a2 k, LeO (impl_Own.f k a0 a1 a2) (impl_Own.f (k + 1) a0 a1 a2) := by
 intro a0 a1 a2 k
 unfold impl_Own.f
 repeat' first|(with_reducible first|apply impl_BridgeOk.mono|apply impl_Bridge_own.mono|exact LeO.refl _|exact LeO.none _|refine LeO.ite ?_ ?_|refine LeO.bind ?_ (fun _ => ?_))|exact LeO.none _|refine LeO.ite ?_ ?_|refine LeO.bind ?_ (fun _ => ?_)
set_option maxHeartbeats 60000000 in
set_option maxRecDepth 100000 in
theorem impl_Own.calls (k : Nat) (aH : Int) (aN : Option Addr) (aQ : Nat) (aD : List (S79)) (a1 : Int) (r1 : Int) (r2 : Int) (r3 : Int) (r4 : Int) (w : World) (hr0_1 : Kd.C k79 w aN aD.length aD) (hc0_1 : aD.length ≤ aQ) (h : impl_Own.f k aH aD a1 = some (r1, r2, r3, r4)) :
  Calls Try.prog 40 #[.agg #[aH, .slice aN aD.length aQ], a1] w fun e w' => e = .returned (.agg #[r1, r2, r3, r4]) ∧ Below w.heap.size w w' := by
 have cE := Try.underlying28
 have cG := Try.underlying73
 have aT := aM hr0_1
 have aV := aM hc0_1
 clear hr0_1 hc0_1
 have HB := aM (Below.refl w.heap.size w)
 have H : ((impl_inRange.f a1 0 (wrap64 ((aD.length : Int) - 1))).bind fun aW => (if aW = true then ((impl_BridgeOk.f k aH aD).bind fun aX => (if aX = true then ((impl_Bridge_own.f k aH aD a1).bind fun aJ => (some (aJ.1, aJ.2.1, aJ.2.2.1, aJ.2.2.2))) else (some (0, 0, 0, 0)))) else (some (0, 0, 0, 0)))) = some (r1, r2, r3, r4) := h
 clear h
 obtain ⟨aW, bN, H⟩ := hB H
 have A3 := aM bN
 clear bN
 by_cases c4 : aW = true
 case neg =>
  replace c4 := Bool.eq_false_iff.mpr c4
  subst c4
  replace H := hF H
  simp only [Option.some.injEq, Prod.mk.injEq] at H
  obtain ⟨rfl, rfl, rfl, rfl⟩ := H
  go_enter Try.func40, Try.ntmps40
  go_wp2_with (first | ((with_reducible refine gD (N := 2) rfl ?_); refine bE (N := 2) (cs := #[aH, .slice aN aD.length aQ]) (t := 28) ?_; intro aK hg cH hbox hb; have aA := aM (hbox); have aZ := gF hg HB; have bA := gF hg HB; replace HB := rS HB hb; clear hb hbox hg) | ((with_reducible refine gD (N := 4) rfl ?_); refine bE (N := 4) (cs := #[.int .i64 0, .int .i64 0, .int .i64 0, .int .i64 0]) (t := 73) ?_; intro aI hg bH hbox hb; have aC := aM (hbox); have bD := gF hg HB; have bG := gF hg HB; have aE := nM hg aA; have aG := nH hg aA; replace aA := rB aA hb; replace HB := rS HB hb; clear hb hbox hg; have bQ := aE.out; have bR := aG.out; have bT := cA2 aA.out) | ((with_reducible refine gC (f := 86) rfl ?_); refine gL (some 10) Try.func86 #[a1, .int .i64 0, .int .i64 (wrap64 ((aD.length : Int) - 1))] ?_; (with_reducible refine (impl_inRange.calls a1 0 (wrap64 ((aD.length : Int) - 1)) false _ A3.out).mono ?_); rintro e w' ⟨rfl, ⟨nd, rfl⟩⟩; refine ⟨_, rfl, ?_⟩; (try (rw [drewN_self bH]; generalize hq_ : World.drewN bH _ = bH; replace aA := qB hq_ (bk aA.out); replace aC := qB hq_ (bk aC.out); replace HB := qL hq_ (bl HB.out); clear hq_)); have bU := cA4 aC.out; have hcw_gb855_0 := cI aA.out 0; have hfw_gb855_0 := bF aA.out 0; have hcw_gb855_1 := cI aA.out 1; have hfw_gb855_1 := bF aA.out 1))
  refine bodyPost_ret (results_cell_row rfl _ _ aI 73 #[.int .i64 0, .int .i64 0, .int .i64 0, .int .i64 0] (0, 0) _ rfl (bm aC.out) Try.underlying73 rfl (by kernel_rfl)) rfl ?_
  exact ⟨xW, bl HB.out⟩
 subst c4
 replace H := hP H rfl
 obtain ⟨aX, bO, H⟩ := hB H
 have A5 := aM bO
 clear bO
 by_cases c6 : aX = true
 case neg =>
  replace c6 := Bool.eq_false_iff.mpr c6
  subst c6
  replace H := hF H
  simp only [Option.some.injEq, Prod.mk.injEq] at H
  obtain ⟨rfl, rfl, rfl, rfl⟩ := H
  go_enter Try.func40, Try.ntmps40
  go_wp2_with (first | ((with_reducible refine gD (N := 2) rfl ?_); refine bE (N := 2) (cs := #[aH, .slice aN aD.length aQ]) (t := 28) ?_; intro aK hg cK hbox hb; have aA := aM (hbox); have aZ := gF hg HB; have bA := gF hg HB; replace HB := rS HB hb; clear hb hbox hg) | ((with_reducible refine gD (N := 4) rfl ?_); refine bE (N := 4) (cs := #[.int .i64 0, .int .i64 0, .int .i64 0, .int .i64 0]) (t := 73) ?_; intro aI hg bI hbox hb; have aC := aM (hbox); have bD := gF hg HB; have bG := gF hg HB; have aE := nM hg aA; have aG := nH hg aA; replace aA := rB aA hb; replace HB := rS HB hb; clear hb hbox hg; have bV := aE.out; have bW := aG.out; have bX := cA2 aA.out) | ((with_reducible refine gC (f := 86) rfl ?_); refine gL (some 10) Try.func86 #[a1, .int .i64 0, .int .i64 (wrap64 ((aD.length : Int) - 1))] ?_; (with_reducible refine (impl_inRange.calls a1 0 (wrap64 ((aD.length : Int) - 1)) true _ A3.out).mono ?_); rintro e w' ⟨rfl, ⟨nd, rfl⟩⟩; refine ⟨_, rfl, ?_⟩; (try (rw [drewN_self bI]; generalize hq_ : World.drewN bI _ = bI; replace aA := qB hq_ (bk aA.out); replace aC := qB hq_ (bk aC.out); replace HB := qL hq_ (bl HB.out); clear hq_)); have hcw_gb855_0 := cI aA.out 0; have hfw_gb855_0 := bF aA.out 0; have hcw_gb855_1 := cI aA.out 1; have hfw_gb855_1 := bF aA.out 1; have hcw_gb856_0 := cI aC.out 0; have hfw_gb856_0 := bF aC.out 0; have hcw_gb856_1 := cI aC.out 1; have hfw_gb856_1 := bF aC.out 1; have hcw_gb856_2 := cI aC.out 2; have hfw_gb856_2 := bF aC.out 2; have hcw_gb856_3 := cI aC.out 3; have hfw_gb856_3 := bF aC.out 3) | (go_at_call 45; (with_reducible refine (impl_BridgeOk.calls k aH _ _ aD false _ ?side1 ?side2 A5.out).mono ?_); (case side1 => exact cM (cB aT.out HB.out)); (case side2 => exact aV.out); rintro e cL ⟨rfl, hb⟩; replace aA := rB aA hb; replace aC := rB aC hb; replace HB := rS HB hb; (try clear hb); have bY := cA4 aC.out; have hcw_gb855_0 := cI aA.out 0; have hfw_gb855_0 := bF aA.out 0; have hcw_gb855_1 := cI aA.out 1; have hfw_gb855_1 := bF aA.out 1))
  refine bodyPost_ret (results_cell_row rfl _ _ aI 73 #[.int .i64 0, .int .i64 0, .int .i64 0, .int .i64 0] (0, 0) _ rfl (bm aC.out) Try.underlying73 rfl (by kernel_rfl)) rfl ?_
  exact ⟨xW, bl HB.out⟩
 subst c6
 replace H := hP H rfl
 obtain ⟨⟨bJ, bK, bL, bM⟩, bP, H⟩ := hB H
 try dsimp only at H
 have A7 := aM bP
 clear bP
 simp only [Option.some.injEq, Prod.mk.injEq] at H
 obtain ⟨rfl, rfl, rfl, rfl⟩ := H
 go_enter Try.func40, Try.ntmps40
 go_wp2_with (first | ((with_reducible refine gD (N := 2) rfl ?_); refine bE (N := 2) (cs := #[aH, .slice aN aD.length aQ]) (t := 28) ?_; intro aK hg w8 hbox hb; have aA := aM (hbox); have aZ := gF hg HB; have bA := gF hg HB; replace HB := rS HB hb; clear hb hbox hg) | ((with_reducible refine gD (N := 4) rfl ?_); refine bE (N := 4) (cs := #[.int .i64 0, .int .i64 0, .int .i64 0, .int .i64 0]) (t := 73) ?_; intro aI hg w9 hbox hb; have aC := aM (hbox); have bD := gF hg HB; have bG := gF hg HB; have aE := nM hg aA; have aG := nH hg aA; replace aA := rB aA hb; replace HB := rS HB hb; clear hb hbox hg; have bZ := aE.out; have cA := aG.out; have cC := cA2 aA.out) | ((with_reducible refine gC (f := 86) rfl ?_); refine gL (some 10) Try.func86 #[a1, .int .i64 0, .int .i64 (wrap64 ((aD.length : Int) - 1))] ?_; (with_reducible refine (impl_inRange.calls a1 0 (wrap64 ((aD.length : Int) - 1)) true _ A3.out).mono ?_); rintro e w' ⟨rfl, ⟨nd, rfl⟩⟩; refine ⟨_, rfl, ?_⟩; (try (rw [drewN_self w9]; generalize hq_ : World.drewN w9 _ = w9; replace aA := qB hq_ (bk aA.out); replace aC := qB hq_ (bk aC.out); replace HB := qL hq_ (bl HB.out); clear hq_)); have hcw_gb855_0 := cI aA.out 0; have hfw_gb855_0 := bF aA.out 0; have hcw_gb855_1 := cI aA.out 1; have hfw_gb855_1 := bF aA.out 1; have hcw_gb856_0 := cI aC.out 0; have hfw_gb856_0 := bF aC.out 0; have hcw_gb856_1 := cI aC.out 1; have hfw_gb856_1 := bF aC.out 1; have hcw_gb856_2 := cI aC.out 2; have hfw_gb856_2 := bF aC.out 2; have hcw_gb856_3 := cI aC.out 3; have hfw_gb856_3 := bF aC.out 3) | (go_at_call 45; (with_reducible refine (impl_BridgeOk.calls k aH _ _ aD true _ ?side1 ?side2 A5.out).mono ?_); (case side1 => exact cM (cB aT.out HB.out)); (case side2 => exact aV.out); rintro e cN ⟨rfl, hb⟩; replace aA := rB aA hb; replace aC := rB aC hb; replace HB := rS HB hb; (try clear hb); have hcw_gb855_0 := cI aA.out 0; have hfw_gb855_0 := bF aA.out 0; have hcw_gb855_1 := cI aA.out 1; have hfw_gb855_1 := bF aA.out 1; have hcw_gb856_0 := cI aC.out 0; have hfw_gb856_0 := bF aC.out 0; have hcw_gb856_1 := cI aC.out 1; have hfw_gb856_1 := bF aC.out 1; have hcw_gb856_2 := cI aC.out 2; have hfw_gb856_2 := bF aC.out 2; have hcw_gb856_3 := cI aC.out 3; have hfw_gb856_3 := bF aC.out 3) | ((with_reducible refine gC (f := 120) rfl ?_); refine gL (some 19) Try.func120 #[.pointer (some ⟨aK, 0, none⟩), a1] ?_; (with_reducible refine (impl_Bridge_own.calls (gb := aK) (hBK := (bk aA.out)) k aH _ _ aD a1 bJ bK bL bM _ ?side1 ?side2 A7.out).mono ?_); (case side1 => exact cM (cB aT.out HB.out)); (case side2 => exact aV.out); rintro e cO ⟨rfl, hb⟩; refine ⟨_, rfl, ?_⟩; replace aA := rB aA hb; replace aC := rB aC hb; replace HB := rS HB hb; (try clear hb); have cD := cA4 aC.out; have hcw_gb855_0 := cI aA.out 0; have hfw_gb855_0 := bF aA.out 0; have hcw_gb855_1 := cI aA.out 1; have hfw_gb855_1 := bF aA.out 1))
 refine bodyPost_ret (results_cell_row rfl _ _ aI 73 #[bJ, bK, bL, bM] (0, 0) _ rfl (bm aC.out) Try.underlying73 rfl (by kernel_rfl)) rfl ?_
 exact ⟨xW, bl HB.out⟩

mutual
def laws_sameBridge.j0 : Nat → Bool → Int → List (S79) → Int → List (S79) → Option (Bool)
 | 0, _, _, _, _, _ => none
 | k + 1, aG, aA, aC, aD, aE => if aG = true then (some false) else (laws_sameBridge.l0 k 0 aA aC aD aE)
def laws_sameBridge.l0 : Nat → Int → Int → List (S79) → Int → List (S79) → Option (Bool)
 | 0, _, _, _, _, _ => none
 | k + 1, x5, aD, aA, aE, aC => if x5 < (aA.length : Int) then (if 0 ≤ x5 then (if x5 < (aC.length : Int) then (if (!(((rd_T79 aA x5).f0) == ((rd_T79 aC x5).f0)) || (!(((rd_T79 aA x5).f1) == ((rd_T79 aC x5).f1)) || ((!(((rd_T79 aA x5).f2.f0) == ((rd_T79 aC x5).f2.f0)) || (!(((rd_T79 aA x5).f2.f1) == ((rd_T79 aC x5).f2.f1)) || (!(((rd_T79 aA x5).f2.f2) == ((rd_T79 aC x5).f2.f2)) || (!(((rd_T79 aA x5).f2.f3) == ((rd_T79 aC x5).f2.f3)))))) || (!(((rd_T79 aA x5).f3) == ((rd_T79 aC x5).f3)) || (!(((rd_T79 aA x5).f4) == ((rd_T79 aC x5).f4)) || (!(((rd_T79 aA x5).f5) == ((rd_T79 aC x5).f5)) || (!(((rd_T79 aA x5).f6) == ((rd_T79 aC x5).f6)) || (!(((rd_T79 aA x5).f7) == ((rd_T79 aC x5).f7)))))))))) = true then (some false) else (laws_sameBridge.l0 k (wrap64 (x5 + 1)) aD aA aE aC)) else (none)) else (none)) else (some true)
end
def laws_sameBridge.f (k : Nat) (aA : Int) (aC : List (S79)) (aD : Int) (aE : List (S79)) : Option (Bool) := if aA = aD then (laws_sameBridge.j0 k ((aC.length : Int) != (aE.length : Int)) aA aC aD aE) else (laws_sameBridge.j0 k true aA aC aD aE)
theorem laws_sameBridge.mono_l : ∀ k, (∀ y0 y1 y2 y3 y4, LeO (laws_sameBridge.j0 k y0 y1 y2 y3 y4) (laws_sameBridge.j0 (k + 1) y0 y1 y2 y3 y4)) ∧ (∀ y0 y1 y2 y3 y4, LeO (laws_sameBridge.l0 k y0 y1 y2 y3 y4) (laws_sameBridge.l0 (k + 1) y0 y1 y2 y3 y4))
 | 0 => ⟨fun _ _ _ _ _ r h => by simp [laws_sameBridge.j0] at h, fun _ _ _ _ _ r h => by simp [laws_sameBridge.l0] at h⟩
 | k + 1 => by
  obtain ⟨ih0, ih1⟩ := laws_sameBridge.mono_l k
  refine ⟨?_, ?_⟩
  ·intro y0 y1 y2 y3 y4
   unfold laws_sameBridge.j0
   repeat' first|(with_reducible first|apply ih0|apply ih1|exact LeO.refl _|exact LeO.none _|refine LeO.ite ?_ ?_|refine LeO.bind ?_ (fun _ => ?_))|exact LeO.none _|refine LeO.ite ?_ ?_|refine LeO.bind ?_ (fun _ => ?_)
  ·intro y0 y1 y2 y3 y4
   unfold laws_sameBridge.l0
   repeat' first|(with_reducible first|apply ih0|apply ih1|exact LeO.refl _|exact LeO.none _|refine LeO.ite ?_ ?_|refine LeO.bind ?_ (fun _ => ?_))|exact LeO.none _|refine LeO.ite ?_ ?_|refine LeO.bind ?_ (fun _ => ?_)
theorem laws_sameBridge.mono : ∀ a0 a1 a2 a3 k, LeO (laws_sameBridge.f k a0 a1 a2 a3) (laws_sameBridge.f (k + 1) a0 a1 a2 a3) := by
 intro a0 a1 a2 a3 k
 obtain ⟨ih0, ih1⟩ := laws_sameBridge.mono_l k
 unfold laws_sameBridge.f
 repeat' first|(with_reducible first|apply ih0|apply ih1|exact LeO.refl _|exact LeO.none _|refine LeO.ite ?_ ?_|refine LeO.bind ?_ (fun _ => ?_))|exact LeO.none _|refine LeO.ite ?_ ?_|refine LeO.bind ?_ (fun _ => ?_)
set_option maxHeartbeats 60000000 in
set_option maxRecDepth 100000 in
theorem laws_sameBridge.calls (k : Nat) (aG : Int) (bU : Option Addr) (bV : Nat) (aC : List (S79)) (aH : Int) (bW : Option Addr) (bX : Nat) (aD : List (S79)) (r : Bool) (w : World) (hr0_1 : Kd.C k79 w bU aC.length aC) (hc0_1 : aC.length ≤ bV) (hr1_1 : Kd.C k79 w bW aD.length aD) (hc1_1 : aD.length ≤ bX) (h : laws_sameBridge.f k aG aC aH aD = some r) :
  Calls Try.prog 42 #[.agg #[aG, .slice bU aC.length bV], .agg #[aH, .slice bW aD.length bX]] w fun e w' => e = .returned (.bool r) ∧ Below w.heap.size w w' := by
 have eP := Try.underlying28
 have eQ := Try.underlying79
 have cR := aM hr0_1
 have dY := aM hc0_1
 clear hr0_1 hc0_1
 have cS := aM hr1_1
 have dZ := aM hc1_1
 clear hr1_1 hc1_1
 have HB := aM (Below.refl w.heap.size w)
 have H : (if aG = aH then (laws_sameBridge.j0 k ((aC.length : Int) != (aD.length : Int)) aG aC aH aD) else (laws_sameBridge.j0 k true aG aC aH aD)) = some r := h
 clear h
 have dG := aM H
 clear H
 go_enter Try.func42, Try.ntmps42
 go_upto_region 1 with (first | ((with_reducible refine gD (N := 2) rfl ?_); (try (refine gate_guard (by rfl) ?_; dsimp only)); refine bE (N := 2) (cs := #[aG, .slice bU aC.length bV]) (t := 28) ?_; intro cE hg w4 hbox hb; have aE := aM (hbox); have cT := gF hg HB; have cU := gF hg HB; replace HB := rS HB hb; clear hb hbox hg) | ((with_reducible refine gD (N := 3) rfl ?_); (try (refine gate_guard (by rfl) ?_; dsimp only)); refine bE (N := 3) (cs := #[aH, .slice bW aD.length bX]) (t := 28) ?_; intro cG hg w5 hbox hb; have aK := aM (hbox); have cV := gF hg HB; have cW := gF hg HB; have aI := nM hg aE; have aJ := nH hg aE; replace aE := rB aE hb; replace HB := rS HB hb; clear hb hbox hg))
 repeat (go_quiet (first | ((with_reducible refine gD (N := 2) rfl ?_); (try (refine gate_guard (by rfl) ?_; dsimp only)); refine bE (N := 2) (cs := #[aG, .slice bU aC.length bV]) (t := 28) ?_; intro cE hg w4 hbox hb; have aE := aM (hbox); have cT := gF hg HB; have cU := gF hg HB; replace HB := rS HB hb; clear hb hbox hg) | ((with_reducible refine gD (N := 3) rfl ?_); (try (refine gate_guard (by rfl) ?_; dsimp only)); refine bE (N := 3) (cs := #[aH, .slice bW aD.length bX]) (t := 28) ?_; intro cG hg w5 hbox hb; have aK := aM (hbox); have cV := gF hg HB; have cW := gF hg HB; have aI := nM hg aE; have aJ := nH hg aE; replace aE := rB aE hb; replace HB := rS HB hb; clear hb hbox hg)); go_upto_region 1 with (first | ((with_reducible refine gD (N := 2) rfl ?_); (try (refine gate_guard (by rfl) ?_; dsimp only)); refine bE (N := 2) (cs := #[aG, .slice bU aC.length bV]) (t := 28) ?_; intro cE hg w4 hbox hb; have aE := aM (hbox); have cT := gF hg HB; have cU := gF hg HB; replace HB := rS HB hb; clear hb hbox hg) | ((with_reducible refine gD (N := 3) rfl ?_); (try (refine gate_guard (by rfl) ?_; dsimp only)); refine bE (N := 3) (cs := #[aH, .slice bW aD.length bX]) (t := 28) ?_; intro cG hg w5 hbox hb; have aK := aM (hbox); have cV := gF hg HB; have cW := gF hg HB; have aI := nM hg aE; have aJ := nH hg aE; replace aE := rB aE hb; replace HB := rS HB hb; clear hb hbox hg)))
 (try simp only [Act.put, sA, sZ, sS])
 go_cut [19] (fun dW wc => ∃ (kq : Nat) (cH : Bool), dW = .bool cH ∧ Aside0 (laws_sameBridge.j0 kq cH aG aC aH aD = some r) ∧ Aside0 (kq ≤ k) ∧ Aside0 (wc.heap[cE]? = some (.cells #[aG, (.slice bU aC.length bV)] 28 (0, 0))) ∧ Aside0 (wc.heap[cG]? = some (.cells #[aH, (.slice bW aD.length bX)] 28 (0, 0))) ∧ Aside0 (Below w.heap.size w wc))
 case first =>
  have H := dG.out
  clear dG
  by_cases c6 : aG = aH
  case neg =>
   rw [if_neg c6] at H
   have bY : (aG == aH) = false := beq_eq_false_iff_ne.mpr c6
   have cO : (aG != aH) = true := bne_iff_ne.mpr c6
   (first | rw [bY] | (simp only [i64_w, i32_w]; rw [bY]) | skip)
   have H' := aM H
   clear H
   have eA := aI.out
   have eB := aJ.out
   have cX := cA2 aE.out
   have cY := cA2 aK.out
   go_wp2
   repeat (go_quiet (fail); try go_wp2)
   go_meet
   case rel => exact ⟨_, (true), xE, H', ⟨by first | omega | exact Nat.le_refl _⟩, ⟨bk aE.out⟩, ⟨bk aK.out⟩, ⟨bl HB.out⟩⟩
  rw [if_pos c6] at H
  have bY : (aG == aH) = true := beq_iff_eq.mpr c6
  have cO : (aG != aH) = false := bne_eq_false_iff_eq.mpr c6
  clear c6
  (first | rw [bY] | (simp only [i64_w, i32_w]; rw [bY]) | skip)
  have H' := aM H
  clear H
  have eR := aI.out
  have eS := aJ.out
  have dH := cA2 aE.out
  have dI := cA2 aK.out
  go_wp2
  repeat (go_quiet (fail); try go_wp2)
  go_meet
  case rel => exact ⟨_, (((aC.length : Int) != (aD.length : Int))), xE, H', ⟨by first | omega | exact Nat.le_refl _⟩, ⟨bk aE.out⟩, ⟨bk aK.out⟩, ⟨bl HB.out⟩⟩
 case rest =>
  clear dG
  repeat first|clear c1|clear p2|clear c4|clear c6|clear bY|clear cO|clear c7|clear dX|clear cX|clear dA|clear cY|clear dB|clear dH|clear dJ|clear dI|clear dK|clear dC|clear dD|clear dE|clear dF|clear dL|clear dM|clear dN|clear dO
  obtain ⟨kq, cH, rfl, HA, HJ2, aE, aK, HB⟩ := hcut
  cases kq with
  | zero => exact absurd HA.out (by simp [laws_sameBridge.j0])
  | succ dU =>
   have H := HA.out
   clear HA
   simp only [laws_sameBridge.j0] at H
   by_cases cN : cH = true
   case pos =>
    subst cN
    replace H := hP H rfl
    obtain rfl := Option.some.inj H
    go_wp2
    repeat (go_quiet (fail); try go_wp2)
    go_ret
    exact ⟨xW, bl HB.out⟩
   replace cN := Bool.eq_false_iff.mpr cN
   subst cN
   replace H := hF H
   have H' := aM H
   clear H
   go_wp2
   repeat (go_quiet (fail); try go_wp2)
   go_loopg [5] dU (fun kq v5 w' => ∃ (aA : Int), v5 = .int .i64 aA ∧ Aside0 (laws_sameBridge.l0 kq aA aG aC aH aD = some r) ∧ Aside0 (kq ≤ dU) ∧ Aside0 (w'.heap[cE]? = some (.cells #[aG, (.slice bU aC.length bV)] 28 (0, 0))) ∧ Aside0 (w'.heap[cG]? = some (.cells #[aH, (.slice bW aD.length bX)] 28 (0, 0))) ∧ Aside0 (Below w.heap.size w w'))
   case atStart => exact ⟨(0), xE, H', ⟨Nat.le_refl _⟩, ⟨bk aE.out⟩, ⟨bk aK.out⟩, ⟨bl HB.out⟩⟩
   case round =>
    clear H'
    repeat first|clear c1|clear p2|clear c4|clear c6|clear bY|clear cO|clear c7|clear dX|clear cN|clear cX|clear dA|clear cY|clear dB|clear dH|clear dJ|clear dI|clear dK|clear dC|clear dD|clear dE|clear dF|clear dL|clear dM|clear dN|clear dO|clear p2
    obtain ⟨aA, rfl, HA, dV, aE, aK, HB⟩ := hrel
    cases gk with
    | zero => exact absurd HA.out (by simp [laws_sameBridge.l0])
    | succ k2 =>
     have H := HA.out
     clear HA
     simp only [laws_sameBridge.l0] at H
     by_cases cK : aA < (aC.length : Int)
     case neg =>
      rw [if_neg cK] at H
      have dP := decide_eq_false cK
      clear cK
      obtain rfl := Option.some.inj H
      have eC := aI.out
      have eD := aJ.out
      have eE := cA2 aE.out
      go_wp2
      repeat (go_quiet (fail); try go_wp2)
      go_ret
      exact ⟨xW, bl HB.out⟩
     rw [if_pos cK] at H
     have dP := decide_eq_true cK
     clear cK
     obtain ⟨eF, H⟩ := gI H
     obtain ⟨eG, H⟩ := gI H
     by_cases cL : (!(((rd_T79 aC aA).f0) == ((rd_T79 aD aA).f0)) || (!(((rd_T79 aC aA).f1) == ((rd_T79 aD aA).f1)) || ((!(((rd_T79 aC aA).f2.f0) == ((rd_T79 aD aA).f2.f0)) || (!(((rd_T79 aC aA).f2.f1) == ((rd_T79 aD aA).f2.f1)) || (!(((rd_T79 aC aA).f2.f2) == ((rd_T79 aD aA).f2.f2)) || (!(((rd_T79 aC aA).f2.f3) == ((rd_T79 aD aA).f2.f3)))))) || (!(((rd_T79 aC aA).f3) == ((rd_T79 aD aA).f3)) || (!(((rd_T79 aC aA).f4) == ((rd_T79 aD aA).f4)) || (!(((rd_T79 aC aA).f5) == ((rd_T79 aD aA).f5)) || (!(((rd_T79 aC aA).f6) == ((rd_T79 aD aA).f6)) || (!(((rd_T79 aC aA).f7) == ((rd_T79 aD aA).f7)))))))))) = true
     case pos =>
      rw [if_pos cL] at H
      have dQ : (!(((rd_T79 aC aA).f0) == ((rd_T79 aD aA).f0)) || (!(((rd_T79 aC aA).f1) == ((rd_T79 aD aA).f1)) || ((!(((rd_T79 aC aA).f2.f0) == ((rd_T79 aD aA).f2.f0)) || (!(((rd_T79 aC aA).f2.f1) == ((rd_T79 aD aA).f2.f1)) || (!(((rd_T79 aC aA).f2.f2) == ((rd_T79 aD aA).f2.f2)) || (!(((rd_T79 aC aA).f2.f3) == ((rd_T79 aD aA).f2.f3)))))) || (!(((rd_T79 aC aA).f3) == ((rd_T79 aD aA).f3)) || (!(((rd_T79 aC aA).f4) == ((rd_T79 aD aA).f4)) || (!(((rd_T79 aC aA).f5) == ((rd_T79 aD aA).f5)) || (!(((rd_T79 aC aA).f6) == ((rd_T79 aD aA).f6)) || (!(((rd_T79 aC aA).f7) == ((rd_T79 aD aA).f7)))))))))) = true := cL
      clear cL
      obtain rfl := Option.some.inj H
      have eH := aI.out
      have eI := aJ.out
      have eJ := cA2 aE.out
      have bZ : 0 ≤ (aA : Int) := dT
      have cA : aA < (aC.length : Int) := dT
      obtain ⟨dR, cP, aT, aV, aW, aX, aZ, bA, bD, bG, bH, bI, aN⟩ := at_T79 cR.out aA bZ cA
      cases cP
      replace aT := xB HB aT
      replace aV := xB HB aV
      replace aW := xB HB aW
      replace aX := xB HB aX
      replace aZ := xB HB aZ
      replace bA := xB HB bA
      replace bD := xB HB bD
      replace bG := xB HB bG
      replace bH := xB HB bH
      replace bI := xB HB bI
      replace aN := xB HB aN
      replace bZ := eq_true bZ
      replace cA := eq_true cA
      have eK := cA2 aK.out
      have cC : 0 ≤ (aA : Int) := dT
      have cD : aA < (aD.length : Int) := dT
      obtain ⟨dS, cQ, bJ, bK, bL, bM, bN, bO, bP, bQ, bR, bT, aQ⟩ := at_T79 cS.out aA cC cD
      cases cQ
      replace bJ := xB HB bJ
      replace bK := xB HB bK
      replace bL := xB HB bL
      replace bM := xB HB bM
      replace bN := xB HB bN
      replace bO := xB HB bO
      replace bP := xB HB bP
      replace bQ := xB HB bQ
      replace bR := xB HB bR
      replace bT := xB HB bT
      replace aQ := xB HB aQ
      replace cC := eq_true cC
      replace cD := eq_true cD
      go_wp2
      repeat (go_quiet (fail); try go_wp2)
      go_ret
      exact ⟨xW, bl HB.out⟩
     rw [if_neg cL] at H
     have dQ : (!(((rd_T79 aC aA).f0) == ((rd_T79 aD aA).f0)) || (!(((rd_T79 aC aA).f1) == ((rd_T79 aD aA).f1)) || ((!(((rd_T79 aC aA).f2.f0) == ((rd_T79 aD aA).f2.f0)) || (!(((rd_T79 aC aA).f2.f1) == ((rd_T79 aD aA).f2.f1)) || (!(((rd_T79 aC aA).f2.f2) == ((rd_T79 aD aA).f2.f2)) || (!(((rd_T79 aC aA).f2.f3) == ((rd_T79 aD aA).f2.f3)))))) || (!(((rd_T79 aC aA).f3) == ((rd_T79 aD aA).f3)) || (!(((rd_T79 aC aA).f4) == ((rd_T79 aD aA).f4)) || (!(((rd_T79 aC aA).f5) == ((rd_T79 aD aA).f5)) || (!(((rd_T79 aC aA).f6) == ((rd_T79 aD aA).f6)) || (!(((rd_T79 aC aA).f7) == ((rd_T79 aD aA).f7)))))))))) = false := by simpa using cL
     clear cL
     have H' := aM H
     clear H
     have eL := aI.out
     have eM := aJ.out
     have eN := cA2 aE.out
     have bZ : 0 ≤ (aA : Int) := dT
     have cA : aA < (aC.length : Int) := dT
     obtain ⟨dR, cP, aT, aV, aW, aX, aZ, bA, bD, bG, bH, bI, aN⟩ := at_T79 cR.out aA bZ cA
     cases cP
     replace aT := xB HB aT
     replace aV := xB HB aV
     replace aW := xB HB aW
     replace aX := xB HB aX
     replace aZ := xB HB aZ
     replace bA := xB HB bA
     replace bD := xB HB bD
     replace bG := xB HB bG
     replace bH := xB HB bH
     replace bI := xB HB bI
     replace aN := xB HB aN
     replace bZ := eq_true bZ
     replace cA := eq_true cA
     have eO := cA2 aK.out
     have cC : 0 ≤ (aA : Int) := dT
     have cD : aA < (aD.length : Int) := dT
     obtain ⟨dS, cQ, bJ, bK, bL, bM, bN, bO, bP, bQ, bR, bT, aQ⟩ := at_T79 cS.out aA cC cD
     cases cQ
     replace bJ := xB HB bJ
     replace bK := xB HB bK
     replace bL := xB HB bL
     replace bM := xB HB bM
     replace bN := xB HB bN
     replace bO := xB HB bO
     replace bP := xB HB bP
     replace bQ := xB HB bQ
     replace bR := xB HB bR
     replace bT := xB HB bT
     replace aQ := xB HB aQ
     replace cC := eq_true cC
     replace cD := eq_true cD
     go_wp2
     repeat (go_quiet (fail); try go_wp2)
     go_roundg k2
     case measure => have := HJ2.out; have := dV.out; omega
     case rel => exact ⟨(wrap64 (aA + 1)), xE, H', ⟨by have := HJ2.out; have := dV.out; omega⟩, ⟨bk aE.out⟩, ⟨bk aK.out⟩, ⟨bl HB.out⟩⟩

def impl_Bridge_hops.f (k : Nat) (aD : Int) (aC : List (S79)) : Option (Int) := (impl_Bridge_rootPort.f k aD aC).bind fun aA => (if aA ≥ 0 then (if 0 ≤ aA then (if aA < (aC.length : Int) then (some (wrap64 (((rd_T79 aC aA).f3) + 1))) else (none)) else (none)) else (some 0))
theorem impl_Bridge_hops.mono : ∀ a0 a1 k, LeO (impl_Bridge_hops.f k a0 a1) (impl_Bridge_hops.f (k + 1) a0 a1) := by
 intro a0 a1 k
 unfold impl_Bridge_hops.f
 repeat' first|(with_reducible first|apply impl_Bridge_rootPort.mono|exact LeO.refl _|exact LeO.none _|refine LeO.ite ?_ ?_|refine LeO.bind ?_ (fun _ => ?_))|exact LeO.none _|refine LeO.ite ?_ ?_|refine LeO.bind ?_ (fun _ => ?_)
set_option maxHeartbeats 60000000 in
set_option maxRecDepth 100000 in
theorem impl_Bridge_hops.calls (k : Nat) (aX : Int) (bH : Option Addr) (bI : Nat) (aA : List (S79)) (r : Int) (w : World) (gb : Nat) (hBK : w.heap[gb]? = some (.cells #[aX, .slice bH aA.length bI] 28 (0, 0))) (hr0_1 : Kd.C k79 w bH aA.length aA) (hc0_1 : aA.length ≤ bI) (h : impl_Bridge_hops.f k aX aA = some r) :
  Calls Try.prog 121 #[.pointer (some ⟨gb, 0, none⟩)] w fun e w' => e = .returned (.int .i64 r) ∧ Below w.heap.size w w' := by
 have bN := Try.underlying28
 have aZ := aM hr0_1
 have bG := aM hc0_1
 clear hr0_1 hc0_1
 have HB := aM (Below.refl w.heap.size w)
 have H : ((impl_Bridge_rootPort.f k aX aA).bind fun aC => (if aC ≥ 0 then (if 0 ≤ aC then (if aC < (aA.length : Int) then (some (wrap64 (((rd_T79 aA aC).f3) + 1))) else (none)) else (none)) else (some 0))) = some r := h
 clear h
 obtain ⟨aC, bJ, H⟩ := hB H
 have A2 := aM bJ
 clear bJ
 by_cases c3 : aC ≥ 0
 case neg =>
  rw [if_neg c3] at H
  have bK := decide_eq_false c3
  clear c3
  obtain rfl := Option.some.inj H
  go_enter Try.func121, Try.ntmps121
  have aD := aM hBK
  clear hBK
  go_wp2_with (first | ((with_reducible refine gC (f := 118) rfl ?_); refine gL (some 5) Try.func118 #[.pointer (some ⟨gb, 0, none⟩)] ?_; (with_reducible refine (impl_Bridge_rootPort.calls (gb := gb) (hBK := (bk aD.out)) k aX _ _ aA aC _ ?side1 ?side2 A2.out).mono ?_); (case side1 => exact cM (cB aZ.out HB.out)); (case side2 => exact bG.out); rintro e bR ⟨rfl, hb⟩; refine ⟨_, rfl, ?_⟩; replace aD := rB aD hb; replace HB := rS HB hb; (try clear hb)))
  go_ret
  exact ⟨xW, bl HB.out⟩
 rw [if_pos c3] at H
 have bK := decide_eq_true c3
 clear c3
 obtain ⟨bO, H⟩ := gI H
 obtain ⟨bP, H⟩ := gI H
 obtain rfl := Option.some.inj H
 go_enter Try.func121, Try.ntmps121
 have aD := aM hBK
 clear hBK
 go_wp2_with (first | ((with_reducible refine gC (f := 118) rfl ?_); refine gL (some 5) Try.func118 #[.pointer (some ⟨gb, 0, none⟩)] ?_; (with_reducible refine (impl_Bridge_rootPort.calls (gb := gb) (hBK := (bk aD.out)) k aX _ _ aA aC _ ?side1 ?side2 A2.out).mono ?_); (case side1 => exact cM (cB aZ.out HB.out)); (case side2 => exact bG.out); rintro e w7 ⟨rfl, hb⟩; refine ⟨_, rfl, ?_⟩; replace aD := rB aD hb; replace HB := rS HB hb; (try clear hb); have bQ := cA2 aD.out; have bA : 0 ≤ (aC : Int) := dT; have bD : aC < (aA.length : Int) := dT; obtain ⟨bM, bL, aG, aH, aI, aJ, aK, aN, aQ, aT, aV, aW, aE⟩ := at_T79 aZ.out aC bA bD; cases bL; replace aG := (HB.out.cell (World.block_lt_of_cell? w _ aG)).trans aG; replace aH := (HB.out.cell (World.block_lt_of_cell? w _ aH)).trans aH; replace aI := (HB.out.cell (World.block_lt_of_cell? w _ aI)).trans aI; replace aJ := (HB.out.cell (World.block_lt_of_cell? w _ aJ)).trans aJ; replace aK := (HB.out.cell (World.block_lt_of_cell? w _ aK)).trans aK; replace aN := (HB.out.cell (World.block_lt_of_cell? w _ aN)).trans aN; replace aQ := (HB.out.cell (World.block_lt_of_cell? w _ aQ)).trans aQ; replace aT := (HB.out.cell (World.block_lt_of_cell? w _ aT)).trans aT; replace aV := (HB.out.cell (World.block_lt_of_cell? w _ aV)).trans aV; replace aW := (HB.out.cell (World.block_lt_of_cell? w _ aW)).trans aW; replace aE := (HB.out.cell (World.block_lt_of_cell? w _ aE)).trans aE; replace bA := eq_true bA; replace bD := eq_true bD))
 go_ret
 exact ⟨xW, bl HB.out⟩

def impl_Hops.f (k : Nat) (aA : Int) (aC : List (S79)) : Option (Int) := (impl_BridgeOk.f k aA aC).bind fun aD => (if aD = true then ((impl_Bridge_hops.f k aA aC).bind fun aE => (some aE)) else (some 0))
theorem impl_Hops.mono : ∀ a0 a1 k, LeO (impl_Hops.f k a0 a1) (impl_Hops.f (k + 1) a0 a1) := by
 intro a0 a1 k
 unfold impl_Hops.f
 repeat' first|(with_reducible first|apply impl_BridgeOk.mono|apply impl_Bridge_hops.mono|exact LeO.refl _|exact LeO.none _|refine LeO.ite ?_ ?_|refine LeO.bind ?_ (fun _ => ?_))|exact LeO.none _|refine LeO.ite ?_ ?_|refine LeO.bind ?_ (fun _ => ?_)
set_option maxHeartbeats 60000000 in
set_option maxRecDepth 100000 in
theorem impl_Hops.calls (k : Nat) (aD : Int) (aE : Option Addr) (aG : Nat) (aA : List (S79)) (r : Int) (w : World) (hr0_1 : Kd.C k79 w aE aA.length aA) (hc0_1 : aA.length ≤ aG) (h : impl_Hops.f k aD aA = some r) :
  Calls Try.prog 43 #[.agg #[aD, .slice aE aA.length aG]] w fun e w' => e = .returned (.int .i64 r) ∧ Below w.heap.size w w' := by
 have aZ := Try.underlying28
 have aH := aM hr0_1
 have aI := aM hc0_1
 clear hr0_1 hc0_1
 have HB := aM (Below.refl w.heap.size w)
 have H : ((impl_BridgeOk.f k aD aA).bind fun aK => (if aK = true then ((impl_Bridge_hops.f k aD aA).bind fun aN => (some aN)) else (some 0))) = some r := h
 clear h
 obtain ⟨aK, aV, H⟩ := hB H
 have A2 := aM aV
 clear aV
 by_cases c3 : aK = true
 case neg =>
  replace c3 := Bool.eq_false_iff.mpr c3
  subst c3
  replace H := hF H
  obtain rfl := Option.some.inj H
  go_enter Try.func43, Try.ntmps43
  go_wp2_with (first | ((with_reducible refine gD (N := 1) rfl ?_); refine bE (N := 1) (cs := #[aD, .slice aE aA.length aG]) (t := 28) ?_; intro aJ hg w9 hbox hb; have aC := aM (hbox); have aQ := gF hg HB; have aT := gF hg HB; replace HB := rS HB hb; clear hb hbox hg; have aX := cA2 aC.out) | ((with_reducible refine gC (f := 45) rfl ?_); refine gL (some 4) Try.func45 #[.agg #[aD, .slice aE aA.length aG]] ?_; (with_reducible refine (impl_BridgeOk.calls k aD _ _ aA false _ ?side1 ?side2 A2.out).mono ?_); (case side1 => exact cM (cB aH.out HB.out)); (case side2 => exact aI.out); rintro e bD ⟨rfl, hb⟩; refine ⟨_, rfl, ?_⟩; replace aC := rB aC hb; replace HB := rS HB hb; (try clear hb)))
  go_ret
  exact ⟨xW, bl HB.out⟩
 subst c3
 replace H := hP H rfl
 obtain ⟨aN, aW, H⟩ := hB H
 have A4 := aM aW
 clear aW
 obtain rfl := Option.some.inj H
 go_enter Try.func43, Try.ntmps43
 go_wp2_with (first | ((with_reducible refine gD (N := 1) rfl ?_); refine bE (N := 1) (cs := #[aD, .slice aE aA.length aG]) (t := 28) ?_; intro aJ hg w5 hbox hb; have aC := aM (hbox); have aQ := gF hg HB; have aT := gF hg HB; replace HB := rS HB hb; clear hb hbox hg; have bA := cA2 aC.out) | ((with_reducible refine gC (f := 45) rfl ?_); refine gL (some 4) Try.func45 #[.agg #[aD, .slice aE aA.length aG]] ?_; (with_reducible refine (impl_BridgeOk.calls k aD _ _ aA true _ ?side1 ?side2 A2.out).mono ?_); (case side1 => exact cM (cB aH.out HB.out)); (case side2 => exact aI.out); rintro e w7 ⟨rfl, hb⟩; refine ⟨_, rfl, ?_⟩; replace aC := rB aC hb; replace HB := rS HB hb; (try clear hb)) | ((with_reducible refine gC (f := 121) rfl ?_); refine gL (some 6) Try.func121 #[.pointer (some ⟨aJ, 0, none⟩)] ?_; (with_reducible refine (impl_Bridge_hops.calls (gb := aJ) (hBK := (bk aC.out)) k aD _ _ aA aN _ ?side1 ?side2 A4.out).mono ?_); (case side1 => exact cM (cB aH.out HB.out)); (case side2 => exact aI.out); rintro e w8 ⟨rfl, hb⟩; refine ⟨_, rfl, ?_⟩; replace aC := rB aC hb; replace HB := rS HB hb; (try clear hb)))
 go_ret
 exact ⟨xW, bl HB.out⟩

end Go.Proofs.Ythmijfekdeagpaa.PFnRootPorts

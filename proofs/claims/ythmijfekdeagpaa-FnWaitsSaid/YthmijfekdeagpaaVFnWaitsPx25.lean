/- Of the proof of laws.FnWaits: a part. No condition beyond what its theorems say. -/
import Derived.Test.YthmijfekdeagpaaVFnWaitsPx23
import Derived.Test.YthmijfekdeagpaaVFnWaitsPx24
namespace Go.Proofs.Ythmijfekdeagpaa.PFnWaits
open Go.RowKit Go.Proofs.YthmijfekdeagpaaW.PrintWords Go.Proofs.YthmijfekdeagpaaW.PrintLast Go.Proofs.YthmijfekdeagpaaW.PrintMore
attribute [local go_sem] max2_int min2_int max_two min_two max_three min_three max_four min_four   -- for this text's walks alone
set_option linter.unusedVariables false
set_option linter.unusedSimpArgs false

attribute [local go_sem high] eqA73 eqA89
def spec_l8Draw.f (k : Nat) (aE : List Int) (aI aJ : Int) : Option (Int × (List (S79)) × Int × Int) := (spec_l8DrawRight.f k aE aI aJ).bind fun aC => ((spec_l1Below.f aE aC.2.2.1 aC.2.2.2 8).bind fun aD => (if aD.1 = 0 then ((spec_l1PickInt.f aE aD.2.1 aD.2.2 (([0, 9, 10] : List Int))).bind fun aG => (some (aG.1, aC.2.1, aG.2.1, aG.2.2))) else (if aD.1 = 1 then ((spec_l7Draw.f k aE aD.2.1 aD.2.2).bind fun aA => (if 0 < (aC.2.1.length : Int) then (some (aC.1, (aC.2.1.set (0 : Int).toNat (⟨aA.1, aA.2.1, (⟨aA.2.2.1, aA.2.2.2.1, aA.2.2.2.2.1, aA.2.2.2.2.2.1⟩ : S73), aA.2.2.2.2.2.2.1, aA.2.2.2.2.2.2.2.1, aA.2.2.2.2.2.2.2.2.1, aA.2.2.2.2.2.2.2.2.2.1, aA.2.2.2.2.2.2.2.2.2.2.1⟩ : S79)), aA.2.2.2.2.2.2.2.2.2.2.2.1, aA.2.2.2.2.2.2.2.2.2.2.2.2)) else (none))) else (if aD.1 = 2 then ((some (([(⟨false, false, (⟨0, 0, 0, 0⟩ : S73), 0, 0, 0, 0, false⟩ : S79), (⟨false, false, (⟨0, 0, 0, 0⟩ : S73), 0, 0, 0, 0, false⟩ : S79)] : List (S79)) : List (S79))).bind fun aH => (if aC.2.1.length + aH.length < 1759218604441 then (some (aC.1, (aC.2.1 ++ aH), aD.2.1, aD.2.2)) else (none))) else (some (aC.1, aC.2.1, aD.2.1, aD.2.2))))))
theorem spec_l8Draw.mono : ∀ a0 a1 a2 k, LeO (spec_l8Draw.f k a0 a1 a2) (spec_l8Draw.f (k + 1) a0 a1 a2) := by
 intro a0 a1 a2 k
 unfold spec_l8Draw.f
 repeat' first|(with_reducible first|apply spec_l7Draw.mono|apply spec_l8DrawRight.mono|exact lR _|exact lN _|refine lI ?_ ?_|refine lB ?_ fun _ => ?_)|exact lN _|refine lI ?_ ?_|refine lB ?_ fun _ => ?_
set_option maxHeartbeats 60000000 in
set_option maxRecDepth 100000 in
theorem spec_l8Draw.calls (k g : Nat) (aG : List Int) (bI bJ r1 : Int) (r2 : List (S79)) (r3 r4 : Int) (w0 w : World) (hI : IsS175 w0 w g aG bI bJ) (hB : Below w0.heap.size w0 w) (h : spec_l8Draw.f k aG bI bJ = some (r1, r2, r3, r4)) :
  Calls Try.prog 117 #[.pointer (some ⟨g, 0, none⟩)] w fun e w' => ∃ fM : Value, e = .returned (.agg #[r1, fM]) ∧ Kd.R k79 79 w' w.heap.size (fun _ => True) fM r2 ∧ IsS175 w0 w' g aG r3 r4 ∧ Below w0.heap.size w0 w' ∧ KeepBut w w' g none := by
 have iT := Try.underlying28
 have iU := Try.underlying79
 have aD := aM hI
 have HK := aM (KeepBut.refl w g none)
 have HL := aM hB.size
 clear hI
 have HW0 := aM hB.size
 have HB := aM hB
 clear hB
 have H : ((spec_l8DrawRight.f k aG bI bJ).bind fun bM => ((spec_l1Below.f aG bM.2.2.1 bM.2.2.2 8).bind fun bN => (if bN.1 = 0 then ((spec_l1PickInt.f aG bN.2.1 bN.2.2 (([0, 9, 10] : List Int))).bind fun bT => (some (bT.1, bM.2.1, bT.2.1, bT.2.2))) else (if bN.1 = 1 then ((spec_l7Draw.f k aG bN.2.1 bN.2.2).bind fun bG => (if 0 < (bM.2.1.length : Int) then (some (bM.1, (bM.2.1.set (0 : Int).toNat (⟨bG.1, bG.2.1, (⟨bG.2.2.1, bG.2.2.2.1, bG.2.2.2.2.1, bG.2.2.2.2.2.1⟩ : S73), bG.2.2.2.2.2.2.1, bG.2.2.2.2.2.2.2.1, bG.2.2.2.2.2.2.2.2.1, bG.2.2.2.2.2.2.2.2.2.1, bG.2.2.2.2.2.2.2.2.2.2.1⟩ : S79)), bG.2.2.2.2.2.2.2.2.2.2.2.1, bG.2.2.2.2.2.2.2.2.2.2.2.2)) else (none))) else (if bN.1 = 2 then ((some (([(⟨false, false, (⟨0, 0, 0, 0⟩ : S73), 0, 0, 0, 0, false⟩ : S79), (⟨false, false, (⟨0, 0, 0, 0⟩ : S73), 0, 0, 0, 0, false⟩ : S79)] : List (S79)) : List (S79))).bind fun bU => (if bM.2.1.length + bU.length < 1759218604441 then (some (bM.1, (bM.2.1 ++ bU), bN.2.1, bN.2.2)) else (none))) else (some (bM.1, bM.2.1, bN.2.1, bN.2.2))))))) = some (r1, r2, r3, r4) := h
 clear h
 obtain ⟨⟨aN, aH, aV, aW⟩, fN, H⟩ := hB H
 try dsimp only at H
 have A2 := aM fN
 clear fN
 obtain ⟨⟨aX, bP, bQ⟩, fO, H⟩ := hB H
 try dsimp only at H
 have A3 := aM fO
 clear fO
 by_cases c4 : aX = 0
 case pos =>
  rw [if_pos c4] at H
  have fQ : (aX == 0) = true := beq_iff_eq.mpr c4
  have fS : (aX != 0) = false := bne_eq_false_iff_eq.mpr c4
  clear c4
  obtain ⟨eA, bW⟩ : ∃ y_ : List Int, y_ = (([0, 9, 10] : List Int)) := ⟨_, rfl⟩
  replace H : ((spec_l1PickInt.f aG bP bQ eA).bind fun bT => (some (bT.1, aH, bT.2.1, bT.2.2))) = some (r1, r2, r3, r4) := by first | (rw [bW]; with_reducible exact H) | (have H2_ := (Option.bind_some _ _).symm.trans H; rw [bW]; with_reducible exact H2_) | (have H2_ := (Option.bind_some _ _).symm.trans H; with_reducible exact H2_) | with_reducible exact H | (rw [bW]; exact H) | exact H
  have eK := aM bW
  clear bW
  obtain ⟨⟨cY, fT, fU⟩, fP, H⟩ := hB H
  try dsimp only at H
  have A5 := aM fP
  clear fP
  simp only [Option.some.injEq, Prod.mk.injEq] at H
  obtain ⟨rfl, rfl, rfl, rfl⟩ := H
  go_enter Try.func117, Try.ntmps117
  go_wp2_with (first | ((with_reducible refine gD (N := 2) rfl ?_); refine box_event ?hg (N := 2) ?hd (cs := #[.int .i64 0, .slice none 0 0]) (t := 28) ?hr ?_; (case hd => rfl); (case hg => rfl); (case hr => first | (go_simp; done) | (go_simp; rfl) | (obtain ⟨A_, c_, e_⟩ := Kd.R_slice aA.out; subst e_; (first | (go_simp; done) | (go_simp; rfl))) | (obtain ⟨A_, c_, e_⟩ := Kd.S_slice aA.out; subst e_; (first | (go_simp; done) | (go_simp; rfl))) | (obtain ⟨A_, c_, e_⟩ := Kd.R_slice bH.out; subst e_; (first | (go_simp; done) | (go_simp; rfl))) | (obtain ⟨A_, c_, e_⟩ := Kd.S_slice bH.out; subst e_; (first | (go_simp; done) | (go_simp; rfl)))); intro aT hg w6 hbox hb; have aC := aM (hbox); have bZ := gE hg (keep_size (km HK.out)); have cA := gE2 HW0.out hg (keep_size (km HK.out)); have bK := nL hg (IsS175.lt (show IsS175 w0 _ g aG bI bJ from IsS175.mv aD.out)); have aI := nG hg (IsS175.lt (show IsS175 w0 _ g aG bI bJ from IsS175.mv aD.out)); replace aD := aM (IsS175.below (IsS175.mv aD.out) hb); replace HK := rU HK hb; replace HB := aM (bS (IsS175.bl HB.out) hb); clear hb hbox hg) | ((with_reducible refine gC (f := 173) rfl ?_); refine gL (some 5) Try.func173 #[.pointer (some ⟨g, 0, none⟩)] ?_; (with_reducible refine (spec_l8DrawRight.calls k g aG bI bJ aN aH aV aW w0 _ ?side1 ?side2 A2.out).mono ?_); (case side1 => exact IsS175.mv aD.out); (case side2 => exact IsS175.bl HB.out); rintro e w7 ⟨eB, rfl, ho0, hi, hb, hk⟩; refine ⟨_, rfl, ?_⟩; have aA := aM (Kd.R_lower ho0 (keep_size (km HK.out))); replace aC := rP hk aC aI; replace HK := aM (KeepBut.trans (km HK.out) hk (.inl rfl)); replace HB := aM (hb); replace aD := aM (hi); (repeat first|clear hb|clear hk|clear hi|clear ho0)) | ((with_reducible refine gD (N := 3) rfl ?_); refine box_event ?hg (N := 3) ?hd (cs := #[.int .i64 0, .slice none 0 0]) (t := 28) ?hr ?_; (case hd => rfl); (case hg => rfl); (case hr => first | (go_simp; done) | (go_simp; rfl) | (obtain ⟨A_, c_, e_⟩ := Kd.R_slice aA.out; subst e_; (first | (go_simp; done) | (go_simp; rfl))) | (obtain ⟨A_, c_, e_⟩ := Kd.S_slice aA.out; subst e_; (first | (go_simp; done) | (go_simp; rfl))) | (obtain ⟨A_, c_, e_⟩ := Kd.R_slice bH.out; subst e_; (first | (go_simp; done) | (go_simp; rfl))) | (obtain ⟨A_, c_, e_⟩ := Kd.S_slice bH.out; subst e_; (first | (go_simp; done) | (go_simp; rfl)))); intro aJ hg w8 hbox hb; have aE := aM (hbox); have cC := gE hg (keep_size (km HK.out)); have cD := gE2 HW0.out hg (keep_size (km HK.out)); have bA := nM hg aC; have bD := nH hg aC; have bL := nL hg (IsS175.lt (show IsS175 w0 _ g aG aV aW from IsS175.mv aD.out)); have aK := nG hg (IsS175.lt (show IsS175 w0 _ g aG aV aW from IsS175.mv aD.out)); replace aA := aM (kB (kr aA.out) hb); replace aD := aM (IsS175.below (IsS175.mv aD.out) hb); replace aC := rB aC hb; replace HK := rU HK hb; replace HB := aM (bS (IsS175.bl HB.out) hb); clear hb hbox hg; have iV := bD.out; have iW := bA.out; have gQ := aK.out; have gR := bL.out; have gS := cA2 aE.out; obtain ⟨dA, dB, fV⟩ := Kd.R_slice aA.out; subst fV) | ((with_reducible refine gC (f := 99) rfl ?_); refine gL (some 7) Try.func99 #[.pointer (some ⟨g, 0, none⟩), .int .i64 8] ?_; (with_reducible refine (spec_l1Below.calls g aG aV aW 8 aX bP bQ w0 _ ?side1 ?side2 A3.out).mono ?_); (case side1 => exact IsS175.mv aD.out); (case side2 => exact IsS175.bl HB.out); rintro e jF ⟨rfl, hi, hb, hk⟩; refine ⟨_, rfl, ?_⟩; replace aC := aM (KeepBut.blk hk (fm aC.out) aI.out (by simp)); replace aA := aM (Kd.R_mono (Kd.R_keep (IsS175.apart (show IsS175 w0 _ g aG aV aW from IsS175.mv aD.out) (kr (Kd.R_mono (kF (p := ⟨aJ, 1, none⟩) (kF (p := ⟨aJ, 0, none⟩) (Kd.R_types aA.out aE.out (by decide)) (fun _ hk => hk.2) (.int .i64 aN)) (fun _ hk => hk.2) (.slice dA aH.length dB)) (fun _ h_ => h_.1))) (by decide)) hk (fun _ h => h.2)) (fun _ h => h.1)); replace aE := aM (KeepBut.blk hk (g' := aJ) (o := .cells #[aN, .slice dA aH.length dB] 28 (0, 0)) (bm aE.out) aK.out (by simp)); replace HK := aM (KeepBut.trans (km HK.out) hk (.inl rfl)); replace HB := aM (hb); replace aD := aM (hi); (repeat first|clear hb|clear hk|clear hi)) | ((with_reducible refine gD (N := 11) rfl ?_); refine Kd.R_lit (Kd.int .i64) _ 3 ?hg (N := 11) ?hd (xs := ([0, 9, 10] : List Int)) (inner := [.int .i64 0, .int .i64 9, .int .i64 10]) (ok := fun _ => True) (okp := fun _ => True) ?hr ?hp (fun _ hk => hk) trivial (Below.refl _ _) (Nat.le_refl _) (by simp) ?_; (case hd => rfl); (case hg => rfl); (case hr => first | (go_simp; done) | (go_simp; rfl) | (obtain ⟨A_, c_, e_⟩ := Kd.R_slice aA.out; subst e_; (first | (go_simp; done) | (go_simp; rfl))) | (obtain ⟨A_, c_, e_⟩ := Kd.S_slice aA.out; subst e_; (first | (go_simp; done) | (go_simp; rfl))) | (obtain ⟨A_, c_, e_⟩ := Kd.R_slice bH.out; subst e_; (first | (go_simp; done) | (go_simp; rfl))) | (obtain ⟨A_, c_, e_⟩ := Kd.S_slice bH.out; subst e_; (first | (go_simp; done) | (go_simp; rfl)))); (case hp => exact (Reps.one (show Kd.M (Kd.int .i64) _ _ _ 0 [.int .i64 0] from rfl) (Reps.one (show Kd.M (Kd.int .i64) _ _ _ 9 [.int .i64 9] from rfl) (Reps.one (show Kd.M (Kd.int .i64) _ _ _ 10 [.int .i64 10] from rfl) (Reps.none _ _))))); intro iX jG ho15 hb hg_ hnew_; clear hg_ hnew_; (first | rw [← eK.out] at ho15 | (simp only [Int.reduceToNat] at ho15; rw [← eK.out] at ho15)); have bH := aM (Kd.R_lower ho15 (keep_size (km HK.out))); replace aA := aM (kB (kr aA.out) hb); replace aD := aM (IsS175.below (IsS175.mv aD.out) hb); replace aC := rB aC hb; replace aE := rB aE hb; replace HK := rU HK hb; replace HB := aM (bS (IsS175.bl HB.out) hb); clear hb ho15; obtain ⟨fW, fX, fY⟩ := Kd.R_slice bH.out; subst fY) | ((with_reducible refine gC (f := 101) rfl ?_); refine gL (some 12) Try.func101 #[.pointer (some ⟨g, 0, none⟩), .slice fW eA.length fX] ?_; (with_reducible refine (spec_l1PickInt.calls g aG bP bQ _ _ eA cY fT fU w0 _ ?side1 ?side2 ?side3 ?side4 ?side5 A5.out).mono ?_); (case side1 => exact IsS175.mv aD.out); (case side2 => exact IsS175.bl HB.out); (case side3 => repeat (first | exact (Kd.R_reads' bH.out).2.2 | (with_reducible refine Kd.C_alloc ?_ _) | (with_reducible refine Kd.C_drewN ?_ _) | (with_reducible refine Kd.C_drew ?_))); (case side4 => exact (Kd.R_reads' bH.out).2.1); (case side5 => exact far_slice (IsS175.own_ne aD.out bH.out (by decide))); rintro e jH ⟨rfl, hi, hb, hk⟩; refine ⟨_, rfl, ?_⟩; replace aC := rP hk aC aI; replace aA := aM (Kd.R_mono (Kd.R_keep (IsS175.apart (show IsS175 w0 _ g aG bP bQ from IsS175.mv aD.out) (kr aA.out) (by decide)) hk (fun _ h => h.2)) (fun _ h => h.1)); replace aE := rP hk aE aK; replace bH := aM (Kd.R_mono (Kd.R_keep (IsS175.apart (show IsS175 w0 _ g aG bP bQ from IsS175.mv aD.out) (kr bH.out) (by decide)) hk (fun _ h => h.2)) (fun _ h => h.1)); replace HK := aM (KeepBut.trans (km HK.out) hk (.inl rfl)); replace HB := aM (hb); replace aD := aM (hi); (repeat first|clear hb|clear hk|clear hi); have gT := cA2 aE.out; have gU := aI.out; have gV := bK.out; have gW := cA2 aC.out))
  refine bodyPost_ret (results_cell_row rfl _ _ aT 28 #[cY, .slice dA aH.length dB] (0, 0) _ rfl (bm aC.out) Try.underlying28 rfl (by kernel_rfl)) rfl ?_
  exact ⟨_, xW, by (with_reducible repeat (first | apply Kd.R_alloc | apply Kd.R_drewN | apply Kd.R_drew)); exact Kd.R_mono (kF (p := ⟨aT, 1, none⟩) (kF (p := ⟨aT, 0, none⟩) (kF (p := ⟨aJ, 0, none⟩) (Kd.R_types (Kd.R_types aA.out aE.out (by decide)) aC.out (by decide)) (fun _ hk => hk.1.2) (.int .i64 cY)) (fun _ hk => hk.2) (.int .i64 cY)) (fun _ hk => hk.2) (.slice dA aH.length dB)) (fun _ hk => trivial), IsS175.mv aD.out, IsS175.bl HB.out, km HK.out⟩
 rw [if_neg c4] at H
 have fQ : (aX == 0) = false := beq_eq_false_iff_ne.mpr c4
 have fS : (aX != 0) = true := bne_iff_ne.mpr c4
 by_cases cE : aX = 1
 case neg =>
  rw [if_neg cE] at H
  have fD : (aX == 1) = false := beq_eq_false_iff_ne.mpr cE
  have fE : (aX != 1) = true := bne_iff_ne.mpr cE
  by_cases cG : aX = 2
  case neg =>
   rw [if_neg cG] at H
   have fF : (aX == 2) = false := beq_eq_false_iff_ne.mpr cG
   have fG : (aX != 2) = true := bne_iff_ne.mpr cG
   simp only [Option.some.injEq, Prod.mk.injEq] at H
   obtain ⟨rfl, rfl, rfl, rfl⟩ := H
   go_enter Try.func117, Try.ntmps117
   go_wp2_with (first | ((with_reducible refine gD (N := 2) rfl ?_); refine bE (N := 2) (cs := #[.int .i64 0, .slice none 0 0]) (t := 28) ?_; intro aT hg jI hbox hb; have aC := aM (hbox); have bZ := gE hg (keep_size (km HK.out)); have cA := gE2 HW0.out hg (keep_size (km HK.out)); have bK := nL hg (IsS175.lt (show IsS175 w0 _ g aG bI bJ from IsS175.mv aD.out)); have aI := nG hg (IsS175.lt (show IsS175 w0 _ g aG bI bJ from IsS175.mv aD.out)); replace aD := aM (IsS175.below (IsS175.mv aD.out) hb); replace HK := rU HK hb; replace HB := aM (bS (IsS175.bl HB.out) hb); clear hb hbox hg) | ((with_reducible refine gC (f := 173) rfl ?_); refine gL (some 5) Try.func173 #[.pointer (some ⟨g, 0, none⟩)] ?_; (with_reducible refine (spec_l8DrawRight.calls k g aG bI bJ aN aH aV aW w0 _ ?side1 ?side2 A2.out).mono ?_); (case side1 => exact IsS175.mv aD.out); (case side2 => exact IsS175.bl HB.out); rintro e jJ ⟨eB, rfl, ho0, hi, hb, hk⟩; refine ⟨_, rfl, ?_⟩; have aA := aM (Kd.R_lower ho0 (keep_size (km HK.out))); replace aC := rP hk aC aI; replace HK := aM (KeepBut.trans (km HK.out) hk (.inl rfl)); replace HB := aM (hb); replace aD := aM (hi); (repeat first|clear hb|clear hk|clear hi|clear ho0)) | ((with_reducible refine gD (N := 3) rfl ?_); refine bR aA (N := 3) (cs := #[.int .i64 0, .slice none 0 0]) (t := 28) ?_; intro aJ hg jK hbox hb; have aE := aM (hbox); have cC := gE hg (keep_size (km HK.out)); have cD := gE2 HW0.out hg (keep_size (km HK.out)); have bA := nM hg aC; have bD := nH hg aC; have bL := nL hg (IsS175.lt (show IsS175 w0 _ g aG aV aW from IsS175.mv aD.out)); have aK := nG hg (IsS175.lt (show IsS175 w0 _ g aG aV aW from IsS175.mv aD.out)); replace aA := aM (kB (kr aA.out) hb); replace aD := aM (IsS175.below (IsS175.mv aD.out) hb); replace aC := rB aC hb; replace HK := rU HK hb; replace HB := aM (bS (IsS175.bl HB.out) hb); clear hb hbox hg; have gX := bD.out; have gY := bA.out; have gZ := aK.out; have hD := bL.out; have hH := cA2 aE.out; obtain ⟨dC, dD, gA⟩ := Kd.R_slice aA.out; subst gA) | ((with_reducible refine gC (f := 99) rfl ?_); refine gL (some 7) Try.func99 #[.pointer (some ⟨g, 0, none⟩), .int .i64 8] ?_; (with_reducible refine (spec_l1Below.calls g aG aV aW 8 aX bP bQ w0 _ ?side1 ?side2 A3.out).mono ?_); (case side1 => exact IsS175.mv aD.out); (case side2 => exact IsS175.bl HB.out); rintro e jL ⟨rfl, hi, hb, hk⟩; refine ⟨_, rfl, ?_⟩; replace aC := aM (KeepBut.blk hk (fm aC.out) aI.out (by simp)); replace aA := aM (Kd.R_mono (Kd.R_keep (IsS175.apart (show IsS175 w0 _ g aG aV aW from IsS175.mv aD.out) (kr (Kd.R_mono (kF (p := ⟨aJ, 1, none⟩) (kF (p := ⟨aJ, 0, none⟩) (Kd.R_types aA.out aE.out (by decide)) (fun _ hk => hk.2) (.int .i64 aN)) (fun _ hk => hk.2) (.slice dC aH.length dD)) (fun _ h_ => h_.1))) (by decide)) hk (fun _ h => h.2)) (fun _ h => h.1)); replace aE := aM (KeepBut.blk hk (g' := aJ) (o := .cells #[aN, .slice dC aH.length dD] 28 (0, 0)) (bm aE.out) aK.out (by simp)); replace HK := aM (KeepBut.trans (km HK.out) hk (.inl rfl)); replace HB := aM (hb); replace aD := aM (hi); (repeat first|clear hb|clear hk|clear hi); have hJ := cA2 aE.out; have hO := aI.out; have hU := bK.out; have hX := cA2 aC.out))
   refine bodyPost_ret (results_cell_row rfl _ _ aT 28 #[aN, .slice dC aH.length dD] (0, 0) _ rfl (bm aC.out) Try.underlying28 rfl (by kernel_rfl)) rfl ?_
   exact ⟨_, xW, by (with_reducible repeat (first | apply Kd.R_alloc | apply Kd.R_drewN | apply Kd.R_drew)); exact Kd.R_mono (kF (p := ⟨aT, 1, none⟩) (kF (p := ⟨aT, 0, none⟩) (Kd.R_types aA.out aC.out (by decide)) (fun _ hk => hk.2) (.int .i64 aN)) (fun _ hk => hk.2) (.slice dC aH.length dD)) (fun _ hk => trivial), IsS175.mv aD.out, IsS175.bl HB.out, km HK.out⟩
  rw [if_pos cG] at H
  have fF : (aX == 2) = true := beq_iff_eq.mpr cG
  have fG : (aX != 2) = false := bne_eq_false_iff_eq.mpr cG
  clear cG
  obtain ⟨bU, eL, H⟩ := hS H
  have eM := aM eL
  clear eL
  by_cases eN : aH.length + bU.length < 1759218604441
  case neg =>
   rw [if_neg eN] at H
   exact absurd H (by simp)
  rw [if_pos eN] at H
  have LMc41 := aM eN
  clear eN
  obtain ⟨dE, bX⟩ : ∃ y_ : List (S79), y_ = (aH ++ bU) := ⟨_, rfl⟩
  replace H : (some (aN, dE, bP, bQ)) = some (r1, r2, r3, r4) := by first | (rw [bX]; with_reducible exact H) | (have H2_ := (Option.bind_some _ _).symm.trans H; rw [bX]; with_reducible exact H2_) | (have H2_ := (Option.bind_some _ _).symm.trans H; with_reducible exact H2_) | with_reducible exact H | (rw [bX]; exact H) | exact H
  have fH := aM bX
  clear bX
  simp only [Option.some.injEq, Prod.mk.injEq] at H
  obtain ⟨rfl, rfl, rfl, rfl⟩ := H
  go_enter Try.func117, Try.ntmps117
  go_wp2_with (first | ((with_reducible refine gD (N := 2) rfl ?_); refine box_event ?hg (N := 2) ?hd (cs := #[.int .i64 0, .slice none 0 0]) (t := 28) ?hr ?_; (case hd => rfl); (case hg => rfl); (case hr => first | (go_simp; done) | (go_simp; rfl) | (obtain ⟨A_, c_, e_⟩ := Kd.R_slice aA.out; subst e_; (first | (go_simp; done) | (go_simp; rfl))) | (obtain ⟨A_, c_, e_⟩ := Kd.S_slice aA.out; subst e_; (first | (go_simp; done) | (go_simp; rfl))) | (obtain ⟨A_, c_, e_⟩ := Kd.R_slice bO.out; subst e_; (first | (go_simp; done) | (go_simp; rfl))) | (obtain ⟨A_, c_, e_⟩ := Kd.S_slice bO.out; subst e_; (first | (go_simp; done) | (go_simp; rfl)))); intro aT hg jM hbox hb; have aC := aM (hbox); have bZ := gE hg (keep_size (km HK.out)); have cA := gE2 HW0.out hg (keep_size (km HK.out)); have bK := nL hg (IsS175.lt (show IsS175 w0 _ g aG bI bJ from IsS175.mv aD.out)); have aI := nG hg (IsS175.lt (show IsS175 w0 _ g aG bI bJ from IsS175.mv aD.out)); replace aD := aM (IsS175.below (IsS175.mv aD.out) hb); replace HK := rU HK hb; replace HB := aM (bS (IsS175.bl HB.out) hb); clear hb hbox hg) | ((with_reducible refine gC (f := 173) rfl ?_); refine gL (some 5) Try.func173 #[.pointer (some ⟨g, 0, none⟩)] ?_; (with_reducible refine (spec_l8DrawRight.calls k g aG bI bJ aN aH aV aW w0 _ ?side1 ?side2 A2.out).mono ?_); (case side1 => exact IsS175.mv aD.out); (case side2 => exact IsS175.bl HB.out); rintro e jN ⟨eB, rfl, ho0, hi, hb, hk⟩; refine ⟨_, rfl, ?_⟩; have aA := aM (Kd.R_lower ho0 (keep_size (km HK.out))); replace aC := rP hk aC aI; replace HK := aM (KeepBut.trans (km HK.out) hk (.inl rfl)); replace HB := aM (hb); replace aD := aM (hi); (repeat first|clear hb|clear hk|clear hi|clear ho0)) | ((with_reducible refine gD (N := 3) rfl ?_); refine box_event ?hg (N := 3) ?hd (cs := #[.int .i64 0, .slice none 0 0]) (t := 28) ?hr ?_; (case hd => rfl); (case hg => rfl); (case hr => first | (go_simp; done) | (go_simp; rfl) | (obtain ⟨A_, c_, e_⟩ := Kd.R_slice aA.out; subst e_; (first | (go_simp; done) | (go_simp; rfl))) | (obtain ⟨A_, c_, e_⟩ := Kd.S_slice aA.out; subst e_; (first | (go_simp; done) | (go_simp; rfl))) | (obtain ⟨A_, c_, e_⟩ := Kd.R_slice bO.out; subst e_; (first | (go_simp; done) | (go_simp; rfl))) | (obtain ⟨A_, c_, e_⟩ := Kd.S_slice bO.out; subst e_; (first | (go_simp; done) | (go_simp; rfl)))); intro aJ hg jO hbox hb; have aE := aM (hbox); have cC := gE hg (keep_size (km HK.out)); have cD := gE2 HW0.out hg (keep_size (km HK.out)); have bA := nM hg aC; have bD := nH hg aC; have bL := nL hg (IsS175.lt (show IsS175 w0 _ g aG aV aW from IsS175.mv aD.out)); have aK := nG hg (IsS175.lt (show IsS175 w0 _ g aG aV aW from IsS175.mv aD.out)); replace aA := aM (kB (kr aA.out) hb); replace aD := aM (IsS175.below (IsS175.mv aD.out) hb); replace aC := rB aC hb; replace HK := rU HK hb; replace HB := aM (bS (IsS175.bl HB.out) hb); clear hb hbox hg; have hY := bD.out; have hZ := bA.out; have iA := aK.out; have iB := bL.out; have iC := cA2 aE.out; obtain ⟨eC, eD, gB⟩ := Kd.R_slice aA.out; subst gB) | ((with_reducible refine gC (f := 99) rfl ?_); refine gL (some 7) Try.func99 #[.pointer (some ⟨g, 0, none⟩), .int .i64 8] ?_; (with_reducible refine (spec_l1Below.calls g aG aV aW 8 aX bP bQ w0 _ ?side1 ?side2 A3.out).mono ?_); (case side1 => exact IsS175.mv aD.out); (case side2 => exact IsS175.bl HB.out); rintro e jP ⟨rfl, hi, hb, hk⟩; refine ⟨_, rfl, ?_⟩; replace aC := aM (KeepBut.blk hk (fm aC.out) aI.out (by simp)); replace aA := aM (Kd.R_mono (Kd.R_keep (IsS175.apart (show IsS175 w0 _ g aG aV aW from IsS175.mv aD.out) (kr (Kd.R_mono (kF (p := ⟨aJ, 1, none⟩) (kF (p := ⟨aJ, 0, none⟩) (Kd.R_types aA.out aE.out (by decide)) (fun _ hk => hk.2) (.int .i64 aN)) (fun _ hk => hk.2) (.slice eC aH.length eD)) (fun _ h_ => h_.1))) (by decide)) hk (fun _ h => h.2)) (fun _ h => h.1)); replace aE := aM (KeepBut.blk hk (g' := aJ) (o := .cells #[aN, .slice eC aH.length eD] 28 (0, 0)) (bm aE.out) aK.out (by simp)); replace HK := aM (KeepBut.trans (km HK.out) hk (.inl rfl)); replace HB := aM (hb); replace aD := aM (hi); (repeat first|clear hb|clear hk|clear hi); have iD := cA2 aE.out) | ((with_reducible refine gD (N := 27) rfl ?_); refine Kd.R_lit k79 _ 79 ?hg (N := 27) ?hd (xs := ([(⟨false, false, (⟨0, 0, 0, 0⟩ : S73), 0, 0, 0, 0, false⟩ : S79), (⟨false, false, (⟨0, 0, 0, 0⟩ : S73), 0, 0, 0, 0, false⟩ : S79)] : List (S79))) (inner := [.bool false, .bool false, .int .i64 0, .int .i64 0, .int .i64 0, .int .i64 0, .int .i64 0, .int .i64 0, .int .i64 0, .int .i64 0, .bool false, .bool false, .bool false, .int .i64 0, .int .i64 0, .int .i64 0, .int .i64 0, .int .i64 0, .int .i64 0, .int .i64 0, .int .i64 0, .bool false]) (ok := fun _ => True) (okp := fun _ => True) ?hr ?hp (fun _ hk => hk) trivial (Below.refl _ _) (Nat.le_refl _) (by simp) ?_; (case hd => rfl); (case hg => rfl); (case hr => first | (go_simp; done) | (go_simp; rfl) | (obtain ⟨A_, c_, e_⟩ := Kd.R_slice aA.out; subst e_; (first | (go_simp; done) | (go_simp; rfl))) | (obtain ⟨A_, c_, e_⟩ := Kd.S_slice aA.out; subst e_; (first | (go_simp; done) | (go_simp; rfl))) | (obtain ⟨A_, c_, e_⟩ := Kd.R_slice bO.out; subst e_; (first | (go_simp; done) | (go_simp; rfl))) | (obtain ⟨A_, c_, e_⟩ := Kd.S_slice bO.out; subst e_; (first | (go_simp; done) | (go_simp; rfl)))); (case hp => exact (Reps.front (show Kd.M k79 _ _ _ (⟨false, false, (⟨0, 0, 0, 0⟩ : S73), 0, 0, 0, 0, false⟩ : S79) [.bool false, .bool false, .int .i64 0, .int .i64 0, .int .i64 0, .int .i64 0, .int .i64 0, .int .i64 0, .int .i64 0, .int .i64 0, .bool false] from (k79_mkM _ _ _ (⟨false, false, (⟨0, 0, 0, 0⟩ : S73), 0, 0, 0, 0, false⟩ : S79) )) rfl (Reps.front (show Kd.M k79 _ _ _ (⟨false, false, (⟨0, 0, 0, 0⟩ : S73), 0, 0, 0, 0, false⟩ : S79) [.bool false, .bool false, .int .i64 0, .int .i64 0, .int .i64 0, .int .i64 0, .int .i64 0, .int .i64 0, .int .i64 0, .int .i64 0, .bool false] from (k79_mkM _ _ _ (⟨false, false, (⟨0, 0, 0, 0⟩ : S73), 0, 0, 0, 0, false⟩ : S79) )) rfl (Reps.none _ _) rfl) rfl)); intro iY jQ ho52 hb hg_ hnew_; clear hg_ hnew_; (first | rw [← eM.out] at ho52 | (simp only [Int.reduceToNat] at ho52; rw [← eM.out] at ho52)); have bO := aM (Kd.R_lower (Kd.R_new' ho52 (Kd.R_lt (kr aA.out))) (keep_size (km HK.out))); replace aA := aM (Kd.R_elder' (kr aA.out) (Kd.R_base ho52) hb); replace aD := aM (IsS175.below (IsS175.mv aD.out) hb); replace aC := rB aC hb; replace aE := rB aE hb; replace HK := rU HK hb; replace HB := aM (bS (IsS175.bl HB.out) hb); clear hb ho52; obtain ⟨gG, gH, gJ⟩ := Kd.R_slice bO.out; subst gJ) | ((with_reducible refine gate_builtin (b := .append) (xs := #[.tmp 24, .tmp 27]) rfl ?_); at_builtin; refine Kd.R_append_rows k79 w.heap.size rfl (.tmp 24) (.tmp 27) 26 79 (.agg #[(.bool false), (.bool false), (.int .i64 0), (.int .i64 0), (.int .i64 0), (.int .i64 0), (.int .i64 0), (.int .i64 0), (.int .i64 0), (.int .i64 0), (.bool false)]) 80 rfl Try.underlying26 info79 rfl (by decide) (by omega) (.slice eC aH.length eD) aH bU _ _ _ (fun k_ => some k_ ≠ (.slice gG bU.length gH : Value).ownBlock) (fun _ => False) rfl rfl ?aO ?aR (fun _ _ h => h) (fun _ h => h.elim) ?aF (Below.refl _ _) ?aS ?aL ?_; (case aR => repeat (first | exact (Kd.R_reads' bO.out).2.2 | (with_reducible refine Kd.C_alloc ?_ _) | (with_reducible refine Kd.C_drewN ?_ _) | (with_reducible refine Kd.C_drew ?_))); (case aF => exact (fun k_ hk => Kd.fresh' (Kd.R_lt (kr bO.out)) k_ hk)); (case aO => exact (kr (Kd.R_mono aA.out (fun _ hk => hk.2)))); (case aS => exact (keep_size (km HK.out))); (case aL => have := LMc41.out; omega); intro iZ jR ho hb hg hat; rw [← fH.out] at ho; have eO := aM (ho); replace aD := aM (IsS175.grown (IsS175.mv aD.out) hg (IsS175.own_ne aD.out aA.out (by decide))); replace aC := aM (blk_grown (bk aC.out) hg (Kd.R_ne aA.out aC.out (by decide))); replace aE := aM (blk_grown (bk aE.out) hg (Kd.R_ne aA.out aE.out (by decide))); replace bO := aM (Kd.R_after (ok := (fun _ => True)) (kr bO.out) hg hat); replace HB := aM (below_weaken (IsS175.bl HB.out) HL.out hb); replace HK := aM (KeepBut.trans (km HK.out) (KeepBut.of_grown hg g) (Kd.R_base2 aA.out)); clear aA; clear ho hb hg hat; obtain ⟨eE, eF, gK⟩ := Kd.R_slice eO.out; subst gK; have iE := cA2 aE.out; have iF := aI.out; have iG := bK.out; have iH := cA2 aC.out))
  refine bodyPost_ret (results_cell_row rfl _ _ aT 28 #[aN, .slice eE dE.length eF] (0, 0) _ rfl (bm aC.out) Try.underlying28 rfl (by kernel_rfl)) rfl ?_
  exact ⟨_, xW, by (with_reducible repeat (first | apply Kd.R_alloc | apply Kd.R_drewN | apply Kd.R_drew)); exact Kd.R_mono (kF (p := ⟨aT, 1, none⟩) (kF (p := ⟨aT, 0, none⟩) (kF (p := ⟨aJ, 1, none⟩) (Kd.R_types (Kd.R_types eO.out aE.out (by decide)) aC.out (by decide)) (fun _ hk => hk.1.2) (.slice eE dE.length eF)) (fun _ hk => hk.2) (.int .i64 aN)) (fun _ hk => hk.2) (.slice eE dE.length eF)) (fun _ hk => trivial), IsS175.mv aD.out, IsS175.bl HB.out, km HK.out⟩
 rw [if_pos cE] at H
 have fD : (aX == 1) = true := beq_iff_eq.mpr cE
 have fE : (aX != 1) = false := bne_eq_false_iff_eq.mpr cE
 clear cE
 obtain ⟨⟨cH, cK, cL, cN, cO, cP, cQ, cR, cS, cT, cU, eG, eH⟩, eU, H⟩ := hB H
 try dsimp only at H
 have gO := aM eU
 clear eU
 by_cases eP : 0 < (aH.length : Int)
 case neg =>
  rw [if_neg eP] at H
  exact absurd H (by simp)
 rw [if_pos eP] at H
 have iI := decide_eq_true eP
 have iJ : decide (0 < aH.length) = true := decide_eq_true (by omega)
 clear eP
 obtain ⟨eV, bY⟩ : ∃ y_ : List (S79), y_ = (aH.set (0 : Int).toNat (⟨cH, cK, (⟨cL, cN, cO, cP⟩ : S73), cQ, cR, cS, cT, cU⟩ : S79)) := ⟨_, rfl⟩
 replace H : (some (aN, eV, eG, eH)) = some (r1, r2, r3, r4) := by first | (rw [bY]; with_reducible exact H) | (have H2_ := (Option.bind_some _ _).symm.trans H; rw [bY]; with_reducible exact H2_) | (have H2_ := (Option.bind_some _ _).symm.trans H; with_reducible exact H2_) | with_reducible exact H | (rw [bY]; exact H) | exact H
 have fI := aM bY
 clear bY
 simp only [Option.some.injEq, Prod.mk.injEq] at H
 obtain ⟨rfl, rfl, rfl, rfl⟩ := H
 go_enter Try.func117, Try.ntmps117
 try go_wp2_with (first | ((with_reducible refine gD (N := 2) rfl ?_); refine bE (N := 2) (cs := #[.int .i64 0, .slice none 0 0]) (t := 28) ?_; intro aT hg jS hbox hb; have aC := aM (hbox); have bZ := gE hg (keep_size (km HK.out)); have cA := gE2 HW0.out hg (keep_size (km HK.out)); have bK := nL hg (IsS175.lt (show IsS175 w0 _ g aG bI bJ from IsS175.mv aD.out)); have aI := nG hg (IsS175.lt (show IsS175 w0 _ g aG bI bJ from IsS175.mv aD.out)); replace aD := aM (IsS175.below (IsS175.mv aD.out) hb); replace HK := rU HK hb; replace HB := aM (bS (IsS175.bl HB.out) hb); clear hb hbox hg) | ((with_reducible refine gC (f := 173) rfl ?_); refine gL (some 5) Try.func173 #[.pointer (some ⟨g, 0, none⟩)] ?_; (with_reducible refine (spec_l8DrawRight.calls k g aG bI bJ aN aH aV aW w0 _ ?side1 ?side2 A2.out).mono ?_); (case side1 => exact IsS175.mv aD.out); (case side2 => exact IsS175.bl HB.out); rintro e jT ⟨eB, rfl, ho0, hi, hb, hk⟩; refine ⟨_, rfl, ?_⟩; have aA := aM (Kd.R_lower ho0 (keep_size (km HK.out))); replace aC := rP hk aC aI; replace HK := aM (KeepBut.trans (km HK.out) hk (.inl rfl)); replace HB := aM (hb); replace aD := aM (hi); (repeat first|clear hb|clear hk|clear hi|clear ho0)) | ((with_reducible refine gD (N := 3) rfl ?_); refine bR aA (N := 3) (cs := #[.int .i64 0, .slice none 0 0]) (t := 28) ?_; intro aJ hg jU hbox hb; have aE := aM (hbox); have cC := gE hg (keep_size (km HK.out)); have cD := gE2 HW0.out hg (keep_size (km HK.out)); have bA := nM hg aC; have bD := nH hg aC; have bL := nL hg (IsS175.lt (show IsS175 w0 _ g aG aV aW from IsS175.mv aD.out)); have aK := nG hg (IsS175.lt (show IsS175 w0 _ g aG aV aW from IsS175.mv aD.out)); replace aA := aM (kB (kr aA.out) hb); replace aD := aM (IsS175.below (IsS175.mv aD.out) hb); replace aC := rB aC hb; replace HK := rU HK hb; replace HB := aM (bS (IsS175.bl HB.out) hb); clear hb hbox hg; have iK := bD.out; have iL := bA.out; have iM := aK.out; have iN := bL.out; have iO := cA2 aE.out; obtain ⟨eI, bV, gM⟩ := Kd.R_slice aA.out; subst gM) | ((with_reducible refine gC (f := 99) rfl ?_); refine gL (some 7) Try.func99 #[.pointer (some ⟨g, 0, none⟩), .int .i64 8] ?_; (with_reducible refine (spec_l1Below.calls g aG aV aW 8 aX bP bQ w0 _ ?side1 ?side2 A3.out).mono ?_); (case side1 => exact IsS175.mv aD.out); (case side2 => exact IsS175.bl HB.out); rintro e gP ⟨rfl, hi, hb, hk⟩; refine ⟨_, rfl, ?_⟩; replace aC := aM (KeepBut.blk hk (fm aC.out) aI.out (by simp)); replace aA := aM (Kd.R_mono (Kd.R_keep (IsS175.apart (show IsS175 w0 _ g aG aV aW from IsS175.mv aD.out) (kr (Kd.R_mono (kF (p := ⟨aJ, 1, none⟩) (kF (p := ⟨aJ, 0, none⟩) (Kd.R_types aA.out aE.out (by decide)) (fun _ hk => hk.2) (.int .i64 aN)) (fun _ hk => hk.2) (.slice eI aH.length bV)) (fun _ h_ => h_.1))) (by decide)) hk (fun _ h => h.2)) (fun _ h => h.1)); replace aE := aM (KeepBut.blk hk (g' := aJ) (o := .cells #[aN, .slice eI aH.length bV] 28 (0, 0)) (bm aE.out) aK.out (by simp)); replace HK := aM (KeepBut.trans (km HK.out) hk (.inl rfl)); replace HB := aM (hb); replace aD := aM (hi); (repeat first|clear hb|clear hk|clear hi)))
 replace aA := aM (Kd.R_drew aA.out)
 replace aC := aM (blk_drew aC.out)
 replace aE := aM (blk_drew aE.out)
 replace aD := aM (IsS175.drew aD.out)
 replace HK := aM (keep_drew HK.out)
 replace HB := aM (below_drew1 HB.out)
 refine start_ (n := 6) (S := fun w' => cS2 w' aJ (.int .i64 aN) (.slice eI aH.length bV)) (ds := [5]) (dn 6 0) (by kernel_rfl) rfl rfl ⟨cI aE.out 0, cI aE.out 1⟩ (fun hHeld => ?_)
 generalize gP.drew = jV at aA aC aE aD HK HB hHeld ⊢
 refine pure_ (i := 0) (N := some 16) (v := ?_) (a' := ?_) (bv 6 1) rfl rfl (by kernel_rfl) (fun _ _ _ h => h) (Or.inl ⟨by rfl, ?_⟩) ?_ ?_
 rotate_left
 ·intro w'
  go_simp
  with_reducible rfl
 rotate_left
 ·simp only [Act.put, sA, sZ, sS, i64_w, i32_w]
  rfl
 refine pure_ (i := 2) (N := some 18) (v := ?_) (a' := ?_) (bv 6 5) rfl rfl (by kernel_rfl) (fun _ _ _ h => h) (Or.inl ⟨by rfl, ?_⟩) ?_ ?_
 rotate_left
 ·intro w'
  go_simp
  with_reducible rfl
 rotate_left
 ·simp only [Act.put, sA, sZ, sS, i64_w, i32_w]
  rfl
 refine take_ (i := 1) (N := some 17) (v := ?_) (a' := ?_) (bv 6 7) rfl rfl (by kernel_rfl) (fun _ _ _ h => h) (Or.inl ⟨by rfl, ?_⟩) hHeld ?_ ?_
 rotate_left
 ·rintro w' ⟨s0, s1⟩
  go_simp
  with_reducible rfl
 rotate_left
 ·simp only [Act.put, sA, sZ, sS, i64_w, i32_w]
  rfl
 refine one_ (i := 3) (N := some 19) (bv 6 15) rfl rfl (by kernel_rfl) (by decide) (fun K hK => ?_)
 refine goes_ Try.func174 (by kernel_rfl) rfl #[.pointer (some ⟨g, 0, none⟩)] (by rfl) rfl rfl xR ?_
 with_reducible refine (spec_l7Draw.calls k g aG bP bQ cH cK cL cN cO cP cQ cR cS cT cU eG eH w0 _ ?side1 ?side2 gO.out).mono ?_
 (case side1 => exact IsS175.mv aD.out)
 (case side2 => exact IsS175.bl HB.out)
 rintro e jW ⟨rfl, hi, hb, hk⟩
 refine ⟨_, rfl, ?_⟩
 replace aC := rP hk aC aI
 replace aA := aM (Kd.R_mono (Kd.R_keep (IsS175.apart (show IsS175 w0 _ g aG bP bQ from IsS175.mv aD.out) (kr aA.out) (by decide)) hk (fun _ h => h.2)) (fun _ h => h.1))
 replace aE := rP hk aE aK
 replace HK := aM (KeepBut.trans (km HK.out) hk (.inl rfl))
 replace HB := aM (hb)
 replace aD := aM (hi)
 (try clear hb)
 (try clear hb2)
 (try clear hk)
 (try clear hi)
 have eW : 0 ≤ (0 : Int) := (by omega)
 have eX : (0 : Int) < ((aH.length : Int) : Int) := dT
 have qi24 : (0 < aH.length) = True := eq_true (by omega)
 obtain ⟨cV, jA, eY, eZ, gN, jB, fA⟩ := Kd.R_form aA.out (by omega)
 (first | cases eY | (injection eY with ea_ en_ ec_; (first | subst ea_ | (injection ea_ with ea_; subst ea_)); subst ec_; clear en_))
 have aQ := aM eZ
 have jC := aM fA
 clear eZ gN fA
 obtain ⟨jD, fK, fB, eQ, eR⟩ := Kd.R_elem aA.out z79 (0 : Int) eW eX
 obtain rfl := k79_openM fB
 obtain ⟨dF, dG, dH, dI, dJ, dK, dL, dM, dN, dO, cW, dP, dQ, dR, dS, dU, dV, dW, dX, dY, dZ, cX⟩ := eS79 (rd_T79 aH 0) eQ eR
 clear fK eQ eR fB
 (try rw [show ((0 : Int)).toNat = 0 from rfl] at dF)
 (try simp only [Nat.reduceMul, Nat.zero_mul, Nat.zero_add, Nat.reduceAdd] at dF)
 (try rw [show ((0 : Int)).toNat = 0 from rfl] at dP)
 (try simp only [Nat.reduceMul, Nat.zero_mul, Nat.zero_add, Nat.reduceAdd] at dP)
 (try rw [show ((0 : Int)).toNat = 0 from rfl] at dG)
 (try simp only [Nat.reduceMul, Nat.zero_mul, Nat.zero_add, Nat.reduceAdd] at dG)
 (try rw [show ((0 : Int)).toNat = 0 from rfl] at dQ)
 (try simp only [Nat.reduceMul, Nat.zero_mul, Nat.zero_add, Nat.reduceAdd] at dQ)
 (try rw [show ((0 : Int)).toNat = 0 from rfl] at dH)
 (try simp only [Nat.reduceMul, Nat.zero_mul, Nat.zero_add, Nat.reduceAdd] at dH)
 (try rw [show ((0 : Int)).toNat = 0 from rfl] at dR)
 (try simp only [Nat.reduceMul, Nat.zero_mul, Nat.zero_add, Nat.reduceAdd] at dR)
 (try rw [show ((0 : Int)).toNat = 0 from rfl] at dI)
 (try simp only [Nat.reduceMul, Nat.zero_mul, Nat.zero_add, Nat.reduceAdd] at dI)
 (try rw [show ((0 : Int)).toNat = 0 from rfl] at dS)
 (try simp only [Nat.reduceMul, Nat.zero_mul, Nat.zero_add, Nat.reduceAdd] at dS)
 (try rw [show ((0 : Int)).toNat = 0 from rfl] at dJ)
 (try simp only [Nat.reduceMul, Nat.zero_mul, Nat.zero_add, Nat.reduceAdd] at dJ)
 (try rw [show ((0 : Int)).toNat = 0 from rfl] at dU)
 (try simp only [Nat.reduceMul, Nat.zero_mul, Nat.zero_add, Nat.reduceAdd] at dU)
 (try rw [show ((0 : Int)).toNat = 0 from rfl] at dK)
 (try simp only [Nat.reduceMul, Nat.zero_mul, Nat.zero_add, Nat.reduceAdd] at dK)
 (try rw [show ((0 : Int)).toNat = 0 from rfl] at dV)
 (try simp only [Nat.reduceMul, Nat.zero_mul, Nat.zero_add, Nat.reduceAdd] at dV)
 (try rw [show ((0 : Int)).toNat = 0 from rfl] at dL)
 (try simp only [Nat.reduceMul, Nat.zero_mul, Nat.zero_add, Nat.reduceAdd] at dL)
 (try rw [show ((0 : Int)).toNat = 0 from rfl] at dW)
 (try simp only [Nat.reduceMul, Nat.zero_mul, Nat.zero_add, Nat.reduceAdd] at dW)
 (try rw [show ((0 : Int)).toNat = 0 from rfl] at dM)
 (try simp only [Nat.reduceMul, Nat.zero_mul, Nat.zero_add, Nat.reduceAdd] at dM)
 (try rw [show ((0 : Int)).toNat = 0 from rfl] at dX)
 (try simp only [Nat.reduceMul, Nat.zero_mul, Nat.zero_add, Nat.reduceAdd] at dX)
 (try rw [show ((0 : Int)).toNat = 0 from rfl] at dN)
 (try simp only [Nat.reduceMul, Nat.zero_mul, Nat.zero_add, Nat.reduceAdd] at dN)
 (try rw [show ((0 : Int)).toNat = 0 from rfl] at dY)
 (try simp only [Nat.reduceMul, Nat.zero_mul, Nat.zero_add, Nat.reduceAdd] at dY)
 (try rw [show ((0 : Int)).toNat = 0 from rfl] at dO)
 (try simp only [Nat.reduceMul, Nat.zero_mul, Nat.zero_add, Nat.reduceAdd] at dO)
 (try rw [show ((0 : Int)).toNat = 0 from rfl] at dZ)
 (try simp only [Nat.reduceMul, Nat.zero_mul, Nat.zero_add, Nat.reduceAdd] at dZ)
 (try rw [show ((0 : Int)).toNat = 0 from rfl] at cW)
 (try simp only [Nat.reduceMul, Nat.zero_mul, Nat.zero_add, Nat.reduceAdd] at cW)
 (try rw [show ((0 : Int)).toNat = 0 from rfl] at cX)
 (try simp only [Nat.reduceMul, Nat.zero_mul, Nat.zero_add, Nat.reduceAdd] at cX)
 replace eW := eq_true eW
 replace eX := eq_true eX
 have HN0_go24 := aM (show g ≠ cV from by have h_ := IsS175.own_ne aD.out aA.out (by decide); intro e_; exact h_ (by rw [e_]; rfl))
 obtain ⟨jE, eS, fC, eT, fL⟩ := Kd.R_elem aA.out z79 (0 : Int) (by omega) (by have h_ : (0 : Int) < ((aH.length : Int) : Int) := dT; first | exact h_ | (have e_ := (Kd.R_reads' aA.out).1; omega) | simpa using h_)
 obtain rfl := k79_openM fC
 have eJ := (Kd.R_seg aA.out (0 : Int) (by omega) (by have h_ : (0 : Int) < ((aH.length : Int) : Int) := dT; first | exact h_ | (have e_ := (Kd.R_reads' aA.out).1; omega) | simpa using h_) (seg := [.bool cH, .bool cK, .int .i64 cL, .int .i64 cN, .int .i64 cO, .int .i64 cP, .int .i64 cQ, .int .i64 cR, .int .i64 cS, .int .i64 cT, .bool cU]) (j := 0) eS eT (show 11 ≤ 11 from by decide) (x' := (⟨cH, cK, (⟨cL, cN, cO, cP⟩ : S73), cQ, cR, cS, cT, cU⟩ : S79)) (k79_mkM _ _ _ (⟨cH, cK, (⟨cL, cN, cO, cP⟩ : S73), cQ, cR, cS, cT, cU⟩ : S79) ) (fun _ hk => hk)).1
 rw [← fI.out] at eJ
 have HQ35 := aM eJ
 clear eS eT fL fC eJ
 refine hK.out _ _ ⟨cI aE.out 0, cI aE.out 1⟩ (fun hHeld => ?_)
 clear hK K
 refine norm_ (a' := ?_) ?_ ?_
 rotate_left
 ·show Act.put _ (some 19) _ = _
  simp only [Act.put, sA, sZ, sS, i64_w, i32_w]
  rfl
 refine pure_ (i := 4) (N := some 20) (v := ?_) (a' := ?_) (bv 6 31) rfl rfl (by kernel_rfl) (fun _ _ _ h => h) (Or.inl ⟨by rfl, ?_⟩) ?_ ?_
 rotate_left
 ·intro w'
  go_simp
  with_reducible rfl
 rotate_left
 ·simp only [Act.put, sA, sZ, sS, i64_w, i32_w]
  rfl
 refine last_ (i := 5) (N := none) (bv 6 63) rfl rfl (by kernel_rfl) (by decide) (fun K hK => ?_)
 refine skip_ (w1 := ?_) (by rfl) rfl ?_ ?_
 rotate_left
 ·go_simp
  rfl
 refine hK.out _ _ ?_
 clear hK K
 refine done_ (by kernel_rfl) ?_
 refine nX (fun W => Aside0 (Kd.R k79 79 W w.heap.size (fun _ => True) (.slice (some ⟨cV, 0, none⟩) aH.length bV) eV) ∧ Aside0 (W.heap[aT]? = some (.cells #[.int .i64 0, .slice none 0 0] 28 (0, 0))) ∧ Aside0 (W.heap[aJ]? = some (.cells #[aN, .slice (some ⟨cV, 0, none⟩) aH.length bV] 28 (0, 0))) ∧ Aside0 (IsS175 w0 W g aG eG eH) ∧ Aside0 (KeepBut w W g none) ∧ Aside0 (Below w0.heap.size w0 W)) ⟨⟨kr HQ35.out⟩, ⟨fR aA.out aC.out⟩, ⟨fR aA.out aE.out⟩, ⟨by repeat (first | (with_reducible first | exact aD.out | apply IsS175.alloc | apply IsS175.drewN | apply IsS175.drew | apply IsS175.set_1 | apply IsS175.set_2 | refine IsS175.far ?_ HN0_go24.out _ | refine IsS175.far ?_ HN0_go24.out _ | refine IsS175.far ?_ HN0_go24.out _ | refine IsS175.far ?_ HN0_go24.out _ | refine IsS175.far ?_ HN0_go24.out _ | refine IsS175.far ?_ HN0_go24.out _ | refine IsS175.far ?_ HN0_go24.out _ | refine IsS175.far ?_ HN0_go24.out _ | refine IsS175.far ?_ HN0_go24.out _ | refine IsS175.far ?_ HN0_go24.out _ | refine IsS175.far ?_ HN0_go24.out _ | refine IsS175.far ?_ bK.out _ | refine IsS175.far ?_ bL.out _) | exact aD.out)⟩, ⟨by repeat (first | (with_reducible first | exact HK.out | apply KeepBut.set_ | apply keep_drewN | apply keep_drew | apply keep_alloc | refine keep_far ?_ aQ.out _ | refine keep_far ?_ aQ.out _ | refine keep_far ?_ aQ.out _ | refine keep_far ?_ aQ.out _ | refine keep_far ?_ aQ.out _ | refine keep_far ?_ aQ.out _ | refine keep_far ?_ aQ.out _ | refine keep_far ?_ aQ.out _ | refine keep_far ?_ aQ.out _ | refine keep_far ?_ aQ.out _ | refine keep_far ?_ aQ.out _ | refine keep_far ?_ bZ.out _ | refine keep_far ?_ cC.out _) | exact HK.out)⟩, ⟨by repeat (first | (with_reducible first | exact HB.out | apply below_alloc | apply pw_below_drewN | apply below_drew1 | refine below_set ?_ (Nat.le_trans HL.out aQ.out) | refine below_set ?_ (Nat.le_trans HL.out aQ.out) | refine below_set ?_ (Nat.le_trans HL.out aQ.out) | refine below_set ?_ (Nat.le_trans HL.out aQ.out) | refine below_set ?_ (Nat.le_trans HL.out aQ.out) | refine below_set ?_ (Nat.le_trans HL.out aQ.out) | refine below_set ?_ (Nat.le_trans HL.out aQ.out) | refine below_set ?_ (Nat.le_trans HL.out aQ.out) | refine below_set ?_ (Nat.le_trans HL.out aQ.out) | refine below_set ?_ (Nat.le_trans HL.out aQ.out) | refine below_set ?_ (Nat.le_trans HL.out aQ.out) | refine below_set ?_ (IsS175.ge aD.out) | refine below_set ?_ cA.out | refine below_set ?_ cD.out) | exact HB.out)⟩⟩ ?_
 intro jX nn_
 replace aA := nn_.1
 replace aC := nn_.2.1
 replace aE := nn_.2.2.1
 replace aD := nn_.2.2.2.1
 replace HK := nn_.2.2.2.2.1
 replace HB := nn_.2.2.2.2.2
 clear nn_
 have iP := cA2 aE.out
 have iQ := aI.out
 have iR := bK.out
 have iS := cA2 aC.out
 try go_wp2
 refine bodyPost_ret (results_cell_row rfl _ _ aT 28 #[aN, .slice (some ⟨cV, 0, none⟩) aH.length bV] (0, 0) _ rfl (bm aC.out) Try.underlying28 rfl (by kernel_rfl)) rfl ?_
 exact ⟨_, xW, by (with_reducible repeat (first | apply Kd.R_alloc | apply Kd.R_drewN | apply Kd.R_drew)); exact Kd.R_mono (kF (p := ⟨aT, 1, none⟩) (kF (p := ⟨aT, 0, none⟩) (Kd.R_types aA.out aC.out (by decide)) (fun _ hk => hk.2) (.int .i64 aN)) (fun _ hk => hk.2) (.slice (some ⟨cV, 0, none⟩) aH.length bV)) (fun _ hk => trivial), IsS175.mv aD.out, IsS175.bl HB.out, km HK.out⟩

def spec_DrawDecide.f (k : Nat) (l0 : List Int) : Option (Int × (List (S79))) := (spec_l1New.f k l0).bind fun aD => ((spec_l8Draw.f k aD.1 aD.2.1 aD.2.2).bind fun aC => ((spec_l1Once.f aD.1 aC.2.2.1 aC.2.2.2 2).bind fun aE => (if aE.1 = true then ((spec_l7DrawRight.f k aD.1 aE.2.1 aE.2.2).bind fun aA => (if 0 < (aC.2.1.length : Int) then (some (aC.1, (aC.2.1.set (0 : Int).toNat (⟨aA.1, aA.2.1, (⟨aA.2.2.1, aA.2.2.2.1, aA.2.2.2.2.1, aA.2.2.2.2.2.1⟩ : S73), aA.2.2.2.2.2.2.1, aA.2.2.2.2.2.2.2.1, aA.2.2.2.2.2.2.2.2.1, aA.2.2.2.2.2.2.2.2.2.1, aA.2.2.2.2.2.2.2.2.2.2.1⟩ : S79)))) else (none))) else (some (aC.1, aC.2.1)))))
theorem spec_DrawDecide.mono : ∀ a0 k, LeO (spec_DrawDecide.f k a0) (spec_DrawDecide.f (k + 1) a0) := by
 intro a0 k
 unfold spec_DrawDecide.f
 repeat' first|(with_reducible first|apply spec_l1New.mono|apply spec_l7DrawRight.mono|apply spec_l8Draw.mono|exact lR _|exact lN _|refine lI ?_ ?_|refine lB ?_ fun _ => ?_)|exact lN _|refine lI ?_ ?_|refine lB ?_ fun _ => ?_
set_option maxHeartbeats 60000000 in
set_option maxRecDepth 100000 in
theorem spec_DrawDecide.calls (k : Nat) (A0 : Option Addr) (c0 : Nat) (l0 : List Int) (r1 : Int) (r2 : List (S79)) (w : World) (hr0 : Kd.C (Kd.int .u8) w A0 l0.length l0) (hc0 : l0.length ≤ c0) (h : spec_DrawDecide.f k l0 = some (r1, r2)) :
  Calls Try.prog 38 #[.slice A0 l0.length c0] w fun e w' => ∃ dZ : Value, e = .returned (.agg #[r1, dZ]) ∧ Kd.R k79 79 w' w.heap.size (fun _ => True) dZ r2 ∧ Below w.heap.size w w' := by
 have fK := Try.underlying28
 have fL := Try.underlying79
 have eA := aM hr0
 have eB := aM hc0
 clear hr0 hc0
 have HB := aM (Below.refl w.heap.size w)
 have H : ((spec_l1New.f k l0).bind fun bJ => ((spec_l8Draw.f k bJ.1 bJ.2.1 bJ.2.2).bind fun bD => ((spec_l1Once.f bJ.1 bD.2.2.1 bD.2.2.2 2).bind fun bY => (if bY.1 = true then ((spec_l7DrawRight.f k bJ.1 bY.2.1 bY.2.2).bind fun aK => (if 0 < (bD.2.1.length : Int) then (some (bD.1, (bD.2.1.set (0 : Int).toNat (⟨aK.1, aK.2.1, (⟨aK.2.2.1, aK.2.2.2.1, aK.2.2.2.2.1, aK.2.2.2.2.2.1⟩ : S73), aK.2.2.2.2.2.2.1, aK.2.2.2.2.2.2.2.1, aK.2.2.2.2.2.2.2.2.1, aK.2.2.2.2.2.2.2.2.2.1, aK.2.2.2.2.2.2.2.2.2.2.1⟩ : S79)))) else (none))) else (some (bD.1, bD.2.1)))))) = some (r1, r2) := h
 clear h
 obtain ⟨⟨aI, bZ, cA⟩, eC, H⟩ := hB H
 try dsimp only at H
 have A2 := aM eC
 clear eC
 obtain ⟨⟨aN, aG, aX, bA⟩, eD, H⟩ := hB H
 try dsimp only at H
 have A3 := aM eD
 clear eD
 obtain ⟨⟨eK, cC, cD⟩, eE, H⟩ := hB H
 try dsimp only at H
 have A4 := aM eE
 clear eE
 by_cases c5 : eK = true
 case neg =>
  replace c5 := Bool.eq_false_iff.mpr c5
  subst c5
  replace H := hF H
  simp only [Option.some.injEq, Prod.mk.injEq] at H
  obtain ⟨rfl, rfl⟩ := H
  go_enter Try.func38, Try.ntmps38
  go_wp2_with (first | ((with_reducible refine gD (N := 2) rfl ?_); refine bE (N := 2) (cs := #[.int .i64 0, .slice none 0 0]) (t := 28) ?_; intro aT hg fP hbox hb; have aA := aM (hbox); have dS := gF hg HB; have dU := gF hg HB; replace HB := rS HB hb; clear hb hbox hg) | ((with_reducible refine gC (f := 97) rfl ?_); refine gL (some 6) Try.func97 #[.slice A0 l0.length c0] ?_; (with_reducible refine (spec_l1New.calls k _ _ l0 aI bZ cA w _ ?side1 ?side2 ?side3 A2.out).mono ?_); (case side1 => exact bl HB.out); (case side2 => exact eA.out); (case side3 => exact eB.out); rintro e fQ ⟨g790, rfl, hi, hb, hb2⟩; refine ⟨_, rfl, ?_⟩; have aD := aM (hi); have aV := aM (IsS175.ne_blk hi (bB (bk aA.out) hb2) (by decide)); have aH := aM (Ne.symm (IsS175.ne_blk hi (bB (bk aA.out) hb2) (by decide))); replace aA := aM (bB (bk aA.out) hb2); replace HB := aM (hb); (repeat first|clear hb|clear hb2|clear hi)) | ((with_reducible refine gC (f := 117) rfl ?_); refine gL (some 8) Try.func117 #[.pointer (some ⟨g790, 0, none⟩)] ?_; (with_reducible refine (spec_l8Draw.calls k g790 aI bZ cA aN aG aX bA w _ ?side1 ?side2 A3.out).mono ?_); (case side1 => exact IsS175.mv aD.out); (case side2 => exact IsS175.bl HB.out); rintro e fS ⟨eL, rfl, ho0, hi, hb, hk⟩; refine ⟨_, rfl, ?_⟩; have aC := aM (Kd.R_lower ho0 (below_size (IsS175.bl HB.out))); replace aA := rP hk aA aH; replace HB := aM (hb); replace aD := aM (hi); (repeat first|clear hb|clear hk|clear hi|clear ho0)) | ((with_reducible refine gD (N := 4) rfl ?_); refine bR aC (N := 4) (cs := #[.int .i64 0, .slice none 0 0]) (t := 28) ?_; intro aQ hg fT hbox hb; have aE := aM (hbox); have dV := gE hg (below_size (IsS175.bl HB.out)); have dW := gE hg (below_size (IsS175.bl HB.out)); have bG := nM hg aA; have bH := nH hg aA; have aW := nL hg (IsS175.lt (show IsS175 w _ g790 aI aX bA from IsS175.mv aD.out)); have aJ := nG hg (IsS175.lt (show IsS175 w _ g790 aI aX bA from IsS175.mv aD.out)); replace aC := aM (kB (kr aC.out) hb); replace aA := rB aA hb; replace aD := aM (IsS175.below (IsS175.mv aD.out) hb); replace HB := aM (bS (IsS175.bl HB.out) hb); clear hb hbox hg; have eR := bH.out; have eS := bG.out; have eT := aJ.out; have eU := aW.out; have eV := cA2 aE.out; obtain ⟨cE, cG, eM⟩ := Kd.R_slice aC.out; subst eM) | ((with_reducible refine gC (f := 100) rfl ?_); refine gL (some 10) Try.func100 #[.pointer (some ⟨g790, 0, none⟩), .int .i64 2] ?_; (with_reducible refine (spec_l1Once.calls g790 aI aX bA 2 false cC cD w _ ?side1 ?side2 A4.out).mono ?_); (case side1 => exact IsS175.mv aD.out); (case side2 => exact IsS175.bl HB.out); rintro e fU ⟨rfl, hi, hb, hk⟩; refine ⟨_, rfl, ?_⟩; replace aA := aM (KeepBut.blk hk (fm aA.out) aH.out (by simp)); replace aC := aM (Kd.R_mono (Kd.R_keep (IsS175.apart (show IsS175 w _ g790 aI aX bA from IsS175.mv aD.out) (kr (Kd.R_mono (kF (p := ⟨aQ, 1, none⟩) (kF (p := ⟨aQ, 0, none⟩) (Kd.R_types aC.out aE.out (by decide)) (fun _ hk => hk.2) (.int .i64 aN)) (fun _ hk => hk.2) (.slice cE aG.length cG)) (fun _ h_ => h_.1))) (by decide)) hk (fun _ h => h.2)) (fun _ h => h.1)); replace aE := aM (KeepBut.blk hk (g' := aQ) (o := .cells #[aN, .slice cE aG.length cG] 28 (0, 0)) (bm aE.out) aJ.out (by simp)); replace HB := aM (hb); replace aD := aM (hi); (repeat first|clear hb|clear hk|clear hi); have eW := cA2 aE.out; have eX := aH.out; have eY := aV.out; have eZ := cA2 aA.out))
  refine bodyPost_ret (results_cell_row rfl _ _ aT 28 #[aN, .slice cE aG.length cG] (0, 0) _ rfl (bm aA.out) Try.underlying28 rfl (by kernel_rfl)) rfl ?_
  exact ⟨_, xW, by (with_reducible repeat (first | apply Kd.R_alloc | apply Kd.R_drewN | apply Kd.R_drew)); exact Kd.R_mono (kF (p := ⟨aT, 1, none⟩) (kF (p := ⟨aT, 0, none⟩) (Kd.R_types aC.out aA.out (by decide)) (fun _ hk => hk.2) (.int .i64 aN)) (fun _ hk => hk.2) (.slice cE aG.length cG)) (fun _ hk => trivial), IsS175.bl HB.out⟩
 subst c5
 replace H := hP H rfl
 obtain ⟨⟨bL, bM, bN, bO, bP, bQ, bT, bU, bV, bW, bX, dM, dN⟩, eF, H⟩ := hB H
 try dsimp only at H
 have A6 := aM eF
 clear eF
 by_cases c7 : 0 < (aG.length : Int)
 case neg =>
  rw [if_neg c7] at H
  exact absurd H (by simp)
 rw [if_pos c7] at H
 have fM := decide_eq_true c7
 have fN : decide (0 < aG.length) = true := decide_eq_true (by omega)
 clear c7
 obtain ⟨dO, bK⟩ : ∃ y_ : List (S79), y_ = (aG.set (0 : Int).toNat (⟨bL, bM, (⟨bN, bO, bP, bQ⟩ : S73), bT, bU, bV, bW, bX⟩ : S79)) := ⟨_, rfl⟩
 replace H : (some (aN, dO)) = some (r1, r2) := by first | (rw [bK]; with_reducible exact H) | (have H2_ := (Option.bind_some _ _).symm.trans H; rw [bK]; with_reducible exact H2_) | (have H2_ := (Option.bind_some _ _).symm.trans H; with_reducible exact H2_) | with_reducible exact H | (rw [bK]; exact H) | exact H
 have dX := aM bK
 clear bK
 simp only [Option.some.injEq, Prod.mk.injEq] at H
 obtain ⟨rfl, rfl⟩ := H
 go_enter Try.func38, Try.ntmps38
 try go_wp2_with (first | ((with_reducible refine gD (N := 2) rfl ?_); refine bE (N := 2) (cs := #[.int .i64 0, .slice none 0 0]) (t := 28) ?_; intro aT hg w9 hbox hb; have aA := aM (hbox); have dS := gF hg HB; have dU := gF hg HB; replace HB := rS HB hb; clear hb hbox hg) | ((with_reducible refine gC (f := 97) rfl ?_); refine gL (some 6) Try.func97 #[.slice A0 l0.length c0] ?_; (with_reducible refine (spec_l1New.calls k _ _ l0 aI bZ cA w _ ?side1 ?side2 ?side3 A2.out).mono ?_); (case side1 => exact bl HB.out); (case side2 => exact eA.out); (case side3 => exact eB.out); rintro e fV ⟨g790, rfl, hi, hb, hb2⟩; refine ⟨_, rfl, ?_⟩; have aD := aM (hi); have aV := aM (IsS175.ne_blk hi (bB (bk aA.out) hb2) (by decide)); have aH := aM (Ne.symm (IsS175.ne_blk hi (bB (bk aA.out) hb2) (by decide))); replace aA := aM (bB (bk aA.out) hb2); replace HB := aM (hb); (repeat first|clear hb|clear hb2|clear hi)) | ((with_reducible refine gC (f := 117) rfl ?_); refine gL (some 8) Try.func117 #[.pointer (some ⟨g790, 0, none⟩)] ?_; (with_reducible refine (spec_l8Draw.calls k g790 aI bZ cA aN aG aX bA w _ ?side1 ?side2 A3.out).mono ?_); (case side1 => exact IsS175.mv aD.out); (case side2 => exact IsS175.bl HB.out); rintro e fW ⟨eL, rfl, ho0, hi, hb, hk⟩; refine ⟨_, rfl, ?_⟩; have aC := aM (Kd.R_lower ho0 (below_size (IsS175.bl HB.out))); replace aA := rP hk aA aH; replace HB := aM (hb); replace aD := aM (hi); (repeat first|clear hb|clear hk|clear hi|clear ho0)) | ((with_reducible refine gD (N := 4) rfl ?_); refine bR aC (N := 4) (cs := #[.int .i64 0, .slice none 0 0]) (t := 28) ?_; intro aQ hg fX hbox hb; have aE := aM (hbox); have dV := gE hg (below_size (IsS175.bl HB.out)); have dW := gE hg (below_size (IsS175.bl HB.out)); have bG := nM hg aA; have bH := nH hg aA; have aW := nL hg (IsS175.lt (show IsS175 w _ g790 aI aX bA from IsS175.mv aD.out)); have aJ := nG hg (IsS175.lt (show IsS175 w _ g790 aI aX bA from IsS175.mv aD.out)); replace aC := aM (kB (kr aC.out) hb); replace aA := rB aA hb; replace aD := aM (IsS175.below (IsS175.mv aD.out) hb); replace HB := aM (bS (IsS175.bl HB.out) hb); clear hb hbox hg; have fA := bH.out; have fB := bG.out; have fC := aJ.out; have fD := aW.out; have fE := cA2 aE.out; obtain ⟨cN, bI, eN⟩ := Kd.R_slice aC.out; subst eN) | ((with_reducible refine gC (f := 100) rfl ?_); refine gL (some 10) Try.func100 #[.pointer (some ⟨g790, 0, none⟩), .int .i64 2] ?_; (with_reducible refine (spec_l1Once.calls g790 aI aX bA 2 true cC cD w _ ?side1 ?side2 A4.out).mono ?_); (case side1 => exact IsS175.mv aD.out); (case side2 => exact IsS175.bl HB.out); rintro e eP ⟨rfl, hi, hb, hk⟩; refine ⟨_, rfl, ?_⟩; replace aA := aM (KeepBut.blk hk (fm aA.out) aH.out (by simp)); replace aC := aM (Kd.R_mono (Kd.R_keep (IsS175.apart (show IsS175 w _ g790 aI aX bA from IsS175.mv aD.out) (kr (Kd.R_mono (kF (p := ⟨aQ, 1, none⟩) (kF (p := ⟨aQ, 0, none⟩) (Kd.R_types aC.out aE.out (by decide)) (fun _ hk => hk.2) (.int .i64 aN)) (fun _ hk => hk.2) (.slice cN aG.length bI)) (fun _ h_ => h_.1))) (by decide)) hk (fun _ h => h.2)) (fun _ h => h.1)); replace aE := aM (KeepBut.blk hk (g' := aQ) (o := .cells #[aN, .slice cN aG.length bI] 28 (0, 0)) (bm aE.out) aJ.out (by simp)); replace HB := aM (hb); replace aD := aM (hi); (repeat first|clear hb|clear hk|clear hi)))
 replace aC := aM (Kd.R_drew aC.out)
 replace aA := aM (blk_drew aA.out)
 replace aE := aM (blk_drew aE.out)
 replace aD := aM (IsS175.drew aD.out)
 replace HB := aM (below_drew1 HB.out)
 refine start_ (n := 6) (S := fun w' => cS2 w' aQ (.int .i64 aN) (.slice cN aG.length bI)) (ds := [5]) (dn 6 0) (by kernel_rfl) rfl rfl ⟨cI aE.out 0, cI aE.out 1⟩ (fun hHeld => ?_)
 generalize eP.drew = fY at aC aA aE aD HB hHeld ⊢
 refine pure_ (i := 0) (N := some 11) (v := ?_) (a' := ?_) (bv 6 1) rfl rfl (by kernel_rfl) (fun _ _ _ h => h) (Or.inl ⟨by rfl, ?_⟩) ?_ ?_
 rotate_left
 ·intro w'
  go_simp
  with_reducible rfl
 rotate_left
 ·simp only [Act.put, sA, sZ, sS, i64_w, i32_w]
  rfl
 refine pure_ (i := 2) (N := some 13) (v := ?_) (a' := ?_) (bv 6 5) rfl rfl (by kernel_rfl) (fun _ _ _ h => h) (Or.inl ⟨by rfl, ?_⟩) ?_ ?_
 rotate_left
 ·intro w'
  go_simp
  with_reducible rfl
 rotate_left
 ·simp only [Act.put, sA, sZ, sS, i64_w, i32_w]
  rfl
 refine take_ (i := 1) (N := some 12) (v := ?_) (a' := ?_) (bv 6 7) rfl rfl (by kernel_rfl) (fun _ _ _ h => h) (Or.inl ⟨by rfl, ?_⟩) hHeld ?_ ?_
 rotate_left
 ·rintro w' ⟨s0, s1⟩
  go_simp
  with_reducible rfl
 rotate_left
 ·simp only [Act.put, sA, sZ, sS, i64_w, i32_w]
  rfl
 refine one_ (i := 3) (N := some 14) (bv 6 15) rfl rfl (by kernel_rfl) (by decide) (fun K hK => ?_)
 refine goes_ Try.func119 (by kernel_rfl) rfl #[.pointer (some ⟨g790, 0, none⟩)] (by rfl) rfl rfl xR ?_
 with_reducible refine (spec_l7DrawRight.calls k g790 aI cC cD bL bM bN bO bP bQ bT bU bV bW bX dM dN w _ ?side1 ?side2 A6.out).mono ?_
 (case side1 => exact IsS175.mv aD.out)
 (case side2 => exact IsS175.bl HB.out)
 rintro e gA ⟨rfl, hi, hb, hk⟩
 refine ⟨_, rfl, ?_⟩
 replace aA := rP hk aA aH
 replace aC := aM (Kd.R_mono (Kd.R_keep (IsS175.apart (show IsS175 w _ g790 aI cC cD from IsS175.mv aD.out) (kr aC.out) (by decide)) hk (fun _ h => h.2)) (fun _ h => h.1))
 replace aE := rP hk aE aJ
 replace HB := aM (hb)
 replace aD := aM (hi)
 (try clear hb)
 (try clear hb2)
 (try clear hk)
 (try clear hi)
 have p8 : 0 ≤ (0 : Int) := (by omega)
 have q8 : (0 : Int) < ((aG.length : Int) : Int) := dT
 have qi8 : (0 < aG.length) = True := eq_true (by omega)
 obtain ⟨cH, gB, eG, eH, eQ, gG, eI⟩ := Kd.R_form aC.out (by omega)
 (first | cases eG | (injection eG with ea_ en_ ec_; (first | subst ea_ | (injection ea_ with ea_; subst ea_)); subst ec_; clear en_))
 have gH := aM eH
 have gJ := aM eI
 clear eH eQ eI
 obtain ⟨gK, eO, eJ, dP, dQ⟩ := Kd.R_elem aC.out z79 (0 : Int) p8 q8
 obtain rfl := k79_openM eJ
 obtain ⟨cP, cQ, cR, cS, cT, cU, cV, cW, cX, cY, cK, dA, dB, dC, dD, dE, dF, dG, dH, dI, dJ, cL⟩ := eS79 (rd_T79 aG 0) dP dQ
 clear eO dP dQ eJ
 (try rw [show ((0 : Int)).toNat = 0 from rfl] at cP)
 (try simp only [Nat.reduceMul, Nat.zero_mul, Nat.zero_add, Nat.reduceAdd] at cP)
 (try rw [show ((0 : Int)).toNat = 0 from rfl] at dA)
 (try simp only [Nat.reduceMul, Nat.zero_mul, Nat.zero_add, Nat.reduceAdd] at dA)
 (try rw [show ((0 : Int)).toNat = 0 from rfl] at cQ)
 (try simp only [Nat.reduceMul, Nat.zero_mul, Nat.zero_add, Nat.reduceAdd] at cQ)
 (try rw [show ((0 : Int)).toNat = 0 from rfl] at dB)
 (try simp only [Nat.reduceMul, Nat.zero_mul, Nat.zero_add, Nat.reduceAdd] at dB)
 (try rw [show ((0 : Int)).toNat = 0 from rfl] at cR)
 (try simp only [Nat.reduceMul, Nat.zero_mul, Nat.zero_add, Nat.reduceAdd] at cR)
 (try rw [show ((0 : Int)).toNat = 0 from rfl] at dC)
 (try simp only [Nat.reduceMul, Nat.zero_mul, Nat.zero_add, Nat.reduceAdd] at dC)
 (try rw [show ((0 : Int)).toNat = 0 from rfl] at cS)
 (try simp only [Nat.reduceMul, Nat.zero_mul, Nat.zero_add, Nat.reduceAdd] at cS)
 (try rw [show ((0 : Int)).toNat = 0 from rfl] at dD)
 (try simp only [Nat.reduceMul, Nat.zero_mul, Nat.zero_add, Nat.reduceAdd] at dD)
 (try rw [show ((0 : Int)).toNat = 0 from rfl] at cT)
 (try simp only [Nat.reduceMul, Nat.zero_mul, Nat.zero_add, Nat.reduceAdd] at cT)
 (try rw [show ((0 : Int)).toNat = 0 from rfl] at dE)
 (try simp only [Nat.reduceMul, Nat.zero_mul, Nat.zero_add, Nat.reduceAdd] at dE)
 (try rw [show ((0 : Int)).toNat = 0 from rfl] at cU)
 (try simp only [Nat.reduceMul, Nat.zero_mul, Nat.zero_add, Nat.reduceAdd] at cU)
 (try rw [show ((0 : Int)).toNat = 0 from rfl] at dF)
 (try simp only [Nat.reduceMul, Nat.zero_mul, Nat.zero_add, Nat.reduceAdd] at dF)
 (try rw [show ((0 : Int)).toNat = 0 from rfl] at cV)
 (try simp only [Nat.reduceMul, Nat.zero_mul, Nat.zero_add, Nat.reduceAdd] at cV)
 (try rw [show ((0 : Int)).toNat = 0 from rfl] at dG)
 (try simp only [Nat.reduceMul, Nat.zero_mul, Nat.zero_add, Nat.reduceAdd] at dG)
 (try rw [show ((0 : Int)).toNat = 0 from rfl] at cW)
 (try simp only [Nat.reduceMul, Nat.zero_mul, Nat.zero_add, Nat.reduceAdd] at cW)
 (try rw [show ((0 : Int)).toNat = 0 from rfl] at dH)
 (try simp only [Nat.reduceMul, Nat.zero_mul, Nat.zero_add, Nat.reduceAdd] at dH)
 (try rw [show ((0 : Int)).toNat = 0 from rfl] at cX)
 (try simp only [Nat.reduceMul, Nat.zero_mul, Nat.zero_add, Nat.reduceAdd] at cX)
 (try rw [show ((0 : Int)).toNat = 0 from rfl] at dI)
 (try simp only [Nat.reduceMul, Nat.zero_mul, Nat.zero_add, Nat.reduceAdd] at dI)
 (try rw [show ((0 : Int)).toNat = 0 from rfl] at cY)
 (try simp only [Nat.reduceMul, Nat.zero_mul, Nat.zero_add, Nat.reduceAdd] at cY)
 (try rw [show ((0 : Int)).toNat = 0 from rfl] at dJ)
 (try simp only [Nat.reduceMul, Nat.zero_mul, Nat.zero_add, Nat.reduceAdd] at dJ)
 (try rw [show ((0 : Int)).toNat = 0 from rfl] at cK)
 (try simp only [Nat.reduceMul, Nat.zero_mul, Nat.zero_add, Nat.reduceAdd] at cK)
 (try rw [show ((0 : Int)).toNat = 0 from rfl] at cL)
 (try simp only [Nat.reduceMul, Nat.zero_mul, Nat.zero_add, Nat.reduceAdd] at cL)
 replace p8 := eq_true p8
 replace q8 := eq_true q8
 have HN790_go8 := aM (show g790 ≠ cH from by have h_ := IsS175.own_ne aD.out aC.out (by decide); intro e_; exact h_ (by rw [e_]; rfl))
 obtain ⟨fO, dK, dR, dL, dY⟩ := Kd.R_elem aC.out z79 (0 : Int) (by omega) (by have h_ : (0 : Int) < ((aG.length : Int) : Int) := dT; first | exact h_ | (have e_ := (Kd.R_reads' aC.out).1; omega) | simpa using h_)
 obtain rfl := k79_openM dR
 have cO := (Kd.R_seg aC.out (0 : Int) (by omega) (by have h_ : (0 : Int) < ((aG.length : Int) : Int) := dT; first | exact h_ | (have e_ := (Kd.R_reads' aC.out).1; omega) | simpa using h_) (seg := [.bool bL, .bool bM, .int .i64 bN, .int .i64 bO, .int .i64 bP, .int .i64 bQ, .int .i64 bT, .int .i64 bU, .int .i64 bV, .int .i64 bW, .bool bX]) (j := 0) dK dL (show 11 ≤ 11 from by decide) (x' := (⟨bL, bM, (⟨bN, bO, bP, bQ⟩ : S73), bT, bU, bV, bW, bX⟩ : S79)) (k79_mkM _ _ _ (⟨bL, bM, (⟨bN, bO, bP, bQ⟩ : S73), bT, bU, bV, bW, bX⟩ : S79) ) (fun _ hk => hk)).1
 rw [← dX.out] at cO
 have HQ20 := aM cO
 clear dK dL dY dR cO
 refine hK.out _ _ ⟨cI aE.out 0, cI aE.out 1⟩ (fun hHeld => ?_)
 clear hK K
 refine norm_ (a' := ?_) ?_ ?_
 rotate_left
 ·show Act.put _ (some 14) _ = _
  simp only [Act.put, sA, sZ, sS, i64_w, i32_w]
  rfl
 refine pure_ (i := 4) (N := some 15) (v := ?_) (a' := ?_) (bv 6 31) rfl rfl (by kernel_rfl) (fun _ _ _ h => h) (Or.inl ⟨by rfl, ?_⟩) ?_ ?_
 rotate_left
 ·intro w'
  go_simp
  with_reducible rfl
 rotate_left
 ·simp only [Act.put, sA, sZ, sS, i64_w, i32_w]
  rfl
 refine last_ (i := 5) (N := none) (bv 6 63) rfl rfl (by kernel_rfl) (by decide) (fun K hK => ?_)
 refine skip_ (w1 := ?_) (by rfl) rfl ?_ ?_
 rotate_left
 ·go_simp
  rfl
 refine hK.out _ _ ?_
 clear hK K
 refine done_ (by kernel_rfl) ?_
 refine nX (fun W => Aside0 (Kd.R k79 79 W w.heap.size (fun _ => True) (.slice (some ⟨cH, 0, none⟩) aG.length bI) dO) ∧ Aside0 (W.heap[aT]? = some (.cells #[.int .i64 0, .slice none 0 0] 28 (0, 0))) ∧ Aside0 (W.heap[aQ]? = some (.cells #[aN, .slice (some ⟨cH, 0, none⟩) aG.length bI] 28 (0, 0))) ∧ Aside0 (IsS175 w W g790 aI dM dN) ∧ Aside0 (Below w.heap.size w W)) ⟨⟨kr HQ20.out⟩, ⟨fR aC.out aA.out⟩, ⟨fR aC.out aE.out⟩, ⟨by repeat (first | (with_reducible first | exact aD.out | apply IsS175.alloc | apply IsS175.drewN | apply IsS175.drew | apply IsS175.set_1 | apply IsS175.set_2 | refine IsS175.far ?_ HN790_go8.out _ | refine IsS175.far ?_ HN790_go8.out _ | refine IsS175.far ?_ HN790_go8.out _ | refine IsS175.far ?_ HN790_go8.out _ | refine IsS175.far ?_ HN790_go8.out _ | refine IsS175.far ?_ HN790_go8.out _ | refine IsS175.far ?_ HN790_go8.out _ | refine IsS175.far ?_ HN790_go8.out _ | refine IsS175.far ?_ HN790_go8.out _ | refine IsS175.far ?_ HN790_go8.out _ | refine IsS175.far ?_ HN790_go8.out _ | refine IsS175.far ?_ aV.out _ | refine IsS175.far ?_ aW.out _) | exact aD.out)⟩, ⟨IsS175.bl HB.out⟩⟩ ?_
 intro gM nn_
 replace aC := nn_.1
 replace aA := nn_.2.1
 replace aE := nn_.2.2.1
 replace aD := nn_.2.2.2.1
 replace HB := nn_.2.2.2.2
 clear nn_
 have fF := cA2 aE.out
 have fG := aH.out
 have fH := aV.out
 have fI := cA2 aA.out
 try go_wp2
 refine bodyPost_ret (results_cell_row rfl _ _ aT 28 #[aN, .slice (some ⟨cH, 0, none⟩) aG.length bI] (0, 0) _ rfl (bm aA.out) Try.underlying28 rfl (by kernel_rfl)) rfl ?_
 exact ⟨_, xW, by (with_reducible repeat (first | apply Kd.R_alloc | apply Kd.R_drewN | apply Kd.R_drew)); exact Kd.R_mono (kF (p := ⟨aT, 1, none⟩) (kF (p := ⟨aT, 0, none⟩) (Kd.R_types aC.out aA.out (by decide)) (fun _ hk => hk.2) (.int .i64 aN)) (fun _ hk => hk.2) (.slice (some ⟨cH, 0, none⟩) aG.length bI)) (fun _ hk => trivial), IsS175.bl HB.out⟩

def impl_InOk.f (aA aC aD aE aG aH aI : Int) (aJ : Bool) : Option (Bool) := if aA = 1 then ((impl_isPort.f aC).bind fun aK => (if aK = true then ((impl_VecOk.f aD aE aG aH).bind fun aN => (if aN = true then ((impl_isHops.f aI).bind fun aQ => (if aQ = true then (some (!aJ)) else (some false))) else (some false))) else (some false))) else (if aA = 3 then ((impl_isPort.f aC).bind fun aT => (if aT = true then (if (aD == 0 && (aE == 0 && (aG == 0 && (aH == 0)))) = true then (some (aI == 0)) else (some false)) else (some false))) else (some (aA == 2 && (aC == 0 && ((aD == 0 && (aE == 0 && (aG == 0 && (aH == 0)))) && (aI == 0 && (!aJ)))))))
set_option maxHeartbeats 60000000 in
set_option maxRecDepth 100000 in
theorem impl_InOk.calls (aI aC aD aE aG aH aJ : Int) (aK r : Bool) (w : World) (h : impl_InOk.f aI aC aD aE aG aH aJ aK = some r) :
  Calls Try.prog 130 #[.agg #[aI, aC, aD, aE, aG, aH, aJ, aK]] w fun e w' => e = .returned (.bool r) ∧ Below w.heap.size w w' := by
 have cL := Try.underlying89
 have cN := Try.underlying73
 have HB := aM (Below.refl w.heap.size w)
 have H : (if aI = 1 then ((impl_isPort.f aC).bind fun aX => (if aX = true then ((impl_VecOk.f aD aE aG aH).bind fun bA => (if bA = true then ((impl_isHops.f aJ).bind fun bD => (if bD = true then (some (!aK)) else (some false))) else (some false))) else (some false))) else (if aI = 3 then ((impl_isPort.f aC).bind fun bG => (if bG = true then (if (aD == 0 && (aE == 0 && (aG == 0 && (aH == 0)))) = true then (some (aJ == 0)) else (some false)) else (some false))) else (some (aI == 2 && (aC == 0 && ((aD == 0 && (aE == 0 && (aG == 0 && (aH == 0)))) && (aJ == 0 && (!aK)))))))) = some r := h
 clear h
 by_cases c2 : aI = 1
 case neg =>
  rw [if_neg c2] at H
  have bU : (aI == 1) = false := beq_eq_false_iff_ne.mpr c2
  have bV : (aI != 1) = true := bne_iff_ne.mpr c2
  by_cases aW : aI = 3
  case neg =>
   rw [if_neg aW] at H
   have bK : (aI == 3) = false := beq_eq_false_iff_ne.mpr aW
   have bL : (aI != 3) = true := bne_iff_ne.mpr aW
   obtain rfl := Option.some.inj H
   go_enter Try.func130, Try.ntmps130
   go_wp2_with (first | ((with_reducible refine gD (N := 1) rfl ?_); refine bE (N := 1) (cs := #[aI, aC, aD, aE, aG, aH, aJ, aK]) (t := 89) ?_; intro aN hg cO hbox hb; have aA := aM (hbox); have aQ := gF hg HB; have aT := gF hg HB; replace HB := rS HB hb; clear hb hbox hg; have bW := cA8 aA.out))
   go_ret
   exact ⟨xW, bl HB.out⟩
  rw [if_pos aW] at H
  have bK : (aI == 3) = true := beq_iff_eq.mpr aW
  have bL : (aI != 3) = false := bne_eq_false_iff_eq.mpr aW
  clear aW
  obtain ⟨bG, bI, H⟩ := hB H
  have bJ := aM bI
  clear bI
  by_cases bH : bG = true
  case neg =>
   replace bH := Bool.eq_false_iff.mpr bH
   subst bH
   replace H := hF H
   obtain rfl := Option.some.inj H
   go_enter Try.func130, Try.ntmps130
   go_wp2_with (first | ((with_reducible refine gD (N := 1) rfl ?_); refine bE (N := 1) (cs := #[aI, aC, aD, aE, aG, aH, aJ, aK]) (t := 89) ?_; intro aN hg cP hbox hb; have aA := aM (hbox); have aQ := gF hg HB; have aT := gF hg HB; replace HB := rS HB hb; clear hb hbox hg; have bX := cA8 aA.out) | ((with_reducible refine gC (f := 170) rfl ?_); refine gL (some 29) Try.func170 #[aC] ?_; (with_reducible refine (impl_isPort.calls aC false _ bJ.out).mono ?_); rintro e w' ⟨rfl, ⟨nd, rfl⟩⟩; refine ⟨_, rfl, ?_⟩))
   go_ret
   exact ⟨xW, bl HB.out⟩
  subst bH
  replace H := hP H rfl
  by_cases aV : (aD == 0 && (aE == 0 && (aG == 0 && (aH == 0)))) = true
  case pos =>
   rw [if_pos aV] at H
   have bM : (aD == 0 && (aE == 0 && (aG == 0 && (aH == 0)))) = true := aV
   (try (have bN : decide (aD = 0 && (aE == 0 && (aG == 0 && (aH == 0)))) = true := by simpa using aV))
   (try (have bO : (aD == 0 && (aE == 0 && (aG == 0 && (aH == 0)))) = true := by simpa using aV))
   clear aV
   obtain rfl := Option.some.inj H
   go_enter Try.func130, Try.ntmps130
   go_wp2_with (first | ((with_reducible refine gD (N := 1) rfl ?_); refine bE (N := 1) (cs := #[aI, aC, aD, aE, aG, aH, aJ, aK]) (t := 89) ?_; intro aN hg cQ hbox hb; have aA := aM (hbox); have aQ := gF hg HB; have aT := gF hg HB; replace HB := rS HB hb; clear hb hbox hg; have bY := cA8 aA.out) | ((with_reducible refine gC (f := 170) rfl ?_); refine gL (some 29) Try.func170 #[aC] ?_; (with_reducible refine (impl_isPort.calls aC true _ bJ.out).mono ?_); rintro e w' ⟨rfl, ⟨nd, rfl⟩⟩; refine ⟨_, rfl, ?_⟩))
   go_ret
   exact ⟨xW, bl HB.out⟩
  rw [if_neg aV] at H
  have bM : (aD == 0 && (aE == 0 && (aG == 0 && (aH == 0)))) = false := by simpa using aV
  (try (have bN : decide (aD = 0 && (aE == 0 && (aG == 0 && (aH == 0)))) = false := by simpa using aV))
  (try (have bO : (aD == 0 && (aE == 0 && (aG == 0 && (aH == 0)))) = false := by simpa using aV))
  (try (have bZ : ¬ (aD = 0 && (aE == 0 && (aG == 0 && (aH == 0)))) := by simpa using aV))
  clear aV
  obtain rfl := Option.some.inj H
  go_enter Try.func130, Try.ntmps130
  go_wp2_with (first | ((with_reducible refine gD (N := 1) rfl ?_); refine bE (N := 1) (cs := #[aI, aC, aD, aE, aG, aH, aJ, aK]) (t := 89) ?_; intro aN hg cR hbox hb; have aA := aM (hbox); have aQ := gF hg HB; have aT := gF hg HB; replace HB := rS HB hb; clear hb hbox hg; have cA := cA8 aA.out) | ((with_reducible refine gC (f := 170) rfl ?_); refine gL (some 29) Try.func170 #[aC] ?_; (with_reducible refine (impl_isPort.calls aC true _ bJ.out).mono ?_); rintro e w' ⟨rfl, ⟨nd, rfl⟩⟩; refine ⟨_, rfl, ?_⟩))
  go_ret
  exact ⟨xW, bl HB.out⟩
 rw [if_pos c2] at H
 have bU : (aI == 1) = true := beq_iff_eq.mpr c2
 have bV : (aI != 1) = false := bne_eq_false_iff_eq.mpr c2
 clear c2
 obtain ⟨aX, bP, H⟩ := hB H
 have A3 := aM bP
 clear bP
 by_cases c4 : aX = true
 case neg =>
  replace c4 := Bool.eq_false_iff.mpr c4
  subst c4
  replace H := hF H
  obtain rfl := Option.some.inj H
  go_enter Try.func130, Try.ntmps130
  go_wp2_with (first | ((with_reducible refine gD (N := 1) rfl ?_); refine bE (N := 1) (cs := #[aI, aC, aD, aE, aG, aH, aJ, aK]) (t := 89) ?_; intro aN hg cS hbox hb; have aA := aM (hbox); have aQ := gF hg HB; have aT := gF hg HB; replace HB := rS HB hb; clear hb hbox hg; have cC := cA8 aA.out) | ((with_reducible refine gC (f := 170) rfl ?_); refine gL (some 9) Try.func170 #[aC] ?_; (with_reducible refine (impl_isPort.calls aC false _ A3.out).mono ?_); rintro e w' ⟨rfl, ⟨nd, rfl⟩⟩; refine ⟨_, rfl, ?_⟩))
  go_ret
  exact ⟨xW, bl HB.out⟩
 subst c4
 replace H := hP H rfl
 obtain ⟨bA, bQ, H⟩ := hB H
 have A5 := aM bQ
 clear bQ
 by_cases c6 : bA = true
 case neg =>
  replace c6 := Bool.eq_false_iff.mpr c6
  subst c6
  replace H := hF H
  obtain rfl := Option.some.inj H
  go_enter Try.func130, Try.ntmps130
  go_wp2_with (first | ((with_reducible refine gD (N := 1) rfl ?_); refine bE (N := 1) (cs := #[aI, aC, aD, aE, aG, aH, aJ, aK]) (t := 89) ?_; intro aN hg cT hbox hb; have aA := aM (hbox); have aQ := gF hg HB; have aT := gF hg HB; replace HB := rS HB hb; clear hb hbox hg; have cD := cA8 aA.out) | ((with_reducible refine gC (f := 170) rfl ?_); refine gL (some 9) Try.func170 #[aC] ?_; (with_reducible refine (impl_isPort.calls aC true _ A3.out).mono ?_); rintro e w' ⟨rfl, ⟨nd, rfl⟩⟩; refine ⟨_, rfl, ?_⟩) | (go_at_call 178; (with_reducible refine (impl_VecOk.calls aD aE aG aH false _ A5.out).mono ?_); rintro e cU ⟨rfl, hb⟩; replace aA := rB aA hb; replace HB := rS HB hb; (try clear hb)))
  go_ret
  exact ⟨xW, bl HB.out⟩
 subst c6
 replace H := hP H rfl
 obtain ⟨bD, bT, H⟩ := hB H
 have A7 := aM bT
 clear bT
 by_cases c8 : bD = true
 case pos =>
  subst c8
  replace H := hP H rfl
  obtain rfl := Option.some.inj H
  go_enter Try.func130, Try.ntmps130
  go_wp2_with (first | ((with_reducible refine gD (N := 1) rfl ?_); refine bE (N := 1) (cs := #[aI, aC, aD, aE, aG, aH, aJ, aK]) (t := 89) ?_; intro aN hg w9 hbox hb; have aA := aM (hbox); have aQ := gF hg HB; have aT := gF hg HB; replace HB := rS HB hb; clear hb hbox hg; have cE := cA8 aA.out) | ((with_reducible refine gC (f := 170) rfl ?_); refine gL (some 9) Try.func170 #[aC] ?_; (with_reducible refine (impl_isPort.calls aC true _ A3.out).mono ?_); rintro e w' ⟨rfl, ⟨nd, rfl⟩⟩; refine ⟨_, rfl, ?_⟩) | (go_at_call 178; (with_reducible refine (impl_VecOk.calls aD aE aG aH true _ A5.out).mono ?_); rintro e cV ⟨rfl, hb⟩; replace aA := rB aA hb; replace HB := rS HB hb; (try clear hb); have cG := cA8 aA.out) | (go_at_call 179; (with_reducible refine (impl_isHops.calls aJ true _ A7.out).mono ?_); rintro e w' ⟨rfl, ⟨nd, rfl⟩⟩))
  go_ret
  exact ⟨xW, bl HB.out⟩
 replace c8 := Bool.eq_false_iff.mpr c8
 subst c8
 replace H := hF H
 obtain rfl := Option.some.inj H
 go_enter Try.func130, Try.ntmps130
 go_wp2_with (first | ((with_reducible refine gD (N := 1) rfl ?_); refine bE (N := 1) (cs := #[aI, aC, aD, aE, aG, aH, aJ, aK]) (t := 89) ?_; intro aN hg cW hbox hb; have aA := aM (hbox); have aQ := gF hg HB; have aT := gF hg HB; replace HB := rS HB hb; clear hb hbox hg; have cH := cA8 aA.out) | ((with_reducible refine gC (f := 170) rfl ?_); refine gL (some 9) Try.func170 #[aC] ?_; (with_reducible refine (impl_isPort.calls aC true _ A3.out).mono ?_); rintro e w' ⟨rfl, ⟨nd, rfl⟩⟩; refine ⟨_, rfl, ?_⟩) | (go_at_call 178; (with_reducible refine (impl_VecOk.calls aD aE aG aH true _ A5.out).mono ?_); rintro e cX ⟨rfl, hb⟩; replace aA := rB aA hb; replace HB := rS HB hb; (try clear hb); have cK := cA8 aA.out) | (go_at_call 179; (with_reducible refine (impl_isHops.calls aJ false _ A7.out).mono ?_); rintro e w' ⟨rfl, ⟨nd, rfl⟩⟩))
 go_ret
 exact ⟨xW, bl HB.out⟩

def impl_Bridge_hops.f (k : Nat) (aD : Int) (aC : List (S79)) : Option (Int) := (impl_Bridge_rootPort.f k aD aC).bind fun aA => (if aA ≥ 0 then (if 0 ≤ aA then (if aA < (aC.length : Int) then (some (wrap64 (((rd_T79 aC aA).f3) + 1))) else (none)) else (none)) else (some 0))
theorem impl_Bridge_hops.mono : ∀ a0 a1 k, LeO (impl_Bridge_hops.f k a0 a1) (impl_Bridge_hops.f (k + 1) a0 a1) := by
 intro a0 a1 k
 unfold impl_Bridge_hops.f
 repeat' first|(with_reducible first|apply impl_Bridge_rootPort.mono|exact lR _|exact lN _|refine lI ?_ ?_|refine lB ?_ fun _ => ?_)|exact lN _|refine lI ?_ ?_|refine lB ?_ fun _ => ?_
set_option maxHeartbeats 60000000 in
set_option maxRecDepth 100000 in
theorem impl_Bridge_hops.calls (k : Nat) (aX : Int) (bI : Option Addr) (bJ : Nat) (aA : List (S79)) (r : Int) (w : World) (gb : Nat) (hBK : w.heap[gb]? = some (.cells #[aX, .slice bI aA.length bJ] 28 (0, 0))) (hr0_1 : Kd.C k79 w bI aA.length aA) (hc0_1 : aA.length ≤ bJ) (h : impl_Bridge_hops.f k aX aA = some r) :
  Calls Try.prog 121 #[.pointer (some ⟨gb, 0, none⟩)] w fun e w' => e = .returned (.int .i64 r) ∧ Below w.heap.size w w' := by
 have bO := Try.underlying28
 have bA := aM hr0_1
 have bH := aM hc0_1
 clear hr0_1 hc0_1
 have HB := aM (Below.refl w.heap.size w)
 have H : ((impl_Bridge_rootPort.f k aX aA).bind fun aC => (if aC ≥ 0 then (if 0 ≤ aC then (if aC < (aA.length : Int) then (some (wrap64 (((rd_T79 aA aC).f3) + 1))) else (none)) else (none)) else (some 0))) = some r := h
 clear h
 obtain ⟨aC, bK, H⟩ := hB H
 have A2 := aM bK
 clear bK
 by_cases c3 : aC ≥ 0
 case neg =>
  rw [if_neg c3] at H
  have bL := decide_eq_false c3
  clear c3
  obtain rfl := Option.some.inj H
  go_enter Try.func121, Try.ntmps121
  have aD := aM hBK
  clear hBK
  go_wp2_with (first | ((with_reducible refine gC (f := 118) rfl ?_); refine gL (some 5) Try.func118 #[.pointer (some ⟨gb, 0, none⟩)] ?_; (with_reducible refine (impl_Bridge_rootPort.calls (gb := gb) (hBK := (bk aD.out)) k aX _ _ aA aC _ ?side1 ?side2 A2.out).mono ?_); (case side1 => exact cM (cB bA.out HB.out)); (case side2 => exact bH.out); rintro e bU ⟨rfl, hb⟩; refine ⟨_, rfl, ?_⟩; replace aD := rB aD hb; replace HB := rS HB hb; (try clear hb)))
  go_ret
  exact ⟨xW, bl HB.out⟩
 rw [if_pos c3] at H
 have bL := decide_eq_true c3
 clear c3
 obtain ⟨bP, H⟩ := gI H
 obtain ⟨bQ, H⟩ := gI H
 obtain rfl := Option.some.inj H
 go_enter Try.func121, Try.ntmps121
 have aD := aM hBK
 clear hBK
 go_wp2_with (first | ((with_reducible refine gC (f := 118) rfl ?_); refine gL (some 5) Try.func118 #[.pointer (some ⟨gb, 0, none⟩)] ?_; (with_reducible refine (impl_Bridge_rootPort.calls (gb := gb) (hBK := (bk aD.out)) k aX _ _ aA aC _ ?side1 ?side2 A2.out).mono ?_); (case side1 => exact cM (cB bA.out HB.out)); (case side2 => exact bH.out); rintro e w7 ⟨rfl, hb⟩; refine ⟨_, rfl, ?_⟩; replace aD := rB aD hb; replace HB := rS HB hb; (try clear hb); have bT := cA2 aD.out; have bD : 0 ≤ (aC : Int) := dT; have bG : aC < (aA.length : Int) := dT; obtain ⟨bN, bM, aG, aH, aI, aJ, aK, aN, aQ, aT, aV, aW, aE⟩ := at_T79 bA.out aC bD bG; cases bM; replace aG := (HB.out.cell (World.block_lt_of_cell? w _ aG)).trans aG; replace aH := (HB.out.cell (World.block_lt_of_cell? w _ aH)).trans aH; replace aI := (HB.out.cell (World.block_lt_of_cell? w _ aI)).trans aI; replace aJ := (HB.out.cell (World.block_lt_of_cell? w _ aJ)).trans aJ; replace aK := (HB.out.cell (World.block_lt_of_cell? w _ aK)).trans aK; replace aN := (HB.out.cell (World.block_lt_of_cell? w _ aN)).trans aN; replace aQ := (HB.out.cell (World.block_lt_of_cell? w _ aQ)).trans aQ; replace aT := (HB.out.cell (World.block_lt_of_cell? w _ aT)).trans aT; replace aV := (HB.out.cell (World.block_lt_of_cell? w _ aV)).trans aV; replace aW := (HB.out.cell (World.block_lt_of_cell? w _ aW)).trans aW; replace aE := (HB.out.cell (World.block_lt_of_cell? w _ aE)).trans aE; replace bD := eq_true bD; replace bG := eq_true bG))
 go_ret
 exact ⟨xW, bl HB.out⟩

end Go.Proofs.Ythmijfekdeagpaa.PFnWaits

/- Of the proof of laws.FnRootPorts: a part. No condition beyond what its theorems say. -/
import Derived.Test.YthmijfekdeagpaaVFnRootPortsPx25
import Derived.Test.YthmijfekdeagpaaVFnRootPortsPx26
namespace Go.Proofs.Ythmijfekdeagpaa.PFnRootPorts
open Go.RowKit Go.Proofs.YthmijfekdeagpaaW.PrintWords Go.Proofs.YthmijfekdeagpaaW.PrintLast Go.Proofs.YthmijfekdeagpaaW.PrintMore
attribute [local go_sem] max2_int min2_int max_two min_two max_three min_three max_four min_four   -- for this text's walks alone
set_option linter.unusedVariables false
set_option linter.unusedSimpArgs false

def spec_l8Draw.f (k : Nat) (aE : List Int) (aI : Int) (aJ : Int) : Option (Int × (List (S79)) × Int × Int) := (spec_l8DrawRight.f k aE aI aJ).bind fun aC => ((spec_l1Below.f aE aC.2.2.1 aC.2.2.2 8).bind fun aD => (if aD.1 = 0 then ((spec_l1PickInt.f aE aD.2.1 aD.2.2 (([0, 9, 10] : List Int))).bind fun aG => (some (aG.1, aC.2.1, aG.2.1, aG.2.2))) else (if aD.1 = 1 then ((spec_l7Draw.f k aE aD.2.1 aD.2.2).bind fun aA => (if 0 < (aC.2.1.length : Int) then (some (aC.1, (aC.2.1.set (0 : Int).toNat (⟨aA.1, aA.2.1, (⟨aA.2.2.1, aA.2.2.2.1, aA.2.2.2.2.1, aA.2.2.2.2.2.1⟩ : S73), aA.2.2.2.2.2.2.1, aA.2.2.2.2.2.2.2.1, aA.2.2.2.2.2.2.2.2.1, aA.2.2.2.2.2.2.2.2.2.1, aA.2.2.2.2.2.2.2.2.2.2.1⟩ : S79)), aA.2.2.2.2.2.2.2.2.2.2.2.1, aA.2.2.2.2.2.2.2.2.2.2.2.2)) else (none))) else (if aD.1 = 2 then ((some (([(⟨false, false, (⟨0, 0, 0, 0⟩ : S73), 0, 0, 0, 0, false⟩ : S79), (⟨false, false, (⟨0, 0, 0, 0⟩ : S73), 0, 0, 0, 0, false⟩ : S79)] : List (S79)) : List (S79))).bind fun aH => (if aC.2.1.length + aH.length < 1759218604441 then (some (aC.1, (aC.2.1 ++ aH), aD.2.1, aD.2.2)) else (none))) else (some (aC.1, aC.2.1, aD.2.1, aD.2.2))))))
theorem spec_l8Draw.mono : ∀ a0 a1 a2 k, LeO (spec_l8Draw.f k a0 a1 a2) (spec_l8Draw.f (k + 1) a0 a1 a2) := by
 intro a0 a1 a2 k
 unfold spec_l8Draw.f
 repeat' first|(with_reducible first|apply spec_l7Draw.mono|apply spec_l8DrawRight.mono|exact LeO.refl _|exact LeO.none _|refine LeO.ite ?_ ?_|refine LeO.bind ?_ (fun _ => ?_))|exact LeO.none _|refine LeO.ite ?_ ?_|refine LeO.bind ?_ (fun _ => ?_)
theorem nX_ {n : Nat} {K : Exit → Act → World → Prop} {e : Exit} {a : Act} {w : World} (C : World → Prop) (hC : C w) (h : ∀ W, C W → Exit.inBlock n K e a W) : Exit.inBlock n K e a w := h w hC
set_option maxHeartbeats 60000000 in
set_option maxRecDepth 100000 in
theorem spec_l8Draw.calls (k : Nat) (g : Nat) (aG : List Int) (bH : Int) (bI : Int) (r1 : Int) (r2 : List (S79)) (r3 : Int) (r4 : Int) (w0 w : World) (hI : IsS175 w0 w g aG bH bI) (hB : Below w0.heap.size w0 w) (h : spec_l8Draw.f k aG bH bI = some (r1, r2, r3, r4)) :
  Calls Try.prog 117 #[.pointer (some ⟨g, 0, none⟩)] w fun e w' => ∃ fK : Value, e = .returned (.agg #[r1, fK]) ∧ Kd.R k79 79 w' w.heap.size (fun _ => True) fK r2 ∧ IsS175 w0 w' g aG r3 r4 ∧ Below w0.heap.size w0 w' ∧ KeepBut w w' g none := by
 have iT := Try.underlying28
 have iU := Try.underlying79
 have aD := aM hI
 have HK := aM (KeepBut.refl w g none)
 have HL := aM hB.size
 clear hI
 have HW0 := aM hB.size
 have HB := aM hB
 clear hB
 have H : ((spec_l8DrawRight.f k aG bH bI).bind fun bL => ((spec_l1Below.f aG bL.2.2.1 bL.2.2.2 8).bind fun bM => (if bM.1 = 0 then ((spec_l1PickInt.f aG bM.2.1 bM.2.2 (([0, 9, 10] : List Int))).bind fun bQ => (some (bQ.1, bL.2.1, bQ.2.1, bQ.2.2))) else (if bM.1 = 1 then ((spec_l7Draw.f k aG bM.2.1 bM.2.2).bind fun bD => (if 0 < (bL.2.1.length : Int) then (some (bL.1, (bL.2.1.set (0 : Int).toNat (⟨bD.1, bD.2.1, (⟨bD.2.2.1, bD.2.2.2.1, bD.2.2.2.2.1, bD.2.2.2.2.2.1⟩ : S73), bD.2.2.2.2.2.2.1, bD.2.2.2.2.2.2.2.1, bD.2.2.2.2.2.2.2.2.1, bD.2.2.2.2.2.2.2.2.2.1, bD.2.2.2.2.2.2.2.2.2.2.1⟩ : S79)), bD.2.2.2.2.2.2.2.2.2.2.2.1, bD.2.2.2.2.2.2.2.2.2.2.2.2)) else (none))) else (if bM.1 = 2 then ((some (([(⟨false, false, (⟨0, 0, 0, 0⟩ : S73), 0, 0, 0, 0, false⟩ : S79), (⟨false, false, (⟨0, 0, 0, 0⟩ : S73), 0, 0, 0, 0, false⟩ : S79)] : List (S79)) : List (S79))).bind fun bR => (if bL.2.1.length + bR.length < 1759218604441 then (some (bL.1, (bL.2.1 ++ bR), bM.2.1, bM.2.2)) else (none))) else (some (bL.1, bL.2.1, bM.2.1, bM.2.2))))))) = some (r1, r2, r3, r4) := h
 clear h
 obtain ⟨⟨aN, aH, aV, aW⟩, fL, H⟩ := hB H
 try dsimp only at H
 have A2 := aM fL
 clear fL
 obtain ⟨⟨aX, bO, bP⟩, fM, H⟩ := hB H
 try dsimp only at H
 have A3 := aM fM
 clear fM
 by_cases c4 : aX = 0
 case pos =>
  rw [if_pos c4] at H
  have fO : (aX == 0) = true := beq_iff_eq.mpr c4
  have fP : (aX != 0) = false := bne_eq_false_iff_eq.mpr c4
  clear c4
  obtain ⟨dY, bU⟩ : ∃ y_ : List Int, y_ = (([0, 9, 10] : List Int)) := ⟨_, rfl⟩
  replace H : ((spec_l1PickInt.f aG bO bP dY).bind fun bQ => (some (bQ.1, aH, bQ.2.1, bQ.2.2))) = some (r1, r2, r3, r4) := by first | (rw [bU]; with_reducible exact H) | (have H2_ := (Option.bind_some _ _).symm.trans H; rw [bU]; with_reducible exact H2_) | (have H2_ := (Option.bind_some _ _).symm.trans H; with_reducible exact H2_) | with_reducible exact H | (rw [bU]; exact H) | exact H
  have eI := aM bU
  clear bU
  obtain ⟨⟨cW, fQ, fS⟩, fN, H⟩ := hB H
  try dsimp only at H
  have A5 := aM fN
  clear fN
  simp only [Option.some.injEq, Prod.mk.injEq] at H
  obtain ⟨rfl, rfl, rfl, rfl⟩ := H
  go_enter Try.func117, Try.ntmps117
  go_wp2_with (first | ((with_reducible refine gD (N := 2) rfl ?_); refine box_event ?hg (N := 2) ?hd (cs := #[.int .i64 0, .slice none 0 0]) (t := 28) ?hr ?_; (case hd => rfl); (case hg => rfl); (case hr => first | (go_simp; done) | (go_simp; rfl) | (obtain ⟨A_, c_, e_⟩ := Kd.R_slice aA.out; subst e_; (first | (go_simp; done) | (go_simp; rfl))) | (obtain ⟨A_, c_, e_⟩ := Kd.S_slice aA.out; subst e_; (first | (go_simp; done) | (go_simp; rfl))) | (obtain ⟨A_, c_, e_⟩ := Kd.R_slice bG.out; subst e_; (first | (go_simp; done) | (go_simp; rfl))) | (obtain ⟨A_, c_, e_⟩ := Kd.S_slice bG.out; subst e_; (first | (go_simp; done) | (go_simp; rfl)))); intro aT hg w6 hbox hb; have aC := aM (hbox); have bX := gE hg (keep_size (km HK.out)); have bY := gE2 HW0.out hg (keep_size (km HK.out)); have bJ := nL hg (IsS175.lt (show IsS175 w0 _ g aG bH bI from IsS175.mv aD.out)); have aI := nG hg (IsS175.lt (show IsS175 w0 _ g aG bH bI from IsS175.mv aD.out)); replace aD := aM (IsS175.below (IsS175.mv aD.out) hb); replace HK := rU HK hb; replace HB := aM (bS (IsS175.bl HB.out) hb); clear hb hbox hg) | ((with_reducible refine gC (f := 173) rfl ?_); refine gL (some 5) Try.func173 #[.pointer (some ⟨g, 0, none⟩)] ?_; (with_reducible refine (spec_l8DrawRight.calls k g aG bH bI aN aH aV aW w0 _ ?side1 ?side2 A2.out).mono ?_); (case side1 => exact IsS175.mv aD.out); (case side2 => exact IsS175.bl HB.out); rintro e w7 ⟨dZ, rfl, ho0, hi, hb, hk⟩; refine ⟨_, rfl, ?_⟩; have aA := aM (Kd.R_lower ho0 (keep_size (km HK.out))); replace aC := rP hk aC aI; replace HK := aM (KeepBut.trans (km HK.out) hk (.inl rfl)); replace HB := aM (hb); replace aD := aM (hi); (repeat first|clear hb|clear hk|clear hi|clear ho0)) | ((with_reducible refine gD (N := 3) rfl ?_); refine box_event ?hg (N := 3) ?hd (cs := #[.int .i64 0, .slice none 0 0]) (t := 28) ?hr ?_; (case hd => rfl); (case hg => rfl); (case hr => first | (go_simp; done) | (go_simp; rfl) | (obtain ⟨A_, c_, e_⟩ := Kd.R_slice aA.out; subst e_; (first | (go_simp; done) | (go_simp; rfl))) | (obtain ⟨A_, c_, e_⟩ := Kd.S_slice aA.out; subst e_; (first | (go_simp; done) | (go_simp; rfl))) | (obtain ⟨A_, c_, e_⟩ := Kd.R_slice bG.out; subst e_; (first | (go_simp; done) | (go_simp; rfl))) | (obtain ⟨A_, c_, e_⟩ := Kd.S_slice bG.out; subst e_; (first | (go_simp; done) | (go_simp; rfl)))); intro aJ hg w8 hbox hb; have aE := aM (hbox); have bZ := gE hg (keep_size (km HK.out)); have cA := gE2 HW0.out hg (keep_size (km HK.out)); have aZ := nM hg aC; have bA := nH hg aC; have bK := nL hg (IsS175.lt (show IsS175 w0 _ g aG aV aW from IsS175.mv aD.out)); have aK := nG hg (IsS175.lt (show IsS175 w0 _ g aG aV aW from IsS175.mv aD.out)); replace aA := aM (kB (kr aA.out) hb); replace aD := aM (IsS175.below (IsS175.mv aD.out) hb); replace aC := rB aC hb; replace HK := rU HK hb; replace HB := aM (bS (IsS175.bl HB.out) hb); clear hb hbox hg; have iV := bA.out; have iW := aZ.out; have gO := aK.out; have gP := bK.out; have gQ := cA2 aE.out; obtain ⟨cX, cY, fT⟩ := Kd.R_slice aA.out; subst fT) | ((with_reducible refine gC (f := 99) rfl ?_); refine gL (some 7) Try.func99 #[.pointer (some ⟨g, 0, none⟩), .int .i64 8] ?_; (with_reducible refine (spec_l1Below.calls g aG aV aW 8 aX bO bP w0 _ ?side1 ?side2 A3.out).mono ?_); (case side1 => exact IsS175.mv aD.out); (case side2 => exact IsS175.bl HB.out); rintro e jF ⟨rfl, hi, hb, hk⟩; refine ⟨_, rfl, ?_⟩; replace aC := aM (KeepBut.blk hk (fm aC.out) aI.out (by simp)); replace aA := aM (Kd.R_mono (Kd.R_keep (IsS175.apart (show IsS175 w0 _ g aG aV aW from IsS175.mv aD.out) (kr (Kd.R_mono (kF (p := ⟨aJ, 1, none⟩) (kF (p := ⟨aJ, 0, none⟩) (Kd.R_types aA.out aE.out (by decide)) (fun _ hk => hk.2) (.int .i64 aN)) (fun _ hk => hk.2) (.slice cX aH.length cY)) (fun _ h_ => h_.1))) (by decide)) hk (fun _ h => h.2)) (fun _ h => h.1)); replace aE := aM (KeepBut.blk hk (g' := aJ) (o := .cells #[aN, .slice cX aH.length cY] 28 (0, 0)) (bm aE.out) aK.out (by simp)); replace HK := aM (KeepBut.trans (km HK.out) hk (.inl rfl)); replace HB := aM (hb); replace aD := aM (hi); (repeat first|clear hb|clear hk|clear hi)) | ((with_reducible refine gD (N := 11) rfl ?_); refine Kd.R_lit (Kd.int .i64) _ 3 ?hg (N := 11) ?hd (xs := ([0, 9, 10] : List Int)) (inner := [.int .i64 0, .int .i64 9, .int .i64 10]) (ok := fun _ => True) (okp := fun _ => True) ?hr ?hp (fun _ hk => hk) trivial (Below.refl _ _) (Nat.le_refl _) (by simp) ?_; (case hd => rfl); (case hg => rfl); (case hr => first | (go_simp; done) | (go_simp; rfl) | (obtain ⟨A_, c_, e_⟩ := Kd.R_slice aA.out; subst e_; (first | (go_simp; done) | (go_simp; rfl))) | (obtain ⟨A_, c_, e_⟩ := Kd.S_slice aA.out; subst e_; (first | (go_simp; done) | (go_simp; rfl))) | (obtain ⟨A_, c_, e_⟩ := Kd.R_slice bG.out; subst e_; (first | (go_simp; done) | (go_simp; rfl))) | (obtain ⟨A_, c_, e_⟩ := Kd.S_slice bG.out; subst e_; (first | (go_simp; done) | (go_simp; rfl)))); (case hp => exact (Reps.one (show Kd.M (Kd.int .i64) _ _ _ 0 [.int .i64 0] from rfl) (Reps.one (show Kd.M (Kd.int .i64) _ _ _ 9 [.int .i64 9] from rfl) (Reps.one (show Kd.M (Kd.int .i64) _ _ _ 10 [.int .i64 10] from rfl) (Reps.none _ _))))); intro iX jG ho15 hb hg_ hnew_; clear hg_ hnew_; (first | rw [← eI.out] at ho15 | (simp only [Int.reduceToNat] at ho15; rw [← eI.out] at ho15)); have bG := aM (Kd.R_lower ho15 (keep_size (km HK.out))); replace aA := aM (kB (kr aA.out) hb); replace aD := aM (IsS175.below (IsS175.mv aD.out) hb); replace aC := rB aC hb; replace aE := rB aE hb; replace HK := rU HK hb; replace HB := aM (bS (IsS175.bl HB.out) hb); clear hb ho15; obtain ⟨fU, fV, fW⟩ := Kd.R_slice bG.out; subst fW) | ((with_reducible refine gC (f := 101) rfl ?_); refine gL (some 12) Try.func101 #[.pointer (some ⟨g, 0, none⟩), .slice fU dY.length fV] ?_; (with_reducible refine (spec_l1PickInt.calls g aG bO bP _ _ dY cW fQ fS w0 _ ?side1 ?side2 ?side3 ?side4 ?side5 A5.out).mono ?_); (case side1 => exact IsS175.mv aD.out); (case side2 => exact IsS175.bl HB.out); (case side3 => repeat (first | exact (Kd.R_reads' bG.out).2.2 | (with_reducible refine Kd.C_alloc ?_ _) | (with_reducible refine Kd.C_drewN ?_ _) | (with_reducible refine Kd.C_drew ?_))); (case side4 => exact (Kd.R_reads' bG.out).2.1); (case side5 => exact far_slice (IsS175.own_ne aD.out bG.out (by decide))); rintro e jH ⟨rfl, hi, hb, hk⟩; refine ⟨_, rfl, ?_⟩; replace aC := rP hk aC aI; replace aA := aM (Kd.R_mono (Kd.R_keep (IsS175.apart (show IsS175 w0 _ g aG bO bP from IsS175.mv aD.out) (kr aA.out) (by decide)) hk (fun _ h => h.2)) (fun _ h => h.1)); replace aE := rP hk aE aK; replace bG := aM (Kd.R_mono (Kd.R_keep (IsS175.apart (show IsS175 w0 _ g aG bO bP from IsS175.mv aD.out) (kr bG.out) (by decide)) hk (fun _ h => h.2)) (fun _ h => h.1)); replace HK := aM (KeepBut.trans (km HK.out) hk (.inl rfl)); replace HB := aM (hb); replace aD := aM (hi); (repeat first|clear hb|clear hk|clear hi); have gR := cA2 aE.out; have gS := aI.out; have gT := bJ.out; have gU := cA2 aC.out))
  refine bodyPost_ret (results_cell_row rfl _ _ aT 28 #[cW, .slice cX aH.length cY] (0, 0) _ rfl (bm aC.out) Try.underlying28 rfl (by kernel_rfl)) rfl ?_
  exact ⟨_, xW, by (with_reducible repeat (first | apply Kd.R_alloc | apply Kd.R_drewN | apply Kd.R_drew)); exact Kd.R_mono (kF (p := ⟨aT, 1, none⟩) (kF (p := ⟨aT, 0, none⟩) (kF (p := ⟨aJ, 0, none⟩) (Kd.R_types (Kd.R_types aA.out aE.out (by decide)) aC.out (by decide)) (fun _ hk => hk.1.2) (.int .i64 cW)) (fun _ hk => hk.2) (.int .i64 cW)) (fun _ hk => hk.2) (.slice cX aH.length cY)) (fun _ hk => trivial), IsS175.mv aD.out, IsS175.bl HB.out, km HK.out⟩
 rw [if_neg c4] at H
 have fO : (aX == 0) = false := beq_eq_false_iff_ne.mpr c4
 have fP : (aX != 0) = true := bne_iff_ne.mpr c4
 by_cases cC : aX = 1
 case neg =>
  rw [if_neg cC] at H
  have fB : (aX == 1) = false := beq_eq_false_iff_ne.mpr cC
  have fC : (aX != 1) = true := bne_iff_ne.mpr cC
  by_cases cD : aX = 2
  case neg =>
   rw [if_neg cD] at H
   have fD : (aX == 2) = false := beq_eq_false_iff_ne.mpr cD
   have fE : (aX != 2) = true := bne_iff_ne.mpr cD
   simp only [Option.some.injEq, Prod.mk.injEq] at H
   obtain ⟨rfl, rfl, rfl, rfl⟩ := H
   go_enter Try.func117, Try.ntmps117
   go_wp2_with (first | ((with_reducible refine gD (N := 2) rfl ?_); refine box_event ?hg (N := 2) ?hd (cs := #[.int .i64 0, .slice none 0 0]) (t := 28) ?hr ?_; (case hd => rfl); (case hg => rfl); (case hr => first | (go_simp; done) | (go_simp; rfl) | (obtain ⟨A_, c_, e_⟩ := Kd.R_slice aA.out; subst e_; (first | (go_simp; done) | (go_simp; rfl))) | (obtain ⟨A_, c_, e_⟩ := Kd.S_slice aA.out; subst e_; (first | (go_simp; done) | (go_simp; rfl)))); intro aT hg jI hbox hb; have aC := aM (hbox); have bX := gE hg (keep_size (km HK.out)); have bY := gE2 HW0.out hg (keep_size (km HK.out)); have bJ := nL hg (IsS175.lt (show IsS175 w0 _ g aG bH bI from IsS175.mv aD.out)); have aI := nG hg (IsS175.lt (show IsS175 w0 _ g aG bH bI from IsS175.mv aD.out)); replace aD := aM (IsS175.below (IsS175.mv aD.out) hb); replace HK := rU HK hb; replace HB := aM (bS (IsS175.bl HB.out) hb); clear hb hbox hg) | ((with_reducible refine gC (f := 173) rfl ?_); refine gL (some 5) Try.func173 #[.pointer (some ⟨g, 0, none⟩)] ?_; (with_reducible refine (spec_l8DrawRight.calls k g aG bH bI aN aH aV aW w0 _ ?side1 ?side2 A2.out).mono ?_); (case side1 => exact IsS175.mv aD.out); (case side2 => exact IsS175.bl HB.out); rintro e jJ ⟨dZ, rfl, ho0, hi, hb, hk⟩; refine ⟨_, rfl, ?_⟩; have aA := aM (Kd.R_lower ho0 (keep_size (km HK.out))); replace aC := rP hk aC aI; replace HK := aM (KeepBut.trans (km HK.out) hk (.inl rfl)); replace HB := aM (hb); replace aD := aM (hi); (repeat first|clear hb|clear hk|clear hi|clear ho0)) | ((with_reducible refine gD (N := 3) rfl ?_); refine box_event ?hg (N := 3) ?hd (cs := #[.int .i64 0, .slice none 0 0]) (t := 28) ?hr ?_; (case hd => rfl); (case hg => rfl); (case hr => first | (go_simp; done) | (go_simp; rfl) | (obtain ⟨A_, c_, e_⟩ := Kd.R_slice aA.out; subst e_; (first | (go_simp; done) | (go_simp; rfl))) | (obtain ⟨A_, c_, e_⟩ := Kd.S_slice aA.out; subst e_; (first | (go_simp; done) | (go_simp; rfl)))); intro aJ hg jK hbox hb; have aE := aM (hbox); have bZ := gE hg (keep_size (km HK.out)); have cA := gE2 HW0.out hg (keep_size (km HK.out)); have aZ := nM hg aC; have bA := nH hg aC; have bK := nL hg (IsS175.lt (show IsS175 w0 _ g aG aV aW from IsS175.mv aD.out)); have aK := nG hg (IsS175.lt (show IsS175 w0 _ g aG aV aW from IsS175.mv aD.out)); replace aA := aM (kB (kr aA.out) hb); replace aD := aM (IsS175.below (IsS175.mv aD.out) hb); replace aC := rB aC hb; replace HK := rU HK hb; replace HB := aM (bS (IsS175.bl HB.out) hb); clear hb hbox hg; have gV := bA.out; have gW := aZ.out; have gX := aK.out; have gY := bK.out; have gZ := cA2 aE.out; obtain ⟨dA, dB, fX⟩ := Kd.R_slice aA.out; subst fX) | ((with_reducible refine gC (f := 99) rfl ?_); refine gL (some 7) Try.func99 #[.pointer (some ⟨g, 0, none⟩), .int .i64 8] ?_; (with_reducible refine (spec_l1Below.calls g aG aV aW 8 aX bO bP w0 _ ?side1 ?side2 A3.out).mono ?_); (case side1 => exact IsS175.mv aD.out); (case side2 => exact IsS175.bl HB.out); rintro e jL ⟨rfl, hi, hb, hk⟩; refine ⟨_, rfl, ?_⟩; replace aC := aM (KeepBut.blk hk (fm aC.out) aI.out (by simp)); replace aA := aM (Kd.R_mono (Kd.R_keep (IsS175.apart (show IsS175 w0 _ g aG aV aW from IsS175.mv aD.out) (kr (Kd.R_mono (kF (p := ⟨aJ, 1, none⟩) (kF (p := ⟨aJ, 0, none⟩) (Kd.R_types aA.out aE.out (by decide)) (fun _ hk => hk.2) (.int .i64 aN)) (fun _ hk => hk.2) (.slice dA aH.length dB)) (fun _ h_ => h_.1))) (by decide)) hk (fun _ h => h.2)) (fun _ h => h.1)); replace aE := aM (KeepBut.blk hk (g' := aJ) (o := .cells #[aN, .slice dA aH.length dB] 28 (0, 0)) (bm aE.out) aK.out (by simp)); replace HK := aM (KeepBut.trans (km HK.out) hk (.inl rfl)); replace HB := aM (hb); replace aD := aM (hi); (repeat first|clear hb|clear hk|clear hi); have hJ := cA2 aE.out; have hO := aI.out; have hU := bJ.out; have hX := cA2 aC.out))
   refine bodyPost_ret (results_cell_row rfl _ _ aT 28 #[aN, .slice dA aH.length dB] (0, 0) _ rfl (bm aC.out) Try.underlying28 rfl (by kernel_rfl)) rfl ?_
   exact ⟨_, xW, by (with_reducible repeat (first | apply Kd.R_alloc | apply Kd.R_drewN | apply Kd.R_drew)); exact Kd.R_mono (kF (p := ⟨aT, 1, none⟩) (kF (p := ⟨aT, 0, none⟩) (Kd.R_types aA.out aC.out (by decide)) (fun _ hk => hk.2) (.int .i64 aN)) (fun _ hk => hk.2) (.slice dA aH.length dB)) (fun _ hk => trivial), IsS175.mv aD.out, IsS175.bl HB.out, km HK.out⟩
  rw [if_pos cD] at H
  have fD : (aX == 2) = true := beq_iff_eq.mpr cD
  have fE : (aX != 2) = false := bne_eq_false_iff_eq.mpr cD
  clear cD
  obtain ⟨bR, eJ, H⟩ := hS H
  have eK := aM eJ
  clear eJ
  by_cases eL : aH.length + bR.length < 1759218604441
  case neg =>
   rw [if_neg eL] at H
   exact absurd H (by simp)
  rw [if_pos eL] at H
  have LMc41 := aM eL
  clear eL
  obtain ⟨dC, bV⟩ : ∃ y_ : List (S79), y_ = (aH ++ bR) := ⟨_, rfl⟩
  replace H : (some (aN, dC, bO, bP)) = some (r1, r2, r3, r4) := by first | (rw [bV]; with_reducible exact H) | (have H2_ := (Option.bind_some _ _).symm.trans H; rw [bV]; with_reducible exact H2_) | (have H2_ := (Option.bind_some _ _).symm.trans H; with_reducible exact H2_) | with_reducible exact H | (rw [bV]; exact H) | exact H
  have fF := aM bV
  clear bV
  simp only [Option.some.injEq, Prod.mk.injEq] at H
  obtain ⟨rfl, rfl, rfl, rfl⟩ := H
  go_enter Try.func117, Try.ntmps117
  go_wp2_with (first | ((with_reducible refine gD (N := 2) rfl ?_); refine box_event ?hg (N := 2) ?hd (cs := #[.int .i64 0, .slice none 0 0]) (t := 28) ?hr ?_; (case hd => rfl); (case hg => rfl); (case hr => first | (go_simp; done) | (go_simp; rfl) | (obtain ⟨A_, c_, e_⟩ := Kd.R_slice aA.out; subst e_; (first | (go_simp; done) | (go_simp; rfl))) | (obtain ⟨A_, c_, e_⟩ := Kd.S_slice aA.out; subst e_; (first | (go_simp; done) | (go_simp; rfl))) | (obtain ⟨A_, c_, e_⟩ := Kd.R_slice bN.out; subst e_; (first | (go_simp; done) | (go_simp; rfl))) | (obtain ⟨A_, c_, e_⟩ := Kd.S_slice bN.out; subst e_; (first | (go_simp; done) | (go_simp; rfl)))); intro aT hg jM hbox hb; have aC := aM (hbox); have bX := gE hg (keep_size (km HK.out)); have bY := gE2 HW0.out hg (keep_size (km HK.out)); have bJ := nL hg (IsS175.lt (show IsS175 w0 _ g aG bH bI from IsS175.mv aD.out)); have aI := nG hg (IsS175.lt (show IsS175 w0 _ g aG bH bI from IsS175.mv aD.out)); replace aD := aM (IsS175.below (IsS175.mv aD.out) hb); replace HK := rU HK hb; replace HB := aM (bS (IsS175.bl HB.out) hb); clear hb hbox hg) | ((with_reducible refine gC (f := 173) rfl ?_); refine gL (some 5) Try.func173 #[.pointer (some ⟨g, 0, none⟩)] ?_; (with_reducible refine (spec_l8DrawRight.calls k g aG bH bI aN aH aV aW w0 _ ?side1 ?side2 A2.out).mono ?_); (case side1 => exact IsS175.mv aD.out); (case side2 => exact IsS175.bl HB.out); rintro e jN ⟨dZ, rfl, ho0, hi, hb, hk⟩; refine ⟨_, rfl, ?_⟩; have aA := aM (Kd.R_lower ho0 (keep_size (km HK.out))); replace aC := rP hk aC aI; replace HK := aM (KeepBut.trans (km HK.out) hk (.inl rfl)); replace HB := aM (hb); replace aD := aM (hi); (repeat first|clear hb|clear hk|clear hi|clear ho0)) | ((with_reducible refine gD (N := 3) rfl ?_); refine box_event ?hg (N := 3) ?hd (cs := #[.int .i64 0, .slice none 0 0]) (t := 28) ?hr ?_; (case hd => rfl); (case hg => rfl); (case hr => first | (go_simp; done) | (go_simp; rfl) | (obtain ⟨A_, c_, e_⟩ := Kd.R_slice aA.out; subst e_; (first | (go_simp; done) | (go_simp; rfl))) | (obtain ⟨A_, c_, e_⟩ := Kd.S_slice aA.out; subst e_; (first | (go_simp; done) | (go_simp; rfl))) | (obtain ⟨A_, c_, e_⟩ := Kd.R_slice bN.out; subst e_; (first | (go_simp; done) | (go_simp; rfl))) | (obtain ⟨A_, c_, e_⟩ := Kd.S_slice bN.out; subst e_; (first | (go_simp; done) | (go_simp; rfl)))); intro aJ hg jO hbox hb; have aE := aM (hbox); have bZ := gE hg (keep_size (km HK.out)); have cA := gE2 HW0.out hg (keep_size (km HK.out)); have aZ := nM hg aC; have bA := nH hg aC; have bK := nL hg (IsS175.lt (show IsS175 w0 _ g aG aV aW from IsS175.mv aD.out)); have aK := nG hg (IsS175.lt (show IsS175 w0 _ g aG aV aW from IsS175.mv aD.out)); replace aA := aM (kB (kr aA.out) hb); replace aD := aM (IsS175.below (IsS175.mv aD.out) hb); replace aC := rB aC hb; replace HK := rU HK hb; replace HB := aM (bS (IsS175.bl HB.out) hb); clear hb hbox hg; have hY := bA.out; have hZ := aZ.out; have iA := aK.out; have iB := bK.out; have iC := cA2 aE.out; obtain ⟨eA, eB, fY⟩ := Kd.R_slice aA.out; subst fY) | ((with_reducible refine gC (f := 99) rfl ?_); refine gL (some 7) Try.func99 #[.pointer (some ⟨g, 0, none⟩), .int .i64 8] ?_; (with_reducible refine (spec_l1Below.calls g aG aV aW 8 aX bO bP w0 _ ?side1 ?side2 A3.out).mono ?_); (case side1 => exact IsS175.mv aD.out); (case side2 => exact IsS175.bl HB.out); rintro e jP ⟨rfl, hi, hb, hk⟩; refine ⟨_, rfl, ?_⟩; replace aC := aM (KeepBut.blk hk (fm aC.out) aI.out (by simp)); replace aA := aM (Kd.R_mono (Kd.R_keep (IsS175.apart (show IsS175 w0 _ g aG aV aW from IsS175.mv aD.out) (kr (Kd.R_mono (kF (p := ⟨aJ, 1, none⟩) (kF (p := ⟨aJ, 0, none⟩) (Kd.R_types aA.out aE.out (by decide)) (fun _ hk => hk.2) (.int .i64 aN)) (fun _ hk => hk.2) (.slice eA aH.length eB)) (fun _ h_ => h_.1))) (by decide)) hk (fun _ h => h.2)) (fun _ h => h.1)); replace aE := aM (KeepBut.blk hk (g' := aJ) (o := .cells #[aN, .slice eA aH.length eB] 28 (0, 0)) (bm aE.out) aK.out (by simp)); replace HK := aM (KeepBut.trans (km HK.out) hk (.inl rfl)); replace HB := aM (hb); replace aD := aM (hi); (repeat first|clear hb|clear hk|clear hi); have iD := cA2 aE.out) | ((with_reducible refine gD (N := 27) rfl ?_); refine Kd.R_lit k79 _ 79 ?hg (N := 27) ?hd (xs := ([(⟨false, false, (⟨0, 0, 0, 0⟩ : S73), 0, 0, 0, 0, false⟩ : S79), (⟨false, false, (⟨0, 0, 0, 0⟩ : S73), 0, 0, 0, 0, false⟩ : S79)] : List (S79))) (inner := [.bool false, .bool false, .int .i64 0, .int .i64 0, .int .i64 0, .int .i64 0, .int .i64 0, .int .i64 0, .int .i64 0, .int .i64 0, .bool false, .bool false, .bool false, .int .i64 0, .int .i64 0, .int .i64 0, .int .i64 0, .int .i64 0, .int .i64 0, .int .i64 0, .int .i64 0, .bool false]) (ok := fun _ => True) (okp := fun _ => True) ?hr ?hp (fun _ hk => hk) trivial (Below.refl _ _) (Nat.le_refl _) (by simp) ?_; (case hd => rfl); (case hg => rfl); (case hr => first | (go_simp; done) | (go_simp; rfl) | (obtain ⟨A_, c_, e_⟩ := Kd.R_slice aA.out; subst e_; (first | (go_simp; done) | (go_simp; rfl))) | (obtain ⟨A_, c_, e_⟩ := Kd.S_slice aA.out; subst e_; (first | (go_simp; done) | (go_simp; rfl))) | (obtain ⟨A_, c_, e_⟩ := Kd.R_slice bN.out; subst e_; (first | (go_simp; done) | (go_simp; rfl))) | (obtain ⟨A_, c_, e_⟩ := Kd.S_slice bN.out; subst e_; (first | (go_simp; done) | (go_simp; rfl)))); (case hp => exact (Reps.front (show Kd.M k79 _ _ _ (⟨false, false, (⟨0, 0, 0, 0⟩ : S73), 0, 0, 0, 0, false⟩ : S79) [.bool false, .bool false, .int .i64 0, .int .i64 0, .int .i64 0, .int .i64 0, .int .i64 0, .int .i64 0, .int .i64 0, .int .i64 0, .bool false] from (k79_mkM _ _ _ (⟨false, false, (⟨0, 0, 0, 0⟩ : S73), 0, 0, 0, 0, false⟩ : S79) )) rfl (Reps.front (show Kd.M k79 _ _ _ (⟨false, false, (⟨0, 0, 0, 0⟩ : S73), 0, 0, 0, 0, false⟩ : S79) [.bool false, .bool false, .int .i64 0, .int .i64 0, .int .i64 0, .int .i64 0, .int .i64 0, .int .i64 0, .int .i64 0, .int .i64 0, .bool false] from (k79_mkM _ _ _ (⟨false, false, (⟨0, 0, 0, 0⟩ : S73), 0, 0, 0, 0, false⟩ : S79) )) rfl (Reps.none _ _) rfl) rfl)); intro iY jQ ho52 hb hg_ hnew_; clear hg_ hnew_; (first | rw [← eK.out] at ho52 | (simp only [Int.reduceToNat] at ho52; rw [← eK.out] at ho52)); have bN := aM (Kd.R_lower (Kd.R_new' ho52 (Kd.R_lt (kr aA.out))) (keep_size (km HK.out))); replace aA := aM (Kd.R_elder' (kr aA.out) (Kd.R_base ho52) hb); replace aD := aM (IsS175.below (IsS175.mv aD.out) hb); replace aC := rB aC hb; replace aE := rB aE hb; replace HK := rU HK hb; replace HB := aM (bS (IsS175.bl HB.out) hb); clear hb ho52; obtain ⟨gA, gB, gG⟩ := Kd.R_slice bN.out; subst gG) | ((with_reducible refine gate_builtin (b := .append) (xs := #[.tmp 24, .tmp 27]) rfl ?_); at_builtin; refine Kd.R_append_rows k79 w.heap.size rfl (.tmp 24) (.tmp 27) 26 79 (.agg #[(.bool false), (.bool false), (.int .i64 0), (.int .i64 0), (.int .i64 0), (.int .i64 0), (.int .i64 0), (.int .i64 0), (.int .i64 0), (.int .i64 0), (.bool false)]) 80 rfl Try.underlying26 info79 rfl (by decide) (by omega) (.slice eA aH.length eB) aH bR _ _ _ (fun k_ => some k_ ≠ (.slice gA bR.length gB : Value).ownBlock) (fun _ => False) rfl rfl ?aO ?aR (fun _ _ h => h) (fun _ h => h.elim) ?aF (Below.refl _ _) ?aS ?aL ?_; (case aR => repeat (first | exact (Kd.R_reads' bN.out).2.2 | (with_reducible refine Kd.C_alloc ?_ _) | (with_reducible refine Kd.C_drewN ?_ _) | (with_reducible refine Kd.C_drew ?_))); (case aF => exact (fun k_ hk => Kd.fresh' (Kd.R_lt (kr bN.out)) k_ hk)); (case aO => exact (kr (Kd.R_mono aA.out (fun _ hk => hk.2)))); (case aS => exact (keep_size (km HK.out))); (case aL => have := LMc41.out; omega); intro iZ jR ho hb hg hat; rw [← fF.out] at ho; have eM := aM (ho); replace aD := aM (IsS175.grown (IsS175.mv aD.out) hg (IsS175.own_ne aD.out aA.out (by decide))); replace aC := aM (blk_grown (bk aC.out) hg (Kd.R_ne aA.out aC.out (by decide))); replace aE := aM (blk_grown (bk aE.out) hg (Kd.R_ne aA.out aE.out (by decide))); replace bN := aM (Kd.R_after (ok := (fun _ => True)) (kr bN.out) hg hat); replace HB := aM (below_weaken (IsS175.bl HB.out) HL.out hb); replace HK := aM (KeepBut.trans (km HK.out) (KeepBut.of_grown hg g) (Kd.R_base2 aA.out)); clear aA; clear ho hb hg hat; obtain ⟨eC, eD, gH⟩ := Kd.R_slice eM.out; subst gH; have iE := cA2 aE.out; have iF := aI.out; have iG := bJ.out; have iH := cA2 aC.out))
  refine bodyPost_ret (results_cell_row rfl _ _ aT 28 #[aN, .slice eC dC.length eD] (0, 0) _ rfl (bm aC.out) Try.underlying28 rfl (by kernel_rfl)) rfl ?_
  exact ⟨_, xW, by (with_reducible repeat (first | apply Kd.R_alloc | apply Kd.R_drewN | apply Kd.R_drew)); exact Kd.R_mono (kF (p := ⟨aT, 1, none⟩) (kF (p := ⟨aT, 0, none⟩) (kF (p := ⟨aJ, 1, none⟩) (Kd.R_types (Kd.R_types eM.out aE.out (by decide)) aC.out (by decide)) (fun _ hk => hk.1.2) (.slice eC dC.length eD)) (fun _ hk => hk.2) (.int .i64 aN)) (fun _ hk => hk.2) (.slice eC dC.length eD)) (fun _ hk => trivial), IsS175.mv aD.out, IsS175.bl HB.out, km HK.out⟩
 rw [if_pos cC] at H
 have fB : (aX == 1) = true := beq_iff_eq.mpr cC
 have fC : (aX != 1) = false := bne_eq_false_iff_eq.mpr cC
 clear cC
 obtain ⟨⟨cE, cG, cH, cK, cL, cN, cO, cP, cQ, cR, cS, eE, eF⟩, eS, H⟩ := hB H
 try dsimp only at H
 have gM := aM eS
 clear eS
 by_cases eN : 0 < (aH.length : Int)
 case neg =>
  rw [if_neg eN] at H
  exact absurd H (by simp)
 rw [if_pos eN] at H
 have iI := decide_eq_true eN
 have iJ : decide (0 < aH.length) = true := decide_eq_true (by omega)
 clear eN
 obtain ⟨eT, bW⟩ : ∃ y_ : List (S79), y_ = (aH.set (0 : Int).toNat (⟨cE, cG, (⟨cH, cK, cL, cN⟩ : S73), cO, cP, cQ, cR, cS⟩ : S79)) := ⟨_, rfl⟩
 replace H : (some (aN, eT, eE, eF)) = some (r1, r2, r3, r4) := by first | (rw [bW]; with_reducible exact H) | (have H2_ := (Option.bind_some _ _).symm.trans H; rw [bW]; with_reducible exact H2_) | (have H2_ := (Option.bind_some _ _).symm.trans H; with_reducible exact H2_) | with_reducible exact H | (rw [bW]; exact H) | exact H
 have fG := aM bW
 clear bW
 simp only [Option.some.injEq, Prod.mk.injEq] at H
 obtain ⟨rfl, rfl, rfl, rfl⟩ := H
 go_enter Try.func117, Try.ntmps117
 try go_wp2_with (first | ((with_reducible refine gD (N := 2) rfl ?_); refine box_event ?hg (N := 2) ?hd (cs := #[.int .i64 0, .slice none 0 0]) (t := 28) ?hr ?_; (case hd => rfl); (case hg => rfl); (case hr => first | (go_simp; done) | (go_simp; rfl) | (obtain ⟨A_, c_, e_⟩ := Kd.R_slice aA.out; subst e_; (first | (go_simp; done) | (go_simp; rfl))) | (obtain ⟨A_, c_, e_⟩ := Kd.S_slice aA.out; subst e_; (first | (go_simp; done) | (go_simp; rfl)))); intro aT hg jS hbox hb; have aC := aM (hbox); have bX := gE hg (keep_size (km HK.out)); have bY := gE2 HW0.out hg (keep_size (km HK.out)); have bJ := nL hg (IsS175.lt (show IsS175 w0 _ g aG bH bI from IsS175.mv aD.out)); have aI := nG hg (IsS175.lt (show IsS175 w0 _ g aG bH bI from IsS175.mv aD.out)); replace aD := aM (IsS175.below (IsS175.mv aD.out) hb); replace HK := rU HK hb; replace HB := aM (bS (IsS175.bl HB.out) hb); clear hb hbox hg) | ((with_reducible refine gC (f := 173) rfl ?_); refine gL (some 5) Try.func173 #[.pointer (some ⟨g, 0, none⟩)] ?_; (with_reducible refine (spec_l8DrawRight.calls k g aG bH bI aN aH aV aW w0 _ ?side1 ?side2 A2.out).mono ?_); (case side1 => exact IsS175.mv aD.out); (case side2 => exact IsS175.bl HB.out); rintro e jT ⟨dZ, rfl, ho0, hi, hb, hk⟩; refine ⟨_, rfl, ?_⟩; have aA := aM (Kd.R_lower ho0 (keep_size (km HK.out))); replace aC := rP hk aC aI; replace HK := aM (KeepBut.trans (km HK.out) hk (.inl rfl)); replace HB := aM (hb); replace aD := aM (hi); (repeat first|clear hb|clear hk|clear hi|clear ho0)) | ((with_reducible refine gD (N := 3) rfl ?_); refine box_event ?hg (N := 3) ?hd (cs := #[.int .i64 0, .slice none 0 0]) (t := 28) ?hr ?_; (case hd => rfl); (case hg => rfl); (case hr => first | (go_simp; done) | (go_simp; rfl) | (obtain ⟨A_, c_, e_⟩ := Kd.R_slice aA.out; subst e_; (first | (go_simp; done) | (go_simp; rfl))) | (obtain ⟨A_, c_, e_⟩ := Kd.S_slice aA.out; subst e_; (first | (go_simp; done) | (go_simp; rfl)))); intro aJ hg jU hbox hb; have aE := aM (hbox); have bZ := gE hg (keep_size (km HK.out)); have cA := gE2 HW0.out hg (keep_size (km HK.out)); have aZ := nM hg aC; have bA := nH hg aC; have bK := nL hg (IsS175.lt (show IsS175 w0 _ g aG aV aW from IsS175.mv aD.out)); have aK := nG hg (IsS175.lt (show IsS175 w0 _ g aG aV aW from IsS175.mv aD.out)); replace aA := aM (kB (kr aA.out) hb); replace aD := aM (IsS175.below (IsS175.mv aD.out) hb); replace aC := rB aC hb; replace HK := rU HK hb; replace HB := aM (bS (IsS175.bl HB.out) hb); clear hb hbox hg; have iK := bA.out; have iL := aZ.out; have iM := aK.out; have iN := bK.out; have iO := cA2 aE.out; obtain ⟨eG, bT, gJ⟩ := Kd.R_slice aA.out; subst gJ) | ((with_reducible refine gC (f := 99) rfl ?_); refine gL (some 7) Try.func99 #[.pointer (some ⟨g, 0, none⟩), .int .i64 8] ?_; (with_reducible refine (spec_l1Below.calls g aG aV aW 8 aX bO bP w0 _ ?side1 ?side2 A3.out).mono ?_); (case side1 => exact IsS175.mv aD.out); (case side2 => exact IsS175.bl HB.out); rintro e gN ⟨rfl, hi, hb, hk⟩; refine ⟨_, rfl, ?_⟩; replace aC := aM (KeepBut.blk hk (fm aC.out) aI.out (by simp)); replace aA := aM (Kd.R_mono (Kd.R_keep (IsS175.apart (show IsS175 w0 _ g aG aV aW from IsS175.mv aD.out) (kr (Kd.R_mono (kF (p := ⟨aJ, 1, none⟩) (kF (p := ⟨aJ, 0, none⟩) (Kd.R_types aA.out aE.out (by decide)) (fun _ hk => hk.2) (.int .i64 aN)) (fun _ hk => hk.2) (.slice eG aH.length bT)) (fun _ h_ => h_.1))) (by decide)) hk (fun _ h => h.2)) (fun _ h => h.1)); replace aE := aM (KeepBut.blk hk (g' := aJ) (o := .cells #[aN, .slice eG aH.length bT] 28 (0, 0)) (bm aE.out) aK.out (by simp)); replace HK := aM (KeepBut.trans (km HK.out) hk (.inl rfl)); replace HB := aM (hb); replace aD := aM (hi); (repeat first|clear hb|clear hk|clear hi)))
 replace aA := aM (Kd.R_drew aA.out)
 replace aC := aM (blk_drew aC.out)
 replace aE := aM (blk_drew aE.out)
 replace aD := aM (IsS175.drew aD.out)
 replace HK := aM (keep_drew HK.out)
 replace HB := aM (below_drew1 HB.out)
 refine start_ (n := 6) (S := fun w' => cS2 w' aJ (.int .i64 aN) (.slice eG aH.length bT)) (ds := [5]) (dn 6 0) (by kernel_rfl) rfl rfl ⟨cI aE.out 0, cI aE.out 1⟩ (fun hHeld => ?_)
 generalize gN.drew = jV at aA aC aE aD HK HB hHeld ⊢
 refine pure_ (i := 0) (N := some 16) (v := ?_) (a' := ?_) #[Y,U,U,U,U,U] rfl rfl (by kernel_rfl) (fun _ _ _ h => h) (Or.inl ⟨by rfl, ?_⟩) ?_ ?_
 rotate_left
 ·intro w'
  go_simp
  with_reducible rfl
 rotate_left
 ·simp only [Act.put, sA, sZ, sS, i64_w, i32_w]
  rfl
 refine pure_ (i := 2) (N := some 18) (v := ?_) (a' := ?_) #[Y,U,Y,U,U,U] rfl rfl (by kernel_rfl) (fun _ _ _ h => h) (Or.inl ⟨by rfl, ?_⟩) ?_ ?_
 rotate_left
 ·intro w'
  go_simp
  with_reducible rfl
 rotate_left
 ·simp only [Act.put, sA, sZ, sS, i64_w, i32_w]
  rfl
 refine take_ (i := 1) (N := some 17) (v := ?_) (a' := ?_) #[Y,Y,Y,U,U,U] rfl rfl (by kernel_rfl) (fun _ _ _ h => h) (Or.inl ⟨by rfl, ?_⟩) hHeld ?_ ?_
 rotate_left
 ·rintro w' ⟨s0, s1⟩
  go_simp
  with_reducible rfl
 rotate_left
 ·simp only [Act.put, sA, sZ, sS, i64_w, i32_w]
  rfl
 refine one_ (i := 3) (N := some 19) #[Y,Y,Y,Y,U,U] rfl rfl (by kernel_rfl) (by decide) (fun K hK => ?_)
 refine goes_ Try.func174 (by kernel_rfl) rfl #[.pointer (some ⟨g, 0, none⟩)] (by rfl) rfl rfl xR ?_
 with_reducible refine (spec_l7Draw.calls k g aG bO bP cE cG cH cK cL cN cO cP cQ cR cS eE eF w0 _ ?side1 ?side2 gM.out).mono ?_
 (case side1 => exact IsS175.mv aD.out)
 (case side2 => exact IsS175.bl HB.out)
 rintro e jW ⟨rfl, hi, hb, hk⟩
 refine ⟨_, rfl, ?_⟩
 replace aC := rP hk aC aI
 replace aA := aM (Kd.R_mono (Kd.R_keep (IsS175.apart (show IsS175 w0 _ g aG bO bP from IsS175.mv aD.out) (kr aA.out) (by decide)) hk (fun _ h => h.2)) (fun _ h => h.1))
 replace aE := rP hk aE aK
 replace HK := aM (KeepBut.trans (km HK.out) hk (.inl rfl))
 replace HB := aM (hb)
 replace aD := aM (hi)
 (try clear hb)
 (try clear hb2)
 (try clear hk)
 (try clear hi)
 have eU : 0 ≤ (0 : Int) := (by omega)
 have eV : (0 : Int) < ((aH.length : Int) : Int) := dT
 have qi24 : (0 < aH.length) = True := eq_true (by omega)
 obtain ⟨cT, jA, eW, eX, gK, jB, eY⟩ := Kd.R_form aA.out (by omega)
 (first | cases eW | (injection eW with ea_ en_ ec_; (first | subst ea_ | (injection ea_ with ea_; subst ea_)); subst ec_; clear en_))
 have aQ := aM eX
 have jC := aM eY
 clear eX gK eY
 obtain ⟨jD, fH, eZ, eO, eP⟩ := Kd.R_elem aA.out z79 (0 : Int) eU eV
 obtain rfl := k79_openM eZ
 obtain ⟨dD, dE, dF, dG, dH, dI, dJ, dK, dL, dM, cU, dN, dO, dP, dQ, dR, dS, dU, dV, dW, dX, cV⟩ := eS79 (rd_T79 aH 0) eO eP
 clear fH eO eP eZ
 (try rw [show ((0 : Int)).toNat = 0 from rfl] at dD)
 (try simp only [Nat.reduceMul, Nat.zero_mul, Nat.zero_add, Nat.reduceAdd] at dD)
 (try rw [show ((0 : Int)).toNat = 0 from rfl] at dN)
 (try simp only [Nat.reduceMul, Nat.zero_mul, Nat.zero_add, Nat.reduceAdd] at dN)
 (try rw [show ((0 : Int)).toNat = 0 from rfl] at dE)
 (try simp only [Nat.reduceMul, Nat.zero_mul, Nat.zero_add, Nat.reduceAdd] at dE)
 (try rw [show ((0 : Int)).toNat = 0 from rfl] at dO)
 (try simp only [Nat.reduceMul, Nat.zero_mul, Nat.zero_add, Nat.reduceAdd] at dO)
 (try rw [show ((0 : Int)).toNat = 0 from rfl] at dF)
 (try simp only [Nat.reduceMul, Nat.zero_mul, Nat.zero_add, Nat.reduceAdd] at dF)
 (try rw [show ((0 : Int)).toNat = 0 from rfl] at dP)
 (try simp only [Nat.reduceMul, Nat.zero_mul, Nat.zero_add, Nat.reduceAdd] at dP)
 (try rw [show ((0 : Int)).toNat = 0 from rfl] at dG)
 (try simp only [Nat.reduceMul, Nat.zero_mul, Nat.zero_add, Nat.reduceAdd] at dG)
 (try rw [show ((0 : Int)).toNat = 0 from rfl] at dQ)
 (try simp only [Nat.reduceMul, Nat.zero_mul, Nat.zero_add, Nat.reduceAdd] at dQ)
 (try rw [show ((0 : Int)).toNat = 0 from rfl] at dH)
 (try simp only [Nat.reduceMul, Nat.zero_mul, Nat.zero_add, Nat.reduceAdd] at dH)
 (try rw [show ((0 : Int)).toNat = 0 from rfl] at dR)
 (try simp only [Nat.reduceMul, Nat.zero_mul, Nat.zero_add, Nat.reduceAdd] at dR)
 (try rw [show ((0 : Int)).toNat = 0 from rfl] at dI)
 (try simp only [Nat.reduceMul, Nat.zero_mul, Nat.zero_add, Nat.reduceAdd] at dI)
 (try rw [show ((0 : Int)).toNat = 0 from rfl] at dS)
 (try simp only [Nat.reduceMul, Nat.zero_mul, Nat.zero_add, Nat.reduceAdd] at dS)
 (try rw [show ((0 : Int)).toNat = 0 from rfl] at dJ)
 (try simp only [Nat.reduceMul, Nat.zero_mul, Nat.zero_add, Nat.reduceAdd] at dJ)
 (try rw [show ((0 : Int)).toNat = 0 from rfl] at dU)
 (try simp only [Nat.reduceMul, Nat.zero_mul, Nat.zero_add, Nat.reduceAdd] at dU)
 (try rw [show ((0 : Int)).toNat = 0 from rfl] at dK)
 (try simp only [Nat.reduceMul, Nat.zero_mul, Nat.zero_add, Nat.reduceAdd] at dK)
 (try rw [show ((0 : Int)).toNat = 0 from rfl] at dV)
 (try simp only [Nat.reduceMul, Nat.zero_mul, Nat.zero_add, Nat.reduceAdd] at dV)
 (try rw [show ((0 : Int)).toNat = 0 from rfl] at dL)
 (try simp only [Nat.reduceMul, Nat.zero_mul, Nat.zero_add, Nat.reduceAdd] at dL)
 (try rw [show ((0 : Int)).toNat = 0 from rfl] at dW)
 (try simp only [Nat.reduceMul, Nat.zero_mul, Nat.zero_add, Nat.reduceAdd] at dW)
 (try rw [show ((0 : Int)).toNat = 0 from rfl] at dM)
 (try simp only [Nat.reduceMul, Nat.zero_mul, Nat.zero_add, Nat.reduceAdd] at dM)
 (try rw [show ((0 : Int)).toNat = 0 from rfl] at dX)
 (try simp only [Nat.reduceMul, Nat.zero_mul, Nat.zero_add, Nat.reduceAdd] at dX)
 (try rw [show ((0 : Int)).toNat = 0 from rfl] at cU)
 (try simp only [Nat.reduceMul, Nat.zero_mul, Nat.zero_add, Nat.reduceAdd] at cU)
 (try rw [show ((0 : Int)).toNat = 0 from rfl] at cV)
 (try simp only [Nat.reduceMul, Nat.zero_mul, Nat.zero_add, Nat.reduceAdd] at cV)
 replace eU := eq_true eU
 replace eV := eq_true eV
 have HN0_go24 := aM (show g ≠ cT from by have h_ := IsS175.own_ne aD.out aA.out (by decide); intro e_; exact h_ (by rw [e_]; rfl))
 obtain ⟨jE, eQ, fA, eR, fI⟩ := Kd.R_elem aA.out z79 (0 : Int) (by omega) (by have h_ : (0 : Int) < ((aH.length : Int) : Int) := dT; first | exact h_ | (have e_ := (Kd.R_reads' aA.out).1; omega) | simpa using h_)
 obtain rfl := k79_openM fA
 have eH := (Kd.R_seg aA.out (0 : Int) (by omega) (by have h_ : (0 : Int) < ((aH.length : Int) : Int) := dT; first | exact h_ | (have e_ := (Kd.R_reads' aA.out).1; omega) | simpa using h_) (seg := [.bool cE, .bool cG, .int .i64 cH, .int .i64 cK, .int .i64 cL, .int .i64 cN, .int .i64 cO, .int .i64 cP, .int .i64 cQ, .int .i64 cR, .bool cS]) (j := 0) eQ eR (show 11 ≤ 11 from by decide) (x' := (⟨cE, cG, (⟨cH, cK, cL, cN⟩ : S73), cO, cP, cQ, cR, cS⟩ : S79)) (k79_mkM _ _ _ (⟨cE, cG, (⟨cH, cK, cL, cN⟩ : S73), cO, cP, cQ, cR, cS⟩ : S79) ) (fun _ hk => hk)).1
 rw [← fG.out] at eH
 have HQ35 := aM eH
 clear eQ eR fI fA eH
 refine hK.out _ _ ⟨cI aE.out 0, cI aE.out 1⟩ (fun hHeld => ?_)
 clear hK K
 refine norm_ (a' := ?_) ?_ ?_
 rotate_left
 ·show Act.put _ (some 19) _ = _
  simp only [Act.put, sA, sZ, sS, i64_w, i32_w]
  rfl
 refine pure_ (i := 4) (N := some 20) (v := ?_) (a' := ?_) #[Y,Y,Y,Y,Y,U] rfl rfl (by kernel_rfl) (fun _ _ _ h => h) (Or.inl ⟨by rfl, ?_⟩) ?_ ?_
 rotate_left
 ·intro w'
  go_simp
  with_reducible rfl
 rotate_left
 ·simp only [Act.put, sA, sZ, sS, i64_w, i32_w]
  rfl
 refine last_ (i := 5) (N := none) #[Y,Y,Y,Y,Y,Y] rfl rfl (by kernel_rfl) (by decide) (fun K hK => ?_)
 refine skip_ (w1 := ?_) (by rfl) rfl ?_ ?_
 rotate_left
 ·go_simp
  rfl
 refine hK.out _ _ ?_
 clear hK K
 refine done_ (by kernel_rfl) ?_
 refine nX_ (fun W => Aside0 (Kd.R k79 79 W w.heap.size (fun _ => True) (.slice (some ⟨cT, 0, none⟩) aH.length bT) eT) ∧ Aside0 (W.heap[aT]? = some (.cells #[.int .i64 0, .slice none 0 0] 28 (0, 0))) ∧ Aside0 (W.heap[aJ]? = some (.cells #[aN, .slice (some ⟨cT, 0, none⟩) aH.length bT] 28 (0, 0))) ∧ Aside0 (IsS175 w0 W g aG eE eF) ∧ Aside0 (KeepBut w W g none) ∧ Aside0 (Below w0.heap.size w0 W)) ⟨⟨kr HQ35.out⟩, ⟨fR aA.out aC.out⟩, ⟨fR aA.out aE.out⟩, ⟨by repeat (first | (with_reducible first | exact aD.out | apply IsS175.alloc | apply IsS175.drewN | apply IsS175.drew | apply IsS175.set_1 | apply IsS175.set_2 | refine IsS175.far ?_ HN0_go24.out _ | refine IsS175.far ?_ HN0_go24.out _ | refine IsS175.far ?_ HN0_go24.out _ | refine IsS175.far ?_ HN0_go24.out _ | refine IsS175.far ?_ HN0_go24.out _ | refine IsS175.far ?_ HN0_go24.out _ | refine IsS175.far ?_ HN0_go24.out _ | refine IsS175.far ?_ HN0_go24.out _ | refine IsS175.far ?_ HN0_go24.out _ | refine IsS175.far ?_ HN0_go24.out _ | refine IsS175.far ?_ HN0_go24.out _ | refine IsS175.far ?_ bJ.out _ | refine IsS175.far ?_ bK.out _) | exact aD.out)⟩, ⟨by repeat (first | (with_reducible first | exact HK.out | apply KeepBut.set_ | apply keep_drewN | apply keep_drew | apply keep_alloc | refine keep_far ?_ aQ.out _ | refine keep_far ?_ aQ.out _ | refine keep_far ?_ aQ.out _ | refine keep_far ?_ aQ.out _ | refine keep_far ?_ aQ.out _ | refine keep_far ?_ aQ.out _ | refine keep_far ?_ aQ.out _ | refine keep_far ?_ aQ.out _ | refine keep_far ?_ aQ.out _ | refine keep_far ?_ aQ.out _ | refine keep_far ?_ aQ.out _ | refine keep_far ?_ bX.out _ | refine keep_far ?_ bZ.out _) | exact HK.out)⟩, ⟨by repeat (first | (with_reducible first | exact HB.out | apply below_alloc | apply pw_below_drewN | apply below_drew1 | refine below_set ?_ (Nat.le_trans HL.out aQ.out) | refine below_set ?_ (Nat.le_trans HL.out aQ.out) | refine below_set ?_ (Nat.le_trans HL.out aQ.out) | refine below_set ?_ (Nat.le_trans HL.out aQ.out) | refine below_set ?_ (Nat.le_trans HL.out aQ.out) | refine below_set ?_ (Nat.le_trans HL.out aQ.out) | refine below_set ?_ (Nat.le_trans HL.out aQ.out) | refine below_set ?_ (Nat.le_trans HL.out aQ.out) | refine below_set ?_ (Nat.le_trans HL.out aQ.out) | refine below_set ?_ (Nat.le_trans HL.out aQ.out) | refine below_set ?_ (Nat.le_trans HL.out aQ.out) | refine below_set ?_ (IsS175.ge aD.out) | refine below_set ?_ bY.out | refine below_set ?_ cA.out) | exact HB.out)⟩⟩ ?_
 intro jX nn_
 replace aA := nn_.1
 replace aC := nn_.2.1
 replace aE := nn_.2.2.1
 replace aD := nn_.2.2.2.1
 replace HK := nn_.2.2.2.2.1
 replace HB := nn_.2.2.2.2.2
 clear nn_
 have iP := cA2 aE.out
 have iQ := aI.out
 have iR := bJ.out
 have iS := cA2 aC.out
 try go_wp2
 refine bodyPost_ret (results_cell_row rfl _ _ aT 28 #[aN, .slice (some ⟨cT, 0, none⟩) aH.length bT] (0, 0) _ rfl (bm aC.out) Try.underlying28 rfl (by kernel_rfl)) rfl ?_
 exact ⟨_, xW, by (with_reducible repeat (first | apply Kd.R_alloc | apply Kd.R_drewN | apply Kd.R_drew)); exact Kd.R_mono (kF (p := ⟨aT, 1, none⟩) (kF (p := ⟨aT, 0, none⟩) (Kd.R_types aA.out aC.out (by decide)) (fun _ hk => hk.2) (.int .i64 aN)) (fun _ hk => hk.2) (.slice (some ⟨cT, 0, none⟩) aH.length bT)) (fun _ hk => trivial), IsS175.mv aD.out, IsS175.bl HB.out, km HK.out⟩

def spec_DrawRootPort.f (k : Nat) (l0 : List Int) : Option (Int × (List (S79))) := (spec_l1New.f k l0).bind fun aA => ((spec_l8Draw.f k aA.1 aA.2.1 aA.2.2).bind fun aC => (some (aC.1, aC.2.1)))
theorem spec_DrawRootPort.mono : ∀ a0 k, LeO (spec_DrawRootPort.f k a0) (spec_DrawRootPort.f (k + 1) a0) := by
 intro a0 k
 unfold spec_DrawRootPort.f
 repeat' first|(with_reducible first|apply spec_l1New.mono|apply spec_l8Draw.mono|exact LeO.refl _|exact LeO.none _|refine LeO.ite ?_ ?_|refine LeO.bind ?_ (fun _ => ?_))|exact LeO.none _|refine LeO.ite ?_ ?_|refine LeO.bind ?_ (fun _ => ?_)
set_option maxHeartbeats 60000000 in
set_option maxRecDepth 100000 in
theorem spec_DrawRootPort.calls (k : Nat) (A0 : Option Addr) (c0 : Nat) (l0 : List Int) (r1 : Int) (r2 : List (S79)) (w : World) (hr0 : Kd.C (Kd.int .u8) w A0 l0.length l0) (hc0 : l0.length ≤ c0) (h : spec_DrawRootPort.f k l0 = some (r1, r2)) :
  Calls Try.prog 34 #[.slice A0 l0.length c0] w fun e w' => ∃ aW : Value, e = .returned (.agg #[r1, aW]) ∧ Kd.R k79 79 w' w.heap.size (fun _ => True) aW r2 ∧ Below w.heap.size w w' := by
 have bN := Try.underlying28
 have bI := aM hr0
 have bJ := aM hc0
 clear hr0 hc0
 have HB := aM (Below.refl w.heap.size w)
 have H : ((spec_l1New.f k l0).bind fun aD => ((spec_l8Draw.f k aD.1 aD.2.1 aD.2.2).bind fun aJ => (some (aJ.1, aJ.2.1)))) = some (r1, r2) := h
 clear h
 obtain ⟨⟨aQ, aT, aV⟩, aX, H⟩ := hB H
 try dsimp only at H
 have A2 := aM aX
 clear aX
 obtain ⟨⟨aH, aI, bG, bH⟩, aZ, H⟩ := hB H
 try dsimp only at H
 have A3 := aM aZ
 clear aZ
 simp only [Option.some.injEq, Prod.mk.injEq] at H
 obtain ⟨rfl, rfl⟩ := H
 go_enter Try.func34, Try.ntmps34
 go_wp2_with (first | ((with_reducible refine gD (N := 2) rfl ?_); refine bE (N := 2) (cs := #[.int .i64 0, .slice none 0 0]) (t := 28) ?_; intro aE hg w4 hbox hb; have aA := aM (hbox); have bL := gF hg HB; have bM := gF hg HB; replace HB := rS HB hb; clear hb hbox hg) | ((with_reducible refine gC (f := 97) rfl ?_); refine gL (some 4) Try.func97 #[.slice A0 l0.length c0] ?_; (with_reducible refine (spec_l1New.calls k _ _ l0 aQ aT aV w _ ?side1 ?side2 ?side3 A2.out).mono ?_); (case side1 => exact bl HB.out); (case side2 => exact bI.out); (case side3 => exact bJ.out); rintro e w5 ⟨g790, rfl, hi, hb, hb2⟩; refine ⟨_, rfl, ?_⟩; have aK := aM (hi); have aG := aM (IsS175.ne_blk hi (bB (bk aA.out) hb2) (by decide)); have aC := aM (Ne.symm (IsS175.ne_blk hi (bB (bk aA.out) hb2) (by decide))); replace aA := aM (bB (bk aA.out) hb2); replace HB := aM (hb); (repeat first|clear hb|clear hb2|clear hi)) | ((with_reducible refine gC (f := 117) rfl ?_); refine gL (some 5) Try.func117 #[.pointer (some ⟨g790, 0, none⟩)] ?_; (with_reducible refine (spec_l8Draw.calls k g790 aQ aT aV aH aI bG bH w _ ?side1 ?side2 A3.out).mono ?_); (case side1 => exact IsS175.mv aK.out); (case side2 => exact IsS175.bl HB.out); rintro e w6 ⟨bO, rfl, ho0, hi, hb, hk⟩; refine ⟨_, rfl, ?_⟩; have aN := aM (Kd.R_lower ho0 (below_size (IsS175.bl HB.out))); replace aA := rP hk aA aC; replace HB := aM (hb); replace aK := aM (hi); (repeat first|clear hb|clear hk|clear hi|clear ho0); have bP := aC.out; have bQ := aG.out; have bR := cA2 aA.out; obtain ⟨bA, bD, bK⟩ := Kd.R_slice aN.out; subst bK))
 refine bodyPost_ret (results_cell_row rfl _ _ aE 28 #[aH, .slice bA aI.length bD] (0, 0) _ rfl (bm aA.out) Try.underlying28 rfl (by kernel_rfl)) rfl ?_
 exact ⟨_, xW, by (with_reducible repeat (first | apply Kd.R_alloc | apply Kd.R_drewN | apply Kd.R_drew)); exact Kd.R_mono (kF (p := ⟨aE, 1, none⟩) (kF (p := ⟨aE, 0, none⟩) (Kd.R_types aN.out aA.out (by decide)) (fun _ hk => hk.2) (.int .i64 aH)) (fun _ hk => hk.2) (.slice bA aI.length bD)) (fun _ hk => trivial), IsS175.bl HB.out⟩

def impl_RootPort.f (k : Nat) (aA : Int) (aC : List (S79)) : Option (Int × Bool) := (impl_BridgeOk.f k aA aC).bind fun aE => (if aE = true then ((impl_Bridge_rootPort.f k aA aC).bind fun aD => (some (aD, decide (aD ≥ 0)))) else (some ((-1), false)))
theorem impl_RootPort.mono : ∀ a0 a1 k, LeO (impl_RootPort.f k a0 a1) (impl_RootPort.f (k + 1) a0 a1) := by
 intro a0 a1 k
 unfold impl_RootPort.f
 repeat' first|(with_reducible first|apply impl_BridgeOk.mono|apply impl_Bridge_rootPort.mono|exact LeO.refl _|exact LeO.none _|refine LeO.ite ?_ ?_|refine LeO.bind ?_ (fun _ => ?_))|exact LeO.none _|refine LeO.ite ?_ ?_|refine LeO.bind ?_ (fun _ => ?_)
set_option maxHeartbeats 60000000 in
set_option maxRecDepth 100000 in
theorem impl_RootPort.calls (k : Nat) (aD : Int) (aE : Option Addr) (aG : Nat) (aA : List (S79)) (r1 : Int) (r2 : Bool) (w : World) (hr0_1 : Kd.C k79 w aE aA.length aA) (hc0_1 : aA.length ≤ aG) (h : impl_RootPort.f k aD aA = some (r1, r2)) :
  Calls Try.prog 35 #[.agg #[aD, .slice aE aA.length aG]] w fun e w' => e = .returned (.tuple #[r1, r2]) ∧ Below w.heap.size w w' := by
 have aZ := Try.underlying28
 have aH := aM hr0_1
 have aI := aM hc0_1
 clear hr0_1 hc0_1
 have HB := aM (Below.refl w.heap.size w)
 have H : ((impl_BridgeOk.f k aD aA).bind fun aN => (if aN = true then ((impl_Bridge_rootPort.f k aD aA).bind fun aJ => (some (aJ, decide (aJ ≥ 0)))) else (some ((-1), false)))) = some (r1, r2) := h
 clear h
 obtain ⟨aN, aV, H⟩ := hB H
 have A2 := aM aV
 clear aV
 by_cases c3 : aN = true
 case neg =>
  replace c3 := Bool.eq_false_iff.mpr c3
  subst c3
  replace H := hF H
  simp only [Option.some.injEq, Prod.mk.injEq] at H
  obtain ⟨rfl, rfl⟩ := H
  go_enter Try.func35, Try.ntmps35
  go_wp2_with (first | ((with_reducible refine gD (N := 1) rfl ?_); refine bE (N := 1) (cs := #[aD, .slice aE aA.length aG]) (t := 28) ?_; intro aK hg w9 hbox hb; have aC := aM (hbox); have aQ := gF hg HB; have aT := gF hg HB; replace HB := rS HB hb; clear hb hbox hg; have aX := cA2 aC.out) | ((with_reducible refine gC (f := 45) rfl ?_); refine gL (some 6) Try.func45 #[.agg #[aD, .slice aE aA.length aG]] ?_; (with_reducible refine (impl_BridgeOk.calls k aD _ _ aA false _ ?side1 ?side2 A2.out).mono ?_); (case side1 => exact cM (cB aH.out HB.out)); (case side2 => exact aI.out); rintro e bD ⟨rfl, hb⟩; refine ⟨_, rfl, ?_⟩; replace aC := rB aC hb; replace HB := rS HB hb; (try clear hb)))
  go_ret2
  exact ⟨xW, bl HB.out⟩
 subst c3
 replace H := hP H rfl
 obtain ⟨aJ, aW, H⟩ := hB H
 have A4 := aM aW
 clear aW
 simp only [Option.some.injEq, Prod.mk.injEq] at H
 obtain ⟨rfl, rfl⟩ := H
 go_enter Try.func35, Try.ntmps35
 go_wp2_with (first | ((with_reducible refine gD (N := 1) rfl ?_); refine bE (N := 1) (cs := #[aD, .slice aE aA.length aG]) (t := 28) ?_; intro aK hg w5 hbox hb; have aC := aM (hbox); have aQ := gF hg HB; have aT := gF hg HB; replace HB := rS HB hb; clear hb hbox hg; have bA := cA2 aC.out) | ((with_reducible refine gC (f := 45) rfl ?_); refine gL (some 6) Try.func45 #[.agg #[aD, .slice aE aA.length aG]] ?_; (with_reducible refine (impl_BridgeOk.calls k aD _ _ aA true _ ?side1 ?side2 A2.out).mono ?_); (case side1 => exact cM (cB aH.out HB.out)); (case side2 => exact aI.out); rintro e w7 ⟨rfl, hb⟩; refine ⟨_, rfl, ?_⟩; replace aC := rB aC hb; replace HB := rS HB hb; (try clear hb)) | ((with_reducible refine gC (f := 118) rfl ?_); refine gL (some 8) Try.func118 #[.pointer (some ⟨aK, 0, none⟩)] ?_; (with_reducible refine (impl_Bridge_rootPort.calls (gb := aK) (hBK := (bk aC.out)) k aD _ _ aA aJ _ ?side1 ?side2 A4.out).mono ?_); (case side1 => exact cM (cB aH.out HB.out)); (case side2 => exact aI.out); rintro e w8 ⟨rfl, hb⟩; refine ⟨_, rfl, ?_⟩; replace aC := rB aC hb; replace HB := rS HB hb; (try clear hb)))
 go_ret2
 exact ⟨xW, bl HB.out⟩

def spec_DrawOwn.f (k : Nat) (l0 : List Int) : Option (Int × (List (S79)) × Int) := (spec_l1New.f k l0).bind fun aA => ((spec_l8Draw.f k aA.1 aA.2.1 aA.2.2).bind fun aC => ((spec_l1Below.f aA.1 aC.2.2.1 aC.2.2.2 6).bind fun aD => (some (aC.1, aC.2.1, wrap64 (aD.1 - 1)))))
theorem spec_DrawOwn.mono : ∀ a0 k, LeO (spec_DrawOwn.f k a0) (spec_DrawOwn.f (k + 1) a0) := by
 intro a0 k
 unfold spec_DrawOwn.f
 repeat' first|(with_reducible first|apply spec_l1New.mono|apply spec_l8Draw.mono|exact LeO.refl _|exact LeO.none _|refine LeO.ite ?_ ?_|refine LeO.bind ?_ (fun _ => ?_))|exact LeO.none _|refine LeO.ite ?_ ?_|refine LeO.bind ?_ (fun _ => ?_)
set_option maxHeartbeats 60000000 in
set_option maxRecDepth 100000 in
theorem spec_DrawOwn.calls (k : Nat) (A0 : Option Addr) (c0 : Nat) (l0 : List Int) (r1 : Int) (r2 : List (S79)) (r3 : Int) (w : World) (hr0 : Kd.C (Kd.int .u8) w A0 l0.length l0) (hc0 : l0.length ≤ c0) (h : spec_DrawOwn.f k l0 = some (r1, r2, r3)) :
  Calls Try.prog 37 #[.slice A0 l0.length c0] w fun e w' => ∃ bL : Value, e = .returned (.tuple #[.agg #[r1, bL], r3]) ∧ Kd.R k79 79 w' w.heap.size (fun _ => True) bL r2 ∧ Below w.heap.size w w' := by
 have cH := Try.underlying28
 have bV := aM hr0
 have bW := aM hc0
 clear hr0 hc0
 have HB := aM (Below.refl w.heap.size w)
 have H : ((spec_l1New.f k l0).bind fun aZ => ((spec_l8Draw.f k aZ.1 aZ.2.1 aZ.2.2).bind fun bA => ((spec_l1Below.f aZ.1 bA.2.2.1 bA.2.2.2 6).bind fun bK => (some (bA.1, bA.2.1, wrap64 (bK.1 - 1)))))) = some (r1, r2, r3) := h
 clear h
 obtain ⟨⟨aJ, bI, bJ⟩, bM, H⟩ := hB H
 try dsimp only at H
 have A2 := aM bM
 clear bM
 obtain ⟨⟨aK, aG, aN, aQ⟩, bN, H⟩ := hB H
 try dsimp only at H
 have A3 := aM bN
 clear bN
 obtain ⟨⟨bQ, bR, bT⟩, bO, H⟩ := hB H
 try dsimp only at H
 have A4 := aM bO
 clear bO
 simp only [Option.some.injEq, Prod.mk.injEq] at H
 obtain ⟨rfl, rfl, rfl⟩ := H
 go_enter Try.func37, Try.ntmps37
 try go_wp2_with (first | ((with_reducible refine gD (N := 2) rfl ?_); refine box_event ?hg (N := 2) ?hd (cs := #[.int .i64 0, .slice none 0 0]) (t := 28) ?hr ?_; (case hd => rfl); (case hg => rfl); (case hr => first | (go_simp; done) | (go_simp; rfl) | (obtain ⟨A_, c_, e_⟩ := Kd.R_slice aC.out; subst e_; (first | (go_simp; done) | (go_simp; rfl))) | (obtain ⟨A_, c_, e_⟩ := Kd.S_slice aC.out; subst e_; (first | (go_simp; done) | (go_simp; rfl)))); intro bD hg w5 hbox hb; have aA := aM (hbox); have bY := gF hg HB; have bZ := gF hg HB; replace HB := rS HB hb; clear hb hbox hg) | ((with_reducible refine gC (f := 97) rfl ?_); refine gL (some 7) Try.func97 #[.slice A0 l0.length c0] ?_; (with_reducible refine (spec_l1New.calls k _ _ l0 aJ bI bJ w _ ?side1 ?side2 ?side3 A2.out).mono ?_); (case side1 => exact bl HB.out); (case side2 => exact bV.out); (case side3 => exact bW.out); rintro e w6 ⟨g804, rfl, hi, hb, hb2⟩; refine ⟨_, rfl, ?_⟩; have aD := aM (hi); have bP := aM (IsS175.ne_blk hi (bB (bk aA.out) hb2) (by decide)); have aW := aM (Ne.symm (IsS175.ne_blk hi (bB (bk aA.out) hb2) (by decide))); replace aA := aM (bB (bk aA.out) hb2); replace HB := aM (hb); (repeat first|clear hb|clear hb2|clear hi)) | ((with_reducible refine gC (f := 117) rfl ?_); refine gL (some 9) Try.func117 #[.pointer (some ⟨g804, 0, none⟩)] ?_; (with_reducible refine (spec_l8Draw.calls k g804 aJ bI bJ aK aG aN aQ w _ ?side1 ?side2 A3.out).mono ?_); (case side1 => exact IsS175.mv aD.out); (case side2 => exact IsS175.bl HB.out); rintro e w7 ⟨cK, rfl, ho0, hi, hb, hk⟩; refine ⟨_, rfl, ?_⟩; have aC := aM (Kd.R_lower ho0 (below_size (IsS175.bl HB.out))); replace aA := rP hk aA aW; replace HB := aM (hb); replace aD := aM (hi); (repeat first|clear hb|clear hk|clear hi|clear ho0)) | ((with_reducible refine gD (N := 5) rfl ?_); refine box_event ?hg (N := 5) ?hd (cs := #[.int .i64 0, .slice none 0 0]) (t := 28) ?hr ?_; (case hd => rfl); (case hg => rfl); (case hr => first | (go_simp; done) | (go_simp; rfl) | (obtain ⟨A_, c_, e_⟩ := Kd.R_slice aC.out; subst e_; (first | (go_simp; done) | (go_simp; rfl))) | (obtain ⟨A_, c_, e_⟩ := Kd.S_slice aC.out; subst e_; (first | (go_simp; done) | (go_simp; rfl)))); intro bG hg w8 hbox hb; have aE := aM (hbox); have cA := gE hg (below_size (IsS175.bl HB.out)); have cC := gE hg (below_size (IsS175.bl HB.out)); have aH := nM hg aA; have aI := nH hg aA; have bH := nL hg (IsS175.lt (show IsS175 w _ g804 aJ aN aQ from IsS175.mv aD.out)); have aX := nG hg (IsS175.lt (show IsS175 w _ g804 aJ aN aQ from IsS175.mv aD.out)); replace aC := aM (kB (kr aC.out) hb); replace aA := rB aA hb; replace aD := aM (IsS175.below (IsS175.mv aD.out) hb); replace HB := aM (bS (IsS175.bl HB.out) hb); clear hb hbox hg; have cL := aI.out; have cN := aH.out; have cD := aX.out; have cE := bH.out; have cG := cA2 aE.out; obtain ⟨aT, aV, bU⟩ := Kd.R_slice aC.out; subst bU))
 refine nW (fun W => Aside0 (Kd.R k79 79 W w.heap.size (fun _ => True) (.slice aT aG.length aV) aG) ∧ Aside0 (W.heap[bD]? = some (.cells #[.int .i64 0, .slice none 0 0] 28 (0, 0))) ∧ Aside0 (W.heap[bG]? = some (.cells #[aK, .slice aT aG.length aV] 28 (0, 0))) ∧ Aside0 (IsS175 w W g804 aJ aN aQ) ∧ Aside0 (Below w.heap.size w W)) ⟨⟨kr (Kd.R_mono (kF (p := ⟨bG, 1, none⟩) (kF (p := ⟨bG, 0, none⟩) (Kd.R_types aC.out aE.out (by decide)) (fun _ hk => hk.2) (.int .i64 aK)) (fun _ hk => hk.2) (.slice aT aG.length aV)) (fun _ hk => trivial))⟩, ⟨fm aA.out⟩, ⟨bm aE.out⟩, ⟨IsS175.mv aD.out⟩, ⟨IsS175.bl HB.out⟩⟩ ?_
 intro bX nn_
 replace aC := nn_.1
 replace aA := nn_.2.1
 replace aE := nn_.2.2.1
 replace aD := nn_.2.2.2.1
 replace HB := nn_.2.2.2.2
 clear nn_
 replace aC := aM (Kd.R_drew aC.out)
 replace aA := aM (blk_drew aA.out)
 replace aE := aM (blk_drew aE.out)
 replace aD := aM (IsS175.drew aD.out)
 replace HB := aM (below_drew1 HB.out)
 refine start_ (n := 6) (S := fun w' => cS2 w' bG (.int .i64 aK) (.slice aT aG.length aV)) (ds := []) (dn 6 0) (by kernel_rfl) rfl rfl ⟨cI aE.out 0, cI aE.out 1⟩ (fun hHeld => ?_)
 generalize bX.drew = cQ at aC aA aE aD HB hHeld ⊢
 refine pure_ (i := 1) (N := some 11) (v := ?_) (a' := ?_) #[U,Y,U,U,U,U] rfl rfl (by kernel_rfl) (fun _ _ _ h => h) (Or.inl ⟨by rfl, ?_⟩) ?_ ?_
 rotate_left
 ·intro w'
  go_simp
  with_reducible rfl
 rotate_left
 ·simp only [Act.put, sA, sZ, sS, i64_w, i32_w]
  rfl
 refine take_ (i := 0) (N := some 10) (v := ?_) (a' := ?_) #[Y,Y,U,U,U,U] rfl rfl (by kernel_rfl) (fun _ _ _ h => h) (Or.inl ⟨by rfl, ?_⟩) hHeld ?_ ?_
 rotate_left
 ·rintro w' ⟨s0, s1⟩
  go_simp
  with_reducible rfl
 rotate_left
 ·simp only [Act.put, sA, sZ, sS, i64_w, i32_w]
  rfl
 refine one_ (i := 2) (N := some 12) #[Y,Y,Y,U,U,U] rfl rfl (by kernel_rfl) (by decide) (fun K hK => ?_)
 refine goes_ Try.func99 (by kernel_rfl) rfl #[.pointer (some ⟨g804, 0, none⟩), .int .i64 6] (by rfl) rfl rfl xR ?_
 with_reducible refine (spec_l1Below.calls g804 aJ aN aQ 6 bQ bR bT w _ ?side1 ?side2 A4.out).mono ?_
 (case side1 => exact IsS175.mv aD.out)
 (case side2 => exact IsS175.bl HB.out)
 rintro e cR ⟨rfl, hi, hb, hk⟩
 refine ⟨_, rfl, ?_⟩
 replace aA := rP hk aA aW
 replace aC := aM (Kd.R_mono (Kd.R_keep (IsS175.apart (show IsS175 w _ g804 aJ aN aQ from IsS175.mv aD.out) (kr aC.out) (by decide)) hk (fun _ h => h.2)) (fun _ h => h.1))
 replace aE := rP hk aE aX
 replace HB := aM (hb)
 replace aD := aM (hi)
 (try clear hb)
 (try clear hb2)
 (try clear hk)
 (try clear hi)
 refine hK.out _ _ ⟨cI aE.out 0, cI aE.out 1⟩ (fun hHeld => ?_)
 clear hK K
 refine norm_ (a' := ?_) ?_ ?_
 rotate_left
 ·show Act.put _ (some 12) _ = _
  simp only [Act.put, sA, sZ, sS, i64_w, i32_w]
  rfl
 refine pure_ (i := 3) (N := some 13) (v := ?_) (a' := ?_) #[Y,Y,Y,Y,U,U] rfl rfl (by kernel_rfl) (fun _ _ _ h => h) (Or.inl ⟨by rfl, ?_⟩) ?_ ?_
 rotate_left
 ·intro w'
  go_simp
  with_reducible rfl
 rotate_left
 ·simp only [Act.put, sA, sZ, sS, i64_w, i32_w]
  rfl
 refine one_ (i := 4) (N := none) #[Y,Y,Y,Y,Y,U] rfl rfl (by kernel_rfl) (by decide) (fun K hK => ?_)
 have cO := cI aA.out 0
 have hfs16 := bF aA.out 0
 have hns16_1 := aI.out
 have hms16_1 := aH.out
 have cP := cI aA.out 1
 have hfs17 := bF aA.out 1
 have hns17_1 := aI.out
 have hms17_1 := aH.out
 refine skip_ (w1 := ?_) (by rfl) rfl ?_ ?_
 rotate_left
 ·go_simp
  rfl
 refine hK.out _ _ ⟨(cm (hHeld.1)), (cm (hHeld.2))⟩ (fun hHeld => ?_)
 clear hK K
 refine pure_ (i := 5) (N := some 3) (v := ?_) (a' := ?_) #[Y,Y,Y,Y,Y,Y] rfl rfl (by kernel_rfl) (fun _ _ _ h => h) (Or.inl ⟨by rfl, ?_⟩) ?_ ?_
 rotate_left
 ·intro w'
  go_simp
  with_reducible rfl
 rotate_left
 ·simp only [Act.put, sA, sZ, sS, i64_w, i32_w]
  rfl
 refine done_ (by kernel_rfl) ?_
 try go_wp2
 refine bodyPost_ret (results_ct rfl _ _ bD 28 #[aK, .slice aT aG.length aV] (0, 0) _ rfl (bm aA.out) Try.underlying28 rfl (by kernel_rfl)) rfl ?_
 exact ⟨_, xW, by (with_reducible repeat (first | apply Kd.R_alloc | apply Kd.R_drewN | apply Kd.R_drew)); exact Kd.R_mono (kF (p := ⟨bD, 1, none⟩) (kF (p := ⟨bD, 0, none⟩) (Kd.R_types aC.out aA.out (by decide)) (fun _ hk => hk.2) (.int .i64 aK)) (fun _ hk => hk.2) (.slice aT aG.length aV)) (fun _ hk => trivial), IsS175.bl HB.out⟩

end Go.Proofs.Ythmijfekdeagpaa.PFnRootPorts

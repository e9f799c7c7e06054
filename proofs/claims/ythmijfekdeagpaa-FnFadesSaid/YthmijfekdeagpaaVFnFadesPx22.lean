/- A part of the proof of laws.FnFades. No condition beyond what its theorems say. -/
import Derived.Test.YthmijfekdeagpaaVFnFadesPx20
import Derived.Test.YthmijfekdeagpaaVFnFadesPx21
namespace Go.Proofs.Ythmijfekdeagpaa.PFnFades
open Go.RowKit Go.Proofs.YthmijfekdeagpaaW.PrintWords Go.Proofs.YthmijfekdeagpaaW.PrintLast Go.Proofs.YthmijfekdeagpaaW.PrintMore
set_option linter.unusedVariables false
set_option linter.unusedSimpArgs false

def spec_l7Draw.f (k : Nat) (aE : List Int) (aJ aK : Int) : Option (Bool × Bool × Int × Int × Int × Int × Int × Int × Int × Int × Bool × Int × Int) := (spec_l7DrawRight.f k aE aJ aK).bind fun aA => ((spec_l1Below.f aE aA.2.2.2.2.2.2.2.2.2.2.2.1 aA.2.2.2.2.2.2.2.2.2.2.2.2 12).bind fun aC => (if aC.1 = 0 then (some (!aA.1, aA.2.1, aA.2.2.1, aA.2.2.2.1, aA.2.2.2.2.1, aA.2.2.2.2.2.1, aA.2.2.2.2.2.2.1, aA.2.2.2.2.2.2.2.1, aA.2.2.2.2.2.2.2.2.1, aA.2.2.2.2.2.2.2.2.2.1, aA.2.2.2.2.2.2.2.2.2.2.1, aC.2.1, aC.2.2)) else (if aC.1 = 1 then ((spec_l6Draw.f aE aC.2.1 aC.2.2).bind fun aD => (some (aA.1, aA.2.1, aD.1, aD.2.1, aD.2.2.1, aD.2.2.2.1, aA.2.2.2.2.2.2.1, aA.2.2.2.2.2.2.2.1, aA.2.2.2.2.2.2.2.2.1, aA.2.2.2.2.2.2.2.2.2.1, aA.2.2.2.2.2.2.2.2.2.2.1, aD.2.2.2.2.1, aD.2.2.2.2.2))) else (if aC.1 = 2 then ((spec_l1PickInt.f aE aC.2.1 aC.2.2 (([0, 1, 3, 4] : List Int))).bind fun aG => (some (aA.1, aA.2.1, aA.2.2.1, aA.2.2.2.1, aA.2.2.2.2.1, aA.2.2.2.2.2.1, aA.2.2.2.2.2.2.1, aG.1, aA.2.2.2.2.2.2.2.2.1, aA.2.2.2.2.2.2.2.2.2.1, aA.2.2.2.2.2.2.2.2.2.2.1, aG.2.1, aG.2.2))) else (if aC.1 = 3 then ((spec_l1Below.f aE aC.2.1 aC.2.2 6).bind fun aH => (some (aA.1, aA.2.1, aA.2.2.1, aA.2.2.2.1, aA.2.2.2.2.1, aA.2.2.2.2.2.1, aA.2.2.2.2.2.2.1, aA.2.2.2.2.2.2.2.1, wrap64 (aH.1 - 1), aA.2.2.2.2.2.2.2.2.2.1, aA.2.2.2.2.2.2.2.2.2.2.1, aH.2.1, aH.2.2))) else (if aC.1 = 4 then (some (aA.1, aA.2.1, aA.2.2.1, aA.2.2.2.1, aA.2.2.2.2.1, aA.2.2.2.2.2.1, aA.2.2.2.2.2.2.1, aA.2.2.2.2.2.2.2.1, aA.2.2.2.2.2.2.2.2.1, aA.2.2.2.2.2.2.2.2.2.1, !aA.2.2.2.2.2.2.2.2.2.2.1, aC.2.1, aC.2.2)) else (if aC.1 = 5 then ((spec_l1PickInt.f aE aC.2.1 aC.2.2 (([(-1), 4, 5] : List Int))).bind fun aI => (some (aA.1, aA.2.1, aA.2.2.1, aA.2.2.2.1, aA.2.2.2.2.1, aA.2.2.2.2.2.1, aA.2.2.2.2.2.2.1, aA.2.2.2.2.2.2.2.1, aA.2.2.2.2.2.2.2.2.1, aI.1, aA.2.2.2.2.2.2.2.2.2.2.1, aI.2.1, aI.2.2))) else (some (aA.1, aA.2.1, aA.2.2.1, aA.2.2.2.1, aA.2.2.2.2.1, aA.2.2.2.2.2.1, aA.2.2.2.2.2.2.1, aA.2.2.2.2.2.2.2.1, aA.2.2.2.2.2.2.2.2.1, aA.2.2.2.2.2.2.2.2.2.1, aA.2.2.2.2.2.2.2.2.2.2.1, aC.2.1, aC.2.2)))))))))
theorem spec_l7Draw.mono : ∀ a0 a1 a2 k, LeO (spec_l7Draw.f k a0 a1 a2) (spec_l7Draw.f (k + 1) a0 a1 a2) := by
 intro a0 a1 a2 k
 unfold spec_l7Draw.f
 repeat' first|(with_reducible first|apply spec_l7DrawRight.mono|exact lR _|exact lN _|refine lI ?_ ?_|refine lB ?_ fun _ => ?_)|exact lN _|refine lI ?_ ?_|refine lB ?_ fun _ => ?_
set_option maxHeartbeats 60000000 in
set_option maxRecDepth 100000 in
theorem spec_l7Draw.calls (k g : Nat) (aE : List Int) (aW aX : Int) (r1 r2 : Bool) (r3 r4 r5 r6 r7 r8 r9 cT : Int) (cU : Bool) (cV cW : Int) (w0 w : World) (hI : IsS175 w0 w g aE aW aX) (hB : Below w0.heap.size w0 w) (h : spec_l7Draw.f k aE aW aX = some (r1, r2, r3, r4, r5, r6, r7, r8, r9, cT, cU, cV, cW)) :
  Calls Try.prog 174 #[.pointer (some ⟨g, 0, none⟩)] w fun e w' => e = .returned (.agg #[r1, r2, r3, r4, r5, r6, r7, r8, r9, cT, cU]) ∧ IsS175 w0 w' g aE cV cW ∧ Below w0.heap.size w0 w' ∧ KeepBut w w' g none := by
 have iC := Try.underlying79
 have iD := Try.underlying73
 have aD := aM hI
 have HK := aM (KeepBut.refl w g none)
 have HL := aM hB.size
 clear hI
 have HW0 := aM hB.size
 have HB := aM hB
 clear hB
 have H : ((spec_l7DrawRight.f k aE aW aX).bind fun aC => ((spec_l1Below.f aE aC.2.2.2.2.2.2.2.2.2.2.2.1 aC.2.2.2.2.2.2.2.2.2.2.2.2 12).bind fun aV => (if aV.1 = 0 then (some (!aC.1, aC.2.1, aC.2.2.1, aC.2.2.2.1, aC.2.2.2.2.1, aC.2.2.2.2.2.1, aC.2.2.2.2.2.2.1, aC.2.2.2.2.2.2.2.1, aC.2.2.2.2.2.2.2.2.1, aC.2.2.2.2.2.2.2.2.2.1, aC.2.2.2.2.2.2.2.2.2.2.1, aV.2.1, aV.2.2)) else (if aV.1 = 1 then ((spec_l6Draw.f aE aV.2.1 aV.2.2).bind fun cC => (some (aC.1, aC.2.1, cC.1, cC.2.1, cC.2.2.1, cC.2.2.2.1, aC.2.2.2.2.2.2.1, aC.2.2.2.2.2.2.2.1, aC.2.2.2.2.2.2.2.2.1, aC.2.2.2.2.2.2.2.2.2.1, aC.2.2.2.2.2.2.2.2.2.2.1, cC.2.2.2.2.1, cC.2.2.2.2.2))) else (if aV.1 = 2 then ((spec_l1PickInt.f aE aV.2.1 aV.2.2 (([0, 1, 3, 4] : List Int))).bind fun bZ => (some (aC.1, aC.2.1, aC.2.2.1, aC.2.2.2.1, aC.2.2.2.2.1, aC.2.2.2.2.2.1, aC.2.2.2.2.2.2.1, bZ.1, aC.2.2.2.2.2.2.2.2.1, aC.2.2.2.2.2.2.2.2.2.1, aC.2.2.2.2.2.2.2.2.2.2.1, bZ.2.1, bZ.2.2))) else (if aV.1 = 3 then ((spec_l1Below.f aE aV.2.1 aV.2.2 6).bind fun cS => (some (aC.1, aC.2.1, aC.2.2.1, aC.2.2.2.1, aC.2.2.2.2.1, aC.2.2.2.2.2.1, aC.2.2.2.2.2.2.1, aC.2.2.2.2.2.2.2.1, wrap64 (cS.1 - 1), aC.2.2.2.2.2.2.2.2.2.1, aC.2.2.2.2.2.2.2.2.2.2.1, cS.2.1, cS.2.2))) else (if aV.1 = 4 then (some (aC.1, aC.2.1, aC.2.2.1, aC.2.2.2.1, aC.2.2.2.2.1, aC.2.2.2.2.2.1, aC.2.2.2.2.2.2.1, aC.2.2.2.2.2.2.2.1, aC.2.2.2.2.2.2.2.2.1, aC.2.2.2.2.2.2.2.2.2.1, !aC.2.2.2.2.2.2.2.2.2.2.1, aV.2.1, aV.2.2)) else (if aV.1 = 5 then ((spec_l1PickInt.f aE aV.2.1 aV.2.2 (([(-1), 4, 5] : List Int))).bind fun cA => (some (aC.1, aC.2.1, aC.2.2.1, aC.2.2.2.1, aC.2.2.2.2.1, aC.2.2.2.2.2.1, aC.2.2.2.2.2.2.1, aC.2.2.2.2.2.2.2.1, aC.2.2.2.2.2.2.2.2.1, cA.1, aC.2.2.2.2.2.2.2.2.2.2.1, cA.2.1, cA.2.2))) else (some (aC.1, aC.2.1, aC.2.2.1, aC.2.2.2.1, aC.2.2.2.2.1, aC.2.2.2.2.2.1, aC.2.2.2.2.2.2.1, aC.2.2.2.2.2.2.2.1, aC.2.2.2.2.2.2.2.2.1, aC.2.2.2.2.2.2.2.2.2.1, aC.2.2.2.2.2.2.2.2.2.2.1, aV.2.1, aV.2.2)))))))))) = some (r1, r2, r3, r4, r5, r6, r7, r8, r9, cT, cU, cV, cW) := h
 clear h
 obtain ⟨⟨bG, bH, bK, bL, bM, bN, bI, bP, bO, bQ, bJ, aQ, aT⟩, dY, H⟩ := hB H
 try dsimp only at H
 have A2 := aM dY
 clear dY
 obtain ⟨⟨aJ, bV, bW⟩, dZ, H⟩ := hB H
 try dsimp only at H
 have A3 := aM dZ
 clear dZ
 by_cases c4 : aJ = 0
 case pos =>
  rw [if_pos c4] at H
  have eA : (aJ == 0) = true := beq_iff_eq.mpr c4
  have eB : (aJ != 0) = false := bne_eq_false_iff_eq.mpr c4
  clear c4
  simp only [Option.some.injEq, Prod.mk.injEq] at H
  obtain ⟨rfl, rfl, rfl, rfl, rfl, rfl, rfl, rfl, rfl, rfl, rfl, rfl, rfl⟩ := H
  go_enter Try.func174, Try.ntmps174
  go_wp2_with (first | ((with_reducible refine gD (N := 2) rfl ?_); refine bE (N := 2) (cs := #[.bool false, .bool false, .int .i64 0, .int .i64 0, .int .i64 0, .int .i64 0, .int .i64 0, .int .i64 0, .int .i64 0, .int .i64 0, .bool false]) (t := 79) ?_; intro bT hg w5 hbox hb; have aA := aM (hbox); have cD := gE hg (keep_size (km HK.out)); have cE := gE2 HW0.out hg (keep_size (km HK.out)); have bA := nL hg (IsS175.lt (show IsS175 w0 _ g aE aW aX from IsS175.mv aD.out)); have aH := nG hg (IsS175.lt (show IsS175 w0 _ g aE aW aX from IsS175.mv aD.out)); replace aD := aM (IsS175.below (IsS175.mv aD.out) hb); replace HK := rU HK hb; replace HB := aM (bS (IsS175.bl HB.out) hb); clear hb hbox hg) | ((with_reducible refine gC (f := 119) rfl ?_); refine gL (some 5) Try.func119 #[.pointer (some ⟨g, 0, none⟩)] ?_; (with_reducible refine (spec_l7DrawRight.calls k g aE aW aX bG bH bK bL bM bN bI bP bO bQ bJ aQ aT w0 _ ?side1 ?side2 A2.out).mono ?_); (case side1 => exact IsS175.mv aD.out); (case side2 => exact IsS175.bl HB.out); rintro e w6 ⟨rfl, hi, hb, hk⟩; refine ⟨_, rfl, ?_⟩; replace aA := rP hk aA aH; replace HK := aM (KeepBut.trans (km HK.out) hk (.inl rfl)); replace HB := aM (hb); replace aD := aM (hi); (repeat first|clear hb|clear hk|clear hi)) | ((with_reducible refine gD (N := 3) rfl ?_); refine bE (N := 3) (cs := #[.bool false, .bool false, .int .i64 0, .int .i64 0, .int .i64 0, .int .i64 0, .int .i64 0, .int .i64 0, .int .i64 0, .int .i64 0, .bool false]) (t := 79) ?_; intro bU hg w7 hbox hb; have aG := aM (hbox); have cG := gE hg (keep_size (km HK.out)); have cH := gE2 HW0.out hg (keep_size (km HK.out)); have aK := nM hg aA; have aN := nH hg aA; have bD := nL hg (IsS175.lt (show IsS175 w0 _ g aE aQ aT from IsS175.mv aD.out)); have aI := nG hg (IsS175.lt (show IsS175 w0 _ g aE aQ aT from IsS175.mv aD.out)); replace aD := aM (IsS175.below (IsS175.mv aD.out) hb); replace aA := rB aA hb; replace HK := rU HK hb; replace HB := aM (bS (IsS175.bl HB.out) hb); clear hb hbox hg; have iE := aN.out; have iF := aK.out; have iG := aI.out; have iH := bD.out; have eU := cA11 aG.out) | ((with_reducible refine gC (f := 99) rfl ?_); refine gL (some 7) Try.func99 #[.pointer (some ⟨g, 0, none⟩), .int .i64 12] ?_; (with_reducible refine (spec_l1Below.calls g aE aQ aT 12 aJ bV bW w0 _ ?side1 ?side2 A3.out).mono ?_); (case side1 => exact IsS175.mv aD.out); (case side2 => exact IsS175.bl HB.out); rintro e iK ⟨rfl, hi, hb, hk⟩; refine ⟨_, rfl, ?_⟩; replace aA := aM (KeepBut.blk hk (fm aA.out) aH.out (by simp)); replace aG := aM (KeepBut.blk hk (g' := bU) (o := .cells #[bG, bH, bK, bL, bM, bN, bI, bP, bO, bQ, bJ] 79 (0, 0)) (bm aG.out) aI.out (by simp)); replace HK := aM (KeepBut.trans (km HK.out) hk (.inl rfl)); replace HB := aM (hb); replace aD := aM (hi); (repeat first|clear hb|clear hk|clear hi); have eV := cA11 aG.out; have eW := aH.out; have eX := bA.out; have eY := cA11 aA.out))
  refine bodyPost_ret (results_cell_row rfl _ _ bT 79 #[.bool (!bG), bH, bK, bL, bM, bN, bI, bP, bO, bQ, bJ] (0, 0) _ rfl (bm aA.out) Try.underlying79 rfl (by kernel_rfl)) rfl ?_
  exact ⟨xW, IsS175.mv aD.out, IsS175.bl HB.out, km HK.out⟩
 rw [if_neg c4] at H
 have eA : (aJ == 0) = false := beq_eq_false_iff_ne.mpr c4
 have eB : (aJ != 0) = true := bne_iff_ne.mpr c4
 by_cases cN : aJ = 1
 case pos =>
  rw [if_pos cN] at H
  have dN : (aJ == 1) = true := beq_iff_eq.mpr cN
  have dO : (aJ != 1) = false := bne_eq_false_iff_eq.mpr cN
  clear cN
  obtain ⟨⟨dC, dD, dE, dF, eC, eD⟩, dG, H⟩ := hB H
  try dsimp only at H
  have eQ := aM dG
  clear dG
  simp only [Option.some.injEq, Prod.mk.injEq] at H
  obtain ⟨rfl, rfl, rfl, rfl, rfl, rfl, rfl, rfl, rfl, rfl, rfl, rfl, rfl⟩ := H
  go_enter Try.func174, Try.ntmps174
  go_wp2_with (first | ((with_reducible refine gD (N := 2) rfl ?_); refine bE (N := 2) (cs := #[.bool false, .bool false, .int .i64 0, .int .i64 0, .int .i64 0, .int .i64 0, .int .i64 0, .int .i64 0, .int .i64 0, .int .i64 0, .bool false]) (t := 79) ?_; intro bT hg iL hbox hb; have aA := aM (hbox); have cD := gE hg (keep_size (km HK.out)); have cE := gE2 HW0.out hg (keep_size (km HK.out)); have bA := nL hg (IsS175.lt (show IsS175 w0 _ g aE aW aX from IsS175.mv aD.out)); have aH := nG hg (IsS175.lt (show IsS175 w0 _ g aE aW aX from IsS175.mv aD.out)); replace aD := aM (IsS175.below (IsS175.mv aD.out) hb); replace HK := rU HK hb; replace HB := aM (bS (IsS175.bl HB.out) hb); clear hb hbox hg) | ((with_reducible refine gC (f := 119) rfl ?_); refine gL (some 5) Try.func119 #[.pointer (some ⟨g, 0, none⟩)] ?_; (with_reducible refine (spec_l7DrawRight.calls k g aE aW aX bG bH bK bL bM bN bI bP bO bQ bJ aQ aT w0 _ ?side1 ?side2 A2.out).mono ?_); (case side1 => exact IsS175.mv aD.out); (case side2 => exact IsS175.bl HB.out); rintro e iM ⟨rfl, hi, hb, hk⟩; refine ⟨_, rfl, ?_⟩; replace aA := rP hk aA aH; replace HK := aM (KeepBut.trans (km HK.out) hk (.inl rfl)); replace HB := aM (hb); replace aD := aM (hi); (repeat first|clear hb|clear hk|clear hi)) | ((with_reducible refine gD (N := 3) rfl ?_); refine bE (N := 3) (cs := #[.bool false, .bool false, .int .i64 0, .int .i64 0, .int .i64 0, .int .i64 0, .int .i64 0, .int .i64 0, .int .i64 0, .int .i64 0, .bool false]) (t := 79) ?_; intro bU hg iN hbox hb; have aG := aM (hbox); have cG := gE hg (keep_size (km HK.out)); have cH := gE2 HW0.out hg (keep_size (km HK.out)); have aK := nM hg aA; have aN := nH hg aA; have bD := nL hg (IsS175.lt (show IsS175 w0 _ g aE aQ aT from IsS175.mv aD.out)); have aI := nG hg (IsS175.lt (show IsS175 w0 _ g aE aQ aT from IsS175.mv aD.out)); replace aD := aM (IsS175.below (IsS175.mv aD.out) hb); replace aA := rB aA hb; replace HK := rU HK hb; replace HB := aM (bS (IsS175.bl HB.out) hb); clear hb hbox hg; have eZ := aN.out; have fA := aK.out; have fB := aI.out; have fC := bD.out; have fD := cA11 aG.out) | ((with_reducible refine gC (f := 99) rfl ?_); refine gL (some 7) Try.func99 #[.pointer (some ⟨g, 0, none⟩), .int .i64 12] ?_; (with_reducible refine (spec_l1Below.calls g aE aQ aT 12 aJ bV bW w0 _ ?side1 ?side2 A3.out).mono ?_); (case side1 => exact IsS175.mv aD.out); (case side2 => exact IsS175.bl HB.out); rintro e iO ⟨rfl, hi, hb, hk⟩; refine ⟨_, rfl, ?_⟩; replace aA := aM (KeepBut.blk hk (fm aA.out) aH.out (by simp)); replace aG := aM (KeepBut.blk hk (g' := bU) (o := .cells #[bG, bH, bK, bL, bM, bN, bI, bP, bO, bQ, bJ] 79 (0, 0)) (bm aG.out) aI.out (by simp)); replace HK := aM (KeepBut.trans (km HK.out) hk (.inl rfl)); replace HB := aM (hb); replace aD := aM (hi); (repeat first|clear hb|clear hk|clear hi)) | ((with_reducible refine gC (f := 195) rfl ?_); refine gL (some 17) Try.func195 #[.pointer (some ⟨g, 0, none⟩)] ?_; (with_reducible refine (spec_l6Draw.calls g aE bV bW dC dD dE dF eC eD w0 _ ?side1 ?side2 eQ.out).mono ?_); (case side1 => exact IsS175.mv aD.out); (case side2 => exact IsS175.bl HB.out); rintro e iP ⟨rfl, hi, hb, hk⟩; refine ⟨_, rfl, ?_⟩; replace aA := rP hk aA aH; replace aG := rP hk aG aI; replace HK := aM (KeepBut.trans (km HK.out) hk (.inl rfl)); replace HB := aM (hb); replace aD := aM (hi); (repeat first|clear hb|clear hk|clear hi); have fE := cA11 aG.out; have fF := aH.out; have fG := bA.out; have fH := cA11 aA.out))
  refine bodyPost_ret (results_cell_row rfl _ _ bT 79 #[bG, bH, dC, dD, dE, dF, bI, bP, bO, bQ, bJ] (0, 0) _ rfl (bm aA.out) Try.underlying79 rfl (by kernel_rfl)) rfl ?_
  exact ⟨xW, IsS175.mv aD.out, IsS175.bl HB.out, km HK.out⟩
 rw [if_neg cN] at H
 have dN : (aJ == 1) = false := beq_eq_false_iff_ne.mpr cN
 have dO : (aJ != 1) = true := bne_iff_ne.mpr cN
 by_cases cO : aJ = 2
 case pos =>
  rw [if_pos cO] at H
  have dP : (aJ == 2) = true := beq_iff_eq.mpr cO
  have dQ : (aJ != 2) = false := bne_eq_false_iff_eq.mpr cO
  clear cO
  obtain ⟨cX, cK⟩ : ∃ y_ : List Int, y_ = (([0, 1, 3, 4] : List Int)) := ⟨_, rfl⟩
  replace H : ((spec_l1PickInt.f aE bV bW cX).bind fun bZ => (some (bG, bH, bK, bL, bM, bN, bI, bZ.1, bO, bQ, bJ, bZ.2.1, bZ.2.2))) = some (r1, r2, r3, r4, r5, r6, r7, r8, r9, cT, cU, cV, cW) := by first | (rw [cK]; with_reducible exact H) | (have H2_ := (Option.bind_some _ _).symm.trans H; rw [cK]; with_reducible exact H2_) | (have H2_ := (Option.bind_some _ _).symm.trans H; with_reducible exact H2_) | with_reducible exact H | (rw [cK]; exact H) | exact H
  have dA := aM cK
  clear cK
  obtain ⟨⟨dH, eE, eF⟩, dI, H⟩ := hB H
  try dsimp only at H
  have eR := aM dI
  clear dI
  simp only [Option.some.injEq, Prod.mk.injEq] at H
  obtain ⟨rfl, rfl, rfl, rfl, rfl, rfl, rfl, rfl, rfl, rfl, rfl, rfl, rfl⟩ := H
  go_enter Try.func174, Try.ntmps174
  go_wp2_with (first | ((with_reducible refine gD (N := 2) rfl ?_); refine bE (N := 2) (cs := #[.bool false, .bool false, .int .i64 0, .int .i64 0, .int .i64 0, .int .i64 0, .int .i64 0, .int .i64 0, .int .i64 0, .int .i64 0, .bool false]) (t := 79) ?_; intro bT hg iQ hbox hb; have aA := aM (hbox); have cD := gE hg (keep_size (km HK.out)); have cE := gE2 HW0.out hg (keep_size (km HK.out)); have bA := nL hg (IsS175.lt (show IsS175 w0 _ g aE aW aX from IsS175.mv aD.out)); have aH := nG hg (IsS175.lt (show IsS175 w0 _ g aE aW aX from IsS175.mv aD.out)); replace aD := aM (IsS175.below (IsS175.mv aD.out) hb); replace HK := rU HK hb; replace HB := aM (bS (IsS175.bl HB.out) hb); clear hb hbox hg) | ((with_reducible refine gC (f := 119) rfl ?_); refine gL (some 5) Try.func119 #[.pointer (some ⟨g, 0, none⟩)] ?_; (with_reducible refine (spec_l7DrawRight.calls k g aE aW aX bG bH bK bL bM bN bI bP bO bQ bJ aQ aT w0 _ ?side1 ?side2 A2.out).mono ?_); (case side1 => exact IsS175.mv aD.out); (case side2 => exact IsS175.bl HB.out); rintro e iR ⟨rfl, hi, hb, hk⟩; refine ⟨_, rfl, ?_⟩; replace aA := rP hk aA aH; replace HK := aM (KeepBut.trans (km HK.out) hk (.inl rfl)); replace HB := aM (hb); replace aD := aM (hi); (repeat first|clear hb|clear hk|clear hi)) | ((with_reducible refine gD (N := 3) rfl ?_); refine bE (N := 3) (cs := #[.bool false, .bool false, .int .i64 0, .int .i64 0, .int .i64 0, .int .i64 0, .int .i64 0, .int .i64 0, .int .i64 0, .int .i64 0, .bool false]) (t := 79) ?_; intro bU hg iS hbox hb; have aG := aM (hbox); have cG := gE hg (keep_size (km HK.out)); have cH := gE2 HW0.out hg (keep_size (km HK.out)); have aK := nM hg aA; have aN := nH hg aA; have bD := nL hg (IsS175.lt (show IsS175 w0 _ g aE aQ aT from IsS175.mv aD.out)); have aI := nG hg (IsS175.lt (show IsS175 w0 _ g aE aQ aT from IsS175.mv aD.out)); replace aD := aM (IsS175.below (IsS175.mv aD.out) hb); replace aA := rB aA hb; replace HK := rU HK hb; replace HB := aM (bS (IsS175.bl HB.out) hb); clear hb hbox hg; have fI := aN.out; have fK := aK.out; have fL := aI.out; have fM := bD.out; have fN := cA11 aG.out) | ((with_reducible refine gC (f := 99) rfl ?_); refine gL (some 7) Try.func99 #[.pointer (some ⟨g, 0, none⟩), .int .i64 12] ?_; (with_reducible refine (spec_l1Below.calls g aE aQ aT 12 aJ bV bW w0 _ ?side1 ?side2 A3.out).mono ?_); (case side1 => exact IsS175.mv aD.out); (case side2 => exact IsS175.bl HB.out); rintro e iT ⟨rfl, hi, hb, hk⟩; refine ⟨_, rfl, ?_⟩; replace aA := aM (KeepBut.blk hk (fm aA.out) aH.out (by simp)); replace aG := aM (KeepBut.blk hk (g' := bU) (o := .cells #[bG, bH, bK, bL, bM, bN, bI, bP, bO, bQ, bJ] 79 (0, 0)) (bm aG.out) aI.out (by simp)); replace HK := aM (KeepBut.trans (km HK.out) hk (.inl rfl)); replace HB := aM (hb); replace aD := aM (hi); (repeat first|clear hb|clear hk|clear hi)) | ((with_reducible refine gD (N := 22) rfl ?_); refine Kd.R_lit (Kd.int .i64) _ 3 ?hg (N := 22) ?hd (xs := ([0, 1, 3, 4] : List Int)) (inner := [.int .i64 0, .int .i64 1, .int .i64 3, .int .i64 4]) (ok := fun _ => True) (okp := fun _ => True) ?hr ?hp (fun _ hk => hk) trivial (Below.refl _ _) (Nat.le_refl _) (by simp) ?_; (case hd => rfl); (case hg => rfl); (case hr => first | (go_simp; done) | (go_simp; rfl) | (obtain ⟨A_, c_, e_⟩ := Kd.R_slice bX.out; subst e_; (first | (go_simp; done) | (go_simp; rfl))) | (obtain ⟨A_, c_, e_⟩ := Kd.S_slice bX.out; subst e_; (first | (go_simp; done) | (go_simp; rfl)))); (case hp => exact (Reps.one (show Kd.M (Kd.int .i64) _ _ _ 0 [.int .i64 0] from rfl) (Reps.one (show Kd.M (Kd.int .i64) _ _ _ 1 [.int .i64 1] from rfl) (Reps.one (show Kd.M (Kd.int .i64) _ _ _ 3 [.int .i64 3] from rfl) (Reps.one (show Kd.M (Kd.int .i64) _ _ _ 4 [.int .i64 4] from rfl) (Reps.none _ _)))))); intro iI iU ho38 hb hg_ hnew_; clear hg_ hnew_; (first | rw [← dA.out] at ho38 | (simp only [Int.reduceToNat] at ho38; rw [← dA.out] at ho38)); have bX := aM (Kd.R_lower ho38 (keep_size (km HK.out))); replace aD := aM (IsS175.below (IsS175.mv aD.out) hb); replace aA := rB aA hb; replace aG := rB aG hb; replace HK := rU HK hb; replace HB := aM (bS (IsS175.bl HB.out) hb); clear hb ho38; obtain ⟨eG, eH, eI⟩ := Kd.R_slice bX.out; subst eI) | ((with_reducible refine gC (f := 101) rfl ?_); refine gL (some 23) Try.func101 #[.pointer (some ⟨g, 0, none⟩), .slice eG cX.length eH] ?_; (with_reducible refine (spec_l1PickInt.calls g aE bV bW _ _ cX dH eE eF w0 _ ?side1 ?side2 ?side3 ?side4 ?side5 eR.out).mono ?_); (case side1 => exact IsS175.mv aD.out); (case side2 => exact IsS175.bl HB.out); (case side3 => exact cM ((Kd.R_reads' bX.out).2.2)); (case side4 => exact (Kd.R_reads' bX.out).2.1); (case side5 => exact far_slice (IsS175.own_ne aD.out bX.out (by decide))); rintro e iV ⟨rfl, hi, hb, hk⟩; refine ⟨_, rfl, ?_⟩; replace aA := rP hk aA aH; replace aG := rP hk aG aI; replace bX := aM (Kd.R_mono (Kd.R_keep (IsS175.apart (show IsS175 w0 _ g aE bV bW from IsS175.mv aD.out) (kr bX.out) (by decide)) hk (fun _ h => h.2)) (fun _ h => h.1)); replace HK := aM (KeepBut.trans (km HK.out) hk (.inl rfl)); replace HB := aM (hb); replace aD := aM (hi); (repeat first|clear hb|clear hk|clear hi); have fO := cA11 aG.out; have fP := aH.out; have fQ := bA.out; have fS := cA11 aA.out))
  refine bodyPost_ret (results_cell_row rfl _ _ bT 79 #[bG, bH, bK, bL, bM, bN, bI, dH, bO, bQ, bJ] (0, 0) _ rfl (bm aA.out) Try.underlying79 rfl (by kernel_rfl)) rfl ?_
  exact ⟨xW, IsS175.mv aD.out, IsS175.bl HB.out, km HK.out⟩
 rw [if_neg cO] at H
 have dP : (aJ == 2) = false := beq_eq_false_iff_ne.mpr cO
 have dQ : (aJ != 2) = true := bne_iff_ne.mpr cO
 by_cases cP : aJ = 3
 case pos =>
  rw [if_pos cP] at H
  have dR : (aJ == 3) = true := beq_iff_eq.mpr cP
  have dS : (aJ != 3) = false := bne_eq_false_iff_eq.mpr cP
  clear cP
  obtain ⟨⟨dJ, eJ, eK⟩, dK, H⟩ := hB H
  try dsimp only at H
  have eS := aM dK
  clear dK
  simp only [Option.some.injEq, Prod.mk.injEq] at H
  obtain ⟨rfl, rfl, rfl, rfl, rfl, rfl, rfl, rfl, rfl, rfl, rfl, rfl, rfl⟩ := H
  go_enter Try.func174, Try.ntmps174
  go_wp2_with (first | ((with_reducible refine gD (N := 2) rfl ?_); refine bE (N := 2) (cs := #[.bool false, .bool false, .int .i64 0, .int .i64 0, .int .i64 0, .int .i64 0, .int .i64 0, .int .i64 0, .int .i64 0, .int .i64 0, .bool false]) (t := 79) ?_; intro bT hg iW hbox hb; have aA := aM (hbox); have cD := gE hg (keep_size (km HK.out)); have cE := gE2 HW0.out hg (keep_size (km HK.out)); have bA := nL hg (IsS175.lt (show IsS175 w0 _ g aE aW aX from IsS175.mv aD.out)); have aH := nG hg (IsS175.lt (show IsS175 w0 _ g aE aW aX from IsS175.mv aD.out)); replace aD := aM (IsS175.below (IsS175.mv aD.out) hb); replace HK := rU HK hb; replace HB := aM (bS (IsS175.bl HB.out) hb); clear hb hbox hg) | ((with_reducible refine gC (f := 119) rfl ?_); refine gL (some 5) Try.func119 #[.pointer (some ⟨g, 0, none⟩)] ?_; (with_reducible refine (spec_l7DrawRight.calls k g aE aW aX bG bH bK bL bM bN bI bP bO bQ bJ aQ aT w0 _ ?side1 ?side2 A2.out).mono ?_); (case side1 => exact IsS175.mv aD.out); (case side2 => exact IsS175.bl HB.out); rintro e iX ⟨rfl, hi, hb, hk⟩; refine ⟨_, rfl, ?_⟩; replace aA := rP hk aA aH; replace HK := aM (KeepBut.trans (km HK.out) hk (.inl rfl)); replace HB := aM (hb); replace aD := aM (hi); (repeat first|clear hb|clear hk|clear hi)) | ((with_reducible refine gD (N := 3) rfl ?_); refine bE (N := 3) (cs := #[.bool false, .bool false, .int .i64 0, .int .i64 0, .int .i64 0, .int .i64 0, .int .i64 0, .int .i64 0, .int .i64 0, .int .i64 0, .bool false]) (t := 79) ?_; intro bU hg iY hbox hb; have aG := aM (hbox); have cG := gE hg (keep_size (km HK.out)); have cH := gE2 HW0.out hg (keep_size (km HK.out)); have aK := nM hg aA; have aN := nH hg aA; have bD := nL hg (IsS175.lt (show IsS175 w0 _ g aE aQ aT from IsS175.mv aD.out)); have aI := nG hg (IsS175.lt (show IsS175 w0 _ g aE aQ aT from IsS175.mv aD.out)); replace aD := aM (IsS175.below (IsS175.mv aD.out) hb); replace aA := rB aA hb; replace HK := rU HK hb; replace HB := aM (bS (IsS175.bl HB.out) hb); clear hb hbox hg; have fT := aN.out; have fU := aK.out; have fV := aI.out; have fW := bD.out; have fX := cA11 aG.out) | ((with_reducible refine gC (f := 99) rfl ?_); refine gL (some 7) Try.func99 #[.pointer (some ⟨g, 0, none⟩), .int .i64 12] ?_; (with_reducible refine (spec_l1Below.calls g aE aQ aT 12 aJ bV bW w0 _ ?side1 ?side2 A3.out).mono ?_); (case side1 => exact IsS175.mv aD.out); (case side2 => exact IsS175.bl HB.out); rintro e iZ ⟨rfl, hi, hb, hk⟩; refine ⟨_, rfl, ?_⟩; replace aA := aM (KeepBut.blk hk (fm aA.out) aH.out (by simp)); replace aG := aM (KeepBut.blk hk (g' := bU) (o := .cells #[bG, bH, bK, bL, bM, bN, bI, bP, bO, bQ, bJ] 79 (0, 0)) (bm aG.out) aI.out (by simp)); replace HK := aM (KeepBut.trans (km HK.out) hk (.inl rfl)); replace HB := aM (hb); replace aD := aM (hi); (repeat first|clear hb|clear hk|clear hi)) | ((with_reducible refine gC (f := 99) rfl ?_); refine gL (some 28) Try.func99 #[.pointer (some ⟨g, 0, none⟩), .int .i64 6] ?_; (with_reducible refine (spec_l1Below.calls g aE bV bW 6 dJ eJ eK w0 _ ?side1 ?side2 eS.out).mono ?_); (case side1 => exact IsS175.mv aD.out); (case side2 => exact IsS175.bl HB.out); rintro e jA ⟨rfl, hi, hb, hk⟩; refine ⟨_, rfl, ?_⟩; replace aA := rP hk aA aH; replace aG := rP hk aG aI; replace HK := aM (KeepBut.trans (km HK.out) hk (.inl rfl)); replace HB := aM (hb); replace aD := aM (hi); (repeat first|clear hb|clear hk|clear hi); have fY := cA11 aG.out; have gA := aH.out; have gB := bA.out; have gG := cA11 aA.out))
  refine bodyPost_ret (results_cell_row rfl _ _ bT 79 #[bG, bH, bK, bL, bM, bN, bI, bP, .int .i64 (wrap64 (dJ - 1)), bQ, bJ] (0, 0) _ rfl (bm aA.out) Try.underlying79 rfl (by kernel_rfl)) rfl ?_
  exact ⟨xW, IsS175.mv aD.out, IsS175.bl HB.out, km HK.out⟩
 rw [if_neg cP] at H
 have dR : (aJ == 3) = false := beq_eq_false_iff_ne.mpr cP
 have dS : (aJ != 3) = true := bne_iff_ne.mpr cP
 by_cases cQ : aJ = 4
 case pos =>
  rw [if_pos cQ] at H
  have dU : (aJ == 4) = true := beq_iff_eq.mpr cQ
  have dV : (aJ != 4) = false := bne_eq_false_iff_eq.mpr cQ
  clear cQ
  simp only [Option.some.injEq, Prod.mk.injEq] at H
  obtain ⟨rfl, rfl, rfl, rfl, rfl, rfl, rfl, rfl, rfl, rfl, rfl, rfl, rfl⟩ := H
  go_enter Try.func174, Try.ntmps174
  go_wp2_with (first | ((with_reducible refine gD (N := 2) rfl ?_); refine bE (N := 2) (cs := #[.bool false, .bool false, .int .i64 0, .int .i64 0, .int .i64 0, .int .i64 0, .int .i64 0, .int .i64 0, .int .i64 0, .int .i64 0, .bool false]) (t := 79) ?_; intro bT hg jB hbox hb; have aA := aM (hbox); have cD := gE hg (keep_size (km HK.out)); have cE := gE2 HW0.out hg (keep_size (km HK.out)); have bA := nL hg (IsS175.lt (show IsS175 w0 _ g aE aW aX from IsS175.mv aD.out)); have aH := nG hg (IsS175.lt (show IsS175 w0 _ g aE aW aX from IsS175.mv aD.out)); replace aD := aM (IsS175.below (IsS175.mv aD.out) hb); replace HK := rU HK hb; replace HB := aM (bS (IsS175.bl HB.out) hb); clear hb hbox hg) | ((with_reducible refine gC (f := 119) rfl ?_); refine gL (some 5) Try.func119 #[.pointer (some ⟨g, 0, none⟩)] ?_; (with_reducible refine (spec_l7DrawRight.calls k g aE aW aX bG bH bK bL bM bN bI bP bO bQ bJ aQ aT w0 _ ?side1 ?side2 A2.out).mono ?_); (case side1 => exact IsS175.mv aD.out); (case side2 => exact IsS175.bl HB.out); rintro e jC ⟨rfl, hi, hb, hk⟩; refine ⟨_, rfl, ?_⟩; replace aA := rP hk aA aH; replace HK := aM (KeepBut.trans (km HK.out) hk (.inl rfl)); replace HB := aM (hb); replace aD := aM (hi); (repeat first|clear hb|clear hk|clear hi)) | ((with_reducible refine gD (N := 3) rfl ?_); refine bE (N := 3) (cs := #[.bool false, .bool false, .int .i64 0, .int .i64 0, .int .i64 0, .int .i64 0, .int .i64 0, .int .i64 0, .int .i64 0, .int .i64 0, .bool false]) (t := 79) ?_; intro bU hg jD hbox hb; have aG := aM (hbox); have cG := gE hg (keep_size (km HK.out)); have cH := gE2 HW0.out hg (keep_size (km HK.out)); have aK := nM hg aA; have aN := nH hg aA; have bD := nL hg (IsS175.lt (show IsS175 w0 _ g aE aQ aT from IsS175.mv aD.out)); have aI := nG hg (IsS175.lt (show IsS175 w0 _ g aE aQ aT from IsS175.mv aD.out)); replace aD := aM (IsS175.below (IsS175.mv aD.out) hb); replace aA := rB aA hb; replace HK := rU HK hb; replace HB := aM (bS (IsS175.bl HB.out) hb); clear hb hbox hg; have gH := aN.out; have gJ := aK.out; have gK := aI.out; have gM := bD.out; have gN := cA11 aG.out) | ((with_reducible refine gC (f := 99) rfl ?_); refine gL (some 7) Try.func99 #[.pointer (some ⟨g, 0, none⟩), .int .i64 12] ?_; (with_reducible refine (spec_l1Below.calls g aE aQ aT 12 aJ bV bW w0 _ ?side1 ?side2 A3.out).mono ?_); (case side1 => exact IsS175.mv aD.out); (case side2 => exact IsS175.bl HB.out); rintro e jE ⟨rfl, hi, hb, hk⟩; refine ⟨_, rfl, ?_⟩; replace aA := aM (KeepBut.blk hk (fm aA.out) aH.out (by simp)); replace aG := aM (KeepBut.blk hk (g' := bU) (o := .cells #[bG, bH, bK, bL, bM, bN, bI, bP, bO, bQ, bJ] 79 (0, 0)) (bm aG.out) aI.out (by simp)); replace HK := aM (KeepBut.trans (km HK.out) hk (.inl rfl)); replace HB := aM (hb); replace aD := aM (hi); (repeat first|clear hb|clear hk|clear hi); have gO := cA11 aG.out; have gP := aH.out; have gQ := bA.out; have gR := cA11 aA.out))
  refine bodyPost_ret (results_cell_row rfl _ _ bT 79 #[bG, bH, bK, bL, bM, bN, bI, bP, bO, bQ, .bool (!bJ)] (0, 0) _ rfl (bm aA.out) Try.underlying79 rfl (by kernel_rfl)) rfl ?_
  exact ⟨xW, IsS175.mv aD.out, IsS175.bl HB.out, km HK.out⟩
 rw [if_neg cQ] at H
 have dU : (aJ == 4) = false := beq_eq_false_iff_ne.mpr cQ
 have dV : (aJ != 4) = true := bne_iff_ne.mpr cQ
 by_cases cR : aJ = 5
 case neg =>
  rw [if_neg cR] at H
  have dW : (aJ == 5) = false := beq_eq_false_iff_ne.mpr cR
  have dX : (aJ != 5) = true := bne_iff_ne.mpr cR
  simp only [Option.some.injEq, Prod.mk.injEq] at H
  obtain ⟨rfl, rfl, rfl, rfl, rfl, rfl, rfl, rfl, rfl, rfl, rfl, rfl, rfl⟩ := H
  go_enter Try.func174, Try.ntmps174
  go_wp2_with (first | ((with_reducible refine gD (N := 2) rfl ?_); refine bE (N := 2) (cs := #[.bool false, .bool false, .int .i64 0, .int .i64 0, .int .i64 0, .int .i64 0, .int .i64 0, .int .i64 0, .int .i64 0, .int .i64 0, .bool false]) (t := 79) ?_; intro bT hg jF hbox hb; have aA := aM (hbox); have cD := gE hg (keep_size (km HK.out)); have cE := gE2 HW0.out hg (keep_size (km HK.out)); have bA := nL hg (IsS175.lt (show IsS175 w0 _ g aE aW aX from IsS175.mv aD.out)); have aH := nG hg (IsS175.lt (show IsS175 w0 _ g aE aW aX from IsS175.mv aD.out)); replace aD := aM (IsS175.below (IsS175.mv aD.out) hb); replace HK := rU HK hb; replace HB := aM (bS (IsS175.bl HB.out) hb); clear hb hbox hg) | ((with_reducible refine gC (f := 119) rfl ?_); refine gL (some 5) Try.func119 #[.pointer (some ⟨g, 0, none⟩)] ?_; (with_reducible refine (spec_l7DrawRight.calls k g aE aW aX bG bH bK bL bM bN bI bP bO bQ bJ aQ aT w0 _ ?side1 ?side2 A2.out).mono ?_); (case side1 => exact IsS175.mv aD.out); (case side2 => exact IsS175.bl HB.out); rintro e jG ⟨rfl, hi, hb, hk⟩; refine ⟨_, rfl, ?_⟩; replace aA := rP hk aA aH; replace HK := aM (KeepBut.trans (km HK.out) hk (.inl rfl)); replace HB := aM (hb); replace aD := aM (hi); (repeat first|clear hb|clear hk|clear hi)) | ((with_reducible refine gD (N := 3) rfl ?_); refine bE (N := 3) (cs := #[.bool false, .bool false, .int .i64 0, .int .i64 0, .int .i64 0, .int .i64 0, .int .i64 0, .int .i64 0, .int .i64 0, .int .i64 0, .bool false]) (t := 79) ?_; intro bU hg jH hbox hb; have aG := aM (hbox); have cG := gE hg (keep_size (km HK.out)); have cH := gE2 HW0.out hg (keep_size (km HK.out)); have aK := nM hg aA; have aN := nH hg aA; have bD := nL hg (IsS175.lt (show IsS175 w0 _ g aE aQ aT from IsS175.mv aD.out)); have aI := nG hg (IsS175.lt (show IsS175 w0 _ g aE aQ aT from IsS175.mv aD.out)); replace aD := aM (IsS175.below (IsS175.mv aD.out) hb); replace aA := rB aA hb; replace HK := rU HK hb; replace HB := aM (bS (IsS175.bl HB.out) hb); clear hb hbox hg; have gS := aN.out; have gT := aK.out; have gU := aI.out; have gV := bD.out; have gW := cA11 aG.out) | ((with_reducible refine gC (f := 99) rfl ?_); refine gL (some 7) Try.func99 #[.pointer (some ⟨g, 0, none⟩), .int .i64 12] ?_; (with_reducible refine (spec_l1Below.calls g aE aQ aT 12 aJ bV bW w0 _ ?side1 ?side2 A3.out).mono ?_); (case side1 => exact IsS175.mv aD.out); (case side2 => exact IsS175.bl HB.out); rintro e jI ⟨rfl, hi, hb, hk⟩; refine ⟨_, rfl, ?_⟩; replace aA := aM (KeepBut.blk hk (fm aA.out) aH.out (by simp)); replace aG := aM (KeepBut.blk hk (g' := bU) (o := .cells #[bG, bH, bK, bL, bM, bN, bI, bP, bO, bQ, bJ] 79 (0, 0)) (bm aG.out) aI.out (by simp)); replace HK := aM (KeepBut.trans (km HK.out) hk (.inl rfl)); replace HB := aM (hb); replace aD := aM (hi); (repeat first|clear hb|clear hk|clear hi); have gX := cA11 aG.out; have gY := aH.out; have gZ := bA.out; have hD := cA11 aA.out))
  refine bodyPost_ret (results_cell_row rfl _ _ bT 79 #[bG, bH, bK, bL, bM, bN, bI, bP, bO, bQ, bJ] (0, 0) _ rfl (bm aA.out) Try.underlying79 rfl (by kernel_rfl)) rfl ?_
  exact ⟨xW, IsS175.mv aD.out, IsS175.bl HB.out, km HK.out⟩
 rw [if_pos cR] at H
 have dW : (aJ == 5) = true := beq_iff_eq.mpr cR
 have dX : (aJ != 5) = false := bne_eq_false_iff_eq.mpr cR
 clear cR
 obtain ⟨cY, cL⟩ : ∃ y_ : List Int, y_ = (([(-1), 4, 5] : List Int)) := ⟨_, rfl⟩
 replace H : ((spec_l1PickInt.f aE bV bW cY).bind fun cA => (some (bG, bH, bK, bL, bM, bN, bI, bP, bO, cA.1, bJ, cA.2.1, cA.2.2))) = some (r1, r2, r3, r4, r5, r6, r7, r8, r9, cT, cU, cV, cW) := by first | (rw [cL]; with_reducible exact H) | (have H2_ := (Option.bind_some _ _).symm.trans H; rw [cL]; with_reducible exact H2_) | (have H2_ := (Option.bind_some _ _).symm.trans H; with_reducible exact H2_) | with_reducible exact H | (rw [cL]; exact H) | exact H
 have dB := aM cL
 clear cL
 obtain ⟨⟨dL, eL, eM⟩, dM, H⟩ := hB H
 try dsimp only at H
 have eT := aM dM
 clear dM
 simp only [Option.some.injEq, Prod.mk.injEq] at H
 obtain ⟨rfl, rfl, rfl, rfl, rfl, rfl, rfl, rfl, rfl, rfl, rfl, rfl, rfl⟩ := H
 go_enter Try.func174, Try.ntmps174
 go_wp2_with (first | ((with_reducible refine gD (N := 2) rfl ?_); refine bE (N := 2) (cs := #[.bool false, .bool false, .int .i64 0, .int .i64 0, .int .i64 0, .int .i64 0, .int .i64 0, .int .i64 0, .int .i64 0, .int .i64 0, .bool false]) (t := 79) ?_; intro bT hg jJ hbox hb; have aA := aM (hbox); have cD := gE hg (keep_size (km HK.out)); have cE := gE2 HW0.out hg (keep_size (km HK.out)); have bA := nL hg (IsS175.lt (show IsS175 w0 _ g aE aW aX from IsS175.mv aD.out)); have aH := nG hg (IsS175.lt (show IsS175 w0 _ g aE aW aX from IsS175.mv aD.out)); replace aD := aM (IsS175.below (IsS175.mv aD.out) hb); replace HK := rU HK hb; replace HB := aM (bS (IsS175.bl HB.out) hb); clear hb hbox hg) | ((with_reducible refine gC (f := 119) rfl ?_); refine gL (some 5) Try.func119 #[.pointer (some ⟨g, 0, none⟩)] ?_; (with_reducible refine (spec_l7DrawRight.calls k g aE aW aX bG bH bK bL bM bN bI bP bO bQ bJ aQ aT w0 _ ?side1 ?side2 A2.out).mono ?_); (case side1 => exact IsS175.mv aD.out); (case side2 => exact IsS175.bl HB.out); rintro e jK ⟨rfl, hi, hb, hk⟩; refine ⟨_, rfl, ?_⟩; replace aA := rP hk aA aH; replace HK := aM (KeepBut.trans (km HK.out) hk (.inl rfl)); replace HB := aM (hb); replace aD := aM (hi); (repeat first|clear hb|clear hk|clear hi)) | ((with_reducible refine gD (N := 3) rfl ?_); refine bE (N := 3) (cs := #[.bool false, .bool false, .int .i64 0, .int .i64 0, .int .i64 0, .int .i64 0, .int .i64 0, .int .i64 0, .int .i64 0, .int .i64 0, .bool false]) (t := 79) ?_; intro bU hg jL hbox hb; have aG := aM (hbox); have cG := gE hg (keep_size (km HK.out)); have cH := gE2 HW0.out hg (keep_size (km HK.out)); have aK := nM hg aA; have aN := nH hg aA; have bD := nL hg (IsS175.lt (show IsS175 w0 _ g aE aQ aT from IsS175.mv aD.out)); have aI := nG hg (IsS175.lt (show IsS175 w0 _ g aE aQ aT from IsS175.mv aD.out)); replace aD := aM (IsS175.below (IsS175.mv aD.out) hb); replace aA := rB aA hb; replace HK := rU HK hb; replace HB := aM (bS (IsS175.bl HB.out) hb); clear hb hbox hg; have hH := aN.out; have hJ := aK.out; have hO := aI.out; have hU := bD.out; have hX := cA11 aG.out) | ((with_reducible refine gC (f := 99) rfl ?_); refine gL (some 7) Try.func99 #[.pointer (some ⟨g, 0, none⟩), .int .i64 12] ?_; (with_reducible refine (spec_l1Below.calls g aE aQ aT 12 aJ bV bW w0 _ ?side1 ?side2 A3.out).mono ?_); (case side1 => exact IsS175.mv aD.out); (case side2 => exact IsS175.bl HB.out); rintro e jM ⟨rfl, hi, hb, hk⟩; refine ⟨_, rfl, ?_⟩; replace aA := aM (KeepBut.blk hk (fm aA.out) aH.out (by simp)); replace aG := aM (KeepBut.blk hk (g' := bU) (o := .cells #[bG, bH, bK, bL, bM, bN, bI, bP, bO, bQ, bJ] 79 (0, 0)) (bm aG.out) aI.out (by simp)); replace HK := aM (KeepBut.trans (km HK.out) hk (.inl rfl)); replace HB := aM (hb); replace aD := aM (hi); (repeat first|clear hb|clear hk|clear hi)) | ((with_reducible refine gD (N := 40) rfl ?_); refine Kd.R_lit (Kd.int .i64) _ 3 ?hg (N := 40) ?hd (xs := ([(-1), 4, 5] : List Int)) (inner := [.int .i64 (-1), .int .i64 4, .int .i64 5]) (ok := fun _ => True) (okp := fun _ => True) ?hr ?hp (fun _ hk => hk) trivial (Below.refl _ _) (Nat.le_refl _) (by simp) ?_; (case hd => rfl); (case hg => rfl); (case hr => first | (go_simp; done) | (go_simp; rfl) | (obtain ⟨A_, c_, e_⟩ := Kd.R_slice bY.out; subst e_; (first | (go_simp; done) | (go_simp; rfl))) | (obtain ⟨A_, c_, e_⟩ := Kd.S_slice bY.out; subst e_; (first | (go_simp; done) | (go_simp; rfl)))); (case hp => exact (Reps.one (show Kd.M (Kd.int .i64) _ _ _ (-1) [.int .i64 (-1)] from rfl) (Reps.one (show Kd.M (Kd.int .i64) _ _ _ 4 [.int .i64 4] from rfl) (Reps.one (show Kd.M (Kd.int .i64) _ _ _ 5 [.int .i64 5] from rfl) (Reps.none _ _))))); intro iJ jN ho78 hb hg_ hnew_; clear hg_ hnew_; (first | rw [← dB.out] at ho78 | (simp only [Int.reduceToNat] at ho78; rw [← dB.out] at ho78)); have bY := aM (Kd.R_lower ho78 (keep_size (km HK.out))); replace aD := aM (IsS175.below (IsS175.mv aD.out) hb); replace aA := rB aA hb; replace aG := rB aG hb; replace HK := rU HK hb; replace HB := aM (bS (IsS175.bl HB.out) hb); clear hb ho78; obtain ⟨eN, eO, eP⟩ := Kd.R_slice bY.out; subst eP) | ((with_reducible refine gC (f := 101) rfl ?_); refine gL (some 41) Try.func101 #[.pointer (some ⟨g, 0, none⟩), .slice eN cY.length eO] ?_; (with_reducible refine (spec_l1PickInt.calls g aE bV bW _ _ cY dL eL eM w0 _ ?side1 ?side2 ?side3 ?side4 ?side5 eT.out).mono ?_); (case side1 => exact IsS175.mv aD.out); (case side2 => exact IsS175.bl HB.out); (case side3 => exact cM ((Kd.R_reads' bY.out).2.2)); (case side4 => exact (Kd.R_reads' bY.out).2.1); (case side5 => exact far_slice (IsS175.own_ne aD.out bY.out (by decide))); rintro e jO ⟨rfl, hi, hb, hk⟩; refine ⟨_, rfl, ?_⟩; replace aA := rP hk aA aH; replace aG := rP hk aG aI; replace bY := aM (Kd.R_mono (Kd.R_keep (IsS175.apart (show IsS175 w0 _ g aE bV bW from IsS175.mv aD.out) (kr bY.out) (by decide)) hk (fun _ h => h.2)) (fun _ h => h.1)); replace HK := aM (KeepBut.trans (km HK.out) hk (.inl rfl)); replace HB := aM (hb); replace aD := aM (hi); (repeat first|clear hb|clear hk|clear hi); have hY := cA11 aG.out; have hZ := aH.out; have iA := bA.out; have iB := cA11 aA.out))
 refine bodyPost_ret (results_cell_row rfl _ _ bT 79 #[bG, bH, bK, bL, bM, bN, bI, bP, bO, dL, bJ] (0, 0) _ rfl (bm aA.out) Try.underlying79 rfl (by kernel_rfl)) rfl ?_
 exact ⟨xW, IsS175.mv aD.out, IsS175.bl HB.out, km HK.out⟩

def spec_l8Draw.f (k : Nat) (aE : List Int) (aI aJ : Int) : Option (Int × (List (S79)) × Int × Int) := (spec_l8DrawRight.f k aE aI aJ).bind fun aC => ((spec_l1Below.f aE aC.2.2.1 aC.2.2.2 8).bind fun aD => (if aD.1 = 0 then ((spec_l1PickInt.f aE aD.2.1 aD.2.2 (([0, 9, 10] : List Int))).bind fun aG => (some (aG.1, aC.2.1, aG.2.1, aG.2.2))) else (if aD.1 = 1 then ((spec_l7Draw.f k aE aD.2.1 aD.2.2).bind fun aA => (if 0 < (aC.2.1.length : Int) then (some (aC.1, (aC.2.1.set (0 : Int).toNat (⟨aA.1, aA.2.1, (⟨aA.2.2.1, aA.2.2.2.1, aA.2.2.2.2.1, aA.2.2.2.2.2.1⟩ : S73), aA.2.2.2.2.2.2.1, aA.2.2.2.2.2.2.2.1, aA.2.2.2.2.2.2.2.2.1, aA.2.2.2.2.2.2.2.2.2.1, aA.2.2.2.2.2.2.2.2.2.2.1⟩ : S79)), aA.2.2.2.2.2.2.2.2.2.2.2.1, aA.2.2.2.2.2.2.2.2.2.2.2.2)) else (none))) else (if aD.1 = 2 then ((some (([(⟨false, false, (⟨0, 0, 0, 0⟩ : S73), 0, 0, 0, 0, false⟩ : S79), (⟨false, false, (⟨0, 0, 0, 0⟩ : S73), 0, 0, 0, 0, false⟩ : S79)] : List (S79)) : List (S79))).bind fun aH => (if aC.2.1.length + aH.length < 1759218604441 then (some (aC.1, (aC.2.1 ++ aH), aD.2.1, aD.2.2)) else (none))) else (some (aC.1, aC.2.1, aD.2.1, aD.2.2))))))
theorem spec_l8Draw.mono : ∀ a0 a1 a2 k, LeO (spec_l8Draw.f k a0 a1 a2) (spec_l8Draw.f (k + 1) a0 a1 a2) := by
 intro a0 a1 a2 k
 unfold spec_l8Draw.f
 repeat' first|(with_reducible first|apply spec_l7Draw.mono|apply spec_l8DrawRight.mono|exact lR _|exact lN _|refine lI ?_ ?_|refine lB ?_ fun _ => ?_)|exact lN _|refine lI ?_ ?_|refine lB ?_ fun _ => ?_
set_option maxHeartbeats 60000000 in
set_option maxRecDepth 100000 in
theorem spec_l8Draw.calls (k g : Nat) (aG : List Int) (bI bJ r1 : Int) (r2 : List (S79)) (r3 r4 : Int) (w0 w : World) (hI : IsS175 w0 w g aG bI bJ) (hB : Below w0.heap.size w0 w) (h : spec_l8Draw.f k aG bI bJ = some (r1, r2, r3, r4)) :
  Calls Try.prog 117 #[.pointer (some ⟨g, 0, none⟩)] w fun e w' => ∃ fM : Value, e = .returned (.agg #[r1, fM]) ∧ Kd.R k79 79 w' w.heap.size (fun _ => True) fM r2 ∧ IsS175 w0 w' g aG r3 r4 ∧ Below w0.heap.size w0 w' ∧ KeepBut w w' g none := by
 have iT := Try.underlying28
 have iU := Try.underlying79
 have aD := aM hI
 have HK := aM (KeepBut.refl w g none)
 have HL := aM hB.size
 clear hI
 have HW0 := aM hB.size
 have HB := aM hB
 clear hB
 have H : ((spec_l8DrawRight.f k aG bI bJ).bind fun bM => ((spec_l1Below.f aG bM.2.2.1 bM.2.2.2 8).bind fun bN => (if bN.1 = 0 then ((spec_l1PickInt.f aG bN.2.1 bN.2.2 (([0, 9, 10] : List Int))).bind fun bT => (some (bT.1, bM.2.1, bT.2.1, bT.2.2))) else (if bN.1 = 1 then ((spec_l7Draw.f k aG bN.2.1 bN.2.2).bind fun bG => (if 0 < (bM.2.1.length : Int) then (some (bM.1, (bM.2.1.set (0 : Int).toNat (⟨bG.1, bG.2.1, (⟨bG.2.2.1, bG.2.2.2.1, bG.2.2.2.2.1, bG.2.2.2.2.2.1⟩ : S73), bG.2.2.2.2.2.2.1, bG.2.2.2.2.2.2.2.1, bG.2.2.2.2.2.2.2.2.1, bG.2.2.2.2.2.2.2.2.2.1, bG.2.2.2.2.2.2.2.2.2.2.1⟩ : S79)), bG.2.2.2.2.2.2.2.2.2.2.2.1, bG.2.2.2.2.2.2.2.2.2.2.2.2)) else (none))) else (if bN.1 = 2 then ((some (([(⟨false, false, (⟨0, 0, 0, 0⟩ : S73), 0, 0, 0, 0, false⟩ : S79), (⟨false, false, (⟨0, 0, 0, 0⟩ : S73), 0, 0, 0, 0, false⟩ : S79)] : List (S79)) : List (S79))).bind fun bU => (if bM.2.1.length + bU.length < 1759218604441 then (some (bM.1, (bM.2.1 ++ bU), bN.2.1, bN.2.2)) else (none))) else (some (bM.1, bM.2.1, bN.2.1, bN.2.2))))))) = some (r1, r2, r3, r4) := h
 clear h
 obtain ⟨⟨aN, aH, aV, aW⟩, fN, H⟩ := hB H
 try dsimp only at H
 have A2 := aM fN
 clear fN
 obtain ⟨⟨aX, bP, bQ⟩, fO, H⟩ := hB H
 try dsimp only at H
 have A3 := aM fO
 clear fO
 by_cases c4 : aX = 0
 case pos =>
  rw [if_pos c4] at H
  have fQ : (aX == 0) = true := beq_iff_eq.mpr c4
  have fS : (aX != 0) = false := bne_eq_false_iff_eq.mpr c4
  clear c4
  obtain ⟨eA, bW⟩ : ∃ y_ : List Int, y_ = (([0, 9, 10] : List Int)) := ⟨_, rfl⟩
  replace H : ((spec_l1PickInt.f aG bP bQ eA).bind fun bT => (some (bT.1, aH, bT.2.1, bT.2.2))) = some (r1, r2, r3, r4) := by first | (rw [bW]; with_reducible exact H) | (have H2_ := (Option.bind_some _ _).symm.trans H; rw [bW]; with_reducible exact H2_) | (have H2_ := (Option.bind_some _ _).symm.trans H; with_reducible exact H2_) | with_reducible exact H | (rw [bW]; exact H) | exact H
  have eK := aM bW
  clear bW
  obtain ⟨⟨cN, fT, fU⟩, fP, H⟩ := hB H
  try dsimp only at H
  have A5 := aM fP
  clear fP
  simp only [Option.some.injEq, Prod.mk.injEq] at H
  obtain ⟨rfl, rfl, rfl, rfl⟩ := H
  go_enter Try.func117, Try.ntmps117
  go_wp2_with (first | ((with_reducible refine gD (N := 2) rfl ?_); refine box_event ?hg (N := 2) ?hd (cs := #[.int .i64 0, .slice none 0 0]) (t := 28) ?hr ?_; (case hd => rfl); (case hg => rfl); (case hr => first | (go_simp; done) | (go_simp; rfl) | (obtain ⟨A_, c_, e_⟩ := Kd.R_slice aA.out; subst e_; (first | (go_simp; done) | (go_simp; rfl))) | (obtain ⟨A_, c_, e_⟩ := Kd.S_slice aA.out; subst e_; (first | (go_simp; done) | (go_simp; rfl))) | (obtain ⟨A_, c_, e_⟩ := Kd.R_slice bH.out; subst e_; (first | (go_simp; done) | (go_simp; rfl))) | (obtain ⟨A_, c_, e_⟩ := Kd.S_slice bH.out; subst e_; (first | (go_simp; done) | (go_simp; rfl)))); intro aT hg w6 hbox hb; have aC := aM (hbox); have bZ := gE hg (keep_size (km HK.out)); have cA := gE2 HW0.out hg (keep_size (km HK.out)); have bK := nL hg (IsS175.lt (show IsS175 w0 _ g aG bI bJ from IsS175.mv aD.out)); have aI := nG hg (IsS175.lt (show IsS175 w0 _ g aG bI bJ from IsS175.mv aD.out)); replace aD := aM (IsS175.below (IsS175.mv aD.out) hb); replace HK := rU HK hb; replace HB := aM (bS (IsS175.bl HB.out) hb); clear hb hbox hg) | ((with_reducible refine gC (f := 173) rfl ?_); refine gL (some 5) Try.func173 #[.pointer (some ⟨g, 0, none⟩)] ?_; (with_reducible refine (spec_l8DrawRight.calls k g aG bI bJ aN aH aV aW w0 _ ?side1 ?side2 A2.out).mono ?_); (case side1 => exact IsS175.mv aD.out); (case side2 => exact IsS175.bl HB.out); rintro e w7 ⟨eB, rfl, ho0, hi, hb, hk⟩; refine ⟨_, rfl, ?_⟩; have aA := aM (Kd.R_lower ho0 (keep_size (km HK.out))); replace aC := rP hk aC aI; replace HK := aM (KeepBut.trans (km HK.out) hk (.inl rfl)); replace HB := aM (hb); replace aD := aM (hi); (repeat first|clear hb|clear hk|clear hi|clear ho0)) | ((with_reducible refine gD (N := 3) rfl ?_); refine box_event ?hg (N := 3) ?hd (cs := #[.int .i64 0, .slice none 0 0]) (t := 28) ?hr ?_; (case hd => rfl); (case hg => rfl); (case hr => first | (go_simp; done) | (go_simp; rfl) | (obtain ⟨A_, c_, e_⟩ := Kd.R_slice aA.out; subst e_; (first | (go_simp; done) | (go_simp; rfl))) | (obtain ⟨A_, c_, e_⟩ := Kd.S_slice aA.out; subst e_; (first | (go_simp; done) | (go_simp; rfl))) | (obtain ⟨A_, c_, e_⟩ := Kd.R_slice bH.out; subst e_; (first | (go_simp; done) | (go_simp; rfl))) | (obtain ⟨A_, c_, e_⟩ := Kd.S_slice bH.out; subst e_; (first | (go_simp; done) | (go_simp; rfl)))); intro aJ hg w8 hbox hb; have aE := aM (hbox); have cC := gE hg (keep_size (km HK.out)); have cD := gE2 HW0.out hg (keep_size (km HK.out)); have bA := nM hg aC; have bD := nH hg aC; have bL := nL hg (IsS175.lt (show IsS175 w0 _ g aG aV aW from IsS175.mv aD.out)); have aK := nG hg (IsS175.lt (show IsS175 w0 _ g aG aV aW from IsS175.mv aD.out)); replace aA := rK aA hb; replace aD := aM (IsS175.below (IsS175.mv aD.out) hb); replace aC := rB aC hb; replace HK := rU HK hb; replace HB := aM (bS (IsS175.bl HB.out) hb); clear hb hbox hg; have iV := bD.out; have iW := bA.out; have gQ := aK.out; have gR := bL.out; have gS := cA2 aE.out; obtain ⟨cO, cP, fV⟩ := Kd.R_slice aA.out; subst fV) | ((with_reducible refine gC (f := 99) rfl ?_); refine gL (some 7) Try.func99 #[.pointer (some ⟨g, 0, none⟩), .int .i64 8] ?_; (with_reducible refine (spec_l1Below.calls g aG aV aW 8 aX bP bQ w0 _ ?side1 ?side2 A3.out).mono ?_); (case side1 => exact IsS175.mv aD.out); (case side2 => exact IsS175.bl HB.out); rintro e jF ⟨rfl, hi, hb, hk⟩; refine ⟨_, rfl, ?_⟩; replace aC := aM (KeepBut.blk hk (fm aC.out) aI.out (by simp)); replace aA := aM (Kd.R_mono (Kd.R_keep (IsS175.apart (show IsS175 w0 _ g aG aV aW from IsS175.mv aD.out) (kr (Kd.R_mono (kF (p := ⟨aJ, 1, none⟩) (kF (p := ⟨aJ, 0, none⟩) (Kd.R_types aA.out aE.out (by decide)) (fun _ hk => hk.2) (.int .i64 aN)) (fun _ hk => hk.2) (.slice cO aH.length cP)) (fun _ h_ => h_.1))) (by decide)) hk (fun _ h => h.2)) (fun _ h => h.1)); replace aE := aM (KeepBut.blk hk (g' := aJ) (o := .cells #[aN, .slice cO aH.length cP] 28 (0, 0)) (bm aE.out) aK.out (by simp)); replace HK := aM (KeepBut.trans (km HK.out) hk (.inl rfl)); replace HB := aM (hb); replace aD := aM (hi); (repeat first|clear hb|clear hk|clear hi)) | ((with_reducible refine gD (N := 11) rfl ?_); refine Kd.R_lit (Kd.int .i64) _ 3 ?hg (N := 11) ?hd (xs := ([0, 9, 10] : List Int)) (inner := [.int .i64 0, .int .i64 9, .int .i64 10]) (ok := fun _ => True) (okp := fun _ => True) ?hr ?hp (fun _ hk => hk) trivial (Below.refl _ _) (Nat.le_refl _) (by simp) ?_; (case hd => rfl); (case hg => rfl); (case hr => first | (go_simp; done) | (go_simp; rfl) | (obtain ⟨A_, c_, e_⟩ := Kd.R_slice aA.out; subst e_; (first | (go_simp; done) | (go_simp; rfl))) | (obtain ⟨A_, c_, e_⟩ := Kd.S_slice aA.out; subst e_; (first | (go_simp; done) | (go_simp; rfl))) | (obtain ⟨A_, c_, e_⟩ := Kd.R_slice bH.out; subst e_; (first | (go_simp; done) | (go_simp; rfl))) | (obtain ⟨A_, c_, e_⟩ := Kd.S_slice bH.out; subst e_; (first | (go_simp; done) | (go_simp; rfl)))); (case hp => exact (Reps.one (show Kd.M (Kd.int .i64) _ _ _ 0 [.int .i64 0] from rfl) (Reps.one (show Kd.M (Kd.int .i64) _ _ _ 9 [.int .i64 9] from rfl) (Reps.one (show Kd.M (Kd.int .i64) _ _ _ 10 [.int .i64 10] from rfl) (Reps.none _ _))))); intro iX jG ho15 hb hg_ hnew_; clear hg_ hnew_; (first | rw [← eK.out] at ho15 | (simp only [Int.reduceToNat] at ho15; rw [← eK.out] at ho15)); have bH := aM (Kd.R_lower ho15 (keep_size (km HK.out))); replace aA := rK aA hb; replace aD := aM (IsS175.below (IsS175.mv aD.out) hb); replace aC := rB aC hb; replace aE := rB aE hb; replace HK := rU HK hb; replace HB := aM (bS (IsS175.bl HB.out) hb); clear hb ho15; obtain ⟨fW, fX, fY⟩ := Kd.R_slice bH.out; subst fY) | ((with_reducible refine gC (f := 101) rfl ?_); refine gL (some 12) Try.func101 #[.pointer (some ⟨g, 0, none⟩), .slice fW eA.length fX] ?_; (with_reducible refine (spec_l1PickInt.calls g aG bP bQ _ _ eA cN fT fU w0 _ ?side1 ?side2 ?side3 ?side4 ?side5 A5.out).mono ?_); (case side1 => exact IsS175.mv aD.out); (case side2 => exact IsS175.bl HB.out); (case side3 => exact cM ((Kd.R_reads' bH.out).2.2)); (case side4 => exact (Kd.R_reads' bH.out).2.1); (case side5 => exact far_slice (IsS175.own_ne aD.out bH.out (by decide))); rintro e jH ⟨rfl, hi, hb, hk⟩; refine ⟨_, rfl, ?_⟩; replace aC := rP hk aC aI; replace aA := aM (Kd.R_mono (Kd.R_keep (IsS175.apart (show IsS175 w0 _ g aG bP bQ from IsS175.mv aD.out) (kr aA.out) (by decide)) hk (fun _ h => h.2)) (fun _ h => h.1)); replace aE := rP hk aE aK; replace bH := aM (Kd.R_mono (Kd.R_keep (IsS175.apart (show IsS175 w0 _ g aG bP bQ from IsS175.mv aD.out) (kr bH.out) (by decide)) hk (fun _ h => h.2)) (fun _ h => h.1)); replace HK := aM (KeepBut.trans (km HK.out) hk (.inl rfl)); replace HB := aM (hb); replace aD := aM (hi); (repeat first|clear hb|clear hk|clear hi); have gT := cA2 aE.out; have gU := aI.out; have gV := bK.out; have gW := cA2 aC.out))
  refine bodyPost_ret (results_cell_row rfl _ _ aT 28 #[cN, .slice cO aH.length cP] (0, 0) _ rfl (bm aC.out) Try.underlying28 rfl (by kernel_rfl)) rfl ?_
  exact ⟨_, xW, by (with_reducible repeat (first | apply Kd.R_alloc | apply Kd.R_drewN | apply Kd.R_drew)); exact Kd.R_mono (kF (p := ⟨aT, 1, none⟩) (kF (p := ⟨aT, 0, none⟩) (kF (p := ⟨aJ, 0, none⟩) (Kd.R_types (Kd.R_types aA.out aE.out (by decide)) aC.out (by decide)) (fun _ hk => hk.1.2) (.int .i64 cN)) (fun _ hk => hk.2) (.int .i64 cN)) (fun _ hk => hk.2) (.slice cO aH.length cP)) (fun _ hk => trivial), IsS175.mv aD.out, IsS175.bl HB.out, km HK.out⟩
 rw [if_neg c4] at H
 have fQ : (aX == 0) = false := beq_eq_false_iff_ne.mpr c4
 have fS : (aX != 0) = true := bne_iff_ne.mpr c4
 by_cases cE : aX = 1
 case neg =>
  rw [if_neg cE] at H
  have fD : (aX == 1) = false := beq_eq_false_iff_ne.mpr cE
  have fE : (aX != 1) = true := bne_iff_ne.mpr cE
  by_cases cG : aX = 2
  case neg =>
   rw [if_neg cG] at H
   have fF : (aX == 2) = false := beq_eq_false_iff_ne.mpr cG
   have fG : (aX != 2) = true := bne_iff_ne.mpr cG
   simp only [Option.some.injEq, Prod.mk.injEq] at H
   obtain ⟨rfl, rfl, rfl, rfl⟩ := H
   go_enter Try.func117, Try.ntmps117
   go_wp2_with (first | ((with_reducible refine gD (N := 2) rfl ?_); refine bE (N := 2) (cs := #[.int .i64 0, .slice none 0 0]) (t := 28) ?_; intro aT hg jI hbox hb; have aC := aM (hbox); have bZ := gE hg (keep_size (km HK.out)); have cA := gE2 HW0.out hg (keep_size (km HK.out)); have bK := nL hg (IsS175.lt (show IsS175 w0 _ g aG bI bJ from IsS175.mv aD.out)); have aI := nG hg (IsS175.lt (show IsS175 w0 _ g aG bI bJ from IsS175.mv aD.out)); replace aD := aM (IsS175.below (IsS175.mv aD.out) hb); replace HK := rU HK hb; replace HB := aM (bS (IsS175.bl HB.out) hb); clear hb hbox hg) | ((with_reducible refine gC (f := 173) rfl ?_); refine gL (some 5) Try.func173 #[.pointer (some ⟨g, 0, none⟩)] ?_; (with_reducible refine (spec_l8DrawRight.calls k g aG bI bJ aN aH aV aW w0 _ ?side1 ?side2 A2.out).mono ?_); (case side1 => exact IsS175.mv aD.out); (case side2 => exact IsS175.bl HB.out); rintro e jJ ⟨eB, rfl, ho0, hi, hb, hk⟩; refine ⟨_, rfl, ?_⟩; have aA := aM (Kd.R_lower ho0 (keep_size (km HK.out))); replace aC := rP hk aC aI; replace HK := aM (KeepBut.trans (km HK.out) hk (.inl rfl)); replace HB := aM (hb); replace aD := aM (hi); (repeat first|clear hb|clear hk|clear hi|clear ho0)) | ((with_reducible refine gD (N := 3) rfl ?_); refine bR aA (N := 3) (cs := #[.int .i64 0, .slice none 0 0]) (t := 28) ?_; intro aJ hg jK hbox hb; have aE := aM (hbox); have cC := gE hg (keep_size (km HK.out)); have cD := gE2 HW0.out hg (keep_size (km HK.out)); have bA := nM hg aC; have bD := nH hg aC; have bL := nL hg (IsS175.lt (show IsS175 w0 _ g aG aV aW from IsS175.mv aD.out)); have aK := nG hg (IsS175.lt (show IsS175 w0 _ g aG aV aW from IsS175.mv aD.out)); replace aA := rK aA hb; replace aD := aM (IsS175.below (IsS175.mv aD.out) hb); replace aC := rB aC hb; replace HK := rU HK hb; replace HB := aM (bS (IsS175.bl HB.out) hb); clear hb hbox hg; have gX := bD.out; have gY := bA.out; have gZ := aK.out; have hD := bL.out; have hH := cA2 aE.out; obtain ⟨cQ, cR, gA⟩ := Kd.R_slice aA.out; subst gA) | ((with_reducible refine gC (f := 99) rfl ?_); refine gL (some 7) Try.func99 #[.pointer (some ⟨g, 0, none⟩), .int .i64 8] ?_; (with_reducible refine (spec_l1Below.calls g aG aV aW 8 aX bP bQ w0 _ ?side1 ?side2 A3.out).mono ?_); (case side1 => exact IsS175.mv aD.out); (case side2 => exact IsS175.bl HB.out); rintro e jL ⟨rfl, hi, hb, hk⟩; refine ⟨_, rfl, ?_⟩; replace aC := aM (KeepBut.blk hk (fm aC.out) aI.out (by simp)); replace aA := aM (Kd.R_mono (Kd.R_keep (IsS175.apart (show IsS175 w0 _ g aG aV aW from IsS175.mv aD.out) (kr (Kd.R_mono (kF (p := ⟨aJ, 1, none⟩) (kF (p := ⟨aJ, 0, none⟩) (Kd.R_types aA.out aE.out (by decide)) (fun _ hk => hk.2) (.int .i64 aN)) (fun _ hk => hk.2) (.slice cQ aH.length cR)) (fun _ h_ => h_.1))) (by decide)) hk (fun _ h => h.2)) (fun _ h => h.1)); replace aE := aM (KeepBut.blk hk (g' := aJ) (o := .cells #[aN, .slice cQ aH.length cR] 28 (0, 0)) (bm aE.out) aK.out (by simp)); replace HK := aM (KeepBut.trans (km HK.out) hk (.inl rfl)); replace HB := aM (hb); replace aD := aM (hi); (repeat first|clear hb|clear hk|clear hi); have hJ := cA2 aE.out; have hO := aI.out; have hU := bK.out; have hX := cA2 aC.out))
   refine bodyPost_ret (results_cell_row rfl _ _ aT 28 #[aN, .slice cQ aH.length cR] (0, 0) _ rfl (bm aC.out) Try.underlying28 rfl (by kernel_rfl)) rfl ?_
   exact ⟨_, xW, by (with_reducible repeat (first | apply Kd.R_alloc | apply Kd.R_drewN | apply Kd.R_drew)); exact Kd.R_mono (kF (p := ⟨aT, 1, none⟩) (kF (p := ⟨aT, 0, none⟩) (Kd.R_types aA.out aC.out (by decide)) (fun _ hk => hk.2) (.int .i64 aN)) (fun _ hk => hk.2) (.slice cQ aH.length cR)) (fun _ hk => trivial), IsS175.mv aD.out, IsS175.bl HB.out, km HK.out⟩
  rw [if_pos cG] at H
  have fF : (aX == 2) = true := beq_iff_eq.mpr cG
  have fG : (aX != 2) = false := bne_eq_false_iff_eq.mpr cG
  clear cG
  obtain ⟨bU, eL, H⟩ := hS H
  have eM := aM eL
  clear eL
  by_cases eN : aH.length + bU.length < 1759218604441
  case neg =>
   rw [if_neg eN] at H
   exact absurd H (by simp)
  rw [if_pos eN] at H
  have LMc41 := aM eN
  clear eN
  obtain ⟨cS, bX⟩ : ∃ y_ : List (S79), y_ = (aH ++ bU) := ⟨_, rfl⟩
  replace H : (some (aN, cS, bP, bQ)) = some (r1, r2, r3, r4) := by first | (rw [bX]; with_reducible exact H) | (have H2_ := (Option.bind_some _ _).symm.trans H; rw [bX]; with_reducible exact H2_) | (have H2_ := (Option.bind_some _ _).symm.trans H; with_reducible exact H2_) | with_reducible exact H | (rw [bX]; exact H) | exact H
  have fH := aM bX
  clear bX
  simp only [Option.some.injEq, Prod.mk.injEq] at H
  obtain ⟨rfl, rfl, rfl, rfl⟩ := H
  go_enter Try.func117, Try.ntmps117
  go_wp2_with (first | ((with_reducible refine gD (N := 2) rfl ?_); refine box_event ?hg (N := 2) ?hd (cs := #[.int .i64 0, .slice none 0 0]) (t := 28) ?hr ?_; (case hd => rfl); (case hg => rfl); (case hr => first | (go_simp; done) | (go_simp; rfl) | (obtain ⟨A_, c_, e_⟩ := Kd.R_slice aA.out; subst e_; (first | (go_simp; done) | (go_simp; rfl))) | (obtain ⟨A_, c_, e_⟩ := Kd.S_slice aA.out; subst e_; (first | (go_simp; done) | (go_simp; rfl))) | (obtain ⟨A_, c_, e_⟩ := Kd.R_slice bO.out; subst e_; (first | (go_simp; done) | (go_simp; rfl))) | (obtain ⟨A_, c_, e_⟩ := Kd.S_slice bO.out; subst e_; (first | (go_simp; done) | (go_simp; rfl)))); intro aT hg jM hbox hb; have aC := aM (hbox); have bZ := gE hg (keep_size (km HK.out)); have cA := gE2 HW0.out hg (keep_size (km HK.out)); have bK := nL hg (IsS175.lt (show IsS175 w0 _ g aG bI bJ from IsS175.mv aD.out)); have aI := nG hg (IsS175.lt (show IsS175 w0 _ g aG bI bJ from IsS175.mv aD.out)); replace aD := aM (IsS175.below (IsS175.mv aD.out) hb); replace HK := rU HK hb; replace HB := aM (bS (IsS175.bl HB.out) hb); clear hb hbox hg) | ((with_reducible refine gC (f := 173) rfl ?_); refine gL (some 5) Try.func173 #[.pointer (some ⟨g, 0, none⟩)] ?_; (with_reducible refine (spec_l8DrawRight.calls k g aG bI bJ aN aH aV aW w0 _ ?side1 ?side2 A2.out).mono ?_); (case side1 => exact IsS175.mv aD.out); (case side2 => exact IsS175.bl HB.out); rintro e jN ⟨eB, rfl, ho0, hi, hb, hk⟩; refine ⟨_, rfl, ?_⟩; have aA := aM (Kd.R_lower ho0 (keep_size (km HK.out))); replace aC := rP hk aC aI; replace HK := aM (KeepBut.trans (km HK.out) hk (.inl rfl)); replace HB := aM (hb); replace aD := aM (hi); (repeat first|clear hb|clear hk|clear hi|clear ho0)) | ((with_reducible refine gD (N := 3) rfl ?_); refine box_event ?hg (N := 3) ?hd (cs := #[.int .i64 0, .slice none 0 0]) (t := 28) ?hr ?_; (case hd => rfl); (case hg => rfl); (case hr => first | (go_simp; done) | (go_simp; rfl) | (obtain ⟨A_, c_, e_⟩ := Kd.R_slice aA.out; subst e_; (first | (go_simp; done) | (go_simp; rfl))) | (obtain ⟨A_, c_, e_⟩ := Kd.S_slice aA.out; subst e_; (first | (go_simp; done) | (go_simp; rfl))) | (obtain ⟨A_, c_, e_⟩ := Kd.R_slice bO.out; subst e_; (first | (go_simp; done) | (go_simp; rfl))) | (obtain ⟨A_, c_, e_⟩ := Kd.S_slice bO.out; subst e_; (first | (go_simp; done) | (go_simp; rfl)))); intro aJ hg jO hbox hb; have aE := aM (hbox); have cC := gE hg (keep_size (km HK.out)); have cD := gE2 HW0.out hg (keep_size (km HK.out)); have bA := nM hg aC; have bD := nH hg aC; have bL := nL hg (IsS175.lt (show IsS175 w0 _ g aG aV aW from IsS175.mv aD.out)); have aK := nG hg (IsS175.lt (show IsS175 w0 _ g aG aV aW from IsS175.mv aD.out)); replace aA := rK aA hb; replace aD := aM (IsS175.below (IsS175.mv aD.out) hb); replace aC := rB aC hb; replace HK := rU HK hb; replace HB := aM (bS (IsS175.bl HB.out) hb); clear hb hbox hg; have hY := bD.out; have hZ := bA.out; have iA := aK.out; have iB := bL.out; have iC := cA2 aE.out; obtain ⟨eC, eD, gB⟩ := Kd.R_slice aA.out; subst gB) | ((with_reducible refine gC (f := 99) rfl ?_); refine gL (some 7) Try.func99 #[.pointer (some ⟨g, 0, none⟩), .int .i64 8] ?_; (with_reducible refine (spec_l1Below.calls g aG aV aW 8 aX bP bQ w0 _ ?side1 ?side2 A3.out).mono ?_); (case side1 => exact IsS175.mv aD.out); (case side2 => exact IsS175.bl HB.out); rintro e jP ⟨rfl, hi, hb, hk⟩; refine ⟨_, rfl, ?_⟩; replace aC := aM (KeepBut.blk hk (fm aC.out) aI.out (by simp)); replace aA := aM (Kd.R_mono (Kd.R_keep (IsS175.apart (show IsS175 w0 _ g aG aV aW from IsS175.mv aD.out) (kr (Kd.R_mono (kF (p := ⟨aJ, 1, none⟩) (kF (p := ⟨aJ, 0, none⟩) (Kd.R_types aA.out aE.out (by decide)) (fun _ hk => hk.2) (.int .i64 aN)) (fun _ hk => hk.2) (.slice eC aH.length eD)) (fun _ h_ => h_.1))) (by decide)) hk (fun _ h => h.2)) (fun _ h => h.1)); replace aE := aM (KeepBut.blk hk (g' := aJ) (o := .cells #[aN, .slice eC aH.length eD] 28 (0, 0)) (bm aE.out) aK.out (by simp)); replace HK := aM (KeepBut.trans (km HK.out) hk (.inl rfl)); replace HB := aM (hb); replace aD := aM (hi); (repeat first|clear hb|clear hk|clear hi); have iD := cA2 aE.out) | ((with_reducible refine gD (N := 27) rfl ?_); refine Kd.R_lit k79 _ 79 ?hg (N := 27) ?hd (xs := ([(⟨false, false, (⟨0, 0, 0, 0⟩ : S73), 0, 0, 0, 0, false⟩ : S79), (⟨false, false, (⟨0, 0, 0, 0⟩ : S73), 0, 0, 0, 0, false⟩ : S79)] : List (S79))) (inner := [.bool false, .bool false, .int .i64 0, .int .i64 0, .int .i64 0, .int .i64 0, .int .i64 0, .int .i64 0, .int .i64 0, .int .i64 0, .bool false, .bool false, .bool false, .int .i64 0, .int .i64 0, .int .i64 0, .int .i64 0, .int .i64 0, .int .i64 0, .int .i64 0, .int .i64 0, .bool false]) (ok := fun _ => True) (okp := fun _ => True) ?hr ?hp (fun _ hk => hk) trivial (Below.refl _ _) (Nat.le_refl _) (by simp) ?_; (case hd => rfl); (case hg => rfl); (case hr => first | (go_simp; done) | (go_simp; rfl) | (obtain ⟨A_, c_, e_⟩ := Kd.R_slice aA.out; subst e_; (first | (go_simp; done) | (go_simp; rfl))) | (obtain ⟨A_, c_, e_⟩ := Kd.S_slice aA.out; subst e_; (first | (go_simp; done) | (go_simp; rfl))) | (obtain ⟨A_, c_, e_⟩ := Kd.R_slice bO.out; subst e_; (first | (go_simp; done) | (go_simp; rfl))) | (obtain ⟨A_, c_, e_⟩ := Kd.S_slice bO.out; subst e_; (first | (go_simp; done) | (go_simp; rfl)))); (case hp => exact (Reps.front (show Kd.M k79 _ _ _ (⟨false, false, (⟨0, 0, 0, 0⟩ : S73), 0, 0, 0, 0, false⟩ : S79) [.bool false, .bool false, .int .i64 0, .int .i64 0, .int .i64 0, .int .i64 0, .int .i64 0, .int .i64 0, .int .i64 0, .int .i64 0, .bool false] from (k79_mkM _ _ _ (⟨false, false, (⟨0, 0, 0, 0⟩ : S73), 0, 0, 0, 0, false⟩ : S79) )) rfl (Reps.front (show Kd.M k79 _ _ _ (⟨false, false, (⟨0, 0, 0, 0⟩ : S73), 0, 0, 0, 0, false⟩ : S79) [.bool false, .bool false, .int .i64 0, .int .i64 0, .int .i64 0, .int .i64 0, .int .i64 0, .int .i64 0, .int .i64 0, .int .i64 0, .bool false] from (k79_mkM _ _ _ (⟨false, false, (⟨0, 0, 0, 0⟩ : S73), 0, 0, 0, 0, false⟩ : S79) )) rfl (Reps.none _ _) rfl) rfl)); intro iY jQ ho52 hb hg_ hnew_; clear hg_ hnew_; (first | rw [← eM.out] at ho52 | (simp only [Int.reduceToNat] at ho52; rw [← eM.out] at ho52)); have bO := aM (Kd.R_lower (Kd.R_new' ho52 (Kd.R_lt (kr aA.out))) (keep_size (km HK.out))); replace aA := aM (Kd.R_elder' (kr aA.out) (Kd.R_base ho52) hb); replace aD := aM (IsS175.below (IsS175.mv aD.out) hb); replace aC := rB aC hb; replace aE := rB aE hb; replace HK := rU HK hb; replace HB := aM (bS (IsS175.bl HB.out) hb); clear hb ho52; obtain ⟨gG, gH, gJ⟩ := Kd.R_slice bO.out; subst gJ) | ((with_reducible refine gate_builtin (b := .append) (xs := #[.tmp 24, .tmp 27]) rfl ?_); at_builtin; refine Kd.R_append_rows k79 w.heap.size rfl (.tmp 24) (.tmp 27) 26 79 (.agg #[(.bool false), (.bool false), (.int .i64 0), (.int .i64 0), (.int .i64 0), (.int .i64 0), (.int .i64 0), (.int .i64 0), (.int .i64 0), (.int .i64 0), (.bool false)]) 80 rfl Try.underlying26 info79 rfl (by decide) (by omega) (.slice eC aH.length eD) aH bU _ _ _ (fun k_ => some k_ ≠ (.slice gG bU.length gH : Value).ownBlock) (fun _ => False) rfl rfl ?aO ?aR (fun _ _ h => h) (fun _ h => h.elim) ?aF (Below.refl _ _) ?aS ?aL ?_; (case aR => repeat (first | exact (Kd.R_reads' bO.out).2.2 | (with_reducible refine Kd.C_alloc ?_ _) | (with_reducible refine Kd.C_drewN ?_ _) | (with_reducible refine Kd.C_drew ?_))); (case aF => exact (fun k_ hk => Kd.fresh' (Kd.R_lt (kr bO.out)) k_ hk)); (case aO => exact (kr (Kd.R_mono aA.out (fun _ hk => hk.2)))); (case aS => exact (keep_size (km HK.out))); (case aL => have := LMc41.out; omega); intro iZ jR ho hb hg hat; rw [← fH.out] at ho; have eO := aM (ho); replace aD := aM (IsS175.grown (IsS175.mv aD.out) hg (IsS175.own_ne aD.out aA.out (by decide))); replace aC := aM (blk_grown (bk aC.out) hg (Kd.R_ne aA.out aC.out (by decide))); replace aE := aM (blk_grown (bk aE.out) hg (Kd.R_ne aA.out aE.out (by decide))); replace bO := aM (Kd.R_after (ok := (fun _ => True)) (kr bO.out) hg hat); replace HB := aM (below_weaken (IsS175.bl HB.out) HL.out hb); replace HK := aM (KeepBut.trans (km HK.out) (KeepBut.of_grown hg g) (Kd.R_base2 aA.out)); clear aA; clear ho hb hg hat; obtain ⟨eE, eF, gK⟩ := Kd.R_slice eO.out; subst gK; have iE := cA2 aE.out; have iF := aI.out; have iG := bK.out; have iH := cA2 aC.out))
  refine bodyPost_ret (results_cell_row rfl _ _ aT 28 #[aN, .slice eE cS.length eF] (0, 0) _ rfl (bm aC.out) Try.underlying28 rfl (by kernel_rfl)) rfl ?_
  exact ⟨_, xW, by (with_reducible repeat (first | apply Kd.R_alloc | apply Kd.R_drewN | apply Kd.R_drew)); exact Kd.R_mono (kF (p := ⟨aT, 1, none⟩) (kF (p := ⟨aT, 0, none⟩) (kF (p := ⟨aJ, 1, none⟩) (Kd.R_types (Kd.R_types eO.out aE.out (by decide)) aC.out (by decide)) (fun _ hk => hk.1.2) (.slice eE cS.length eF)) (fun _ hk => hk.2) (.int .i64 aN)) (fun _ hk => hk.2) (.slice eE cS.length eF)) (fun _ hk => trivial), IsS175.mv aD.out, IsS175.bl HB.out, km HK.out⟩
 rw [if_pos cE] at H
 have fD : (aX == 1) = true := beq_iff_eq.mpr cE
 have fE : (aX != 1) = false := bne_eq_false_iff_eq.mpr cE
 clear cE
 obtain ⟨⟨cT, cU, cV, cW, cX, cY, dA, dB, dC, dD, dE, eG, eH⟩, eU, H⟩ := hB H
 try dsimp only at H
 have gO := aM eU
 clear eU
 by_cases eP : 0 < (aH.length : Int)
 case neg =>
  rw [if_neg eP] at H
  exact absurd H (by simp)
 rw [if_pos eP] at H
 have iI := decide_eq_true eP
 have iJ : decide (0 < aH.length) = true := decide_eq_true (by omega)
 clear eP
 obtain ⟨eV, bY⟩ : ∃ y_ : List (S79), y_ = (aH.set (0 : Int).toNat (⟨cT, cU, (⟨cV, cW, cX, cY⟩ : S73), dA, dB, dC, dD, dE⟩ : S79)) := ⟨_, rfl⟩
 replace H : (some (aN, eV, eG, eH)) = some (r1, r2, r3, r4) := by first | (rw [bY]; with_reducible exact H) | (have H2_ := (Option.bind_some _ _).symm.trans H; rw [bY]; with_reducible exact H2_) | (have H2_ := (Option.bind_some _ _).symm.trans H; with_reducible exact H2_) | with_reducible exact H | (rw [bY]; exact H) | exact H
 have fI := aM bY
 clear bY
 simp only [Option.some.injEq, Prod.mk.injEq] at H
 obtain ⟨rfl, rfl, rfl, rfl⟩ := H
 go_enter Try.func117, Try.ntmps117
 try go_wp2_with (first | ((with_reducible refine gD (N := 2) rfl ?_); refine bE (N := 2) (cs := #[.int .i64 0, .slice none 0 0]) (t := 28) ?_; intro aT hg jS hbox hb; have aC := aM (hbox); have bZ := gE hg (keep_size (km HK.out)); have cA := gE2 HW0.out hg (keep_size (km HK.out)); have bK := nL hg (IsS175.lt (show IsS175 w0 _ g aG bI bJ from IsS175.mv aD.out)); have aI := nG hg (IsS175.lt (show IsS175 w0 _ g aG bI bJ from IsS175.mv aD.out)); replace aD := aM (IsS175.below (IsS175.mv aD.out) hb); replace HK := rU HK hb; replace HB := aM (bS (IsS175.bl HB.out) hb); clear hb hbox hg) | ((with_reducible refine gC (f := 173) rfl ?_); refine gL (some 5) Try.func173 #[.pointer (some ⟨g, 0, none⟩)] ?_; (with_reducible refine (spec_l8DrawRight.calls k g aG bI bJ aN aH aV aW w0 _ ?side1 ?side2 A2.out).mono ?_); (case side1 => exact IsS175.mv aD.out); (case side2 => exact IsS175.bl HB.out); rintro e jT ⟨eB, rfl, ho0, hi, hb, hk⟩; refine ⟨_, rfl, ?_⟩; have aA := aM (Kd.R_lower ho0 (keep_size (km HK.out))); replace aC := rP hk aC aI; replace HK := aM (KeepBut.trans (km HK.out) hk (.inl rfl)); replace HB := aM (hb); replace aD := aM (hi); (repeat first|clear hb|clear hk|clear hi|clear ho0)) | ((with_reducible refine gD (N := 3) rfl ?_); refine bR aA (N := 3) (cs := #[.int .i64 0, .slice none 0 0]) (t := 28) ?_; intro aJ hg jU hbox hb; have aE := aM (hbox); have cC := gE hg (keep_size (km HK.out)); have cD := gE2 HW0.out hg (keep_size (km HK.out)); have bA := nM hg aC; have bD := nH hg aC; have bL := nL hg (IsS175.lt (show IsS175 w0 _ g aG aV aW from IsS175.mv aD.out)); have aK := nG hg (IsS175.lt (show IsS175 w0 _ g aG aV aW from IsS175.mv aD.out)); replace aA := rK aA hb; replace aD := aM (IsS175.below (IsS175.mv aD.out) hb); replace aC := rB aC hb; replace HK := rU HK hb; replace HB := aM (bS (IsS175.bl HB.out) hb); clear hb hbox hg; have iK := bD.out; have iL := bA.out; have iM := aK.out; have iN := bL.out; have iO := cA2 aE.out; obtain ⟨eI, bV, gM⟩ := Kd.R_slice aA.out; subst gM) | ((with_reducible refine gC (f := 99) rfl ?_); refine gL (some 7) Try.func99 #[.pointer (some ⟨g, 0, none⟩), .int .i64 8] ?_; (with_reducible refine (spec_l1Below.calls g aG aV aW 8 aX bP bQ w0 _ ?side1 ?side2 A3.out).mono ?_); (case side1 => exact IsS175.mv aD.out); (case side2 => exact IsS175.bl HB.out); rintro e gP ⟨rfl, hi, hb, hk⟩; refine ⟨_, rfl, ?_⟩; replace aC := aM (KeepBut.blk hk (fm aC.out) aI.out (by simp)); replace aA := aM (Kd.R_mono (Kd.R_keep (IsS175.apart (show IsS175 w0 _ g aG aV aW from IsS175.mv aD.out) (kr (Kd.R_mono (kF (p := ⟨aJ, 1, none⟩) (kF (p := ⟨aJ, 0, none⟩) (Kd.R_types aA.out aE.out (by decide)) (fun _ hk => hk.2) (.int .i64 aN)) (fun _ hk => hk.2) (.slice eI aH.length bV)) (fun _ h_ => h_.1))) (by decide)) hk (fun _ h => h.2)) (fun _ h => h.1)); replace aE := aM (KeepBut.blk hk (g' := aJ) (o := .cells #[aN, .slice eI aH.length bV] 28 (0, 0)) (bm aE.out) aK.out (by simp)); replace HK := aM (KeepBut.trans (km HK.out) hk (.inl rfl)); replace HB := aM (hb); replace aD := aM (hi); (repeat first|clear hb|clear hk|clear hi)))
 replace aA := aM (Kd.R_drew aA.out)
 replace aC := aM (blk_drew aC.out)
 replace aE := aM (blk_drew aE.out)
 replace aD := aM (IsS175.drew aD.out)
 replace HK := aM (keep_drew HK.out)
 replace HB := aM (below_drew1 HB.out)
 refine start_ (n := 6) (S := fun w' => cS2 w' aJ (.int .i64 aN) (.slice eI aH.length bV)) (ds := [5]) (dn 6 0) (by kernel_rfl) rfl rfl ⟨cI aE.out 0, cI aE.out 1⟩ (fun hHeld => ?_)
 generalize gP.drew = jV at aA aC aE aD HK HB hHeld ⊢
 refine pure_ (i := 0) (N := some 16) (v := ?_) (a' := ?_) (bv 6 1) rfl rfl (by kernel_rfl) (fun _ _ _ h => h) (Or.inl ⟨by rfl, ?_⟩) ?_ ?_
 rotate_left
 ·intro w'
  go_simp
  with_reducible rfl
 rotate_left
 ·simp only [Act.put, sA, sZ, sS, i64_w, i32_w]
  rfl
 refine pure_ (i := 2) (N := some 18) (v := ?_) (a' := ?_) (bv 6 5) rfl rfl (by kernel_rfl) (fun _ _ _ h => h) (Or.inl ⟨by rfl, ?_⟩) ?_ ?_
 rotate_left
 ·intro w'
  go_simp
  with_reducible rfl
 rotate_left
 ·simp only [Act.put, sA, sZ, sS, i64_w, i32_w]
  rfl
 refine take_ (i := 1) (N := some 17) (v := ?_) (a' := ?_) (bv 6 7) rfl rfl (by kernel_rfl) (fun _ _ _ h => h) (Or.inl ⟨by rfl, ?_⟩) hHeld ?_ ?_
 rotate_left
 ·rintro w' ⟨s0, s1⟩
  go_simp
  with_reducible rfl
 rotate_left
 ·simp only [Act.put, sA, sZ, sS, i64_w, i32_w]
  rfl
 refine one_ (i := 3) (N := some 19) (bv 6 15) rfl rfl (by kernel_rfl) (by decide) (fun K hK => ?_)
 refine goes_ Try.func174 (by kernel_rfl) rfl #[.pointer (some ⟨g, 0, none⟩)] (by rfl) rfl rfl xR ?_
 with_reducible refine (spec_l7Draw.calls k g aG bP bQ cT cU cV cW cX cY dA dB dC dD dE eG eH w0 _ ?side1 ?side2 gO.out).mono ?_
 (case side1 => exact IsS175.mv aD.out)
 (case side2 => exact IsS175.bl HB.out)
 rintro e jW ⟨rfl, hi, hb, hk⟩
 refine ⟨_, rfl, ?_⟩
 replace aC := rP hk aC aI
 replace aA := aM (Kd.R_mono (Kd.R_keep (IsS175.apart (show IsS175 w0 _ g aG bP bQ from IsS175.mv aD.out) (kr aA.out) (by decide)) hk (fun _ h => h.2)) (fun _ h => h.1))
 replace aE := rP hk aE aK
 replace HK := aM (KeepBut.trans (km HK.out) hk (.inl rfl))
 replace HB := aM (hb)
 replace aD := aM (hi)
 (try clear hb)
 (try clear hb2)
 (try clear hk)
 (try clear hi)
 have eW : 0 ≤ (0 : Int) := (by omega)
 have eX : (0 : Int) < ((aH.length : Int) : Int) := dT
 have qi24 : (0 < aH.length) = True := eq_true (by omega)
 obtain ⟨cH, jA, eY, eZ, gN, jB, fA⟩ := Kd.R_form aA.out (by omega)
 (first | cases eY | (injection eY with ea_ en_ ec_; (first | subst ea_ | (injection ea_ with ea_; subst ea_)); subst ec_; clear en_))
 have aQ := aM eZ
 have jC := aM fA
 clear eZ gN fA
 obtain ⟨jD, fK, fB, eQ, eR⟩ := Kd.R_elem aA.out z79 (0 : Int) eW eX
 obtain rfl := k79_openM fB
 obtain ⟨dF, dG, dH, dI, dJ, dK, dL, dM, dN, dO, cK, dP, dQ, dR, dS, dU, dV, dW, dX, dY, dZ, cL⟩ := eS79 (rd_T79 aH 0) eQ eR
 clear fK eQ eR fB
 (try rw [show ((0 : Int)).toNat = 0 from rfl] at dF)
 (try simp only [Nat.reduceMul, Nat.zero_mul, Nat.zero_add, Nat.reduceAdd] at dF)
 (try rw [show ((0 : Int)).toNat = 0 from rfl] at dP)
 (try simp only [Nat.reduceMul, Nat.zero_mul, Nat.zero_add, Nat.reduceAdd] at dP)
 (try rw [show ((0 : Int)).toNat = 0 from rfl] at dG)
 (try simp only [Nat.reduceMul, Nat.zero_mul, Nat.zero_add, Nat.reduceAdd] at dG)
 (try rw [show ((0 : Int)).toNat = 0 from rfl] at dQ)
 (try simp only [Nat.reduceMul, Nat.zero_mul, Nat.zero_add, Nat.reduceAdd] at dQ)
 (try rw [show ((0 : Int)).toNat = 0 from rfl] at dH)
 (try simp only [Nat.reduceMul, Nat.zero_mul, Nat.zero_add, Nat.reduceAdd] at dH)
 (try rw [show ((0 : Int)).toNat = 0 from rfl] at dR)
 (try simp only [Nat.reduceMul, Nat.zero_mul, Nat.zero_add, Nat.reduceAdd] at dR)
 (try rw [show ((0 : Int)).toNat = 0 from rfl] at dI)
 (try simp only [Nat.reduceMul, Nat.zero_mul, Nat.zero_add, Nat.reduceAdd] at dI)
 (try rw [show ((0 : Int)).toNat = 0 from rfl] at dS)
 (try simp only [Nat.reduceMul, Nat.zero_mul, Nat.zero_add, Nat.reduceAdd] at dS)
 (try rw [show ((0 : Int)).toNat = 0 from rfl] at dJ)
 (try simp only [Nat.reduceMul, Nat.zero_mul, Nat.zero_add, Nat.reduceAdd] at dJ)
 (try rw [show ((0 : Int)).toNat = 0 from rfl] at dU)
 (try simp only [Nat.reduceMul, Nat.zero_mul, Nat.zero_add, Nat.reduceAdd] at dU)
 (try rw [show ((0 : Int)).toNat = 0 from rfl] at dK)
 (try simp only [Nat.reduceMul, Nat.zero_mul, Nat.zero_add, Nat.reduceAdd] at dK)
 (try rw [show ((0 : Int)).toNat = 0 from rfl] at dV)
 (try simp only [Nat.reduceMul, Nat.zero_mul, Nat.zero_add, Nat.reduceAdd] at dV)
 (try rw [show ((0 : Int)).toNat = 0 from rfl] at dL)
 (try simp only [Nat.reduceMul, Nat.zero_mul, Nat.zero_add, Nat.reduceAdd] at dL)
 (try rw [show ((0 : Int)).toNat = 0 from rfl] at dW)
 (try simp only [Nat.reduceMul, Nat.zero_mul, Nat.zero_add, Nat.reduceAdd] at dW)
 (try rw [show ((0 : Int)).toNat = 0 from rfl] at dM)
 (try simp only [Nat.reduceMul, Nat.zero_mul, Nat.zero_add, Nat.reduceAdd] at dM)
 (try rw [show ((0 : Int)).toNat = 0 from rfl] at dX)
 (try simp only [Nat.reduceMul, Nat.zero_mul, Nat.zero_add, Nat.reduceAdd] at dX)
 (try rw [show ((0 : Int)).toNat = 0 from rfl] at dN)
 (try simp only [Nat.reduceMul, Nat.zero_mul, Nat.zero_add, Nat.reduceAdd] at dN)
 (try rw [show ((0 : Int)).toNat = 0 from rfl] at dY)
 (try simp only [Nat.reduceMul, Nat.zero_mul, Nat.zero_add, Nat.reduceAdd] at dY)
 (try rw [show ((0 : Int)).toNat = 0 from rfl] at dO)
 (try simp only [Nat.reduceMul, Nat.zero_mul, Nat.zero_add, Nat.reduceAdd] at dO)
 (try rw [show ((0 : Int)).toNat = 0 from rfl] at dZ)
 (try simp only [Nat.reduceMul, Nat.zero_mul, Nat.zero_add, Nat.reduceAdd] at dZ)
 (try rw [show ((0 : Int)).toNat = 0 from rfl] at cK)
 (try simp only [Nat.reduceMul, Nat.zero_mul, Nat.zero_add, Nat.reduceAdd] at cK)
 (try rw [show ((0 : Int)).toNat = 0 from rfl] at cL)
 (try simp only [Nat.reduceMul, Nat.zero_mul, Nat.zero_add, Nat.reduceAdd] at cL)
 replace eW := eq_true eW
 replace eX := eq_true eX
 have HN0_go24 := aM (show g ≠ cH from by have h_ := IsS175.own_ne aD.out aA.out (by decide); intro e_; exact h_ (by rw [e_]; rfl))
 obtain ⟨jE, eS, fC, eT, fL⟩ := Kd.R_elem aA.out z79 (0 : Int) (by omega) dT
 obtain rfl := k79_openM fC
 have eJ := (Kd.R_seg aA.out (0 : Int) (by omega) dT (seg := [.bool cT, .bool cU, .int .i64 cV, .int .i64 cW, .int .i64 cX, .int .i64 cY, .int .i64 dA, .int .i64 dB, .int .i64 dC, .int .i64 dD, .bool dE]) (j := 0) eS eT (show 11 ≤ 11 from by decide) (x' := (⟨cT, cU, (⟨cV, cW, cX, cY⟩ : S73), dA, dB, dC, dD, dE⟩ : S79)) (k79_mkM _ _ _ _) (fun _ hk => hk)).1
 rw [← fI.out] at eJ
 have HQ35 := aM eJ
 clear eS eT fL fC eJ
 refine hK.out _ _ ⟨cI aE.out 0, cI aE.out 1⟩ (fun hHeld => ?_)
 clear hK K
 refine norm_ (a' := ?_) ?_ ?_
 rotate_left
 ·show Act.put _ (some 19) _ = _
  simp only [Act.put, sA, sZ, sS, i64_w, i32_w]
  rfl
 refine pure_ (i := 4) (N := some 20) (v := ?_) (a' := ?_) (bv 6 31) rfl rfl (by kernel_rfl) (fun _ _ _ h => h) (Or.inl ⟨by rfl, ?_⟩) ?_ ?_
 rotate_left
 ·intro w'
  go_simp
  with_reducible rfl
 rotate_left
 ·simp only [Act.put, sA, sZ, sS, i64_w, i32_w]
  rfl
 refine last_ (i := 5) (N := none) (bv 6 63) rfl rfl (by kernel_rfl) (by decide) (fun K hK => ?_)
 refine skip_ (w1 := ?_) (by rfl) rfl ?_ ?_
 rotate_left
 ·go_simp
  rfl
 refine hK.out _ _ ?_
 clear hK K
 refine done_ (by kernel_rfl) ?_
 refine nX (fun W => Aside0 (Kd.R k79 79 W w.heap.size (fun _ => True) (.slice (some ⟨cH, 0, none⟩) aH.length bV) eV) ∧ Aside0 (W.heap[aT]? = some (.cells #[.int .i64 0, .slice none 0 0] 28 (0, 0))) ∧ Aside0 (W.heap[aJ]? = some (.cells #[aN, .slice (some ⟨cH, 0, none⟩) aH.length bV] 28 (0, 0))) ∧ Aside0 (IsS175 w0 W g aG eG eH) ∧ Aside0 (KeepBut w W g none) ∧ Aside0 (Below w0.heap.size w0 W)) ⟨⟨kr HQ35.out⟩, ⟨fR aA.out aC.out⟩, ⟨fR aA.out aE.out⟩, ⟨by repeat (first | (with_reducible first | exact aD.out | apply IsS175.alloc | apply IsS175.drewN | apply IsS175.drew | apply IsS175.set_1 | apply IsS175.set_2 | refine IsS175.far ?_ HN0_go24.out _ | refine IsS175.far ?_ HN0_go24.out _ | refine IsS175.far ?_ HN0_go24.out _ | refine IsS175.far ?_ HN0_go24.out _ | refine IsS175.far ?_ HN0_go24.out _ | refine IsS175.far ?_ HN0_go24.out _ | refine IsS175.far ?_ HN0_go24.out _ | refine IsS175.far ?_ HN0_go24.out _ | refine IsS175.far ?_ HN0_go24.out _ | refine IsS175.far ?_ HN0_go24.out _ | refine IsS175.far ?_ HN0_go24.out _ | refine IsS175.far ?_ bK.out _ | refine IsS175.far ?_ bL.out _) | exact aD.out)⟩, ⟨by repeat (first | (with_reducible first | exact HK.out | apply KeepBut.set_ | apply keep_drewN | apply keep_drew | apply keep_alloc | refine keep_far ?_ aQ.out _ | refine keep_far ?_ aQ.out _ | refine keep_far ?_ aQ.out _ | refine keep_far ?_ aQ.out _ | refine keep_far ?_ aQ.out _ | refine keep_far ?_ aQ.out _ | refine keep_far ?_ aQ.out _ | refine keep_far ?_ aQ.out _ | refine keep_far ?_ aQ.out _ | refine keep_far ?_ aQ.out _ | refine keep_far ?_ aQ.out _ | refine keep_far ?_ bZ.out _ | refine keep_far ?_ cC.out _) | exact HK.out)⟩, ⟨by repeat (first | (with_reducible first | exact HB.out | apply below_alloc | apply pw_below_drewN | apply below_drew1 | refine below_set ?_ (Nat.le_trans HL.out aQ.out) | refine below_set ?_ (Nat.le_trans HL.out aQ.out) | refine below_set ?_ (Nat.le_trans HL.out aQ.out) | refine below_set ?_ (Nat.le_trans HL.out aQ.out) | refine below_set ?_ (Nat.le_trans HL.out aQ.out) | refine below_set ?_ (Nat.le_trans HL.out aQ.out) | refine below_set ?_ (Nat.le_trans HL.out aQ.out) | refine below_set ?_ (Nat.le_trans HL.out aQ.out) | refine below_set ?_ (Nat.le_trans HL.out aQ.out) | refine below_set ?_ (Nat.le_trans HL.out aQ.out) | refine below_set ?_ (Nat.le_trans HL.out aQ.out) | refine below_set ?_ (IsS175.ge aD.out) | refine below_set ?_ cA.out | refine below_set ?_ cD.out) | exact HB.out)⟩⟩ ?_
 intro jX nn_
 replace aA := nn_.1
 replace aC := nn_.2.1
 replace aE := nn_.2.2.1
 replace aD := nn_.2.2.2.1
 replace HK := nn_.2.2.2.2.1
 replace HB := nn_.2.2.2.2.2
 clear nn_
 have iP := cA2 aE.out
 have iQ := aI.out
 have iR := bK.out
 have iS := cA2 aC.out
 try go_wp2
 refine bodyPost_ret (results_cell_row rfl _ _ aT 28 #[aN, .slice (some ⟨cH, 0, none⟩) aH.length bV] (0, 0) _ rfl (bm aC.out) Try.underlying28 rfl (by kernel_rfl)) rfl ?_
 exact ⟨_, xW, by (with_reducible repeat (first | apply Kd.R_alloc | apply Kd.R_drewN | apply Kd.R_drew)); exact Kd.R_mono (kF (p := ⟨aT, 1, none⟩) (kF (p := ⟨aT, 0, none⟩) (Kd.R_types aA.out aC.out (by decide)) (fun _ hk => hk.2) (.int .i64 aN)) (fun _ hk => hk.2) (.slice (some ⟨cH, 0, none⟩) aH.length bV)) (fun _ hk => trivial), IsS175.mv aD.out, IsS175.bl HB.out, km HK.out⟩

def spec_DrawHops.f (k : Nat) (l0 : List Int) : Option (Int × (List (S79))) := (spec_l1New.f k l0).bind fun aA => ((spec_l8Draw.f k aA.1 aA.2.1 aA.2.2).bind fun aC => (some (aC.1, aC.2.1)))
theorem spec_DrawHops.mono : ∀ a0 k, LeO (spec_DrawHops.f k a0) (spec_DrawHops.f (k + 1) a0) := by
 intro a0 k
 unfold spec_DrawHops.f
 repeat' first|(with_reducible first|apply spec_l1New.mono|apply spec_l8Draw.mono|exact lR _|exact lN _|refine lI ?_ ?_|refine lB ?_ fun _ => ?_)|exact lN _|refine lI ?_ ?_|refine lB ?_ fun _ => ?_
set_option maxHeartbeats 60000000 in
set_option maxRecDepth 100000 in
theorem spec_DrawHops.calls (k : Nat) (A0 : Option Addr) (c0 : Nat) (l0 : List Int) (r1 : Int) (r2 : List (S79)) (w : World) (hr0 : Kd.C (Kd.int .u8) w A0 l0.length l0) (hc0 : l0.length ≤ c0) (h : spec_DrawHops.f k l0 = some (r1, r2)) :
  Calls Try.prog 39 #[.slice A0 l0.length c0] w fun e w' => ∃ aW : Value, e = .returned (.agg #[r1, aW]) ∧ Kd.R k79 79 w' w.heap.size (fun _ => True) aW r2 ∧ Below w.heap.size w w' := by
 have bO := Try.underlying28
 have bJ := aM hr0
 have bK := aM hc0
 clear hr0 hc0
 have HB := aM (Below.refl w.heap.size w)
 have H : ((spec_l1New.f k l0).bind fun aD => ((spec_l8Draw.f k aD.1 aD.2.1 aD.2.2).bind fun aJ => (some (aJ.1, aJ.2.1)))) = some (r1, r2) := h
 clear h
 obtain ⟨⟨aQ, aT, aV⟩, aX, H⟩ := hB H
 try dsimp only at H
 have A2 := aM aX
 clear aX
 obtain ⟨⟨aH, aI, bH, bI⟩, bA, H⟩ := hB H
 try dsimp only at H
 have A3 := aM bA
 clear bA
 simp only [Option.some.injEq, Prod.mk.injEq] at H
 obtain ⟨rfl, rfl⟩ := H
 go_enter Try.func39, Try.ntmps39
 go_wp2_with (first | ((with_reducible refine gD (N := 2) rfl ?_); refine bE (N := 2) (cs := #[.int .i64 0, .slice none 0 0]) (t := 28) ?_; intro aE hg w4 hbox hb; have aA := aM (hbox); have bM := gF hg HB; have bN := gF hg HB; replace HB := rS HB hb; clear hb hbox hg) | ((with_reducible refine gC (f := 97) rfl ?_); refine gL (some 4) Try.func97 #[.slice A0 l0.length c0] ?_; (with_reducible refine (spec_l1New.calls k _ _ l0 aQ aT aV w _ ?side1 ?side2 ?side3 A2.out).mono ?_); (case side1 => exact bl HB.out); (case side2 => exact bJ.out); (case side3 => exact bK.out); rintro e w5 ⟨g715, rfl, hi, hb, hb2⟩; refine ⟨_, rfl, ?_⟩; have aK := aM (hi); have aG := aM (IsS175.ne_blk hi (bB (bk aA.out) hb2) (by decide)); have aC := aM (Ne.symm (IsS175.ne_blk hi (bB (bk aA.out) hb2) (by decide))); replace aA := aM (bB (bk aA.out) hb2); replace HB := aM (hb); (repeat first|clear hb|clear hb2|clear hi)) | ((with_reducible refine gC (f := 117) rfl ?_); refine gL (some 5) Try.func117 #[.pointer (some ⟨g715, 0, none⟩)] ?_; (with_reducible refine (spec_l8Draw.calls k g715 aQ aT aV aH aI bH bI w _ ?side1 ?side2 A3.out).mono ?_); (case side1 => exact IsS175.mv aK.out); (case side2 => exact IsS175.bl HB.out); rintro e w6 ⟨bP, rfl, ho0, hi, hb, hk⟩; refine ⟨_, rfl, ?_⟩; have aN := aM (Kd.R_lower ho0 (below_size (IsS175.bl HB.out))); replace aA := rP hk aA aC; replace HB := aM (hb); replace aK := aM (hi); (repeat first|clear hb|clear hk|clear hi|clear ho0); have bQ := aC.out; have bT := aG.out; have bU := cA2 aA.out; obtain ⟨bD, bG, bL⟩ := Kd.R_slice aN.out; subst bL))
 refine bodyPost_ret (results_cell_row rfl _ _ aE 28 #[aH, .slice bD aI.length bG] (0, 0) _ rfl (bm aA.out) Try.underlying28 rfl (by kernel_rfl)) rfl ?_
 exact ⟨_, xW, by (with_reducible repeat (first | apply Kd.R_alloc | apply Kd.R_drewN | apply Kd.R_drew)); exact Kd.R_mono (kF (p := ⟨aE, 1, none⟩) (kF (p := ⟨aE, 0, none⟩) (Kd.R_types aN.out aA.out (by decide)) (fun _ hk => hk.2) (.int .i64 aH)) (fun _ hk => hk.2) (.slice bD aI.length bG)) (fun _ hk => trivial), IsS175.bl HB.out⟩

end Go.Proofs.Ythmijfekdeagpaa.PFnFades

/- Of the proof of laws.FnRootPorts: a part. No condition beyond what its theorems say. -/
import Derived.Test.YthmijfekdeagpaaVFnRootPortsPx18
import Derived.Test.YthmijfekdeagpaaVFnRootPortsPx22
namespace Go.Proofs.Ythmijfekdeagpaa.PFnRootPorts
open Go.RowKit Go.Proofs.YthmijfekdeagpaaW.PrintWords Go.Proofs.YthmijfekdeagpaaW.PrintLast Go.Proofs.YthmijfekdeagpaaW.PrintMore
attribute [local go_sem] max2_int min2_int max_two min_two max_three min_three max_four min_four   -- for this text's walks alone
set_option linter.unusedVariables false
set_option linter.unusedSimpArgs false

mutual
def spec_React.j0 : Nat → List (S151) → Bool → Int → List (S79) → Int → Int → Int → Int → Int → Int → Int → Bool → Option (Int × (List (S79)) × (List (S151)))
 | 0, _, _, _, _, _, _, _, _, _, _, _, _ => none
 | k + 1, x6, aW, aA, aC, aD, aE, aG, aH, aI, aJ, aK, aN => if aW = true then ((spec_l8Copy.f aA aC).bind fun aQ => (some (aQ.1, aQ.2, x6))) else ((spec_l8Copy.f aA aC).bind fun aT => ((spec_l8In.f k aT.1 aT.2 aD aE aG aH aI aJ aK aN).bind fun aV => (spec_React.l0 k x6 0 aA aC aD aE aG aH aI aJ aK aN aV.1 aV.2)))
def spec_React.l0 : Nat → List (S151) → Int → Int → List (S79) → Int → Int → Int → Int → Int → Int → Int → Bool → Int → List (S79) → Option (Int × (List (S79)) × (List (S151)))
 | 0, _, _, _, _, _, _, _, _, _, _, _, _, _, _ => none
 | k + 1, x6, x8, aT, aC, aD, aE, aG, aH, aI, aJ, aK, aN, aQ, aA => if x8 < (aC.length : Int) then (if 0 ≤ x8 then (if x8 < (aA.length : Int) then (if (((rd_T79 aA x8).f7) != ((rd_T79 aC x8).f7)) = true then (if x6.length < 2199023255552 then (spec_React.l0 k (x6 ++ [(⟨2, x8, (⟨0, 0, 0, 0⟩ : S73), 0, (rd_T79 aA x8).f7⟩ : S151)]) (wrap64 (x8 + 1)) aT aC aD aE aG aH aI aJ aK aN aQ aA) else (none)) else (spec_React.l0 k x6 (wrap64 (x8 + 1)) aT aC aD aE aG aH aI aJ aK aN aQ aA)) else (none)) else (none)) else (spec_React.l1 k x6 0 aD aE aG aH aI aJ aK aN aQ aA)
def spec_React.l1 : Nat → List (S151) → Int → Int → Int → Int → Int → Int → Int → Int → Bool → Int → List (S79) → Option (Int × (List (S79)) × (List (S151)))
 | 0, _, _, _, _, _, _, _, _, _, _, _, _ => none
 | k + 1, x6, x9, aA, aD, aE, aG, aH, aI, aJ, aK, aN, aC => if x9 < (aC.length : Int) then (spec_React.j3 k x6 x9 (aA == 2) aA aD aE aG aH aI aJ aK aN aC) else (spec_React.j3 k x6 x9 false aA aD aE aG aH aI aJ aK aN aC)
def spec_React.j3 : Nat → List (S151) → Int → Bool → Int → Int → Int → Int → Int → Int → Int → Bool → Int → List (S79) → Option (Int × (List (S79)) × (List (S151)))
 | 0, _, _, _, _, _, _, _, _, _, _, _, _, _ => none
 | k + 1, x6, x9, aV, aE, aG, aH, aI, aJ, aK, aN, aQ, aC, aA => if aV = true then (if 0 ≤ x9 then (if x9 < (aA.length : Int) then (if ((rd_T79 aA x9).f5) = 2 then ((spec_Own.f k aC aA x9).bind fun aD => ((spec_Hops.f k aC aA).bind fun aT => (if x6.length < 2199023255552 then (spec_React.l1 k (x6 ++ [(⟨1, x9, (⟨aD.1, aD.2.1, aD.2.2.1, aD.2.2.2⟩ : S73), aT, false⟩ : S151)]) (wrap64 (x9 + 1)) aE aG aH aI aJ aK aN aQ aC aA) else (none)))) else (spec_React.l1 k x6 (wrap64 (x9 + 1)) aE aG aH aI aJ aK aN aQ aC aA)) else (none)) else (none)) else (some (aC, aA, x6))
end
def spec_React.f (k : Nat) (aD : Int) (aA : List (S79)) (aE : Int) (aC : Int) (aG : Int) (aH : Int) (aI : Int) (aJ : Int) (aK : Int) (aN : Bool) : Option (Int × (List (S79)) × (List (S151))) := (some (([] : List (S151)) : List (S151))).bind fun aQ => ((spec_BridgeOk.f k aD aA).bind fun aT => (if aT = true then ((spec_InOk.f aE aC aG aH aI aJ aK aN).bind fun aV => (if aV = true then (spec_React.j0 k aQ (decide (aC ≥ (aA.length : Int))) aD aA aE aC aG aH aI aJ aK aN) else (spec_React.j0 k aQ true aD aA aE aC aG aH aI aJ aK aN))) else (spec_React.j0 k aQ true aD aA aE aC aG aH aI aJ aK aN)))
theorem spec_React.mono_l : ∀ k, (∀ y0 y1 y2 y3 y4 y5 y6 y7 y8 y9 aA aC, LeO (spec_React.j0 k y0 y1 y2 y3 y4 y5 y6 y7 y8 y9 aA aC) (spec_React.j0 (k + 1) y0 y1 y2 y3 y4 y5 y6 y7 y8 y9 aA aC)) ∧ (∀ y0 y1 y2 y3 y4 y5 y6 y7 y8 y9 aA aC aD aE, LeO (spec_React.l0 k y0 y1 y2 y3 y4 y5 y6 y7 y8 y9 aA aC aD aE) (spec_React.l0 (k + 1) y0 y1 y2 y3 y4 y5 y6 y7 y8 y9 aA aC aD aE)) ∧ (∀ y0 y1 y2 y3 y4 y5 y6 y7 y8 y9 aA aC, LeO (spec_React.l1 k y0 y1 y2 y3 y4 y5 y6 y7 y8 y9 aA aC) (spec_React.l1 (k + 1) y0 y1 y2 y3 y4 y5 y6 y7 y8 y9 aA aC)) ∧ (∀ y0 y1 y2 y3 y4 y5 y6 y7 y8 y9 aA aC aD, LeO (spec_React.j3 k y0 y1 y2 y3 y4 y5 y6 y7 y8 y9 aA aC aD) (spec_React.j3 (k + 1) y0 y1 y2 y3 y4 y5 y6 y7 y8 y9 aA aC aD))
 | 0 => ⟨fun _ _ _ _ _ _ _ _ _ _ _ _ r h => by simp [spec_React.j0] at h, fun _ _ _ _ _ _ _ _ _ _ _ _ _ _ r h => by simp [spec_React.l0] at h, fun _ _ _ _ _ _ _ _ _ _ _ _ r h => by simp [spec_React.l1] at h, fun _ _ _ _ _ _ _ _ _ _ _ _ _ r h => by simp [spec_React.j3] at h⟩
 | k + 1 => by
  obtain ⟨ih0, ih1, ih2, ih3⟩ := spec_React.mono_l k
  refine ⟨?_, ?_, ?_, ?_⟩
  ·intro y0 y1 y2 y3 y4 y5 y6 y7 y8 y9 aA aC
   unfold spec_React.j0
   repeat' first|(with_reducible first|apply ih0|apply ih1|apply ih2|apply ih3|apply spec_BridgeOk.mono|apply spec_Hops.mono|apply spec_Own.mono|apply spec_l8In.mono|exact LeO.refl _|exact LeO.none _|refine LeO.ite ?_ ?_|refine LeO.bind ?_ (fun _ => ?_))|exact LeO.none _|refine LeO.ite ?_ ?_|refine LeO.bind ?_ (fun _ => ?_)
  ·intro y0 y1 y2 y3 y4 y5 y6 y7 y8 y9 aA aC aD aE
   unfold spec_React.l0
   repeat' first|(with_reducible first|apply ih0|apply ih1|apply ih2|apply ih3|apply spec_BridgeOk.mono|apply spec_Hops.mono|apply spec_Own.mono|apply spec_l8In.mono|exact LeO.refl _|exact LeO.none _|refine LeO.ite ?_ ?_|refine LeO.bind ?_ (fun _ => ?_))|exact LeO.none _|refine LeO.ite ?_ ?_|refine LeO.bind ?_ (fun _ => ?_)
  ·intro y0 y1 y2 y3 y4 y5 y6 y7 y8 y9 aA aC
   unfold spec_React.l1
   repeat' first|(with_reducible first|apply ih0|apply ih1|apply ih2|apply ih3|apply spec_BridgeOk.mono|apply spec_Hops.mono|apply spec_Own.mono|apply spec_l8In.mono|exact LeO.refl _|exact LeO.none _|refine LeO.ite ?_ ?_|refine LeO.bind ?_ (fun _ => ?_))|exact LeO.none _|refine LeO.ite ?_ ?_|refine LeO.bind ?_ (fun _ => ?_)
  ·intro y0 y1 y2 y3 y4 y5 y6 y7 y8 y9 aA aC aD
   unfold spec_React.j3
   repeat' first|(with_reducible first|apply ih0|apply ih1|apply ih2|apply ih3|apply spec_BridgeOk.mono|apply spec_Hops.mono|apply spec_Own.mono|apply spec_l8In.mono|exact LeO.refl _|exact LeO.none _|refine LeO.ite ?_ ?_|refine LeO.bind ?_ (fun _ => ?_))|exact LeO.none _|refine LeO.ite ?_ ?_|refine LeO.bind ?_ (fun _ => ?_)
theorem spec_React.mono : ∀ a0 a1 a2 a3 a4 a5 a6 a7 a8 a9 k, LeO (spec_React.f k a0 a1 a2 a3 a4 a5 a6 a7 a8 a9) (spec_React.f (k + 1) a0 a1 a2 a3 a4 a5 a6 a7 a8 a9) := by
 intro a0 a1 a2 a3 a4 a5 a6 a7 a8 a9 k
 obtain ⟨ih0, ih1, ih2, ih3⟩ := spec_React.mono_l k
 unfold spec_React.f
 repeat' first|(with_reducible first|apply ih0|apply ih1|apply ih2|apply ih3|apply spec_BridgeOk.mono|apply spec_Hops.mono|apply spec_Own.mono|apply spec_l8In.mono|exact LeO.refl _|exact LeO.none _|refine LeO.ite ?_ ?_|refine LeO.bind ?_ (fun _ => ?_))|exact LeO.none _|refine LeO.ite ?_ ?_|refine LeO.bind ?_ (fun _ => ?_)
def spec_React.T8 : Bool × List (List Nat × List Nat) := (true, [([], []), ([0], [0]), ([], []), ([1, 2], [1, 2]), ([3], [3]), ([4], [4]), ([], []), ([6], [6]), ([], []), ([7, 8], [7, 8]), ([9], [9]), ([10], [10]), ([5, 11], [5, 11])])
def spec_React.B8 : List Nat := [0, 1, 0, 7, 15, 31, 0, 64, 0, 448, 960, 1984, 4095]
theorem spec_React.tab8 : rtab .any (opsOf Try.f54 8) = spec_React.T8 := by kernel_rfl
theorem spec_React.bits8 : waitsOk spec_React.T8.2 spec_React.B8 = true := by kernel_rfl
def spec_React.T14 : Bool × List (List Nat × List Nat) := (true, [([], []), ([], []), ([], []), ([], []), ([2, 3], [2, 3]), ([], []), ([5, 4], [5]), ([1, 4, 6], [1, 4, 6]), ([7], [7]), ([0, 8, 6], [0, 8]), ([9, 9, 0, 1, 2, 3, 4, 5, 6, 7, 8, 9], [0, 9])])
def spec_React.B14 : List Nat := [0, 0, 0, 0, 12, 0, 60, 126, 254, 511, 1023]
theorem spec_React.tab14 : rtab .any (opsOf Try.f54 14) = spec_React.T14 := by kernel_rfl
theorem spec_React.bits14 : waitsOk spec_React.T14.2 spec_React.B14 = true := by kernel_rfl
set_option maxHeartbeats 60000000 in
set_option maxRecDepth 100000 in
theorem spec_React.calls (k : Nat) (aX : Int) (cR : Option Addr) (bX : Nat) (aJ : List (S79)) (bK : Int) (bI : Int) (bL : Int) (bM : Int) (bN : Int) (bO : Int) (bP : Int) (bQ : Bool) (r1 : Int) (r2 : List (S79)) (r3 : List (S151)) (w : World) (hr0_1 : Kd.C k79 w cR aJ.length aJ) (hc0_1 : aJ.length ≤ bX) (h : spec_React.f k aX aJ bK bI bL bM bN bO bP bQ = some (r1, r2, r3)) :
  Calls Try.prog 54 #[.agg #[aX, .slice cR aJ.length bX], .agg #[bK, bI, bL, bM, bN, bO, bP, bQ]] w fun e w' => ∃ lE lF : Value, e = .returned (.tuple #[.agg #[r1, lE], lF]) ∧ Kd.R k79 79 w' w.heap.size (fun _ => True) lE r2 ∧ Kd.R k151 151 w' w.heap.size (fun _ => True) lF r3 ∧ Below w.heap.size w w' := by
 have rV := Try.underlying28
 have rW := Try.underlying89
 have oK := Try.underlying151
 have dN := aM hr0_1
 have eK := aM hc0_1
 clear hr0_1 hc0_1
 have HB := aM (Below.refl w.heap.size w)
 have H : ((some (([] : List (S151)) : List (S151))).bind fun eA => ((spec_BridgeOk.f k aX aJ).bind fun iG => (if iG = true then ((spec_InOk.f bK bI bL bM bN bO bP bQ).bind fun iH => (if iH = true then (spec_React.j0 k eA (decide (bI ≥ (aJ.length : Int))) aX aJ bK bI bL bM bN bO bP bQ) else (spec_React.j0 k eA true aX aJ bK bI bL bM bN bO bP bQ))) else (spec_React.j0 k eA true aX aJ bK bI bL bM bN bO bP bQ)))) = some (r1, r2, r3) := h
 clear h
 obtain ⟨eA, iQ, H⟩ := hS H
 have iR := aM iQ
 clear iQ
 have jX := aM H
 clear H
 go_enter Try.func54, Try.ntmps54
 go_upto_region 2 with (first | ((with_reducible refine gD (N := 2) rfl ?_); (try (refine gate_guard (by rfl) ?_; dsimp only)); refine bE (N := 2) (cs := #[aX, .slice cR aJ.length bX]) (t := 28) ?_; intro bW hg w4 hbox hb; have aD := aM (hbox); have oL := gF hg HB; have oM := gF hg HB; replace HB := rS HB hb; clear hb hbox hg) | ((with_reducible refine gD (N := 3) rfl ?_); (try (refine gate_guard (by rfl) ?_; dsimp only)); refine bE (N := 3) (cs := #[bK, bI, bL, bM, bN, bO, bP, bQ]) (t := 89) ?_; intro aW hg w5 hbox hb; have aA := aM (hbox); have oO := gF hg HB; have oP := gF hg HB; have cN := nM hg aD; have cO := nH hg aD; replace aD := rB aD hb; replace HB := rS HB hb; clear hb hbox hg) | ((with_reducible refine gD (N := 4) rfl ?_); (try (refine gate_guard (by rfl) ?_; dsimp only)); refine bE (N := 4) (cs := #[.int .i64 0, .slice none 0 0]) (t := 28) ?_; intro bR hg w6 hbox hb; have aE := aM (hbox); have oQ := gF hg HB; have oR := gF hg HB; have cP := nM hg aD; have cQ := nH hg aD; have dI := nM hg aA; have dJ := nH hg aA; replace aD := rB aD hb; replace aA := rB aA hb; replace HB := rS HB hb; clear hb hbox hg) | ((with_reducible refine gD (N := 10) rfl ?_); (try (refine gate_guard (by rfl) ?_; dsimp only)); refine Kd.R_lit k151 _ 151 ?hg (N := 10) ?hd (xs := ([] : List (S151))) (inner := []) (ok := fun _ => True) (okp := fun _ => True) ?hr ?hp (fun _ hk => hk) trivial (Below.refl _ _) (Nat.le_refl _) (by simp) ?_; (case hd => rfl); (case hg => rfl); (case hr => first | (go_simp; done) | (go_simp; rfl)); (case hp => exact (Reps.none _ _)); intro iI w7 ho8 hb hg_ hnew_; clear hg_ hnew_; (first | rw [← iR.out] at ho8 | (simp only [Int.reduceToNat] at ho8; rw [← iR.out] at ho8)); have cT := aM (Kd.R_lower ho8 (below_size (bl HB.out))); replace aD := rB aD hb; replace aA := rB aA hb; replace aE := rB aE hb; replace HB := rS HB hb; clear hb ho8))
 (try simp only [Act.put, sA, sZ, sS])
 go_cut [26] (fun mP wc => ∃ (kq : Nat) (fH : Bool), mP = .bool fH ∧ Aside0 (spec_React.j0 kq eA fH aX aJ bK bI bL bM bN bO bP bQ = some (r1, r2, r3)) ∧ Aside0 (kq ≤ k) ∧ Aside0 (Kd.R k151 151 wc w.heap.size (fun _ => True) iI eA) ∧ Aside0 (wc.heap[bW]? = some (.cells #[aX, (.slice cR aJ.length bX)] 28 (0, 0))) ∧ Aside0 (wc.heap[aW]? = some (.cells #[bK, bI, bL, bM, bN, bO, bP, bQ] 89 (0, 0))) ∧ Aside0 (wc.heap[bR]? = some (.cells #[.int .i64 0, (.slice none 0 0)] 28 (0, 0))) ∧ Aside0 (Below w.heap.size w wc))
 case first =>
  have H := jX.out
  clear jX
  obtain ⟨iG, lG, H⟩ := hB H
  have A9 := aM lG
  clear lG
  by_cases fE : iG = true
  case neg =>
   replace fE := Bool.eq_false_iff.mpr fE
   subst fE
   replace H := hF H
   have H' := aM H
   clear H
   have oS := cN.out
   have oT := cO.out
   have oU := cP.out
   have oV := cQ.out
   have fI := cA2 aD.out
   go_wp2_with (first | ((with_reducible refine gC (f := 46) rfl ?_); refine gL (some 12) Try.func46 #[.agg #[aX, .slice cR aJ.length bX]] ?_; (with_reducible refine (spec_BridgeOk.calls k aX _ _ aJ false _ ?side1 ?side2 A9.out).mono ?_); (case side1 => exact cM (cB dN.out HB.out)); (case side2 => exact eK.out); rintro e sH ⟨rfl, hb⟩; refine ⟨_, rfl, ?_⟩; replace cT := aM (kB (kr cT.out) hb); replace aD := rB aD hb; replace aA := rB aA hb; replace aE := rB aE hb; replace HB := rS HB hb; (try clear hb)))
   go_meet
   case rel => exact ⟨_, (true), xE, H', ⟨by first | omega | exact Nat.le_refl _⟩, ⟨kr cT.out⟩, ⟨bk aD.out⟩, ⟨bk aA.out⟩, ⟨bk aE.out⟩, ⟨bl HB.out⟩⟩
  subst fE
  replace H := hP H rfl
  obtain ⟨iH, jY, H⟩ := hB H
  have lH := aM jY
  clear jY
  by_cases fF : iH = true
  case pos =>
   subst fF
   replace H := hP H rfl
   have H' := aM H
   clear H
   have oW := cN.out
   have oX := cO.out
   have oY := cP.out
   have oZ := cQ.out
   have fK := cA2 aD.out
   go_wp2_with (first | ((with_reducible refine gC (f := 46) rfl ?_); refine gL (some 12) Try.func46 #[.agg #[aX, .slice cR aJ.length bX]] ?_; (with_reducible refine (spec_BridgeOk.calls k aX _ _ aJ true _ ?side1 ?side2 A9.out).mono ?_); (case side1 => exact cM (cB dN.out HB.out)); (case side2 => exact eK.out); rintro e sI ⟨rfl, hb⟩; refine ⟨_, rfl, ?_⟩; replace cT := aM (kB (kr cT.out) hb); replace aD := rB aD hb; replace aA := rB aA hb; replace aE := rB aE hb; replace HB := rS HB hb; (try clear hb); have pA := dI.out; have pB := dJ.out; have fL := cA8 aA.out) | (go_at_call 132; (with_reducible refine (spec_InOk.calls bK bI bL bM bN bO bP bQ true _ lH.out).mono ?_); rintro e sJ ⟨rfl, hb⟩; replace cT := aM (kB (kr cT.out) hb); replace aD := rB aD hb; replace aA := rB aA hb; replace aE := rB aE hb; replace HB := rS HB hb; (try clear hb); have fM := cA8 aA.out; have fN := cA2 aD.out))
   go_meet
   case rel => exact ⟨_, (decide (bI ≥ (aJ.length : Int))), xE, H', ⟨by first | omega | exact Nat.le_refl _⟩, ⟨kr cT.out⟩, ⟨bk aD.out⟩, ⟨bk aA.out⟩, ⟨bk aE.out⟩, ⟨bl HB.out⟩⟩
  replace fF := Bool.eq_false_iff.mpr fF
  subst fF
  replace H := hF H
  have H' := aM H
  clear H
  have pC := cN.out
  have pD := cO.out
  have pE := cP.out
  have pF := cQ.out
  have fO := cA2 aD.out
  go_wp2_with (first | ((with_reducible refine gC (f := 46) rfl ?_); refine gL (some 12) Try.func46 #[.agg #[aX, .slice cR aJ.length bX]] ?_; (with_reducible refine (spec_BridgeOk.calls k aX _ _ aJ true _ ?side1 ?side2 A9.out).mono ?_); (case side1 => exact cM (cB dN.out HB.out)); (case side2 => exact eK.out); rintro e sK ⟨rfl, hb⟩; refine ⟨_, rfl, ?_⟩; replace cT := aM (kB (kr cT.out) hb); replace aD := rB aD hb; replace aA := rB aA hb; replace aE := rB aE hb; replace HB := rS HB hb; (try clear hb); have pG := dI.out; have pH := dJ.out; have fP := cA8 aA.out) | (go_at_call 132; (with_reducible refine (spec_InOk.calls bK bI bL bM bN bO bP bQ false _ lH.out).mono ?_); rintro e sL ⟨rfl, hb⟩; replace cT := aM (kB (kr cT.out) hb); replace aD := rB aD hb; replace aA := rB aA hb; replace aE := rB aE hb; replace HB := rS HB hb; (try clear hb)))
  go_meet
  case rel => exact ⟨_, (true), xE, H', ⟨by first | omega | exact Nat.le_refl _⟩, ⟨kr cT.out⟩, ⟨bk aD.out⟩, ⟨bk aA.out⟩, ⟨bk aE.out⟩, ⟨bl HB.out⟩⟩
 case rest =>
  clear jX
  repeat first|clear c1|clear c2|clear p2|clear c3|clear c4|clear c5|clear fE|clear fF|clear jZ|clear kA|clear kC|clear kD|clear kE|clear kG|clear kH|clear kI|clear fK|clear eV|clear fL|clear fM|clear fN|clear fO|clear eW|clear fP|clear fI|clear eX|clear eY|clear eZ|clear fA|clear fB|clear fC|clear fD
  obtain ⟨kq, fH, rfl, HA, HJ2, aK, aD, aA, aE, HB⟩ := hcut
  cases kq with
  | zero => exact absurd HA.out (by simp [spec_React.j0])
  | succ iF =>
   have H := HA.out
   clear HA
   simp only [spec_React.j0] at H
   by_cases fS : fH = true
   case pos =>
    subst fS
    replace H := hP H rfl
    obtain ⟨⟨hO, hU⟩, kJ, H⟩ := hB H
    try dsimp only at H
    have mQ := aM kJ
    clear kJ
    simp only [Option.some.injEq, Prod.mk.injEq] at H
    obtain ⟨rfl, rfl, rfl⟩ := H
    have pI := cN.out
    have pJ := cO.out
    have pK := cP.out
    have pL := cQ.out
    have hX := cA2 aD.out
    go_wp2_with (first | ((with_reducible refine gC (f := 67) rfl ?_); refine gL (some 28) Try.func67 #[.agg #[aX, .slice cR aJ.length bX]] ?_; (with_reducible refine (spec_l8Copy.calls aX _ _ aJ hO hU _ ?side1 ?side2 mQ.out).mono ?_); (case side1 => exact cM (cB dN.out HB.out)); (case side2 => exact eK.out); rintro e sM ⟨rX, rfl, ho0, hb⟩; refine ⟨_, rfl, ?_⟩; have iS := aM (Kd.R_lower ho0 (below_size (bl HB.out))); replace aK := aM (kB (kr aK.out) hb); replace aD := rB aD hb; replace aA := rB aA hb; replace aE := rB aE hb; replace HB := rS HB hb; (repeat first|clear hb|clear ho0); have pM := dJ.out; have pN := dI.out; have hY := cA2 aE.out; obtain ⟨iJ, iK, lR⟩ := Kd.R_slice iS.out; subst lR))
    refine bodyPost_ret (results_ct rfl _ _ bR 28 #[hO, .slice iJ hU.length iK] (0, 0) _ rfl (bm aE.out) Try.underlying28 rfl (by kernel_rfl)) rfl ?_
    exact ⟨_, _, xW, by (with_reducible repeat (first | apply Kd.R_alloc | apply Kd.R_drewN | apply Kd.R_drew)); exact Kd.R_mono (kF (p := ⟨bR, 1, none⟩) (kF (p := ⟨bR, 0, none⟩) (Kd.R_types iS.out aE.out (by decide)) (fun _ hk => hk.2) (.int .i64 hO)) (fun _ hk => hk.2) (.slice iJ hU.length iK)) (fun _ hk => trivial), by (with_reducible repeat (first | apply Kd.R_alloc | apply Kd.R_drewN | apply Kd.R_drew)); exact Kd.R_mono (kF (p := ⟨bR, 1, none⟩) (kF (p := ⟨bR, 0, none⟩) (Kd.R_types aK.out aE.out (by decide)) (fun _ hk => hk.2) (.int .i64 hO)) (fun _ hk => hk.2) (.slice iJ hU.length iK)) (fun _ hk => trivial), bl HB.out⟩
   replace fS := Bool.eq_false_iff.mpr fS
   subst fS
   replace H := hF H
   obtain ⟨⟨eB, cS⟩, kK, H⟩ := hB H
   try dsimp only at H
   have lI := aM kK
   clear kK
   obtain ⟨⟨bU, aI⟩, kL, H⟩ := hB H
   try dsimp only at H
   have kM := aM kL
   clear kL
   have H' := aM H
   clear H
   try go_wp2
   replace aK := aM (Kd.R_drew aK.out)
   replace aD := aM (blk_drew aD.out)
   replace aA := aM (blk_drew aA.out)
   replace aE := aM (blk_drew aE.out)
   replace HB := aM (below_drew1 HB.out)
   refine start_ (n := 6) (S := fun w' => cT2 w' bW (.int .i64 aX) (.slice cR aJ.length bX) (cS8 w' aW (.int .i64 bK) (.int .i64 bI) (.int .i64 bL) (.int .i64 bM) (.int .i64 bN) (.int .i64 bO) (.int .i64 bP) (.bool bQ))) (ds := []) (dn 6 0) (by kernel_rfl) rfl rfl ⟨cI aD.out 0, cI aD.out 1, cI aA.out 0, cI aA.out 1, cI aA.out 2, cI aA.out 3, cI aA.out 4, cI aA.out 5, cI aA.out 6, cI aA.out 7⟩ (fun hHeld => ?_)
   generalize wc.drew = sN at aK aD aA aE HB hHeld ⊢
   refine take_ (i := 0) (N := some 30) (v := ?_) (a' := ?_) #[Y,U,U,U,U,U] rfl rfl (by kernel_rfl) (fun _ _ _ h => h) (Or.inl ⟨by rfl, ?_⟩) hHeld ?_ ?_
   rotate_left
   ·rintro w' ⟨s0, s1, s2, s3, s4, s5, s6, s7, s8, s9⟩
    go_simp
    with_reducible rfl
   rotate_left
   ·simp only [Act.put, sA, sZ, sS, i64_w, i32_w]
    rfl
   refine take_ (i := 2) (N := some 32) (v := ?_) (a' := ?_) #[Y,U,Y,U,U,U] rfl rfl (by kernel_rfl) (fun _ _ _ h => h) (Or.inl ⟨by rfl, ?_⟩) hHeld ?_ ?_
   rotate_left
   ·rintro w' ⟨s0, s1, s2, s3, s4, s5, s6, s7, s8, s9⟩
    go_simp
    with_reducible rfl
   rotate_left
   ·simp only [Act.put, sA, sZ, sS, i64_w, i32_w]
    rfl
   refine join_ (σ := Value × Value × Nat) 1 #[Y,Y,Y,Y,Y,U] (fun s_ => [(31, .agg #[eB, s_.1]), (33, .agg #[bU, s_.2.1]), (7, .pointer (some ⟨s_.2.2, 0, none⟩))]) (fun s_ w' => (w'.cell? ⟨bW, 0, none⟩ = some aX ∧ w'.cell? ⟨bW, 1, none⟩ = some (.slice cR aJ.length bX) ∧ w'.cell? ⟨aW, 0, none⟩ = some bK ∧ w'.cell? ⟨aW, 1, none⟩ = some bI ∧ w'.cell? ⟨aW, 2, none⟩ = some bL ∧ w'.cell? ⟨aW, 3, none⟩ = some bM ∧ w'.cell? ⟨aW, 4, none⟩ = some bN ∧ w'.cell? ⟨aW, 5, none⟩ = some bO ∧ w'.cell? ⟨aW, 6, none⟩ = some bP ∧ w'.cell? ⟨aW, 7, none⟩ = some bQ) ∧ (Kd.R k79 79 w' w.heap.size (fun _ => True) s_.2.1 aI) ∧ (Kd.R k151 151 w' w.heap.size (fun _ => True) iI eA) ∧ (w'.heap[bW]? = some (.cells #[aX, .slice cR aJ.length bX] 28 (0, 0))) ∧ (w'.heap[aW]? = some (.cells #[bK, bI, bL, bM, bN, bO, bP, bQ] 89 (0, 0))) ∧ (w'.heap[bR]? = some (.cells #[.int .i64 0, .slice none 0 0] 28 (0, 0))) ∧ (w'.heap[s_.2.2]? = some (.cells #[.int .i64 0, .slice none 0 0] 28 (0, 0))) ∧ (w.heap.size ≤ s_.2.2) ∧ (w.heap.size ≤ s_.2.2) ∧ (bW ≠ s_.2.2) ∧ (s_.2.2 ≠ bW) ∧ (aW ≠ s_.2.2) ∧ (s_.2.2 ≠ aW) ∧ (bR ≠ s_.2.2) ∧ (s_.2.2 ≠ bR) ∧ (Below w.heap.size w w')) ?_ ?_
   rotate_left
   ·intro hCont
    refine two_ (i := 1) (j := 4) (Ni := some 31) (Nj := some 7) #[Y,Y,Y,U,U,U] #[Y,U,Y,U,Y,U] rfl rfl rfl rfl (by kernel_rfl) (by decide) (by decide) (fun K hK => ?_) (fun K hK => ?_)
    ·skip
     refine goes_ Try.func67 (by kernel_rfl) rfl #[.agg #[aX, .slice cR aJ.length bX]] (by rfl) rfl rfl xR ?_
     with_reducible refine (spec_l8Copy.calls aX _ _ aJ eB cS _ ?side1 ?side2 lI.out).mono ?_
     (case side1 => exact cM (cB dN.out HB.out))
     (case side2 => exact eK.out)
     rintro e mR ⟨kN, rfl, ho0, hb⟩
     refine ⟨_, rfl, ?_⟩
     have aZ := aM (Kd.R_lower ho0 (below_size (bl HB.out)))
     replace aK := aM (kB (kr aK.out) hb)
     replace aD := rB aD hb
     replace aA := rB aA hb
     replace aE := rB aE hb
     replace HB := rS HB hb
     (try clear hb)
     (try clear hb2)
     (try clear hk)
     (try clear hi)
     (try clear ho0)
     obtain ⟨hZ, iA, kO⟩ := Kd.R_slice aZ.out
     (first | subst kO | (injection kO with f1_ f2_ f3_; have f4_ := f1_.symm; have f5_ := f3_.symm; clear f1_ f2_ f3_; subst f4_; subst f5_))
     refine hK.out _ _ ⟨cI aD.out 0, cI aD.out 1, cI aA.out 0, cI aA.out 1, cI aA.out 2, cI aA.out 3, cI aA.out 4, cI aA.out 5, cI aA.out 6, cI aA.out 7⟩ (fun hHeld => ?_)
     clear hK K
     refine norm_ (a' := ?_) ?_ ?_
     rotate_left
     ·show Act.put _ (some 31) _ = _
      simp only [Act.put, sA, sZ, sS, i64_w, i32_w]
      rfl
     refine two_ (i := 3) (j := 4) (Ni := some 33) (Nj := some 7) #[Y,Y,Y,Y,U,U] #[Y,Y,Y,U,Y,U] rfl rfl rfl rfl (by kernel_rfl) (by decide) (by decide) (fun K hK => ?_) (fun K hK => ?_)
     ·skip
      refine goes_ Try.func133 (by kernel_rfl) rfl #[.agg #[eB, .slice hZ cS.length iA], .agg #[bK, bI, bL, bM, bN, bO, bP, bQ]] (by rfl) rfl rfl xR ?_
      with_reducible refine (spec_l8In.calls iF eB (fun k_ => some k_ = (.slice hZ cS.length iA : Value).ownBlock) (.slice hZ cS.length iA) cS bK bI bL bM bN bO bP bQ bU aI w _ ?side1 ?side2 kM.out).mono ?_
      (case side1 => exact bl HB.out)
      (case side2 => exact Kd.R_tight rfl aZ.out)
      rintro e sO ⟨eP, rfl, ho0, hb, hkp⟩
      refine ⟨_, rfl, ?_⟩
      have dH := aM (Kd.R_mono (ok' := fun k_ => True) ho0 (fun k_ hk_ => trivial))
      replace aK := aM (Kd.R_mono (ok' := fun k_ => True) (Kd.R_keptB ((Kd.R_apart' aK.out (Kd.R_typed aZ.out) (by decide))) hkp (fun k_ hk_ hs_ => (hk_.2) hs_)) (fun k_ hk_ => trivial))
      replace aD := aM (blk_kept (bk aD.out) hkp (fun hs_ => (fun e_ => (Kd.R_ne aZ.out aD.out (by decide)) e_) hs_))
      replace aA := aM (blk_kept (bk aA.out) hkp (fun hs_ => (fun e_ => (Kd.R_ne aZ.out aA.out (by decide)) e_) hs_))
      replace aE := aM (blk_kept (bk aE.out) hkp (fun hs_ => (fun e_ => (Kd.R_ne aZ.out aE.out (by decide)) e_) hs_))
      replace HB := aM (hb)
      clear aZ
      (try clear hb)
      (try clear hkp)
      (try clear ho0)
      refine hK.out _ _ ⟨cI aD.out 0, cI aD.out 1, cI aA.out 0, cI aA.out 1, cI aA.out 2, cI aA.out 3, cI aA.out 4, cI aA.out 5, cI aA.out 6, cI aA.out 7⟩ (fun hHeld => ?_)
      clear hK K
      refine norm_ (a' := ?_) ?_ ?_
      rotate_left
      ·show Act.put _ (some 33) _ = _
       simp only [Act.put, sA, sZ, sS, i64_w, i32_w]
       rfl
      refine one_ (i := 4) (N := some 7) #[Y,Y,Y,Y,Y,U] rfl rfl (by kernel_rfl) (by decide) (fun K hK => ?_)
      refine box_step ?hg (N := 7) ?hd (cs := #[.int .i64 0, .slice none 0 0]) (t := 28) ?hr ?_; (case hd => rfl); (case hg => rfl); (case hr => first | (go_simp; done) | (go_simp; rfl))
      intro bJ hg lJ hbox hb
      have aG := aM (hbox)
      have eL := gF hg HB
      have eM := gF hg HB
      have aT := nM hg aD
      have aV := nH hg aD
      have bA := nM hg aA
      have bD := nH hg aA
      have bG := nM hg aE
      have bH := nH hg aE
      replace aK := aM (kB (kr aK.out) hb)
      replace dH := aM (kB (kr dH.out) hb)
      replace aD := rB aD hb
      replace aA := rB aA hb
      replace aE := rB aE hb
      replace HB := rS HB hb
      clear hb hbox hg
      refine hK.out _ _ ⟨cI aD.out 0, cI aD.out 1, cI aA.out 0, cI aA.out 1, cI aA.out 2, cI aA.out 3, cI aA.out 4, cI aA.out 5, cI aA.out 6, cI aA.out 7⟩ (fun hHeld => ?_)
      clear hK K
      refine norm_ (a' := ?_) ?_ ?_
      rotate_left
      ·show Act.put _ (some 7) _ = _
       simp only [Act.put, sA, sZ, sS, i64_w, i32_w]
       rfl
      exact norm_ (by simp only [putAll, Act.put, sA, sZ, sS]) (hCont (.slice hZ cS.length iA, eP, bJ) _ ⟨hHeld, (kr dH.out), (kr aK.out), (bk aD.out), (bk aA.out), (bk aE.out), (bk aG.out), eL.out, eM.out, aT.out, aV.out, bA.out, bD.out, bG.out, bH.out, (bl HB.out)⟩)
     ·skip
      refine box_step ?hg (N := 7) ?hd (cs := #[.int .i64 0, .slice none 0 0]) (t := 28) ?hr ?_; (case hd => rfl); (case hg => rfl); (case hr => first | (go_simp; done) | (go_simp; rfl))
      intro bJ hg mS hbox hb
      have aG := aM (hbox)
      have eL := gF hg HB
      have eM := gF hg HB
      have aT := nM hg aD
      have aV := nH hg aD
      have bA := nM hg aA
      have bD := nH hg aA
      have bG := nM hg aE
      have bH := nH hg aE
      replace aK := aM (kB (kr aK.out) hb)
      replace aZ := aM (kB (kr aZ.out) hb)
      replace aD := rB aD hb
      replace aA := rB aA hb
      replace aE := rB aE hb
      replace HB := rS HB hb
      clear hb hbox hg
      obtain ⟨eC, eD, fT⟩ := Kd.R_slice aZ.out
      (first | subst fT | (injection fT with f1_ f2_ f3_; have f4_ := f1_.symm; have f5_ := f3_.symm; clear f1_ f2_ f3_; subst f4_; subst f5_))
      refine hK.out _ _ ⟨cI aD.out 0, cI aD.out 1, cI aA.out 0, cI aA.out 1, cI aA.out 2, cI aA.out 3, cI aA.out 4, cI aA.out 5, cI aA.out 6, cI aA.out 7⟩ (fun hHeld => ?_)
      clear hK K
      refine norm_ (a' := ?_) ?_ ?_
      rotate_left
      ·show Act.put _ (some 7) _ = _
       simp only [Act.put, sA, sZ, sS, i64_w, i32_w]
       rfl
      refine one_ (i := 3) (N := some 33) #[Y,Y,Y,Y,Y,U] rfl rfl (by kernel_rfl) (by decide) (fun K hK => ?_)
      refine goes_ Try.func133 (by kernel_rfl) rfl #[.agg #[eB, .slice eC cS.length eD], .agg #[bK, bI, bL, bM, bN, bO, bP, bQ]] (by rfl) rfl rfl xR ?_
      with_reducible refine (spec_l8In.calls iF eB (fun k_ => some k_ = (.slice eC cS.length eD : Value).ownBlock) (.slice eC cS.length eD) cS bK bI bL bM bN bO bP bQ bU aI w _ ?side1 ?side2 kM.out).mono ?_
      (case side1 => exact bl HB.out)
      (case side2 => exact Kd.R_tight rfl aZ.out)
      rintro e lJ ⟨eP, rfl, ho0, hb, hkp⟩
      refine ⟨_, rfl, ?_⟩
      have dH := aM (Kd.R_mono (ok' := fun k_ => True) ho0 (fun k_ hk_ => trivial))
      replace aK := aM (Kd.R_mono (ok' := fun k_ => True) (Kd.R_keptB ((Kd.R_apart' aK.out (Kd.R_typed aZ.out) (by decide))) hkp (fun k_ hk_ hs_ => (hk_.2) hs_)) (fun k_ hk_ => trivial))
      replace aD := aM (blk_kept (bk aD.out) hkp (fun hs_ => (fun e_ => (Kd.R_ne aZ.out aD.out (by decide)) e_) hs_))
      replace aA := aM (blk_kept (bk aA.out) hkp (fun hs_ => (fun e_ => (Kd.R_ne aZ.out aA.out (by decide)) e_) hs_))
      replace aE := aM (blk_kept (bk aE.out) hkp (fun hs_ => (fun e_ => (Kd.R_ne aZ.out aE.out (by decide)) e_) hs_))
      replace aG := aM (blk_kept (bk aG.out) hkp (fun hs_ => (fun e_ => (Kd.R_ne aZ.out aG.out (by decide)) e_) hs_))
      replace HB := aM (hb)
      clear aZ
      (try clear hb)
      (try clear hkp)
      (try clear ho0)
      refine hK.out _ _ ⟨cI aD.out 0, cI aD.out 1, cI aA.out 0, cI aA.out 1, cI aA.out 2, cI aA.out 3, cI aA.out 4, cI aA.out 5, cI aA.out 6, cI aA.out 7⟩ (fun hHeld => ?_)
      clear hK K
      refine norm_ (a' := ?_) ?_ ?_
      rotate_left
      ·show Act.put _ (some 33) _ = _
       simp only [Act.put, sA, sZ, sS, i64_w, i32_w]
       rfl
      exact norm_ (by simp only [putAll, Act.put, sA, sZ, sS]) (hCont (.slice eC cS.length eD, eP, bJ) _ ⟨hHeld, (kr dH.out), (kr aK.out), (bk aD.out), (bk aA.out), (bk aE.out), (bk aG.out), eL.out, eM.out, aT.out, aV.out, bA.out, bD.out, bG.out, bH.out, (bl HB.out)⟩)
    ·skip
     refine box_step ?hg (N := 7) ?hd (cs := #[.int .i64 0, .slice none 0 0]) (t := 28) ?hr ?_; (case hd => rfl); (case hg => rfl); (case hr => first | (go_simp; done) | (go_simp; rfl))
     intro bJ hg mR hbox hb
     have aG := aM (hbox)
     have eL := gF hg HB
     have eM := gF hg HB
     have aT := nM hg aD
     have aV := nH hg aD
     have bA := nM hg aA
     have bD := nH hg aA
     have bG := nM hg aE
     have bH := nH hg aE
     replace aK := aM (kB (kr aK.out) hb)
     replace aD := rB aD hb
     replace aA := rB aA hb
     replace aE := rB aE hb
     replace HB := rS HB hb
     clear hb hbox hg
     refine hK.out _ _ ⟨cI aD.out 0, cI aD.out 1, cI aA.out 0, cI aA.out 1, cI aA.out 2, cI aA.out 3, cI aA.out 4, cI aA.out 5, cI aA.out 6, cI aA.out 7⟩ (fun hHeld => ?_)
     clear hK K
     refine norm_ (a' := ?_) ?_ ?_
     rotate_left
     ·show Act.put _ (some 7) _ = _
      simp only [Act.put, sA, sZ, sS, i64_w, i32_w]
      rfl
     refine one_ (i := 1) (N := some 31) #[Y,Y,Y,U,Y,U] rfl rfl (by kernel_rfl) (by decide) (fun K hK => ?_)
     refine goes_ Try.func67 (by kernel_rfl) rfl #[.agg #[aX, .slice cR aJ.length bX]] (by rfl) rfl rfl xR ?_
     with_reducible refine (spec_l8Copy.calls aX _ _ aJ eB cS _ ?side1 ?side2 lI.out).mono ?_
     (case side1 => exact cM (cB dN.out HB.out))
     (case side2 => exact eK.out)
     rintro e mS ⟨kN, rfl, ho0, hb⟩
     refine ⟨_, rfl, ?_⟩
     have aZ := aM (Kd.R_lower ho0 (below_size (bl HB.out)))
     replace aK := aM (kB (kr aK.out) hb)
     replace aD := rB aD hb
     replace aA := rB aA hb
     replace aE := rB aE hb
     replace aG := rB aG hb
     replace HB := rS HB hb
     (try clear hb)
     (try clear hb2)
     (try clear hk)
     (try clear hi)
     (try clear ho0)
     obtain ⟨eC, eD, fT⟩ := Kd.R_slice aZ.out
     (first | subst fT | (injection fT with f1_ f2_ f3_; have f4_ := f1_.symm; have f5_ := f3_.symm; clear f1_ f2_ f3_; subst f4_; subst f5_))
     refine hK.out _ _ ⟨cI aD.out 0, cI aD.out 1, cI aA.out 0, cI aA.out 1, cI aA.out 2, cI aA.out 3, cI aA.out 4, cI aA.out 5, cI aA.out 6, cI aA.out 7⟩ (fun hHeld => ?_)
     clear hK K
     refine norm_ (a' := ?_) ?_ ?_
     rotate_left
     ·show Act.put _ (some 31) _ = _
      simp only [Act.put, sA, sZ, sS, i64_w, i32_w]
      rfl
     refine one_ (i := 3) (N := some 33) #[Y,Y,Y,Y,Y,U] rfl rfl (by kernel_rfl) (by decide) (fun K hK => ?_)
     refine goes_ Try.func133 (by kernel_rfl) rfl #[.agg #[eB, .slice eC cS.length eD], .agg #[bK, bI, bL, bM, bN, bO, bP, bQ]] (by rfl) rfl rfl xR ?_
     with_reducible refine (spec_l8In.calls iF eB (fun k_ => some k_ = (.slice eC cS.length eD : Value).ownBlock) (.slice eC cS.length eD) cS bK bI bL bM bN bO bP bQ bU aI w _ ?side1 ?side2 kM.out).mono ?_
     (case side1 => exact bl HB.out)
     (case side2 => exact Kd.R_tight rfl aZ.out)
     rintro e lJ ⟨eP, rfl, ho0, hb, hkp⟩
     refine ⟨_, rfl, ?_⟩
     have dH := aM (Kd.R_mono (ok' := fun k_ => True) ho0 (fun k_ hk_ => trivial))
     replace aK := aM (Kd.R_mono (ok' := fun k_ => True) (Kd.R_keptB ((Kd.R_apart' aK.out (Kd.R_typed aZ.out) (by decide))) hkp (fun k_ hk_ hs_ => (hk_.2) hs_)) (fun k_ hk_ => trivial))
     replace aD := aM (blk_kept (bk aD.out) hkp (fun hs_ => (fun e_ => (Kd.R_ne aZ.out aD.out (by decide)) e_) hs_))
     replace aA := aM (blk_kept (bk aA.out) hkp (fun hs_ => (fun e_ => (Kd.R_ne aZ.out aA.out (by decide)) e_) hs_))
     replace aE := aM (blk_kept (bk aE.out) hkp (fun hs_ => (fun e_ => (Kd.R_ne aZ.out aE.out (by decide)) e_) hs_))
     replace aG := aM (blk_kept (bk aG.out) hkp (fun hs_ => (fun e_ => (Kd.R_ne aZ.out aG.out (by decide)) e_) hs_))
     replace HB := aM (hb)
     clear aZ
     (try clear hb)
     (try clear hkp)
     (try clear ho0)
     refine hK.out _ _ ⟨cI aD.out 0, cI aD.out 1, cI aA.out 0, cI aA.out 1, cI aA.out 2, cI aA.out 3, cI aA.out 4, cI aA.out 5, cI aA.out 6, cI aA.out 7⟩ (fun hHeld => ?_)
     clear hK K
     refine norm_ (a' := ?_) ?_ ?_
     rotate_left
     ·show Act.put _ (some 33) _ = _
      simp only [Act.put, sA, sZ, sS, i64_w, i32_w]
      rfl
     exact norm_ (by simp only [putAll, Act.put, sA, sZ, sS]) (hCont (.slice eC cS.length eD, eP, bJ) _ ⟨hHeld, (kr dH.out), (kr aK.out), (bk aD.out), (bk aA.out), (bk aE.out), (bk aG.out), eL.out, eM.out, aT.out, aV.out, bA.out, bD.out, bG.out, bH.out, (bl HB.out)⟩)
   rintro ⟨kN, eP, bJ⟩ dK ⟨hS_, h0_, h1_, h2_, h3_, h4_, h5_, h6_, h7_, h8_, h9_, h10_, h11_, h12_, h13_, h14_⟩
   have dH : Aside0 (Kd.R k79 79 dK w.heap.size (fun _ => True) eP aI) := ⟨h0_⟩
   have aG : Aside0 (dK.heap[bJ]? = some (.cells #[.int .i64 0, .slice none 0 0] 28 (0, 0))) := ⟨h5_⟩
   have eL : Aside0 (w.heap.size ≤ bJ) := ⟨h6_⟩
   have eM : Aside0 (w.heap.size ≤ bJ) := ⟨h7_⟩
   have aT : Aside0 (bW ≠ bJ) := ⟨h8_⟩
   have aV : Aside0 (bJ ≠ bW) := ⟨h9_⟩
   have bA : Aside0 (aW ≠ bJ) := ⟨h10_⟩
   have bD : Aside0 (bJ ≠ aW) := ⟨h11_⟩
   have bG : Aside0 (bR ≠ bJ) := ⟨h12_⟩
   have bH : Aside0 (bJ ≠ bR) := ⟨h13_⟩
   replace aK : Aside0 (Kd.R k151 151 dK w.heap.size (fun _ => True) iI eA) := ⟨h1_⟩
   replace aD : Aside0 (dK.heap[bW]? = some (.cells #[aX, .slice cR aJ.length bX] 28 (0, 0))) := ⟨h2_⟩
   replace aA : Aside0 (dK.heap[aW]? = some (.cells #[bK, bI, bL, bM, bN, bO, bP, bQ] 89 (0, 0))) := ⟨h3_⟩
   replace aE : Aside0 (dK.heap[bR]? = some (.cells #[.int .i64 0, .slice none 0 0] 28 (0, 0))) := ⟨h4_⟩
   replace HB : Aside0 (Below w.heap.size w dK) := ⟨h14_⟩
   clear h0_ h1_ h2_ h3_ h4_ h5_ h6_ h7_ h8_ h9_ h10_ h11_ h12_ h13_ h14_
   have hHeld : dK.cell? ⟨bW, 0, none⟩ = some aX ∧ dK.cell? ⟨bW, 1, none⟩ = some (.slice cR aJ.length bX) ∧ dK.cell? ⟨aW, 0, none⟩ = some bK ∧ dK.cell? ⟨aW, 1, none⟩ = some bI ∧ dK.cell? ⟨aW, 2, none⟩ = some bL ∧ dK.cell? ⟨aW, 3, none⟩ = some bM ∧ dK.cell? ⟨aW, 4, none⟩ = some bN ∧ dK.cell? ⟨aW, 5, none⟩ = some bO ∧ dK.cell? ⟨aW, 6, none⟩ = some bP ∧ dK.cell? ⟨aW, 7, none⟩ = some bQ := hS_
   obtain ⟨dL, cU, kP⟩ := Kd.R_slice dH.out
   (first | subst kP | (injection kP with f1_ f2_ f3_; have f4_ := f1_.symm; have f5_ := f3_.symm; clear f1_ f2_ f3_; subst f4_; subst f5_))
   refine norm_ (a' := ?_) ?_ ?_
   rotate_left
   ·simp only [putAll, Act.put, sA, sZ, sS]
    rfl
   refine one_ (i := 5) (N := none) #[Y,Y,Y,Y,Y,Y] rfl rfl (by kernel_rfl) (by decide) (fun K hK => ?_)
   have rY := cI aG.out 0
   have hfs50 := bF aG.out 0
   have hns50_0 := aT.out
   have hns50_1 := bA.out
   have hns50_2 := bG.out
   have hms50_0 := aV.out
   have hms50_1 := bD.out
   have hms50_2 := bH.out
   have rZ := cI aG.out 1
   have hfs52 := bF aG.out 1
   have hns52_0 := aT.out
   have hns52_1 := bA.out
   have hns52_2 := bG.out
   have hms52_0 := aV.out
   have hms52_1 := bD.out
   have hms52_2 := bH.out
   refine skip_ (w1 := ?_) (by rfl) rfl ?_ ?_
   rotate_left
   ·go_simp
    rfl
   refine hK.out _ _ ⟨(cm (hHeld.1)), (cm (hHeld.2.1)), (cm (hHeld.2.2.1)), (cm (hHeld.2.2.2.1)), (cm (hHeld.2.2.2.2.1)), (cm (hHeld.2.2.2.2.2.1)), (cm (hHeld.2.2.2.2.2.2.1)), (cm (hHeld.2.2.2.2.2.2.2.1)), (cm (hHeld.2.2.2.2.2.2.2.2.1)), (cm (hHeld.2.2.2.2.2.2.2.2.2))⟩ (fun hHeld => ?_)
   clear hK K
   refine done_ (by kernel_rfl) ?_
   try go_wp2
   go_loopg [6, 8] iF (fun kq v6 v8 w' => ∃ (eJ : List (S151)) (aC : Int), v8 = .int .i64 aC ∧ Aside0 (spec_React.l0 kq eJ aC aX aJ bK bI bL bM bN bO bP bQ bU aI = some (r1, r2, r3)) ∧ Aside0 (kq ≤ iF) ∧ Aside0 (Kd.R k151 151 w' w.heap.size (fun _ => True) v6 eJ) ∧ Aside0 (Kd.R k79 79 w' w.heap.size (fun _ => True) (.slice dL aI.length cU) aI) ∧ Aside0 (w'.heap[bW]? = some (.cells #[aX, (.slice cR aJ.length bX)] 28 (0, 0))) ∧ Aside0 (w'.heap[aW]? = some (.cells #[bK, bI, bL, bM, bN, bO, bP, bQ] 89 (0, 0))) ∧ Aside0 (w'.heap[bR]? = some (.cells #[.int .i64 0, (.slice none 0 0)] 28 (0, 0))) ∧ Aside0 (w'.heap[bJ]? = some (.cells #[bU, (.slice dL aI.length cU)] 28 (0, 0))) ∧ Aside0 (Below w.heap.size w w'))
   case atStart => exact ⟨(eA), (0), xE, H', ⟨Nat.le_refl _⟩, ⟨kr (Kd.R_mono (kF (p := ⟨bJ, 1, none⟩) (kF (p := ⟨bJ, 0, none⟩) (Kd.R_types aK.out aG.out (by decide)) (fun _ hk => hk.2) (.int .i64 bU)) (fun _ hk => hk.2) (.slice dL aI.length cU)) (fun _ hk => trivial))⟩, ⟨kr (Kd.R_mono (kF (p := ⟨bJ, 1, none⟩) (kF (p := ⟨bJ, 0, none⟩) (Kd.R_types dH.out aG.out (by decide)) (fun _ hk => hk.2) (.int .i64 bU)) (fun _ hk => hk.2) (.slice dL aI.length cU)) (fun _ hk => trivial))⟩, ⟨fm aD.out⟩, ⟨fm aA.out⟩, ⟨fm aE.out⟩, ⟨bm aG.out⟩, ⟨bl HB.out⟩⟩
   case round =>
    clear H'
    repeat first|clear c1|clear c2|clear p2|clear c3|clear c4|clear c5|clear c6|clear fE|clear fF|clear jZ|clear kA|clear kC|clear kD|clear kE|clear kG|clear kH|clear kI|clear fS|clear lK|clear lL|clear lM|clear lN|clear fK|clear eV|clear fL|clear fM|clear fN|clear fO|clear eW|clear fP|clear fI|clear eX|clear hX|clear gM|clear hY|clear eY|clear eZ|clear fA|clear fB|clear fC|clear fD|clear gN|clear gO|clear p2
    obtain ⟨eJ, aC, rfl, HA, eO, aK, aH, aD, aA, aE, aG, HB⟩ := hrel
    cases gk with
    | zero => exact absurd HA.out (by simp [spec_React.l0])
    | succ k2 =>
     have H := HA.out
     clear HA
     simp only [spec_React.l0] at H
     by_cases fG : aC < (aJ.length : Int)
     case pos =>
      rw [if_pos fG] at H
      have iB := decide_eq_true fG
      clear fG
      obtain ⟨iT, H⟩ := gI H
      obtain ⟨iU, H⟩ := gI H
      by_cases dO : (((rd_T79 aI aC).f7) != ((rd_T79 aJ aC).f7)) = true
      case neg =>
       rw [if_neg dO] at H
       have iC : (((rd_T79 aI aC).f7) != ((rd_T79 aJ aC).f7)) = false := by simpa using dO
       (try (have iD : decide (((rd_T79 aI aC).f7) = ((rd_T79 aJ aC).f7)) = true := by simpa using dO))
       (try (have iE : (((rd_T79 aI aC).f7) == ((rd_T79 aJ aC).f7)) = true := by simpa using dO))
       clear dO
       have H' := aM H
       clear H
       have pO := cN.out
       have pP := cO.out
       have pQ := cP.out
       have pR := cQ.out
       have pS := aT.out
       have pT := aV.out
       have iV := cA2 aD.out
       try go_wp2
       replace aK := aM (Kd.R_drew aK.out)
       replace aH := aM (Kd.R_drew aH.out)
       replace aD := aM (blk_drew aD.out)
       replace aA := aM (blk_drew aA.out)
       replace aE := aM (blk_drew aE.out)
       replace aG := aM (blk_drew aG.out)
       replace HB := aM (below_drew1 HB.out)
       have eE : 0 ≤ (aC : Int) := dT
       have eF : aC < (aI.length : Int) := dT
       obtain ⟨aN, iL, cW, cX, cY, dA, dB, dC, dD, dE, dF, dG, cV⟩ := at_T79 (Kd.R_reads' aH.out).2.2 aC eE eF
       cases iL
       replace eE := eq_true eE
       replace eF := eq_true eF
       have eG : 0 ≤ (aC : Int) := dT
       have eH : aC < (aJ.length : Int) := dT
       obtain ⟨aQ, iM, bY, bZ, cA, cC, cD, cE, cG, cH, cK, cL, bV⟩ := at_T79 dN.out aC eG eH
       have dM := bV
       have dP := cL
       have dQ := cK
       have dR := cH
       have dS := cG
       have dU := cE
       have dV := cD
       have dW := cC
       have dX := cA
       have dY := bZ
       have dZ := bY
       cases iM
       replace bY := xB HB bY
       replace bZ := xB HB bZ
       replace cA := xB HB cA
       replace cC := xB HB cC
       replace cD := xB HB cD
       replace cE := xB HB cE
       replace cG := xB HB cG
       replace cH := xB HB cH
       replace cK := xB HB cK
       replace cL := xB HB cL
       replace bV := xB HB bV
       replace eG := eq_true eG
       replace eH := eq_true eH
       refine start_ (n := 13) (S := fun w' => cT2 w' bJ (.int .i64 bU) (.slice (some aN) aI.length cU) (cT2 w' bW (.int .i64 aX) (.slice (some aQ) aJ.length bX) (w'.cell? (aN.add ((aC).toNat * 11)) = some ((rd_T79 aI aC).f0) ∧ w'.cell? ⟨(aN.add ((aC).toNat * 11)).block, (aN.add ((aC).toNat * 11)).off + 1, none⟩ = some ((rd_T79 aI aC).f1) ∧ w'.cell? ⟨(aN.add ((aC).toNat * 11)).block, (aN.add ((aC).toNat * 11)).off + 2, none⟩ = some ((rd_T79 aI aC).f2.f0) ∧ w'.cell? ⟨(aN.add ((aC).toNat * 11)).block, (aN.add ((aC).toNat * 11)).off + 3, none⟩ = some ((rd_T79 aI aC).f2.f1) ∧ w'.cell? ⟨(aN.add ((aC).toNat * 11)).block, (aN.add ((aC).toNat * 11)).off + 4, none⟩ = some ((rd_T79 aI aC).f2.f2) ∧ w'.cell? ⟨(aN.add ((aC).toNat * 11)).block, (aN.add ((aC).toNat * 11)).off + 5, none⟩ = some ((rd_T79 aI aC).f2.f3) ∧ w'.cell? ⟨(aN.add ((aC).toNat * 11)).block, (aN.add ((aC).toNat * 11)).off + 6, none⟩ = some ((rd_T79 aI aC).f3) ∧ w'.cell? ⟨(aN.add ((aC).toNat * 11)).block, (aN.add ((aC).toNat * 11)).off + 7, none⟩ = some ((rd_T79 aI aC).f4) ∧ w'.cell? ⟨(aN.add ((aC).toNat * 11)).block, (aN.add ((aC).toNat * 11)).off + 8, none⟩ = some ((rd_T79 aI aC).f5) ∧ w'.cell? ⟨(aN.add ((aC).toNat * 11)).block, (aN.add ((aC).toNat * 11)).off + 9, none⟩ = some ((rd_T79 aI aC).f6) ∧ w'.cell? ⟨(aN.add ((aC).toNat * 11)).block, (aN.add ((aC).toNat * 11)).off + 10, none⟩ = some ((rd_T79 aI aC).f7) ∧ w'.cell? (aQ.add ((aC).toNat * 11)) = some ((rd_T79 aJ aC).f0) ∧ w'.cell? ⟨(aQ.add ((aC).toNat * 11)).block, (aQ.add ((aC).toNat * 11)).off + 1, none⟩ = some ((rd_T79 aJ aC).f1) ∧ w'.cell? ⟨(aQ.add ((aC).toNat * 11)).block, (aQ.add ((aC).toNat * 11)).off + 2, none⟩ = some ((rd_T79 aJ aC).f2.f0) ∧ w'.cell? ⟨(aQ.add ((aC).toNat * 11)).block, (aQ.add ((aC).toNat * 11)).off + 3, none⟩ = some ((rd_T79 aJ aC).f2.f1) ∧ w'.cell? ⟨(aQ.add ((aC).toNat * 11)).block, (aQ.add ((aC).toNat * 11)).off + 4, none⟩ = some ((rd_T79 aJ aC).f2.f2) ∧ w'.cell? ⟨(aQ.add ((aC).toNat * 11)).block, (aQ.add ((aC).toNat * 11)).off + 5, none⟩ = some ((rd_T79 aJ aC).f2.f3) ∧ w'.cell? ⟨(aQ.add ((aC).toNat * 11)).block, (aQ.add ((aC).toNat * 11)).off + 6, none⟩ = some ((rd_T79 aJ aC).f3) ∧ w'.cell? ⟨(aQ.add ((aC).toNat * 11)).block, (aQ.add ((aC).toNat * 11)).off + 7, none⟩ = some ((rd_T79 aJ aC).f4) ∧ w'.cell? ⟨(aQ.add ((aC).toNat * 11)).block, (aQ.add ((aC).toNat * 11)).off + 8, none⟩ = some ((rd_T79 aJ aC).f5) ∧ w'.cell? ⟨(aQ.add ((aC).toNat * 11)).block, (aQ.add ((aC).toNat * 11)).off + 9, none⟩ = some ((rd_T79 aJ aC).f6) ∧ w'.cell? ⟨(aQ.add ((aC).toNat * 11)).block, (aQ.add ((aC).toNat * 11)).off + 10, none⟩ = some ((rd_T79 aJ aC).f7)))) (ds := []) (dn 13 0) (by kernel_rfl) rfl rfl ⟨cI aG.out 0, cI aG.out 1, cI aD.out 0, cI aD.out 1, cW, cX, cY, dA, dB, dC, dD, dE, dF, dG, cV, ((HB.out.cell (World.block_lt_of_cell? w _ dZ)).trans dZ), ((HB.out.cell (World.block_lt_of_cell? w _ dY)).trans dY), ((HB.out.cell (World.block_lt_of_cell? w _ dX)).trans dX), ((HB.out.cell (World.block_lt_of_cell? w _ dW)).trans dW), ((HB.out.cell (World.block_lt_of_cell? w _ dV)).trans dV), ((HB.out.cell (World.block_lt_of_cell? w _ dU)).trans dU), ((HB.out.cell (World.block_lt_of_cell? w _ dS)).trans dS), ((HB.out.cell (World.block_lt_of_cell? w _ dR)).trans dR), ((HB.out.cell (World.block_lt_of_cell? w _ dQ)).trans dQ), ((HB.out.cell (World.block_lt_of_cell? w _ dP)).trans dP), ((HB.out.cell (World.block_lt_of_cell? w _ dM)).trans dM)⟩ (fun hHeld => ?_); refine with_tabW spec_React.tab8 spec_React.bits8 (fun HT_ HW_ => ?_)
       generalize wr.drew = sP at aK aH aD aA aE aG HB cW cX cV cY dA dB dC dD dE dF dG bY bZ bV cA cC cD cE cG cH cK cL hHeld ⊢
       refine nY (N := some 41) HT_ ?_
       refine pY (i := 2) (N := some 43) #[Y,U,Y,U,U,U,U,U,U,U,U,U,U] HT_ ?_
       refine pY (i := 6) (N := some 47) #[Y,U,Y,U,U,U,Y,U,U,U,U,U,U] HT_ ?_
       refine pY (i := 8) (N := some 49) #[Y,U,Y,U,U,U,Y,U,Y,U,U,U,U] HT_ ?_
       refine aY (i := 1) (N := some 42) #[Y,Y,Y,U,U,U,Y,U,Y,U,U,U,U] HT_ HW_ hHeld ?_
       refine pY (i := 3) (N := some 44) #[Y,Y,Y,Y,U,U,Y,U,Y,U,U,U,U] HT_ ?_
       refine pY (i := 4) (N := some 45) #[Y,Y,Y,Y,Y,U,Y,U,Y,U,U,U,U] HT_ ?_
       refine aY (i := 5) (N := some 46) #[Y,Y,Y,Y,Y,Y,Y,U,Y,U,U,U,U] HT_ HW_ hHeld ?_
       refine aY (i := 7) (N := some 48) #[Y,Y,Y,Y,Y,Y,Y,Y,Y,U,U,U,U] HT_ HW_ hHeld ?_
       refine pY (i := 9) (N := some 50) #[Y,Y,Y,Y,Y,Y,Y,Y,Y,Y,U,U,U] HT_ ?_
       refine pY (i := 10) (N := some 51) #[Y,Y,Y,Y,Y,Y,Y,Y,Y,Y,Y,U,U] HT_ ?_
       refine aY (i := 11) (N := some 52) #[Y,Y,Y,Y,Y,Y,Y,Y,Y,Y,Y,Y,U] HT_ HW_ hHeld ?_
       refine pY (i := 12) (N := some 53) #[Y,Y,Y,Y,Y,Y,Y,Y,Y,Y,Y,Y,Y] HT_ ?_
       refine done_ (done_of HT_.out (by kernel_rfl)) ?_
       try go_wp2
       go_roundg k2
       case measure => have := HJ2.out; have := eO.out; omega
       case rel => exact ⟨(eJ), (wrap64 (aC + 1)), xE, H', ⟨by have := HJ2.out; have := eO.out; omega⟩, ⟨kr aK.out⟩, ⟨kr aH.out⟩, ⟨bk aD.out⟩, ⟨bk aA.out⟩, ⟨bk aE.out⟩, ⟨bk aG.out⟩, ⟨bl HB.out⟩⟩
      rw [if_pos dO] at H
      have iC : (((rd_T79 aI aC).f7) != ((rd_T79 aJ aC).f7)) = true := dO
      (try (have iD : decide (((rd_T79 aI aC).f7) = ((rd_T79 aJ aC).f7)) = false := by simpa using dO))
      (try (have iE : (((rd_T79 aI aC).f7) == ((rd_T79 aJ aC).f7)) = false := by simpa using dO))
      (try (have pV : ¬ (((rd_T79 aI aC).f7) = ((rd_T79 aJ aC).f7)) := by simpa using dO))
      clear dO
      by_cases gP : eJ.length < 2199023255552
      case neg =>
       rw [if_neg gP] at H
       exact absurd H (by simp)
      rw [if_pos gP] at H
      have LMc57 := aM gP
      clear gP
      obtain ⟨kQ, eS⟩ : ∃ y_ : List (S151), y_ = (eJ ++ [(⟨2, aC, (⟨0, 0, 0, 0⟩ : S73), 0, (rd_T79 aI aC).f7⟩ : S151)]) := ⟨_, rfl⟩
      replace H : (spec_React.l0 k2 kQ (wrap64 (aC + 1)) aX aJ bK bI bL bM bN bO bP bQ bU aI) = some (r1, r2, r3) := by first | (rw [eS]; with_reducible exact H) | (have H2_ := (Option.bind_some _ _).symm.trans H; rw [eS]; with_reducible exact H2_) | (have H2_ := (Option.bind_some _ _).symm.trans H; with_reducible exact H2_) | with_reducible exact H | (rw [eS]; exact H) | exact H
      have kU := aM eS
      clear eS
      have H' := aM H
      clear H
      have pW := cN.out
      have pX := cO.out
      have pZ := cP.out
      have qA := cQ.out
      have qC := aT.out
      have qD := aV.out
      have iW := cA2 aD.out
      try go_wp2
      replace aK := aM (Kd.R_drew aK.out)
      replace aH := aM (Kd.R_drew aH.out)
      replace aD := aM (blk_drew aD.out)
      replace aA := aM (blk_drew aA.out)
      replace aE := aM (blk_drew aE.out)
      replace aG := aM (blk_drew aG.out)
      replace HB := aM (below_drew1 HB.out)
      have eE : 0 ≤ (aC : Int) := dT
      have eF : aC < (aI.length : Int) := dT
      obtain ⟨aN, iL, cW, cX, cY, dA, dB, dC, dD, dE, dF, dG, cV⟩ := at_T79 (Kd.R_reads' aH.out).2.2 aC eE eF
      cases iL
      replace eE := eq_true eE
      replace eF := eq_true eF
      have eG : 0 ≤ (aC : Int) := dT
      have eH : aC < (aJ.length : Int) := dT
      obtain ⟨aQ, iM, bY, bZ, cA, cC, cD, cE, cG, cH, cK, cL, bV⟩ := at_T79 dN.out aC eG eH
      have dM := bV
      have dP := cL
      have dQ := cK
      have dR := cH
      have dS := cG
      have dU := cE
      have dV := cD
      have dW := cC
      have dX := cA
      have dY := bZ
      have dZ := bY
      cases iM
      replace bY := xB HB bY
      replace bZ := xB HB bZ
      replace cA := xB HB cA
      replace cC := xB HB cC
      replace cD := xB HB cD
      replace cE := xB HB cE
      replace cG := xB HB cG
      replace cH := xB HB cH
      replace cK := xB HB cK
      replace cL := xB HB cL
      replace bV := xB HB bV
      replace eG := eq_true eG
      replace eH := eq_true eH
      refine start_ (n := 13) (S := fun w' => cT2 w' bJ (.int .i64 bU) (.slice (some aN) aI.length cU) (cT2 w' bW (.int .i64 aX) (.slice (some aQ) aJ.length bX) (w'.cell? (aN.add ((aC).toNat * 11)) = some ((rd_T79 aI aC).f0) ∧ w'.cell? ⟨(aN.add ((aC).toNat * 11)).block, (aN.add ((aC).toNat * 11)).off + 1, none⟩ = some ((rd_T79 aI aC).f1) ∧ w'.cell? ⟨(aN.add ((aC).toNat * 11)).block, (aN.add ((aC).toNat * 11)).off + 2, none⟩ = some ((rd_T79 aI aC).f2.f0) ∧ w'.cell? ⟨(aN.add ((aC).toNat * 11)).block, (aN.add ((aC).toNat * 11)).off + 3, none⟩ = some ((rd_T79 aI aC).f2.f1) ∧ w'.cell? ⟨(aN.add ((aC).toNat * 11)).block, (aN.add ((aC).toNat * 11)).off + 4, none⟩ = some ((rd_T79 aI aC).f2.f2) ∧ w'.cell? ⟨(aN.add ((aC).toNat * 11)).block, (aN.add ((aC).toNat * 11)).off + 5, none⟩ = some ((rd_T79 aI aC).f2.f3) ∧ w'.cell? ⟨(aN.add ((aC).toNat * 11)).block, (aN.add ((aC).toNat * 11)).off + 6, none⟩ = some ((rd_T79 aI aC).f3) ∧ w'.cell? ⟨(aN.add ((aC).toNat * 11)).block, (aN.add ((aC).toNat * 11)).off + 7, none⟩ = some ((rd_T79 aI aC).f4) ∧ w'.cell? ⟨(aN.add ((aC).toNat * 11)).block, (aN.add ((aC).toNat * 11)).off + 8, none⟩ = some ((rd_T79 aI aC).f5) ∧ w'.cell? ⟨(aN.add ((aC).toNat * 11)).block, (aN.add ((aC).toNat * 11)).off + 9, none⟩ = some ((rd_T79 aI aC).f6) ∧ w'.cell? ⟨(aN.add ((aC).toNat * 11)).block, (aN.add ((aC).toNat * 11)).off + 10, none⟩ = some ((rd_T79 aI aC).f7) ∧ w'.cell? (aQ.add ((aC).toNat * 11)) = some ((rd_T79 aJ aC).f0) ∧ w'.cell? ⟨(aQ.add ((aC).toNat * 11)).block, (aQ.add ((aC).toNat * 11)).off + 1, none⟩ = some ((rd_T79 aJ aC).f1) ∧ w'.cell? ⟨(aQ.add ((aC).toNat * 11)).block, (aQ.add ((aC).toNat * 11)).off + 2, none⟩ = some ((rd_T79 aJ aC).f2.f0) ∧ w'.cell? ⟨(aQ.add ((aC).toNat * 11)).block, (aQ.add ((aC).toNat * 11)).off + 3, none⟩ = some ((rd_T79 aJ aC).f2.f1) ∧ w'.cell? ⟨(aQ.add ((aC).toNat * 11)).block, (aQ.add ((aC).toNat * 11)).off + 4, none⟩ = some ((rd_T79 aJ aC).f2.f2) ∧ w'.cell? ⟨(aQ.add ((aC).toNat * 11)).block, (aQ.add ((aC).toNat * 11)).off + 5, none⟩ = some ((rd_T79 aJ aC).f2.f3) ∧ w'.cell? ⟨(aQ.add ((aC).toNat * 11)).block, (aQ.add ((aC).toNat * 11)).off + 6, none⟩ = some ((rd_T79 aJ aC).f3) ∧ w'.cell? ⟨(aQ.add ((aC).toNat * 11)).block, (aQ.add ((aC).toNat * 11)).off + 7, none⟩ = some ((rd_T79 aJ aC).f4) ∧ w'.cell? ⟨(aQ.add ((aC).toNat * 11)).block, (aQ.add ((aC).toNat * 11)).off + 8, none⟩ = some ((rd_T79 aJ aC).f5) ∧ w'.cell? ⟨(aQ.add ((aC).toNat * 11)).block, (aQ.add ((aC).toNat * 11)).off + 9, none⟩ = some ((rd_T79 aJ aC).f6) ∧ w'.cell? ⟨(aQ.add ((aC).toNat * 11)).block, (aQ.add ((aC).toNat * 11)).off + 10, none⟩ = some ((rd_T79 aJ aC).f7)))) (ds := []) (dn 13 0) (by kernel_rfl) rfl rfl ⟨cI aG.out 0, cI aG.out 1, cI aD.out 0, cI aD.out 1, cW, cX, cY, dA, dB, dC, dD, dE, dF, dG, cV, ((HB.out.cell (World.block_lt_of_cell? w _ dZ)).trans dZ), ((HB.out.cell (World.block_lt_of_cell? w _ dY)).trans dY), ((HB.out.cell (World.block_lt_of_cell? w _ dX)).trans dX), ((HB.out.cell (World.block_lt_of_cell? w _ dW)).trans dW), ((HB.out.cell (World.block_lt_of_cell? w _ dV)).trans dV), ((HB.out.cell (World.block_lt_of_cell? w _ dU)).trans dU), ((HB.out.cell (World.block_lt_of_cell? w _ dS)).trans dS), ((HB.out.cell (World.block_lt_of_cell? w _ dR)).trans dR), ((HB.out.cell (World.block_lt_of_cell? w _ dQ)).trans dQ), ((HB.out.cell (World.block_lt_of_cell? w _ dP)).trans dP), ((HB.out.cell (World.block_lt_of_cell? w _ dM)).trans dM)⟩ (fun hHeld => ?_); refine with_tabW spec_React.tab8 spec_React.bits8 (fun HT_ HW_ => ?_)
      generalize wr.drew = sQ at aK aH aD aA aE aG HB cW cX cV cY dA dB dC dD dE dF dG bY bZ bV cA cC cD cE cG cH cK cL hHeld ⊢
      refine nY (N := some 41) HT_ ?_
      refine pY (i := 2) (N := some 43) #[Y,U,Y,U,U,U,U,U,U,U,U,U,U] HT_ ?_
      refine pY (i := 6) (N := some 47) #[Y,U,Y,U,U,U,Y,U,U,U,U,U,U] HT_ ?_
      refine pY (i := 8) (N := some 49) #[Y,U,Y,U,U,U,Y,U,Y,U,U,U,U] HT_ ?_
      refine aY (i := 1) (N := some 42) #[Y,Y,Y,U,U,U,Y,U,Y,U,U,U,U] HT_ HW_ hHeld ?_
      refine pY (i := 3) (N := some 44) #[Y,Y,Y,Y,U,U,Y,U,Y,U,U,U,U] HT_ ?_
      refine pY (i := 4) (N := some 45) #[Y,Y,Y,Y,Y,U,Y,U,Y,U,U,U,U] HT_ ?_
      refine aY (i := 5) (N := some 46) #[Y,Y,Y,Y,Y,Y,Y,U,Y,U,U,U,U] HT_ HW_ hHeld ?_
      refine aY (i := 7) (N := some 48) #[Y,Y,Y,Y,Y,Y,Y,Y,Y,U,U,U,U] HT_ HW_ hHeld ?_
      refine pY (i := 9) (N := some 50) #[Y,Y,Y,Y,Y,Y,Y,Y,Y,Y,U,U,U] HT_ ?_
      refine pY (i := 10) (N := some 51) #[Y,Y,Y,Y,Y,Y,Y,Y,Y,Y,Y,U,U] HT_ ?_
      refine aY (i := 11) (N := some 52) #[Y,Y,Y,Y,Y,Y,Y,Y,Y,Y,Y,Y,U] HT_ HW_ hHeld ?_
      refine pY (i := 12) (N := some 53) #[Y,Y,Y,Y,Y,Y,Y,Y,Y,Y,Y,Y,Y] HT_ ?_
      refine done_ (done_of HT_.out (by kernel_rfl)) ?_
      have qE := bD.out
      have qF := bA.out
      have qG := bH.out
      have qH := bG.out
      have iX := cA2 aG.out
      have fU : 0 ≤ (aC : Int) := dT
      have fV : aC < (aI.length : Int) := dT
      obtain ⟨kV, lS, gQ, gR, gS, gT, gU, gV, gW, gX, gY, gZ, fW⟩ := at_T79 (Kd.R_reads' aH.out).2.2 aC fU fV
      obtain rfl : aN = kV := (by injection lS)
      replace fU := eq_true fU
      replace fV := eq_true fV
      try go_wp2_with (first | ((with_reducible refine gate_builtin (b := .append) (xs := #[.tmp 54, .tmp 63]) rfl ?_); (try (refine gate_guard (by rfl) ?_; dsimp only)); at_builtin; refine Kd.R_append k151 (w0 := w) w.heap.size rfl (.tmp 54) (.tmp 63) 85 151 (.agg #[(.int .i64 0), (.int .i64 0), (.int .i64 0), (.int .i64 0), (.int .i64 0), (.int .i64 0), (.int .i64 0), (.bool false)]) 64 rfl Try.underlying85 info151 rfl (by decide) (by omega) u6 eJ (⟨2, aC, (⟨0, 0, 0, 0⟩ : S73), 0, (rd_T79 aI aC).f7⟩ : S151) [.int .i64 2, .int .i64 aC, .int .i64 0, .int .i64 0, .int .i64 0, .int .i64 0, .int .i64 0, .bool ((rd_T79 aI aC).f7)] (fun _ => True) (fun _ => False) rfl rfl ?aP (fun _ hk => hk.elim) ?aF ?aO ?aB ?aS ?aL ?_; (case aP => exact k151_mkM _ _ _ (⟨2, aC, (⟨0, 0, 0, 0⟩ : S73), 0, (rd_T79 aI aC).f7⟩ : S151)); (case aB => exact (bl HB.out)); (case aF => exact (fun _ _ => trivial)); (case aO => exact (kr aK.out)); (case aS => exact (below_size (bl HB.out))); (case aL => have := LMc57.out; omega); intro sB sR ho hb hg hat; rw [← kU.out] at ho; have kW := aM (ho); replace aH := aM (Kd.R_over' (kr aH.out) (Kd.R_typed (kr aK.out)) (by decide) hg); replace aD := aM (blk_grown (bk aD.out) hg (Kd.R_ne aK.out aD.out (by decide))); replace aA := aM (blk_grown (bk aA.out) hg (Kd.R_ne aK.out aA.out (by decide))); replace aE := aM (blk_grown (bk aE.out) hg (Kd.R_ne aK.out aE.out (by decide))); replace aG := aM (blk_grown (bk aG.out) hg (Kd.R_ne aK.out aG.out (by decide))); replace HB := aM (hb); clear aK; clear ho hb hg hat))
      go_roundg k2
      case measure => have := HJ2.out; have := eO.out; omega
      case rel => exact ⟨(kQ), (wrap64 (aC + 1)), xE, H', ⟨by have := HJ2.out; have := eO.out; omega⟩, ⟨kr kW.out⟩, ⟨kr aH.out⟩, ⟨bk aD.out⟩, ⟨bk aA.out⟩, ⟨bk aE.out⟩, ⟨bk aG.out⟩, ⟨bl HB.out⟩⟩
     rw [if_neg fG] at H
     have iB := decide_eq_false fG
     clear fG
     have H' := aM H
     clear H
     have qI := cN.out
     have qJ := cO.out
     have qM := cP.out
     have qN := cQ.out
     have qO := aT.out
     have qP := aV.out
     have iY := cA2 aD.out
     go_wp2
     go_loopg [6, 9] k2 (fun kq v6 v9 w' => ∃ (eI : List (S151)) (bT : Int), v9 = .int .i64 bT ∧ Aside0 (spec_React.l1 kq eI bT bK bI bL bM bN bO bP bQ bU aI = some (r1, r2, r3)) ∧ Aside0 (kq ≤ k2) ∧ Aside0 (Kd.R k151 151 w' w.heap.size (fun _ => True) v6 eI) ∧ Aside0 (Kd.R k79 79 w' w.heap.size (fun _ => True) (.slice dL aI.length cU) aI) ∧ Aside0 (w'.heap[bW]? = some (.cells #[aX, (.slice cR aJ.length bX)] 28 (0, 0))) ∧ Aside0 (w'.heap[aW]? = some (.cells #[bK, bI, bL, bM, bN, bO, bP, bQ] 89 (0, 0))) ∧ Aside0 (w'.heap[bR]? = some (.cells #[.int .i64 0, (.slice none 0 0)] 28 (0, 0))) ∧ Aside0 (w'.heap[bJ]? = some (.cells #[bU, (.slice dL aI.length cU)] 28 (0, 0))) ∧ Aside0 (Below w.heap.size w w'))
     case atStart => exact ⟨(eJ), (0), xE, H', ⟨Nat.le_refl _⟩, ⟨kr aK.out⟩, ⟨kr aH.out⟩, ⟨bk aD.out⟩, ⟨bk aA.out⟩, ⟨bk aE.out⟩, ⟨bk aG.out⟩, ⟨bl HB.out⟩⟩
     case round =>
      clear H'
      repeat first|clear c1|clear c2|clear p2|clear c3|clear c4|clear p4|clear q4|clear mT|clear c5|clear c6|clear p6|clear c7|clear fE|clear fF|clear jZ|clear kA|clear kC|clear kD|clear kE|clear kG|clear kH|clear kI|clear fS|clear lK|clear lL|clear lM|clear lN|clear lO|clear lP|clear lT|clear fG|clear iB|clear mU|clear iT|clear mV|clear iU|clear dO|clear iC|clear iD|clear iE|clear gP|clear mW|clear mX|clear mY|clear mZ|clear nA|clear lQ|clear nB|clear nC|clear nD|clear nE|clear nF|clear nI|clear fK|clear eV|clear fL|clear fM|clear fN|clear fO|clear eW|clear fP|clear fI|clear eX|clear hX|clear gM|clear hY|clear iW|clear jB|clear iX|clear jC|clear iV|clear jD|clear iY|clear jE|clear eY|clear eZ|clear fA|clear fB|clear fC|clear fD|clear gN|clear gO|clear jF|clear jG|clear jH|clear jI|clear jJ|clear jK|clear jL|clear jM|clear cW|clear cX|clear cV|clear cY|clear dA|clear dB|clear dC|clear dD|clear dE|clear dF|clear dG|clear bY|clear bZ|clear bV|clear cA|clear cC|clear cD|clear cE|clear cG|clear cH|clear cK|clear cL|clear gQ|clear gR|clear fW|clear gS|clear gT|clear gU|clear gV|clear gW|clear gX|clear gY|clear gZ|clear p2|clear eE|clear eG|clear fU|clear eF|clear eH|clear fV
      obtain ⟨eI, bT, rfl, HA, hJ, aK, aH, aD, aA, aE, aG, HB⟩ := hrel
      cases gk with
      | zero => exact absurd HA.out (by simp [spec_React.l1])
      | succ k3 =>
       have H := HA.out
       clear HA
       simp only [spec_React.l1] at H
       have iN := aM H
       clear H
       go_upto_region 11 with (fail)
       go_cut [74] (fun nJ wc => ∃ (kq : Nat) (eT : Bool), nJ = .bool eT ∧ Aside0 (spec_React.j3 kq eI bT eT bK bI bL bM bN bO bP bQ bU aI = some (r1, r2, r3)) ∧ Aside0 (kq ≤ k3) ∧ Aside0 (Kd.R k151 151 wc w.heap.size (fun _ => True) u6 eI) ∧ Aside0 (Kd.R k79 79 wc w.heap.size (fun _ => True) (.slice dL aI.length cU) aI) ∧ Aside0 (wc.heap[bW]? = some (.cells #[aX, (.slice cR aJ.length bX)] 28 (0, 0))) ∧ Aside0 (wc.heap[aW]? = some (.cells #[bK, bI, bL, bM, bN, bO, bP, bQ] 89 (0, 0))) ∧ Aside0 (wc.heap[bR]? = some (.cells #[.int .i64 0, (.slice none 0 0)] 28 (0, 0))) ∧ Aside0 (wc.heap[bJ]? = some (.cells #[bU, (.slice dL aI.length cU)] 28 (0, 0))) ∧ Aside0 (Below w.heap.size w wc))
       case first =>
        have H := iN.out
        clear iN
        by_cases fX : bT < (aI.length : Int)
        case neg =>
         rw [if_neg fX] at H
         have eN := decide_eq_false fX
         clear fX
         (first | rw [eN] | (simp only [i64_w, i32_w]; rw [eN]) | skip)
         have H' := aM H
         clear H
         have qQ := aV.out
         have qS := aT.out
         have qT := bD.out
         have qV := bA.out
         have qW := bH.out
         have qX := bG.out
         have kX := cA2 aG.out
         go_wp2
         go_meet
         case rel => exact ⟨_, (false), xE, H', ⟨by have := HJ2.out; have := eO.out; have := hJ.out; first | omega | exact Nat.le_refl _⟩, ⟨kr aK.out⟩, ⟨kr aH.out⟩, ⟨bk aD.out⟩, ⟨bk aA.out⟩, ⟨bk aE.out⟩, ⟨bk aG.out⟩, ⟨bl HB.out⟩⟩
        rw [if_pos fX] at H
        have eN := decide_eq_true fX
        clear fX
        (first | rw [eN] | (simp only [i64_w, i32_w]; rw [eN]) | skip)
        have H' := aM H
        clear H
        have qY := aV.out
        have qZ := aT.out
        have rA := bD.out
        have rC := bA.out
        have rD := bH.out
        have rE := bG.out
        have kY := cA2 aG.out
        have rF := cO.out
        have rG := cN.out
        have rH := dI.out
        have rI := dJ.out
        have kZ := cA8 aA.out
        go_wp2
        go_meet
        case rel => exact ⟨_, ((bK == 2)), xE, H', ⟨by have := HJ2.out; have := eO.out; have := hJ.out; first | omega | exact Nat.le_refl _⟩, ⟨kr aK.out⟩, ⟨kr aH.out⟩, ⟨bk aD.out⟩, ⟨bk aA.out⟩, ⟨bk aE.out⟩, ⟨bk aG.out⟩, ⟨bl HB.out⟩⟩
       case rest =>
        clear iN
        repeat first|clear c1|clear c2|clear p2|clear c3|clear c4|clear p4|clear q4|clear mT|clear c5|clear c6|clear p6|clear c7|clear c8|clear fE|clear fF|clear jZ|clear kA|clear kC|clear kD|clear kE|clear kG|clear kH|clear kI|clear fS|clear lK|clear lL|clear lM|clear lN|clear lO|clear lP|clear lT|clear fG|clear iB|clear mU|clear iT|clear mV|clear iU|clear dO|clear iC|clear iD|clear iE|clear gP|clear mW|clear mX|clear mY|clear mZ|clear nA|clear lQ|clear nB|clear nC|clear nD|clear nE|clear nF|clear nI|clear fX|clear eN|clear sT|clear sU|clear sV|clear sW|clear sX|clear sY|clear tA|clear tB|clear fK|clear eV|clear fL|clear fM|clear fN|clear fO|clear eW|clear fP|clear fI|clear eX|clear hX|clear gM|clear hY|clear iW|clear jB|clear iX|clear jC|clear iV|clear jD|clear iY|clear jE|clear kY|clear lU|clear kZ|clear lV|clear lW|clear lX|clear lY|clear lZ|clear mA|clear mB|clear kX|clear mC|clear eY|clear eZ|clear fA|clear fB|clear fC|clear fD|clear gN|clear gO|clear jF|clear jG|clear jH|clear jI|clear jJ|clear jK|clear jL|clear jM|clear mD|clear mE|clear mF|clear mG|clear mH|clear mI|clear mJ|clear mK|clear mL|clear mM|clear mN|clear mO|clear cW|clear cX|clear cV|clear cY|clear dA|clear dB|clear dC|clear dD|clear dE|clear dF|clear dG|clear bY|clear bZ|clear bV|clear cA|clear cC|clear cD|clear cE|clear cG|clear cH|clear cK|clear cL|clear gQ|clear gR|clear fW|clear gS|clear gT|clear gU|clear gV|clear gW|clear gX|clear gY|clear gZ|clear p2|clear p4|clear lO|clear eE|clear eG|clear fU|clear p6|clear lQ|clear q4|clear lP|clear eF|clear eH|clear fV
        obtain ⟨kq, eT, rfl, HA, HJ75, aK, aH, aD, aA, aE, aG, HB⟩ := hcut
        cases kq with
        | zero => exact absurd HA.out (by simp [spec_React.j3])
        | succ fY =>
         have H := HA.out
         clear HA
         simp only [spec_React.j3] at H
         by_cases iZ : eT = true
         case neg =>
          replace iZ := Bool.eq_false_iff.mpr iZ
          subst iZ
          replace H := hF H
          simp only [Option.some.injEq, Prod.mk.injEq] at H
          obtain ⟨rfl, rfl, rfl⟩ := H
          have nK := aV.out
          have nN := aT.out
          have nO := bD.out
          have nP := bA.out
          have nQ := bH.out
          have nR := bG.out
          have nS := cA2 aG.out
          have nT := cQ.out
          have nV := cP.out
          have nX := dJ.out
          have nZ := dI.out
          have oA := cA2 aE.out
          go_wp2
          refine bodyPost_ret (results_ct rfl _ _ bR 28 #[bU, .slice dL aI.length cU] (0, 0) _ rfl (bm aE.out) Try.underlying28 rfl (by kernel_rfl)) rfl ?_
          exact ⟨_, _, xW, by (with_reducible repeat (first | apply Kd.R_alloc | apply Kd.R_drewN | apply Kd.R_drew)); exact Kd.R_mono (kF (p := ⟨bR, 1, none⟩) (kF (p := ⟨bR, 0, none⟩) (Kd.R_types aH.out aE.out (by decide)) (fun _ hk => hk.2) (.int .i64 bU)) (fun _ hk => hk.2) (.slice dL aI.length cU)) (fun _ hk => trivial), by (with_reducible repeat (first | apply Kd.R_alloc | apply Kd.R_drewN | apply Kd.R_drew)); exact Kd.R_mono (kF (p := ⟨bR, 1, none⟩) (kF (p := ⟨bR, 0, none⟩) (Kd.R_types aK.out aE.out (by decide)) (fun _ hk => hk.2) (.int .i64 bU)) (fun _ hk => hk.2) (.slice dL aI.length cU)) (fun _ hk => trivial), bl HB.out⟩
         subst iZ
         replace H := hP H rfl
         obtain ⟨rJ, H⟩ := gI H
         obtain ⟨rK, H⟩ := gI H
         by_cases gA : ((rd_T79 aI bT).f5) = 2
         case neg =>
          rw [if_neg gA] at H
          have lA : (((rd_T79 aI bT).f5) == 2) = false := beq_eq_false_iff_ne.mpr gA
          have lB : (((rd_T79 aI bT).f5) != 2) = true := bne_iff_ne.mpr gA
          have H' := aM H
          clear H
          have oB := aV.out
          have oC := aT.out
          have oD := bD.out
          have oE := bA.out
          have oF := bH.out
          have oG := bG.out
          have oH := cA2 aG.out
          have eQ : 0 ≤ (bT : Int) := dT
          have eR : bT < (aI.length : Int) := dT
          obtain ⟨fQ, iO, jN, jO, jP, jQ, jR, jS, jT, jU, jV, jW, iP⟩ := at_T79 (Kd.R_reads' aH.out).2.2 bT eQ eR
          cases iO
          replace eQ := eq_true eQ
          replace eR := eq_true eR
          go_wp2
          go_roundg fY
          case measure => have := HJ2.out; have := eO.out; have := hJ.out; have := HJ75.out; omega
          case rel => exact ⟨(eI), (wrap64 (bT + 1)), xE, H', ⟨by have := HJ2.out; have := eO.out; have := hJ.out; have := HJ75.out; omega⟩, ⟨kr aK.out⟩, ⟨kr aH.out⟩, ⟨bk aD.out⟩, ⟨bk aA.out⟩, ⟨bk aE.out⟩, ⟨bk aG.out⟩, ⟨bl HB.out⟩⟩
         rw [if_pos gA] at H
         have lA : (((rd_T79 aI bT).f5) == 2) = true := beq_iff_eq.mpr gA
         have lB : (((rd_T79 aI bT).f5) != 2) = false := bne_eq_false_iff_eq.mpr gA
         clear gA
         obtain ⟨⟨gB, gG, gH, gJ⟩, kR, H⟩ := hB H
         try dsimp only at H
         have oI := aM kR
         clear kR
         obtain ⟨gK, kS, H⟩ := hB H
         have oJ := aM kS
         clear kS
         by_cases jA : eI.length < 2199023255552
         case neg =>
          rw [if_neg jA] at H
          exact absurd H (by simp)
         rw [if_pos jA] at H
         have LMc95 := aM jA
         clear jA
         obtain ⟨kT, eU⟩ : ∃ y_ : List (S151), y_ = (eI ++ [(⟨1, bT, (⟨gB, gG, gH, gJ⟩ : S73), gK, false⟩ : S151)]) := ⟨_, rfl⟩
         replace H : (spec_React.l1 fY kT (wrap64 (bT + 1)) bK bI bL bM bN bO bP bQ bU aI) = some (r1, r2, r3) := by first | (rw [eU]; with_reducible exact H) | (have H2_ := (Option.bind_some _ _).symm.trans H; rw [eU]; with_reducible exact H2_) | (have H2_ := (Option.bind_some _ _).symm.trans H; with_reducible exact H2_) | with_reducible exact H | (rw [eU]; exact H) | exact H
         have lC := aM eU
         clear eU
         have H' := aM H
         clear H
         have rL := aV.out
         have rM := aT.out
         have rN := bD.out
         have rO := bA.out
         have rQ := bH.out
         have rR := bG.out
         have rT := cA2 aG.out
         have eQ : 0 ≤ (bT : Int) := dT
         have eR : bT < (aI.length : Int) := dT
         obtain ⟨fQ, iO, jN, jO, jP, jQ, jR, jS, jT, jU, jV, jW, iP⟩ := at_T79 (Kd.R_reads' aH.out).2.2 bT eQ eR
         cases iO
         replace eQ := eq_true eQ
         replace eR := eq_true eR
         try go_wp2
         replace aK := aM (Kd.R_drew aK.out)
         replace aH := aM (Kd.R_drew aH.out)
         replace aD := aM (blk_drew aD.out)
         replace aA := aM (blk_drew aA.out)
         replace aE := aM (blk_drew aE.out)
         replace aG := aM (blk_drew aG.out)
         replace HB := aM (below_drew1 HB.out)
         refine start_ (n := 11) (S := fun w' => cS2 w' bJ (.int .i64 bU) (.slice (some fQ) aI.length cU)) (ds := []) (dn 11 0) (by kernel_rfl) rfl rfl ⟨cI aG.out 0, cI aG.out 1⟩ (fun hHeld => ?_); refine with_tabW spec_React.tab14 spec_React.bits14 (fun HT_ HW_ => ?_)
         generalize wc.drew = sC at aK aH aD aA aE aG HB hHeld ⊢
         refine nY (N := some 84) HT_ ?_
         refine nY (N := some 85) HT_ ?_
         refine pY (i := 3) (N := some 87) #[Y,Y,U,Y,U,U,U,U,U,U,U] HT_ ?_
         refine aY (i := 2) (N := some 86) #[Y,Y,Y,Y,U,U,U,U,U,U,U] HT_ HW_ hHeld ?_
         refine aY (i := 5) (N := some 89) #[Y,Y,Y,Y,U,Y,U,U,U,U,U] HT_ HW_ hHeld ?_
         refine one_ (i := 4) (N := some 88) #[Y,Y,Y,Y,Y,Y,U,U,U,U,U] rfl rfl (one_of HT_.out (by kernel_rfl)) (by decide) (fun K hK => ?_)
         refine goes_ Try.func41 (by kernel_rfl) rfl #[.agg #[bU, .slice (some fQ) aI.length cU], bT] (by rfl) rfl rfl xR ?_
         with_reducible refine (spec_Own.calls fY bU _ _ aI bT gB gG gH gJ _ ?side1 ?side2 oI.out).mono ?_
         (case side1 => repeat (first | exact (Kd.R_reads' aH.out).2.2 | (with_reducible refine Kd.C_alloc ?_ _) | (with_reducible refine Kd.C_drewN ?_ _) | (with_reducible refine Kd.C_drew ?_)))
         (case side2 => exact (Kd.R_reads' aH.out).2.1)
         rintro e sD ⟨rfl, hb⟩
         refine ⟨_, rfl, ?_⟩
         replace aK := aM (kB (kr aK.out) hb)
         replace aH := aM (kB (kr aH.out) hb)
         replace aD := rB aD hb
         replace aA := rB aA hb
         replace aE := rB aE hb
         replace aG := rB aG hb
         replace HB := rS HB hb
         (try clear hb)
         (try clear hb2)
         (try clear hk)
         (try clear hi)
         refine hK.out _ _ ⟨cI aG.out 0, cI aG.out 1⟩ (fun hHeld => ?_)
         clear hK K
         refine norm_ (a' := ?_) ?_ ?_
         rotate_left
         ·show Act.put _ (some 88) _ = _
          simp only [Act.put, sA, sZ, sS, i64_w, i32_w]
          rfl
         refine one_ (i := 6) (N := some 90) #[Y,Y,Y,Y,Y,Y,Y,U,U,U,U] rfl rfl (one_of HT_.out (by kernel_rfl)) (by decide) (fun K hK => ?_)
         refine goes_ Try.func44 (by kernel_rfl) rfl #[.agg #[bU, .slice (some fQ) aI.length cU]] (by rfl) rfl rfl xR ?_
         with_reducible refine (spec_Hops.calls fY bU _ _ aI gK _ ?side1 ?side2 oJ.out).mono ?_
         (case side1 => repeat (first | exact (Kd.R_reads' aH.out).2.2 | (with_reducible refine Kd.C_alloc ?_ _) | (with_reducible refine Kd.C_drewN ?_ _) | (with_reducible refine Kd.C_drew ?_)))
         (case side2 => exact (Kd.R_reads' aH.out).2.1)
         rintro e sE ⟨rfl, hb⟩
         refine ⟨_, rfl, ?_⟩
         replace aK := aM (kB (kr aK.out) hb)
         replace aH := aM (kB (kr aH.out) hb)
         replace aD := rB aD hb
         replace aA := rB aA hb
         replace aE := rB aE hb
         replace aG := rB aG hb
         replace HB := rS HB hb
         (try clear hb)
         (try clear hb2)
         (try clear hk)
         (try clear hi)
         refine hK.out _ _ ⟨cI aG.out 0, cI aG.out 1⟩ (fun hHeld => ?_)
         clear hK K
         refine norm_ (a' := ?_) ?_ ?_
         rotate_left
         ·show Act.put _ (some 90) _ = _
          simp only [Act.put, sA, sZ, sS, i64_w, i32_w]
          rfl
         refine pY (i := 7) (N := some 91) #[Y,Y,Y,Y,Y,Y,Y,Y,U,U,U] HT_ ?_
         refine one_ (i := 8) (N := some 92) #[Y,Y,Y,Y,Y,Y,Y,Y,Y,U,U] rfl rfl (one_of HT_.out (by kernel_rfl)) (by decide) (fun K hK => ?_)
         refine value_ (w1 := ?_) (v := ?_) (by rfl) rfl ?_ ?_
         rotate_left 2
         ·go_simp
          constructor
          ·rfl
          ·rfl
         refine hK.out _ _ ⟨(bC (blk_alloc aG.out _) 0).trans rfl, (bC (blk_alloc aG.out _) 1).trans rfl⟩ (fun hHeld => ?_)
         clear hK K
         refine norm_ (a' := ?_) ?_ ?_
         rotate_left
         ·show Act.put _ (some 92) _ = _
          simp only [Act.put, sA, sZ, sS, i64_w, i32_w]
          rfl
         refine one_ (i := 9) (N := some 93) #[Y,Y,Y,Y,Y,Y,Y,Y,Y,Y,U] rfl rfl (one_of HT_.out (by kernel_rfl)) (by decide) (fun K hK => ?_)
         refine Kd.R_append_step k151 (w0 := w) w.heap.size (by rfl) (.tmp 84) (.tmp 92) 85 151 (.agg #[(.int .i64 0), (.int .i64 0), (.int .i64 0), (.int .i64 0), (.int .i64 0), (.int .i64 0), (.int .i64 0), (.bool false)]) 64 rfl Try.underlying85 info151 rfl (by decide) (by omega) u6 eI (⟨1, bT, (⟨gB, gG, gH, gJ⟩ : S73), gK, false⟩ : S151) [.int .i64 1, .int .i64 bT, .int .i64 gB, .int .i64 gG, .int .i64 gH, .int .i64 gJ, .int .i64 gK, .bool false] (fun _ => True) (fun _ => False) rfl rfl ?aP (fun _ hk => hk.elim) ?aF ?aO ?aB ?aS ?aL ?_
         (case aP => exact k151_mkM _ _ _ (⟨1, bT, (⟨gB, gG, gH, gJ⟩ : S73), gK, false⟩ : S151))
         (case aB => exact (bl HB.out))
         (case aF => exact (fun _ _ => trivial))
         (case aO => exact (kr aK.out))
         (case aS => exact (below_size (bl HB.out)))
         (case aL => have := LMc95.out; omega)
         intro sF sG ho hb hg hat
         rw [← lC.out] at ho
         have lD := aM (ho)
         replace aH := aM (Kd.R_over' (kr aH.out) (Kd.R_typed (kr aK.out)) (by decide) hg)
         replace aD := aM (blk_grown (bk aD.out) hg (Kd.R_ne aK.out aD.out (by decide)))
         replace aA := aM (blk_grown (bk aA.out) hg (Kd.R_ne aK.out aA.out (by decide)))
         replace aE := aM (blk_grown (bk aE.out) hg (Kd.R_ne aK.out aE.out (by decide)))
         replace aG := aM (blk_grown (bk aG.out) hg (Kd.R_ne aK.out aG.out (by decide)))
         replace HB := aM (hb)
         clear aK
         clear ho hb hg hat
         refine hK.out _ _ ⟨cI aG.out 0, cI aG.out 1⟩ (fun hHeld => ?_)
         clear hK K
         refine norm_ (a' := ?_) ?_ ?_
         rotate_left
         ·show Act.put _ (some 93) _ = _
          simp only [Act.put, sA, sZ, sS, i64_w, i32_w]
          rfl
         refine pY (i := 10) (N := some 6) #[Y,Y,Y,Y,Y,Y,Y,Y,Y,Y,Y] HT_ ?_
         refine done_ (done_of HT_.out (by kernel_rfl)) ?_
         try go_wp2
         go_roundg fY
         case measure => have := HJ2.out; have := eO.out; have := hJ.out; have := HJ75.out; omega
         case rel => exact ⟨(kT), (wrap64 (bT + 1)), xE, H', ⟨by have := HJ2.out; have := eO.out; have := hJ.out; have := HJ75.out; omega⟩, ⟨kr lD.out⟩, ⟨kr aH.out⟩, ⟨bk aD.out⟩, ⟨bk aA.out⟩, ⟨bk aE.out⟩, ⟨bk aG.out⟩, ⟨bl HB.out⟩⟩

end Go.Proofs.Ythmijfekdeagpaa.PFnRootPorts

/- A part of the proof of laws.FnFades. No condition beyond what its theorems say. -/
import Derived.Test.YthmijfekdeagpaaVFnFadesPx17
namespace Go.Proofs.Ythmijfekdeagpaa.PFnFades
open Go.RowKit Go.Proofs.YthmijfekdeagpaaW.PrintWords Go.Proofs.YthmijfekdeagpaaW.PrintLast Go.Proofs.YthmijfekdeagpaaW.PrintMore
set_option linter.unusedVariables false
set_option linter.unusedSimpArgs false

mutual
def spec_React.j0 : Nat → List (S151) → Bool → Int → List (S79) → Int → Int → Int → Int → Int → Int → Int → Bool → Option (Int × (List (S79)) × (List (S151)))
 | 0, _, _, _, _, _, _, _, _, _, _, _, _ => none
 | k + 1, x6, aW, aA, aC, aD, aE, aG, aH, aI, aJ, aK, aN => if aW = true then ((spec_l8Copy.f aA aC).bind fun aQ => (some (aQ.1, aQ.2, x6))) else ((spec_l8Copy.f aA aC).bind fun aT => ((spec_l8In.f k aT.1 aT.2 aD aE aG aH aI aJ aK aN).bind fun aV => (spec_React.l0 k x6 0 aA aC aD aE aG aH aI aJ aK aN aV.1 aV.2)))
def spec_React.l0 : Nat → List (S151) → Int → Int → List (S79) → Int → Int → Int → Int → Int → Int → Int → Bool → Int → List (S79) → Option (Int × (List (S79)) × (List (S151)))
 | 0, _, _, _, _, _, _, _, _, _, _, _, _, _, _ => none
 | k + 1, x6, x8, aT, aC, aD, aE, aG, aH, aI, aJ, aK, aN, aQ, aA => if x8 < (aC.length : Int) then (if 0 ≤ x8 then (if x8 < (aA.length : Int) then (if (((rd_T79 aA x8).f7) != ((rd_T79 aC x8).f7)) = true then (if x6.length < 2199023255552 then (spec_React.l0 k (x6 ++ [(⟨2, x8, (⟨0, 0, 0, 0⟩ : S73), 0, (rd_T79 aA x8).f7⟩ : S151)]) (wrap64 (x8 + 1)) aT aC aD aE aG aH aI aJ aK aN aQ aA) else (none)) else (spec_React.l0 k x6 (wrap64 (x8 + 1)) aT aC aD aE aG aH aI aJ aK aN aQ aA)) else (none)) else (none)) else (spec_React.l1 k x6 0 aD aE aG aH aI aJ aK aN aQ aA)
def spec_React.l1 : Nat → List (S151) → Int → Int → Int → Int → Int → Int → Int → Int → Bool → Int → List (S79) → Option (Int × (List (S79)) × (List (S151)))
 | 0, _, _, _, _, _, _, _, _, _, _, _, _ => none
 | k + 1, x6, x9, aA, aD, aE, aG, aH, aI, aJ, aK, aN, aC => if x9 < (aC.length : Int) then (spec_React.j3 k x6 x9 (aA == 2) aA aD aE aG aH aI aJ aK aN aC) else (spec_React.j3 k x6 x9 false aA aD aE aG aH aI aJ aK aN aC)
def spec_React.j3 : Nat → List (S151) → Int → Bool → Int → Int → Int → Int → Int → Int → Int → Bool → Int → List (S79) → Option (Int × (List (S79)) × (List (S151)))
 | 0, _, _, _, _, _, _, _, _, _, _, _, _, _ => none
 | k + 1, x6, x9, aV, aE, aG, aH, aI, aJ, aK, aN, aQ, aC, aA => if aV = true then (if 0 ≤ x9 then (if x9 < (aA.length : Int) then (if ((rd_T79 aA x9).f5) = 2 then ((spec_Own.f k aC aA x9).bind fun aD => ((spec_Hops.f k aC aA).bind fun aT => (if x6.length < 2199023255552 then (spec_React.l1 k (x6 ++ [(⟨1, x9, (⟨aD.1, aD.2.1, aD.2.2.1, aD.2.2.2⟩ : S73), aT, false⟩ : S151)]) (wrap64 (x9 + 1)) aE aG aH aI aJ aK aN aQ aC aA) else (none)))) else (spec_React.l1 k x6 (wrap64 (x9 + 1)) aE aG aH aI aJ aK aN aQ aC aA)) else (none)) else (none)) else (some (aC, aA, x6))
end
def spec_React.f (k : Nat) (aD : Int) (aA : List (S79)) (aE aC aG aH aI aJ aK : Int) (aN : Bool) : Option (Int × (List (S79)) × (List (S151))) := (some (([] : List (S151)) : List (S151))).bind fun aQ => ((spec_BridgeOk.f k aD aA).bind fun aT => (if aT = true then ((spec_InOk.f aE aC aG aH aI aJ aK aN).bind fun aV => (if aV = true then (spec_React.j0 k aQ (decide (aC ≥ (aA.length : Int))) aD aA aE aC aG aH aI aJ aK aN) else (spec_React.j0 k aQ true aD aA aE aC aG aH aI aJ aK aN))) else (spec_React.j0 k aQ true aD aA aE aC aG aH aI aJ aK aN)))
theorem spec_React.mono_l : ∀ k, (∀ y0 y1 y2 y3 y4 y5 y6 y7 y8 y9 aA aC, LeO (spec_React.j0 k y0 y1 y2 y3 y4 y5 y6 y7 y8 y9 aA aC) (spec_React.j0 (k + 1) y0 y1 y2 y3 y4 y5 y6 y7 y8 y9 aA aC)) ∧ (∀ y0 y1 y2 y3 y4 y5 y6 y7 y8 y9 aA aC aD aE, LeO (spec_React.l0 k y0 y1 y2 y3 y4 y5 y6 y7 y8 y9 aA aC aD aE) (spec_React.l0 (k + 1) y0 y1 y2 y3 y4 y5 y6 y7 y8 y9 aA aC aD aE)) ∧ (∀ y0 y1 y2 y3 y4 y5 y6 y7 y8 y9 aA aC, LeO (spec_React.l1 k y0 y1 y2 y3 y4 y5 y6 y7 y8 y9 aA aC) (spec_React.l1 (k + 1) y0 y1 y2 y3 y4 y5 y6 y7 y8 y9 aA aC)) ∧ (∀ y0 y1 y2 y3 y4 y5 y6 y7 y8 y9 aA aC aD, LeO (spec_React.j3 k y0 y1 y2 y3 y4 y5 y6 y7 y8 y9 aA aC aD) (spec_React.j3 (k + 1) y0 y1 y2 y3 y4 y5 y6 y7 y8 y9 aA aC aD))
 | 0 => by refine ⟨?_, ?_, ?_, ?_⟩ <;> intros <;> intro r h <;> simp [spec_React.j0, spec_React.l0, spec_React.l1, spec_React.j3] at h
 | k + 1 => by
  obtain ⟨ih0, ih1, ih2, ih3⟩ := spec_React.mono_l k
  refine ⟨?_, ?_, ?_, ?_⟩
  ·intro y0 y1 y2 y3 y4 y5 y6 y7 y8 y9 aA aC
   unfold spec_React.j0
   repeat' first|(with_reducible first|apply ih0|apply ih1|apply ih2|apply ih3|apply spec_BridgeOk.mono|apply spec_Hops.mono|apply spec_Own.mono|apply spec_l8In.mono|exact lR _|exact lN _|refine lI ?_ ?_|refine lB ?_ fun _ => ?_)|exact lN _|refine lI ?_ ?_|refine lB ?_ fun _ => ?_
  ·intro y0 y1 y2 y3 y4 y5 y6 y7 y8 y9 aA aC aD aE
   unfold spec_React.l0
   repeat' first|(with_reducible first|apply ih0|apply ih1|apply ih2|apply ih3|apply spec_BridgeOk.mono|apply spec_Hops.mono|apply spec_Own.mono|apply spec_l8In.mono|exact lR _|exact lN _|refine lI ?_ ?_|refine lB ?_ fun _ => ?_)|exact lN _|refine lI ?_ ?_|refine lB ?_ fun _ => ?_
  ·intro y0 y1 y2 y3 y4 y5 y6 y7 y8 y9 aA aC
   unfold spec_React.l1
   repeat' first|(with_reducible first|apply ih0|apply ih1|apply ih2|apply ih3|apply spec_BridgeOk.mono|apply spec_Hops.mono|apply spec_Own.mono|apply spec_l8In.mono|exact lR _|exact lN _|refine lI ?_ ?_|refine lB ?_ fun _ => ?_)|exact lN _|refine lI ?_ ?_|refine lB ?_ fun _ => ?_
  ·intro y0 y1 y2 y3 y4 y5 y6 y7 y8 y9 aA aC aD
   unfold spec_React.j3
   repeat' first|(with_reducible first|apply ih0|apply ih1|apply ih2|apply ih3|apply spec_BridgeOk.mono|apply spec_Hops.mono|apply spec_Own.mono|apply spec_l8In.mono|exact lR _|exact lN _|refine lI ?_ ?_|refine lB ?_ fun _ => ?_)|exact lN _|refine lI ?_ ?_|refine lB ?_ fun _ => ?_
theorem spec_React.mono : ∀ a0 a1 a2 a3 a4 a5 a6 a7 a8 a9 k, LeO (spec_React.f k a0 a1 a2 a3 a4 a5 a6 a7 a8 a9) (spec_React.f (k + 1) a0 a1 a2 a3 a4 a5 a6 a7 a8 a9) := by
 intro a0 a1 a2 a3 a4 a5 a6 a7 a8 a9 k
 obtain ⟨ih0, ih1, ih2, ih3⟩ := spec_React.mono_l k
 unfold spec_React.f
 repeat' first|(with_reducible first|apply ih0|apply ih1|apply ih2|apply ih3|apply spec_BridgeOk.mono|apply spec_Hops.mono|apply spec_Own.mono|apply spec_l8In.mono|exact lR _|exact lN _|refine lI ?_ ?_|refine lB ?_ fun _ => ?_)|exact lN _|refine lI ?_ ?_|refine lB ?_ fun _ => ?_
def spec_React.T8 : Bool × List (List Nat × List Nat) := (true, [([], []), ([0], [0]), ([], []), ([1, 2], [1, 2]), ([3], [3]), ([4], [4]), ([], []), ([6], [6]), ([], []), ([7, 8], [7, 8]), ([9], [9]), ([10], [10]), ([5, 11], [5, 11])])
def spec_React.B8 : List Nat := [0, 1, 0, 7, 15, 31, 0, 64, 0, 448, 960, 1984, 4095]
theorem spec_React.tab8 : rtab .any (opsOf Try.f54 8) = spec_React.T8 := by kernel_rfl
theorem spec_React.bits8 : waitsOk spec_React.T8.2 spec_React.B8 = true := by kernel_rfl
def spec_React.T14 : Bool × List (List Nat × List Nat) := (true, [([], []), ([], []), ([], []), ([], []), ([2, 3], [2, 3]), ([], []), ([5, 4], [5]), ([1, 4, 6], [1, 4, 6]), ([7], [7]), ([0, 8, 6], [0, 8]), ([9, 9, 0, 1, 2, 3, 4, 5, 6, 7, 8, 9], [0, 9])])
def spec_React.B14 : List Nat := [0, 0, 0, 0, 12, 0, 60, 126, 254, 511, 1023]
theorem spec_React.tab14 : rtab .any (opsOf Try.f54 14) = spec_React.T14 := by kernel_rfl
theorem spec_React.bits14 : waitsOk spec_React.T14.2 spec_React.B14 = true := by kernel_rfl
set_option maxHeartbeats 60000000 in
set_option maxRecDepth 100000 in
theorem spec_React.calls (k : Nat) (aV : Int) (cD : Option Addr) (bW : Nat) (aK : List (S79)) (bJ bH bK bL bM bN bO : Int) (bP : Bool) (r1 : Int) (r2 : List (S79)) (r3 : List (S151)) (w : World) (hr0_1 : Kd.C k79 w cD aK.length aK) (hc0_1 : aK.length ≤ bW) (h : spec_React.f k aV aK bJ bH bK bL bM bN bO bP = some (r1, r2, r3)) :
  Calls Try.prog 54 #[.agg #[aV, .slice cD aK.length bW], .agg #[bJ, bH, bK, bL, bM, bN, bO, bP]] w fun e w' => ∃ jD jE : Value, e = .returned (.tuple #[.agg #[r1, jD], jE]) ∧ Kd.R k79 79 w' w.heap.size (fun _ => True) jD r2 ∧ Kd.R k151 151 w' w.heap.size (fun _ => True) jE r3 ∧ Below w.heap.size w w' := by
 have pV := Try.underlying28
 have pW := Try.underlying89
 have lW := Try.underlying151
 have dC := aM hr0_1
 have dZ := aM hc0_1
 clear hr0_1 hc0_1
 have HB := aM (Below.refl w.heap.size w)
 have H : ((some (([] : List (S151)) : List (S151))).bind fun dO => ((spec_BridgeOk.f k aV aK).bind fun gG => (if gG = true then ((spec_InOk.f bJ bH bK bL bM bN bO bP).bind fun gH => (if gH = true then (spec_React.j0 k dO (decide (bH ≥ (aK.length : Int))) aV aK bJ bH bK bL bM bN bO bP) else (spec_React.j0 k dO true aV aK bJ bH bK bL bM bN bO bP))) else (spec_React.j0 k dO true aV aK bJ bH bK bL bM bN bO bP)))) = some (r1, r2, r3) := h
 clear h
 obtain ⟨dO, gS, H⟩ := hS H
 have gT := aM gS
 clear gS
 have iB := aM H
 clear H
 go_enter Try.func54, Try.ntmps54
 go_upto_region 2 with (first | ((with_reducible refine gD (N := 2) rfl ?_); (try (refine gate_guard (by rfl) ?_; dsimp only)); refine bE (N := 2) (cs := #[aV, .slice cD aK.length bW]) (t := 28) ?_; intro bV hg w4 hbox hb; have aC := aM (hbox); have lX := gF hg HB; have lY := gF hg HB; replace HB := rS HB hb; clear hb hbox hg) | ((with_reducible refine gD (N := 3) rfl ?_); (try (refine gate_guard (by rfl) ?_; dsimp only)); refine bE (N := 3) (cs := #[bJ, bH, bK, bL, bM, bN, bO, bP]) (t := 89) ?_; intro aT hg w5 hbox hb; have aA := aM (hbox); have lZ := gF hg HB; have mA := gF hg HB; have bX := nM hg aC; have bY := nH hg aC; replace aC := rB aC hb; replace HB := rS HB hb; clear hb hbox hg) | ((with_reducible refine gD (N := 4) rfl ?_); (try (refine gate_guard (by rfl) ?_; dsimp only)); refine bE (N := 4) (cs := #[.int .i64 0, .slice none 0 0]) (t := 28) ?_; intro bQ hg w6 hbox hb; have aD := aM (hbox); have mB := gF hg HB; have mC := gF hg HB; have bZ := nM hg aC; have cA := nH hg aC; have cW := nM hg aA; have cX := nH hg aA; replace aC := rB aC hb; replace aA := rB aA hb; replace HB := rS HB hb; clear hb hbox hg) | ((with_reducible refine gD (N := 10) rfl ?_); (try (refine gate_guard (by rfl) ?_; dsimp only)); refine Kd.R_lit k151 _ 151 ?hg (N := 10) ?hd (xs := ([] : List (S151))) (inner := []) (ok := fun _ => True) (okp := fun _ => True) ?hr ?hp (fun _ hk => hk) trivial (Below.refl _ _) (Nat.le_refl _) (by simp) ?_; (case hd => rfl); (case hg => rfl); (case hr => first | (go_simp; done) | (go_simp; rfl)); (case hp => exact (Reps.none _ _)); intro gJ w7 ho8 hb hg_ hnew_; clear hg_ hnew_; (first | rw [← gT.out] at ho8 | (simp only [Int.reduceToNat] at ho8; rw [← gT.out] at ho8)); have cG := aM (Kd.R_lower ho8 (below_size (bl HB.out))); replace aC := rB aC hb; replace aA := rB aA hb; replace aD := rB aD hb; replace HB := rS HB hb; clear hb ho8))
 (try simp only [Act.put, sA, sZ, sS])
 go_cut [26] (fun kE wc => ∃ (kq : Nat) (fA : Bool), kE = .bool fA ∧ Aside0 (spec_React.j0 kq dO fA aV aK bJ bH bK bL bM bN bO bP = some (r1, r2, r3)) ∧ Aside0 (kq ≤ k) ∧ Aside0 (Kd.R k151 151 wc w.heap.size (fun _ => True) gJ dO) ∧ Aside0 (wc.heap[bV]? = some (.cells #[aV, (.slice cD aK.length bW)] 28 (0, 0))) ∧ Aside0 (wc.heap[aT]? = some (.cells #[bJ, bH, bK, bL, bM, bN, bO, bP] 89 (0, 0))) ∧ Aside0 (wc.heap[bQ]? = some (.cells #[.int .i64 0, (.slice none 0 0)] 28 (0, 0))) ∧ Aside0 (Below w.heap.size w wc))
 case first =>
  have H := iB.out
  clear iB
  obtain ⟨gG, jF, H⟩ := hB H
  have A9 := aM jF
  clear jF
  by_cases eX : gG = true
  case neg =>
   replace eX := Bool.eq_false_iff.mpr eX
   subst eX
   replace H := hF H
   have H' := aM H
   clear H
   have mD := bX.out
   have mE := bY.out
   have mF := bZ.out
   have mG := cA.out
   have mH := cA2 aC.out
   go_wp2_with (first | ((with_reducible refine gC (f := 46) rfl ?_); refine gL (some 12) Try.func46 #[.agg #[aV, .slice cD aK.length bW]] ?_; (with_reducible refine (spec_BridgeOk.calls k aV _ _ aK false _ ?side1 ?side2 A9.out).mono ?_); (case side1 => exact cM (cB dC.out HB.out)); (case side2 => exact dZ.out); rintro e qJ ⟨rfl, hb⟩; refine ⟨_, rfl, ?_⟩; replace cG := rK cG hb; replace aC := rB aC hb; replace aA := rB aA hb; replace aD := rB aD hb; replace HB := rS HB hb; (try clear hb)))
   go_meet
   case rel => exact ⟨_, (true), xE, H', ⟨by first | omega | exact Nat.le_refl _⟩, ⟨kr cG.out⟩, ⟨bk aC.out⟩, ⟨bk aA.out⟩, ⟨bk aD.out⟩, ⟨bl HB.out⟩⟩
  subst eX
  replace H := hP H rfl
  obtain ⟨gH, iC, H⟩ := hB H
  have jG := aM iC
  clear iC
  by_cases eY : gH = true
  case pos =>
   subst eY
   replace H := hP H rfl
   have H' := aM H
   clear H
   have mI := bX.out
   have mJ := bY.out
   have mK := bZ.out
   have mL := cA.out
   have mM := cA2 aC.out
   go_wp2_with (first | ((with_reducible refine gC (f := 46) rfl ?_); refine gL (some 12) Try.func46 #[.agg #[aV, .slice cD aK.length bW]] ?_; (with_reducible refine (spec_BridgeOk.calls k aV _ _ aK true _ ?side1 ?side2 A9.out).mono ?_); (case side1 => exact cM (cB dC.out HB.out)); (case side2 => exact dZ.out); rintro e qM ⟨rfl, hb⟩; refine ⟨_, rfl, ?_⟩; replace cG := rK cG hb; replace aC := rB aC hb; replace aA := rB aA hb; replace aD := rB aD hb; replace HB := rS HB hb; (try clear hb); have mN := cW.out; have mO := cX.out; have mP := cA8 aA.out) | (go_at_call 132; (with_reducible refine (spec_InOk.calls bJ bH bK bL bM bN bO bP true _ jG.out).mono ?_); rintro e qN ⟨rfl, hb⟩; replace cG := rK cG hb; replace aC := rB aC hb; replace aA := rB aA hb; replace aD := rB aD hb; replace HB := rS HB hb; (try clear hb); have mQ := cA8 aA.out; have mR := cA2 aC.out))
   go_meet
   case rel => exact ⟨_, (decide (bH ≥ (aK.length : Int))), xE, H', ⟨by first | omega | exact Nat.le_refl _⟩, ⟨kr cG.out⟩, ⟨bk aC.out⟩, ⟨bk aA.out⟩, ⟨bk aD.out⟩, ⟨bl HB.out⟩⟩
  replace eY := Bool.eq_false_iff.mpr eY
  subst eY
  replace H := hF H
  have H' := aM H
  clear H
  have mS := bX.out
  have mT := bY.out
  have mU := bZ.out
  have mV := cA.out
  have mW := cA2 aC.out
  go_wp2_with (first | ((with_reducible refine gC (f := 46) rfl ?_); refine gL (some 12) Try.func46 #[.agg #[aV, .slice cD aK.length bW]] ?_; (with_reducible refine (spec_BridgeOk.calls k aV _ _ aK true _ ?side1 ?side2 A9.out).mono ?_); (case side1 => exact cM (cB dC.out HB.out)); (case side2 => exact dZ.out); rintro e qO ⟨rfl, hb⟩; refine ⟨_, rfl, ?_⟩; replace cG := rK cG hb; replace aC := rB aC hb; replace aA := rB aA hb; replace aD := rB aD hb; replace HB := rS HB hb; (try clear hb); have mX := cW.out; have mY := cX.out; have mZ := cA8 aA.out) | (go_at_call 132; (with_reducible refine (spec_InOk.calls bJ bH bK bL bM bN bO bP false _ jG.out).mono ?_); rintro e qP ⟨rfl, hb⟩; replace cG := rK cG hb; replace aC := rB aC hb; replace aA := rB aA hb; replace aD := rB aD hb; replace HB := rS HB hb; (try clear hb)))
  go_meet
  case rel => exact ⟨_, (true), xE, H', ⟨by first | omega | exact Nat.le_refl _⟩, ⟨kr cG.out⟩, ⟨bk aC.out⟩, ⟨bk aA.out⟩, ⟨bk aD.out⟩, ⟨bl HB.out⟩⟩
 case rest =>
  clear iB
  repeat first|clear c1|clear c2|clear p2|clear c3|clear c4|clear c5|clear eX|clear eY|clear iD|clear iE|clear iF|clear iG|clear iH|clear iI|clear iJ|clear iK
  obtain ⟨kq, fA, rfl, HA, HJ2, aH, aC, aA, aD, HB⟩ := hcut
  cases kq with
  | zero => exact absurd HA.out (by simp [spec_React.j0])
  | succ gB =>
   have H := HA.out
   clear HA
   simp only [spec_React.j0] at H
   by_cases fC : fA = true
   case pos =>
    subst fC
    replace H := hP H rfl
    obtain ⟨⟨fS, fT⟩, iL, H⟩ := hB H
    try dsimp only at H
    have kG := aM iL
    clear iL
    simp only [Option.some.injEq, Prod.mk.injEq] at H
    obtain ⟨rfl, rfl, rfl⟩ := H
    have nA := bX.out
    have nB := bY.out
    have nC := bZ.out
    have nD := cA.out
    have nE := cA2 aC.out
    go_wp2_with (first | ((with_reducible refine gC (f := 67) rfl ?_); refine gL (some 28) Try.func67 #[.agg #[aV, .slice cD aK.length bW]] ?_; (with_reducible refine (spec_l8Copy.calls aV _ _ aK fS fT _ ?side1 ?side2 kG.out).mono ?_); (case side1 => exact cM (cB dC.out HB.out)); (case side2 => exact dZ.out); rintro e qQ ⟨pX, rfl, ho0, hb⟩; refine ⟨_, rfl, ?_⟩; have gU := aM (Kd.R_lower ho0 (below_size (bl HB.out))); replace aH := rK aH hb; replace aC := rB aC hb; replace aA := rB aA hb; replace aD := rB aD hb; replace HB := rS HB hb; (repeat first|clear hb|clear ho0); have nF := cX.out; have nI := cW.out; have nJ := cA2 aD.out; obtain ⟨gK, gM, jQ⟩ := Kd.R_slice gU.out; subst jQ))
    refine bodyPost_ret (results_ct rfl _ _ bQ 28 #[fS, .slice gK fT.length gM] (0, 0) _ rfl (bm aD.out) Try.underlying28 rfl (by kernel_rfl)) rfl ?_
    exact ⟨_, _, xW, by (with_reducible repeat (first | apply Kd.R_alloc | apply Kd.R_drewN | apply Kd.R_drew)); exact Kd.R_mono (kF (p := ⟨bQ, 1, none⟩) (kF (p := ⟨bQ, 0, none⟩) (Kd.R_types gU.out aD.out (by decide)) (fun _ hk => hk.2) (.int .i64 fS)) (fun _ hk => hk.2) (.slice gK fT.length gM)) (fun _ hk => trivial), by (with_reducible repeat (first | apply Kd.R_alloc | apply Kd.R_drewN | apply Kd.R_drew)); exact Kd.R_mono (kF (p := ⟨bQ, 1, none⟩) (kF (p := ⟨bQ, 0, none⟩) (Kd.R_types aH.out aD.out (by decide)) (fun _ hk => hk.2) (.int .i64 fS)) (fun _ hk => hk.2) (.slice gK fT.length gM)) (fun _ hk => trivial), bl HB.out⟩
   replace fC := Bool.eq_false_iff.mpr fC
   subst fC
   replace H := hF H
   obtain ⟨⟨dP, cE⟩, iM, H⟩ := hB H
   try dsimp only at H
   have jH := aM iM
   clear iM
   obtain ⟨⟨bU, aI⟩, iN, H⟩ := hB H
   try dsimp only at H
   have iO := aM iN
   clear iN
   have H' := aM H
   clear H
   try go_wp2
   replace aH := aM (Kd.R_drew aH.out)
   replace aC := aM (blk_drew aC.out)
   replace aA := aM (blk_drew aA.out)
   replace aD := aM (blk_drew aD.out)
   replace HB := aM (below_drew1 HB.out)
   refine start_ (n := 6) (S := fun w' => cT2 w' bV (.int .i64 aV) (.slice cD aK.length bW) (cS8 w' aT (.int .i64 bJ) (.int .i64 bH) (.int .i64 bK) (.int .i64 bL) (.int .i64 bM) (.int .i64 bN) (.int .i64 bO) (.bool bP))) (ds := []) (dn 6 0) (by kernel_rfl) rfl rfl ⟨cI aC.out 0, cI aC.out 1, cI aA.out 0, cI aA.out 1, cI aA.out 2, cI aA.out 3, cI aA.out 4, cI aA.out 5, cI aA.out 6, cI aA.out 7⟩ (fun hHeld => ?_)
   generalize wc.drew = qS at aH aC aA aD HB hHeld ⊢
   refine take_ (i := 0) (N := some 30) (v := ?_) (a' := ?_) (bv 6 1) rfl rfl (by kernel_rfl) (fun _ _ _ h => h) (Or.inl ⟨by rfl, ?_⟩) hHeld ?_ ?_
   rotate_left
   ·rintro w' ⟨s0, s1, s2, s3, s4, s5, s6, s7, s8, s9⟩
    go_simp
    with_reducible rfl
   rotate_left
   ·simp only [Act.put, sA, sZ, sS, i64_w, i32_w]
    rfl
   refine take_ (i := 2) (N := some 32) (v := ?_) (a' := ?_) (bv 6 5) rfl rfl (by kernel_rfl) (fun _ _ _ h => h) (Or.inl ⟨by rfl, ?_⟩) hHeld ?_ ?_
   rotate_left
   ·rintro w' ⟨s0, s1, s2, s3, s4, s5, s6, s7, s8, s9⟩
    go_simp
    with_reducible rfl
   rotate_left
   ·simp only [Act.put, sA, sZ, sS, i64_w, i32_w]
    rfl
   refine join_ (σ := Value × Value × Nat) 1 (bv 6 31) (fun s_ => [(31, .agg #[dP, s_.1]), (33, .agg #[bU, s_.2.1]), (7, .pointer (some ⟨s_.2.2, 0, none⟩))]) (fun s_ w' => (w'.cell? ⟨bV, 0, none⟩ = some aV ∧ w'.cell? ⟨bV, 1, none⟩ = some (.slice cD aK.length bW) ∧ w'.cell? ⟨aT, 0, none⟩ = some bJ ∧ w'.cell? ⟨aT, 1, none⟩ = some bH ∧ w'.cell? ⟨aT, 2, none⟩ = some bK ∧ w'.cell? ⟨aT, 3, none⟩ = some bL ∧ w'.cell? ⟨aT, 4, none⟩ = some bM ∧ w'.cell? ⟨aT, 5, none⟩ = some bN ∧ w'.cell? ⟨aT, 6, none⟩ = some bO ∧ w'.cell? ⟨aT, 7, none⟩ = some bP) ∧ (Kd.R k79 79 w' w.heap.size (fun _ => True) s_.2.1 aI) ∧ (Kd.R k151 151 w' w.heap.size (fun _ => True) gJ dO) ∧ (w'.heap[bV]? = some (.cells #[aV, .slice cD aK.length bW] 28 (0, 0))) ∧ (w'.heap[aT]? = some (.cells #[bJ, bH, bK, bL, bM, bN, bO, bP] 89 (0, 0))) ∧ (w'.heap[bQ]? = some (.cells #[.int .i64 0, .slice none 0 0] 28 (0, 0))) ∧ (w'.heap[s_.2.2]? = some (.cells #[.int .i64 0, .slice none 0 0] 28 (0, 0))) ∧ (w.heap.size ≤ s_.2.2) ∧ (w.heap.size ≤ s_.2.2) ∧ (bV ≠ s_.2.2) ∧ (s_.2.2 ≠ bV) ∧ (aT ≠ s_.2.2) ∧ (s_.2.2 ≠ aT) ∧ (bQ ≠ s_.2.2) ∧ (s_.2.2 ≠ bQ) ∧ (Below w.heap.size w w')) ?_ ?_
   rotate_left
   ·intro hCont
    refine two_ (i := 1) (j := 4) (Ni := some 31) (Nj := some 7) (bv 6 7) (bv 6 21) rfl rfl rfl rfl (by kernel_rfl) (by decide) (by decide) (fun K hK => ?_) (fun K hK => ?_)
    ·skip
     refine goes_ Try.func67 (by kernel_rfl) rfl #[.agg #[aV, .slice cD aK.length bW]] (by rfl) rfl rfl xR ?_
     with_reducible refine (spec_l8Copy.calls aV _ _ aK dP cE _ ?side1 ?side2 jH.out).mono ?_
     (case side1 => exact cM (cB dC.out HB.out))
     (case side2 => exact dZ.out)
     rintro e kH ⟨iP, rfl, ho0, hb⟩
     refine ⟨_, rfl, ?_⟩
     have aW := aM (Kd.R_lower ho0 (below_size (bl HB.out)))
     replace aH := rK aH hb
     replace aC := rB aC hb
     replace aA := rB aA hb
     replace aD := rB aD hb
     replace HB := rS HB hb
     (try clear hb)
     (try clear hb2)
     (try clear hk)
     (try clear hi)
     (try clear ho0)
     obtain ⟨fU, fV, iQ⟩ := Kd.R_slice aW.out
     (first | subst iQ | (injection iQ with f1_ f2_ f3_; have f4_ := f1_.symm; have f5_ := f3_.symm; clear f1_ f2_ f3_; subst f4_; subst f5_))
     refine hK.out _ _ ⟨cI aC.out 0, cI aC.out 1, cI aA.out 0, cI aA.out 1, cI aA.out 2, cI aA.out 3, cI aA.out 4, cI aA.out 5, cI aA.out 6, cI aA.out 7⟩ (fun hHeld => ?_)
     clear hK K
     refine norm_ (a' := ?_) ?_ ?_
     rotate_left
     ·show Act.put _ (some 31) _ = _
      simp only [Act.put, sA, sZ, sS, i64_w, i32_w]
      rfl
     refine two_ (i := 3) (j := 4) (Ni := some 33) (Nj := some 7) (bv 6 15) (bv 6 23) rfl rfl rfl rfl (by kernel_rfl) (by decide) (by decide) (fun K hK => ?_) (fun K hK => ?_)
     ·skip
      refine goes_ Try.func133 (by kernel_rfl) rfl #[.agg #[dP, .slice fU cE.length fV], .agg #[bJ, bH, bK, bL, bM, bN, bO, bP]] (by rfl) rfl rfl xR ?_
      with_reducible refine (spec_l8In.calls gB dP (fun k_ => some k_ = (.slice fU cE.length fV : Value).ownBlock) (.slice fU cE.length fV) cE bJ bH bK bL bM bN bO bP bU aI w _ ?side1 ?side2 iO.out).mono ?_
      (case side1 => exact bl HB.out)
      (case side2 => exact Kd.R_tight rfl aW.out)
      rintro e qT ⟨eF, rfl, ho0, hb, hkp⟩
      refine ⟨_, rfl, ?_⟩
      have cV := aM (Kd.R_mono (ok' := fun k_ => True) ho0 (fun k_ hk_ => trivial))
      replace aH := aM (Kd.R_mono (ok' := fun k_ => True) (Kd.R_keptB ((Kd.R_apart' aH.out (Kd.R_typed aW.out) (by decide))) hkp (fun k_ hk_ hs_ => (hk_.2) hs_)) (fun k_ hk_ => trivial))
      replace aC := aM (blk_kept (bk aC.out) hkp (fun hs_ => (fun e_ => (Kd.R_ne aW.out aC.out (by decide)) e_) hs_))
      replace aA := aM (blk_kept (bk aA.out) hkp (fun hs_ => (fun e_ => (Kd.R_ne aW.out aA.out (by decide)) e_) hs_))
      replace aD := aM (blk_kept (bk aD.out) hkp (fun hs_ => (fun e_ => (Kd.R_ne aW.out aD.out (by decide)) e_) hs_))
      replace HB := aM (hb)
      clear aW
      (try clear hb)
      (try clear hkp)
      (try clear ho0)
      refine hK.out _ _ ⟨cI aC.out 0, cI aC.out 1, cI aA.out 0, cI aA.out 1, cI aA.out 2, cI aA.out 3, cI aA.out 4, cI aA.out 5, cI aA.out 6, cI aA.out 7⟩ (fun hHeld => ?_)
      clear hK K
      refine norm_ (a' := ?_) ?_ ?_
      rotate_left
      ·show Act.put _ (some 33) _ = _
       simp only [Act.put, sA, sZ, sS, i64_w, i32_w]
       rfl
      refine one_ (i := 4) (N := some 7) (bv 6 31) rfl rfl (by kernel_rfl) (by decide) (fun K hK => ?_)
      refine box_step ?hg (N := 7) ?hd (cs := #[.int .i64 0, .slice none 0 0]) (t := 28) ?hr ?_; (case hd => rfl); (case hg => rfl); (case hr => first | (go_simp; done) | (go_simp; rfl))
      intro bI hg jI hbox hb
      have aE := aM (hbox)
      have eA := gF hg HB
      have eB := gF hg HB
      have aN := nM hg aC
      have aQ := nH hg aC
      have aX := nM hg aA
      have bA := nH hg aA
      have bD := nM hg aD
      have bG := nH hg aD
      replace aH := rK aH hb
      replace cV := rK cV hb
      replace aC := rB aC hb
      replace aA := rB aA hb
      replace aD := rB aD hb
      replace HB := rS HB hb
      clear hb hbox hg
      refine hK.out _ _ ⟨cI aC.out 0, cI aC.out 1, cI aA.out 0, cI aA.out 1, cI aA.out 2, cI aA.out 3, cI aA.out 4, cI aA.out 5, cI aA.out 6, cI aA.out 7⟩ (fun hHeld => ?_)
      clear hK K
      refine norm_ (a' := ?_) ?_ ?_
      rotate_left
      ·show Act.put _ (some 7) _ = _
       simp only [Act.put, sA, sZ, sS, i64_w, i32_w]
       rfl
      exact norm_ (by simp only [putAll, Act.put, sA, sZ, sS]) (hCont (.slice fU cE.length fV, eF, bI) _ ⟨hHeld, (kr cV.out), (kr aH.out), (bk aC.out), (bk aA.out), (bk aD.out), (bk aE.out), eA.out, eB.out, aN.out, aQ.out, aX.out, bA.out, bD.out, bG.out, (bl HB.out)⟩)
     ·skip
      refine box_step ?hg (N := 7) ?hd (cs := #[.int .i64 0, .slice none 0 0]) (t := 28) ?hr ?_; (case hd => rfl); (case hg => rfl); (case hr => first | (go_simp; done) | (go_simp; rfl))
      intro bI hg kI hbox hb
      have aE := aM (hbox)
      have eA := gF hg HB
      have eB := gF hg HB
      have aN := nM hg aC
      have aQ := nH hg aC
      have aX := nM hg aA
      have bA := nH hg aA
      have bD := nM hg aD
      have bG := nH hg aD
      replace aH := rK aH hb
      replace aW := rK aW hb
      replace aC := rB aC hb
      replace aA := rB aA hb
      replace aD := rB aD hb
      replace HB := rS HB hb
      clear hb hbox hg
      obtain ⟨dQ, dR, fD⟩ := Kd.R_slice aW.out
      (first | subst fD | (injection fD with f1_ f2_ f3_; have f4_ := f1_.symm; have f5_ := f3_.symm; clear f1_ f2_ f3_; subst f4_; subst f5_))
      refine hK.out _ _ ⟨cI aC.out 0, cI aC.out 1, cI aA.out 0, cI aA.out 1, cI aA.out 2, cI aA.out 3, cI aA.out 4, cI aA.out 5, cI aA.out 6, cI aA.out 7⟩ (fun hHeld => ?_)
      clear hK K
      refine norm_ (a' := ?_) ?_ ?_
      rotate_left
      ·show Act.put _ (some 7) _ = _
       simp only [Act.put, sA, sZ, sS, i64_w, i32_w]
       rfl
      refine one_ (i := 3) (N := some 33) (bv 6 31) rfl rfl (by kernel_rfl) (by decide) (fun K hK => ?_)
      refine goes_ Try.func133 (by kernel_rfl) rfl #[.agg #[dP, .slice dQ cE.length dR], .agg #[bJ, bH, bK, bL, bM, bN, bO, bP]] (by rfl) rfl rfl xR ?_
      with_reducible refine (spec_l8In.calls gB dP (fun k_ => some k_ = (.slice dQ cE.length dR : Value).ownBlock) (.slice dQ cE.length dR) cE bJ bH bK bL bM bN bO bP bU aI w _ ?side1 ?side2 iO.out).mono ?_
      (case side1 => exact bl HB.out)
      (case side2 => exact Kd.R_tight rfl aW.out)
      rintro e jI ⟨eF, rfl, ho0, hb, hkp⟩
      refine ⟨_, rfl, ?_⟩
      have cV := aM (Kd.R_mono (ok' := fun k_ => True) ho0 (fun k_ hk_ => trivial))
      replace aH := aM (Kd.R_mono (ok' := fun k_ => True) (Kd.R_keptB ((Kd.R_apart' aH.out (Kd.R_typed aW.out) (by decide))) hkp (fun k_ hk_ hs_ => (hk_.2) hs_)) (fun k_ hk_ => trivial))
      replace aC := aM (blk_kept (bk aC.out) hkp (fun hs_ => (fun e_ => (Kd.R_ne aW.out aC.out (by decide)) e_) hs_))
      replace aA := aM (blk_kept (bk aA.out) hkp (fun hs_ => (fun e_ => (Kd.R_ne aW.out aA.out (by decide)) e_) hs_))
      replace aD := aM (blk_kept (bk aD.out) hkp (fun hs_ => (fun e_ => (Kd.R_ne aW.out aD.out (by decide)) e_) hs_))
      replace aE := aM (blk_kept (bk aE.out) hkp (fun hs_ => (fun e_ => (Kd.R_ne aW.out aE.out (by decide)) e_) hs_))
      replace HB := aM (hb)
      clear aW
      (try clear hb)
      (try clear hkp)
      (try clear ho0)
      refine hK.out _ _ ⟨cI aC.out 0, cI aC.out 1, cI aA.out 0, cI aA.out 1, cI aA.out 2, cI aA.out 3, cI aA.out 4, cI aA.out 5, cI aA.out 6, cI aA.out 7⟩ (fun hHeld => ?_)
      clear hK K
      refine norm_ (a' := ?_) ?_ ?_
      rotate_left
      ·show Act.put _ (some 33) _ = _
       simp only [Act.put, sA, sZ, sS, i64_w, i32_w]
       rfl
      exact norm_ (by simp only [putAll, Act.put, sA, sZ, sS]) (hCont (.slice dQ cE.length dR, eF, bI) _ ⟨hHeld, (kr cV.out), (kr aH.out), (bk aC.out), (bk aA.out), (bk aD.out), (bk aE.out), eA.out, eB.out, aN.out, aQ.out, aX.out, bA.out, bD.out, bG.out, (bl HB.out)⟩)
    ·skip
     refine box_step ?hg (N := 7) ?hd (cs := #[.int .i64 0, .slice none 0 0]) (t := 28) ?hr ?_; (case hd => rfl); (case hg => rfl); (case hr => first | (go_simp; done) | (go_simp; rfl))
     intro bI hg kH hbox hb
     have aE := aM (hbox)
     have eA := gF hg HB
     have eB := gF hg HB
     have aN := nM hg aC
     have aQ := nH hg aC
     have aX := nM hg aA
     have bA := nH hg aA
     have bD := nM hg aD
     have bG := nH hg aD
     replace aH := rK aH hb
     replace aC := rB aC hb
     replace aA := rB aA hb
     replace aD := rB aD hb
     replace HB := rS HB hb
     clear hb hbox hg
     refine hK.out _ _ ⟨cI aC.out 0, cI aC.out 1, cI aA.out 0, cI aA.out 1, cI aA.out 2, cI aA.out 3, cI aA.out 4, cI aA.out 5, cI aA.out 6, cI aA.out 7⟩ (fun hHeld => ?_)
     clear hK K
     refine norm_ (a' := ?_) ?_ ?_
     rotate_left
     ·show Act.put _ (some 7) _ = _
      simp only [Act.put, sA, sZ, sS, i64_w, i32_w]
      rfl
     refine one_ (i := 1) (N := some 31) (bv 6 23) rfl rfl (by kernel_rfl) (by decide) (fun K hK => ?_)
     refine goes_ Try.func67 (by kernel_rfl) rfl #[.agg #[aV, .slice cD aK.length bW]] (by rfl) rfl rfl xR ?_
     with_reducible refine (spec_l8Copy.calls aV _ _ aK dP cE _ ?side1 ?side2 jH.out).mono ?_
     (case side1 => exact cM (cB dC.out HB.out))
     (case side2 => exact dZ.out)
     rintro e kI ⟨iP, rfl, ho0, hb⟩
     refine ⟨_, rfl, ?_⟩
     have aW := aM (Kd.R_lower ho0 (below_size (bl HB.out)))
     replace aH := rK aH hb
     replace aC := rB aC hb
     replace aA := rB aA hb
     replace aD := rB aD hb
     replace aE := rB aE hb
     replace HB := rS HB hb
     (try clear hb)
     (try clear hb2)
     (try clear hk)
     (try clear hi)
     (try clear ho0)
     obtain ⟨dQ, dR, fD⟩ := Kd.R_slice aW.out
     (first | subst fD | (injection fD with f1_ f2_ f3_; have f4_ := f1_.symm; have f5_ := f3_.symm; clear f1_ f2_ f3_; subst f4_; subst f5_))
     refine hK.out _ _ ⟨cI aC.out 0, cI aC.out 1, cI aA.out 0, cI aA.out 1, cI aA.out 2, cI aA.out 3, cI aA.out 4, cI aA.out 5, cI aA.out 6, cI aA.out 7⟩ (fun hHeld => ?_)
     clear hK K
     refine norm_ (a' := ?_) ?_ ?_
     rotate_left
     ·show Act.put _ (some 31) _ = _
      simp only [Act.put, sA, sZ, sS, i64_w, i32_w]
      rfl
     refine one_ (i := 3) (N := some 33) (bv 6 31) rfl rfl (by kernel_rfl) (by decide) (fun K hK => ?_)
     refine goes_ Try.func133 (by kernel_rfl) rfl #[.agg #[dP, .slice dQ cE.length dR], .agg #[bJ, bH, bK, bL, bM, bN, bO, bP]] (by rfl) rfl rfl xR ?_
     with_reducible refine (spec_l8In.calls gB dP (fun k_ => some k_ = (.slice dQ cE.length dR : Value).ownBlock) (.slice dQ cE.length dR) cE bJ bH bK bL bM bN bO bP bU aI w _ ?side1 ?side2 iO.out).mono ?_
     (case side1 => exact bl HB.out)
     (case side2 => exact Kd.R_tight rfl aW.out)
     rintro e jI ⟨eF, rfl, ho0, hb, hkp⟩
     refine ⟨_, rfl, ?_⟩
     have cV := aM (Kd.R_mono (ok' := fun k_ => True) ho0 (fun k_ hk_ => trivial))
     replace aH := aM (Kd.R_mono (ok' := fun k_ => True) (Kd.R_keptB ((Kd.R_apart' aH.out (Kd.R_typed aW.out) (by decide))) hkp (fun k_ hk_ hs_ => (hk_.2) hs_)) (fun k_ hk_ => trivial))
     replace aC := aM (blk_kept (bk aC.out) hkp (fun hs_ => (fun e_ => (Kd.R_ne aW.out aC.out (by decide)) e_) hs_))
     replace aA := aM (blk_kept (bk aA.out) hkp (fun hs_ => (fun e_ => (Kd.R_ne aW.out aA.out (by decide)) e_) hs_))
     replace aD := aM (blk_kept (bk aD.out) hkp (fun hs_ => (fun e_ => (Kd.R_ne aW.out aD.out (by decide)) e_) hs_))
     replace aE := aM (blk_kept (bk aE.out) hkp (fun hs_ => (fun e_ => (Kd.R_ne aW.out aE.out (by decide)) e_) hs_))
     replace HB := aM (hb)
     clear aW
     (try clear hb)
     (try clear hkp)
     (try clear ho0)
     refine hK.out _ _ ⟨cI aC.out 0, cI aC.out 1, cI aA.out 0, cI aA.out 1, cI aA.out 2, cI aA.out 3, cI aA.out 4, cI aA.out 5, cI aA.out 6, cI aA.out 7⟩ (fun hHeld => ?_)
     clear hK K
     refine norm_ (a' := ?_) ?_ ?_
     rotate_left
     ·show Act.put _ (some 33) _ = _
      simp only [Act.put, sA, sZ, sS, i64_w, i32_w]
      rfl
     exact norm_ (by simp only [putAll, Act.put, sA, sZ, sS]) (hCont (.slice dQ cE.length dR, eF, bI) _ ⟨hHeld, (kr cV.out), (kr aH.out), (bk aC.out), (bk aA.out), (bk aD.out), (bk aE.out), eA.out, eB.out, aN.out, aQ.out, aX.out, bA.out, bD.out, bG.out, (bl HB.out)⟩)
   rintro ⟨iP, eF, bI⟩ cY ⟨hS_, h0_, h1_, h2_, h3_, h4_, h5_, h6_, h7_, h8_, h9_, h10_, h11_, h12_, h13_, h14_⟩
   have cV : Aside0 (Kd.R k79 79 cY w.heap.size (fun _ => True) eF aI) := ⟨h0_⟩
   have aE : Aside0 (cY.heap[bI]? = some (.cells #[.int .i64 0, .slice none 0 0] 28 (0, 0))) := ⟨h5_⟩
   have eA : Aside0 (w.heap.size ≤ bI) := ⟨h6_⟩
   have eB : Aside0 (w.heap.size ≤ bI) := ⟨h7_⟩
   have aN : Aside0 (bV ≠ bI) := ⟨h8_⟩
   have aQ : Aside0 (bI ≠ bV) := ⟨h9_⟩
   have aX : Aside0 (aT ≠ bI) := ⟨h10_⟩
   have bA : Aside0 (bI ≠ aT) := ⟨h11_⟩
   have bD : Aside0 (bQ ≠ bI) := ⟨h12_⟩
   have bG : Aside0 (bI ≠ bQ) := ⟨h13_⟩
   replace aH : Aside0 (Kd.R k151 151 cY w.heap.size (fun _ => True) gJ dO) := ⟨h1_⟩
   replace aC : Aside0 (cY.heap[bV]? = some (.cells #[aV, .slice cD aK.length bW] 28 (0, 0))) := ⟨h2_⟩
   replace aA : Aside0 (cY.heap[aT]? = some (.cells #[bJ, bH, bK, bL, bM, bN, bO, bP] 89 (0, 0))) := ⟨h3_⟩
   replace aD : Aside0 (cY.heap[bQ]? = some (.cells #[.int .i64 0, .slice none 0 0] 28 (0, 0))) := ⟨h4_⟩
   replace HB : Aside0 (Below w.heap.size w cY) := ⟨h14_⟩
   clear h0_ h1_ h2_ h3_ h4_ h5_ h6_ h7_ h8_ h9_ h10_ h11_ h12_ h13_ h14_
   have hHeld : cY.cell? ⟨bV, 0, none⟩ = some aV ∧ cY.cell? ⟨bV, 1, none⟩ = some (.slice cD aK.length bW) ∧ cY.cell? ⟨aT, 0, none⟩ = some bJ ∧ cY.cell? ⟨aT, 1, none⟩ = some bH ∧ cY.cell? ⟨aT, 2, none⟩ = some bK ∧ cY.cell? ⟨aT, 3, none⟩ = some bL ∧ cY.cell? ⟨aT, 4, none⟩ = some bM ∧ cY.cell? ⟨aT, 5, none⟩ = some bN ∧ cY.cell? ⟨aT, 6, none⟩ = some bO ∧ cY.cell? ⟨aT, 7, none⟩ = some bP := hS_
   obtain ⟨dA, cU, iR⟩ := Kd.R_slice cV.out
   (first | subst iR | (injection iR with f1_ f2_ f3_; have f4_ := f1_.symm; have f5_ := f3_.symm; clear f1_ f2_ f3_; subst f4_; subst f5_))
   refine norm_ (a' := ?_) ?_ ?_
   rotate_left
   ·simp only [putAll, Act.put, sA, sZ, sS]
    rfl
   refine one_ (i := 5) (N := none) (bv 6 63) rfl rfl (by kernel_rfl) (by decide) (fun K hK => ?_)
   have qA := cI aE.out 0
   have hfs50 := bF aE.out 0
   have hns50_0 := aN.out
   have hns50_1 := aX.out
   have hns50_2 := bD.out
   have hms50_0 := aQ.out
   have hms50_1 := bA.out
   have hms50_2 := bG.out
   have qC := cI aE.out 1
   have hfs52 := bF aE.out 1
   have hns52_0 := aN.out
   have hns52_1 := aX.out
   have hns52_2 := bD.out
   have hms52_0 := aQ.out
   have hms52_1 := bA.out
   have hms52_2 := bG.out
   refine skip_ (w1 := ?_) (by rfl) rfl ?_ ?_
   rotate_left
   ·go_simp
    rfl
   refine hK.out _ _ ⟨(cm (hHeld.1)), (cm (hHeld.2.1)), (cm (hHeld.2.2.1)), (cm (hHeld.2.2.2.1)), (cm (hHeld.2.2.2.2.1)), (cm (hHeld.2.2.2.2.2.1)), (cm (hHeld.2.2.2.2.2.2.1)), (cm (hHeld.2.2.2.2.2.2.2.1)), (cm (hHeld.2.2.2.2.2.2.2.2.1)), (cm (hHeld.2.2.2.2.2.2.2.2.2))⟩ (fun hHeld => ?_)
   clear hK K
   refine done_ (by kernel_rfl) ?_
   try go_wp2
   go_loopg [6, 8] gB (fun kq v6 v8 w' => ∃ (dY : List (S151)) (aJ : Int), v8 = .int .i64 aJ ∧ Aside0 (spec_React.l0 kq dY aJ aV aK bJ bH bK bL bM bN bO bP bU aI = some (r1, r2, r3)) ∧ Aside0 (kq ≤ gB) ∧ Aside0 (Kd.R k151 151 w' w.heap.size (fun _ => True) v6 dY) ∧ Aside0 (Kd.R k79 79 w' w.heap.size (fun _ => True) (.slice dA aI.length cU) aI) ∧ Aside0 (w'.heap[bV]? = some (.cells #[aV, (.slice cD aK.length bW)] 28 (0, 0))) ∧ Aside0 (w'.heap[aT]? = some (.cells #[bJ, bH, bK, bL, bM, bN, bO, bP] 89 (0, 0))) ∧ Aside0 (w'.heap[bQ]? = some (.cells #[.int .i64 0, (.slice none 0 0)] 28 (0, 0))) ∧ Aside0 (w'.heap[bI]? = some (.cells #[bU, (.slice dA aI.length cU)] 28 (0, 0))) ∧ Aside0 (Below w.heap.size w w'))
   case atStart => exact ⟨(dO), (0), xE, H', ⟨Nat.le_refl _⟩, ⟨kr (Kd.R_mono (kF (p := ⟨bI, 1, none⟩) (kF (p := ⟨bI, 0, none⟩) (Kd.R_types aH.out aE.out (by decide)) (fun _ hk => hk.2) (.int .i64 bU)) (fun _ hk => hk.2) (.slice dA aI.length cU)) (fun _ hk => trivial))⟩, ⟨kr (Kd.R_mono (kF (p := ⟨bI, 1, none⟩) (kF (p := ⟨bI, 0, none⟩) (Kd.R_types cV.out aE.out (by decide)) (fun _ hk => hk.2) (.int .i64 bU)) (fun _ hk => hk.2) (.slice dA aI.length cU)) (fun _ hk => trivial))⟩, ⟨fm aC.out⟩, ⟨fm aA.out⟩, ⟨fm aD.out⟩, ⟨bm aE.out⟩, ⟨bl HB.out⟩⟩
   case round =>
    clear H'
    repeat first|clear c1|clear c2|clear p2|clear c3|clear c4|clear c5|clear c6|clear eX|clear eY|clear iD|clear iE|clear iF|clear iG|clear iH|clear iI|clear iJ|clear iK|clear fC|clear jJ|clear jK|clear jL|clear jM|clear p2
    obtain ⟨dY, aJ, rfl, HA, eE, aH, aG, aC, aA, aD, aE, HB⟩ := hrel
    cases gk with
    | zero => exact absurd HA.out (by simp [spec_React.l0])
    | succ k2 =>
     have H := HA.out
     clear HA
     simp only [spec_React.l0] at H
     by_cases eZ : aJ < (aK.length : Int)
     case pos =>
      rw [if_pos eZ] at H
      have fW := decide_eq_true eZ
      clear eZ
      obtain ⟨gV, H⟩ := gI H
      obtain ⟨gW, H⟩ := gI H
      by_cases dD : (((rd_T79 aI aJ).f7) != ((rd_T79 aK aJ).f7)) = true
      case neg =>
       rw [if_neg dD] at H
       have fX : (((rd_T79 aI aJ).f7) != ((rd_T79 aK aJ).f7)) = false := by simpa using dD
       (try (have fY : decide (((rd_T79 aI aJ).f7) = ((rd_T79 aK aJ).f7)) = true := by simpa using dD))
       (try (have gA : (((rd_T79 aI aJ).f7) == ((rd_T79 aK aJ).f7)) = true := by simpa using dD))
       clear dD
       have H' := aM H
       clear H
       have nK := bX.out
       have nN := bY.out
       have nO := bZ.out
       have nP := cA.out
       have nQ := aN.out
       have nR := aQ.out
       have nS := cA2 aC.out
       try go_wp2
       replace aH := aM (Kd.R_drew aH.out)
       replace aG := aM (Kd.R_drew aG.out)
       replace aC := aM (blk_drew aC.out)
       replace aA := aM (blk_drew aA.out)
       replace aD := aM (blk_drew aD.out)
       replace aE := aM (blk_drew aE.out)
       replace HB := aM (below_drew1 HB.out)
       have dS : 0 ≤ (aJ : Int) := dT
       have dU : aJ < (aI.length : Int) := dT
       obtain ⟨eC, gN, dE, dF, dG, dH, dI, dJ, dK, dL, dM, dN, dB⟩ := at_T79 (Kd.R_reads' aG.out).2.2 aJ dS dU
       cases gN
       replace dS := eq_true dS
       replace dU := eq_true dU
       have dV : 0 ≤ (aJ : Int) := dT
       have dW : aJ < (aK.length : Int) := dT
       obtain ⟨eJ, gO, cH, cK, cL, cN, cO, cP, cQ, cR, cS, cT, cC⟩ := at_T79 dC.out aJ dV dW
       have eG := cC
       have eN := cT
       have eO := cS
       have eP := cR
       have eQ := cQ
       have eR := cP
       have eS := cO
       have eT := cN
       have eU := cL
       have eV := cK
       have eW := cH
       cases gO
       replace cH := xB HB cH
       replace cK := xB HB cK
       replace cL := xB HB cL
       replace cN := xB HB cN
       replace cO := xB HB cO
       replace cP := xB HB cP
       replace cQ := xB HB cQ
       replace cR := xB HB cR
       replace cS := xB HB cS
       replace cT := xB HB cT
       replace cC := xB HB cC
       replace dV := eq_true dV
       replace dW := eq_true dW
       refine start_ (n := 13) (S := fun w' => cT2 w' bI (.int .i64 bU) (.slice (some eC) aI.length cU) (cT2 w' bV (.int .i64 aV) (.slice (some eJ) aK.length bW) (cF79 w' eC (aJ).toNat (rd_T79 aI aJ) (cE79 w' eJ (aJ).toNat (rd_T79 aK aJ))))) (ds := []) (dn 13 0) (by kernel_rfl) rfl rfl ⟨cI aE.out 0, cI aE.out 1, cI aC.out 0, cI aC.out 1, dE, dF, dG, dH, dI, dJ, dK, dL, dM, dN, dB, (xB HB eW), (xB HB eV), (xB HB eU), (xB HB eT), (xB HB eS), (xB HB eR), (xB HB eQ), (xB HB eP), (xB HB eO), (xB HB eN), (xB HB eG)⟩ (fun hHeld => ?_); refine with_tabW spec_React.tab8 spec_React.bits8 (fun HT_ HW_ => ?_)
       generalize wr.drew = qV at aH aG aC aA aD aE HB dE dF dB dG dH dI dJ dK dL dM dN cH cK cC cL cN cO cP cQ cR cS cT hHeld ⊢
       refine nY (N := some 41) HT_ ?_
       refine pZ 2 43 (bv 13 5) HT_ ?_
       refine pZ 6 47 (bv 13 69) HT_ ?_
       refine pZ 8 49 (bv 13 325) HT_ ?_
       refine aZ 1 42 (bv 13 327) HT_ HW_ hHeld ?_
       refine pZ 3 44 (bv 13 335) HT_ ?_
       refine pZ 4 45 (bv 13 351) HT_ ?_
       refine aZ 5 46 (bv 13 383) HT_ HW_ hHeld ?_
       refine aZ 7 48 (bv 13 511) HT_ HW_ hHeld ?_
       refine pZ 9 50 (bv 13 1023) HT_ ?_
       refine pZ 10 51 (bv 13 2047) HT_ ?_
       refine aZ 11 52 (bv 13 4095) HT_ HW_ hHeld ?_
       refine pZ 12 53 (bv 13 8191) HT_ ?_
       refine done_ (done_of HT_.out (by kernel_rfl)) ?_
       try go_wp2
       go_roundg k2
       case measure => have := HJ2.out; have := eE.out; omega
       case rel => exact ⟨(dY), (wS aJ), xE, H', ⟨by have := HJ2.out; have := eE.out; omega⟩, ⟨kr aH.out⟩, ⟨kr aG.out⟩, ⟨bk aC.out⟩, ⟨bk aA.out⟩, ⟨bk aD.out⟩, ⟨bk aE.out⟩, ⟨bl HB.out⟩⟩
      rw [if_pos dD] at H
      have fX : (((rd_T79 aI aJ).f7) != ((rd_T79 aK aJ).f7)) = true := dD
      (try (have fY : decide (((rd_T79 aI aJ).f7) = ((rd_T79 aK aJ).f7)) = false := by simpa using dD))
      (try (have gA : (((rd_T79 aI aJ).f7) == ((rd_T79 aK aJ).f7)) = false := by simpa using dD))
      (try (have nT : ¬ (((rd_T79 aI aJ).f7) = ((rd_T79 aK aJ).f7)) := by simpa using dD))
      clear dD
      by_cases fP : dY.length < 2199023255552
      case neg =>
       rw [if_neg fP] at H
       exact absurd H (by simp)
      rw [if_pos fP] at H
      have LMc57 := aM fP
      clear fP
      obtain ⟨iS, eK⟩ : ∃ y_ : List (S151), y_ = (dY ++ [(⟨2, aJ, (⟨0, 0, 0, 0⟩ : S73), 0, (rd_T79 aI aJ).f7⟩ : S151)]) := ⟨_, rfl⟩
      replace H : (spec_React.l0 k2 iS (wS aJ) aV aK bJ bH bK bL bM bN bO bP bU aI) = some (r1, r2, r3) := by first | (rw [eK]; with_reducible exact H) | (have H2_ := (Option.bind_some _ _).symm.trans H; rw [eK]; with_reducible exact H2_) | (have H2_ := (Option.bind_some _ _).symm.trans H; with_reducible exact H2_) | with_reducible exact H | (rw [eK]; exact H) | exact H
      have iW := aM eK
      clear eK
      have H' := aM H
      clear H
      have nV := bX.out
      have nZ := bY.out
      have oA := bZ.out
      have oB := cA.out
      have oC := aN.out
      have oD := aQ.out
      have oE := cA2 aC.out
      try go_wp2
      replace aH := aM (Kd.R_drew aH.out)
      replace aG := aM (Kd.R_drew aG.out)
      replace aC := aM (blk_drew aC.out)
      replace aA := aM (blk_drew aA.out)
      replace aD := aM (blk_drew aD.out)
      replace aE := aM (blk_drew aE.out)
      replace HB := aM (below_drew1 HB.out)
      have dS : 0 ≤ (aJ : Int) := dT
      have dU : aJ < (aI.length : Int) := dT
      obtain ⟨eC, gN, dE, dF, dG, dH, dI, dJ, dK, dL, dM, dN, dB⟩ := at_T79 (Kd.R_reads' aG.out).2.2 aJ dS dU
      cases gN
      replace dS := eq_true dS
      replace dU := eq_true dU
      have dV : 0 ≤ (aJ : Int) := dT
      have dW : aJ < (aK.length : Int) := dT
      obtain ⟨eJ, gO, cH, cK, cL, cN, cO, cP, cQ, cR, cS, cT, cC⟩ := at_T79 dC.out aJ dV dW
      have eG := cC
      have eN := cT
      have eO := cS
      have eP := cR
      have eQ := cQ
      have eR := cP
      have eS := cO
      have eT := cN
      have eU := cL
      have eV := cK
      have eW := cH
      cases gO
      replace cH := xB HB cH
      replace cK := xB HB cK
      replace cL := xB HB cL
      replace cN := xB HB cN
      replace cO := xB HB cO
      replace cP := xB HB cP
      replace cQ := xB HB cQ
      replace cR := xB HB cR
      replace cS := xB HB cS
      replace cT := xB HB cT
      replace cC := xB HB cC
      replace dV := eq_true dV
      replace dW := eq_true dW
      refine start_ (n := 13) (S := fun w' => cT2 w' bI (.int .i64 bU) (.slice (some eC) aI.length cU) (cT2 w' bV (.int .i64 aV) (.slice (some eJ) aK.length bW) (cF79 w' eC (aJ).toNat (rd_T79 aI aJ) (cE79 w' eJ (aJ).toNat (rd_T79 aK aJ))))) (ds := []) (dn 13 0) (by kernel_rfl) rfl rfl ⟨cI aE.out 0, cI aE.out 1, cI aC.out 0, cI aC.out 1, dE, dF, dG, dH, dI, dJ, dK, dL, dM, dN, dB, (xB HB eW), (xB HB eV), (xB HB eU), (xB HB eT), (xB HB eS), (xB HB eR), (xB HB eQ), (xB HB eP), (xB HB eO), (xB HB eN), (xB HB eG)⟩ (fun hHeld => ?_); refine with_tabW spec_React.tab8 spec_React.bits8 (fun HT_ HW_ => ?_)
      generalize wr.drew = qW at aH aG aC aA aD aE HB dE dF dB dG dH dI dJ dK dL dM dN cH cK cC cL cN cO cP cQ cR cS cT hHeld ⊢
      refine nY (N := some 41) HT_ ?_
      refine pZ 2 43 (bv 13 5) HT_ ?_
      refine pZ 6 47 (bv 13 69) HT_ ?_
      refine pZ 8 49 (bv 13 325) HT_ ?_
      refine aZ 1 42 (bv 13 327) HT_ HW_ hHeld ?_
      refine pZ 3 44 (bv 13 335) HT_ ?_
      refine pZ 4 45 (bv 13 351) HT_ ?_
      refine aZ 5 46 (bv 13 383) HT_ HW_ hHeld ?_
      refine aZ 7 48 (bv 13 511) HT_ HW_ hHeld ?_
      refine pZ 9 50 (bv 13 1023) HT_ ?_
      refine pZ 10 51 (bv 13 2047) HT_ ?_
      refine aZ 11 52 (bv 13 4095) HT_ HW_ hHeld ?_
      refine pZ 12 53 (bv 13 8191) HT_ ?_
      refine done_ (done_of HT_.out (by kernel_rfl)) ?_
      have oF := bA.out
      have oG := aX.out
      have oH := bG.out
      have oI := bD.out
      have oJ := cA2 aE.out
      have fE : 0 ≤ (aJ : Int) := dT
      have fF : aJ < (aI.length : Int) := dT
      obtain ⟨iX, jR, jT, jU, jV, jW, jX, jY, jZ, kA, kC, kD, jS⟩ := at_T79 (Kd.R_reads' aG.out).2.2 aJ fE fF
      obtain rfl : eC = iX := (by injection jR)
      replace fE := eq_true fE
      replace fF := eq_true fF
      try go_wp2_with (first | ((with_reducible refine gate_builtin (b := .append) (xs := #[.tmp 54, .tmp 63]) rfl ?_); (try (refine gate_guard (by rfl) ?_; dsimp only)); at_builtin; refine Kd.R_append k151 (w0 := w) w.heap.size rfl (.tmp 54) (.tmp 63) 85 151 (.agg #[(.int .i64 0), (.int .i64 0), (.int .i64 0), (.int .i64 0), (.int .i64 0), (.int .i64 0), (.int .i64 0), (.bool false)]) 64 rfl Try.underlying85 info151 rfl (by decide) (by omega) u6 dY (⟨2, aJ, (⟨0, 0, 0, 0⟩ : S73), 0, (rd_T79 aI aJ).f7⟩ : S151) [.int .i64 2, .int .i64 aJ, .int .i64 0, .int .i64 0, .int .i64 0, .int .i64 0, .int .i64 0, .bool ((rd_T79 aI aJ).f7)] (fun _ => True) (fun _ => False) rfl rfl ?aP (fun _ hk => hk.elim) ?aF ?aO ?aB ?aS ?aL ?_; (case aP => exact k151_mkM _ _ _ (⟨2, aJ, (⟨0, 0, 0, 0⟩ : S73), 0, (rd_T79 aI aJ).f7⟩ : S151)); (case aB => exact (bl HB.out)); (case aF => exact (fun _ _ => trivial)); (case aO => exact (kr aH.out)); (case aS => exact (below_size (bl HB.out))); (case aL => have := LMc57.out; omega); intro qD qX ho hb hg hat; rw [← iW.out] at ho; have iY := aM (ho); replace aG := aM (Kd.R_over' (kr aG.out) (Kd.R_typed (kr aH.out)) (by decide) hg); replace aC := aM (blk_grown (bk aC.out) hg (Kd.R_ne aH.out aC.out (by decide))); replace aA := aM (blk_grown (bk aA.out) hg (Kd.R_ne aH.out aA.out (by decide))); replace aD := aM (blk_grown (bk aD.out) hg (Kd.R_ne aH.out aD.out (by decide))); replace aE := aM (blk_grown (bk aE.out) hg (Kd.R_ne aH.out aE.out (by decide))); replace HB := aM (hb); clear aH; clear ho hb hg hat))
      go_roundg k2
      case measure => have := HJ2.out; have := eE.out; omega
      case rel => exact ⟨(iS), (wS aJ), xE, H', ⟨by have := HJ2.out; have := eE.out; omega⟩, ⟨kr iY.out⟩, ⟨kr aG.out⟩, ⟨bk aC.out⟩, ⟨bk aA.out⟩, ⟨bk aD.out⟩, ⟨bk aE.out⟩, ⟨bl HB.out⟩⟩
     rw [if_neg eZ] at H
     have fW := decide_eq_false eZ
     clear eZ
     have H' := aM H
     clear H
     have oK := bX.out
     have oL := bY.out
     have oM := bZ.out
     have oO := cA.out
     have oP := aN.out
     have oQ := aQ.out
     have oR := cA2 aC.out
     go_wp2
     go_loopg [6, 9] k2 (fun kq v6 v9 w' => ∃ (dX : List (S151)) (bT : Int), v9 = .int .i64 bT ∧ Aside0 (spec_React.l1 kq dX bT bJ bH bK bL bM bN bO bP bU aI = some (r1, r2, r3)) ∧ Aside0 (kq ≤ k2) ∧ Aside0 (Kd.R k151 151 w' w.heap.size (fun _ => True) v6 dX) ∧ Aside0 (Kd.R k79 79 w' w.heap.size (fun _ => True) (.slice dA aI.length cU) aI) ∧ Aside0 (w'.heap[bV]? = some (.cells #[aV, (.slice cD aK.length bW)] 28 (0, 0))) ∧ Aside0 (w'.heap[aT]? = some (.cells #[bJ, bH, bK, bL, bM, bN, bO, bP] 89 (0, 0))) ∧ Aside0 (w'.heap[bQ]? = some (.cells #[.int .i64 0, (.slice none 0 0)] 28 (0, 0))) ∧ Aside0 (w'.heap[bI]? = some (.cells #[bU, (.slice dA aI.length cU)] 28 (0, 0))) ∧ Aside0 (Below w.heap.size w w'))
     case atStart => exact ⟨(dY), (0), xE, H', ⟨Nat.le_refl _⟩, ⟨kr aH.out⟩, ⟨kr aG.out⟩, ⟨bk aC.out⟩, ⟨bk aA.out⟩, ⟨bk aD.out⟩, ⟨bk aE.out⟩, ⟨bl HB.out⟩⟩
     case round =>
      clear H'
      repeat first|clear c1|clear c2|clear p2|clear c3|clear c4|clear p4|clear q4|clear c5|clear c6|clear p6|clear c7|clear eX|clear eY|clear iD|clear iE|clear iF|clear iG|clear iH|clear iI|clear iJ|clear iK|clear fC|clear jJ|clear jK|clear jL|clear jN|clear jO|clear jM|clear eZ|clear fW|clear kJ|clear gV|clear kK|clear gW|clear dD|clear fX|clear fY|clear gA|clear fP|clear kL|clear kM|clear kN|clear kO|clear kP|clear jP|clear kQ|clear kR|clear kS|clear kT|clear kU|clear kV|clear p2|clear dS|clear dV|clear fE|clear dU|clear dW|clear fF
      obtain ⟨dX, bT, rfl, HA, fQ, aH, aG, aC, aA, aD, aE, HB⟩ := hrel
      cases gk with
      | zero => exact absurd HA.out (by simp [spec_React.l1])
      | succ k3 =>
       have H := HA.out
       clear HA
       simp only [spec_React.l1] at H
       have gP := aM H
       clear H
       go_upto_region 11 with (fail)
       go_cut [74] (fun kW wc => ∃ (kq : Nat) (eL : Bool), kW = .bool eL ∧ Aside0 (spec_React.j3 kq dX bT eL bJ bH bK bL bM bN bO bP bU aI = some (r1, r2, r3)) ∧ Aside0 (kq ≤ k3) ∧ Aside0 (Kd.R k151 151 wc w.heap.size (fun _ => True) u6 dX) ∧ Aside0 (Kd.R k79 79 wc w.heap.size (fun _ => True) (.slice dA aI.length cU) aI) ∧ Aside0 (wc.heap[bV]? = some (.cells #[aV, (.slice cD aK.length bW)] 28 (0, 0))) ∧ Aside0 (wc.heap[aT]? = some (.cells #[bJ, bH, bK, bL, bM, bN, bO, bP] 89 (0, 0))) ∧ Aside0 (wc.heap[bQ]? = some (.cells #[.int .i64 0, (.slice none 0 0)] 28 (0, 0))) ∧ Aside0 (wc.heap[bI]? = some (.cells #[bU, (.slice dA aI.length cU)] 28 (0, 0))) ∧ Aside0 (Below w.heap.size w wc))
       case first =>
        have H := gP.out
        clear gP
        by_cases fG : bT < (aI.length : Int)
        case neg =>
         rw [if_neg fG] at H
         have eD := decide_eq_false fG
         clear fG
         (first | rw [eD] | (simp only [i64_w, i32_w]; rw [eD]) | skip)
         have H' := aM H
         clear H
         have oS := aQ.out
         have oT := aN.out
         have oU := bA.out
         have oV := aX.out
         have oW := bG.out
         have oX := bD.out
         have oY := cA2 aE.out
         go_wp2
         go_meet
         case rel => exact ⟨_, (false), xE, H', ⟨by have := HJ2.out; have := eE.out; have := fQ.out; first | omega | exact Nat.le_refl _⟩, ⟨kr aH.out⟩, ⟨kr aG.out⟩, ⟨bk aC.out⟩, ⟨bk aA.out⟩, ⟨bk aD.out⟩, ⟨bk aE.out⟩, ⟨bl HB.out⟩⟩
        rw [if_pos fG] at H
        have eD := decide_eq_true fG
        clear fG
        (first | rw [eD] | (simp only [i64_w, i32_w]; rw [eD]) | skip)
        have H' := aM H
        clear H
        have oZ := aQ.out
        have pA := aN.out
        have pB := bA.out
        have pC := aX.out
        have pD := bG.out
        have pE := bD.out
        have pF := cA2 aE.out
        have pG := bY.out
        have pH := bX.out
        have pI := cW.out
        have pJ := cX.out
        have pK := cA8 aA.out
        go_wp2
        go_meet
        case rel => exact ⟨_, ((bJ == 2)), xE, H', ⟨by have := HJ2.out; have := eE.out; have := fQ.out; first | omega | exact Nat.le_refl _⟩, ⟨kr aH.out⟩, ⟨kr aG.out⟩, ⟨bk aC.out⟩, ⟨bk aA.out⟩, ⟨bk aD.out⟩, ⟨bk aE.out⟩, ⟨bl HB.out⟩⟩
       case rest =>
        clear gP
        repeat first|clear c1|clear c2|clear p2|clear c3|clear c4|clear p4|clear q4|clear c5|clear c6|clear p6|clear c7|clear c8|clear eX|clear eY|clear iD|clear iE|clear iF|clear iG|clear iH|clear iI|clear iJ|clear iK|clear fC|clear jJ|clear jK|clear jL|clear jN|clear jO|clear jM|clear eZ|clear fW|clear kJ|clear gV|clear kK|clear gW|clear dD|clear fX|clear fY|clear gA|clear fP|clear kL|clear kM|clear kN|clear kO|clear kP|clear jP|clear kQ|clear kR|clear kS|clear kT|clear kU|clear kV|clear fG|clear eD|clear qY|clear qZ|clear rA|clear rC|clear rD|clear rE|clear rF|clear rG|clear p2|clear p4|clear jN|clear dS|clear dV|clear fE|clear p6|clear jP|clear q4|clear jO|clear dU|clear dW|clear fF
        obtain ⟨kq, eL, rfl, HA, HJ75, aH, aG, aC, aA, aD, aE, HB⟩ := hcut
        cases kq with
        | zero => exact absurd HA.out (by simp [spec_React.j3])
        | succ fH =>
         have H := HA.out
         clear HA
         simp only [spec_React.j3] at H
         by_cases gX : eL = true
         case neg =>
          replace gX := Bool.eq_false_iff.mpr gX
          subst gX
          replace H := hF H
          simp only [Option.some.injEq, Prod.mk.injEq] at H
          obtain ⟨rfl, rfl, rfl⟩ := H
          have kX := aQ.out
          have kY := aN.out
          have kZ := bA.out
          have lA := aX.out
          have lC := bG.out
          have lD := bD.out
          have lE := cA2 aE.out
          have lF := cA.out
          have lG := bZ.out
          have lH := cX.out
          have lJ := cW.out
          have lK := cA2 aD.out
          go_wp2
          refine bodyPost_ret (results_ct rfl _ _ bQ 28 #[bU, .slice dA aI.length cU] (0, 0) _ rfl (bm aD.out) Try.underlying28 rfl (by kernel_rfl)) rfl ?_
          exact ⟨_, _, xW, by (with_reducible repeat (first | apply Kd.R_alloc | apply Kd.R_drewN | apply Kd.R_drew)); exact Kd.R_mono (kF (p := ⟨bQ, 1, none⟩) (kF (p := ⟨bQ, 0, none⟩) (Kd.R_types aG.out aD.out (by decide)) (fun _ hk => hk.2) (.int .i64 bU)) (fun _ hk => hk.2) (.slice dA aI.length cU)) (fun _ hk => trivial), by (with_reducible repeat (first | apply Kd.R_alloc | apply Kd.R_drewN | apply Kd.R_drew)); exact Kd.R_mono (kF (p := ⟨bQ, 1, none⟩) (kF (p := ⟨bQ, 0, none⟩) (Kd.R_types aH.out aD.out (by decide)) (fun _ hk => hk.2) (.int .i64 bU)) (fun _ hk => hk.2) (.slice dA aI.length cU)) (fun _ hk => trivial), bl HB.out⟩
         subst gX
         replace H := hP H rfl
         obtain ⟨pL, H⟩ := gI H
         obtain ⟨pM, H⟩ := gI H
         by_cases fI : ((rd_T79 aI bT).f5) = 2
         case neg =>
          rw [if_neg fI] at H
          have iZ : (((rd_T79 aI bT).f5) == 2) = false := beq_eq_false_iff_ne.mpr fI
          have jA : (((rd_T79 aI bT).f5) != 2) = true := bne_iff_ne.mpr fI
          have H' := aM H
          clear H
          have lL := aQ.out
          have lM := aN.out
          have lO := bA.out
          have lP := aX.out
          have lQ := bG.out
          have lS := bD.out
          have lT := cA2 aE.out
          have eH : 0 ≤ (bT : Int) := dT
          have eI : bT < (aI.length : Int) := dT
          obtain ⟨fB, gQ, gZ, hD, hH, hJ, hO, hU, hX, hY, hZ, iA, gR⟩ := at_T79 (Kd.R_reads' aG.out).2.2 bT eH eI
          cases gQ
          replace eH := eq_true eH
          replace eI := eq_true eI
          go_wp2
          go_roundg fH
          case measure => have := HJ2.out; have := eE.out; have := fQ.out; have := HJ75.out; omega
          case rel => exact ⟨(dX), (wS bT), xE, H', ⟨by have := HJ2.out; have := eE.out; have := fQ.out; have := HJ75.out; omega⟩, ⟨kr aH.out⟩, ⟨kr aG.out⟩, ⟨bk aC.out⟩, ⟨bk aA.out⟩, ⟨bk aD.out⟩, ⟨bk aE.out⟩, ⟨bl HB.out⟩⟩
         rw [if_pos fI] at H
         have iZ : (((rd_T79 aI bT).f5) == 2) = true := beq_iff_eq.mpr fI
         have jA : (((rd_T79 aI bT).f5) != 2) = false := bne_eq_false_iff_eq.mpr fI
         clear fI
         obtain ⟨⟨fK, fL, fM, fN⟩, iT, H⟩ := hB H
         try dsimp only at H
         have lU := aM iT
         clear iT
         obtain ⟨fO, iU, H⟩ := hB H
         have lV := aM iU
         clear iU
         by_cases gY : dX.length < 2199023255552
         case neg =>
          rw [if_neg gY] at H
          exact absurd H (by simp)
         rw [if_pos gY] at H
         have LMc95 := aM gY
         clear gY
         obtain ⟨iV, eM⟩ : ∃ y_ : List (S151), y_ = (dX ++ [(⟨1, bT, (⟨fK, fL, fM, fN⟩ : S73), fO, false⟩ : S151)]) := ⟨_, rfl⟩
         replace H : (spec_React.l1 fH iV (wS bT) bJ bH bK bL bM bN bO bP bU aI) = some (r1, r2, r3) := by first | (rw [eM]; with_reducible exact H) | (have H2_ := (Option.bind_some _ _).symm.trans H; rw [eM]; with_reducible exact H2_) | (have H2_ := (Option.bind_some _ _).symm.trans H; with_reducible exact H2_) | with_reducible exact H | (rw [eM]; exact H) | exact H
         have jB := aM eM
         clear eM
         have H' := aM H
         clear H
         have pN := aQ.out
         have pO := aN.out
         have pP := bA.out
         have pQ := aX.out
         have pR := bG.out
         have pS := bD.out
         have pT := cA2 aE.out
         have eH : 0 ≤ (bT : Int) := dT
         have eI : bT < (aI.length : Int) := dT
         obtain ⟨fB, gQ, gZ, hD, hH, hJ, hO, hU, hX, hY, hZ, iA, gR⟩ := at_T79 (Kd.R_reads' aG.out).2.2 bT eH eI
         cases gQ
         replace eH := eq_true eH
         replace eI := eq_true eI
         try go_wp2
         replace aH := aM (Kd.R_drew aH.out)
         replace aG := aM (Kd.R_drew aG.out)
         replace aC := aM (blk_drew aC.out)
         replace aA := aM (blk_drew aA.out)
         replace aD := aM (blk_drew aD.out)
         replace aE := aM (blk_drew aE.out)
         replace HB := aM (below_drew1 HB.out)
         refine start_ (n := 11) (S := fun w' => cS2 w' bI (.int .i64 bU) (.slice (some fB) aI.length cU)) (ds := []) (dn 11 0) (by kernel_rfl) rfl rfl ⟨cI aE.out 0, cI aE.out 1⟩ (fun hHeld => ?_); refine with_tabW spec_React.tab14 spec_React.bits14 (fun HT_ HW_ => ?_)
         generalize wc.drew = qE at aH aG aC aA aD aE HB hHeld ⊢
         refine nY (N := some 84) HT_ ?_
         refine nY (N := some 85) HT_ ?_
         refine pZ 3 87 (bv 11 11) HT_ ?_
         refine aZ 2 86 (bv 11 15) HT_ HW_ hHeld ?_
         refine aZ 5 89 (bv 11 47) HT_ HW_ hHeld ?_
         refine one_ (i := 4) (N := some 88) (bv 11 63) rfl rfl (one_of HT_.out (by kernel_rfl)) (by decide) (fun K hK => ?_)
         refine goes_ Try.func41 (by kernel_rfl) rfl #[.agg #[bU, .slice (some fB) aI.length cU], bT] (by rfl) rfl rfl xR ?_
         with_reducible refine (spec_Own.calls fH bU _ _ aI bT fK fL fM fN _ ?side1 ?side2 lU.out).mono ?_
         (case side1 => exact cM ((Kd.R_reads' aG.out).2.2))
         (case side2 => exact (Kd.R_reads' aG.out).2.1)
         rintro e qF ⟨rfl, hb⟩
         refine ⟨_, rfl, ?_⟩
         replace aH := rK aH hb
         replace aG := rK aG hb
         replace aC := rB aC hb
         replace aA := rB aA hb
         replace aD := rB aD hb
         replace aE := rB aE hb
         replace HB := rS HB hb
         (try clear hb)
         (try clear hb2)
         (try clear hk)
         (try clear hi)
         refine hK.out _ _ ⟨cI aE.out 0, cI aE.out 1⟩ (fun hHeld => ?_)
         clear hK K
         refine norm_ (a' := ?_) ?_ ?_
         rotate_left
         ·show Act.put _ (some 88) _ = _
          simp only [Act.put, sA, sZ, sS, i64_w, i32_w]
          rfl
         refine one_ (i := 6) (N := some 90) (bv 11 127) rfl rfl (one_of HT_.out (by kernel_rfl)) (by decide) (fun K hK => ?_)
         refine goes_ Try.func44 (by kernel_rfl) rfl #[.agg #[bU, .slice (some fB) aI.length cU]] (by rfl) rfl rfl xR ?_
         with_reducible refine (spec_Hops.calls fH bU _ _ aI fO _ ?side1 ?side2 lV.out).mono ?_
         (case side1 => exact cM ((Kd.R_reads' aG.out).2.2))
         (case side2 => exact (Kd.R_reads' aG.out).2.1)
         rintro e qG ⟨rfl, hb⟩
         refine ⟨_, rfl, ?_⟩
         replace aH := rK aH hb
         replace aG := rK aG hb
         replace aC := rB aC hb
         replace aA := rB aA hb
         replace aD := rB aD hb
         replace aE := rB aE hb
         replace HB := rS HB hb
         (try clear hb)
         (try clear hb2)
         (try clear hk)
         (try clear hi)
         refine hK.out _ _ ⟨cI aE.out 0, cI aE.out 1⟩ (fun hHeld => ?_)
         clear hK K
         refine norm_ (a' := ?_) ?_ ?_
         rotate_left
         ·show Act.put _ (some 90) _ = _
          simp only [Act.put, sA, sZ, sS, i64_w, i32_w]
          rfl
         refine pZ 7 91 (bv 11 255) HT_ ?_
         refine one_ (i := 8) (N := some 92) (bv 11 511) rfl rfl (one_of HT_.out (by kernel_rfl)) (by decide) (fun K hK => ?_)
         refine value_ (w1 := ?_) (v := ?_) (by rfl) rfl ?_ ?_
         rotate_left 2
         ·go_simp
          constructor
          ·rfl
          ·rfl
         refine hK.out _ _ ⟨(bC (blk_alloc aE.out _) 0).trans rfl, (bC (blk_alloc aE.out _) 1).trans rfl⟩ (fun hHeld => ?_)
         clear hK K
         refine norm_ (a' := ?_) ?_ ?_
         rotate_left
         ·show Act.put _ (some 92) _ = _
          simp only [Act.put, sA, sZ, sS, i64_w, i32_w]
          rfl
         refine one_ (i := 9) (N := some 93) (bv 11 1023) rfl rfl (one_of HT_.out (by kernel_rfl)) (by decide) (fun K hK => ?_)
         refine Kd.R_append_step k151 (w0 := w) w.heap.size (by rfl) (.tmp 84) (.tmp 92) 85 151 (.agg #[(.int .i64 0), (.int .i64 0), (.int .i64 0), (.int .i64 0), (.int .i64 0), (.int .i64 0), (.int .i64 0), (.bool false)]) 64 rfl Try.underlying85 info151 rfl (by decide) (by omega) u6 dX (⟨1, bT, (⟨fK, fL, fM, fN⟩ : S73), fO, false⟩ : S151) [.int .i64 1, .int .i64 bT, .int .i64 fK, .int .i64 fL, .int .i64 fM, .int .i64 fN, .int .i64 fO, .bool false] (fun _ => True) (fun _ => False) rfl rfl ?aP (fun _ hk => hk.elim) ?aF ?aO ?aB ?aS ?aL ?_
         (case aP => exact k151_mkM _ _ _ (⟨1, bT, (⟨fK, fL, fM, fN⟩ : S73), fO, false⟩ : S151))
         (case aB => exact (bl HB.out))
         (case aF => exact (fun _ _ => trivial))
         (case aO => exact (kr aH.out))
         (case aS => exact (below_size (bl HB.out)))
         (case aL => have := LMc95.out; omega)
         intro qH qI ho hb hg hat
         rw [← jB.out] at ho
         have jC := aM (ho)
         replace aG := aM (Kd.R_over' (kr aG.out) (Kd.R_typed (kr aH.out)) (by decide) hg)
         replace aC := aM (blk_grown (bk aC.out) hg (Kd.R_ne aH.out aC.out (by decide)))
         replace aA := aM (blk_grown (bk aA.out) hg (Kd.R_ne aH.out aA.out (by decide)))
         replace aD := aM (blk_grown (bk aD.out) hg (Kd.R_ne aH.out aD.out (by decide)))
         replace aE := aM (blk_grown (bk aE.out) hg (Kd.R_ne aH.out aE.out (by decide)))
         replace HB := aM (hb)
         clear aH
         clear ho hb hg hat
         refine hK.out _ _ ⟨cI aE.out 0, cI aE.out 1⟩ (fun hHeld => ?_)
         clear hK K
         refine norm_ (a' := ?_) ?_ ?_
         rotate_left
         ·show Act.put _ (some 93) _ = _
          simp only [Act.put, sA, sZ, sS, i64_w, i32_w]
          rfl
         refine pZ 10 6 (bv 11 2047) HT_ ?_
         refine done_ (done_of HT_.out (by kernel_rfl)) ?_
         try go_wp2
         go_roundg fH
         case measure => have := HJ2.out; have := eE.out; have := fQ.out; have := HJ75.out; omega
         case rel => exact ⟨(iV), (wS bT), xE, H', ⟨by have := HJ2.out; have := eE.out; have := fQ.out; have := HJ75.out; omega⟩, ⟨kr jC.out⟩, ⟨kr aG.out⟩, ⟨bk aC.out⟩, ⟨bk aA.out⟩, ⟨bk aD.out⟩, ⟨bk aE.out⟩, ⟨bl HB.out⟩⟩

end Go.Proofs.Ythmijfekdeagpaa.PFnFades

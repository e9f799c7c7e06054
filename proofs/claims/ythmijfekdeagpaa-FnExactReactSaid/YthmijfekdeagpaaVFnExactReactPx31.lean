/- A part of the proof of laws.FnExactReact. No condition beyond what its theorems say. -/
import Derived.Test.YthmijfekdeagpaaVFnExactReactPx3
namespace Go.Proofs.Ythmijfekdeagpaa.PFnExactReact
open Go.RowKit Go.Proofs.YthmijfekdeagpaaW.PrintWords Go.Proofs.YthmijfekdeagpaaW.PrintLast Go.Proofs.YthmijfekdeagpaaW.PrintMore
set_option linter.unusedVariables false
set_option linter.unusedSimpArgs false

def Z44.f (aC aD aE aG aH aI aJ : Int) (aK : Bool) : Option (Int × Int × Int × Int × Int × Int × Int × Bool) := (Z53.f aE aG aH aI).bind fun aA => (some (aC, aD, aA.1, aA.2.1, aA.2.2.1, aA.2.2.2, aJ, aK))
set_option maxHeartbeats 60000000 in
set_option maxRecDepth 100000 in
theorem Z44.calls (aD aE aG aH aI aJ aQ : Int) (aT : Bool) (r1 r2 r3 r4 r5 r6 r7 : Int) (r8 : Bool) (w : World) (h : Z44.f aD aE aG aH aI aJ aQ aT = some (r1, r2, r3, r4, r5, r6, r7, r8)) :
  Calls Try.prog 55 #[.agg #[aD, aE, aG, aH, aI, aJ, aQ, aT]] w fun e w' => e = .returned (.agg #[r1, r2, r3, r4, r5, r6, r7, r8]) ∧ Below w.heap.size w w' := by
 have cC := Try.underlying92
 have cD := Try.underlying89
 have cE := Try.underlying90
 have cG := Try.underlying73
 have HB := aM (Below.refl w.heap.size w)
 have H : ((Z53.f aG aH aI aJ).bind fun aK => (some (aD, aE, aK.1, aK.2.1, aK.2.2.1, aK.2.2.2, aQ, aT))) = some (r1, r2, r3, r4, r5, r6, r7, r8) := h
 clear h
 obtain ⟨⟨bH, bI, bJ, bK⟩, bN, H⟩ := hB H
 try dsimp only at H
 have A2 := aM bN
 clear bN
 simp only [Option.some.injEq, Prod.mk.injEq] at H
 obtain ⟨rfl, rfl, rfl, rfl, rfl, rfl, rfl, rfl⟩ := H
 go_enter Try.func55, Try.ntmps55
 go_wp2_with (first | ((with_reducible refine gD (N := 1) rfl ?_); refine bE (N := 1) (cs := #[aD, aE, aG, aH, aI, aJ, aQ, aT]) (t := 92) ?_; intro bO hg w3 hbox hb; have aA := aM (hbox); have bP := gF hg HB; have bQ := gF hg HB; replace HB := rS HB hb; clear hb hbox hg) | ((with_reducible refine gD (N := 2) rfl ?_); refine bE (N := 2) (cs := #[.int .i64 0, .int .i64 0, .int .i64 0, .int .i64 0, .int .i64 0, .int .i64 0, .int .i64 0, .bool false]) (t := 89) ?_; intro bL hg w4 hbox hb; have aC := aM (hbox); have bT := gF hg HB; have bU := gF hg HB; have aV := nM hg aA; have aW := nH hg aA; replace aA := rB aA hb; replace HB := rS HB hb; clear hb hbox hg) | ((with_reducible refine gD (N := 3) rfl ?_); refine bE (N := 3) (cs := #[.int .i64 0, .int .i64 0, .int .i64 0, .int .i64 0, .int .i64 0, .int .i64 0, .int .i64 0, .bool false]) (t := 89) ?_; intro bM hg w5 hbox hb; have aN := aM (hbox); have bV := gF hg HB; have bW := gF hg HB; have aX := nM hg aA; have bA := nH hg aA; have bD := nM hg aC; have bG := nH hg aC; replace aA := rB aA hb; replace aC := rB aC hb; replace HB := rS HB hb; clear hb hbox hg; have cH := aV.out; have cK := aW.out; have cL := aX.out; have cN := bA.out; have cO := cA8 aA.out; have cP := bG.out; have cQ := bD.out; have bX := cA8 aN.out) | ((with_reducible refine gC (f := 134) rfl ?_); refine gL (some 12) Try.func134 #[.agg #[aG, aH, aI, aJ]] ?_; (with_reducible refine (Z53.calls aG aH aI aJ bH bI bJ bK _ A2.out).mono ?_); rintro e cR ⟨rfl, hb⟩; refine ⟨_, rfl, ?_⟩; replace aA := aM (bB (fm aA.out) hb); replace aC := aM (bB (fm aC.out) hb); replace aN := aM (bB (g := bM) (o := .cells #[aD, aE, .int .i64 0, .int .i64 0, .int .i64 0, .int .i64 0, .int .i64 0, .bool false] 89 (0, 0)) (by (with_reducible repeat (first | refine blk_drewN ?_ _ | refine blk_drew ?_ | refine blk_alloc ?_ _)); refine blk_put (cs := #[aD, .int .i64 0, .int .i64 0, .int .i64 0, .int .i64 0, .int .i64 0, .int .i64 0, .bool false]) ?_ 1 _ rfl; (with_reducible repeat (first | refine blk_drewN ?_ _ | refine blk_drew ?_ | refine blk_alloc ?_ _)); refine blk_put (cs := #[.int .i64 0, .int .i64 0, .int .i64 0, .int .i64 0, .int .i64 0, .int .i64 0, .int .i64 0, .bool false]) ?_ 0 _ rfl; (with_reducible repeat (first | refine blk_drewN ?_ _ | refine blk_drew ?_ | refine blk_alloc ?_ _)); exact aN.out) hb); replace HB := rS HB hb; (try clear hb); have bY := cA8 aN.out; have bZ := cA8 aA.out; have cA := cA8 aC.out))
 refine bodyPost_ret (results_cell_row rfl _ _ bL 89 #[aD, aE, bH, bI, bJ, bK, aQ, aT] (0, 0) _ rfl (bm aC.out) Try.underlying89 rfl (by kernel_rfl)) rfl ?_
 exact ⟨xW, bl HB.out⟩

def Z60.f (aA aC aD aE aG aH aI : Int) (aJ : Bool) (aK aN aQ aT aV aW aX : Int) (bA : Bool) : Option (Bool) := if aA = aK then (if aC = aN then ((Z38.f aD aE aG aH aQ aT aV aW).bind fun bD => (if bD = true then (if aI = aX then (if (aJ != bA) = true then (some false) else (some true)) else (some false)) else (some false))) else (some false)) else (some false)
set_option maxHeartbeats 60000000 in
set_option maxRecDepth 100000 in
theorem Z60.calls (aX bA aG aH aI aJ bD : Int) (aK : Bool) (bG bH aN aQ aT aV bI : Int) (aW r : Bool) (w : World) (h : Z60.f aX bA aG aH aI aJ bD aK bG bH aN aQ aT aV bI aW = some r) :
  Calls Try.prog 135 #[.agg #[aX, bA, aG, aH, aI, aJ, bD, aK], .agg #[bG, bH, aN, aQ, aT, aV, bI, aW]] w fun e w' => e = .returned (.bool r) ∧ Below w.heap.size w w' := by
 have cD := Try.underlying151
 have dN := Try.underlying73
 have HB := aM (Below.refl w.heap.size w)
 have H : (if aX = bG then (if bA = bH then ((Z38.f aG aH aI aJ aN aQ aT aV).bind fun bP => (if bP = true then (if bD = bI then (if (aK != aW) = true then (some false) else (some true)) else (some false)) else (some false))) else (some false)) else (some false)) = some r := h
 clear h
 by_cases c3 : aX = bG
 case neg =>
  rw [if_neg c3] at H
  have bT : (aX == bG) = false := beq_eq_false_iff_ne.mpr c3
  have bU : (aX != bG) = true := bne_iff_ne.mpr c3
  obtain rfl := Option.some.inj H
  go_enter Try.func135, Try.ntmps135
  go_wp2_with (first | ((with_reducible refine gD (N := 2) rfl ?_); refine bE (N := 2) (cs := #[aX, bA, aG, aH, aI, aJ, bD, aK]) (t := 151) ?_; intro bJ hg dP hbox hb; have aA := aM (hbox); have bK := gF hg HB; have bL := gF hg HB; replace HB := rS HB hb; clear hb hbox hg) | ((with_reducible refine gD (N := 3) rfl ?_); refine bE (N := 3) (cs := #[bG, bH, aN, aQ, aT, aV, bI, aW]) (t := 151) ?_; intro bM hg dQ hbox hb; have aC := aM (hbox); have bN := gF hg HB; have bO := gF hg HB; have aD := nM hg aA; have aE := nH hg aA; replace aA := rB aA hb; replace HB := rS HB hb; clear hb hbox hg; have cE := aD.out; have cG := aE.out; have cH := cA8 aA.out; have cK := cA8 aC.out))
  go_ret
  exact ⟨xW, bl HB.out⟩
 rw [if_pos c3] at H
 have bT : (aX == bG) = true := beq_iff_eq.mpr c3
 have bU : (aX != bG) = false := bne_eq_false_iff_eq.mpr c3
 clear c3
 by_cases c4 : bA = bH
 case neg =>
  rw [if_neg c4] at H
  have bV : (bA == bH) = false := beq_eq_false_iff_ne.mpr c4
  have bW : (bA != bH) = true := bne_iff_ne.mpr c4
  obtain rfl := Option.some.inj H
  go_enter Try.func135, Try.ntmps135
  go_wp2_with (first | ((with_reducible refine gD (N := 2) rfl ?_); refine bE (N := 2) (cs := #[aX, bA, aG, aH, aI, aJ, bD, aK]) (t := 151) ?_; intro bJ hg dR hbox hb; have aA := aM (hbox); have bK := gF hg HB; have bL := gF hg HB; replace HB := rS HB hb; clear hb hbox hg) | ((with_reducible refine gD (N := 3) rfl ?_); refine bE (N := 3) (cs := #[bG, bH, aN, aQ, aT, aV, bI, aW]) (t := 151) ?_; intro bM hg dS hbox hb; have aC := aM (hbox); have bN := gF hg HB; have bO := gF hg HB; have aD := nM hg aA; have aE := nH hg aA; replace aA := rB aA hb; replace HB := rS HB hb; clear hb hbox hg; have cL := aD.out; have cN := aE.out; have cO := cA8 aA.out; have cP := cA8 aC.out))
  go_ret
  exact ⟨xW, bl HB.out⟩
 rw [if_pos c4] at H
 have bV : (bA == bH) = true := beq_iff_eq.mpr c4
 have bW : (bA != bH) = false := bne_eq_false_iff_eq.mpr c4
 clear c4
 obtain ⟨bP, bQ, H⟩ := hB H
 have A5 := aM bQ
 clear bQ
 by_cases c6 : bP = true
 case neg =>
  replace c6 := Bool.eq_false_iff.mpr c6
  subst c6
  replace H := hF H
  obtain rfl := Option.some.inj H
  go_enter Try.func135, Try.ntmps135
  go_wp2_with (first | ((with_reducible refine gD (N := 2) rfl ?_); refine bE (N := 2) (cs := #[aX, bA, aG, aH, aI, aJ, bD, aK]) (t := 151) ?_; intro bJ hg dU hbox hb; have aA := aM (hbox); have bK := gF hg HB; have bL := gF hg HB; replace HB := rS HB hb; clear hb hbox hg) | ((with_reducible refine gD (N := 3) rfl ?_); refine bE (N := 3) (cs := #[bG, bH, aN, aQ, aT, aV, bI, aW]) (t := 151) ?_; intro bM hg dV hbox hb; have aC := aM (hbox); have bN := gF hg HB; have bO := gF hg HB; have aD := nM hg aA; have aE := nH hg aA; replace aA := rB aA hb; replace HB := rS HB hb; clear hb hbox hg; have cQ := aD.out; have cR := aE.out; have cS := cA8 aA.out; have cT := cA8 aC.out) | ((with_reducible refine gC (f := 186) rfl ?_); refine gL (some 19) Try.func186 #[.agg #[aG, aH, aI, aJ], .agg #[aN, aQ, aT, aV]] ?_; (with_reducible refine (Z38.calls aG aH aI aJ aN aQ aT aV false _ A5.out).mono ?_); rintro e dW ⟨rfl, hb⟩; refine ⟨_, rfl, ?_⟩; replace aA := rB aA hb; replace aC := rB aC hb; replace HB := rS HB hb; (try clear hb)))
  go_ret
  exact ⟨xW, bl HB.out⟩
 subst c6
 replace H := hP H rfl
 by_cases c7 : bD = bI
 case neg =>
  rw [if_neg c7] at H
  have bX : (bD == bI) = false := beq_eq_false_iff_ne.mpr c7
  have bY : (bD != bI) = true := bne_iff_ne.mpr c7
  obtain rfl := Option.some.inj H
  go_enter Try.func135, Try.ntmps135
  go_wp2_with (first | ((with_reducible refine gD (N := 2) rfl ?_); refine bE (N := 2) (cs := #[aX, bA, aG, aH, aI, aJ, bD, aK]) (t := 151) ?_; intro bJ hg dX hbox hb; have aA := aM (hbox); have bK := gF hg HB; have bL := gF hg HB; replace HB := rS HB hb; clear hb hbox hg) | ((with_reducible refine gD (N := 3) rfl ?_); refine bE (N := 3) (cs := #[bG, bH, aN, aQ, aT, aV, bI, aW]) (t := 151) ?_; intro bM hg dY hbox hb; have aC := aM (hbox); have bN := gF hg HB; have bO := gF hg HB; have aD := nM hg aA; have aE := nH hg aA; replace aA := rB aA hb; replace HB := rS HB hb; clear hb hbox hg; have cU := aD.out; have cV := aE.out; have cW := cA8 aA.out; have cX := cA8 aC.out) | ((with_reducible refine gC (f := 186) rfl ?_); refine gL (some 19) Try.func186 #[.agg #[aG, aH, aI, aJ], .agg #[aN, aQ, aT, aV]] ?_; (with_reducible refine (Z38.calls aG aH aI aJ aN aQ aT aV true _ A5.out).mono ?_); rintro e dZ ⟨rfl, hb⟩; refine ⟨_, rfl, ?_⟩; replace aA := rB aA hb; replace aC := rB aC hb; replace HB := rS HB hb; (try clear hb); have cY := cA8 aA.out; have dA := cA8 aC.out))
  go_ret
  exact ⟨xW, bl HB.out⟩
 rw [if_pos c7] at H
 have bX : (bD == bI) = true := beq_iff_eq.mpr c7
 have bY : (bD != bI) = false := bne_eq_false_iff_eq.mpr c7
 clear c7
 by_cases c8 : (aK != aW) = true
 case neg =>
  rw [if_neg c8] at H
  have bZ : (aK != aW) = false := by simpa using c8
  (try (have cA : decide (aK = aW) = true := by simpa using c8))
  (try (have cC : (aK == aW) = true := by simpa using c8))
  clear c8
  obtain rfl := Option.some.inj H
  go_enter Try.func135, Try.ntmps135
  go_wp2_with (first | ((with_reducible refine gD (N := 2) rfl ?_); refine bE (N := 2) (cs := #[aX, bA, aG, aH, aI, aJ, bD, aK]) (t := 151) ?_; intro bJ hg eA hbox hb; have aA := aM (hbox); have bK := gF hg HB; have bL := gF hg HB; replace HB := rS HB hb; clear hb hbox hg) | ((with_reducible refine gD (N := 3) rfl ?_); refine bE (N := 3) (cs := #[bG, bH, aN, aQ, aT, aV, bI, aW]) (t := 151) ?_; intro bM hg eB hbox hb; have aC := aM (hbox); have bN := gF hg HB; have bO := gF hg HB; have aD := nM hg aA; have aE := nH hg aA; replace aA := rB aA hb; replace HB := rS HB hb; clear hb hbox hg; have dB := aD.out; have dC := aE.out; have dD := cA8 aA.out; have dE := cA8 aC.out) | ((with_reducible refine gC (f := 186) rfl ?_); refine gL (some 19) Try.func186 #[.agg #[aG, aH, aI, aJ], .agg #[aN, aQ, aT, aV]] ?_; (with_reducible refine (Z38.calls aG aH aI aJ aN aQ aT aV true _ A5.out).mono ?_); rintro e eC ⟨rfl, hb⟩; refine ⟨_, rfl, ?_⟩; replace aA := rB aA hb; replace aC := rB aC hb; replace HB := rS HB hb; (try clear hb); have dF := cA8 aA.out; have dG := cA8 aC.out))
  go_ret
  exact ⟨xW, bl HB.out⟩
 rw [if_pos c8] at H
 have bZ : (aK != aW) = true := c8
 (try (have cA : decide (aK = aW) = false := by simpa using c8))
 (try (have cC : (aK == aW) = false := by simpa using c8))
 (try (have dO : ¬ (aK = aW) := by simpa using c8))
 clear c8
 obtain rfl := Option.some.inj H
 go_enter Try.func135, Try.ntmps135
 go_wp2_with (first | ((with_reducible refine gD (N := 2) rfl ?_); refine bE (N := 2) (cs := #[aX, bA, aG, aH, aI, aJ, bD, aK]) (t := 151) ?_; intro bJ hg w9 hbox hb; have aA := aM (hbox); have bK := gF hg HB; have bL := gF hg HB; replace HB := rS HB hb; clear hb hbox hg) | ((with_reducible refine gD (N := 3) rfl ?_); refine bE (N := 3) (cs := #[bG, bH, aN, aQ, aT, aV, bI, aW]) (t := 151) ?_; intro bM hg eD hbox hb; have aC := aM (hbox); have bN := gF hg HB; have bO := gF hg HB; have aD := nM hg aA; have aE := nH hg aA; replace aA := rB aA hb; replace HB := rS HB hb; clear hb hbox hg; have dH := aD.out; have dI := aE.out; have dJ := cA8 aA.out; have dK := cA8 aC.out) | ((with_reducible refine gC (f := 186) rfl ?_); refine gL (some 19) Try.func186 #[.agg #[aG, aH, aI, aJ], .agg #[aN, aQ, aT, aV]] ?_; (with_reducible refine (Z38.calls aG aH aI aJ aN aQ aT aV true _ A5.out).mono ?_); rintro e eE ⟨rfl, hb⟩; refine ⟨_, rfl, ?_⟩; replace aA := rB aA hb; replace aC := rB aC hb; replace HB := rS HB hb; (try clear hb); have dL := cA8 aA.out; have dM := cA8 aC.out))
 go_ret
 exact ⟨xW, bl HB.out⟩

def Z14.l0 : Nat → List (S151) → List (S151) → Int → Option (Bool)
 | 0, _, _, _ => none
 | k + 1, x0, x1, x5 => if x5 < (x0.length : Int) then (if 0 ≤ x5 then (if x5 < (x1.length : Int) then ((Z60.f ((rd_T151 x0 x5).f0) ((rd_T151 x0 x5).f1) ((rd_T151 x0 x5).f2.f0) ((rd_T151 x0 x5).f2.f1) ((rd_T151 x0 x5).f2.f2) ((rd_T151 x0 x5).f2.f3) ((rd_T151 x0 x5).f3) ((rd_T151 x0 x5).f4) ((rd_T151 x1 x5).f0) ((rd_T151 x1 x5).f1) ((rd_T151 x1 x5).f2.f0) ((rd_T151 x1 x5).f2.f1) ((rd_T151 x1 x5).f2.f2) ((rd_T151 x1 x5).f2.f3) ((rd_T151 x1 x5).f3) ((rd_T151 x1 x5).f4)).bind fun aA => (if aA = true then (Z14.l0 k x0 x1 (wrap64 (x5 + 1))) else (some false))) else (none)) else (none)) else (some true)
def Z14.f (k : Nat) (l0 : List (S151)) (l1 : List (S151)) : Option (Bool) := if (l0.length : Int) = (l1.length : Int) then (Z14.l0 k l0 l1 0) else (some false)
theorem Z14.mono_l : ∀ k, (∀ y0 y1 y2, LeO (Z14.l0 k y0 y1 y2) (Z14.l0 (k + 1) y0 y1 y2))
 | 0 => fun _ _ _ r h => by simp [Z14.l0] at h
 | k + 1 => by
  have ih0 := Z14.mono_l k
  ·intro y0 y1 y2
   unfold Z14.l0
   repeat' first|(with_reducible first|apply ih0|exact lR _|exact lN _|refine lI ?_ ?_|refine lB ?_ fun _ => ?_)|exact lN _|refine lI ?_ ?_|refine lB ?_ fun _ => ?_
theorem Z14.mono : ∀ a0 a1 k, LeO (Z14.f k a0 a1) (Z14.f (k + 1) a0 a1) := by
 intro a0 a1 k
 have ih0 := Z14.mono_l k
 unfold Z14.f
 repeat' first|(with_reducible first|apply ih0|exact lR _|exact lN _|refine lI ?_ ?_|refine lB ?_ fun _ => ?_)|exact lN _|refine lI ?_ ?_|refine lB ?_ fun _ => ?_
def Z14.T6 : Bool × List (List Nat × List Nat) := (true, [([], []), ([], []), ([0, 1], [0, 1]), ([2], [2]), ([], []), ([], []), ([4, 5], [4, 5]), ([6], [6]), ([3, 7], [3, 7]), ([8], [8])])
def Z14.B6 : List Nat := [0, 0, 3, 7, 0, 0, 48, 112, 255, 511]
theorem Z14.tab6 : rtab .any (opsOf Try.f56 6) = Z14.T6 := by kernel_rfl
theorem Z14.bits6 : waitsOk Z14.T6.2 Z14.B6 = true := by kernel_rfl
set_option maxHeartbeats 60000000 in
set_option maxRecDepth 100000 in
theorem Z14.calls (k : Nat) (A0 : Option Addr) (c0 : Nat) (l0 : List (S151)) (A1 : Option Addr) (c1 : Nat) (l1 : List (S151)) (r : Bool) (w : World) (hr0 : Kd.C k151 w A0 l0.length l0) (hc0 : l0.length ≤ c0) (hr1 : Kd.C k151 w A1 l1.length l1) (hc1 : l1.length ≤ c1) (h : Z14.f k l0 l1 = some r) :
  Calls Try.prog 56 #[.slice A0 l0.length c0, .slice A1 l1.length c1] w fun e w' => e = .returned (.bool r) ∧ Below w.heap.size w w' := by
 have cU := Try.underlying151
 have cO := aM hr0
 have cX := aM hc0
 clear hr0 hc0
 have cP := aM hr1
 have cY := aM hc1
 clear hr1 hc1
 have HB := aM (Below.refl w.heap.size w)
 have H : (if (l0.length : Int) = (l1.length : Int) then (Z14.l0 k l0 l1 0) else (some false)) = some r := h
 clear h
 by_cases c3 : (l0.length : Int) = (l1.length : Int)
 case neg =>
  rw [if_neg c3] at H
  have cK : ((l0.length : Int) == (l1.length : Int)) = false := beq_eq_false_iff_ne.mpr c3
  have cL : ((l0.length : Int) != (l1.length : Int)) = true := bne_iff_ne.mpr c3
  have cN : (l0.length == l1.length) = false := by first | simpa using c3 | (simp at c3 ⊢; omega)
  obtain rfl := Option.some.inj H
  go_enter Try.func56, Try.ntmps56
  go_wp2
  go_ret
  exact ⟨xW, bl HB.out⟩
 rw [if_pos c3] at H
 have cK : ((l0.length : Int) == (l1.length : Int)) = true := beq_iff_eq.mpr c3
 have cL : ((l0.length : Int) != (l1.length : Int)) = false := bne_eq_false_iff_eq.mpr c3
 have cN : (l0.length == l1.length) = true := by first | simpa using c3 | (simp at c3 ⊢; omega)
 clear c3
 have H' := aM H
 clear H
 go_enter Try.func56, Try.ntmps56
 go_wp2
 go_loopg [5] k (fun kq v5 w' => ∃ (aA : Int), v5 = .int .i64 aA ∧ Aside0 (Z14.l0 kq l0 l1 aA = some r) ∧ Aside0 (kq ≤ k) ∧ Aside0 (Below w.heap.size w w'))
 case atStart => exact ⟨(0), xE, H', ⟨Nat.le_refl _⟩, ⟨bl HB.out⟩⟩
 case round =>
  clear H'
  repeat first|clear c1|clear p2|clear c3|clear cK|clear cL|clear cN
  obtain ⟨aA, rfl, HA, cQ, HB⟩ := hrel
  cases gk with
  | zero => exact absurd HA.out (by simp [Z14.l0])
  | succ k1 =>
   have H := HA.out
   clear HA
   simp only [Z14.l0] at H
   by_cases c4 : aA < (l0.length : Int)
   case neg =>
    rw [if_neg c4] at H
    have cS := decide_eq_false c4
    clear c4
    obtain rfl := Option.some.inj H
    go_wp2
    go_ret
    exact ⟨xW, bl HB.out⟩
   rw [if_pos c4] at H
   have cS := decide_eq_true c4
   clear c4
   obtain ⟨cV, H⟩ := gI H
   obtain ⟨cW, H⟩ := gI H
   obtain ⟨cT, cR, H⟩ := hB H
   have A7 := aM cR
   clear cR
   by_cases c8 : cT = true
   case neg =>
    replace c8 := Bool.eq_false_iff.mpr c8
    subst c8
    replace H := hF H
    obtain rfl := Option.some.inj H
    try go_wp2
    replace HB := aM (below_drew1 HB.out)
    have bY : 0 ≤ (aA : Int) := dT
    have bZ : aA < (l0.length : Int) := dT
    obtain ⟨cD, cG, aC, aD, aE, aG, aH, aI, aJ, aK⟩ := at_T151 cO.out aA bY bZ
    have bG := aK
    have bH := aJ
    have bI := aI
    have bJ := aH
    have bK := aG
    have bL := aE
    have bM := aD
    have bN := aC
    cases cG
    replace aC := xB HB aC
    replace aD := xB HB aD
    replace aE := xB HB aE
    replace aG := xB HB aG
    replace aH := xB HB aH
    replace aI := xB HB aI
    replace aJ := xB HB aJ
    replace aK := xB HB aK
    replace bY := eq_true bY
    replace bZ := eq_true bZ
    have cA : 0 ≤ (aA : Int) := dT
    have cC : aA < (l1.length : Int) := dT
    obtain ⟨cE, cH, aN, aQ, aT, aV, aW, aX, bA, bD⟩ := at_T151 cP.out aA cA cC
    have bO := bD
    have bP := bA
    have bQ := aX
    have bT := aW
    have bU := aV
    have bV := aT
    have bW := aQ
    have bX := aN
    cases cH
    replace aN := xB HB aN
    replace aQ := xB HB aQ
    replace aT := xB HB aT
    replace aV := xB HB aV
    replace aW := xB HB aW
    replace aX := xB HB aX
    replace bA := xB HB bA
    replace bD := xB HB bD
    replace cA := eq_true cA
    replace cC := eq_true cC
    refine start_ (n := 10) (S := fun w' => cF151 w' cD (aA).toNat (rd_T151 l0 aA) (cE151 w' cE (aA).toNat (rd_T151 l1 aA))) (ds := []) (dn 10 0) (by kernel_rfl) rfl rfl ⟨(xB HB bN), (xB HB bM), (xB HB bL), (xB HB bK), (xB HB bJ), (xB HB bI), (xB HB bH), (xB HB bG), (xB HB bX), (xB HB bW), (xB HB bV), (xB HB bU), (xB HB bT), (xB HB bQ), (xB HB bP), (xB HB bO)⟩ (fun hHeld => ?_); refine with_tabW Z14.tab6 Z14.bits6 (fun HT_ HW_ => ?_)
    generalize wr.drew = dA at HB aC aD aE aG aH aI aJ aK aN aQ aT aV aW aX bA bD hHeld ⊢
    refine nY (N := some 17) HT_ ?_
    refine nY (N := some 18) HT_ ?_
    refine nY (N := some 19) HT_ ?_
    refine pZ 4 21 (bv 10 23) HT_ ?_
    refine pZ 5 22 (bv 10 55) HT_ ?_
    refine pZ 6 23 (bv 10 119) HT_ ?_
    refine aZ 3 20 (bv 10 127) HT_ HW_ hHeld ?_
    refine aZ 7 24 (bv 10 255) HT_ HW_ hHeld ?_
    refine one_ (i := 8) (N := some 25) (bv 10 511) rfl rfl (one_of HT_.out (by kernel_rfl)) (by decide) (fun K hK => ?_)
    refine goes_ Try.func135 (by kernel_rfl) rfl #[.agg #[((rd_T151 l0 aA).f0), ((rd_T151 l0 aA).f1), ((rd_T151 l0 aA).f2.f0), ((rd_T151 l0 aA).f2.f1), ((rd_T151 l0 aA).f2.f2), ((rd_T151 l0 aA).f2.f3), ((rd_T151 l0 aA).f3), ((rd_T151 l0 aA).f4)], .agg #[((rd_T151 l1 aA).f0), ((rd_T151 l1 aA).f1), ((rd_T151 l1 aA).f2.f0), ((rd_T151 l1 aA).f2.f1), ((rd_T151 l1 aA).f2.f2), ((rd_T151 l1 aA).f2.f3), ((rd_T151 l1 aA).f3), ((rd_T151 l1 aA).f4)]] (by rfl) rfl rfl xR ?_
    with_reducible refine (Z60.calls ((rd_T151 l0 aA).f0) ((rd_T151 l0 aA).f1) ((rd_T151 l0 aA).f2.f0) ((rd_T151 l0 aA).f2.f1) ((rd_T151 l0 aA).f2.f2) ((rd_T151 l0 aA).f2.f3) ((rd_T151 l0 aA).f3) ((rd_T151 l0 aA).f4) ((rd_T151 l1 aA).f0) ((rd_T151 l1 aA).f1) ((rd_T151 l1 aA).f2.f0) ((rd_T151 l1 aA).f2.f1) ((rd_T151 l1 aA).f2.f2) ((rd_T151 l1 aA).f2.f3) ((rd_T151 l1 aA).f3) ((rd_T151 l1 aA).f4) false _ A7.out).mono ?_
    rintro e dB ⟨rfl, hb⟩
    refine ⟨_, rfl, ?_⟩
    replace HB := rS HB hb
    (try clear hb)
    (try clear hb2)
    (try clear hk)
    (try clear hi)
    refine hK.out _ _ ⟨(xB HB bN), (xB HB bM), (xB HB bL), (xB HB bK), (xB HB bJ), (xB HB bI), (xB HB bH), (xB HB bG), (xB HB bX), (xB HB bW), (xB HB bV), (xB HB bU), (xB HB bT), (xB HB bQ), (xB HB bP), (xB HB bO)⟩ (fun hHeld => ?_)
    clear hK K
    refine norm_ (a' := ?_) ?_ ?_
    rotate_left
    ·show Act.put _ (some 25) _ = _
     simp only [Act.put, sA, sZ, sS, i64_w, i32_w]
     rfl
    refine pZ 9 26 (bv 10 1023) HT_ ?_
    refine done_ (done_of HT_.out (by kernel_rfl)) ?_
    try go_wp2
    go_ret
    exact ⟨xW, bl HB.out⟩
   subst c8
   replace H := hP H rfl
   have H' := aM H
   clear H
   try go_wp2
   replace HB := aM (below_drew1 HB.out)
   have bY : 0 ≤ (aA : Int) := dT
   have bZ : aA < (l0.length : Int) := dT
   obtain ⟨cD, cG, aC, aD, aE, aG, aH, aI, aJ, aK⟩ := at_T151 cO.out aA bY bZ
   have bG := aK
   have bH := aJ
   have bI := aI
   have bJ := aH
   have bK := aG
   have bL := aE
   have bM := aD
   have bN := aC
   cases cG
   replace aC := xB HB aC
   replace aD := xB HB aD
   replace aE := xB HB aE
   replace aG := xB HB aG
   replace aH := xB HB aH
   replace aI := xB HB aI
   replace aJ := xB HB aJ
   replace aK := xB HB aK
   replace bY := eq_true bY
   replace bZ := eq_true bZ
   have cA : 0 ≤ (aA : Int) := dT
   have cC : aA < (l1.length : Int) := dT
   obtain ⟨cE, cH, aN, aQ, aT, aV, aW, aX, bA, bD⟩ := at_T151 cP.out aA cA cC
   have bO := bD
   have bP := bA
   have bQ := aX
   have bT := aW
   have bU := aV
   have bV := aT
   have bW := aQ
   have bX := aN
   cases cH
   replace aN := xB HB aN
   replace aQ := xB HB aQ
   replace aT := xB HB aT
   replace aV := xB HB aV
   replace aW := xB HB aW
   replace aX := xB HB aX
   replace bA := xB HB bA
   replace bD := xB HB bD
   replace cA := eq_true cA
   replace cC := eq_true cC
   refine start_ (n := 10) (S := fun w' => cF151 w' cD (aA).toNat (rd_T151 l0 aA) (cE151 w' cE (aA).toNat (rd_T151 l1 aA))) (ds := []) (dn 10 0) (by kernel_rfl) rfl rfl ⟨(xB HB bN), (xB HB bM), (xB HB bL), (xB HB bK), (xB HB bJ), (xB HB bI), (xB HB bH), (xB HB bG), (xB HB bX), (xB HB bW), (xB HB bV), (xB HB bU), (xB HB bT), (xB HB bQ), (xB HB bP), (xB HB bO)⟩ (fun hHeld => ?_); refine with_tabW Z14.tab6 Z14.bits6 (fun HT_ HW_ => ?_)
   generalize wr.drew = w9 at HB aC aD aE aG aH aI aJ aK aN aQ aT aV aW aX bA bD hHeld ⊢
   refine nY (N := some 17) HT_ ?_
   refine nY (N := some 18) HT_ ?_
   refine nY (N := some 19) HT_ ?_
   refine pZ 4 21 (bv 10 23) HT_ ?_
   refine pZ 5 22 (bv 10 55) HT_ ?_
   refine pZ 6 23 (bv 10 119) HT_ ?_
   refine aZ 3 20 (bv 10 127) HT_ HW_ hHeld ?_
   refine aZ 7 24 (bv 10 255) HT_ HW_ hHeld ?_
   refine one_ (i := 8) (N := some 25) (bv 10 511) rfl rfl (one_of HT_.out (by kernel_rfl)) (by decide) (fun K hK => ?_)
   refine goes_ Try.func135 (by kernel_rfl) rfl #[.agg #[((rd_T151 l0 aA).f0), ((rd_T151 l0 aA).f1), ((rd_T151 l0 aA).f2.f0), ((rd_T151 l0 aA).f2.f1), ((rd_T151 l0 aA).f2.f2), ((rd_T151 l0 aA).f2.f3), ((rd_T151 l0 aA).f3), ((rd_T151 l0 aA).f4)], .agg #[((rd_T151 l1 aA).f0), ((rd_T151 l1 aA).f1), ((rd_T151 l1 aA).f2.f0), ((rd_T151 l1 aA).f2.f1), ((rd_T151 l1 aA).f2.f2), ((rd_T151 l1 aA).f2.f3), ((rd_T151 l1 aA).f3), ((rd_T151 l1 aA).f4)]] (by rfl) rfl rfl xR ?_
   with_reducible refine (Z60.calls ((rd_T151 l0 aA).f0) ((rd_T151 l0 aA).f1) ((rd_T151 l0 aA).f2.f0) ((rd_T151 l0 aA).f2.f1) ((rd_T151 l0 aA).f2.f2) ((rd_T151 l0 aA).f2.f3) ((rd_T151 l0 aA).f3) ((rd_T151 l0 aA).f4) ((rd_T151 l1 aA).f0) ((rd_T151 l1 aA).f1) ((rd_T151 l1 aA).f2.f0) ((rd_T151 l1 aA).f2.f1) ((rd_T151 l1 aA).f2.f2) ((rd_T151 l1 aA).f2.f3) ((rd_T151 l1 aA).f3) ((rd_T151 l1 aA).f4) true _ A7.out).mono ?_
   rintro e dC ⟨rfl, hb⟩
   refine ⟨_, rfl, ?_⟩
   replace HB := rS HB hb
   (try clear hb)
   (try clear hb2)
   (try clear hk)
   (try clear hi)
   refine hK.out _ _ ⟨(xB HB bN), (xB HB bM), (xB HB bL), (xB HB bK), (xB HB bJ), (xB HB bI), (xB HB bH), (xB HB bG), (xB HB bX), (xB HB bW), (xB HB bV), (xB HB bU), (xB HB bT), (xB HB bQ), (xB HB bP), (xB HB bO)⟩ (fun hHeld => ?_)
   clear hK K
   refine norm_ (a' := ?_) ?_ ?_
   rotate_left
   ·show Act.put _ (some 25) _ = _
    simp only [Act.put, sA, sZ, sS, i64_w, i32_w]
    rfl
   refine pZ 9 26 (bv 10 1023) HT_ ?_
   refine done_ (done_of HT_.out (by kernel_rfl)) ?_
   try go_wp2
   go_roundg k1
   case measure => have := cQ.out; omega
   case rel => exact ⟨(wS aA), xE, H', ⟨by have := cQ.out; omega⟩, ⟨bl HB.out⟩⟩

def Z26.l0 : Nat → List (S151) → Int → Int → Option (Int × (List (S151)))
 | 0, _, _, _ => none
 | k + 1, x0, x1, x5 => if x5 < (x0.length : Int) then (if 0 ≤ x5 then ((some (x0.set (x5 : Int).toNat (⟨x1, (rd_T151 x0 x5).f1, (⟨(rd_T151 x0 x5).f2.f0, (rd_T151 x0 x5).f2.f1, (rd_T151 x0 x5).f2.f2, (rd_T151 x0 x5).f2.f3⟩ : S73), (rd_T151 x0 x5).f3, (rd_T151 x0 x5).f4⟩ : S151) : List (S151))).bind fun aA => ((some (aA.set (x5 : Int).toNat (⟨(rd_T151 aA x5).f0, wrap64 (x1 + 1), (⟨(rd_T151 aA x5).f2.f0, (rd_T151 aA x5).f2.f1, (rd_T151 aA x5).f2.f2, (rd_T151 aA x5).f2.f3⟩ : S73), (rd_T151 aA x5).f3, (rd_T151 aA x5).f4⟩ : S151) : List (S151))).bind fun aC => ((some (aC.set (x5 : Int).toNat (⟨(rd_T151 aC x5).f0, (rd_T151 aC x5).f1, (⟨wrap64 ((wrap64 (x1 + 1)) + 1), (rd_T151 aC x5).f2.f1, (rd_T151 aC x5).f2.f2, (rd_T151 aC x5).f2.f3⟩ : S73), (rd_T151 aC x5).f3, (rd_T151 aC x5).f4⟩ : S151) : List (S151))).bind fun aD => ((some (aD.set (x5 : Int).toNat (⟨(rd_T151 aD x5).f0, (rd_T151 aD x5).f1, (⟨(rd_T151 aD x5).f2.f0, wrap64 ((wrap64 ((wrap64 (x1 + 1)) + 1)) + 1), (rd_T151 aD x5).f2.f2, (rd_T151 aD x5).f2.f3⟩ : S73), (rd_T151 aD x5).f3, (rd_T151 aD x5).f4⟩ : S151) : List (S151))).bind fun aE => ((some (aE.set (x5 : Int).toNat (⟨(rd_T151 aE x5).f0, (rd_T151 aE x5).f1, (⟨(rd_T151 aE x5).f2.f0, (rd_T151 aE x5).f2.f1, wrap64 ((wrap64 ((wrap64 ((wrap64 (x1 + 1)) + 1)) + 1)) + 1), (rd_T151 aE x5).f2.f3⟩ : S73), (rd_T151 aE x5).f3, (rd_T151 aE x5).f4⟩ : S151) : List (S151))).bind fun aG => ((some (aG.set (x5 : Int).toNat (⟨(rd_T151 aG x5).f0, (rd_T151 aG x5).f1, (⟨(rd_T151 aG x5).f2.f0, (rd_T151 aG x5).f2.f1, (rd_T151 aG x5).f2.f2, wrap64 ((wrap64 ((wrap64 ((wrap64 ((wrap64 (x1 + 1)) + 1)) + 1)) + 1)) + 1)⟩ : S73), (rd_T151 aG x5).f3, (rd_T151 aG x5).f4⟩ : S151) : List (S151))).bind fun aH => ((some (aH.set (x5 : Int).toNat (⟨(rd_T151 aH x5).f0, (rd_T151 aH x5).f1, (⟨(rd_T151 aH x5).f2.f0, (rd_T151 aH x5).f2.f1, (rd_T151 aH x5).f2.f2, (rd_T151 aH x5).f2.f3⟩ : S73), wrap64 ((wrap64 ((wrap64 ((wrap64 ((wrap64 ((wrap64 (x1 + 1)) + 1)) + 1)) + 1)) + 1)) + 1), (rd_T151 aH x5).f4⟩ : S151) : List (S151))).bind fun aI => (Z26.l0 k (aI.set (x5 : Int).toNat (⟨(rd_T151 aI x5).f0, (rd_T151 aI x5).f1, (⟨(rd_T151 aI x5).f2.f0, (rd_T151 aI x5).f2.f1, (rd_T151 aI x5).f2.f2, (rd_T151 aI x5).f2.f3⟩ : S73), (rd_T151 aI x5).f3, ((Int.tmod (wrap64 ((wrap64 ((wrap64 ((wrap64 ((wrap64 ((wrap64 ((wrap64 (x1 + 1)) + 1)) + 1)) + 1)) + 1)) + 1)) + 1)) 3) == 0)⟩ : S151)) (wrap64 ((wrap64 ((wrap64 ((wrap64 ((wrap64 ((wrap64 ((wrap64 ((wrap64 (x1 + 1)) + 1)) + 1)) + 1)) + 1)) + 1)) + 1)) + 1)) (wrap64 (x5 + 1)))))))))) else (none)) else (some (x1, x0))
def Z26.f (k : Nat) (l0 : List (S151)) (a1 : Int) : Option (Int × (List (S151))) := Z26.l0 k l0 a1 0
theorem Z26.mono_l : ∀ k, (∀ y0 y1 y2, LeO (Z26.l0 k y0 y1 y2) (Z26.l0 (k + 1) y0 y1 y2))
 | 0 => fun _ _ _ r h => by simp [Z26.l0] at h
 | k + 1 => by
  have ih0 := Z26.mono_l k
  ·intro y0 y1 y2
   unfold Z26.l0
   repeat' first|(with_reducible first|apply ih0|exact lR _|exact lN _|refine lI ?_ ?_|refine lB ?_ fun _ => ?_)|exact lN _|refine lI ?_ ?_|refine lB ?_ fun _ => ?_
theorem Z26.mono : ∀ a0 a1 k, LeO (Z26.f k a0 a1) (Z26.f (k + 1) a0 a1) := by
 intro a0 a1 k
 have ih0 := Z26.mono_l k
 unfold Z26.f
 repeat' first|(with_reducible first|apply ih0|exact lR _|exact lN _|refine lI ?_ ?_|refine lB ?_ fun _ => ?_)|exact lN _|refine lI ?_ ?_|refine lB ?_ fun _ => ?_
set_option maxHeartbeats 60000000 in
set_option maxRecDepth 100000 in
theorem Z26.calls (k : Nat) (P0_ : Nat → Prop) (aW : Value) (l0 : List (S151)) (a1 r1 : Int) (r2 : List (S151)) (w0 w : World) (hB : Below w0.heap.size w0 w) (ho0 : Kd.R k151 151 w w0.heap.size P0_ aW l0) (h : Z26.f k l0 a1 = some (r1, r2)) :
  Calls Try.prog 57 #[aW, a1] w fun e w' => e = .returned (.int .i64 r1) ∧ Kd.R k151 151 w' w0.heap.size (fun k_ => (P0_ k_ ∨ w.heap.size ≤ k_)) aW r2 ∧ Below w0.heap.size w0 w' ∧ Kept w w' (fun k_ => P0_ k_) := by
 have gJ := aM (show Kd.R k151 151 w w0.heap.size (fun k_ => (P0_ k_ ∨ w.heap.size ≤ k_)) aW l0 from Kd.R_mono ho0 (fun k_ hk => (.inl hk)))
 have HK := aM (Kept.refl w (fun k_ => P0_ k_))
 have HW0 := aM hB.size
 have HB := aM hB
 clear hB
 have H : (Z26.l0 k l0 a1 0) = some (r1, r2) := h
 clear h
 have H' := aM H
 clear H
 go_enter Try.func57, Try.ntmps57
 go_wp2
 go_loopg [1, 5] k (fun kq v1 v5 w' => ∃ (aD : List (S151)) (aE : Int) (aA : Int), v1 = .int .i64 aE ∧ v5 = .int .i64 aA ∧ Aside0 (Z26.l0 kq aD aE aA = some (r1, r2)) ∧ Aside0 (kq ≤ k) ∧ Aside0 (Kd.R k151 151 w' w0.heap.size (fun k_ => (P0_ k_ ∨ w.heap.size ≤ k_)) aW aD) ∧ Aside0 (Kept w w' (fun k_ => P0_ k_)) ∧ Aside0 (Below w0.heap.size w0 w'))
 case atStart => exact ⟨(l0), (a1), (0), xE, xE, H', ⟨Nat.le_refl _⟩, ⟨kr gJ.out⟩, ⟨kk HK.out⟩, ⟨bl HB.out⟩⟩
 case round =>
  clear H'
  try clear p2
  obtain ⟨aD, aE, aA, rfl, rfl, HA, fL, aC, HK, HB⟩ := hrel
  cases gk with
  | zero => exact absurd HA.out (by simp [Z26.l0])
  | succ k1 =>
   have H := HA.out
   clear HA
   simp only [Z26.l0] at H
   by_cases c3 : aA < (aD.length : Int)
   case neg =>
    rw [if_neg c3] at H
    have fV := decide_eq_false c3
    clear c3
    simp only [Option.some.injEq, Prod.mk.injEq] at H
    obtain ⟨rfl, rfl⟩ := H
    obtain ⟨mY, mZ, fW⟩ := Kd.R_slice aC.out
    subst fW
    go_wp2
    go_ret
    exact ⟨xW, by (with_reducible repeat (first | apply Kd.R_alloc | apply Kd.R_drewN | apply Kd.R_drew)); exact aC.out, bl HB.out, kk HK.out⟩
   rw [if_pos c3] at H
   have fV := decide_eq_true c3
   clear c3
   obtain ⟨nA, H⟩ := gI H
   obtain ⟨aJ, cH, H⟩ := hS H
   have eZ := aM cH
   clear cH
   obtain ⟨aK, cK, H⟩ := hS H
   have fA := aM cK
   clear cK
   obtain ⟨aN, cL, H⟩ := hS H
   have fB := aM cL
   clear cL
   obtain ⟨aQ, cN, H⟩ := hS H
   have fC := aM cN
   clear cN
   obtain ⟨aT, cO, H⟩ := hS H
   have fD := aM cO
   clear cO
   obtain ⟨aV, cP, H⟩ := hS H
   have fE := aM cP
   clear cP
   obtain ⟨aH, cQ, H⟩ := hS H
   have fF := aM cQ
   clear cQ
   obtain ⟨bW, aX⟩ : ∃ y_ : List (S151), y_ = (aH.set (aA : Int).toNat (⟨(rd_T151 aH aA).f0, (rd_T151 aH aA).f1, (⟨(rd_T151 aH aA).f2.f0, (rd_T151 aH aA).f2.f1, (rd_T151 aH aA).f2.f2, (rd_T151 aH aA).f2.f3⟩ : S73), (rd_T151 aH aA).f3, ((Int.tmod (wS (wS (wS (wS (wS (wS (wS aE))))))) 3) == 0)⟩ : S151)) := ⟨_, rfl⟩
   replace H : (Z26.l0 k1 bW (wS (wS (wS (wS (wS (wS (wS (wS aE)))))))) (wS aA)) = some (r1, r2) := by first | (rw [aX]; with_reducible exact H) | (have H2_ := (Option.bind_some _ _).symm.trans H; rw [aX]; with_reducible exact H2_) | (have H2_ := (Option.bind_some _ _).symm.trans H; with_reducible exact H2_) | with_reducible exact H | (rw [aX]; exact H) | exact H
   have fG := aM aX
   clear aX
   have H' := aM H
   clear H
   obtain ⟨nB, aI, fX⟩ := Kd.R_slice aC.out
   subst fX
   have p5 : 0 ≤ (aA : Int) := dT
   have q5 : (aA : Int) < ((aD.length : Int) : Int) := dT
   obtain ⟨aG, nR, fM, fN, gK, nS, fO⟩ := Kd.R_form aC.out (by omega)
   (first | cases fM | (injection fM with ea_ en_ ec_; (first | subst ea_ | (injection ea_ with ea_; subst ea_)); subst ec_; clear en_))
   have bA := aM fN
   have nT := aM fO
   clear fN gK fO
   have HMgo5 := aM (show (P0_ aG ∨ w.heap.size ≤ aG) from (aC.out.1 _ rfl))
   obtain ⟨nV, fY, fP, dO, dP⟩ := Kd.R_elem aC.out z151 (aA : Int) p5 q5
   obtain rfl := k151_openM fP
   obtain ⟨jQ, jR, jS, jT, jU, jV, jW, jX, jY, jZ, kA, kC, kD, kE, kG, kH⟩ := eS151 (rd_T151 aD aA) dO dP
   clear fY dO dP fP
   replace p5 := eq_true p5
   replace q5 := eq_true q5
   have dQ := aM (show Kd.R k151 151 wr w0.heap.size (fun k_ => (P0_ k_ ∨ w.heap.size ≤ k_)) (.slice (some ⟨aG, 0, none⟩) aD.length aI) aD from (kr aC.out))
   obtain ⟨nC, cR, dR, bM, cS⟩ := Kd.R_elem dQ.out z151 (aA : Int) (dT) dT
   obtain rfl := k151_openM dR
   have bX := Kd.R_seg dQ.out (aA : Int) (dT) dT (seg := [.int .i64 aE]) (j := 0) cR bM (show 1 ≤ 8 from by decide) (x' := (⟨aE, (rd_T151 aD aA).f1, (⟨(rd_T151 aD aA).f2.f0, (rd_T151 aD aA).f2.f1, (rd_T151 aD aA).f2.f2, (rd_T151 aD aA).f2.f3⟩ : S73), (rd_T151 aD aA).f3, (rd_T151 aD aA).f4⟩ : S151)) (k151_mkM _ _ _ _) (fun _ hk => hk)
   have gM := cZ 8 (bM 0 _ rfl)
   have gN := fZ 8 (cS 0)
   clear cR bM cS dR
   go_wp2_with (first | ((with_reducible refine gate_store (t := 3) (p := 16) rfl ?_); refine store_event (t := 3) (p := 16) (v := ?vo_w15) (w1 := (wr.setCell ⟨aG, (aA : Int).toNat * 8, none⟩ (.int .i64 aE))) ?hg ?ho ?hn ?hr ?_; (case ho => rfl); (case hg => rfl); (case hn => rfl); (case hr => first | (go_simp; done) | (go_simp; rfl) | (obtain ⟨A_, c_, e_⟩ := Kd.R_slice aC.out; subst e_; (first | (go_simp; done) | (go_simp; rfl))) | (obtain ⟨A_, c_, e_⟩ := Kd.S_slice aC.out; subst e_; (first | (go_simp; done) | (go_simp; rfl)))); intro bD hw; have hg : wr.grownBy bD (some aG) := (by rw [hw]; exact bX.2); have hp_ : Kd.R k151 151 bD w0.heap.size (fun k_ => (P0_ k_ ∨ w.heap.size ≤ k_)) (.slice (some ⟨aG, 0, none⟩) aD.length aI) aJ := (by rw [hw, eZ.out]; exact bX.1); clear bX; replace HB := aM ((by rw [hw]; exact below_set (HB.out) bA.out : Below w0.heap.size w0 bD)); replace HK := aM (Kept.of_grown (S := (fun k_ => P0_ k_)) hg (kk HK.out) (fun k_ e_ => (aC.out.1 k_ e_))); replace aC := aM (hp_); clear hg hw hp_; have p6 : 0 ≤ (aA : Int) := dT; have q6 : (aA : Int) < ((aD.length : Int) : Int) := dT; obtain ⟨nZ, gA, fQ, dS, dU⟩ := Kd.R_elem aC.out z151 (aA : Int) p6 q6; obtain rfl := k151_openM fQ; obtain ⟨kI, kJ, kK, kL, kM, kN, kO, kP, kQ, kR, kS, kT, kU, kV, kW, kX⟩ := eS151 (rd_T151 aJ aA) dS dU; clear gA dS dU fQ; replace p6 := eq_true p6; replace q6 := eq_true q6; have dV := aM (show Kd.R k151 151 bD w0.heap.size (fun k_ => (P0_ k_ ∨ w.heap.size ≤ k_)) (.slice (some ⟨aG, 0, none⟩) aD.length aI) aJ from (kr aC.out)); obtain ⟨nD, cT, dW, bN, cU⟩ := Kd.R_elem dV.out z151 (aA : Int) (dT) dT; obtain rfl := k151_openM dW; have bY := Kd.R_seg dV.out (aA : Int) (dT) dT (seg := [.int .i64 (wS aE)]) (j := 1) cT bN (show 2 ≤ 8 from by decide) (x' := (⟨(rd_T151 aJ aA).f0, wS aE, (⟨(rd_T151 aJ aA).f2.f0, (rd_T151 aJ aA).f2.f1, (rd_T151 aJ aA).f2.f2, (rd_T151 aJ aA).f2.f3⟩ : S73), (rd_T151 aJ aA).f3, (rd_T151 aJ aA).f4⟩ : S151)) (k151_mkM _ _ _ _) (fun _ hk => hk); have gO := cJ 8 (bN 1 _ rfl); have gP := fJ 8 (cU 1); clear cT bN cU dW) | ((with_reducible refine gate_store (t := 3) (p := 23) rfl ?_); refine store_event (t := 3) (p := 23) (v := ?vo_w17) (w1 := (bD.setCell ⟨aG, (aA : Int).toNat * 8 + 1, none⟩ (.int .i64 (wS aE)))) ?hg ?ho ?hn ?hr ?_; (case ho => rfl); (case hg => rfl); (case hn => rfl); (case hr => first | (go_simp; done) | (go_simp; rfl) | (obtain ⟨A_, c_, e_⟩ := Kd.R_slice aC.out; subst e_; (first | (go_simp; done) | (go_simp; rfl))) | (obtain ⟨A_, c_, e_⟩ := Kd.S_slice aC.out; subst e_; (first | (go_simp; done) | (go_simp; rfl)))); intro bG hw; have hg : bD.grownBy bG (some aG) := (by rw [hw]; exact bY.2); have hp_ : Kd.R k151 151 bG w0.heap.size (fun k_ => (P0_ k_ ∨ w.heap.size ≤ k_)) (.slice (some ⟨aG, 0, none⟩) aD.length aI) aK := (by rw [hw, fA.out]; exact bY.1); clear bY; replace HB := aM ((by rw [hw]; exact below_set (HB.out) bA.out : Below w0.heap.size w0 bG)); replace HK := aM (Kept.of_grown (S := (fun k_ => P0_ k_)) hg (kk HK.out) (fun k_ e_ => (aC.out.1 k_ e_))); replace aC := aM (hp_); clear hg hw hp_; have p7 : 0 ≤ (aA : Int) := dT; have q7 : (aA : Int) < ((aD.length : Int) : Int) := dT; obtain ⟨oA, gB, fS, dX, dY⟩ := Kd.R_elem aC.out z151 (aA : Int) p7 q7; obtain rfl := k151_openM fS; obtain ⟨kY, kZ, lA, lC, lD, lE, lF, lG, lH, lJ, lK, lL, lM, lO, lP, lQ⟩ := eS151 (rd_T151 aK aA) dX dY; clear gB dX dY fS; replace p7 := eq_true p7; replace q7 := eq_true q7; have dZ := aM (show Kd.R k151 151 bG w0.heap.size (fun k_ => (P0_ k_ ∨ w.heap.size ≤ k_)) (.slice (some ⟨aG, 0, none⟩) aD.length aI) aK from (kr aC.out)); obtain ⟨nE, cV, eA, bO, cW⟩ := Kd.R_elem dZ.out z151 (aA : Int) (dT) dT; obtain rfl := k151_openM eA; have bZ := Kd.R_seg dZ.out (aA : Int) (dT) dT (seg := [.int .i64 (wS (wS aE))]) (j := 2) cV bO (show 3 ≤ 8 from by decide) (x' := (⟨(rd_T151 aK aA).f0, (rd_T151 aK aA).f1, (⟨wS (wS aE), (rd_T151 aK aA).f2.f1, (rd_T151 aK aA).f2.f2, (rd_T151 aK aA).f2.f3⟩ : S73), (rd_T151 aK aA).f3, (rd_T151 aK aA).f4⟩ : S151)) (k151_mkM _ _ _ _) (fun _ hk => hk); have gQ := cJ 8 (bO 2 _ rfl); have gR := fJ 8 (cW 2); clear cV bO cW eA) | ((with_reducible refine gate_store (t := 3) (p := 31) rfl ?_); refine store_event (t := 3) (p := 31) (v := ?vo_w19) (w1 := (bG.setCell ⟨aG, (aA : Int).toNat * 8 + 2, none⟩ (.int .i64 (wS (wS aE))))) ?hg ?ho ?hn ?hr ?_; (case ho => rfl); (case hg => rfl); (case hn => rfl); (case hr => first | (go_simp; done) | (go_simp; rfl) | (obtain ⟨A_, c_, e_⟩ := Kd.R_slice aC.out; subst e_; (first | (go_simp; done) | (go_simp; rfl))) | (obtain ⟨A_, c_, e_⟩ := Kd.S_slice aC.out; subst e_; (first | (go_simp; done) | (go_simp; rfl)))); intro bH hw; have hg : bG.grownBy bH (some aG) := (by rw [hw]; exact bZ.2); have hp_ : Kd.R k151 151 bH w0.heap.size (fun k_ => (P0_ k_ ∨ w.heap.size ≤ k_)) (.slice (some ⟨aG, 0, none⟩) aD.length aI) aN := (by rw [hw, fB.out]; exact bZ.1); clear bZ; replace HB := aM ((by rw [hw]; exact below_set (HB.out) bA.out : Below w0.heap.size w0 bH)); replace HK := aM (Kept.of_grown (S := (fun k_ => P0_ k_)) hg (kk HK.out) (fun k_ e_ => (aC.out.1 k_ e_))); replace aC := aM (hp_); clear hg hw hp_; have p8 : 0 ≤ (aA : Int) := dT; have q8 : (aA : Int) < ((aD.length : Int) : Int) := dT; obtain ⟨oB, gG, fT, eB, eC⟩ := Kd.R_elem aC.out z151 (aA : Int) p8 q8; obtain rfl := k151_openM fT; obtain ⟨lS, lT, lU, lV, lW, lX, lY, lZ, mA, mB, mC, mD, mE, mF, mG, mH⟩ := eS151 (rd_T151 aN aA) eB eC; clear gG eB eC fT; replace p8 := eq_true p8; replace q8 := eq_true q8; have eD := aM (show Kd.R k151 151 bH w0.heap.size (fun k_ => (P0_ k_ ∨ w.heap.size ≤ k_)) (.slice (some ⟨aG, 0, none⟩) aD.length aI) aN from (kr aC.out)); obtain ⟨nF, cX, eE, bP, cY⟩ := Kd.R_elem eD.out z151 (aA : Int) (dT) dT; obtain rfl := k151_openM eE; have cA := Kd.R_seg eD.out (aA : Int) (dT) dT (seg := [.int .i64 (wS (wS (wS aE)))]) (j := 3) cX bP (show 4 ≤ 8 from by decide) (x' := (⟨(rd_T151 aN aA).f0, (rd_T151 aN aA).f1, (⟨(rd_T151 aN aA).f2.f0, wS (wS (wS aE)), (rd_T151 aN aA).f2.f2, (rd_T151 aN aA).f2.f3⟩ : S73), (rd_T151 aN aA).f3, (rd_T151 aN aA).f4⟩ : S151)) (k151_mkM _ _ _ _) (fun _ hk => hk); have gS := cJ 8 (bP 3 _ rfl); have gT := fJ 8 (cY 3); clear cX bP cY eE) | ((with_reducible refine gate_store (t := 3) (p := 39) rfl ?_); refine store_event (t := 3) (p := 39) (v := ?vo_w21) (w1 := (bH.setCell ⟨aG, (aA : Int).toNat * 8 + 3, none⟩ (.int .i64 (wS (wS (wS aE)))))) ?hg ?ho ?hn ?hr ?_; (case ho => rfl); (case hg => rfl); (case hn => rfl); (case hr => first | (go_simp; done) | (go_simp; rfl) | (obtain ⟨A_, c_, e_⟩ := Kd.R_slice aC.out; subst e_; (first | (go_simp; done) | (go_simp; rfl))) | (obtain ⟨A_, c_, e_⟩ := Kd.S_slice aC.out; subst e_; (first | (go_simp; done) | (go_simp; rfl)))); intro bI hw; have hg : bH.grownBy bI (some aG) := (by rw [hw]; exact cA.2); have hp_ : Kd.R k151 151 bI w0.heap.size (fun k_ => (P0_ k_ ∨ w.heap.size ≤ k_)) (.slice (some ⟨aG, 0, none⟩) aD.length aI) aQ := (by rw [hw, fC.out]; exact cA.1); clear cA; replace HB := aM ((by rw [hw]; exact below_set (HB.out) bA.out : Below w0.heap.size w0 bI)); replace HK := aM (Kept.of_grown (S := (fun k_ => P0_ k_)) hg (kk HK.out) (fun k_ e_ => (aC.out.1 k_ e_))); replace aC := aM (hp_); clear hg hw hp_; have p9 : 0 ≤ (aA : Int) := dT; have q9 : (aA : Int) < ((aD.length : Int) : Int) := dT; obtain ⟨oC, gH, fU, eF, eG⟩ := Kd.R_elem aC.out z151 (aA : Int) p9 q9; obtain rfl := k151_openM fU; obtain ⟨mI, mJ, mK, mL, mM, mN, mO, mP, mQ, mR, mS, mT, mU, mV, mW, mX⟩ := eS151 (rd_T151 aQ aA) eF eG; clear gH eF eG fU; replace p9 := eq_true p9; replace q9 := eq_true q9; have eH := aM (show Kd.R k151 151 bI w0.heap.size (fun k_ => (P0_ k_ ∨ w.heap.size ≤ k_)) (.slice (some ⟨aG, 0, none⟩) aD.length aI) aQ from (kr aC.out)); obtain ⟨nI, dA, eI, bQ, dB⟩ := Kd.R_elem eH.out z151 (aA : Int) (dT) dT; obtain rfl := k151_openM eI; have cC := Kd.R_seg eH.out (aA : Int) (dT) dT (seg := [.int .i64 (wS (wS (wS (wS aE))))]) (j := 4) dA bQ (show 5 ≤ 8 from by decide) (x' := (⟨(rd_T151 aQ aA).f0, (rd_T151 aQ aA).f1, (⟨(rd_T151 aQ aA).f2.f0, (rd_T151 aQ aA).f2.f1, wS (wS (wS (wS aE))), (rd_T151 aQ aA).f2.f3⟩ : S73), (rd_T151 aQ aA).f3, (rd_T151 aQ aA).f4⟩ : S151)) (k151_mkM _ _ _ _) (fun _ hk => hk); have gU := cJ 8 (bQ 4 _ rfl); have gV := fJ 8 (dB 4); clear dA bQ dB eI) | ((with_reducible refine gate_store (t := 3) (p := 47) rfl ?_); refine store_event (t := 3) (p := 47) (v := ?vo_w23) (w1 := (bI.setCell ⟨aG, (aA : Int).toNat * 8 + 4, none⟩ (.int .i64 (wS (wS (wS (wS aE))))))) ?hg ?ho ?hn ?hr ?_; (case ho => rfl); (case hg => rfl); (case hn => rfl); (case hr => first | (go_simp; done) | (go_simp; rfl) | (obtain ⟨A_, c_, e_⟩ := Kd.R_slice aC.out; subst e_; (first | (go_simp; done) | (go_simp; rfl))) | (obtain ⟨A_, c_, e_⟩ := Kd.S_slice aC.out; subst e_; (first | (go_simp; done) | (go_simp; rfl)))); intro bJ hw; have hg : bI.grownBy bJ (some aG) := (by rw [hw]; exact cC.2); have hp_ : Kd.R k151 151 bJ w0.heap.size (fun k_ => (P0_ k_ ∨ w.heap.size ≤ k_)) (.slice (some ⟨aG, 0, none⟩) aD.length aI) aT := (by rw [hw, fD.out]; exact cC.1); clear cC; replace HB := aM ((by rw [hw]; exact below_set (HB.out) bA.out : Below w0.heap.size w0 bJ)); replace HK := aM (Kept.of_grown (S := (fun k_ => P0_ k_)) hg (kk HK.out) (fun k_ e_ => (aC.out.1 k_ e_))); replace aC := aM (hp_); clear hg hw hp_; have eJ : 0 ≤ (aA : Int) := dT; have eK : (aA : Int) < ((aD.length : Int) : Int) := dT; obtain ⟨nJ, fH, eL, dC, dD⟩ := Kd.R_elem aC.out z151 (aA : Int) eJ eK; obtain rfl := k151_openM eL; obtain ⟨gW, gX, gY, gZ, hD, hH, hJ, hO, hU, hX, hY, hZ, iA, iB, iC, iD⟩ := eS151 (rd_T151 aT aA) dC dD; clear fH dC dD eL; replace eJ := eq_true eJ; replace eK := eq_true eK; have eM := aM (show Kd.R k151 151 bJ w0.heap.size (fun k_ => (P0_ k_ ∨ w.heap.size ≤ k_)) (.slice (some ⟨aG, 0, none⟩) aD.length aI) aT from (kr aC.out)); obtain ⟨nK, dE, eN, bT, dF⟩ := Kd.R_elem eM.out z151 (aA : Int) (dT) dT; obtain rfl := k151_openM eN; have cD := Kd.R_seg eM.out (aA : Int) (dT) dT (seg := [.int .i64 (wS (wS (wS (wS (wS aE)))))]) (j := 5) dE bT (show 6 ≤ 8 from by decide) (x' := (⟨(rd_T151 aT aA).f0, (rd_T151 aT aA).f1, (⟨(rd_T151 aT aA).f2.f0, (rd_T151 aT aA).f2.f1, (rd_T151 aT aA).f2.f2, wS (wS (wS (wS (wS aE))))⟩ : S73), (rd_T151 aT aA).f3, (rd_T151 aT aA).f4⟩ : S151)) (k151_mkM _ _ _ _) (fun _ hk => hk); have iE := cJ 8 (bT 5 _ rfl); have iF := fJ 8 (dF 5); clear dE bT dF eN) | ((with_reducible refine gate_store (t := 3) (p := 55) rfl ?_); refine store_event (t := 3) (p := 55) (v := ?vo_w25) (w1 := (bJ.setCell ⟨aG, (aA : Int).toNat * 8 + 5, none⟩ (.int .i64 (wS (wS (wS (wS (wS aE)))))))) ?hg ?ho ?hn ?hr ?_; (case ho => rfl); (case hg => rfl); (case hn => rfl); (case hr => first | (go_simp; done) | (go_simp; rfl) | (obtain ⟨A_, c_, e_⟩ := Kd.R_slice aC.out; subst e_; (first | (go_simp; done) | (go_simp; rfl))) | (obtain ⟨A_, c_, e_⟩ := Kd.S_slice aC.out; subst e_; (first | (go_simp; done) | (go_simp; rfl)))); intro bK hw; have hg : bJ.grownBy bK (some aG) := (by rw [hw]; exact cD.2); have hp_ : Kd.R k151 151 bK w0.heap.size (fun k_ => (P0_ k_ ∨ w.heap.size ≤ k_)) (.slice (some ⟨aG, 0, none⟩) aD.length aI) aV := (by rw [hw, fE.out]; exact cD.1); clear cD; replace HB := aM ((by rw [hw]; exact below_set (HB.out) bA.out : Below w0.heap.size w0 bK)); replace HK := aM (Kept.of_grown (S := (fun k_ => P0_ k_)) hg (kk HK.out) (fun k_ e_ => (aC.out.1 k_ e_))); replace aC := aM (hp_); clear hg hw hp_; have eO : 0 ≤ (aA : Int) := dT; have eP : (aA : Int) < ((aD.length : Int) : Int) := dT; obtain ⟨nN, fI, eQ, dG, dH⟩ := Kd.R_elem aC.out z151 (aA : Int) eO eP; obtain rfl := k151_openM eQ; obtain ⟨iG, iH, iI, iJ, iK, iL, iM, iN, iO, iP, iQ, iR, iS, iT, iU, iV⟩ := eS151 (rd_T151 aV aA) dG dH; clear fI dG dH eQ; replace eO := eq_true eO; replace eP := eq_true eP; have eR := aM (show Kd.R k151 151 bK w0.heap.size (fun k_ => (P0_ k_ ∨ w.heap.size ≤ k_)) (.slice (some ⟨aG, 0, none⟩) aD.length aI) aV from (kr aC.out)); obtain ⟨nO, dI, eS, bU, dJ⟩ := Kd.R_elem eR.out z151 (aA : Int) (dT) dT; obtain rfl := k151_openM eS; have cE := Kd.R_seg eR.out (aA : Int) (dT) dT (seg := [.int .i64 (wS (wS (wS (wS (wS (wS aE))))))]) (j := 6) dI bU (show 7 ≤ 8 from by decide) (x' := (⟨(rd_T151 aV aA).f0, (rd_T151 aV aA).f1, (⟨(rd_T151 aV aA).f2.f0, (rd_T151 aV aA).f2.f1, (rd_T151 aV aA).f2.f2, (rd_T151 aV aA).f2.f3⟩ : S73), wS (wS (wS (wS (wS (wS aE))))), (rd_T151 aV aA).f4⟩ : S151)) (k151_mkM _ _ _ _) (fun _ hk => hk); have iW := cJ 8 (bU 6 _ rfl); have iX := fJ 8 (dJ 6); clear dI bU dJ eS) | ((with_reducible refine gate_store (t := 3) (p := 62) rfl ?_); refine store_event (t := 3) (p := 62) (v := ?vo_w27) (w1 := (bK.setCell ⟨aG, (aA : Int).toNat * 8 + 6, none⟩ (.int .i64 (wS (wS (wS (wS (wS (wS aE))))))))) ?hg ?ho ?hn ?hr ?_; (case ho => rfl); (case hg => rfl); (case hn => rfl); (case hr => first | (go_simp; done) | (go_simp; rfl) | (obtain ⟨A_, c_, e_⟩ := Kd.R_slice aC.out; subst e_; (first | (go_simp; done) | (go_simp; rfl))) | (obtain ⟨A_, c_, e_⟩ := Kd.S_slice aC.out; subst e_; (first | (go_simp; done) | (go_simp; rfl)))); intro bL hw; have hg : bK.grownBy bL (some aG) := (by rw [hw]; exact cE.2); have hp_ : Kd.R k151 151 bL w0.heap.size (fun k_ => (P0_ k_ ∨ w.heap.size ≤ k_)) (.slice (some ⟨aG, 0, none⟩) aD.length aI) aH := (by rw [hw, fF.out]; exact cE.1); clear cE; replace HB := aM ((by rw [hw]; exact below_set (HB.out) bA.out : Below w0.heap.size w0 bL)); replace HK := aM (Kept.of_grown (S := (fun k_ => P0_ k_)) hg (kk HK.out) (fun k_ e_ => (aC.out.1 k_ e_))); replace aC := aM (hp_); clear hg hw hp_; have eT : 0 ≤ (aA : Int) := dT; have eU : (aA : Int) < ((aD.length : Int) : Int) := dT; obtain ⟨nP, fK, eV, dK, dL⟩ := Kd.R_elem aC.out z151 (aA : Int) eT eU; obtain rfl := k151_openM eV; obtain ⟨iY, iZ, jA, jB, jC, jD, jE, jF, jG, jH, jI, jJ, jK, jL, jM, jN⟩ := eS151 (rd_T151 aH aA) dK dL; clear fK dK dL eV; replace eT := eq_true eT; replace eU := eq_true eU; have eW := aM (show Kd.R k151 151 bL w0.heap.size (fun k_ => (P0_ k_ ∨ w.heap.size ≤ k_)) (.slice (some ⟨aG, 0, none⟩) aD.length aI) aH from (kr aC.out)); obtain ⟨nQ, dM, eX, bV, dN⟩ := Kd.R_elem eW.out z151 (aA : Int) (dT) dT; obtain rfl := k151_openM eX; have cG := Kd.R_seg eW.out (aA : Int) (dT) dT (seg := [.bool ((Int.tmod (wS (wS (wS (wS (wS (wS (wS aE))))))) 3) == 0)]) (j := 7) dM bV (show 8 ≤ 8 from by decide) (x' := (⟨(rd_T151 aH aA).f0, (rd_T151 aH aA).f1, (⟨(rd_T151 aH aA).f2.f0, (rd_T151 aH aA).f2.f1, (rd_T151 aH aA).f2.f2, (rd_T151 aH aA).f2.f3⟩ : S73), (rd_T151 aH aA).f3, ((Int.tmod (wS (wS (wS (wS (wS (wS (wS aE))))))) 3) == 0)⟩ : S151)) (k151_mkM _ _ _ _) (fun _ hk => hk); have jO := cJ 8 (bV 7 _ rfl); have jP := fJ 8 (dN 7); clear dM bV dN eX) | ((with_reducible refine gate_store (t := 4) (p := 71) rfl ?_); refine store_event (t := 4) (p := 71) (v := ?vo_w29) (w1 := (bL.setCell ⟨aG, (aA : Int).toNat * 8 + 7, none⟩ (.bool ((Int.tmod (wS (wS (wS (wS (wS (wS (wS aE))))))) 3) == 0)))) ?hg ?ho ?hn ?hr ?_; (case ho => rfl); (case hg => rfl); (case hn => rfl); (case hr => first | (go_simp; done) | (go_simp; rfl) | (obtain ⟨A_, c_, e_⟩ := Kd.R_slice aC.out; subst e_; (first | (go_simp; done) | (go_simp; rfl))) | (obtain ⟨A_, c_, e_⟩ := Kd.S_slice aC.out; subst e_; (first | (go_simp; done) | (go_simp; rfl)))); intro eY hw; have hg : bL.grownBy eY (some aG) := (by rw [hw]; exact cG.2); have hp_ : Kd.R k151 151 eY w0.heap.size (fun k_ => (P0_ k_ ∨ w.heap.size ≤ k_)) (.slice (some ⟨aG, 0, none⟩) aD.length aI) bW := (by rw [hw, fG.out]; exact cG.1); clear cG; replace HB := aM ((by rw [hw]; exact below_set (HB.out) bA.out : Below w0.heap.size w0 eY)); replace HK := aM (Kept.of_grown (S := (fun k_ => P0_ k_)) hg (kk HK.out) (fun k_ e_ => (aC.out.1 k_ e_))); replace aC := aM (hp_); clear hg hw hp_))
   go_roundg k1
   case measure => have := fL.out; omega
   case rel => exact ⟨(bW), (wS (wS (wS (wS (wS (wS (wS (wS aE)))))))), (wS aA), xE, xE, H', ⟨by have := fL.out; omega⟩, ⟨kr aC.out⟩, ⟨kk HK.out⟩, ⟨bl HB.out⟩⟩

end Go.Proofs.Ythmijfekdeagpaa.PFnExactReact

/- A part of the proof of laws.FnFades. No condition beyond what its theorems say. -/
import Derived.Test.YthmijfekdeagpaaVFnFadesPx1
import Derived.Test.YthmijfekdeagpaaVFnFadesPx10
namespace Go.Proofs.Ythmijfekdeagpaa.PFnFades
open Go.RowKit Go.Proofs.YthmijfekdeagpaaW.PrintWords Go.Proofs.YthmijfekdeagpaaW.PrintLast Go.Proofs.YthmijfekdeagpaaW.PrintMore
set_option linter.unusedVariables false
set_option linter.unusedSimpArgs false

attribute [local go_sem high] eqA73 eqA89
def spec_Own.j0 : Nat → Int → Bool → Int → List (S79) → Option (Int × Int × Int × Int)
 | 0, _, _, _, _ => none
 | k + 1, x1, aE, aA, aC => if aE = true then (some (0, 0, 0, 0)) else ((spec_RootPort.f k aA aC).bind fun aD => (if aD.2 = true then (if 0 ≤ aD.1 then (if aD.1 < (aC.length : Int) then (some ((rd_T79 aC aD.1).f2.f0, wrap64 (((rd_T79 aC aD.1).f2.f1) + 1), aA, x1)) else (none)) else (none)) else (some (aA, 0, aA, x1))))
def spec_Own.f (k : Nat) (aC : Int) (aA : List (S79)) (a1 : Int) : Option (Int × Int × Int × Int) := (spec_BridgeOk.f k aC aA).bind fun aD => (if aD = true then ((spec_l1In.f a1 0 (wrap64 ((aA.length : Int) - 1))).bind fun aE => (spec_Own.j0 k a1 (!aE) aC aA)) else (spec_Own.j0 k a1 true aC aA))
theorem spec_Own.mono_l : ∀ k, (∀ y0 y1 y2 y3, LeO (spec_Own.j0 k y0 y1 y2 y3) (spec_Own.j0 (k + 1) y0 y1 y2 y3))
 | 0 => fun _ _ _ _ r h => by simp [spec_Own.j0] at h
 | k + 1 => by
  have ih0 := spec_Own.mono_l k
  ·intro y0 y1 y2 y3
   unfold spec_Own.j0
   repeat' first|(with_reducible first|apply ih0|apply spec_BridgeOk.mono|apply spec_RootPort.mono|exact lR _|exact lN _|refine lI ?_ ?_|refine lB ?_ fun _ => ?_)|exact lN _|refine lI ?_ ?_|refine lB ?_ fun _ => ?_
theorem spec_Own.mono : ∀ a0 a1 a2 k, LeO (spec_Own.f k a0 a1 a2) (spec_Own.f (k + 1) a0 a1 a2) := by
 intro a0 a1 a2 k
 have ih0 := spec_Own.mono_l k
 unfold spec_Own.f
 repeat' first|(with_reducible first|apply ih0|apply spec_BridgeOk.mono|apply spec_RootPort.mono|exact lR _|exact lN _|refine lI ?_ ?_|refine lB ?_ fun _ => ?_)|exact lN _|refine lI ?_ ?_|refine lB ?_ fun _ => ?_
set_option maxHeartbeats 60000000 in
set_option maxRecDepth 100000 in
theorem spec_Own.calls (k : Nat) (aE : Int) (aI : Option Addr) (aJ : Nat) (aD : List (S79)) (a1 r1 r2 r3 r4 : Int) (w : World) (hr0_1 : Kd.C k79 w aI aD.length aD) (hc0_1 : aD.length ≤ aJ) (h : spec_Own.f k aE aD a1 = some (r1, r2, r3, r4)) :
  Calls Try.prog 41 #[.agg #[aE, .slice aI aD.length aJ], a1] w fun e w' => e = .returned (.agg #[r1, r2, r3, r4]) ∧ Below w.heap.size w w' := by
 have dZ := Try.underlying28
 have eA := Try.underlying73
 have aQ := aM hr0_1
 have bK := aM hc0_1
 clear hr0_1 hc0_1
 have HB := aM (Below.refl w.heap.size w)
 have H : ((spec_BridgeOk.f k aE aD).bind fun bU => (if bU = true then ((spec_l1In.f a1 0 (wrap64 ((aD.length : Int) - 1))).bind fun bN => (spec_Own.j0 k a1 (!bN) aE aD)) else (spec_Own.j0 k a1 true aE aD))) = some (r1, r2, r3, r4) := h
 clear h
 have bZ := aM H
 clear H
 go_enter Try.func41, Try.ntmps41
 go_upto_region 1 with (first | ((with_reducible refine gD (N := 2) rfl ?_); (try (refine gate_guard (by rfl) ?_; dsimp only)); refine bE (N := 2) (cs := #[aE, .slice aI aD.length aJ]) (t := 28) ?_; intro cC hg w4 hbox hb; have aA := aM (hbox); have cP := gF hg HB; have cQ := gF hg HB; replace HB := rS HB hb; clear hb hbox hg) | ((with_reducible refine gD (N := 4) rfl ?_); (try (refine gate_guard (by rfl) ?_; dsimp only)); refine bE (N := 4) (cs := #[.int .i64 0, .int .i64 0, .int .i64 0, .int .i64 0]) (t := 73) ?_; intro bL hg w5 hbox hb; have aC := aM (hbox); have cR := gF hg HB; have cS := gF hg HB; have aG := nM hg aA; have aH := nH hg aA; replace aA := rB aA hb; replace HB := rS HB hb; clear hb hbox hg))
 (try simp only [Act.put, sA, sZ, sS])
 go_cut [19] (fun cO wc => ∃ (kq : Nat) (bM : Bool), cO = .bool bM ∧ Aside0 (spec_Own.j0 kq a1 bM aE aD = some (r1, r2, r3, r4)) ∧ Aside0 (kq ≤ k) ∧ Aside0 (wc.heap[cC]? = some (.cells #[aE, (.slice aI aD.length aJ)] 28 (0, 0))) ∧ Aside0 (wc.heap[bL]? = some (.cells #[.int .i64 0, .int .i64 0, .int .i64 0, .int .i64 0] 73 (0, 0))) ∧ Aside0 (Below w.heap.size w wc))
 case first =>
  have H := bZ.out
  clear bZ
  obtain ⟨bU, cE, H⟩ := hB H
  have A6 := aM cE
  clear cE
  by_cases c7 : bU = true
  case neg =>
   replace c7 := Bool.eq_false_iff.mpr c7
   subst c7
   replace H := hF H
   have H' := aM H
   clear H
   have cT := aG.out
   have cU := aH.out
   have cV := cA2 aA.out
   go_wp2_with (first | ((with_reducible refine gC (f := 46) rfl ?_); refine gL (some 9) Try.func46 #[.agg #[aE, .slice aI aD.length aJ]] ?_; (with_reducible refine (spec_BridgeOk.calls k aE _ _ aD false _ ?side1 ?side2 A6.out).mono ?_); (case side1 => exact cM (cB aQ.out HB.out)); (case side2 => exact bK.out); rintro e eD ⟨rfl, hb⟩; refine ⟨_, rfl, ?_⟩; replace aA := rB aA hb; replace aC := rB aC hb; replace HB := rS HB hb; (try clear hb)))
   go_meet
   case rel => exact ⟨_, (true), xE, H', ⟨by first | omega | exact Nat.le_refl _⟩, ⟨bk aA.out⟩, ⟨bk aC.out⟩, ⟨bl HB.out⟩⟩
  subst c7
  replace H := hP H rfl
  obtain ⟨bN, cG, H⟩ := hB H
  have A8 := aM cG
  clear cG
  have H' := aM H
  clear H
  have eB := aG.out
  have eC := aH.out
  have cW := cA2 aA.out
  go_wp2_with (first | ((with_reducible refine gC (f := 46) rfl ?_); refine gL (some 9) Try.func46 #[.agg #[aE, .slice aI aD.length aJ]] ?_; (with_reducible refine (spec_BridgeOk.calls k aE _ _ aD true _ ?side1 ?side2 A6.out).mono ?_); (case side1 => exact cM (cB aQ.out HB.out)); (case side2 => exact bK.out); rintro e eE ⟨rfl, hb⟩; refine ⟨_, rfl, ?_⟩; replace aA := rB aA hb; replace aC := rB aC hb; replace HB := rS HB hb; (try clear hb); have cX := cA2 aA.out) | (go_at_call 80; (with_reducible refine (spec_l1In.calls a1 0 (wrap64 ((aD.length : Int) - 1)) bN _ A8.out).mono ?_); rintro e w' ⟨rfl, ⟨nd, rfl⟩⟩))
  go_meet
  case rel => exact ⟨_, (!bN), xE, H', ⟨by first | omega | exact Nat.le_refl _⟩, ⟨bk aA.out⟩, ⟨bk aC.out⟩, ⟨bl HB.out⟩⟩
 case rest =>
  clear bZ
  repeat first|clear c1|clear p2|clear c4|clear p6|clear c7|clear c9|clear eF
  obtain ⟨kq, bM, rfl, HA, HJ2, aA, aC, HB⟩ := hcut
  cases kq with
  | zero => exact absurd HA.out (by simp [spec_Own.j0])
  | succ cH =>
   have H := HA.out
   clear HA
   simp only [spec_Own.j0] at H
   by_cases bX : bM = true
   case pos =>
    subst bX
    replace H := hP H rfl
    simp only [Option.some.injEq, Prod.mk.injEq] at H
    obtain ⟨rfl, rfl, rfl, rfl⟩ := H
    have cY := aH.out
    have dA := aG.out
    have dB := cA4 aC.out
    go_wp2
    refine bodyPost_ret (results_cell_row rfl _ _ bL 73 #[.int .i64 0, .int .i64 0, .int .i64 0, .int .i64 0] (0, 0) _ rfl (bm aC.out) Try.underlying73 rfl (by kernel_rfl)) rfl ?_
    exact ⟨xW, bl HB.out⟩
   replace bX := Bool.eq_false_iff.mpr bX
   subst bX
   replace H := hF H
   obtain ⟨⟨aK, cL⟩, cA, H⟩ := hB H
   try dsimp only at H
   have cK := aM cA
   clear cA
   by_cases bY : cL = true
   case neg =>
    replace bY := Bool.eq_false_iff.mpr bY
    subst bY
    replace H := hF H
    simp only [Option.some.injEq, Prod.mk.injEq] at H
    obtain ⟨rfl, rfl, rfl, rfl⟩ := H
    have dC := aG.out
    have dD := aH.out
    have dE := cA2 aA.out
    go_wp2_with (first | ((with_reducible refine gC (f := 36) rfl ?_); refine gL (some 23) Try.func36 #[.agg #[aE, .slice aI aD.length aJ]] ?_; (with_reducible refine (spec_RootPort.calls cH aE _ _ aD aK false _ ?side1 ?side2 cK.out).mono ?_); (case side1 => exact cM (cB aQ.out HB.out)); (case side2 => exact bK.out); rintro e eG ⟨rfl, hb⟩; refine ⟨_, rfl, ?_⟩; replace aA := rB aA hb; replace aC := rB aC hb; replace HB := rS HB hb; (try clear hb); have dF := cA2 aA.out; have dG := cA4 aC.out))
    refine bodyPost_ret (results_cell_row rfl _ _ bL 73 #[aE, .int .i64 0, aE, a1] (0, 0) _ rfl (bm aC.out) Try.underlying73 rfl (by kernel_rfl)) rfl ?_
    exact ⟨xW, bl HB.out⟩
   subst bY
   replace H := hP H rfl
   obtain ⟨dH, H⟩ := gI H
   obtain ⟨dI, H⟩ := gI H
   simp only [Option.some.injEq, Prod.mk.injEq] at H
   obtain ⟨rfl, rfl, rfl, rfl⟩ := H
   have dJ := aG.out
   have dK := aH.out
   have dL := cA2 aA.out
   go_wp2_with (first | ((with_reducible refine gC (f := 36) rfl ?_); refine gL (some 23) Try.func36 #[.agg #[aE, .slice aI aD.length aJ]] ?_; (with_reducible refine (spec_RootPort.calls cH aE _ _ aD aK true _ ?side1 ?side2 cK.out).mono ?_); (case side1 => exact cM (cB aQ.out HB.out)); (case side2 => exact bK.out); rintro e eH ⟨rfl, hb⟩; refine ⟨_, rfl, ?_⟩; replace aA := rB aA hb; replace aC := rB aC hb; replace HB := rS HB hb; (try clear hb); have dM := cA2 aA.out; have bV : 0 ≤ (aK : Int) := dT; have bW : aK < (aD.length : Int) := dT; obtain ⟨dN, cN, aT, aV, aW, aX, bA, bD, bG, bH, bI, bJ, aN⟩ := at_T79 aQ.out aK bV bW; cases cN; replace aT := (HB.out.cell (World.block_lt_of_cell? w _ aT)).trans aT; replace aV := (HB.out.cell (World.block_lt_of_cell? w _ aV)).trans aV; replace aW := (HB.out.cell (World.block_lt_of_cell? w _ aW)).trans aW; replace aX := (HB.out.cell (World.block_lt_of_cell? w _ aX)).trans aX; replace bA := (HB.out.cell (World.block_lt_of_cell? w _ bA)).trans bA; replace bD := (HB.out.cell (World.block_lt_of_cell? w _ bD)).trans bD; replace bG := (HB.out.cell (World.block_lt_of_cell? w _ bG)).trans bG; replace bH := (HB.out.cell (World.block_lt_of_cell? w _ bH)).trans bH; replace bI := (HB.out.cell (World.block_lt_of_cell? w _ bI)).trans bI; replace bJ := (HB.out.cell (World.block_lt_of_cell? w _ bJ)).trans bJ; replace aN := (HB.out.cell (World.block_lt_of_cell? w _ aN)).trans aN; replace bV := eq_true bV; replace bW := eq_true bW) | ((with_reducible refine gD (N := 7) rfl ?_); (try (refine gate_guard (by rfl) ?_; dsimp only)); refine bE (N := 7) (cs := #[.int .i64 0, .int .i64 0, .int .i64 0, .int .i64 0]) (t := 73) ?_; intro dO hg eI hbox hb; have cD := aM (hbox); have dP := gF hg HB; have dQ := gF hg HB; have bO := nM hg aA; have bP := nH hg aA; have bQ := nM hg aC; have bT := nH hg aC; replace aA := rB aA hb; replace aC := rB aC hb; replace HB := rS HB hb; clear hb hbox hg; have dR := bP.out; have dS := bO.out; have dU := bT.out; have dV := bQ.out; have dW := cA4 cD.out; have dX := cA2 aA.out; have dY := cA4 aC.out))
   refine bodyPost_ret (results_cell_row rfl _ _ bL 73 #[((rd_T79 aD aK).f2.f0), .int .i64 (wS ((rd_T79 aD aK).f2.f1)), aE, a1] (0, 0) _ rfl (bm aC.out) Try.underlying73 rfl (by kernel_rfl)) rfl ?_
   exact ⟨xW, bl HB.out⟩

def spec_Hops.f (k : Nat) (aD : Int) (aC : List (S79)) : Option (Int) := (spec_RootPort.f k aD aC).bind fun aA => (if aA.2 = true then (if 0 ≤ aA.1 then (if aA.1 < (aC.length : Int) then (some (wrap64 (((rd_T79 aC aA.1).f3) + 1))) else (none)) else (none)) else (some 0))
theorem spec_Hops.mono : ∀ a0 a1 k, LeO (spec_Hops.f k a0 a1) (spec_Hops.f (k + 1) a0 a1) := by
 intro a0 a1 k
 unfold spec_Hops.f
 repeat' first|(with_reducible first|apply spec_RootPort.mono|exact lR _|exact lN _|refine lI ?_ ?_|refine lB ?_ fun _ => ?_)|exact lN _|refine lI ?_ ?_|refine lB ?_ fun _ => ?_
set_option maxHeartbeats 60000000 in
set_option maxRecDepth 100000 in
theorem spec_Hops.calls (k : Nat) (aD : Int) (aG : Option Addr) (aH : Nat) (aA : List (S79)) (r : Int) (w : World) (hr0_1 : Kd.C k79 w aG aA.length aA) (hc0_1 : aA.length ≤ aH) (h : spec_Hops.f k aD aA = some r) :
  Calls Try.prog 44 #[.agg #[aD, .slice aG aA.length aH]] w fun e w' => e = .returned (.int .i64 r) ∧ Below w.heap.size w w' := by
 have bV := Try.underlying28
 have bH := aM hr0_1
 have bK := aM hc0_1
 clear hr0_1 hc0_1
 have HB := aM (Below.refl w.heap.size w)
 have H : ((spec_RootPort.f k aD aA).bind fun bD => (if bD.2 = true then (if 0 ≤ bD.1 then (if bD.1 < (aA.length : Int) then (some (wS ((rd_T79 aA bD.1).f3))) else (none)) else (none)) else (some 0))) = some r := h
 clear h
 obtain ⟨⟨bG, bP⟩, bO, H⟩ := hB H
 try dsimp only at H
 have A2 := aM bO
 clear bO
 by_cases c3 : bP = true
 case neg =>
  replace c3 := Bool.eq_false_iff.mpr c3
  subst c3
  replace H := hF H
  obtain rfl := Option.some.inj H
  go_enter Try.func44, Try.ntmps44
  go_wp2_with (first | ((with_reducible refine gD (N := 1) rfl ?_); refine bE (N := 1) (cs := #[aD, .slice aG aA.length aH]) (t := 28) ?_; intro bL hg cA hbox hb; have aC := aM (hbox); have bM := gF hg HB; have bN := gF hg HB; replace HB := rS HB hb; clear hb hbox hg; have bT := cA2 aC.out) | ((with_reducible refine gC (f := 36) rfl ?_); refine gL (some 7) Try.func36 #[.agg #[aD, .slice aG aA.length aH]] ?_; (with_reducible refine (spec_RootPort.calls k aD _ _ aA bG false _ ?side1 ?side2 A2.out).mono ?_); (case side1 => exact cM (cB bH.out HB.out)); (case side2 => exact bK.out); rintro e cC ⟨rfl, hb⟩; refine ⟨_, rfl, ?_⟩; replace aC := rB aC hb; replace HB := rS HB hb; (try clear hb)))
  go_ret
  exact ⟨xW, bl HB.out⟩
 subst c3
 replace H := hP H rfl
 obtain ⟨bW, H⟩ := gI H
 obtain ⟨bX, H⟩ := gI H
 obtain rfl := Option.some.inj H
 go_enter Try.func44, Try.ntmps44
 go_wp2_with (first | ((with_reducible refine gD (N := 1) rfl ?_); refine bE (N := 1) (cs := #[aD, .slice aG aA.length aH]) (t := 28) ?_; intro bL hg w6 hbox hb; have aC := aM (hbox); have bM := gF hg HB; have bN := gF hg HB; replace HB := rS HB hb; clear hb hbox hg; have bY := cA2 aC.out) | ((with_reducible refine gC (f := 36) rfl ?_); refine gL (some 7) Try.func36 #[.agg #[aD, .slice aG aA.length aH]] ?_; (with_reducible refine (spec_RootPort.calls k aD _ _ aA bG true _ ?side1 ?side2 A2.out).mono ?_); (case side1 => exact cM (cB bH.out HB.out)); (case side2 => exact bK.out); rintro e w8 ⟨rfl, hb⟩; refine ⟨_, rfl, ?_⟩; replace aC := rB aC hb; replace HB := rS HB hb; (try clear hb); have bZ := cA2 aC.out; have bI : 0 ≤ (bG : Int) := dT; have bJ : bG < (aA.length : Int) := dT; obtain ⟨bU, bQ, aI, aJ, aK, aN, aQ, aT, aV, aW, aX, bA, aE⟩ := at_T79 bH.out bG bI bJ; cases bQ; replace aI := (HB.out.cell (World.block_lt_of_cell? w _ aI)).trans aI; replace aJ := (HB.out.cell (World.block_lt_of_cell? w _ aJ)).trans aJ; replace aK := (HB.out.cell (World.block_lt_of_cell? w _ aK)).trans aK; replace aN := (HB.out.cell (World.block_lt_of_cell? w _ aN)).trans aN; replace aQ := (HB.out.cell (World.block_lt_of_cell? w _ aQ)).trans aQ; replace aT := (HB.out.cell (World.block_lt_of_cell? w _ aT)).trans aT; replace aV := (HB.out.cell (World.block_lt_of_cell? w _ aV)).trans aV; replace aW := (HB.out.cell (World.block_lt_of_cell? w _ aW)).trans aW; replace aX := (HB.out.cell (World.block_lt_of_cell? w _ aX)).trans aX; replace bA := (HB.out.cell (World.block_lt_of_cell? w _ bA)).trans bA; replace aE := (HB.out.cell (World.block_lt_of_cell? w _ aE)).trans aE; replace bI := eq_true bI; replace bJ := eq_true bJ))
 go_ret
 exact ⟨xW, bl HB.out⟩

def spec_l8Copy.f (aD : Int) (aA : List (S79)) : Option (Int × (List (S79))) := (some (([] : List (S79)) : List (S79))).bind fun aC => (if aC.length + aA.length < 1759218604441 then (some (aD, (aC ++ aA))) else (none))
def spec_l8Copy.T1 : Bool × List (List Nat × List Nat) := (true, [([], []), ([0], [0]), ([], []), ([], []), ([3], [3]), ([2, 4], [2, 4]), ([1, 5], [1, 5]), ([6, 5, 0, 1, 2, 3, 4, 5, 6], [6])])
def spec_l8Copy.B1 : List Nat := [0, 1, 0, 0, 8, 28, 63, 127]
theorem spec_l8Copy.tab1 : rtab .any (opsOf Try.f67 1) = spec_l8Copy.T1 := by kernel_rfl
theorem spec_l8Copy.bits1 : waitsOk spec_l8Copy.T1.2 spec_l8Copy.B1 = true := by kernel_rfl
set_option maxHeartbeats 60000000 in
set_option maxRecDepth 100000 in
theorem spec_l8Copy.calls (aE : Int) (aN : Option Addr) (aQ : Nat) (aD : List (S79)) (r1 : Int) (r2 : List (S79)) (w : World) (hr0_1 : Kd.C k79 w aN aD.length aD) (hc0_1 : aD.length ≤ aQ) (h : spec_l8Copy.f aE aD = some (r1, r2)) :
  Calls Try.prog 67 #[.agg #[aE, .slice aN aD.length aQ]] w fun e w' => ∃ bI : Value, e = .returned (.agg #[r1, bI]) ∧ Kd.R k79 79 w' w.heap.size (fun _ => True) bI r2 ∧ Below w.heap.size w w' := by
 have bU := Try.underlying28
 have bD := aM hr0_1
 have bN := aM hc0_1
 clear hr0_1 hc0_1
 have HB := aM (Below.refl w.heap.size w)
 have H : ((some (([] : List (S79)) : List (S79))).bind fun aH => (if aH.length + aD.length < 1759218604441 then (some (aE, (aH ++ aD))) else (none))) = some (r1, r2) := h
 clear h
 obtain ⟨aH, aW, H⟩ := hS H
 have aX := aM aW
 clear aW
 by_cases c2 : aH.length + aD.length < 1759218604441
 case neg =>
  rw [if_neg c2] at H
  exact absurd H (by simp)
 rw [if_pos c2] at H
 have LMc2 := aM c2
 clear c2
 obtain ⟨aV, aG⟩ : ∃ y_ : List (S79), y_ = (aH ++ aD) := ⟨_, rfl⟩
 replace H : (some (aE, aV)) = some (r1, r2) := by first | (rw [aG]; with_reducible exact H) | (have H2_ := (Option.bind_some _ _).symm.trans H; rw [aG]; with_reducible exact H2_) | (have H2_ := (Option.bind_some _ _).symm.trans H; with_reducible exact H2_) | with_reducible exact H | (rw [aG]; exact H) | exact H
 have bG := aM aG
 clear aG
 simp only [Option.some.injEq, Prod.mk.injEq] at H
 obtain ⟨rfl, rfl⟩ := H
 go_enter Try.func67, Try.ntmps67
 try go_wp2_with (first | ((with_reducible refine gD (N := 1) rfl ?_); refine bE (N := 1) (cs := #[aE, .slice aN aD.length aQ]) (t := 28) ?_; intro bH hg w3 hbox hb; have aA := aM (hbox); have bO := gF hg HB; have bP := gF hg HB; replace HB := rS HB hb; clear hb hbox hg) | ((with_reducible refine gD (N := 2) rfl ?_); refine bE (N := 2) (cs := #[.int .i64 0, .slice none 0 0]) (t := 28) ?_; intro aT hg w4 hbox hb; have aC := aM (hbox); have bQ := gF hg HB; have bT := gF hg HB; have aI := nM hg aA; have aJ := nH hg aA; replace aA := rB aA hb; replace HB := rS HB hb; clear hb hbox hg))
 replace aA := aM (blk_drew aA.out)
 replace aC := aM (blk_drew aC.out)
 replace HB := aM (below_drew1 HB.out)
 refine start_ (n := 8) (S := fun w' => cS2 w' bH (.int .i64 aE) (.slice aN aD.length aQ)) (ds := []) (dn 8 0) (by kernel_rfl) rfl rfl ⟨cI aA.out 0, cI aA.out 1⟩ (fun hHeld => ?_); refine with_tabW spec_l8Copy.tab1 spec_l8Copy.bits1 (fun HT_ HW_ => ?_)
 generalize w4.drew = w5 at aA aC HB hHeld ⊢
 refine nY (N := some 3) HT_ ?_
 refine pZ 3 6 (bv 8 9) HT_ ?_
 refine aZ 1 4 (bv 8 11) HT_ HW_ hHeld ?_
 refine aZ 4 7 (bv 8 27) HT_ HW_ hHeld ?_
 refine one_ (i := 2) (N := some 5) (bv 8 31) rfl rfl (one_of HT_.out (by kernel_rfl)) (by decide) (fun K hK => ?_)
 refine Kd.R_lit_step k79 _ 79 ?hg (N := 5) ?hd (xs := ([] : List (S79))) (inner := []) (ok := fun _ => True) (okp := fun _ => True) ?hr ?hp (fun _ hk => hk) trivial (Below.refl _ _) (Nat.le_refl _) (by simp) ?_; (case hd => rfl); (case hg => rfl); (case hr => first | (go_simp; done) | (go_simp; rfl)); (case hp => exact (Reps.none _ _))
 intro bM w6 ho7 hb hg_ hnew_
 clear hg_ hnew_
 (first | rw [← aX.out] at ho7 | (simp only [Int.reduceToNat] at ho7; rw [← aX.out] at ho7))
 have aK := aM (Kd.R_lower ho7 (below_size (bl HB.out)))
 replace aA := rB aA hb
 replace aC := rB aC hb
 replace HB := rS HB hb
 clear hb ho7
 refine hK.out _ _ ⟨cI aA.out 0, cI aA.out 1⟩ (fun hHeld => ?_)
 clear hK K
 refine norm_ (a' := ?_) ?_ ?_
 rotate_left
 ·show Act.put _ (some 5) _ = _
  simp only [Act.put, sA, sZ, sS, i64_w, i32_w]
  rfl
 refine one_ (i := 5) (N := some 8) (bv 8 63) rfl rfl (one_of HT_.out (by kernel_rfl)) (by decide) (fun K hK => ?_)
 refine Kd.R_append_rows_step k79 (w0 := w) w.heap.size (by rfl) (.tmp 5) (.tmp 7) 26 79 (.agg #[(.bool false), (.bool false), (.int .i64 0), (.int .i64 0), (.int .i64 0), (.int .i64 0), (.int .i64 0), (.int .i64 0), (.int .i64 0), (.int .i64 0), (.bool false)]) 80 rfl Try.underlying26 info79 rfl (by decide) (by omega) bM aH aD _ _ _ (fun _ => True) (fun _ => False) rfl rfl ?aO ?aR (fun _ _ h => h) (fun _ h => h.elim) ?aF ?aB ?aS ?aL ?_
 (case aR => repeat (first | exact (cB bD.out HB.out) | (with_reducible refine Kd.C_alloc ?_ _) | (with_reducible refine Kd.C_drewN ?_ _) | (with_reducible refine Kd.C_drew ?_)))
 (case aB => exact (bl HB.out))
 (case aF => exact (fun _ _ => trivial))
 (case aO => exact (kr aK.out))
 (case aS => exact (below_size (bl HB.out)))
 (case aL => have := LMc2.out; omega)
 intro bV w8 ho hb hg hat
 rw [← bG.out] at ho
 have bA := aM (ho)
 replace aA := aM (blk_grown (bk aA.out) hg (Kd.R_ne aK.out aA.out (by decide)))
 replace aC := aM (blk_grown (bk aC.out) hg (Kd.R_ne aK.out aC.out (by decide)))
 replace HB := aM (hb)
 clear aK
 clear ho hb hg hat
 obtain ⟨bJ, bK, bL⟩ := Kd.R_slice bA.out
 (first | subst bL | (injection bL with f1_ f2_ f3_; have f4_ := f1_.symm; have f5_ := f3_.symm; clear f1_ f2_ f3_; subst f4_; subst f5_))
 refine hK.out _ _ ⟨cI aA.out 0, cI aA.out 1⟩ (fun hHeld => ?_)
 clear hK K
 refine norm_ (a' := ?_) ?_ ?_
 rotate_left
 ·show Act.put _ (some 8) _ = _
  simp only [Act.put, sA, sZ, sS, i64_w, i32_w]
  rfl
 refine pZ 6 9 (bv 8 127) HT_ ?_
 refine one_ (i := 7) (N := none) (bv 8 255) rfl rfl (one_of HT_.out (by kernel_rfl)) (by decide) (fun K hK => ?_)
 have bW := cI aC.out 0
 have hfs10 := bF aC.out 0
 have hns10_0 := aI.out
 have hms10_0 := aJ.out
 have bX := cI aC.out 1
 have hfs11 := bF aC.out 1
 have hns11_0 := aI.out
 have hms11_0 := aJ.out
 refine skip_ (w1 := ?_) (by rfl) rfl ?_ ?_
 rotate_left
 ·go_simp
  rfl
 refine hK.out _ _ ⟨(cm (hHeld.1)), (cm (hHeld.2))⟩ (fun hHeld => ?_)
 clear hK K
 refine done_ (done_of HT_.out (by kernel_rfl)) ?_
 try go_wp2
 refine bodyPost_ret (results_cell_row rfl _ _ aT 28 #[aE, .slice bJ aV.length bK] (0, 0) _ rfl (bm aC.out) Try.underlying28 rfl (by kernel_rfl)) rfl ?_
 exact ⟨_, xW, by (with_reducible repeat (first | apply Kd.R_alloc | apply Kd.R_drewN | apply Kd.R_drew)); exact Kd.R_mono (kF (p := ⟨aT, 1, none⟩) (kF (p := ⟨aT, 0, none⟩) (Kd.R_types bA.out aC.out (by decide)) (fun _ hk => hk.2) (.int .i64 aE)) (fun _ hk => hk.2) (.slice bJ aV.length bK)) (fun _ hk => trivial), bl HB.out⟩

def spec_InOk.f (aA aC aD aE aG aH aI : Int) (aJ : Bool) : Option (Bool) := if aA = 1 then ((spec_l1In.f aC 0 3).bind fun aK => (if aK = true then ((spec_VecOk.f aD aE aG aH).bind fun aN => (if aN = true then ((spec_l1In.f aI 0 8).bind fun aQ => (if aQ = true then (some (!aJ)) else (some false))) else (some false))) else (some false))) else (if aA = 3 then ((spec_l1In.f aC 0 3).bind fun aT => (if aT = true then (if (aD == 0 && (aE == 0 && (aG == 0 && (aH == 0)))) = true then (some (aI == 0)) else (some false)) else (some false))) else (if aA = 2 then (some (aA == 2 && (aC == 0 && ((aD == 0 && (aE == 0 && (aG == 0 && (aH == 0)))) && (aI == 0 && (!aJ)))))) else (some false)))
set_option maxHeartbeats 60000000 in
set_option maxRecDepth 100000 in
theorem spec_InOk.calls (aC aD aE aG aH aI aJ : Int) (aK r : Bool) (w : World) (h : spec_InOk.f aC aD aE aG aH aI aJ aK = some r) :
  Calls Try.prog 132 #[.agg #[aC, aD, aE, aG, aH, aI, aJ, aK]] w fun e w' => e = .returned (.bool r) ∧ Below w.heap.size w w' := by
 have cQ := Try.underlying89
 have cR := Try.underlying73
 have HB := aM (Below.refl w.heap.size w)
 have H : (if aC = 1 then ((spec_l1In.f aD 0 3).bind fun bA => (if bA = true then ((spec_VecOk.f aE aG aH aI).bind fun bD => (if bD = true then ((spec_l1In.f aJ 0 8).bind fun bG => (if bG = true then (some (!aK)) else (some false))) else (some false))) else (some false))) else (if aC = 3 then ((spec_l1In.f aD 0 3).bind fun bH => (if bH = true then (if (aE == 0 && (aG == 0 && (aH == 0 && (aI == 0)))) = true then (some (aJ == 0)) else (some false)) else (some false))) else (if aC = 2 then (some (aC == 2 && (aD == 0 && ((aE == 0 && (aG == 0 && (aH == 0 && (aI == 0)))) && (aJ == 0 && (!aK)))))) else (some false)))) = some r := h
 clear h
 by_cases c2 : aC = 1
 case neg =>
  rw [if_neg c2] at H
  have bX : (aC == 1) = false := beq_eq_false_iff_ne.mpr c2
  have bY : (aC != 1) = true := bne_iff_ne.mpr c2
  by_cases aW : aC = 3
  case neg =>
   rw [if_neg aW] at H
   have bL : (aC == 3) = false := beq_eq_false_iff_ne.mpr aW
   have bM : (aC != 3) = true := bne_iff_ne.mpr aW
   by_cases aX : aC = 2
   case neg =>
    rw [if_neg aX] at H
    have bN : (aC == 2) = false := beq_eq_false_iff_ne.mpr aX
    have bO : (aC != 2) = true := bne_iff_ne.mpr aX
    obtain rfl := Option.some.inj H
    go_enter Try.func132, Try.ntmps132
    go_wp2_with (first | ((with_reducible refine gD (N := 1) rfl ?_); refine bE (N := 1) (cs := #[aC, aD, aE, aG, aH, aI, aJ, aK]) (t := 89) ?_; intro aN hg cS hbox hb; have aA := aM (hbox); have aQ := gF hg HB; have aT := gF hg HB; replace HB := rS HB hb; clear hb hbox hg; have bZ := cA8 aA.out))
    go_ret
    exact ⟨xW, bl HB.out⟩
   rw [if_pos aX] at H
   have bN : (aC == 2) = true := beq_iff_eq.mpr aX
   have bO : (aC != 2) = false := bne_eq_false_iff_eq.mpr aX
   clear aX
   obtain rfl := Option.some.inj H
   go_enter Try.func132, Try.ntmps132
   go_wp2_with (first | ((with_reducible refine gD (N := 1) rfl ?_); refine bE (N := 1) (cs := #[aC, aD, aE, aG, aH, aI, aJ, aK]) (t := 89) ?_; intro aN hg cT hbox hb; have aA := aM (hbox); have aQ := gF hg HB; have aT := gF hg HB; replace HB := rS HB hb; clear hb hbox hg; have cA := cA8 aA.out))
   go_ret
   exact ⟨xW, bl HB.out⟩
  rw [if_pos aW] at H
  have bL : (aC == 3) = true := beq_iff_eq.mpr aW
  have bM : (aC != 3) = false := bne_eq_false_iff_eq.mpr aW
  clear aW
  obtain ⟨bH, bJ, H⟩ := hB H
  have bK := aM bJ
  clear bJ
  by_cases bI : bH = true
  case neg =>
   replace bI := Bool.eq_false_iff.mpr bI
   subst bI
   replace H := hF H
   obtain rfl := Option.some.inj H
   go_enter Try.func132, Try.ntmps132
   go_wp2_with (first | ((with_reducible refine gD (N := 1) rfl ?_); refine bE (N := 1) (cs := #[aC, aD, aE, aG, aH, aI, aJ, aK]) (t := 89) ?_; intro aN hg cU hbox hb; have aA := aM (hbox); have aQ := gF hg HB; have aT := gF hg HB; replace HB := rS HB hb; clear hb hbox hg; have cC := cA8 aA.out) | ((with_reducible refine gC (f := 80) rfl ?_); refine gL (some 29) Try.func80 #[aD, .int .i64 0, .int .i64 3] ?_; (with_reducible refine (spec_l1In.calls aD 0 3 false _ bK.out).mono ?_); rintro e w' ⟨rfl, ⟨nd, rfl⟩⟩; refine ⟨_, rfl, ?_⟩))
   go_ret
   exact ⟨xW, bl HB.out⟩
  subst bI
  replace H := hP H rfl
  by_cases aV : (aE == 0 && (aG == 0 && (aH == 0 && (aI == 0)))) = true
  case pos =>
   rw [if_pos aV] at H
   have bP : (aE == 0 && (aG == 0 && (aH == 0 && (aI == 0)))) = true := aV
   (try (have bQ : decide (aE = 0 && (aG == 0 && (aH == 0 && (aI == 0)))) = true := by simpa using aV))
   (try (have bT : (aE == 0 && (aG == 0 && (aH == 0 && (aI == 0)))) = true := by simpa using aV))
   clear aV
   obtain rfl := Option.some.inj H
   go_enter Try.func132, Try.ntmps132
   go_wp2_with (first | ((with_reducible refine gD (N := 1) rfl ?_); refine bE (N := 1) (cs := #[aC, aD, aE, aG, aH, aI, aJ, aK]) (t := 89) ?_; intro aN hg cV hbox hb; have aA := aM (hbox); have aQ := gF hg HB; have aT := gF hg HB; replace HB := rS HB hb; clear hb hbox hg; have cD := cA8 aA.out) | ((with_reducible refine gC (f := 80) rfl ?_); refine gL (some 29) Try.func80 #[aD, .int .i64 0, .int .i64 3] ?_; (with_reducible refine (spec_l1In.calls aD 0 3 true _ bK.out).mono ?_); rintro e w' ⟨rfl, ⟨nd, rfl⟩⟩; refine ⟨_, rfl, ?_⟩))
   go_ret
   exact ⟨xW, bl HB.out⟩
  rw [if_neg aV] at H
  have bP : (aE == 0 && (aG == 0 && (aH == 0 && (aI == 0)))) = false := by simpa using aV
  (try (have bQ : decide (aE = 0 && (aG == 0 && (aH == 0 && (aI == 0)))) = false := by simpa using aV))
  (try (have bT : (aE == 0 && (aG == 0 && (aH == 0 && (aI == 0)))) = false := by simpa using aV))
  (try (have cE : ¬ (aE = 0 && (aG == 0 && (aH == 0 && (aI == 0)))) := by simpa using aV))
  clear aV
  obtain rfl := Option.some.inj H
  go_enter Try.func132, Try.ntmps132
  go_wp2_with (first | ((with_reducible refine gD (N := 1) rfl ?_); refine bE (N := 1) (cs := #[aC, aD, aE, aG, aH, aI, aJ, aK]) (t := 89) ?_; intro aN hg cW hbox hb; have aA := aM (hbox); have aQ := gF hg HB; have aT := gF hg HB; replace HB := rS HB hb; clear hb hbox hg; have cG := cA8 aA.out) | ((with_reducible refine gC (f := 80) rfl ?_); refine gL (some 29) Try.func80 #[aD, .int .i64 0, .int .i64 3] ?_; (with_reducible refine (spec_l1In.calls aD 0 3 true _ bK.out).mono ?_); rintro e w' ⟨rfl, ⟨nd, rfl⟩⟩; refine ⟨_, rfl, ?_⟩))
  go_ret
  exact ⟨xW, bl HB.out⟩
 rw [if_pos c2] at H
 have bX : (aC == 1) = true := beq_iff_eq.mpr c2
 have bY : (aC != 1) = false := bne_eq_false_iff_eq.mpr c2
 clear c2
 obtain ⟨bA, bU, H⟩ := hB H
 have A3 := aM bU
 clear bU
 by_cases c4 : bA = true
 case neg =>
  replace c4 := Bool.eq_false_iff.mpr c4
  subst c4
  replace H := hF H
  obtain rfl := Option.some.inj H
  go_enter Try.func132, Try.ntmps132
  go_wp2_with (first | ((with_reducible refine gD (N := 1) rfl ?_); refine bE (N := 1) (cs := #[aC, aD, aE, aG, aH, aI, aJ, aK]) (t := 89) ?_; intro aN hg cX hbox hb; have aA := aM (hbox); have aQ := gF hg HB; have aT := gF hg HB; replace HB := rS HB hb; clear hb hbox hg; have cH := cA8 aA.out) | ((with_reducible refine gC (f := 80) rfl ?_); refine gL (some 9) Try.func80 #[aD, .int .i64 0, .int .i64 3] ?_; (with_reducible refine (spec_l1In.calls aD 0 3 false _ A3.out).mono ?_); rintro e w' ⟨rfl, ⟨nd, rfl⟩⟩; refine ⟨_, rfl, ?_⟩))
  go_ret
  exact ⟨xW, bl HB.out⟩
 subst c4
 replace H := hP H rfl
 obtain ⟨bD, bV, H⟩ := hB H
 have A5 := aM bV
 clear bV
 by_cases c6 : bD = true
 case neg =>
  replace c6 := Bool.eq_false_iff.mpr c6
  subst c6
  replace H := hF H
  obtain rfl := Option.some.inj H
  go_enter Try.func132, Try.ntmps132
  go_wp2_with (first | ((with_reducible refine gD (N := 1) rfl ?_); refine bE (N := 1) (cs := #[aC, aD, aE, aG, aH, aI, aJ, aK]) (t := 89) ?_; intro aN hg cY hbox hb; have aA := aM (hbox); have aQ := gF hg HB; have aT := gF hg HB; replace HB := rS HB hb; clear hb hbox hg; have cK := cA8 aA.out) | ((with_reducible refine gC (f := 80) rfl ?_); refine gL (some 9) Try.func80 #[aD, .int .i64 0, .int .i64 3] ?_; (with_reducible refine (spec_l1In.calls aD 0 3 true _ A3.out).mono ?_); rintro e w' ⟨rfl, ⟨nd, rfl⟩⟩; refine ⟨_, rfl, ?_⟩) | (go_at_call 181; (with_reducible refine (spec_VecOk.calls aE aG aH aI false _ A5.out).mono ?_); rintro e dA ⟨rfl, hb⟩; replace aA := rB aA hb; replace HB := rS HB hb; (try clear hb)))
  go_ret
  exact ⟨xW, bl HB.out⟩
 subst c6
 replace H := hP H rfl
 obtain ⟨bG, bW, H⟩ := hB H
 have A7 := aM bW
 clear bW
 by_cases c8 : bG = true
 case pos =>
  subst c8
  replace H := hP H rfl
  obtain rfl := Option.some.inj H
  go_enter Try.func132, Try.ntmps132
  go_wp2_with (first | ((with_reducible refine gD (N := 1) rfl ?_); refine bE (N := 1) (cs := #[aC, aD, aE, aG, aH, aI, aJ, aK]) (t := 89) ?_; intro aN hg w9 hbox hb; have aA := aM (hbox); have aQ := gF hg HB; have aT := gF hg HB; replace HB := rS HB hb; clear hb hbox hg; have cL := cA8 aA.out) | ((with_reducible refine gC (f := 80) rfl ?_); refine gL (some 9) Try.func80 #[aD, .int .i64 0, .int .i64 3] ?_; (with_reducible refine (spec_l1In.calls aD 0 3 true _ A3.out).mono ?_); rintro e w' ⟨rfl, ⟨nd, rfl⟩⟩; refine ⟨_, rfl, ?_⟩) | (go_at_call 181; (with_reducible refine (spec_VecOk.calls aE aG aH aI true _ A5.out).mono ?_); rintro e dB ⟨rfl, hb⟩; replace aA := rB aA hb; replace HB := rS HB hb; (try clear hb); have cN := cA8 aA.out) | (go_at_call 80; (with_reducible refine (spec_l1In.calls aJ 0 8 true _ A7.out).mono ?_); rintro e w' ⟨rfl, ⟨nd, rfl⟩⟩))
  go_ret
  exact ⟨xW, bl HB.out⟩
 replace c8 := Bool.eq_false_iff.mpr c8
 subst c8
 replace H := hF H
 obtain rfl := Option.some.inj H
 go_enter Try.func132, Try.ntmps132
 go_wp2_with (first | ((with_reducible refine gD (N := 1) rfl ?_); refine bE (N := 1) (cs := #[aC, aD, aE, aG, aH, aI, aJ, aK]) (t := 89) ?_; intro aN hg dC hbox hb; have aA := aM (hbox); have aQ := gF hg HB; have aT := gF hg HB; replace HB := rS HB hb; clear hb hbox hg; have cO := cA8 aA.out) | ((with_reducible refine gC (f := 80) rfl ?_); refine gL (some 9) Try.func80 #[aD, .int .i64 0, .int .i64 3] ?_; (with_reducible refine (spec_l1In.calls aD 0 3 true _ A3.out).mono ?_); rintro e w' ⟨rfl, ⟨nd, rfl⟩⟩; refine ⟨_, rfl, ?_⟩) | (go_at_call 181; (with_reducible refine (spec_VecOk.calls aE aG aH aI true _ A5.out).mono ?_); rintro e dD ⟨rfl, hb⟩; replace aA := rB aA hb; replace HB := rS HB hb; (try clear hb); have cP := cA8 aA.out) | (go_at_call 80; (with_reducible refine (spec_l1In.calls aJ 0 8 false _ A7.out).mono ?_); rintro e w' ⟨rfl, ⟨nd, rfl⟩⟩))
 go_ret
 exact ⟨xW, bl HB.out⟩

def spec_l7Open.f (aD aE : Bool) (aG aH aI aJ aK aN aA aC : Int) (aQ : Bool) : Option (Bool × Bool × Int × Int × Int × Int × Int × Int × Int × Int × Bool) := if aA = 1 then (some (aD, aE, aG, aH, aI, aJ, aK, aN, aA, aC, (aC == 0))) else (if aA = 2 then (some (aD, aE, aG, aH, aI, aJ, aK, aN, aA, aC, (aC == 0))) else (some (aD, aE, aG, aH, aI, aJ, aK, aN, aA, aC, false)))
set_option maxHeartbeats 60000000 in
set_option maxRecDepth 100000 in
theorem spec_l7Open.calls (aH aI : Bool) (aJ aK aN aQ aT aV aA aD : Int) (aX r1 r2 : Bool) (r3 r4 r5 r6 r7 r8 r9 bK : Int) (bL : Bool) (w : World) (h : spec_l7Open.f aH aI aJ aK aN aQ aT aV aA aD aX = some (r1, r2, r3, r4, r5, r6, r7, r8, r9, bK, bL)) :
  Calls Try.prog 142 #[.agg #[aH, aI, aJ, aK, aN, aQ, aT, aV, aA, aD, aX]] w fun e w' => e = .returned (.agg #[r1, r2, r3, r4, r5, r6, r7, r8, r9, bK, bL]) ∧ Below w.heap.size w w' := by
 have cA := Try.underlying79
 have HB := aM (Below.refl w.heap.size w)
 have H : (if aA = 1 then (some (aH, aI, aJ, aK, aN, aQ, aT, aV, aA, aD, (aD == 0))) else (if aA = 2 then (some (aH, aI, aJ, aK, aN, aQ, aT, aV, aA, aD, (aD == 0))) else (some (aH, aI, aJ, aK, aN, aQ, aT, aV, aA, aD, false)))) = some (r1, r2, r3, r4, r5, r6, r7, r8, r9, bK, bL) := h
 clear h
 by_cases c2 : aA = 1
 case pos =>
  rw [if_pos c2] at H
  have bM : (aA == 1) = true := beq_iff_eq.mpr c2
  have bN : (aA != 1) = false := bne_eq_false_iff_eq.mpr c2
  clear c2
  simp only [Option.some.injEq, Prod.mk.injEq] at H
  obtain ⟨rfl, rfl, rfl, rfl, rfl, rfl, rfl, rfl, rfl, rfl, rfl⟩ := H
  go_enter Try.func142, Try.ntmps142
  go_wp2_with (first | ((with_reducible refine gD (N := 1) rfl ?_); refine bE (N := 1) (cs := #[aH, aI, aJ, aK, aN, aQ, aT, aV, aA, aD, aX]) (t := 79) ?_; intro bD hg w3 hbox hb; have aC := aM (hbox); have bG := gF hg HB; have bH := gF hg HB; replace HB := rS HB hb; clear hb hbox hg) | ((with_reducible refine gD (N := 2) rfl ?_); refine bE (N := 2) (cs := #[.bool false, .bool false, .int .i64 0, .int .i64 0, .int .i64 0, .int .i64 0, .int .i64 0, .int .i64 0, .int .i64 0, .int .i64 0, .bool false]) (t := 79) ?_; intro bA hg w4 hbox hb; have aW := aM (hbox); have bI := gF hg HB; have bJ := gF hg HB; have aE := nM hg aC; have aG := nH hg aC; replace aC := rB aC hb; replace HB := rS HB hb; clear hb hbox hg; have cC := aE.out; have cD := aG.out; have cE := cA11 aC.out; have cG := cA11 aW.out))
  refine bodyPost_ret (results_cell_row rfl _ _ bA 79 #[aH, aI, aJ, aK, aN, aQ, aT, aV, aA, aD, .bool (aD == 0)] (0, 0) _ rfl (bm aW.out) Try.underlying79 rfl (by kernel_rfl)) rfl ?_
  exact ⟨xW, bl HB.out⟩
 rw [if_neg c2] at H
 have bM : (aA == 1) = false := beq_eq_false_iff_ne.mpr c2
 have bN : (aA != 1) = true := bne_iff_ne.mpr c2
 by_cases c8 : aA = 2
 case neg =>
  rw [if_neg c8] at H
  have bO : (aA == 2) = false := beq_eq_false_iff_ne.mpr c8
  have bP : (aA != 2) = true := bne_iff_ne.mpr c8
  simp only [Option.some.injEq, Prod.mk.injEq] at H
  obtain ⟨rfl, rfl, rfl, rfl, rfl, rfl, rfl, rfl, rfl, rfl, rfl⟩ := H
  go_enter Try.func142, Try.ntmps142
  go_wp2_with (first | ((with_reducible refine gD (N := 1) rfl ?_); refine bE (N := 1) (cs := #[aH, aI, aJ, aK, aN, aQ, aT, aV, aA, aD, aX]) (t := 79) ?_; intro bD hg cH hbox hb; have aC := aM (hbox); have bG := gF hg HB; have bH := gF hg HB; replace HB := rS HB hb; clear hb hbox hg) | ((with_reducible refine gD (N := 2) rfl ?_); refine bE (N := 2) (cs := #[.bool false, .bool false, .int .i64 0, .int .i64 0, .int .i64 0, .int .i64 0, .int .i64 0, .int .i64 0, .int .i64 0, .int .i64 0, .bool false]) (t := 79) ?_; intro bA hg cK hbox hb; have aW := aM (hbox); have bI := gF hg HB; have bJ := gF hg HB; have aE := nM hg aC; have aG := nH hg aC; replace aC := rB aC hb; replace HB := rS HB hb; clear hb hbox hg; have bQ := aE.out; have bT := aG.out; have bU := cA11 aC.out; have bV := cA11 aW.out))
  refine bodyPost_ret (results_cell_row rfl _ _ bA 79 #[aH, aI, aJ, aK, aN, aQ, aT, aV, aA, aD, .bool false] (0, 0) _ rfl (bm aW.out) Try.underlying79 rfl (by kernel_rfl)) rfl ?_
  exact ⟨xW, bl HB.out⟩
 rw [if_pos c8] at H
 have bO : (aA == 2) = true := beq_iff_eq.mpr c8
 have bP : (aA != 2) = false := bne_eq_false_iff_eq.mpr c8
 clear c8
 simp only [Option.some.injEq, Prod.mk.injEq] at H
 obtain ⟨rfl, rfl, rfl, rfl, rfl, rfl, rfl, rfl, rfl, rfl, rfl⟩ := H
 go_enter Try.func142, Try.ntmps142
 go_wp2_with (first | ((with_reducible refine gD (N := 1) rfl ?_); refine bE (N := 1) (cs := #[aH, aI, aJ, aK, aN, aQ, aT, aV, aA, aD, aX]) (t := 79) ?_; intro bD hg w9 hbox hb; have aC := aM (hbox); have bG := gF hg HB; have bH := gF hg HB; replace HB := rS HB hb; clear hb hbox hg) | ((with_reducible refine gD (N := 2) rfl ?_); refine bE (N := 2) (cs := #[.bool false, .bool false, .int .i64 0, .int .i64 0, .int .i64 0, .int .i64 0, .int .i64 0, .int .i64 0, .int .i64 0, .int .i64 0, .bool false]) (t := 79) ?_; intro bA hg cL hbox hb; have aW := aM (hbox); have bI := gF hg HB; have bJ := gF hg HB; have aE := nM hg aC; have aG := nH hg aC; replace aC := rB aC hb; replace HB := rS HB hb; clear hb hbox hg; have bW := aE.out; have bX := aG.out; have bY := cA11 aC.out; have bZ := cA11 aW.out))
 refine bodyPost_ret (results_cell_row rfl _ _ bA 79 #[aH, aI, aJ, aK, aN, aQ, aT, aV, aA, aD, .bool (aD == 0)] (0, 0) _ rfl (bm aW.out) Try.underlying79 rfl (by kernel_rfl)) rfl ?_
 exact ⟨xW, bl HB.out⟩

end Go.Proofs.Ythmijfekdeagpaa.PFnFades

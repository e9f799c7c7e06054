/- Of the proof of laws.FnRootPorts: a part. No condition beyond what its theorems say. -/
import Derived.Test.YthmijfekdeagpaaVFnRootPortsPx7
namespace Go.Proofs.Ythmijfekdeagpaa.PFnRootPorts
open Go.RowKit Go.Proofs.YthmijfekdeagpaaW.PrintWords Go.Proofs.YthmijfekdeagpaaW.PrintLast Go.Proofs.YthmijfekdeagpaaW.PrintMore
attribute [local go_sem] max2_int min2_int max_two min_two max_three min_three max_four min_four   -- for this text's walks alone
set_option linter.unusedVariables false
set_option linter.unusedSimpArgs false

def spec_Own.j0 : Nat → Int → Bool → Int → List (S79) → Option (Int × Int × Int × Int)
 | 0, _, _, _, _ => none
 | k + 1, x1, aE, aA, aC => if aE = true then (some (0, 0, 0, 0)) else ((spec_RootPort.f k aA aC).bind fun aD => (if aD.2 = true then (if 0 ≤ aD.1 then (if aD.1 < (aC.length : Int) then (some ((rd_T79 aC aD.1).f2.f0, wrap64 (((rd_T79 aC aD.1).f2.f1) + 1), aA, x1)) else (none)) else (none)) else (some (aA, 0, aA, x1))))
def spec_Own.f (k : Nat) (aC : Int) (aA : List (S79)) (a1 : Int) : Option (Int × Int × Int × Int) := (spec_BridgeOk.f k aC aA).bind fun aD => (if aD = true then ((spec_l1In.f a1 0 (wrap64 ((aA.length : Int) - 1))).bind fun aE => (spec_Own.j0 k a1 (!aE) aC aA)) else (spec_Own.j0 k a1 true aC aA))
theorem spec_Own.mono_l : ∀ k, (∀ y0 y1 y2 y3, LeO (spec_Own.j0 k y0 y1 y2 y3) (spec_Own.j0 (k + 1) y0 y1 y2 y3))
 | 0 => fun _ _ _ _ r h => by simp [spec_Own.j0] at h
 | k + 1 => by
  have ih0 := spec_Own.mono_l k
  ·intro y0 y1 y2 y3
   unfold spec_Own.j0
   repeat' first|(with_reducible first|apply ih0|apply spec_BridgeOk.mono|apply spec_RootPort.mono|exact LeO.refl _|exact LeO.none _|refine LeO.ite ?_ ?_|refine LeO.bind ?_ (fun _ => ?_))|exact LeO.none _|refine LeO.ite ?_ ?_|refine LeO.bind ?_ (fun _ => ?_)
theorem spec_Own.mono : ∀ a0 a1 a2 k, LeO (spec_Own.f k a0 a1 a2) (spec_Own.f (k + 1) a0 a1 a2) := by
 intro a0 a1 a2 k
 have ih0 := spec_Own.mono_l k
 unfold spec_Own.f
 repeat' first|(with_reducible first|apply ih0|apply spec_BridgeOk.mono|apply spec_RootPort.mono|exact LeO.refl _|exact LeO.none _|refine LeO.ite ?_ ?_|refine LeO.bind ?_ (fun _ => ?_))|exact LeO.none _|refine LeO.ite ?_ ?_|refine LeO.bind ?_ (fun _ => ?_)
set_option maxHeartbeats 60000000 in
set_option maxRecDepth 100000 in
theorem spec_Own.calls (k : Nat) (aE : Int) (aI : Option Addr) (aJ : Nat) (aD : List (S79)) (a1 : Int) (r1 : Int) (r2 : Int) (r3 : Int) (r4 : Int) (w : World) (hr0_1 : Kd.C k79 w aI aD.length aD) (hc0_1 : aD.length ≤ aJ) (h : spec_Own.f k aE aD a1 = some (r1, r2, r3, r4)) :
  Calls Try.prog 41 #[.agg #[aE, .slice aI aD.length aJ], a1] w fun e w' => e = .returned (.agg #[r1, r2, r3, r4]) ∧ Below w.heap.size w w' := by
 have eD := Try.underlying28
 have eE := Try.underlying73
 have aQ := aM hr0_1
 have bJ := aM hc0_1
 clear hr0_1 hc0_1
 have HB := aM (Below.refl w.heap.size w)
 have H : ((spec_BridgeOk.f k aE aD).bind fun bR => (if bR = true then ((spec_l1In.f a1 0 (wrap64 ((aD.length : Int) - 1))).bind fun bM => (spec_Own.j0 k a1 (!bM) aE aD)) else (spec_Own.j0 k a1 true aE aD))) = some (r1, r2, r3, r4) := h
 clear h
 have bX := aM H
 clear H
 go_enter Try.func41, Try.ntmps41
 go_upto_region 1 with (first | ((with_reducible refine gD (N := 2) rfl ?_); (try (refine gate_guard (by rfl) ?_; dsimp only)); refine bE (N := 2) (cs := #[aE, .slice aI aD.length aJ]) (t := 28) ?_; intro bZ hg w4 hbox hb; have aA := aM (hbox); have cW := gF hg HB; have cX := gF hg HB; replace HB := rS HB hb; clear hb hbox hg) | ((with_reducible refine gD (N := 4) rfl ?_); (try (refine gate_guard (by rfl) ?_; dsimp only)); refine bE (N := 4) (cs := #[.int .i64 0, .int .i64 0, .int .i64 0, .int .i64 0]) (t := 73) ?_; intro bK hg w5 hbox hb; have aC := aM (hbox); have cY := gF hg HB; have dA := gF hg HB; have aG := nM hg aA; have aH := nH hg aA; replace aA := rB aA hb; replace HB := rS HB hb; clear hb hbox hg))
 (try simp only [Act.put, sA, sZ, sS])
 go_cut [19] (fun cV wc => ∃ (kq : Nat) (bL : Bool), cV = .bool bL ∧ Aside0 (spec_Own.j0 kq a1 bL aE aD = some (r1, r2, r3, r4)) ∧ Aside0 (kq ≤ k) ∧ Aside0 (wc.heap[bZ]? = some (.cells #[aE, (.slice aI aD.length aJ)] 28 (0, 0))) ∧ Aside0 (wc.heap[bK]? = some (.cells #[.int .i64 0, .int .i64 0, .int .i64 0, .int .i64 0] 73 (0, 0))) ∧ Aside0 (Below w.heap.size w wc))
 case first =>
  have H := bX.out
  clear bX
  obtain ⟨bR, cG, H⟩ := hB H
  have A6 := aM cG
  clear cG
  by_cases c7 : bR = true
  case neg =>
   replace c7 := Bool.eq_false_iff.mpr c7
   subst c7
   replace H := hF H
   have H' := aM H
   clear H
   have dB := aG.out
   have dC := aH.out
   have cA := cA2 aA.out
   go_wp2_with (first | ((with_reducible refine gC (f := 46) rfl ?_); refine gL (some 9) Try.func46 #[.agg #[aE, .slice aI aD.length aJ]] ?_; (with_reducible refine (spec_BridgeOk.calls k aE _ _ aD false _ ?side1 ?side2 A6.out).mono ?_); (case side1 => exact cM (cB aQ.out HB.out)); (case side2 => exact bJ.out); rintro e eH ⟨rfl, hb⟩; refine ⟨_, rfl, ?_⟩; replace aA := rB aA hb; replace aC := rB aC hb; replace HB := rS HB hb; (try clear hb)))
   go_meet
   case rel => exact ⟨_, (true), xE, H', ⟨by first | omega | exact Nat.le_refl _⟩, ⟨bk aA.out⟩, ⟨bk aC.out⟩, ⟨bl HB.out⟩⟩
  subst c7
  replace H := hP H rfl
  obtain ⟨bM, cH, H⟩ := hB H
  have A8 := aM cH
  clear cH
  have H' := aM H
  clear H
  have eF := aG.out
  have eG := aH.out
  have cC := cA2 aA.out
  go_wp2_with (first | ((with_reducible refine gC (f := 46) rfl ?_); refine gL (some 9) Try.func46 #[.agg #[aE, .slice aI aD.length aJ]] ?_; (with_reducible refine (spec_BridgeOk.calls k aE _ _ aD true _ ?side1 ?side2 A6.out).mono ?_); (case side1 => exact cM (cB aQ.out HB.out)); (case side2 => exact bJ.out); rintro e eI ⟨rfl, hb⟩; refine ⟨_, rfl, ?_⟩; replace aA := rB aA hb; replace aC := rB aC hb; replace HB := rS HB hb; (try clear hb); have cD := cA2 aA.out) | (go_at_call 80; (with_reducible refine (spec_l1In.calls a1 0 (wrap64 ((aD.length : Int) - 1)) bM _ A8.out).mono ?_); rintro e w' ⟨rfl, ⟨nd, rfl⟩⟩))
  go_meet
  case rel => exact ⟨_, (!bM), xE, H', ⟨by first | omega | exact Nat.le_refl _⟩, ⟨bk aA.out⟩, ⟨bk aC.out⟩, ⟨bl HB.out⟩⟩
 case rest =>
  clear bX
  repeat first|clear c1|clear p2|clear c4|clear p6|clear c7|clear c9|clear eJ|clear cC|clear cP|clear cD|clear cA|clear cQ|clear cR|clear cS|clear cT|clear cU
  obtain ⟨kq, bL, rfl, HA, HJ2, aA, aC, HB⟩ := hcut
  cases kq with
  | zero => exact absurd HA.out (by simp [spec_Own.j0])
  | succ cK =>
   have H := HA.out
   clear HA
   simp only [spec_Own.j0] at H
   by_cases bV : bL = true
   case pos =>
    subst bV
    replace H := hP H rfl
    simp only [Option.some.injEq, Prod.mk.injEq] at H
    obtain ⟨rfl, rfl, rfl, rfl⟩ := H
    have dD := aH.out
    have dE := aG.out
    have dF := cA4 aC.out
    go_wp2
    refine bodyPost_ret (results_cell_row rfl _ _ bK 73 #[.int .i64 0, .int .i64 0, .int .i64 0, .int .i64 0] (0, 0) _ rfl (bm aC.out) Try.underlying73 rfl (by kernel_rfl)) rfl ?_
    exact ⟨xW, bl HB.out⟩
   replace bV := Bool.eq_false_iff.mpr bV
   subst bV
   replace H := hF H
   obtain ⟨⟨aK, cN⟩, bY, H⟩ := hB H
   try dsimp only at H
   have cL := aM bY
   clear bY
   by_cases bW : cN = true
   case neg =>
    replace bW := Bool.eq_false_iff.mpr bW
    subst bW
    replace H := hF H
    simp only [Option.some.injEq, Prod.mk.injEq] at H
    obtain ⟨rfl, rfl, rfl, rfl⟩ := H
    have dG := aG.out
    have dH := aH.out
    have dI := cA2 aA.out
    go_wp2_with (first | ((with_reducible refine gC (f := 36) rfl ?_); refine gL (some 23) Try.func36 #[.agg #[aE, .slice aI aD.length aJ]] ?_; (with_reducible refine (spec_RootPort.calls cK aE _ _ aD aK false _ ?side1 ?side2 cL.out).mono ?_); (case side1 => exact cM (cB aQ.out HB.out)); (case side2 => exact bJ.out); rintro e eK ⟨rfl, hb⟩; refine ⟨_, rfl, ?_⟩; replace aA := rB aA hb; replace aC := rB aC hb; replace HB := rS HB hb; (try clear hb); have dJ := cA2 aA.out; have dK := cA4 aC.out))
    refine bodyPost_ret (results_cell_row rfl _ _ bK 73 #[aE, .int .i64 0, aE, a1] (0, 0) _ rfl (bm aC.out) Try.underlying73 rfl (by kernel_rfl)) rfl ?_
    exact ⟨xW, bl HB.out⟩
   subst bW
   replace H := hP H rfl
   obtain ⟨dL, H⟩ := gI H
   obtain ⟨dM, H⟩ := gI H
   simp only [Option.some.injEq, Prod.mk.injEq] at H
   obtain ⟨rfl, rfl, rfl, rfl⟩ := H
   have dN := aG.out
   have dO := aH.out
   have dP := cA2 aA.out
   go_wp2_with (first | ((with_reducible refine gC (f := 36) rfl ?_); refine gL (some 23) Try.func36 #[.agg #[aE, .slice aI aD.length aJ]] ?_; (with_reducible refine (spec_RootPort.calls cK aE _ _ aD aK true _ ?side1 ?side2 cL.out).mono ?_); (case side1 => exact cM (cB aQ.out HB.out)); (case side2 => exact bJ.out); rintro e eL ⟨rfl, hb⟩; refine ⟨_, rfl, ?_⟩; replace aA := rB aA hb; replace aC := rB aC hb; replace HB := rS HB hb; (try clear hb); have dQ := cA2 aA.out; have bT : 0 ≤ (aK : Int) := dT; have bU : aK < (aD.length : Int) := dT; obtain ⟨dR, cO, aT, aV, aW, aX, aZ, bA, bD, bG, bH, bI, aN⟩ := at_T79 aQ.out aK bT bU; cases cO; replace aT := (HB.out.cell (World.block_lt_of_cell? w _ aT)).trans aT; replace aV := (HB.out.cell (World.block_lt_of_cell? w _ aV)).trans aV; replace aW := (HB.out.cell (World.block_lt_of_cell? w _ aW)).trans aW; replace aX := (HB.out.cell (World.block_lt_of_cell? w _ aX)).trans aX; replace aZ := (HB.out.cell (World.block_lt_of_cell? w _ aZ)).trans aZ; replace bA := (HB.out.cell (World.block_lt_of_cell? w _ bA)).trans bA; replace bD := (HB.out.cell (World.block_lt_of_cell? w _ bD)).trans bD; replace bG := (HB.out.cell (World.block_lt_of_cell? w _ bG)).trans bG; replace bH := (HB.out.cell (World.block_lt_of_cell? w _ bH)).trans bH; replace bI := (HB.out.cell (World.block_lt_of_cell? w _ bI)).trans bI; replace aN := (HB.out.cell (World.block_lt_of_cell? w _ aN)).trans aN; replace bT := eq_true bT; replace bU := eq_true bU) | ((with_reducible refine gD (N := 7) rfl ?_); (try (refine gate_guard (by rfl) ?_; dsimp only)); refine bE (N := 7) (cs := #[.int .i64 0, .int .i64 0, .int .i64 0, .int .i64 0]) (t := 73) ?_; intro dS hg eM hbox hb; have cE := aM (hbox); have dU := gF hg HB; have dV := gF hg HB; have bN := nM hg aA; have bO := nH hg aA; have bP := nM hg aC; have bQ := nH hg aC; replace aA := rB aA hb; replace aC := rB aC hb; replace HB := rS HB hb; clear hb hbox hg; have dW := bO.out; have dX := bN.out; have dY := bQ.out; have dZ := bP.out; have eA := cA4 cE.out; have eB := cA2 aA.out; have eC := cA4 aC.out))
   refine bodyPost_ret (results_cell_row rfl _ _ bK 73 #[((rd_T79 aD aK).f2.f0), .int .i64 (wrap64 (((rd_T79 aD aK).f2.f1) + 1)), aE, a1] (0, 0) _ rfl (bm aC.out) Try.underlying73 rfl (by kernel_rfl)) rfl ?_
   exact ⟨xW, bl HB.out⟩

def spec_l8Copy.f (aD : Int) (aA : List (S79)) : Option (Int × (List (S79))) := (some (([] : List (S79)) : List (S79))).bind fun aC => (if aC.length + aA.length < 1759218604441 then (some (aD, (aC ++ aA))) else (none))
def spec_l8Copy.T1 : Bool × List (List Nat × List Nat) := (true, [([], []), ([0], [0]), ([], []), ([], []), ([3], [3]), ([2, 4], [2, 4]), ([1, 5], [1, 5]), ([6, 5, 0, 1, 2, 3, 4, 5, 6], [6])])
def spec_l8Copy.B1 : List Nat := [0, 1, 0, 0, 8, 28, 63, 127]
theorem spec_l8Copy.tab1 : rtab .any (opsOf Try.f67 1) = spec_l8Copy.T1 := by kernel_rfl
theorem spec_l8Copy.bits1 : waitsOk spec_l8Copy.T1.2 spec_l8Copy.B1 = true := by kernel_rfl
set_option maxHeartbeats 60000000 in
set_option maxRecDepth 100000 in
theorem spec_l8Copy.calls (aE : Int) (aN : Option Addr) (aQ : Nat) (aD : List (S79)) (r1 : Int) (r2 : List (S79)) (w : World) (hr0_1 : Kd.C k79 w aN aD.length aD) (hc0_1 : aD.length ≤ aQ) (h : spec_l8Copy.f aE aD = some (r1, r2)) :
  Calls Try.prog 67 #[.agg #[aE, .slice aN aD.length aQ]] w fun e w' => ∃ bH : Value, e = .returned (.agg #[r1, bH]) ∧ Kd.R k79 79 w' w.heap.size (fun _ => True) bH r2 ∧ Below w.heap.size w w' := by
 have bR := Try.underlying28
 have bA := aM hr0_1
 have bM := aM hc0_1
 clear hr0_1 hc0_1
 have HB := aM (Below.refl w.heap.size w)
 have H : ((some (([] : List (S79)) : List (S79))).bind fun aH => (if aH.length + aD.length < 1759218604441 then (some (aE, (aH ++ aD))) else (none))) = some (r1, r2) := h
 clear h
 obtain ⟨aH, aW, H⟩ := hS H
 have aX := aM aW
 clear aW
 by_cases c2 : aH.length + aD.length < 1759218604441
 case neg =>
  rw [if_neg c2] at H
  exact absurd H (by simp)
 rw [if_pos c2] at H
 have LMc2 := aM c2
 clear c2
 obtain ⟨aV, aG⟩ : ∃ y_ : List (S79), y_ = (aH ++ aD) := ⟨_, rfl⟩
 replace H : (some (aE, aV)) = some (r1, r2) := by first | (rw [aG]; with_reducible exact H) | (have H2_ := (Option.bind_some _ _).symm.trans H; rw [aG]; with_reducible exact H2_) | (have H2_ := (Option.bind_some _ _).symm.trans H; with_reducible exact H2_) | with_reducible exact H | (rw [aG]; exact H) | exact H
 have bD := aM aG
 clear aG
 simp only [Option.some.injEq, Prod.mk.injEq] at H
 obtain ⟨rfl, rfl⟩ := H
 go_enter Try.func67, Try.ntmps67
 try go_wp2_with (first | ((with_reducible refine gD (N := 1) rfl ?_); refine bE (N := 1) (cs := #[aE, .slice aN aD.length aQ]) (t := 28) ?_; intro bG hg w3 hbox hb; have aA := aM (hbox); have bN := gF hg HB; have bO := gF hg HB; replace HB := rS HB hb; clear hb hbox hg) | ((with_reducible refine gD (N := 2) rfl ?_); refine bE (N := 2) (cs := #[.int .i64 0, .slice none 0 0]) (t := 28) ?_; intro aT hg w4 hbox hb; have aC := aM (hbox); have bP := gF hg HB; have bQ := gF hg HB; have aI := nM hg aA; have aJ := nH hg aA; replace aA := rB aA hb; replace HB := rS HB hb; clear hb hbox hg))
 replace aA := aM (blk_drew aA.out)
 replace aC := aM (blk_drew aC.out)
 replace HB := aM (below_drew1 HB.out)
 refine start_ (n := 8) (S := fun w' => cS2 w' bG (.int .i64 aE) (.slice aN aD.length aQ)) (ds := []) (dn 8 0) (by kernel_rfl) rfl rfl ⟨cI aA.out 0, cI aA.out 1⟩ (fun hHeld => ?_); refine with_tabW spec_l8Copy.tab1 spec_l8Copy.bits1 (fun HT_ HW_ => ?_)
 generalize w4.drew = w5 at aA aC HB hHeld ⊢
 refine nY (N := some 3) HT_ ?_
 refine pY (i := 3) (N := some 6) #[Y,U,U,Y,U,U,U,U] HT_ ?_
 refine aY (i := 1) (N := some 4) #[Y,Y,U,Y,U,U,U,U] HT_ HW_ hHeld ?_
 refine aY (i := 4) (N := some 7) #[Y,Y,U,Y,Y,U,U,U] HT_ HW_ hHeld ?_
 refine one_ (i := 2) (N := some 5) #[Y,Y,Y,Y,Y,U,U,U] rfl rfl (one_of HT_.out (by kernel_rfl)) (by decide) (fun K hK => ?_)
 refine Kd.R_lit_step k79 _ 79 ?hg (N := 5) ?hd (xs := ([] : List (S79))) (inner := []) (ok := fun _ => True) (okp := fun _ => True) ?hr ?hp (fun _ hk => hk) trivial (Below.refl _ _) (Nat.le_refl _) (by simp) ?_; (case hd => rfl); (case hg => rfl); (case hr => first | (go_simp; done) | (go_simp; rfl)); (case hp => exact (Reps.none _ _))
 intro bL w6 ho7 hb hg_ hnew_
 clear hg_ hnew_
 (first | rw [← aX.out] at ho7 | (simp only [Int.reduceToNat] at ho7; rw [← aX.out] at ho7))
 have aK := aM (Kd.R_lower ho7 (below_size (bl HB.out)))
 replace aA := rB aA hb
 replace aC := rB aC hb
 replace HB := rS HB hb
 clear hb ho7
 refine hK.out _ _ ⟨cI aA.out 0, cI aA.out 1⟩ (fun hHeld => ?_)
 clear hK K
 refine norm_ (a' := ?_) ?_ ?_
 rotate_left
 ·show Act.put _ (some 5) _ = _
  simp only [Act.put, sA, sZ, sS, i64_w, i32_w]
  rfl
 refine one_ (i := 5) (N := some 8) #[Y,Y,Y,Y,Y,Y,U,U] rfl rfl (one_of HT_.out (by kernel_rfl)) (by decide) (fun K hK => ?_)
 refine Kd.R_append_rows_step k79 (w0 := w) w.heap.size (by rfl) (.tmp 5) (.tmp 7) 26 79 (.agg #[(.bool false), (.bool false), (.int .i64 0), (.int .i64 0), (.int .i64 0), (.int .i64 0), (.int .i64 0), (.int .i64 0), (.int .i64 0), (.int .i64 0), (.bool false)]) 80 rfl Try.underlying26 info79 rfl (by decide) (by omega) bL aH aD _ _ _ (fun _ => True) (fun _ => False) rfl rfl ?aO ?aR (fun _ _ h => h) (fun _ h => h.elim) ?aF ?aB ?aS ?aL ?_
 (case aR => repeat (first | exact (cB bA.out HB.out) | (with_reducible refine Kd.C_alloc ?_ _) | (with_reducible refine Kd.C_drewN ?_ _) | (with_reducible refine Kd.C_drew ?_)))
 (case aB => exact (bl HB.out))
 (case aF => exact (fun _ _ => trivial))
 (case aO => exact (kr aK.out))
 (case aS => exact (below_size (bl HB.out)))
 (case aL => have := LMc2.out; omega)
 intro bT w8 ho hb hg hat
 rw [← bD.out] at ho
 have aZ := aM (ho)
 replace aA := aM (blk_grown (bk aA.out) hg (Kd.R_ne aK.out aA.out (by decide)))
 replace aC := aM (blk_grown (bk aC.out) hg (Kd.R_ne aK.out aC.out (by decide)))
 replace HB := aM (hb)
 clear aK
 clear ho hb hg hat
 obtain ⟨bI, bJ, bK⟩ := Kd.R_slice aZ.out
 (first | subst bK | (injection bK with f1_ f2_ f3_; have f4_ := f1_.symm; have f5_ := f3_.symm; clear f1_ f2_ f3_; subst f4_; subst f5_))
 refine hK.out _ _ ⟨cI aA.out 0, cI aA.out 1⟩ (fun hHeld => ?_)
 clear hK K
 refine norm_ (a' := ?_) ?_ ?_
 rotate_left
 ·show Act.put _ (some 8) _ = _
  simp only [Act.put, sA, sZ, sS, i64_w, i32_w]
  rfl
 refine pY (i := 6) (N := some 9) #[Y,Y,Y,Y,Y,Y,Y,U] HT_ ?_
 refine one_ (i := 7) (N := none) #[Y,Y,Y,Y,Y,Y,Y,Y] rfl rfl (one_of HT_.out (by kernel_rfl)) (by decide) (fun K hK => ?_)
 have bU := cI aC.out 0
 have hfs10 := bF aC.out 0
 have hns10_0 := aI.out
 have hms10_0 := aJ.out
 have bV := cI aC.out 1
 have hfs11 := bF aC.out 1
 have hns11_0 := aI.out
 have hms11_0 := aJ.out
 refine skip_ (w1 := ?_) (by rfl) rfl ?_ ?_
 rotate_left
 ·go_simp
  rfl
 refine hK.out _ _ ⟨(cm (hHeld.1)), (cm (hHeld.2))⟩ (fun hHeld => ?_)
 clear hK K
 refine done_ (done_of HT_.out (by kernel_rfl)) ?_
 try go_wp2
 refine bodyPost_ret (results_cell_row rfl _ _ aT 28 #[aE, .slice bI aV.length bJ] (0, 0) _ rfl (bm aC.out) Try.underlying28 rfl (by kernel_rfl)) rfl ?_
 exact ⟨_, xW, by (with_reducible repeat (first | apply Kd.R_alloc | apply Kd.R_drewN | apply Kd.R_drew)); exact Kd.R_mono (kF (p := ⟨aT, 1, none⟩) (kF (p := ⟨aT, 0, none⟩) (Kd.R_types aZ.out aC.out (by decide)) (fun _ hk => hk.2) (.int .i64 aE)) (fun _ hk => hk.2) (.slice bI aV.length bJ)) (fun _ hk => trivial), bl HB.out⟩

def spec_l7Open.f (aD : Bool) (aE : Bool) (aG : Int) (aH : Int) (aI : Int) (aJ : Int) (aK : Int) (aN : Int) (aA : Int) (aC : Int) (aQ : Bool) : Option (Bool × Bool × Int × Int × Int × Int × Int × Int × Int × Int × Bool) := if aA = 1 then (some (aD, aE, aG, aH, aI, aJ, aK, aN, aA, aC, (aC == 0))) else (if aA = 2 then (some (aD, aE, aG, aH, aI, aJ, aK, aN, aA, aC, (aC == 0))) else (some (aD, aE, aG, aH, aI, aJ, aK, aN, aA, aC, false)))
set_option maxHeartbeats 60000000 in
set_option maxRecDepth 100000 in
theorem spec_l7Open.calls (aH : Bool) (aI : Bool) (aJ : Int) (aK : Int) (aN : Int) (aQ : Int) (aT : Int) (aV : Int) (aA : Int) (aD : Int) (aX : Bool) (r1 : Bool) (r2 : Bool) (r3 : Int) (r4 : Int) (r5 : Int) (r6 : Int) (r7 : Int) (r8 : Int) (r9 : Int) (bJ : Int) (bK : Bool) (w : World) (h : spec_l7Open.f aH aI aJ aK aN aQ aT aV aA aD aX = some (r1, r2, r3, r4, r5, r6, r7, r8, r9, bJ, bK)) :
  Calls Try.prog 142 #[.agg #[aH, aI, aJ, aK, aN, aQ, aT, aV, aA, aD, aX]] w fun e w' => e = .returned (.agg #[r1, r2, r3, r4, r5, r6, r7, r8, r9, bJ, bK]) ∧ Below w.heap.size w w' := by
 have bY := Try.underlying79
 have HB := aM (Below.refl w.heap.size w)
 have H : (if aA = 1 then (some (aH, aI, aJ, aK, aN, aQ, aT, aV, aA, aD, (aD == 0))) else (if aA = 2 then (some (aH, aI, aJ, aK, aN, aQ, aT, aV, aA, aD, (aD == 0))) else (some (aH, aI, aJ, aK, aN, aQ, aT, aV, aA, aD, false)))) = some (r1, r2, r3, r4, r5, r6, r7, r8, r9, bJ, bK) := h
 clear h
 by_cases c2 : aA = 1
 case pos =>
  rw [if_pos c2] at H
  have bL : (aA == 1) = true := beq_iff_eq.mpr c2
  have bM : (aA != 1) = false := bne_eq_false_iff_eq.mpr c2
  clear c2
  simp only [Option.some.injEq, Prod.mk.injEq] at H
  obtain ⟨rfl, rfl, rfl, rfl, rfl, rfl, rfl, rfl, rfl, rfl, rfl⟩ := H
  go_enter Try.func142, Try.ntmps142
  go_wp2_with (first | ((with_reducible refine gD (N := 1) rfl ?_); refine bE (N := 1) (cs := #[aH, aI, aJ, aK, aN, aQ, aT, aV, aA, aD, aX]) (t := 79) ?_; intro bA hg w3 hbox hb; have aC := aM (hbox); have bD := gF hg HB; have bG := gF hg HB; replace HB := rS HB hb; clear hb hbox hg) | ((with_reducible refine gD (N := 2) rfl ?_); refine bE (N := 2) (cs := #[.bool false, .bool false, .int .i64 0, .int .i64 0, .int .i64 0, .int .i64 0, .int .i64 0, .int .i64 0, .int .i64 0, .int .i64 0, .bool false]) (t := 79) ?_; intro aZ hg w4 hbox hb; have aW := aM (hbox); have bH := gF hg HB; have bI := gF hg HB; have aE := nM hg aC; have aG := nH hg aC; replace aC := rB aC hb; replace HB := rS HB hb; clear hb hbox hg; have bZ := aE.out; have cA := aG.out; have cC := cA11 aC.out; have cD := cA11 aW.out))
  refine bodyPost_ret (results_cell_row rfl _ _ aZ 79 #[aH, aI, aJ, aK, aN, aQ, aT, aV, aA, aD, .bool (aD == 0)] (0, 0) _ rfl (bm aW.out) Try.underlying79 rfl (by kernel_rfl)) rfl ?_
  exact ⟨xW, bl HB.out⟩
 rw [if_neg c2] at H
 have bL : (aA == 1) = false := beq_eq_false_iff_ne.mpr c2
 have bM : (aA != 1) = true := bne_iff_ne.mpr c2
 by_cases c8 : aA = 2
 case neg =>
  rw [if_neg c8] at H
  have bN : (aA == 2) = false := beq_eq_false_iff_ne.mpr c8
  have bO : (aA != 2) = true := bne_iff_ne.mpr c8
  simp only [Option.some.injEq, Prod.mk.injEq] at H
  obtain ⟨rfl, rfl, rfl, rfl, rfl, rfl, rfl, rfl, rfl, rfl, rfl⟩ := H
  go_enter Try.func142, Try.ntmps142
  go_wp2_with (first | ((with_reducible refine gD (N := 1) rfl ?_); refine bE (N := 1) (cs := #[aH, aI, aJ, aK, aN, aQ, aT, aV, aA, aD, aX]) (t := 79) ?_; intro bA hg cE hbox hb; have aC := aM (hbox); have bD := gF hg HB; have bG := gF hg HB; replace HB := rS HB hb; clear hb hbox hg) | ((with_reducible refine gD (N := 2) rfl ?_); refine bE (N := 2) (cs := #[.bool false, .bool false, .int .i64 0, .int .i64 0, .int .i64 0, .int .i64 0, .int .i64 0, .int .i64 0, .int .i64 0, .int .i64 0, .bool false]) (t := 79) ?_; intro aZ hg cG hbox hb; have aW := aM (hbox); have bH := gF hg HB; have bI := gF hg HB; have aE := nM hg aC; have aG := nH hg aC; replace aC := rB aC hb; replace HB := rS HB hb; clear hb hbox hg; have bP := aE.out; have bQ := aG.out; have bR := cA11 aC.out; have bT := cA11 aW.out))
  refine bodyPost_ret (results_cell_row rfl _ _ aZ 79 #[aH, aI, aJ, aK, aN, aQ, aT, aV, aA, aD, .bool false] (0, 0) _ rfl (bm aW.out) Try.underlying79 rfl (by kernel_rfl)) rfl ?_
  exact ⟨xW, bl HB.out⟩
 rw [if_pos c8] at H
 have bN : (aA == 2) = true := beq_iff_eq.mpr c8
 have bO : (aA != 2) = false := bne_eq_false_iff_eq.mpr c8
 clear c8
 simp only [Option.some.injEq, Prod.mk.injEq] at H
 obtain ⟨rfl, rfl, rfl, rfl, rfl, rfl, rfl, rfl, rfl, rfl, rfl⟩ := H
 go_enter Try.func142, Try.ntmps142
 go_wp2_with (first | ((with_reducible refine gD (N := 1) rfl ?_); refine bE (N := 1) (cs := #[aH, aI, aJ, aK, aN, aQ, aT, aV, aA, aD, aX]) (t := 79) ?_; intro bA hg w9 hbox hb; have aC := aM (hbox); have bD := gF hg HB; have bG := gF hg HB; replace HB := rS HB hb; clear hb hbox hg) | ((with_reducible refine gD (N := 2) rfl ?_); refine bE (N := 2) (cs := #[.bool false, .bool false, .int .i64 0, .int .i64 0, .int .i64 0, .int .i64 0, .int .i64 0, .int .i64 0, .int .i64 0, .int .i64 0, .bool false]) (t := 79) ?_; intro aZ hg cH hbox hb; have aW := aM (hbox); have bH := gF hg HB; have bI := gF hg HB; have aE := nM hg aC; have aG := nH hg aC; replace aC := rB aC hb; replace HB := rS HB hb; clear hb hbox hg; have bU := aE.out; have bV := aG.out; have bW := cA11 aC.out; have bX := cA11 aW.out))
 refine bodyPost_ret (results_cell_row rfl _ _ aZ 79 #[aH, aI, aJ, aK, aN, aQ, aT, aV, aA, aD, .bool (aD == 0)] (0, 0) _ rfl (bm aW.out) Try.underlying79 rfl (by kernel_rfl)) rfl ?_
 exact ⟨xW, bl HB.out⟩

end Go.Proofs.Ythmijfekdeagpaa.PFnRootPorts

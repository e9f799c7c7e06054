/- A part of the proof of laws.FnFrames. No condition beyond what its theorems say. -/
import Derived.Test.YtaoipjdmmamkmaaVFnFramesPx4
namespace Go.Proofs.Ytaoipjdmmamkmaa.PFnFrames
open Go.RowKit Go.Proofs.YtaoipjdmmamkmaaW.PrintWords Go.Proofs.YtaoipjdmmamkmaaW.PrintLast Go.Proofs.YtaoipjdmmamkmaaW.PrintMore
set_option linter.unusedVariables false
set_option linter.unusedSimpArgs false

def spec_FrameOf.j0 : Nat → List Int → Int → Int → Bool → Option (Int × Int × Int × List Int × Bool)
 | 0, _, _, _, _ => none
 | k + 1, x0, x4, x5, aE => if aE = true then (some (0, 0, 0, ([] : List Int), false)) else (if 0 < (x0.length : Int) then (if 1 < (x0.length : Int) then (if 2 < (x0.length : Int) then ((some (([] : List Int) : List Int)).bind fun aA => (if 0 ≤ x5 then (if x5 ≤ (wrap64 (x5 + x4)) then (if (wrap64 (x5 + x4)) ≤ (x0.length : Int) then (if aA.length + ((x0.take ((wrap64 (x5 + x4)) : Int).toNat).drop (x5 : Int).toNat).length < 140737488355328 then ((some (aA ++ ((x0.take ((wrap64 (x5 + x4)) : Int).toNat).drop (x5 : Int).toNat) : List Int)).bind fun aC => ((spec_FrameBytes.f k (wrap64 (rd x0 0)) (wrap64 (rd x0 1)) (wrap64 (rd x0 2)) aC).bind fun aD => (if (strOfNums aD).toList = (strOfNums x0).toList then (some (wrap64 (rd x0 0), wrap64 (rd x0 1), wrap64 (rd x0 2), aC, true)) else (some (0, 0, 0, ([] : List Int), false))))) else (none)) else (none)) else (none)) else (none))) else (none)) else (none)) else (none))
def spec_FrameOf.f (k : Nat) (l0 : List Int) : Option (Int × Int × Int × List Int × Bool) := (spec_GetNum.f k l0 3).bind fun aA => (if aA.2.2 = true then (spec_FrameOf.j0 k l0 aA.1 aA.2.1 (aA.1 != (wrap64 ((wrap64 ((l0.length : Int) - aA.2.1)) - 4)))) else (spec_FrameOf.j0 k l0 aA.1 aA.2.1 true))
theorem spec_FrameOf.mono_l : ∀ k, (∀ y0 y1 y2 y3, LeO (spec_FrameOf.j0 k y0 y1 y2 y3) (spec_FrameOf.j0 (k + 1) y0 y1 y2 y3))
 | 0 => fun _ _ _ _ r h => by simp [spec_FrameOf.j0] at h
 | k + 1 => by
  have ih0 := spec_FrameOf.mono_l k
  ·intro y0 y1 y2 y3
   unfold spec_FrameOf.j0
   repeat' first|(with_reducible first|apply ih0|apply spec_FrameBytes.mono|apply spec_GetNum.mono|exact lR _|exact lN _|refine lI ?_ ?_|refine lB ?_ fun _ => ?_)|exact lN _|refine lI ?_ ?_|refine lB ?_ fun _ => ?_
theorem spec_FrameOf.mono : ∀ a0 k, LeO (spec_FrameOf.f k a0) (spec_FrameOf.f (k + 1) a0) := by
 intro a0 k
 have ih0 := spec_FrameOf.mono_l k
 unfold spec_FrameOf.f
 repeat' first|(with_reducible first|apply ih0|apply spec_FrameBytes.mono|apply spec_GetNum.mono|exact lR _|exact lN _|refine lI ?_ ?_|refine lB ?_ fun _ => ?_)|exact lN _|refine lI ?_ ?_|refine lB ?_ fun _ => ?_
def spec_FrameOf.T4 : Bool × List (List Nat × List Nat) := (true, [([], []), ([0], [0]), ([1], [1]), ([2], [2]), ([], []), ([4], [4]), ([5], [5]), ([6], [6]), ([], []), ([8], [8]), ([9], [9]), ([10], [10]), ([], []), ([], []), ([], []), ([], []), ([], []), ([15, 16], [15, 16]), ([13, 14, 17], [13, 14, 17]), ([12, 18], [12, 18]), ([3, 7, 11, 19], [3, 7, 11, 19]), ([], []), ([21, 20, 19, 0, 1, 2, 3, 4, 5, 6, 7, 8, 9, 10, 11, 12, 13, 14, 15, 16, 17, 18, 19, 20, 21], [20, 21])])
def spec_FrameOf.B4 : List Nat := [0, 1, 3, 7, 0, 16, 48, 112, 0, 256, 768, 1792, 0, 0, 0, 0, 0, 98304, 253952, 520192, 1048575, 0, 4194303]
theorem spec_FrameOf.tab4 : rtab .any (opsOf Try.f11 4) = spec_FrameOf.T4 := by kernel_rfl
theorem spec_FrameOf.bits4 : waitsOk spec_FrameOf.T4.2 spec_FrameOf.B4 = true := by kernel_rfl
set_option maxHeartbeats 60000000 in
set_option maxRecDepth 100000 in
theorem spec_FrameOf.calls (k : Nat) (A0 : Option Addr) (c0 : Nat) (l0 : List Int) (r1 r2 r3 : Int) (r4 : List Int) (r5 : Bool) (w : World) (hr0 : Kd.C (Kd.int .u8) w A0 l0.length l0) (hc0 : l0.length ≤ c0) (h : spec_FrameOf.f k l0 = some (r1, r2, r3, r4, r5)) :
  Calls Try.prog 11 #[.slice A0 l0.length c0] w fun e w' => ∃ dY : Value, e = .returned (.tuple #[.agg #[r1, r2, r3, dY], r5]) ∧ Kd.R (Kd.int .u8) 5 w' w.heap.size (fun _ => True) dY r4 ∧ Below w.heap.size w w' := by
 have fM := Try.underlying25
 have bU := aM hr0
 have dM := aM hc0
 clear hr0 hc0
 have HB := aM (Below.refl w.heap.size w)
 have H : ((spec_GetNum.f k l0 3).bind fun bW => (if bW.2.2 = true then (spec_FrameOf.j0 k l0 bW.1 bW.2.1 (bW.1 != (wrap64 ((wrap64 ((l0.length : Int) - bW.2.1)) - 4)))) else (spec_FrameOf.j0 k l0 bW.1 bW.2.1 true))) = some (r1, r2, r3, r4, r5) := h
 clear h
 obtain ⟨⟨aT, aD, dN⟩, dZ, H⟩ := hB H
 try dsimp only at H
 have A2 := aM dZ
 clear dZ
 have dO := aM H
 clear H
 go_enter Try.func11, Try.ntmps11
 go_upto_region 2 with (first | ((with_reducible refine gD (N := 2) rfl ?_); (try (refine gate_guard (by rfl) ?_; dsimp only)); refine bE (N := 2) (cs := #[.int .i64 0, .int .i64 0, .int .i64 0, .slice none 0 0]) (t := 25) ?_; intro bA hg w4 hbox hb; have aC := aM (hbox); have eV := gF hg HB; have eW := gF hg HB; replace HB := rS HB hb; clear hb hbox hg) | ((with_reducible refine gC (f := 49) rfl ?_); refine gL (some 10) Try.func49 #[.slice A0 l0.length c0, .int .i64 3] ?_; (with_reducible refine (spec_GetNum.calls k _ _ l0 3 aT aD dN _ ?side1 ?side2 A2.out).mono ?_); (case side1 => exact cM (cB bU.out HB.out)); (case side2 => exact dM.out); rintro e w' ⟨rfl, ⟨nd, rfl⟩⟩; refine ⟨_, rfl, ?_⟩))
 (try simp only [Act.put, sA, sZ, sS])
 go_cut [24] (fun eM wc => ∃ (kq : Nat) (cN : Bool), eM = .bool cN ∧ Aside0 (spec_FrameOf.j0 kq l0 aT aD cN = some (r1, r2, r3, r4, r5)) ∧ Aside0 (kq ≤ k) ∧ Aside0 (wc.heap[bA]? = some (.cells #[.int .i64 0, .int .i64 0, .int .i64 0, (.slice none 0 0)] 25 (0, 0))) ∧ Aside0 (Below w.heap.size w wc))
 case first =>
  have H := dO.out
  clear dO
  by_cases c5 : dN = true
  case pos =>
   subst c5
   replace H := hP H rfl
   have H' := aM H
   clear H
   go_wp2
   go_meet
   case rel => exact ⟨_, ((aT != (wrap64 ((wrap64 ((l0.length : Int) - aD)) - 4)))), xE, H', ⟨by first | omega | exact Nat.le_refl _⟩, ⟨bk aC.out⟩, ⟨bl HB.out⟩⟩
  replace c5 := Bool.eq_false_iff.mpr c5
  subst c5
  replace H := hF H
  have H' := aM H
  clear H
  go_wp2
  go_meet
  case rel => exact ⟨_, (true), xE, H', ⟨by first | omega | exact Nat.le_refl _⟩, ⟨bk aC.out⟩, ⟨bl HB.out⟩⟩
 case rest =>
  clear dO
  repeat first|clear c1|clear p2|clear c4|clear c5
  obtain ⟨kq, cN, rfl, HA, HJ2, aC, HB⟩ := hcut
  cases kq with
  | zero => exact absurd HA.out (by simp [spec_FrameOf.j0])
  | succ dE =>
   have H := HA.out
   clear HA
   simp only [spec_FrameOf.j0] at H
   by_cases c6 : cN = true
   case pos =>
    subst c6
    replace H := hP H rfl
    simp only [Option.some.injEq, Prod.mk.injEq] at H
    obtain ⟨rfl, rfl, rfl, rfl, rfl⟩ := H
    have fN := cA4 aC.out
    go_wp2
    refine bodyPost_ret (results_ct rfl _ _ bA 25 #[.int .i64 0, .int .i64 0, .int .i64 0, .slice none 0 0] (0, 0) _ rfl (bm aC.out) Try.underlying25 rfl (by kernel_rfl)) rfl ?_
    exact ⟨_, xW, by first | exact Kd.R_nil _ _ _ _ _ | exact Kd.N_nil _ _ _ _ _ | exact Kd.V_nil _ _ _ _ _ | exact Kd.Q_nil _ _ _ _ _ | exact Kd.S_nil _ _ _ _ _, bl HB.out⟩
   replace c6 := Bool.eq_false_iff.mpr c6
   subst c6
   replace H := hF H
   by_cases c8 : 0 < (l0.length : Int)
   case neg =>
    rw [if_neg c8] at H
    exact absurd H (by simp)
   rw [if_pos c8] at H
   have fO := decide_eq_true c8
   have fP : decide (0 < l0.length) = true := decide_eq_true (by omega)
   clear c8
   by_cases c9 : 1 < (l0.length : Int)
   case neg =>
    rw [if_neg c9] at H
    exact absurd H (by simp)
   rw [if_pos c9] at H
   have fQ := decide_eq_true c9
   have fS : decide (1 < l0.length) = true := decide_eq_true (by omega)
   clear c9
   by_cases dF : 2 < (l0.length : Int)
   case neg =>
    rw [if_neg dF] at H
    exact absurd H (by simp)
   rw [if_pos dF] at H
   have eX := decide_eq_true dF
   have eY : decide (2 < l0.length) = true := decide_eq_true (by omega)
   clear dF
   obtain ⟨cA, dG, H⟩ := hS H
   have bV := aM dG
   clear dG
   by_cases cV : 0 ≤ aD
   case neg =>
    rw [if_neg cV] at H
    exact absurd H (by simp)
   rw [if_pos cV] at H
   have eZ := eq_true cV
   have fA : decide (0 ≤ aD) = true := decide_eq_true cV
   clear cV
   by_cases dH : aD ≤ (wrap64 (aD + aT))
   case neg =>
    rw [if_neg dH] at H
    exact absurd H (by simp)
   rw [if_pos dH] at H
   have fB := eq_true dH
   have fC : decide (aD ≤ (wrap64 (aD + aT))) = true := decide_eq_true dH
   by_cases dI : (wrap64 (aD + aT)) ≤ (l0.length : Int)
   case neg =>
    rw [if_neg dI] at H
    exact absurd H (by simp)
   rw [if_pos dI] at H
   have fD := eq_true dI
   have fE : decide ((wrap64 (aD + aT)) ≤ (l0.length : Int)) = true := decide_eq_true dI
   by_cases dJ : cA.length + ((l0.take ((wrap64 (aD + aT)) : Int).toNat).drop (aD : Int).toNat).length < 140737488355328
   case neg =>
    rw [if_neg dJ] at H
    exact absurd H (by simp)
   rw [if_pos dJ] at H
   have LMc14 := aM dJ
   clear dJ
   obtain ⟨aV, dK, H⟩ := hS H
   have bZ := aM dK
   clear dK
   obtain ⟨bO, dP, H⟩ := hB H
   have dL := aM dP
   clear dP
   by_cases cO : (strOfNums bO).toList = (strOfNums l0).toList
   case neg =>
    rw [if_neg cO] at H
    have dV : ((strOfNums bO).toList == (strOfNums l0).toList) = false := beq_eq_false_iff_ne.mpr cO
    have dW : ((strOfNums bO).toList != (strOfNums l0).toList) = true := bne_iff_ne.mpr cO
    simp only [Option.some.injEq, Prod.mk.injEq] at H
    obtain ⟨rfl, rfl, rfl, rfl, rfl⟩ := H
    try go_wp2
    replace aC := aM (blk_drew aC.out)
    replace HB := aM (below_drew1 HB.out)
    have cC : 0 ≤ (0 : Int) := (by omega)
    have cD : 0 < (l0.length : Int) := dT
    obtain ⟨aK, cW, bD⟩ := Kd.at_int bU.out 0 cC cD
    have aH := bD
    (try rw [show ((0 : Int)).toNat = 0 from rfl] at aH)
    (try rw [show 0 * 1 = 0 from rfl] at aH)
    (try rw [Addr.add_zero'] at aH)
    cases cW
    have qi352 : (0 < l0.length) = True := eq_true (by omega)
    (try rw [show ((0 : Int)).toNat = 0 from rfl] at bD)
    (try rw [Addr.add_zero'] at bD)
    replace bD := xB HB bD
    replace cC := eq_true cC
    replace cD := eq_true cD
    have cE : 0 ≤ (1 : Int) := (by omega)
    have cG : 1 < (l0.length : Int) := dT
    obtain ⟨cT, cX, bG⟩ := Kd.at_int bU.out 1 cE cG
    have aI := bG
    (try rw [show ((1 : Int)).toNat = 1 from rfl] at aI)
    (try rw [show 1 * 1 = 1 from rfl] at aI)
    (try simp only [Nat.reduceMul, Nat.reduceEqDiff, Go.Addr.add, ↓reduceIte] at aI)
    obtain rfl : aK = cT := (by injection cX)
    (try simp only [show (1 : Int).toNat = 1 from rfl, Nat.reduceMul, Nat.reduceEqDiff, Go.Addr.add, ↓reduceIte] at bG)
    have qi353 : (1 < l0.length) = True := eq_true (by omega)
    (try rw [show ((1 : Int)).toNat = 1 from rfl] at bG)
    replace bG := xB HB bG
    replace cE := eq_true cE
    replace cG := eq_true cG
    have cH : 0 ≤ (2 : Int) := (by omega)
    have cK : 2 < (l0.length : Int) := dT
    obtain ⟨cU, cY, bH⟩ := Kd.at_int bU.out 2 cH cK
    have aJ := bH
    (try rw [show ((2 : Int)).toNat = 2 from rfl] at aJ)
    (try rw [show 2 * 1 = 2 from rfl] at aJ)
    (try simp only [Nat.reduceMul, Nat.reduceEqDiff, Go.Addr.add, ↓reduceIte] at aJ)
    obtain rfl : aK = cU := (by injection cY)
    (try simp only [show (2 : Int).toNat = 2 from rfl, Nat.reduceMul, Nat.reduceEqDiff, Go.Addr.add, ↓reduceIte] at bH)
    have qi354 : (2 < l0.length) = True := eq_true (by omega)
    (try rw [show ((2 : Int)).toNat = 2 from rfl] at bH)
    replace bH := xB HB bH
    replace cH := eq_true cH
    replace cK := eq_true cK
    obtain ⟨i040, hi040, _, hsz40, _⟩ := info_parts info5
    obtain ⟨gG, hcut40, hA40, hC40⟩ := print_mid_of (P := Try.prog) (Value.int .u8) 0 22 5 .i64 .i64 Try.underlying22 hi040 hsz40 (some aK) c0 l0 aD (wrap64 (aD + aT)) (dT) (by first | omega | exact dT) (dT) dM.out
    have bJ := aM (Kd.C_of_reads (h1 := fun _ => rfl) (hA40 _ (Kd.reads_of_C bU.out)))
    have dX := aM hC40
    clear hA40 hC40 hi040 hsz40
    refine start_ (n := 23) (S := fun w' => w'.cell? aK = some (.int .u8 (rd l0 0)) ∧ w'.cell? ⟨aK.block, aK.off + 1, none⟩ = some (.int .u8 (rd l0 1)) ∧ w'.cell? ⟨aK.block, aK.off + 2, none⟩ = some (.int .u8 (rd l0 2))) (ds := []) (dn 23 0) (by kernel_rfl) rfl rfl ⟨(xB HB aH), (xB HB aI), (xB HB aJ)⟩ (fun hHeld => ?_); refine with_tabW spec_FrameOf.tab4 spec_FrameOf.bits4 (fun HT_ HW_ => ?_)
    generalize wc.drew = gH at aC HB bJ bD bG bH hHeld ⊢
    refine nY (N := some 26) HT_ ?_
    refine nY (N := some 27) HT_ ?_
    refine pZ 4 30 (bv 23 19) HT_ ?_
    refine pZ 5 31 (bv 23 51) HT_ ?_
    refine pZ 8 34 (bv 23 307) HT_ ?_
    refine pZ 9 35 (bv 23 819) HT_ ?_
    refine pZ 13 39 (bv 23 9011) HT_ ?_
    refine pZ 14 40 (bv 23 25395) HT_ ?_
    refine pZ 15 41 (bv 23 58163) HT_ ?_
    refine pZ 16 42 (bv 23 123699) HT_ ?_
    refine pZ 17 43 (bv 23 254771) HT_ ?_
    refine pZ 18 44 (bv 23 516915) HT_ ?_
    refine aZ 2 28 (bv 23 516919) HT_ HW_ hHeld ?_
    refine pZ 3 29 (bv 23 516927) HT_ ?_
    refine aZ 6 32 (bv 23 516991) HT_ HW_ hHeld ?_
    refine pZ 7 33 (bv 23 517119) HT_ ?_
    refine aZ 10 36 (bv 23 518143) HT_ HW_ hHeld ?_
    refine pZ 11 37 (bv 23 520191) HT_ ?_
    refine join_ (σ := Value × Value × Nat) 1 (bv 23 4194303) (fun s_ => [(38, s_.1), (45, s_.2.1), (7, .pointer (some ⟨s_.2.2, 0, none⟩)), (46, .agg #[.int .i64 (wrap64 (rd l0 0)), .int .i64 (wrap64 (rd l0 1)), .int .i64 (wrap64 (rd l0 2)), s_.2.1])]) (fun s_ w' => (w'.cell? aK = some (.int .u8 (rd l0 0)) ∧ w'.cell? ⟨aK.block, aK.off + 1, none⟩ = some (.int .u8 (rd l0 1)) ∧ w'.cell? ⟨aK.block, aK.off + 2, none⟩ = some (.int .u8 (rd l0 2))) ∧ (Kd.R (Kd.int .u8) 5 w' w.heap.size (fun _ => True) s_.2.1 aV) ∧ (w'.heap[bA]? = some (.cells #[.int .i64 0, .int .i64 0, .int .i64 0, .slice none 0 0] 25 (0, 0))) ∧ (w'.heap[s_.2.2]? = some (.cells #[.int .i64 0, .int .i64 0, .int .i64 0, .slice none 0 0] 25 (0, 0))) ∧ (w.heap.size ≤ s_.2.2) ∧ (w.heap.size ≤ s_.2.2) ∧ (bA ≠ s_.2.2) ∧ (s_.2.2 ≠ bA) ∧ (Below w.heap.size w w')) ?_ ?_
    rotate_left
    ·intro hCont
     refine two_ (i := 12) (j := 21) (Ni := some 38) (Nj := some 7) (bv 23 524287) (bv 23 2617343) rfl rfl rfl rfl (two_of HT_.out (by kernel_rfl)) (by decide) (by decide) (fun K hK => ?_) (fun K hK => ?_)
     ·skip
      refine Kd.R_lit_step (Kd.int .u8) _ 5 ?hg (N := 38) ?hd (xs := ([] : List Int)) (inner := []) (ok := fun _ => True) (okp := fun _ => True) ?hr ?hp (fun _ hk => hk) trivial (Below.refl _ _) (Nat.le_refl _) (by simp) ?_; (case hd => rfl); (case hg => rfl); (case hr => first | (go_simp; done) | (go_simp; rfl)); (case hp => exact (Reps.none _ _))
      intro bK eN ho42 hb hg_ hnew_
      clear hg_ hnew_
      (first | rw [← bV.out] at ho42 | (simp only [Int.reduceToNat] at ho42; rw [← bV.out] at ho42))
      have aX := aM (Kd.R_lower ho42 (below_size (bl HB.out)))
      replace aC := rB aC hb
      replace HB := rS HB hb
      clear hb ho42
      refine hK.out _ _ ⟨(xB HB aH), (xB HB aI), (xB HB aJ)⟩ (fun hHeld => ?_)
      clear hK K
      refine norm_ (a' := ?_) ?_ ?_
      rotate_left
      ·show Act.put _ (some 38) _ = _
       simp only [Act.put, sA, sZ, sS, i64_w, i32_w]
       rfl
      refine two_ (i := 19) (j := 21) (Ni := some 45) (Nj := some 7) (bv 23 1048575) (bv 23 2621439) rfl rfl rfl rfl (two_of HT_.out (by kernel_rfl)) (by decide) (by decide) (fun K hK => ?_) (fun K hK => ?_)
      ·skip
       refine Kd.R_append_rows_step (Kd.int .u8) (w0 := w) w.heap.size (by rfl) (.tmp 38) (.tmp 44) 22 5 (.int .u8 0) 1 rfl Try.underlying22 info5 rfl (by decide) (by omega) bK cA ((l0.take ((wrap64 (aD + aT)) : Int).toNat).drop (aD : Int).toNat) _ _ _ (fun _ => True) (fun _ => False) rfl rfl ?aO ?aR (fun _ _ h => h) (fun _ h => h.elim) ?aF ?aB ?aS ?aL ?_
       (case aR => first | (rw [← show ((l0.take ((wrap64 (aD + aT)) : Int).toNat).drop (aD : Int).toNat).length = ((wrap64 (aD + aT)).toNat - aD.toNat) from (by rw [List.length_drop, List.length_take]; have h_ : ((wrap64 (aD + aT)) : Int) ≤ (l0.length : Int) := dT; omega)]; repeat (first | exact (cB bJ.out HB.out) | (with_reducible refine Kd.C_alloc ?_ _) | (with_reducible refine Kd.C_drewN ?_ _) | (with_reducible refine Kd.C_drew ?_))) | (repeat (first | exact (cB bJ.out HB.out) | (with_reducible refine Kd.C_alloc ?_ _) | (with_reducible refine Kd.C_drewN ?_ _) | (with_reducible refine Kd.C_drew ?_))))
       (case aB => exact (bl HB.out))
       (case aF => exact (fun _ _ => trivial))
       (case aO => exact (kr aX.out))
       (case aS => exact (below_size (bl HB.out)))
       (case aL => have := LMc14.out; have hlx_ := (show ((l0.take ((wrap64 (aD + aT)) : Int).toNat).drop (aD : Int).toNat).length = ((wrap64 (aD + aT)).toNat - aD.toNat) from (by rw [List.length_drop, List.length_take]; have h_ : ((wrap64 (aD + aT)) : Int) ≤ (l0.length : Int) := dT; omega)); omega)
       intro bX eO ho hb hg hat
       rw [← bZ.out] at ho
       have aE := aM (ho)
       replace aC := aM (blk_grown (bk aC.out) hg (Kd.R_ne aX.out aC.out (by decide)))
       replace HB := aM (hb)
       clear aX
       clear ho hb hg hat
       obtain ⟨eA, eB, dQ⟩ := Kd.R_slice aE.out
       (first | subst dQ | (injection dQ with f1_ f2_ f3_; have f4_ := f1_.symm; have f5_ := f3_.symm; clear f1_ f2_ f3_; subst f4_; subst f5_))
       refine hK.out _ _ ⟨(xB HB aH), (xB HB aI), (xB HB aJ)⟩ (fun hHeld => ?_)
       clear hK K
       refine norm_ (a' := ?_) ?_ ?_
       rotate_left
       ·show Act.put _ (some 45) _ = _
        simp only [Act.put, sA, sZ, sS, i64_w, i32_w]
        rfl
       refine pZ 20 46 (bv 23 2097151) HT_ ?_
       refine one_ (i := 21) (N := some 7) (bv 23 4194303) rfl rfl (one_of HT_.out (by kernel_rfl)) (by decide) (fun K hK => ?_)
       refine box_step ?hg (N := 7) ?hd (cs := #[.int .i64 0, .int .i64 0, .int .i64 0, .slice none 0 0]) (t := 25) ?hr ?_; (case hd => rfl); (case hg => rfl); (case hr => first | (go_simp; done) | (go_simp; rfl))
       intro aG hg gJ hbox hb
       have aA := aM (hbox)
       have aW := gF hg HB
       have bL := gF hg HB
       have aN := nM hg aC
       have aQ := nH hg aC
       replace aE := rK aE hb
       replace aC := rB aC hb
       replace HB := rS HB hb
       clear hb hbox hg
       refine hK.out _ _ ⟨(xB HB aH), (xB HB aI), (xB HB aJ)⟩ (fun hHeld => ?_)
       clear hK K
       refine norm_ (a' := ?_) ?_ ?_
       rotate_left
       ·show Act.put _ (some 7) _ = _
        simp only [Act.put, sA, sZ, sS, i64_w, i32_w]
        rfl
       exact norm_ (by simp only [putAll, Act.put, sA, sZ, sS]) (hCont (bK, .slice eA aV.length eB, aG) _ ⟨hHeld, (kr aE.out), (bk aC.out), (bk aA.out), aW.out, bL.out, aN.out, aQ.out, (bl HB.out)⟩)
      ·skip
       refine box_step ?hg (N := 7) ?hd (cs := #[.int .i64 0, .int .i64 0, .int .i64 0, .slice none 0 0]) (t := 25) ?hr ?_; (case hd => rfl); (case hg => rfl); (case hr => first | (go_simp; done) | (go_simp; rfl))
       intro aG hg eO hbox hb
       have aA := aM (hbox)
       have aW := gF hg HB
       have bL := gF hg HB
       have aN := nM hg aC
       have aQ := nH hg aC
       replace aX := rK aX hb
       replace aC := rB aC hb
       replace HB := rS HB hb
       clear hb hbox hg
       refine hK.out _ _ ⟨(xB HB aH), (xB HB aI), (xB HB aJ)⟩ (fun hHeld => ?_)
       clear hK K
       refine norm_ (a' := ?_) ?_ ?_
       rotate_left
       ·show Act.put _ (some 7) _ = _
        simp only [Act.put, sA, sZ, sS, i64_w, i32_w]
        rfl
       refine one_ (i := 19) (N := some 45) (bv 23 3145727) rfl rfl (one_of HT_.out (by kernel_rfl)) (by decide) (fun K hK => ?_)
       refine Kd.R_append_rows_step (Kd.int .u8) (w0 := w) w.heap.size (by rfl) (.tmp 38) (.tmp 44) 22 5 (.int .u8 0) 1 rfl Try.underlying22 info5 rfl (by decide) (by omega) bK cA ((l0.take ((wrap64 (aD + aT)) : Int).toNat).drop (aD : Int).toNat) _ _ _ (fun _ => True) (fun _ => False) rfl rfl ?aO ?aR (fun _ _ h => h) (fun _ h => h.elim) ?aF ?aB ?aS ?aL ?_
       (case aR => first | (rw [← show ((l0.take ((wrap64 (aD + aT)) : Int).toNat).drop (aD : Int).toNat).length = ((wrap64 (aD + aT)).toNat - aD.toNat) from (by rw [List.length_drop, List.length_take]; have h_ : ((wrap64 (aD + aT)) : Int) ≤ (l0.length : Int) := dT; omega)]; repeat (first | exact (cB bJ.out HB.out) | (with_reducible refine Kd.C_alloc ?_ _) | (with_reducible refine Kd.C_drewN ?_ _) | (with_reducible refine Kd.C_drew ?_))) | (repeat (first | exact (cB bJ.out HB.out) | (with_reducible refine Kd.C_alloc ?_ _) | (with_reducible refine Kd.C_drewN ?_ _) | (with_reducible refine Kd.C_drew ?_))))
       (case aB => exact (bl HB.out))
       (case aF => exact (fun _ _ => trivial))
       (case aO => exact (kr aX.out))
       (case aS => exact (below_size (bl HB.out)))
       (case aL => have := LMc14.out; have hlx_ := (show ((l0.take ((wrap64 (aD + aT)) : Int).toNat).drop (aD : Int).toNat).length = ((wrap64 (aD + aT)).toNat - aD.toNat) from (by rw [List.length_drop, List.length_take]; have h_ : ((wrap64 (aD + aT)) : Int) ≤ (l0.length : Int) := dT; omega)); omega)
       intro bX eP ho hb hg hat
       rw [← bZ.out] at ho
       have aE := aM (ho)
       replace aC := aM (blk_grown (bk aC.out) hg (Kd.R_ne aX.out aC.out (by decide)))
       replace aA := aM (blk_grown (bk aA.out) hg (Kd.R_ne aX.out aA.out (by decide)))
       replace HB := aM (hb)
       clear aX
       clear ho hb hg hat
       obtain ⟨dA, dB, cP⟩ := Kd.R_slice aE.out
       (first | subst cP | (injection cP with f1_ f2_ f3_; have f4_ := f1_.symm; have f5_ := f3_.symm; clear f1_ f2_ f3_; subst f4_; subst f5_))
       refine hK.out _ _ ⟨(xB HB aH), (xB HB aI), (xB HB aJ)⟩ (fun hHeld => ?_)
       clear hK K
       refine norm_ (a' := ?_) ?_ ?_
       rotate_left
       ·show Act.put _ (some 45) _ = _
        simp only [Act.put, sA, sZ, sS, i64_w, i32_w]
        rfl
       refine pZ 20 46 (bv 23 4194303) HT_ ?_
       exact norm_ (by simp only [putAll, Act.put, sA, sZ, sS]) (hCont (bK, .slice dA aV.length dB, aG) _ ⟨hHeld, (kr aE.out), (bk aC.out), (bk aA.out), aW.out, bL.out, aN.out, aQ.out, (bl HB.out)⟩)
     ·skip
      refine box_step ?hg (N := 7) ?hd (cs := #[.int .i64 0, .int .i64 0, .int .i64 0, .slice none 0 0]) (t := 25) ?hr ?_; (case hd => rfl); (case hg => rfl); (case hr => first | (go_simp; done) | (go_simp; rfl))
      intro aG hg eN hbox hb
      have aA := aM (hbox)
      have aW := gF hg HB
      have bL := gF hg HB
      have aN := nM hg aC
      have aQ := nH hg aC
      replace aC := rB aC hb
      replace HB := rS HB hb
      clear hb hbox hg
      refine hK.out _ _ ⟨(xB HB aH), (xB HB aI), (xB HB aJ)⟩ (fun hHeld => ?_)
      clear hK K
      refine norm_ (a' := ?_) ?_ ?_
      rotate_left
      ·show Act.put _ (some 7) _ = _
       simp only [Act.put, sA, sZ, sS, i64_w, i32_w]
       rfl
      refine one_ (i := 12) (N := some 38) (bv 23 2621439) rfl rfl (one_of HT_.out (by kernel_rfl)) (by decide) (fun K hK => ?_)
      refine Kd.R_lit_step (Kd.int .u8) _ 5 ?hg (N := 38) ?hd (xs := ([] : List Int)) (inner := []) (ok := fun _ => True) (okp := fun _ => True) ?hr ?hp (fun _ hk => hk) trivial (Below.refl _ _) (Nat.le_refl _) (by simp) ?_; (case hd => rfl); (case hg => rfl); (case hr => first | (go_simp; done) | (go_simp; rfl)); (case hp => exact (Reps.none _ _))
      intro bK gK ho43 hb hg_ hnew_
      clear hg_ hnew_
      (first | rw [← bV.out] at ho43 | (simp only [Int.reduceToNat] at ho43; rw [← bV.out] at ho43))
      have aX := aM (Kd.R_lower ho43 (below_size (bl HB.out)))
      replace aC := rB aC hb
      replace aA := rB aA hb
      replace HB := rS HB hb
      clear hb ho43
      refine hK.out _ _ ⟨(xB HB aH), (xB HB aI), (xB HB aJ)⟩ (fun hHeld => ?_)
      clear hK K
      refine norm_ (a' := ?_) ?_ ?_
      rotate_left
      ·show Act.put _ (some 38) _ = _
       simp only [Act.put, sA, sZ, sS, i64_w, i32_w]
       rfl
      refine one_ (i := 19) (N := some 45) (bv 23 3145727) rfl rfl (one_of HT_.out (by kernel_rfl)) (by decide) (fun K hK => ?_)
      refine Kd.R_append_rows_step (Kd.int .u8) (w0 := w) w.heap.size (by rfl) (.tmp 38) (.tmp 44) 22 5 (.int .u8 0) 1 rfl Try.underlying22 info5 rfl (by decide) (by omega) bK cA ((l0.take ((wrap64 (aD + aT)) : Int).toNat).drop (aD : Int).toNat) _ _ _ (fun _ => True) (fun _ => False) rfl rfl ?aO ?aR (fun _ _ h => h) (fun _ h => h.elim) ?aF ?aB ?aS ?aL ?_
      (case aR => first | (rw [← show ((l0.take ((wrap64 (aD + aT)) : Int).toNat).drop (aD : Int).toNat).length = ((wrap64 (aD + aT)).toNat - aD.toNat) from (by rw [List.length_drop, List.length_take]; have h_ : ((wrap64 (aD + aT)) : Int) ≤ (l0.length : Int) := dT; omega)]; repeat (first | exact (cB bJ.out HB.out) | (with_reducible refine Kd.C_alloc ?_ _) | (with_reducible refine Kd.C_drewN ?_ _) | (with_reducible refine Kd.C_drew ?_))) | (repeat (first | exact (cB bJ.out HB.out) | (with_reducible refine Kd.C_alloc ?_ _) | (with_reducible refine Kd.C_drewN ?_ _) | (with_reducible refine Kd.C_drew ?_))))
      (case aB => exact (bl HB.out))
      (case aF => exact (fun _ _ => trivial))
      (case aO => exact (kr aX.out))
      (case aS => exact (below_size (bl HB.out)))
      (case aL => have := LMc14.out; have hlx_ := (show ((l0.take ((wrap64 (aD + aT)) : Int).toNat).drop (aD : Int).toNat).length = ((wrap64 (aD + aT)).toNat - aD.toNat) from (by rw [List.length_drop, List.length_take]; have h_ : ((wrap64 (aD + aT)) : Int) ≤ (l0.length : Int) := dT; omega)); omega)
      intro bX eP ho hb hg hat
      rw [← bZ.out] at ho
      have aE := aM (ho)
      replace aC := aM (blk_grown (bk aC.out) hg (Kd.R_ne aX.out aC.out (by decide)))
      replace aA := aM (blk_grown (bk aA.out) hg (Kd.R_ne aX.out aA.out (by decide)))
      replace HB := aM (hb)
      clear aX
      clear ho hb hg hat
      obtain ⟨dA, dB, cP⟩ := Kd.R_slice aE.out
      (first | subst cP | (injection cP with f1_ f2_ f3_; have f4_ := f1_.symm; have f5_ := f3_.symm; clear f1_ f2_ f3_; subst f4_; subst f5_))
      refine hK.out _ _ ⟨(xB HB aH), (xB HB aI), (xB HB aJ)⟩ (fun hHeld => ?_)
      clear hK K
      refine norm_ (a' := ?_) ?_ ?_
      rotate_left
      ·show Act.put _ (some 45) _ = _
       simp only [Act.put, sA, sZ, sS, i64_w, i32_w]
       rfl
      refine pZ 20 46 (bv 23 4194303) HT_ ?_
      exact norm_ (by simp only [putAll, Act.put, sA, sZ, sS]) (hCont (bK, .slice dA aV.length dB, aG) _ ⟨hHeld, (kr aE.out), (bk aC.out), (bk aA.out), aW.out, bL.out, aN.out, aQ.out, (bl HB.out)⟩)
    rintro ⟨bK, bX, aG⟩ cQ ⟨hS_, h0_, h1_, h2_, h3_, h4_, h5_, h6_, h7_⟩
    have aE : Aside0 (Kd.R (Kd.int .u8) 5 cQ w.heap.size (fun _ => True) bX aV) := ⟨h0_⟩
    have aA : Aside0 (cQ.heap[aG]? = some (.cells #[.int .i64 0, .int .i64 0, .int .i64 0, .slice none 0 0] 25 (0, 0))) := ⟨h2_⟩
    have aW : Aside0 (w.heap.size ≤ aG) := ⟨h3_⟩
    have bL : Aside0 (w.heap.size ≤ aG) := ⟨h4_⟩
    have aN : Aside0 (bA ≠ aG) := ⟨h5_⟩
    have aQ : Aside0 (aG ≠ bA) := ⟨h6_⟩
    replace aC : Aside0 (cQ.heap[bA]? = some (.cells #[.int .i64 0, .int .i64 0, .int .i64 0, .slice none 0 0] 25 (0, 0))) := ⟨h1_⟩
    replace HB : Aside0 (Below w.heap.size w cQ) := ⟨h7_⟩
    clear h0_ h1_ h2_ h3_ h4_ h5_ h6_ h7_
    have hHeld : cQ.cell? aK = some (.int .u8 (rd l0 0)) ∧ cQ.cell? ⟨aK.block, aK.off + 1, none⟩ = some (.int .u8 (rd l0 1)) ∧ cQ.cell? ⟨aK.block, aK.off + 2, none⟩ = some (.int .u8 (rd l0 2)) := hS_
    obtain ⟨bQ, bT, dR⟩ := Kd.R_slice aE.out
    (first | subst dR | (injection dR with f1_ f2_ f3_; have f4_ := f1_.symm; have f5_ := f3_.symm; clear f1_ f2_ f3_; subst f4_; subst f5_))
    refine norm_ (a' := ?_) ?_ ?_
    rotate_left
    ·simp only [putAll, Act.put, sA, sZ, sS]
     rfl
    refine one_ (i := 22) (N := none) (bv 23 8388607) rfl rfl (one_of HT_.out (by kernel_rfl)) (by decide) (fun K hK => ?_)
    have fT := cI aA.out 0
    have hfs48 := bF aA.out 0
    have hns48_0 := aN.out
    have hms48_0 := aQ.out
    have fU := cI aA.out 1
    have hfs49 := bF aA.out 1
    have hns49_0 := aN.out
    have hms49_0 := aQ.out
    have fV := cI aA.out 2
    have hfs50 := bF aA.out 2
    have hns50_0 := aN.out
    have hms50_0 := aQ.out
    have fW := cI aA.out 3
    have hfs51 := bF aA.out 3
    have hns51_0 := aN.out
    have hms51_0 := aQ.out
    refine skip_ (w1 := ?_) (by rfl) rfl ?_ ?_
    rotate_left
    ·go_simp
     rfl
    refine hK.out _ _ ⟨((cF aH aW.out).trans (((cF aH aW.out).trans (((cF aH aW.out).trans (((cF aH aW.out).trans (hHeld.1)))))))), ((cF aI aW.out).trans (((cF aI aW.out).trans (((cF aI aW.out).trans (((cF aI aW.out).trans (hHeld.2.1)))))))), ((cF aJ aW.out).trans (((cF aJ aW.out).trans (((cF aJ aW.out).trans (((cF aJ aW.out).trans (hHeld.2.2))))))))⟩ (fun hHeld => ?_)
    clear hK K
    refine done_ (done_of HT_.out (by kernel_rfl)) ?_
    try go_wp2
    refine nW (fun W => Aside0 (Kd.R (Kd.int .u8) 5 W w.heap.size (fun _ => True) (.slice bQ aV.length bT) aV) ∧ Aside0 (W.heap[bA]? = some (.cells #[.int .i64 0, .int .i64 0, .int .i64 0, .slice none 0 0] 25 (0, 0))) ∧ Aside0 (W.heap[aG]? = some (.cells #[.int .i64 (wrap64 (rd l0 0)), .int .i64 (wrap64 (rd l0 1)), .int .i64 (wrap64 (rd l0 2)), .slice bQ aV.length bT] 25 (0, 0))) ∧ Aside0 (Below w.heap.size w W)) ⟨⟨kr (Kd.R_mono (kF (p := ⟨aG, 3, none⟩) (kF (p := ⟨aG, 2, none⟩) (kF (p := ⟨aG, 1, none⟩) (kF (p := ⟨aG, 0, none⟩) (Kd.R_types aE.out aA.out (by decide)) (fun _ hk => hk.2) (.int .i64 (wrap64 (rd l0 0)))) (fun _ hk => hk.2) (.int .i64 (wrap64 (rd l0 1)))) (fun _ hk => hk.2) (.int .i64 (wrap64 (rd l0 2)))) (fun _ hk => hk.2) (.slice bQ aV.length bT)) (fun _ hk => trivial))⟩, ⟨fm aC.out⟩, ⟨bm aA.out⟩, ⟨bl HB.out⟩⟩ ?_
    intro eQ nn_
    replace aE := nn_.1
    replace aC := nn_.2.1
    replace aA := nn_.2.2.1
    replace HB := nn_.2.2.2
    clear nn_
    replace aE := aM (Kd.R_drew aE.out)
    replace aC := aM (blk_drew aC.out)
    replace aA := aM (blk_drew aA.out)
    replace HB := aM (below_drew1 HB.out)
    refine start_ (n := 6) (S := fun w' => cS4 w' aG (.int .i64 (wrap64 (rd l0 0))) (.int .i64 (wrap64 (rd l0 1))) (.int .i64 (wrap64 (rd l0 2))) (.slice bQ aV.length bT)) (ds := []) (dn 6 0) (by kernel_rfl) rfl rfl ⟨cI aA.out 0, cI aA.out 1, cI aA.out 2, cI aA.out 3⟩ (fun hHeld => ?_)
    generalize eQ.drew = gM at aE aC aA HB hHeld ⊢
    refine pure_ (i := 3) (N := some 50) (v := ?_) (a' := ?_) (bv 6 8) rfl rfl (by kernel_rfl) (fun _ _ _ h => h) (Or.inl ⟨by rfl, ?_⟩) ?_ ?_
    rotate_left
    ·intro w'
     go_simp
     with_reducible rfl
    rotate_left
    ·simp only [Act.put, sA, sZ, sS, i64_w, i32_w]
     rfl
    refine take_ (i := 0) (N := some 47) (v := ?_) (a' := ?_) (bv 6 9) rfl rfl (by kernel_rfl) (fun _ _ _ h => h) (Or.inl ⟨by rfl, ?_⟩) hHeld ?_ ?_
    rotate_left
    ·rintro w' ⟨s0, s1, s2, s3⟩
     go_simp
     with_reducible rfl
    rotate_left
    ·simp only [Act.put, sA, sZ, sS, i64_w, i32_w]
     rfl
    refine join_ (σ := Value) 1 (bv 6 31) (fun s_ => [(48, s_), (49, .string (strOfNums bO)), (51, .string (strOfNums l0))]) (fun s_ w' => (w'.cell? ⟨aG, 0, none⟩ = some (.int .i64 (wrap64 (rd l0 0))) ∧ w'.cell? ⟨aG, 1, none⟩ = some (.int .i64 (wrap64 (rd l0 1))) ∧ w'.cell? ⟨aG, 2, none⟩ = some (.int .i64 (wrap64 (rd l0 2))) ∧ w'.cell? ⟨aG, 3, none⟩ = some (.slice bQ aV.length bT)) ∧ (Kd.R (Kd.int .u8) 5 w' w.heap.size (fun k_ => some k_ ≠ (s_ : Value).ownBlock) (.slice bQ aV.length bT) aV) ∧ (Kd.R (Kd.int .u8) 5 w' w.heap.size (fun k_ => some k_ ≠ (.slice bQ aV.length bT : Value).ownBlock) s_ bO) ∧ (w'.heap[bA]? = some (.cells #[.int .i64 0, .int .i64 0, .int .i64 0, .slice none 0 0] 25 (0, 0))) ∧ (w'.heap[aG]? = some (.cells #[.int .i64 (wrap64 (rd l0 0)), .int .i64 (wrap64 (rd l0 1)), .int .i64 (wrap64 (rd l0 2)), .slice bQ aV.length bT] 25 (0, 0))) ∧ (Below w.heap.size w w')) ?_ ?_
    rotate_left
    ·intro hCont
     refine two_ (i := 1) (j := 4) (Ni := some 48) (Nj := some 51) (bv 6 11) (bv 6 25) rfl rfl rfl rfl (by kernel_rfl) (by decide) (by decide) (fun K hK => ?_) (fun K hK => ?_)
     ·skip
      refine goes_ Try.func13 (by kernel_rfl) rfl #[.agg #[.int .i64 (wrap64 (rd l0 0)), .int .i64 (wrap64 (rd l0 1)), .int .i64 (wrap64 (rd l0 2)), .slice bQ aV.length bT]] (by rfl) rfl rfl xR ?_
      with_reducible refine (spec_FrameBytes.calls dE (wrap64 (rd l0 0)) (wrap64 (rd l0 1)) (wrap64 (rd l0 2)) _ _ aV bO _ ?side1 ?side2 dL.out).mono ?_
      (case side1 => exact cM ((Kd.R_reads' aE.out).2.2))
      (case side2 => exact (Kd.R_reads' aE.out).2.1)
      rintro e gN ⟨bP, rfl, ho0, hb⟩
      refine ⟨_, rfl, ?_⟩
      have bI := aM (Kd.R_lower (Kd.R_new' ho0 (Kd.R_lt (kr aE.out))) (below_size (bl HB.out)))
      replace aE := aM (Kd.R_elder' (kr aE.out) (Kd.R_base ho0) hb)
      replace aC := rB aC hb
      replace aA := rB aA hb
      replace HB := rS HB hb
      (try clear hb)
      (try clear hb2)
      (try clear hk)
      (try clear hi)
      (try clear ho0)
      refine hK.out _ _ ⟨cI aA.out 0, cI aA.out 1, cI aA.out 2, cI aA.out 3⟩ (fun hHeld => ?_)
      clear hK K
      refine norm_ (a' := ?_) ?_ ?_
      rotate_left
      ·show Act.put _ (some 48) _ = _
       simp only [Act.put, sA, sZ, sS, i64_w, i32_w]
       rfl
      refine two_ (i := 2) (j := 4) (Ni := some 49) (Nj := some 51) (bv 6 15) (bv 6 27) rfl rfl rfl rfl (by kernel_rfl) (by decide) (by decide) (fun K hK => ?_) (fun K hK => ?_)
      ·skip
       have hcv55 := own_string (P := Try.prog) Try.underlying22 Try.underlying5 Try.underlying9 (Kd.own_of_R bI.out)
       refine value_ (w1 := ?_) (v := ?_) (by rfl) rfl ?_ ?_
       rotate_left 2
       ·go_simp
        constructor
        ·rfl
        ·rfl
       clear hcv55
       refine hK.out _ _ ⟨cI aA.out 0, cI aA.out 1, cI aA.out 2, cI aA.out 3⟩ (fun hHeld => ?_)
       clear hK K
       refine norm_ (a' := ?_) ?_ ?_
       rotate_left
       ·show Act.put _ (some 49) _ = _
        simp only [Act.put, sA, sZ, sS, i64_w, i32_w]
        rfl
       refine one_ (i := 4) (N := some 51) (bv 6 31) rfl rfl (by kernel_rfl) (by decide) (fun K hK => ?_)
       have hcv56 := Kd.C_string (P := Try.prog) (A := (some aK)) (c := c0) Try.underlying22 Try.underlying5 Try.underlying9 (cB bU.out HB.out)
       refine value_ (w1 := ?_) (v := ?_) (by rfl) rfl ?_ ?_
       rotate_left 2
       ·go_simp
        constructor
        ·rfl
        ·rfl
       clear hcv56
       refine hK.out _ _ ⟨cI aA.out 0, cI aA.out 1, cI aA.out 2, cI aA.out 3⟩ (fun hHeld => ?_)
       clear hK K
       refine norm_ (a' := ?_) ?_ ?_
       rotate_left
       ·show Act.put _ (some 51) _ = _
        simp only [Act.put, sA, sZ, sS, i64_w, i32_w]
        rfl
       exact norm_ (by simp only [putAll, Act.put, sA, sZ, sS]) (hCont (bP) _ ⟨hHeld, (kr (Kd.R_mono aE.out (fun _ hk => hk.2))), (kr (Kd.R_mono bI.out (fun _ hk => hk.2))), (bk aC.out), (bk aA.out), (bl HB.out)⟩)
      ·skip
       have hcv55 := Kd.C_string (P := Try.prog) (A := (some aK)) (c := c0) Try.underlying22 Try.underlying5 Try.underlying9 (cB bU.out HB.out)
       refine value_ (w1 := ?_) (v := ?_) (by rfl) rfl ?_ ?_
       rotate_left 2
       ·go_simp
        constructor
        ·rfl
        ·rfl
       clear hcv55
       refine hK.out _ _ ⟨cI aA.out 0, cI aA.out 1, cI aA.out 2, cI aA.out 3⟩ (fun hHeld => ?_)
       clear hK K
       refine norm_ (a' := ?_) ?_ ?_
       rotate_left
       ·show Act.put _ (some 51) _ = _
        simp only [Act.put, sA, sZ, sS, i64_w, i32_w]
        rfl
       refine one_ (i := 2) (N := some 49) (bv 6 31) rfl rfl (by kernel_rfl) (by decide) (fun K hK => ?_)
       have hcv56 := own_string (P := Try.prog) Try.underlying22 Try.underlying5 Try.underlying9 (Kd.own_of_R bI.out)
       refine value_ (w1 := ?_) (v := ?_) (by rfl) rfl ?_ ?_
       rotate_left 2
       ·go_simp
        constructor
        ·rfl
        ·rfl
       clear hcv56
       refine hK.out _ _ ⟨cI aA.out 0, cI aA.out 1, cI aA.out 2, cI aA.out 3⟩ (fun hHeld => ?_)
       clear hK K
       refine norm_ (a' := ?_) ?_ ?_
       rotate_left
       ·show Act.put _ (some 49) _ = _
        simp only [Act.put, sA, sZ, sS, i64_w, i32_w]
        rfl
       exact norm_ (by simp only [putAll, Act.put, sA, sZ, sS]) (hCont (bP) _ ⟨hHeld, (kr (Kd.R_mono aE.out (fun _ hk => hk.2))), (kr (Kd.R_mono bI.out (fun _ hk => hk.2))), (bk aC.out), (bk aA.out), (bl HB.out)⟩)
     ·skip
      have hcv54 := Kd.C_string (P := Try.prog) (A := (some aK)) (c := c0) Try.underlying22 Try.underlying5 Try.underlying9 (cB bU.out HB.out)
      refine value_ (w1 := ?_) (v := ?_) (by rfl) rfl ?_ ?_
      rotate_left 2
      ·go_simp
       constructor
       ·rfl
       ·rfl
      clear hcv54
      refine hK.out _ _ ⟨cI aA.out 0, cI aA.out 1, cI aA.out 2, cI aA.out 3⟩ (fun hHeld => ?_)
      clear hK K
      refine norm_ (a' := ?_) ?_ ?_
      rotate_left
      ·show Act.put _ (some 51) _ = _
       simp only [Act.put, sA, sZ, sS, i64_w, i32_w]
       rfl
      refine one_ (i := 1) (N := some 48) (bv 6 27) rfl rfl (by kernel_rfl) (by decide) (fun K hK => ?_)
      refine goes_ Try.func13 (by kernel_rfl) rfl #[.agg #[.int .i64 (wrap64 (rd l0 0)), .int .i64 (wrap64 (rd l0 1)), .int .i64 (wrap64 (rd l0 2)), .slice bQ aV.length bT]] (by rfl) rfl rfl xR ?_
      with_reducible refine (spec_FrameBytes.calls dE (wrap64 (rd l0 0)) (wrap64 (rd l0 1)) (wrap64 (rd l0 2)) _ _ aV bO _ ?side1 ?side2 dL.out).mono ?_
      (case side1 => exact cM ((Kd.R_reads' aE.out).2.2))
      (case side2 => exact (Kd.R_reads' aE.out).2.1)
      rintro e gO ⟨bP, rfl, ho0, hb⟩
      refine ⟨_, rfl, ?_⟩
      have bI := aM (Kd.R_lower (Kd.R_new' ho0 (Kd.R_lt (kr aE.out))) (below_size (bl HB.out)))
      replace aE := aM (Kd.R_elder' (kr aE.out) (Kd.R_base ho0) hb)
      replace aC := rB aC hb
      replace aA := rB aA hb
      replace HB := rS HB hb
      (try clear hb)
      (try clear hb2)
      (try clear hk)
      (try clear hi)
      (try clear ho0)
      refine hK.out _ _ ⟨cI aA.out 0, cI aA.out 1, cI aA.out 2, cI aA.out 3⟩ (fun hHeld => ?_)
      clear hK K
      refine norm_ (a' := ?_) ?_ ?_
      rotate_left
      ·show Act.put _ (some 48) _ = _
       simp only [Act.put, sA, sZ, sS, i64_w, i32_w]
       rfl
      refine one_ (i := 2) (N := some 49) (bv 6 31) rfl rfl (by kernel_rfl) (by decide) (fun K hK => ?_)
      have hcv56 := own_string (P := Try.prog) Try.underlying22 Try.underlying5 Try.underlying9 (Kd.own_of_R bI.out)
      refine value_ (w1 := ?_) (v := ?_) (by rfl) rfl ?_ ?_
      rotate_left 2
      ·go_simp
       constructor
       ·rfl
       ·rfl
      clear hcv56
      refine hK.out _ _ ⟨cI aA.out 0, cI aA.out 1, cI aA.out 2, cI aA.out 3⟩ (fun hHeld => ?_)
      clear hK K
      refine norm_ (a' := ?_) ?_ ?_
      rotate_left
      ·show Act.put _ (some 49) _ = _
       simp only [Act.put, sA, sZ, sS, i64_w, i32_w]
       rfl
      exact norm_ (by simp only [putAll, Act.put, sA, sZ, sS]) (hCont (bP) _ ⟨hHeld, (kr (Kd.R_mono aE.out (fun _ hk => hk.2))), (kr (Kd.R_mono bI.out (fun _ hk => hk.2))), (bk aC.out), (bk aA.out), (bl HB.out)⟩)
    rintro bP cL ⟨hS_, h0_, h1_, h2_, h3_, h4_⟩
    have bI : Aside0 (Kd.R (Kd.int .u8) 5 cL w.heap.size (fun k_ => some k_ ≠ (.slice bQ aV.length bT : Value).ownBlock) bP bO) := ⟨h1_⟩
    replace aE : Aside0 (Kd.R (Kd.int .u8) 5 cL w.heap.size (fun k_ => some k_ ≠ (bP : Value).ownBlock) (.slice bQ aV.length bT) aV) := ⟨h0_⟩
    replace aC : Aside0 (cL.heap[bA]? = some (.cells #[.int .i64 0, .int .i64 0, .int .i64 0, .slice none 0 0] 25 (0, 0))) := ⟨h2_⟩
    replace aA : Aside0 (cL.heap[aG]? = some (.cells #[.int .i64 (wrap64 (rd l0 0)), .int .i64 (wrap64 (rd l0 1)), .int .i64 (wrap64 (rd l0 2)), .slice bQ aV.length bT] 25 (0, 0))) := ⟨h3_⟩
    replace HB : Aside0 (Below w.heap.size w cL) := ⟨h4_⟩
    clear h0_ h1_ h2_ h3_ h4_
    have hHeld : cL.cell? ⟨aG, 0, none⟩ = some (.int .i64 (wrap64 (rd l0 0))) ∧ cL.cell? ⟨aG, 1, none⟩ = some (.int .i64 (wrap64 (rd l0 1))) ∧ cL.cell? ⟨aG, 2, none⟩ = some (.int .i64 (wrap64 (rd l0 2))) ∧ cL.cell? ⟨aG, 3, none⟩ = some (.slice bQ aV.length bT) := hS_
    refine norm_ (a' := ?_) ?_ ?_
    rotate_left
    ·simp only [putAll, Act.put, sA, sZ, sS]
     rfl
    refine pure_ (i := 5) (N := some 52) (v := ?_) (a' := ?_) (bv 6 63) rfl rfl (by kernel_rfl) (fun _ _ _ h => h) (Or.inl ⟨by rfl, ?_⟩) ?_ ?_
    rotate_left
    ·intro w'
     go_simp
     with_reducible rfl
    rotate_left
    ·simp only [Act.put, sA, sZ, sS, i64_w, i32_w]
     rfl
    refine done_ (by kernel_rfl) ?_
    have fF := aN.out
    have fG := aQ.out
    have fH := cA4 aC.out
    try go_wp2
    refine bodyPost_ret (results_ct rfl _ _ bA 25 #[.int .i64 0, .int .i64 0, .int .i64 0, .slice none 0 0] (0, 0) _ rfl (bm aC.out) Try.underlying25 rfl (by kernel_rfl)) rfl ?_
    exact ⟨_, xW, by first | exact Kd.R_nil _ _ _ _ _ | exact Kd.N_nil _ _ _ _ _ | exact Kd.V_nil _ _ _ _ _ | exact Kd.Q_nil _ _ _ _ _ | exact Kd.S_nil _ _ _ _ _, bl HB.out⟩
   rw [if_pos cO] at H
   have dV : ((strOfNums bO).toList == (strOfNums l0).toList) = true := beq_iff_eq.mpr cO
   have dW : ((strOfNums bO).toList != (strOfNums l0).toList) = false := bne_eq_false_iff_eq.mpr cO
   clear cO
   simp only [Option.some.injEq, Prod.mk.injEq] at H
   obtain ⟨rfl, rfl, rfl, rfl, rfl⟩ := H
   try go_wp2
   replace aC := aM (blk_drew aC.out)
   replace HB := aM (below_drew1 HB.out)
   have cC : 0 ≤ (0 : Int) := (by omega)
   have cD : 0 < (l0.length : Int) := dT
   obtain ⟨aK, cW, bD⟩ := Kd.at_int bU.out 0 cC cD
   have aH := bD
   (try rw [show ((0 : Int)).toNat = 0 from rfl] at aH)
   (try rw [show 0 * 1 = 0 from rfl] at aH)
   (try rw [Addr.add_zero'] at aH)
   cases cW
   have qi352 : (0 < l0.length) = True := eq_true (by omega)
   (try rw [show ((0 : Int)).toNat = 0 from rfl] at bD)
   (try rw [Addr.add_zero'] at bD)
   replace bD := xB HB bD
   replace cC := eq_true cC
   replace cD := eq_true cD
   have cE : 0 ≤ (1 : Int) := (by omega)
   have cG : 1 < (l0.length : Int) := dT
   obtain ⟨cT, cX, bG⟩ := Kd.at_int bU.out 1 cE cG
   have aI := bG
   (try rw [show ((1 : Int)).toNat = 1 from rfl] at aI)
   (try rw [show 1 * 1 = 1 from rfl] at aI)
   (try simp only [Nat.reduceMul, Nat.reduceEqDiff, Go.Addr.add, ↓reduceIte] at aI)
   obtain rfl : aK = cT := (by injection cX)
   (try simp only [show (1 : Int).toNat = 1 from rfl, Nat.reduceMul, Nat.reduceEqDiff, Go.Addr.add, ↓reduceIte] at bG)
   have qi353 : (1 < l0.length) = True := eq_true (by omega)
   (try rw [show ((1 : Int)).toNat = 1 from rfl] at bG)
   replace bG := xB HB bG
   replace cE := eq_true cE
   replace cG := eq_true cG
   have cH : 0 ≤ (2 : Int) := (by omega)
   have cK : 2 < (l0.length : Int) := dT
   obtain ⟨cU, cY, bH⟩ := Kd.at_int bU.out 2 cH cK
   have aJ := bH
   (try rw [show ((2 : Int)).toNat = 2 from rfl] at aJ)
   (try rw [show 2 * 1 = 2 from rfl] at aJ)
   (try simp only [Nat.reduceMul, Nat.reduceEqDiff, Go.Addr.add, ↓reduceIte] at aJ)
   obtain rfl : aK = cU := (by injection cY)
   (try simp only [show (2 : Int).toNat = 2 from rfl, Nat.reduceMul, Nat.reduceEqDiff, Go.Addr.add, ↓reduceIte] at bH)
   have qi354 : (2 < l0.length) = True := eq_true (by omega)
   (try rw [show ((2 : Int)).toNat = 2 from rfl] at bH)
   replace bH := xB HB bH
   replace cH := eq_true cH
   replace cK := eq_true cK
   obtain ⟨i018, hi018, _, hsz18, _⟩ := info_parts info5
   obtain ⟨gP, hcut18, hA18, hC18⟩ := print_mid_of (P := Try.prog) (Value.int .u8) 0 22 5 .i64 .i64 Try.underlying22 hi018 hsz18 (some aK) c0 l0 aD (wrap64 (aD + aT)) (dT) (by first | omega | exact dT) (dT) dM.out
   have bJ := aM (Kd.C_of_reads (h1 := fun _ => rfl) (hA18 _ (Kd.reads_of_C bU.out)))
   have dX := aM hC18
   clear hA18 hC18 hi018 hsz18
   refine start_ (n := 23) (S := fun w' => w'.cell? aK = some (.int .u8 (rd l0 0)) ∧ w'.cell? ⟨aK.block, aK.off + 1, none⟩ = some (.int .u8 (rd l0 1)) ∧ w'.cell? ⟨aK.block, aK.off + 2, none⟩ = some (.int .u8 (rd l0 2))) (ds := []) (dn 23 0) (by kernel_rfl) rfl rfl ⟨(xB HB aH), (xB HB aI), (xB HB aJ)⟩ (fun hHeld => ?_); refine with_tabW spec_FrameOf.tab4 spec_FrameOf.bits4 (fun HT_ HW_ => ?_)
   generalize wc.drew = gQ at aC HB bJ bD bG bH hHeld ⊢
   refine nY (N := some 26) HT_ ?_
   refine nY (N := some 27) HT_ ?_
   refine pZ 4 30 (bv 23 19) HT_ ?_
   refine pZ 5 31 (bv 23 51) HT_ ?_
   refine pZ 8 34 (bv 23 307) HT_ ?_
   refine pZ 9 35 (bv 23 819) HT_ ?_
   refine pZ 13 39 (bv 23 9011) HT_ ?_
   refine pZ 14 40 (bv 23 25395) HT_ ?_
   refine pZ 15 41 (bv 23 58163) HT_ ?_
   refine pZ 16 42 (bv 23 123699) HT_ ?_
   refine pZ 17 43 (bv 23 254771) HT_ ?_
   refine pZ 18 44 (bv 23 516915) HT_ ?_
   refine aZ 2 28 (bv 23 516919) HT_ HW_ hHeld ?_
   refine pZ 3 29 (bv 23 516927) HT_ ?_
   refine aZ 6 32 (bv 23 516991) HT_ HW_ hHeld ?_
   refine pZ 7 33 (bv 23 517119) HT_ ?_
   refine aZ 10 36 (bv 23 518143) HT_ HW_ hHeld ?_
   refine pZ 11 37 (bv 23 520191) HT_ ?_
   refine join_ (σ := Value × Value × Nat) 1 (bv 23 4194303) (fun s_ => [(38, s_.1), (45, s_.2.1), (7, .pointer (some ⟨s_.2.2, 0, none⟩)), (46, .agg #[.int .i64 (wrap64 (rd l0 0)), .int .i64 (wrap64 (rd l0 1)), .int .i64 (wrap64 (rd l0 2)), s_.2.1])]) (fun s_ w' => (w'.cell? aK = some (.int .u8 (rd l0 0)) ∧ w'.cell? ⟨aK.block, aK.off + 1, none⟩ = some (.int .u8 (rd l0 1)) ∧ w'.cell? ⟨aK.block, aK.off + 2, none⟩ = some (.int .u8 (rd l0 2))) ∧ (Kd.R (Kd.int .u8) 5 w' w.heap.size (fun _ => True) s_.2.1 aV) ∧ (w'.heap[bA]? = some (.cells #[.int .i64 0, .int .i64 0, .int .i64 0, .slice none 0 0] 25 (0, 0))) ∧ (w'.heap[s_.2.2]? = some (.cells #[.int .i64 0, .int .i64 0, .int .i64 0, .slice none 0 0] 25 (0, 0))) ∧ (w.heap.size ≤ s_.2.2) ∧ (w.heap.size ≤ s_.2.2) ∧ (bA ≠ s_.2.2) ∧ (s_.2.2 ≠ bA) ∧ (Below w.heap.size w w')) ?_ ?_
   rotate_left
   ·intro hCont
    refine two_ (i := 12) (j := 21) (Ni := some 38) (Nj := some 7) (bv 23 524287) (bv 23 2617343) rfl rfl rfl rfl (two_of HT_.out (by kernel_rfl)) (by decide) (by decide) (fun K hK => ?_) (fun K hK => ?_)
    ·skip
     refine Kd.R_lit_step (Kd.int .u8) _ 5 ?hg (N := 38) ?hd (xs := ([] : List Int)) (inner := []) (ok := fun _ => True) (okp := fun _ => True) ?hr ?hp (fun _ hk => hk) trivial (Below.refl _ _) (Nat.le_refl _) (by simp) ?_; (case hd => rfl); (case hg => rfl); (case hr => first | (go_simp; done) | (go_simp; rfl)); (case hp => exact (Reps.none _ _))
     intro bK eR ho20 hb hg_ hnew_
     clear hg_ hnew_
     (first | rw [← bV.out] at ho20 | (simp only [Int.reduceToNat] at ho20; rw [← bV.out] at ho20))
     have aX := aM (Kd.R_lower ho20 (below_size (bl HB.out)))
     replace aC := rB aC hb
     replace HB := rS HB hb
     clear hb ho20
     refine hK.out _ _ ⟨(xB HB aH), (xB HB aI), (xB HB aJ)⟩ (fun hHeld => ?_)
     clear hK K
     refine norm_ (a' := ?_) ?_ ?_
     rotate_left
     ·show Act.put _ (some 38) _ = _
      simp only [Act.put, sA, sZ, sS, i64_w, i32_w]
      rfl
     refine two_ (i := 19) (j := 21) (Ni := some 45) (Nj := some 7) (bv 23 1048575) (bv 23 2621439) rfl rfl rfl rfl (two_of HT_.out (by kernel_rfl)) (by decide) (by decide) (fun K hK => ?_) (fun K hK => ?_)
     ·skip
      refine Kd.R_append_rows_step (Kd.int .u8) (w0 := w) w.heap.size (by rfl) (.tmp 38) (.tmp 44) 22 5 (.int .u8 0) 1 rfl Try.underlying22 info5 rfl (by decide) (by omega) bK cA ((l0.take ((wrap64 (aD + aT)) : Int).toNat).drop (aD : Int).toNat) _ _ _ (fun _ => True) (fun _ => False) rfl rfl ?aO ?aR (fun _ _ h => h) (fun _ h => h.elim) ?aF ?aB ?aS ?aL ?_
      (case aR => first | (rw [← show ((l0.take ((wrap64 (aD + aT)) : Int).toNat).drop (aD : Int).toNat).length = ((wrap64 (aD + aT)).toNat - aD.toNat) from (by rw [List.length_drop, List.length_take]; have h_ : ((wrap64 (aD + aT)) : Int) ≤ (l0.length : Int) := dT; omega)]; repeat (first | exact (cB bJ.out HB.out) | (with_reducible refine Kd.C_alloc ?_ _) | (with_reducible refine Kd.C_drewN ?_ _) | (with_reducible refine Kd.C_drew ?_))) | (repeat (first | exact (cB bJ.out HB.out) | (with_reducible refine Kd.C_alloc ?_ _) | (with_reducible refine Kd.C_drewN ?_ _) | (with_reducible refine Kd.C_drew ?_))))
      (case aB => exact (bl HB.out))
      (case aF => exact (fun _ _ => trivial))
      (case aO => exact (kr aX.out))
      (case aS => exact (below_size (bl HB.out)))
      (case aL => have := LMc14.out; have hlx_ := (show ((l0.take ((wrap64 (aD + aT)) : Int).toNat).drop (aD : Int).toNat).length = ((wrap64 (aD + aT)).toNat - aD.toNat) from (by rw [List.length_drop, List.length_take]; have h_ : ((wrap64 (aD + aT)) : Int) ≤ (l0.length : Int) := dT; omega)); omega)
      intro bX eS ho hb hg hat
      rw [← bZ.out] at ho
      have aE := aM (ho)
      replace aC := aM (blk_grown (bk aC.out) hg (Kd.R_ne aX.out aC.out (by decide)))
      replace HB := aM (hb)
      clear aX
      clear ho hb hg hat
      obtain ⟨eC, eD, dS⟩ := Kd.R_slice aE.out
      (first | subst dS | (injection dS with f1_ f2_ f3_; have f4_ := f1_.symm; have f5_ := f3_.symm; clear f1_ f2_ f3_; subst f4_; subst f5_))
      refine hK.out _ _ ⟨(xB HB aH), (xB HB aI), (xB HB aJ)⟩ (fun hHeld => ?_)
      clear hK K
      refine norm_ (a' := ?_) ?_ ?_
      rotate_left
      ·show Act.put _ (some 45) _ = _
       simp only [Act.put, sA, sZ, sS, i64_w, i32_w]
       rfl
      refine pZ 20 46 (bv 23 2097151) HT_ ?_
      refine one_ (i := 21) (N := some 7) (bv 23 4194303) rfl rfl (one_of HT_.out (by kernel_rfl)) (by decide) (fun K hK => ?_)
      refine box_step ?hg (N := 7) ?hd (cs := #[.int .i64 0, .int .i64 0, .int .i64 0, .slice none 0 0]) (t := 25) ?hr ?_; (case hd => rfl); (case hg => rfl); (case hr => first | (go_simp; done) | (go_simp; rfl))
      intro aG hg gR hbox hb
      have aA := aM (hbox)
      have aW := gF hg HB
      have bL := gF hg HB
      have aN := nM hg aC
      have aQ := nH hg aC
      replace aE := rK aE hb
      replace aC := rB aC hb
      replace HB := rS HB hb
      clear hb hbox hg
      refine hK.out _ _ ⟨(xB HB aH), (xB HB aI), (xB HB aJ)⟩ (fun hHeld => ?_)
      clear hK K
      refine norm_ (a' := ?_) ?_ ?_
      rotate_left
      ·show Act.put _ (some 7) _ = _
       simp only [Act.put, sA, sZ, sS, i64_w, i32_w]
       rfl
      exact norm_ (by simp only [putAll, Act.put, sA, sZ, sS]) (hCont (bK, .slice eC aV.length eD, aG) _ ⟨hHeld, (kr aE.out), (bk aC.out), (bk aA.out), aW.out, bL.out, aN.out, aQ.out, (bl HB.out)⟩)
     ·skip
      refine box_step ?hg (N := 7) ?hd (cs := #[.int .i64 0, .int .i64 0, .int .i64 0, .slice none 0 0]) (t := 25) ?hr ?_; (case hd => rfl); (case hg => rfl); (case hr => first | (go_simp; done) | (go_simp; rfl))
      intro aG hg eS hbox hb
      have aA := aM (hbox)
      have aW := gF hg HB
      have bL := gF hg HB
      have aN := nM hg aC
      have aQ := nH hg aC
      replace aX := rK aX hb
      replace aC := rB aC hb
      replace HB := rS HB hb
      clear hb hbox hg
      refine hK.out _ _ ⟨(xB HB aH), (xB HB aI), (xB HB aJ)⟩ (fun hHeld => ?_)
      clear hK K
      refine norm_ (a' := ?_) ?_ ?_
      rotate_left
      ·show Act.put _ (some 7) _ = _
       simp only [Act.put, sA, sZ, sS, i64_w, i32_w]
       rfl
      refine one_ (i := 19) (N := some 45) (bv 23 3145727) rfl rfl (one_of HT_.out (by kernel_rfl)) (by decide) (fun K hK => ?_)
      refine Kd.R_append_rows_step (Kd.int .u8) (w0 := w) w.heap.size (by rfl) (.tmp 38) (.tmp 44) 22 5 (.int .u8 0) 1 rfl Try.underlying22 info5 rfl (by decide) (by omega) bK cA ((l0.take ((wrap64 (aD + aT)) : Int).toNat).drop (aD : Int).toNat) _ _ _ (fun _ => True) (fun _ => False) rfl rfl ?aO ?aR (fun _ _ h => h) (fun _ h => h.elim) ?aF ?aB ?aS ?aL ?_
      (case aR => first | (rw [← show ((l0.take ((wrap64 (aD + aT)) : Int).toNat).drop (aD : Int).toNat).length = ((wrap64 (aD + aT)).toNat - aD.toNat) from (by rw [List.length_drop, List.length_take]; have h_ : ((wrap64 (aD + aT)) : Int) ≤ (l0.length : Int) := dT; omega)]; repeat (first | exact (cB bJ.out HB.out) | (with_reducible refine Kd.C_alloc ?_ _) | (with_reducible refine Kd.C_drewN ?_ _) | (with_reducible refine Kd.C_drew ?_))) | (repeat (first | exact (cB bJ.out HB.out) | (with_reducible refine Kd.C_alloc ?_ _) | (with_reducible refine Kd.C_drewN ?_ _) | (with_reducible refine Kd.C_drew ?_))))
      (case aB => exact (bl HB.out))
      (case aF => exact (fun _ _ => trivial))
      (case aO => exact (kr aX.out))
      (case aS => exact (below_size (bl HB.out)))
      (case aL => have := LMc14.out; have hlx_ := (show ((l0.take ((wrap64 (aD + aT)) : Int).toNat).drop (aD : Int).toNat).length = ((wrap64 (aD + aT)).toNat - aD.toNat) from (by rw [List.length_drop, List.length_take]; have h_ : ((wrap64 (aD + aT)) : Int) ≤ (l0.length : Int) := dT; omega)); omega)
      intro bX eT ho hb hg hat
      rw [← bZ.out] at ho
      have aE := aM (ho)
      replace aC := aM (blk_grown (bk aC.out) hg (Kd.R_ne aX.out aC.out (by decide)))
      replace aA := aM (blk_grown (bk aA.out) hg (Kd.R_ne aX.out aA.out (by decide)))
      replace HB := aM (hb)
      clear aX
      clear ho hb hg hat
      obtain ⟨dC, dD, cR⟩ := Kd.R_slice aE.out
      (first | subst cR | (injection cR with f1_ f2_ f3_; have f4_ := f1_.symm; have f5_ := f3_.symm; clear f1_ f2_ f3_; subst f4_; subst f5_))
      refine hK.out _ _ ⟨(xB HB aH), (xB HB aI), (xB HB aJ)⟩ (fun hHeld => ?_)
      clear hK K
      refine norm_ (a' := ?_) ?_ ?_
      rotate_left
      ·show Act.put _ (some 45) _ = _
       simp only [Act.put, sA, sZ, sS, i64_w, i32_w]
       rfl
      refine pZ 20 46 (bv 23 4194303) HT_ ?_
      exact norm_ (by simp only [putAll, Act.put, sA, sZ, sS]) (hCont (bK, .slice dC aV.length dD, aG) _ ⟨hHeld, (kr aE.out), (bk aC.out), (bk aA.out), aW.out, bL.out, aN.out, aQ.out, (bl HB.out)⟩)
    ·skip
     refine box_step ?hg (N := 7) ?hd (cs := #[.int .i64 0, .int .i64 0, .int .i64 0, .slice none 0 0]) (t := 25) ?hr ?_; (case hd => rfl); (case hg => rfl); (case hr => first | (go_simp; done) | (go_simp; rfl))
     intro aG hg eR hbox hb
     have aA := aM (hbox)
     have aW := gF hg HB
     have bL := gF hg HB
     have aN := nM hg aC
     have aQ := nH hg aC
     replace aC := rB aC hb
     replace HB := rS HB hb
     clear hb hbox hg
     refine hK.out _ _ ⟨(xB HB aH), (xB HB aI), (xB HB aJ)⟩ (fun hHeld => ?_)
     clear hK K
     refine norm_ (a' := ?_) ?_ ?_
     rotate_left
     ·show Act.put _ (some 7) _ = _
      simp only [Act.put, sA, sZ, sS, i64_w, i32_w]
      rfl
     refine one_ (i := 12) (N := some 38) (bv 23 2621439) rfl rfl (one_of HT_.out (by kernel_rfl)) (by decide) (fun K hK => ?_)
     refine Kd.R_lit_step (Kd.int .u8) _ 5 ?hg (N := 38) ?hd (xs := ([] : List Int)) (inner := []) (ok := fun _ => True) (okp := fun _ => True) ?hr ?hp (fun _ hk => hk) trivial (Below.refl _ _) (Nat.le_refl _) (by simp) ?_; (case hd => rfl); (case hg => rfl); (case hr => first | (go_simp; done) | (go_simp; rfl)); (case hp => exact (Reps.none _ _))
     intro bK gS ho21 hb hg_ hnew_
     clear hg_ hnew_
     (first | rw [← bV.out] at ho21 | (simp only [Int.reduceToNat] at ho21; rw [← bV.out] at ho21))
     have aX := aM (Kd.R_lower ho21 (below_size (bl HB.out)))
     replace aC := rB aC hb
     replace aA := rB aA hb
     replace HB := rS HB hb
     clear hb ho21
     refine hK.out _ _ ⟨(xB HB aH), (xB HB aI), (xB HB aJ)⟩ (fun hHeld => ?_)
     clear hK K
     refine norm_ (a' := ?_) ?_ ?_
     rotate_left
     ·show Act.put _ (some 38) _ = _
      simp only [Act.put, sA, sZ, sS, i64_w, i32_w]
      rfl
     refine one_ (i := 19) (N := some 45) (bv 23 3145727) rfl rfl (one_of HT_.out (by kernel_rfl)) (by decide) (fun K hK => ?_)
     refine Kd.R_append_rows_step (Kd.int .u8) (w0 := w) w.heap.size (by rfl) (.tmp 38) (.tmp 44) 22 5 (.int .u8 0) 1 rfl Try.underlying22 info5 rfl (by decide) (by omega) bK cA ((l0.take ((wrap64 (aD + aT)) : Int).toNat).drop (aD : Int).toNat) _ _ _ (fun _ => True) (fun _ => False) rfl rfl ?aO ?aR (fun _ _ h => h) (fun _ h => h.elim) ?aF ?aB ?aS ?aL ?_
     (case aR => first | (rw [← show ((l0.take ((wrap64 (aD + aT)) : Int).toNat).drop (aD : Int).toNat).length = ((wrap64 (aD + aT)).toNat - aD.toNat) from (by rw [List.length_drop, List.length_take]; have h_ : ((wrap64 (aD + aT)) : Int) ≤ (l0.length : Int) := dT; omega)]; repeat (first | exact (cB bJ.out HB.out) | (with_reducible refine Kd.C_alloc ?_ _) | (with_reducible refine Kd.C_drewN ?_ _) | (with_reducible refine Kd.C_drew ?_))) | (repeat (first | exact (cB bJ.out HB.out) | (with_reducible refine Kd.C_alloc ?_ _) | (with_reducible refine Kd.C_drewN ?_ _) | (with_reducible refine Kd.C_drew ?_))))
     (case aB => exact (bl HB.out))
     (case aF => exact (fun _ _ => trivial))
     (case aO => exact (kr aX.out))
     (case aS => exact (below_size (bl HB.out)))
     (case aL => have := LMc14.out; have hlx_ := (show ((l0.take ((wrap64 (aD + aT)) : Int).toNat).drop (aD : Int).toNat).length = ((wrap64 (aD + aT)).toNat - aD.toNat) from (by rw [List.length_drop, List.length_take]; have h_ : ((wrap64 (aD + aT)) : Int) ≤ (l0.length : Int) := dT; omega)); omega)
     intro bX eT ho hb hg hat
     rw [← bZ.out] at ho
     have aE := aM (ho)
     replace aC := aM (blk_grown (bk aC.out) hg (Kd.R_ne aX.out aC.out (by decide)))
     replace aA := aM (blk_grown (bk aA.out) hg (Kd.R_ne aX.out aA.out (by decide)))
     replace HB := aM (hb)
     clear aX
     clear ho hb hg hat
     obtain ⟨dC, dD, cR⟩ := Kd.R_slice aE.out
     (first | subst cR | (injection cR with f1_ f2_ f3_; have f4_ := f1_.symm; have f5_ := f3_.symm; clear f1_ f2_ f3_; subst f4_; subst f5_))
     refine hK.out _ _ ⟨(xB HB aH), (xB HB aI), (xB HB aJ)⟩ (fun hHeld => ?_)
     clear hK K
     refine norm_ (a' := ?_) ?_ ?_
     rotate_left
     ·show Act.put _ (some 45) _ = _
      simp only [Act.put, sA, sZ, sS, i64_w, i32_w]
      rfl
     refine pZ 20 46 (bv 23 4194303) HT_ ?_
     exact norm_ (by simp only [putAll, Act.put, sA, sZ, sS]) (hCont (bK, .slice dC aV.length dD, aG) _ ⟨hHeld, (kr aE.out), (bk aC.out), (bk aA.out), aW.out, bL.out, aN.out, aQ.out, (bl HB.out)⟩)
   rintro ⟨bK, bX, aG⟩ cS ⟨hS_, h0_, h1_, h2_, h3_, h4_, h5_, h6_, h7_⟩
   have aE : Aside0 (Kd.R (Kd.int .u8) 5 cS w.heap.size (fun _ => True) bX aV) := ⟨h0_⟩
   have aA : Aside0 (cS.heap[aG]? = some (.cells #[.int .i64 0, .int .i64 0, .int .i64 0, .slice none 0 0] 25 (0, 0))) := ⟨h2_⟩
   have aW : Aside0 (w.heap.size ≤ aG) := ⟨h3_⟩
   have bL : Aside0 (w.heap.size ≤ aG) := ⟨h4_⟩
   have aN : Aside0 (bA ≠ aG) := ⟨h5_⟩
   have aQ : Aside0 (aG ≠ bA) := ⟨h6_⟩
   replace aC : Aside0 (cS.heap[bA]? = some (.cells #[.int .i64 0, .int .i64 0, .int .i64 0, .slice none 0 0] 25 (0, 0))) := ⟨h1_⟩
   replace HB : Aside0 (Below w.heap.size w cS) := ⟨h7_⟩
   clear h0_ h1_ h2_ h3_ h4_ h5_ h6_ h7_
   have hHeld : cS.cell? aK = some (.int .u8 (rd l0 0)) ∧ cS.cell? ⟨aK.block, aK.off + 1, none⟩ = some (.int .u8 (rd l0 1)) ∧ cS.cell? ⟨aK.block, aK.off + 2, none⟩ = some (.int .u8 (rd l0 2)) := hS_
   obtain ⟨bM, bN, dU⟩ := Kd.R_slice aE.out
   (first | subst dU | (injection dU with f1_ f2_ f3_; have f4_ := f1_.symm; have f5_ := f3_.symm; clear f1_ f2_ f3_; subst f4_; subst f5_))
   refine norm_ (a' := ?_) ?_ ?_
   rotate_left
   ·simp only [putAll, Act.put, sA, sZ, sS]
    rfl
   refine one_ (i := 22) (N := none) (bv 23 8388607) rfl rfl (one_of HT_.out (by kernel_rfl)) (by decide) (fun K hK => ?_)
   have fX := cI aA.out 0
   have hfs26 := bF aA.out 0
   have hns26_0 := aN.out
   have hms26_0 := aQ.out
   have fY := cI aA.out 1
   have hfs27 := bF aA.out 1
   have hns27_0 := aN.out
   have hms27_0 := aQ.out
   have gA := cI aA.out 2
   have hfs28 := bF aA.out 2
   have hns28_0 := aN.out
   have hms28_0 := aQ.out
   have gB := cI aA.out 3
   have hfs29 := bF aA.out 3
   have hns29_0 := aN.out
   have hms29_0 := aQ.out
   refine skip_ (w1 := ?_) (by rfl) rfl ?_ ?_
   rotate_left
   ·go_simp
    rfl
   refine hK.out _ _ ⟨((cF aH aW.out).trans (((cF aH aW.out).trans (((cF aH aW.out).trans (((cF aH aW.out).trans (hHeld.1)))))))), ((cF aI aW.out).trans (((cF aI aW.out).trans (((cF aI aW.out).trans (((cF aI aW.out).trans (hHeld.2.1)))))))), ((cF aJ aW.out).trans (((cF aJ aW.out).trans (((cF aJ aW.out).trans (((cF aJ aW.out).trans (hHeld.2.2))))))))⟩ (fun hHeld => ?_)
   clear hK K
   refine done_ (done_of HT_.out (by kernel_rfl)) ?_
   try go_wp2
   refine nW (fun W => Aside0 (Kd.R (Kd.int .u8) 5 W w.heap.size (fun _ => True) (.slice bM aV.length bN) aV) ∧ Aside0 (W.heap[bA]? = some (.cells #[.int .i64 0, .int .i64 0, .int .i64 0, .slice none 0 0] 25 (0, 0))) ∧ Aside0 (W.heap[aG]? = some (.cells #[.int .i64 (wrap64 (rd l0 0)), .int .i64 (wrap64 (rd l0 1)), .int .i64 (wrap64 (rd l0 2)), .slice bM aV.length bN] 25 (0, 0))) ∧ Aside0 (Below w.heap.size w W)) ⟨⟨kr (Kd.R_mono (kF (p := ⟨aG, 3, none⟩) (kF (p := ⟨aG, 2, none⟩) (kF (p := ⟨aG, 1, none⟩) (kF (p := ⟨aG, 0, none⟩) (Kd.R_types aE.out aA.out (by decide)) (fun _ hk => hk.2) (.int .i64 (wrap64 (rd l0 0)))) (fun _ hk => hk.2) (.int .i64 (wrap64 (rd l0 1)))) (fun _ hk => hk.2) (.int .i64 (wrap64 (rd l0 2)))) (fun _ hk => hk.2) (.slice bM aV.length bN)) (fun _ hk => trivial))⟩, ⟨fm aC.out⟩, ⟨bm aA.out⟩, ⟨bl HB.out⟩⟩ ?_
   intro eU nn_
   replace aE := nn_.1
   replace aC := nn_.2.1
   replace aA := nn_.2.2.1
   replace HB := nn_.2.2.2
   clear nn_
   replace aE := aM (Kd.R_drew aE.out)
   replace aC := aM (blk_drew aC.out)
   replace aA := aM (blk_drew aA.out)
   replace HB := aM (below_drew1 HB.out)
   refine start_ (n := 6) (S := fun w' => cS4 w' aG (.int .i64 (wrap64 (rd l0 0))) (.int .i64 (wrap64 (rd l0 1))) (.int .i64 (wrap64 (rd l0 2))) (.slice bM aV.length bN)) (ds := []) (dn 6 0) (by kernel_rfl) rfl rfl ⟨cI aA.out 0, cI aA.out 1, cI aA.out 2, cI aA.out 3⟩ (fun hHeld => ?_)
   generalize eU.drew = gT at aE aC aA HB hHeld ⊢
   refine pure_ (i := 3) (N := some 50) (v := ?_) (a' := ?_) (bv 6 8) rfl rfl (by kernel_rfl) (fun _ _ _ h => h) (Or.inl ⟨by rfl, ?_⟩) ?_ ?_
   rotate_left
   ·intro w'
    go_simp
    with_reducible rfl
   rotate_left
   ·simp only [Act.put, sA, sZ, sS, i64_w, i32_w]
    rfl
   refine take_ (i := 0) (N := some 47) (v := ?_) (a' := ?_) (bv 6 9) rfl rfl (by kernel_rfl) (fun _ _ _ h => h) (Or.inl ⟨by rfl, ?_⟩) hHeld ?_ ?_
   rotate_left
   ·rintro w' ⟨s0, s1, s2, s3⟩
    go_simp
    with_reducible rfl
   rotate_left
   ·simp only [Act.put, sA, sZ, sS, i64_w, i32_w]
    rfl
   refine join_ (σ := Value) 1 (bv 6 31) (fun s_ => [(48, s_), (49, .string (strOfNums bO)), (51, .string (strOfNums l0))]) (fun s_ w' => (w'.cell? ⟨aG, 0, none⟩ = some (.int .i64 (wrap64 (rd l0 0))) ∧ w'.cell? ⟨aG, 1, none⟩ = some (.int .i64 (wrap64 (rd l0 1))) ∧ w'.cell? ⟨aG, 2, none⟩ = some (.int .i64 (wrap64 (rd l0 2))) ∧ w'.cell? ⟨aG, 3, none⟩ = some (.slice bM aV.length bN)) ∧ (Kd.R (Kd.int .u8) 5 w' w.heap.size (fun k_ => some k_ ≠ (s_ : Value).ownBlock) (.slice bM aV.length bN) aV) ∧ (Kd.R (Kd.int .u8) 5 w' w.heap.size (fun k_ => some k_ ≠ (.slice bM aV.length bN : Value).ownBlock) s_ bO) ∧ (w'.heap[bA]? = some (.cells #[.int .i64 0, .int .i64 0, .int .i64 0, .slice none 0 0] 25 (0, 0))) ∧ (w'.heap[aG]? = some (.cells #[.int .i64 (wrap64 (rd l0 0)), .int .i64 (wrap64 (rd l0 1)), .int .i64 (wrap64 (rd l0 2)), .slice bM aV.length bN] 25 (0, 0))) ∧ (Below w.heap.size w w')) ?_ ?_
   rotate_left
   ·intro hCont
    refine two_ (i := 1) (j := 4) (Ni := some 48) (Nj := some 51) (bv 6 11) (bv 6 25) rfl rfl rfl rfl (by kernel_rfl) (by decide) (by decide) (fun K hK => ?_) (fun K hK => ?_)
    ·skip
     refine goes_ Try.func13 (by kernel_rfl) rfl #[.agg #[.int .i64 (wrap64 (rd l0 0)), .int .i64 (wrap64 (rd l0 1)), .int .i64 (wrap64 (rd l0 2)), .slice bM aV.length bN]] (by rfl) rfl rfl xR ?_
     with_reducible refine (spec_FrameBytes.calls dE (wrap64 (rd l0 0)) (wrap64 (rd l0 1)) (wrap64 (rd l0 2)) _ _ aV bO _ ?side1 ?side2 dL.out).mono ?_
     (case side1 => exact cM ((Kd.R_reads' aE.out).2.2))
     (case side2 => exact (Kd.R_reads' aE.out).2.1)
     rintro e gU ⟨bP, rfl, ho0, hb⟩
     refine ⟨_, rfl, ?_⟩
     have bI := aM (Kd.R_lower (Kd.R_new' ho0 (Kd.R_lt (kr aE.out))) (below_size (bl HB.out)))
     replace aE := aM (Kd.R_elder' (kr aE.out) (Kd.R_base ho0) hb)
     replace aC := rB aC hb
     replace aA := rB aA hb
     replace HB := rS HB hb
     (try clear hb)
     (try clear hb2)
     (try clear hk)
     (try clear hi)
     (try clear ho0)
     refine hK.out _ _ ⟨cI aA.out 0, cI aA.out 1, cI aA.out 2, cI aA.out 3⟩ (fun hHeld => ?_)
     clear hK K
     refine norm_ (a' := ?_) ?_ ?_
     rotate_left
     ·show Act.put _ (some 48) _ = _
      simp only [Act.put, sA, sZ, sS, i64_w, i32_w]
      rfl
     refine two_ (i := 2) (j := 4) (Ni := some 49) (Nj := some 51) (bv 6 15) (bv 6 27) rfl rfl rfl rfl (by kernel_rfl) (by decide) (by decide) (fun K hK => ?_) (fun K hK => ?_)
     ·skip
      have hcv33 := own_string (P := Try.prog) Try.underlying22 Try.underlying5 Try.underlying9 (Kd.own_of_R bI.out)
      refine value_ (w1 := ?_) (v := ?_) (by rfl) rfl ?_ ?_
      rotate_left 2
      ·go_simp
       constructor
       ·rfl
       ·rfl
      clear hcv33
      refine hK.out _ _ ⟨cI aA.out 0, cI aA.out 1, cI aA.out 2, cI aA.out 3⟩ (fun hHeld => ?_)
      clear hK K
      refine norm_ (a' := ?_) ?_ ?_
      rotate_left
      ·show Act.put _ (some 49) _ = _
       simp only [Act.put, sA, sZ, sS, i64_w, i32_w]
       rfl
      refine one_ (i := 4) (N := some 51) (bv 6 31) rfl rfl (by kernel_rfl) (by decide) (fun K hK => ?_)
      have hcv34 := Kd.C_string (P := Try.prog) (A := (some aK)) (c := c0) Try.underlying22 Try.underlying5 Try.underlying9 (cB bU.out HB.out)
      refine value_ (w1 := ?_) (v := ?_) (by rfl) rfl ?_ ?_
      rotate_left 2
      ·go_simp
       constructor
       ·rfl
       ·rfl
      clear hcv34
      refine hK.out _ _ ⟨cI aA.out 0, cI aA.out 1, cI aA.out 2, cI aA.out 3⟩ (fun hHeld => ?_)
      clear hK K
      refine norm_ (a' := ?_) ?_ ?_
      rotate_left
      ·show Act.put _ (some 51) _ = _
       simp only [Act.put, sA, sZ, sS, i64_w, i32_w]
       rfl
      exact norm_ (by simp only [putAll, Act.put, sA, sZ, sS]) (hCont (bP) _ ⟨hHeld, (kr (Kd.R_mono aE.out (fun _ hk => hk.2))), (kr (Kd.R_mono bI.out (fun _ hk => hk.2))), (bk aC.out), (bk aA.out), (bl HB.out)⟩)
     ·skip
      have hcv33 := Kd.C_string (P := Try.prog) (A := (some aK)) (c := c0) Try.underlying22 Try.underlying5 Try.underlying9 (cB bU.out HB.out)
      refine value_ (w1 := ?_) (v := ?_) (by rfl) rfl ?_ ?_
      rotate_left 2
      ·go_simp
       constructor
       ·rfl
       ·rfl
      clear hcv33
      refine hK.out _ _ ⟨cI aA.out 0, cI aA.out 1, cI aA.out 2, cI aA.out 3⟩ (fun hHeld => ?_)
      clear hK K
      refine norm_ (a' := ?_) ?_ ?_
      rotate_left
      ·show Act.put _ (some 51) _ = _
       simp only [Act.put, sA, sZ, sS, i64_w, i32_w]
       rfl
      refine one_ (i := 2) (N := some 49) (bv 6 31) rfl rfl (by kernel_rfl) (by decide) (fun K hK => ?_)
      have hcv34 := own_string (P := Try.prog) Try.underlying22 Try.underlying5 Try.underlying9 (Kd.own_of_R bI.out)
      refine value_ (w1 := ?_) (v := ?_) (by rfl) rfl ?_ ?_
      rotate_left 2
      ·go_simp
       constructor
       ·rfl
       ·rfl
      clear hcv34
      refine hK.out _ _ ⟨cI aA.out 0, cI aA.out 1, cI aA.out 2, cI aA.out 3⟩ (fun hHeld => ?_)
      clear hK K
      refine norm_ (a' := ?_) ?_ ?_
      rotate_left
      ·show Act.put _ (some 49) _ = _
       simp only [Act.put, sA, sZ, sS, i64_w, i32_w]
       rfl
      exact norm_ (by simp only [putAll, Act.put, sA, sZ, sS]) (hCont (bP) _ ⟨hHeld, (kr (Kd.R_mono aE.out (fun _ hk => hk.2))), (kr (Kd.R_mono bI.out (fun _ hk => hk.2))), (bk aC.out), (bk aA.out), (bl HB.out)⟩)
    ·skip
     have hcv32 := Kd.C_string (P := Try.prog) (A := (some aK)) (c := c0) Try.underlying22 Try.underlying5 Try.underlying9 (cB bU.out HB.out)
     refine value_ (w1 := ?_) (v := ?_) (by rfl) rfl ?_ ?_
     rotate_left 2
     ·go_simp
      constructor
      ·rfl
      ·rfl
     clear hcv32
     refine hK.out _ _ ⟨cI aA.out 0, cI aA.out 1, cI aA.out 2, cI aA.out 3⟩ (fun hHeld => ?_)
     clear hK K
     refine norm_ (a' := ?_) ?_ ?_
     rotate_left
     ·show Act.put _ (some 51) _ = _
      simp only [Act.put, sA, sZ, sS, i64_w, i32_w]
      rfl
     refine one_ (i := 1) (N := some 48) (bv 6 27) rfl rfl (by kernel_rfl) (by decide) (fun K hK => ?_)
     refine goes_ Try.func13 (by kernel_rfl) rfl #[.agg #[.int .i64 (wrap64 (rd l0 0)), .int .i64 (wrap64 (rd l0 1)), .int .i64 (wrap64 (rd l0 2)), .slice bM aV.length bN]] (by rfl) rfl rfl xR ?_
     with_reducible refine (spec_FrameBytes.calls dE (wrap64 (rd l0 0)) (wrap64 (rd l0 1)) (wrap64 (rd l0 2)) _ _ aV bO _ ?side1 ?side2 dL.out).mono ?_
     (case side1 => exact cM ((Kd.R_reads' aE.out).2.2))
     (case side2 => exact (Kd.R_reads' aE.out).2.1)
     rintro e gV ⟨bP, rfl, ho0, hb⟩
     refine ⟨_, rfl, ?_⟩
     have bI := aM (Kd.R_lower (Kd.R_new' ho0 (Kd.R_lt (kr aE.out))) (below_size (bl HB.out)))
     replace aE := aM (Kd.R_elder' (kr aE.out) (Kd.R_base ho0) hb)
     replace aC := rB aC hb
     replace aA := rB aA hb
     replace HB := rS HB hb
     (try clear hb)
     (try clear hb2)
     (try clear hk)
     (try clear hi)
     (try clear ho0)
     refine hK.out _ _ ⟨cI aA.out 0, cI aA.out 1, cI aA.out 2, cI aA.out 3⟩ (fun hHeld => ?_)
     clear hK K
     refine norm_ (a' := ?_) ?_ ?_
     rotate_left
     ·show Act.put _ (some 48) _ = _
      simp only [Act.put, sA, sZ, sS, i64_w, i32_w]
      rfl
     refine one_ (i := 2) (N := some 49) (bv 6 31) rfl rfl (by kernel_rfl) (by decide) (fun K hK => ?_)
     have hcv34 := own_string (P := Try.prog) Try.underlying22 Try.underlying5 Try.underlying9 (Kd.own_of_R bI.out)
     refine value_ (w1 := ?_) (v := ?_) (by rfl) rfl ?_ ?_
     rotate_left 2
     ·go_simp
      constructor
      ·rfl
      ·rfl
     clear hcv34
     refine hK.out _ _ ⟨cI aA.out 0, cI aA.out 1, cI aA.out 2, cI aA.out 3⟩ (fun hHeld => ?_)
     clear hK K
     refine norm_ (a' := ?_) ?_ ?_
     rotate_left
     ·show Act.put _ (some 49) _ = _
      simp only [Act.put, sA, sZ, sS, i64_w, i32_w]
      rfl
     exact norm_ (by simp only [putAll, Act.put, sA, sZ, sS]) (hCont (bP) _ ⟨hHeld, (kr (Kd.R_mono aE.out (fun _ hk => hk.2))), (kr (Kd.R_mono bI.out (fun _ hk => hk.2))), (bk aC.out), (bk aA.out), (bl HB.out)⟩)
   rintro bP bY ⟨hS_, h0_, h1_, h2_, h3_, h4_⟩
   have bI : Aside0 (Kd.R (Kd.int .u8) 5 bY w.heap.size (fun k_ => some k_ ≠ (.slice bM aV.length bN : Value).ownBlock) bP bO) := ⟨h1_⟩
   replace aE : Aside0 (Kd.R (Kd.int .u8) 5 bY w.heap.size (fun k_ => some k_ ≠ (bP : Value).ownBlock) (.slice bM aV.length bN) aV) := ⟨h0_⟩
   replace aC : Aside0 (bY.heap[bA]? = some (.cells #[.int .i64 0, .int .i64 0, .int .i64 0, .slice none 0 0] 25 (0, 0))) := ⟨h2_⟩
   replace aA : Aside0 (bY.heap[aG]? = some (.cells #[.int .i64 (wrap64 (rd l0 0)), .int .i64 (wrap64 (rd l0 1)), .int .i64 (wrap64 (rd l0 2)), .slice bM aV.length bN] 25 (0, 0))) := ⟨h3_⟩
   replace HB : Aside0 (Below w.heap.size w bY) := ⟨h4_⟩
   clear h0_ h1_ h2_ h3_ h4_
   have hHeld : bY.cell? ⟨aG, 0, none⟩ = some (.int .i64 (wrap64 (rd l0 0))) ∧ bY.cell? ⟨aG, 1, none⟩ = some (.int .i64 (wrap64 (rd l0 1))) ∧ bY.cell? ⟨aG, 2, none⟩ = some (.int .i64 (wrap64 (rd l0 2))) ∧ bY.cell? ⟨aG, 3, none⟩ = some (.slice bM aV.length bN) := hS_
   refine norm_ (a' := ?_) ?_ ?_
   rotate_left
   ·simp only [putAll, Act.put, sA, sZ, sS]
    rfl
   refine pure_ (i := 5) (N := some 52) (v := ?_) (a' := ?_) (bv 6 63) rfl rfl (by kernel_rfl) (fun _ _ _ h => h) (Or.inl ⟨by rfl, ?_⟩) ?_ ?_
   rotate_left
   ·intro w'
    go_simp
    with_reducible rfl
   rotate_left
   ·simp only [Act.put, sA, sZ, sS, i64_w, i32_w]
    rfl
   refine done_ (by kernel_rfl) ?_
   have fI := aQ.out
   have fK := aN.out
   have eE : bY.cell? ⟨aG, 0, none⟩ = some (.int .i64 (wrap64 (rd l0 0))) := cI aA.out 0
   have eF : bY.cell? ⟨aG, 1, none⟩ = some (.int .i64 (wrap64 (rd l0 1))) := cI aA.out 1
   have eG : bY.cell? ⟨aG, 2, none⟩ = some (.int .i64 (wrap64 (rd l0 2))) := cI aA.out 2
   have eH := cI aA.out 3
   have eI := bF aA.out 0
   have eJ := bF aA.out 1
   have eK := bF aA.out 2
   have eL := bF aA.out 3
   have fL := cA4 aC.out
   try go_wp2
   refine bodyPost_ret (results_ct rfl _ _ bA 25 #[.int .i64 (wrap64 (rd l0 0)), .int .i64 (wrap64 (rd l0 1)), .int .i64 (wrap64 (rd l0 2)), .slice bM aV.length bN] (0, 0) _ rfl (bm aC.out) Try.underlying25 rfl (by kernel_rfl)) rfl ?_
   exact ⟨_, xW, by (with_reducible repeat (first | apply Kd.R_alloc | apply Kd.R_drewN | apply Kd.R_drew)); exact Kd.R_mono (kF (p := ⟨bA, 3, none⟩) (kF (p := ⟨bA, 2, none⟩) (kF (p := ⟨bA, 1, none⟩) (kF (p := ⟨bA, 0, none⟩) (Kd.R_types aE.out aC.out (by decide)) (fun _ hk => hk.2) (.int .i64 (wrap64 (rd l0 0)))) (fun _ hk => hk.2) (.int .i64 (wrap64 (rd l0 1)))) (fun _ hk => hk.2) (.int .i64 (wrap64 (rd l0 2)))) (fun _ hk => hk.2) (.slice bM aV.length bN)) (fun _ hk => trivial), bl HB.out⟩

end Go.Proofs.Ytaoipjdmmamkmaa.PFnFrames

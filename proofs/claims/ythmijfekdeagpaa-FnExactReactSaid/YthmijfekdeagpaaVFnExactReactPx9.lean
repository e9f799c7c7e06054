/- A part of the proof of laws.FnExactReact. No condition beyond what its theorems say. -/
import Derived.Test.YthmijfekdeagpaaVFnExactReactPx8
namespace Go.Proofs.Ythmijfekdeagpaa.PFnExactReact
open Go.RowKit Go.Proofs.YthmijfekdeagpaaW.PrintWords Go.Proofs.YthmijfekdeagpaaW.PrintLast Go.Proofs.YthmijfekdeagpaaW.PrintMore
set_option linter.unusedVariables false
set_option linter.unusedSimpArgs false

def Z21.f (k : Nat) (aA aC aD aE aG aH aI aJ : Int) : Option (Bool) := (Z47.f aA aG).bind fun aK => ((Z47.f aC aH).bind fun aN => ((Z47.f aD aI).bind fun aQ => ((Z47.f aE aJ).bind fun aT => ((Z32.f k (([aK, aN, aQ, aT] : List Int))).bind fun aV => (some (decide (aV < 0)))))))
theorem Z21.mono : ∀ a0 a1 a2 a3 a4 a5 a6 a7 k, LeO (Z21.f k a0 a1 a2 a3 a4 a5 a6 a7) (Z21.f (k + 1) a0 a1 a2 a3 a4 a5 a6 a7) := by
 intro a0 a1 a2 a3 a4 a5 a6 a7 k
 unfold Z21.f
 repeat' first|(with_reducible first|apply Z32.mono|exact lR _|exact lN _|refine lI ?_ ?_|refine lB ?_ fun _ => ?_)|exact lN _|refine lI ?_ ?_|refine lB ?_ fun _ => ?_
def Z21.T1 : Bool × List (List Nat × List Nat) := (true, [([], []), ([0], [0]), ([], []), ([2], [2]), ([1, 3], [1, 3]), ([], []), ([5], [5]), ([], []), ([7], [7]), ([6, 8, 4], [6, 8]), ([], []), ([10], [10]), ([], []), ([12], [12]), ([11, 13, 9], [11, 13]), ([], []), ([15], [15]), ([], []), ([17], [17]), ([16, 18, 14], [16, 18]), ([4, 9, 14, 19], [4, 9, 14, 19]), ([20, 19], [20]), ([21], [21]), ([22, 21, 0, 1, 2, 3, 4, 5, 6, 7, 8, 9, 10, 11, 12, 13, 14, 15, 16, 17, 18, 19, 20, 21, 22], [22])])
def Z21.B1 : List Nat := [0, 1, 0, 4, 15, 0, 32, 0, 128, 511, 0, 1024, 0, 4096, 16383, 0, 32768, 0, 131072, 524287, 1048575, 2097151, 4194303, 8388607]
theorem Z21.tab1 : rtab .any (opsOf Try.f47 1) = Z21.T1 := by kernel_rfl
theorem Z21.bits1 : waitsOk Z21.T1.2 Z21.B1 = true := by kernel_rfl
set_option maxHeartbeats 60000000 in
set_option maxRecDepth 100000 in
theorem Z21.calls (k : Nat) (aI aJ aK aN aQ aT aV aW : Int) (r : Bool) (w : World) (h : Z21.f k aI aJ aK aN aQ aT aV aW = some r) :
  Calls Try.prog 47 #[.agg #[aI, aJ, aK, aN], .agg #[aQ, aT, aV, aW]] w fun e w' => e = .returned (.bool r) ∧ Below w.heap.size w w' := by
 have cA := Try.underlying73
 have HB := aM (Below.refl w.heap.size w)
 have H : ((Z47.f aI aQ).bind fun aD => ((Z47.f aJ aT).bind fun aE => ((Z47.f aK aV).bind fun aG => ((Z47.f aN aW).bind fun aH => ((Z32.f k (([aD, aE, aG, aH] : List Int))).bind fun bA => (some (decide (bA < 0)))))))) = some r := h
 clear h
 obtain ⟨aD, bL, H⟩ := hB H
 have A3 := aM bL
 clear bL
 obtain ⟨aE, bM, H⟩ := hB H
 have A4 := aM bM
 clear bM
 obtain ⟨aG, bN, H⟩ := hB H
 have A5 := aM bN
 clear bN
 obtain ⟨aH, bO, H⟩ := hB H
 have A6 := aM bO
 clear bO
 obtain ⟨bG, aX⟩ : ∃ y_ : List Int, y_ = (([aD, aE, aG, aH] : List Int)) := ⟨_, rfl⟩
 replace H : ((Z32.f k bG).bind fun bA => (some (decide (bA < 0)))) = some r := by first | (rw [aX]; with_reducible exact H) | (have H2_ := (Option.bind_some _ _).symm.trans H; rw [aX]; with_reducible exact H2_) | (have H2_ := (Option.bind_some _ _).symm.trans H; with_reducible exact H2_) | with_reducible exact H | (rw [aX]; exact H) | exact H
 have bH := aM aX
 clear aX
 obtain ⟨bA, bP, H⟩ := hB H
 have A7 := aM bP
 clear bP
 obtain rfl := Option.some.inj H
 go_enter Try.func47, Try.ntmps47
 try go_wp2_with (first | ((with_reducible refine gD (N := 2) rfl ?_); refine bE (N := 2) (cs := #[aI, aJ, aK, aN]) (t := 73) ?_; intro bJ hg w8 hbox hb; have aA := aM (hbox); have bW := gF hg HB; have bX := gF hg HB; replace HB := rS HB hb; clear hb hbox hg) | ((with_reducible refine gD (N := 3) rfl ?_); refine bE (N := 3) (cs := #[aQ, aT, aV, aW]) (t := 73) ?_; intro bK hg w9 hbox hb; have aC := aM (hbox); have bY := gF hg HB; have bZ := gF hg HB; have bQ := nM hg aA; have bT := nH hg aA; replace aA := rB aA hb; replace HB := rS HB hb; clear hb hbox hg))
 replace aA := aM (blk_drew aA.out)
 replace aC := aM (blk_drew aC.out)
 replace HB := aM (below_drew1 HB.out)
 refine start_ (n := 24) (S := fun w' => cT4 w' bJ (.int .i64 aI) (.int .i64 aJ) (.int .i64 aK) (.int .i64 aN) (cS4 w' bK (.int .i64 aQ) (.int .i64 aT) (.int .i64 aV) (.int .i64 aW))) (ds := []) (dn 24 0) (by kernel_rfl) rfl rfl ⟨cI aA.out 0, cI aA.out 1, cI aA.out 2, cI aA.out 3, cI aC.out 0, cI aC.out 1, cI aC.out 2, cI aC.out 3⟩ (fun hHeld => ?_); refine with_tabW Z21.tab1 Z21.bits1 (fun HT_ HW_ => ?_)
 generalize w9.drew = cD at aA aC HB hHeld ⊢
 refine nY (N := some 5) HT_ ?_
 refine pZ 2 7 (bv 24 5) HT_ ?_
 refine pZ 5 10 (bv 24 37) HT_ ?_
 refine pZ 7 12 (bv 24 165) HT_ ?_
 refine pZ 10 15 (bv 24 1189) HT_ ?_
 refine pZ 12 17 (bv 24 5285) HT_ ?_
 refine pZ 15 20 (bv 24 38053) HT_ ?_
 refine pZ 17 22 (bv 24 169125) HT_ ?_
 refine aZ 1 6 (bv 24 169127) HT_ HW_ hHeld ?_
 refine aZ 3 8 (bv 24 169135) HT_ HW_ hHeld ?_
 refine aZ 6 11 (bv 24 169199) HT_ HW_ hHeld ?_
 refine aZ 8 13 (bv 24 169455) HT_ HW_ hHeld ?_
 refine aZ 11 16 (bv 24 171503) HT_ HW_ hHeld ?_
 refine aZ 13 18 (bv 24 179695) HT_ HW_ hHeld ?_
 refine aZ 16 21 (bv 24 245231) HT_ HW_ hHeld ?_
 refine aZ 18 23 (bv 24 507375) HT_ HW_ hHeld ?_
 refine one_ (i := 4) (N := some 9) (bv 24 507391) rfl rfl (one_of HT_.out (by kernel_rfl)) (by decide) (fun K hK => ?_)
 refine goes_ Try.func125 (by kernel_rfl) rfl #[aI, aQ] (by rfl) rfl rfl xR ?_
 with_reducible refine (Z47.calls aI aQ aD _ A3.out).mono ?_
 rintro e w' ⟨rfl, ⟨nd, rfl⟩⟩
 refine ⟨_, rfl, ?_⟩
 refine hK.out _ _ ⟨cI aA.out 0, cI aA.out 1, cI aA.out 2, cI aA.out 3, cI aC.out 0, cI aC.out 1, cI aC.out 2, cI aC.out 3⟩ (fun hHeld => ?_)
 clear hK K
 refine norm_ (a' := ?_) ?_ ?_
 rotate_left
 ·show Act.put _ (some 9) _ = _
  simp only [Act.put, sA, sZ, sS, i64_w, i32_w]
  rfl
 refine one_ (i := 9) (N := some 14) (bv 24 507903) rfl rfl (one_of HT_.out (by kernel_rfl)) (by decide) (fun K hK => ?_)
 refine goes_ Try.func125 (by kernel_rfl) rfl #[aJ, aT] (by rfl) rfl rfl xR ?_
 with_reducible refine (Z47.calls aJ aT aE _ A4.out).mono ?_
 rintro e w' ⟨rfl, ⟨nd, rfl⟩⟩
 refine ⟨_, rfl, ?_⟩
 refine hK.out _ _ ⟨cI aA.out 0, cI aA.out 1, cI aA.out 2, cI aA.out 3, cI aC.out 0, cI aC.out 1, cI aC.out 2, cI aC.out 3⟩ (fun hHeld => ?_)
 clear hK K
 refine norm_ (a' := ?_) ?_ ?_
 rotate_left
 ·show Act.put _ (some 14) _ = _
  simp only [Act.put, sA, sZ, sS, i64_w, i32_w]
  rfl
 refine one_ (i := 14) (N := some 19) (bv 24 524287) rfl rfl (one_of HT_.out (by kernel_rfl)) (by decide) (fun K hK => ?_)
 refine goes_ Try.func125 (by kernel_rfl) rfl #[aK, aV] (by rfl) rfl rfl xR ?_
 with_reducible refine (Z47.calls aK aV aG _ A5.out).mono ?_
 rintro e w' ⟨rfl, ⟨nd, rfl⟩⟩
 refine ⟨_, rfl, ?_⟩
 refine hK.out _ _ ⟨cI aA.out 0, cI aA.out 1, cI aA.out 2, cI aA.out 3, cI aC.out 0, cI aC.out 1, cI aC.out 2, cI aC.out 3⟩ (fun hHeld => ?_)
 clear hK K
 refine norm_ (a' := ?_) ?_ ?_
 rotate_left
 ·show Act.put _ (some 19) _ = _
  simp only [Act.put, sA, sZ, sS, i64_w, i32_w]
  rfl
 refine one_ (i := 19) (N := some 24) (bv 24 1048575) rfl rfl (one_of HT_.out (by kernel_rfl)) (by decide) (fun K hK => ?_)
 refine goes_ Try.func125 (by kernel_rfl) rfl #[aN, aW] (by rfl) rfl rfl xR ?_
 with_reducible refine (Z47.calls aN aW aH _ A6.out).mono ?_
 rintro e w' ⟨rfl, ⟨nd, rfl⟩⟩
 refine ⟨_, rfl, ?_⟩
 refine hK.out _ _ ⟨cI aA.out 0, cI aA.out 1, cI aA.out 2, cI aA.out 3, cI aC.out 0, cI aC.out 1, cI aC.out 2, cI aC.out 3⟩ (fun hHeld => ?_)
 clear hK K
 refine norm_ (a' := ?_) ?_ ?_
 rotate_left
 ·show Act.put _ (some 24) _ = _
  simp only [Act.put, sA, sZ, sS, i64_w, i32_w]
  rfl
 refine one_ (i := 20) (N := some 25) (bv 24 2097151) rfl rfl (one_of HT_.out (by kernel_rfl)) (by decide) (fun K hK => ?_)
 refine Kd.R_lit_step (Kd.int .i64) _ 3 ?hg (N := 25) ?hd (xs := ([aD, aE, aG, aH] : List Int)) (inner := [.int .i64 aD, .int .i64 aE, .int .i64 aG, .int .i64 aH]) (ok := fun _ => True) (okp := fun _ => True) ?hr ?hp (fun _ hk => hk) trivial (Below.refl _ _) (Nat.le_refl _) (by simp) ?_; (case hd => rfl); (case hg => rfl); (case hr => first | (go_simp; done) | (go_simp; rfl)); (case hp => exact (Reps.one (show Kd.M (Kd.int .i64) _ _ _ aD [.int .i64 aD] from rfl) (Reps.one (show Kd.M (Kd.int .i64) _ _ _ aE [.int .i64 aE] from rfl) (Reps.one (show Kd.M (Kd.int .i64) _ _ _ aG [.int .i64 aG] from rfl) (Reps.one (show Kd.M (Kd.int .i64) _ _ _ aH [.int .i64 aH] from rfl) (Reps.none _ _))))))
 intro cC cE ho12 hb hg_ hnew_
 clear hg_ hnew_
 (first | rw [← bH.out] at ho12 | (simp only [Int.reduceToNat] at ho12; rw [← bH.out] at ho12))
 have bD := aM (Kd.R_lower ho12 (below_size (bl HB.out)))
 replace aA := rB aA hb
 replace aC := rB aC hb
 replace HB := rS HB hb
 clear hb ho12
 obtain ⟨bU, bV, bI⟩ := Kd.R_slice bD.out
 (first | subst bI | (injection bI with f1_ f2_ f3_; have f4_ := f1_.symm; have f5_ := f3_.symm; clear f1_ f2_ f3_; subst f4_; subst f5_))
 refine hK.out _ _ ⟨cI aA.out 0, cI aA.out 1, cI aA.out 2, cI aA.out 3, cI aC.out 0, cI aC.out 1, cI aC.out 2, cI aC.out 3⟩ (fun hHeld => ?_)
 clear hK K
 refine norm_ (a' := ?_) ?_ ?_
 rotate_left
 ·show Act.put _ (some 25) _ = _
  simp only [Act.put, sA, sZ, sS, i64_w, i32_w]
  rfl
 refine one_ (i := 21) (N := some 26) (bv 24 4194303) rfl rfl (one_of HT_.out (by kernel_rfl)) (by decide) (fun K hK => ?_)
 refine goes_ Try.func124 (by kernel_rfl) rfl #[.slice bU bG.length bV] (by rfl) rfl rfl xR ?_
 with_reducible refine (Z32.calls k _ _ bG bA _ ?side1 ?side2 A7.out).mono ?_
 (case side1 => exact cM ((Kd.R_reads' bD.out).2.2))
 (case side2 => exact (Kd.R_reads' bD.out).2.1)
 rintro e w' ⟨rfl, ⟨nd, rfl⟩⟩
 refine ⟨_, rfl, ?_⟩
 refine hK.out _ _ ⟨cI aA.out 0, cI aA.out 1, cI aA.out 2, cI aA.out 3, cI aC.out 0, cI aC.out 1, cI aC.out 2, cI aC.out 3⟩ (fun hHeld => ?_)
 clear hK K
 refine norm_ (a' := ?_) ?_ ?_
 rotate_left
 ·show Act.put _ (some 26) _ = _
  simp only [Act.put, sA, sZ, sS, i64_w, i32_w]
  rfl
 refine pZ 22 27 (bv 24 8388607) HT_ ?_
 refine pZ 23 4 (bv 24 16777215) HT_ ?_
 refine done_ (done_of HT_.out (by kernel_rfl)) ?_
 try go_wp2
 go_ret
 exact ⟨xW, bl HB.out⟩

end Go.Proofs.Ythmijfekdeagpaa.PFnExactReact

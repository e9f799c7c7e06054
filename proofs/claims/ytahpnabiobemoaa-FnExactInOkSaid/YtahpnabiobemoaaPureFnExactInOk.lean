/- The statement of laws.FnExactInOk over numbers and lists alone: at every input it answers true. No condition but that the numbers are those of their kinds and that no slice is longer than a Go slice can be. -/
import Derived.Test.YtahpnabiobemoaaPFnExactInOkx3
import Derived.Test.YtahpnabiobemoaaBase
set_option linter.unusedVariables false
set_option linter.unusedSimpArgs false
namespace Go.Proofs.Ytahpnabiobemoaa.Pure
open Go.RowKit Go.Proofs.Ytahpnabiobemoaa.PFnExactInOk Go.Proofs.Ytahpnabiobemoaa.Base Go.Proofs.YtahpnabiobemoaaW.PrintWords Go.Proofs.YtahpnabiobemoaaW.PrintLast Go.Proofs.YtahpnabiobemoaaW.PrintMore
def FnExactInOkPure : Prop := ∀ (a0_0 : Int) (a0_1 : Int) (a0_2 : Int) (a0_3 : Int) (a0_4 : Int) (a0_5 : Int) (a0_6 : Int) (a0_7 : Bool), ((Lit.int .i64 a0_0).wf = true) → ((Lit.int .i64 a0_1).wf = true) → ((Lit.int .i64 a0_2).wf = true) → ((Lit.int .i64 a0_3).wf = true) → ((Lit.int .i64 a0_4).wf = true) → ((Lit.int .i64 a0_5).wf = true) → ((Lit.int .i64 a0_6).wf = true) → laws_FnExactInOk.f a0_0 a0_1 a0_2 a0_3 a0_4 a0_5 a0_6 a0_7 = some true
def vecOk (r c b p : Int) : Bool := decide (1 ≤ r ∧ r ≤ 9) && (decide (1 ≤ b ∧ b ≤ 9) && (decide (r ≤ b) && (decide (0 ≤ c ∧ c ≤ 20) && (((c == 0) == (r == b)) && decide (0 ≤ p ∧ p ≤ 3)))))
theorem vecOk_iff (r c b p : Int) : vecOk r c b p = true ↔ (1 ≤ r ∧ r ≤ 9) ∧ (1 ≤ b ∧ b ≤ 9) ∧ r ≤ b ∧ (0 ≤ c ∧ c ≤ 20) ∧ (c = 0 ↔ r = b) ∧ 0 ≤ p ∧ p ≤ 3 := by
  unfold vecOk
  have e1 : (c == 0) = decide (c = 0) := by by_cases h : c = 0 <;> simp [h]
  have e2 : (r == b) = decide (r = b) := by by_cases h : r = b <;> simp [h]
  rw [e1, e2]
  by_cases h1 : c = 0 <;> by_cases h2 : r = b <;> simp [h1, h2]
def inOk (k p r c b q h : Int) (u : Bool) : Bool :=
  if k = 1 then decide (0 ≤ p ∧ p ≤ 3) && vecOk r c b q && decide (0 ≤ h ∧ h ≤ 8) && !u
  else if k = 3 then decide (0 ≤ p ∧ p ≤ 3 ∧ r = 0 ∧ c = 0 ∧ b = 0 ∧ q = 0 ∧ h = 0)
  else decide (k = 2 ∧ p = 0 ∧ r = 0 ∧ c = 0 ∧ b = 0 ∧ q = 0 ∧ h = 0) && !u
theorem l1In_eq (x lo hi : Int) : spec_l1In.f x lo hi = some (decide (lo ≤ x ∧ x ≤ hi)) := by
  simp only [spec_l1In.f]
  by_cases h : lo ≤ x
  · rw [if_pos h]; simp [h]
  · rw [if_neg h]; simp [h]
theorem specVecOk_eq (r c b p : Int) : spec_VecOk.f r c b p = some (vecOk r c b p) := by
  simp only [spec_VecOk.f, l1In_eq, Option.bind_some, vecOk]
  by_cases h1 : 1 ≤ r ∧ r ≤ 9 <;> by_cases h2 : 1 ≤ b ∧ b ≤ 9 <;> by_cases h3 : r ≤ b <;> by_cases h4 : 0 ≤ c ∧ c ≤ 20 <;> by_cases h5 : 0 ≤ p ∧ p ≤ 3 <;> simp [h1, h2, h3, h4, h5]
  all_goals (first | (cases (c == 0) <;> cases (r == b) <;> rfl) | omega)
theorem specInOk_eq (k p r c b q h : Int) (u : Bool) : spec_InOk.f k p r c b q h u = some (inOk k p r c b q h u) := by
  simp only [spec_InOk.f, l1In_eq, specVecOk_eq, Option.bind_some, inOk]
  by_cases h1 : k = 1
  · simp only [h1, if_true]
    by_cases a1 : 0 ≤ p ∧ p ≤ 3 <;> by_cases a3 : 0 ≤ h ∧ h ≤ 8 <;> cases vecOk r c b q <;> simp [a1, a3]
  · by_cases h3 : k = 3
    · by_cases a1 : 0 ≤ p <;> by_cases a2 : p ≤ 3 <;> by_cases r0 : r = 0 <;> by_cases c0 : c = 0 <;> by_cases b0 : b = 0 <;> by_cases q0 : q = 0 <;> by_cases hh : h = 0 <;> simp_all
      all_goals (first | (split <;> simp <;> omega) | omega)
    · by_cases h2 : k = 2
      · by_cases p0 : p = 0 <;> by_cases r0 : r = 0 <;> by_cases c0 : c = 0 <;> by_cases b0 : b = 0 <;> by_cases q0 : q = 0 <;> by_cases hh : h = 0 <;> cases u <;> simp_all
      · simp [h1, h2, h3]
theorem inRange_eq (x lo hi : Int) : impl_inRange.f x lo hi = some (decide (lo ≤ x ∧ x ≤ hi)) := by
  simp only [impl_inRange.f]
  by_cases h : lo ≤ x
  · rw [if_pos h]; simp [h]
  · rw [if_neg h]; simp [h]
theorem isPort_eq (x : Int) : impl_isPort.f x = some (decide (0 ≤ x ∧ x ≤ 3)) := by simp [impl_isPort.f, inRange_eq]
theorem implVecOk_eq (r c b p : Int) : impl_VecOk.f r c b p = some (vecOk r c b p) := by
  simp only [impl_VecOk.f, inRange_eq, isPort_eq, Option.bind_some, vecOk]
  by_cases h1 : 1 ≤ r ∧ r ≤ 9 <;> by_cases h2 : 1 ≤ b ∧ b ≤ 9 <;> by_cases h3 : r ≤ b <;> by_cases h4 : 0 ≤ c ∧ c ≤ 20 <;> by_cases h5 : 0 ≤ p ∧ p ≤ 3 <;> simp [h1, h2, h3, h4, h5]
  all_goals (first | (cases (c == 0) <;> cases (r == b) <;> rfl) | omega)
theorem isHops_eq (x : Int) : impl_isHops.f x = some (decide (0 ≤ x ∧ x ≤ 8)) := by simp [impl_isHops.f, inRange_eq]
theorem implInOk_eq (k p r c b q h : Int) (u : Bool) : impl_InOk.f k p r c b q h u = some (inOk k p r c b q h u) := by
  simp only [impl_InOk.f, isPort_eq, isHops_eq, implVecOk_eq, Option.bind_some, inOk]
  by_cases h1 : k = 1
  · simp only [h1, if_true]
    by_cases a1 : 0 ≤ p ∧ p ≤ 3 <;> by_cases a3 : 0 ≤ h ∧ h ≤ 8 <;> cases vecOk r c b q <;> simp [a1, a3]
  · by_cases h3 : k = 3
    · by_cases a1 : 0 ≤ p <;> by_cases a2 : p ≤ 3 <;> by_cases r0 : r = 0 <;> by_cases c0 : c = 0 <;> by_cases b0 : b = 0 <;> by_cases q0 : q = 0 <;> by_cases hh : h = 0 <;> simp_all
      all_goals (first | (split <;> simp <;> omega) | omega)
    · by_cases h2 : k = 2
      · by_cases p0 : p = 0 <;> by_cases r0 : r = 0 <;> by_cases c0 : c = 0 <;> by_cases b0 : b = 0 <;> by_cases q0 : q = 0 <;> by_cases hh : h = 0 <;> cases u <;> simp_all
      · simp [h1, h2, h3]
theorem FnExactInOk : FnExactInOkPure := by
  intro k p r c b q h u _ _ _ _ _ _ _
  simp [laws_FnExactInOk.f, laws_toIn.f, laws_toVec.f, specInOk_eq, implInOk_eq]
end Go.Proofs.Ytahpnabiobemoaa.Pure

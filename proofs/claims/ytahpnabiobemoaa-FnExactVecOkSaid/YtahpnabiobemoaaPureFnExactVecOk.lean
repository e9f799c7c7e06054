/- The statement of laws.FnExactVecOk over numbers and lists alone: at every input it answers true. No condition but that the numbers are those of their kinds and that no slice is longer than a Go slice can be. -/
import Derived.Test.YtahpnabiobemoaaPFnExactVecOkx1
import Derived.Test.YtahpnabiobemoaaBase
set_option linter.unusedVariables false
set_option linter.unusedSimpArgs false
namespace Go.Proofs.Ytahpnabiobemoaa.Pure
open Go.RowKit Go.Proofs.Ytahpnabiobemoaa.PFnExactVecOk Go.Proofs.Ytahpnabiobemoaa.Base Go.Proofs.YtahpnabiobemoaaW.PrintWords Go.Proofs.YtahpnabiobemoaaW.PrintLast Go.Proofs.YtahpnabiobemoaaW.PrintMore
def FnExactVecOkPure : Prop := ∀ (a0_0 : Int) (a0_1 : Int) (a0_2 : Int) (a0_3 : Int), ((Lit.int .i64 a0_0).wf = true) → ((Lit.int .i64 a0_1).wf = true) → ((Lit.int .i64 a0_2).wf = true) → ((Lit.int .i64 a0_3).wf = true) → laws_FnExactVecOk.f a0_0 a0_1 a0_2 a0_3 = some true
theorem l1In_eq (x lo hi : Int) : spec_l1In.f x lo hi = some (decide (lo ≤ x ∧ x ≤ hi)) := by
  simp only [spec_l1In.f]
  by_cases h : lo ≤ x
  · rw [if_pos h]; simp [h]
  · rw [if_neg h]; simp [h]
def vecOk (r c b p : Int) : Bool := decide (1 ≤ r ∧ r ≤ 9) && (decide (1 ≤ b ∧ b ≤ 9) && (decide (r ≤ b) && (decide (0 ≤ c ∧ c ≤ 20) && (((c == 0) == (r == b)) && decide (0 ≤ p ∧ p ≤ 3)))))
theorem vecOk_iff (r c b p : Int) : vecOk r c b p = true ↔ (1 ≤ r ∧ r ≤ 9) ∧ (1 ≤ b ∧ b ≤ 9) ∧ r ≤ b ∧ (0 ≤ c ∧ c ≤ 20) ∧ (c = 0 ↔ r = b) ∧ 0 ≤ p ∧ p ≤ 3 := by
  unfold vecOk
  have e1 : (c == 0) = decide (c = 0) := by by_cases h : c = 0 <;> simp [h]
  have e2 : (r == b) = decide (r = b) := by by_cases h : r = b <;> simp [h]
  rw [e1, e2]
  by_cases h1 : c = 0 <;> by_cases h2 : r = b <;> simp [h1, h2]
theorem specVecOk_eq (r c b p : Int) : spec_VecOk.f r c b p = some (vecOk r c b p) := by
  simp only [spec_VecOk.f, l1In_eq, Option.bind_some, vecOk]
  by_cases h1 : 1 ≤ r ∧ r ≤ 9 <;> by_cases h2 : 1 ≤ b ∧ b ≤ 9 <;> by_cases h3 : r ≤ b <;> by_cases h4 : 0 ≤ c ∧ c ≤ 20 <;> by_cases h5 : 0 ≤ p ∧ p ≤ 3 <;> simp [h1, h2, h3, h4, h5]
  all_goals (first | (cases (c == 0) <;> cases (r == b) <;> rfl) | omega)
theorem inRange_eq (x lo hi : Int) : impl_inRange.f x lo hi = some (decide (lo ≤ x ∧ x ≤ hi)) := by
  simp only [impl_inRange.f]
  by_cases h : lo ≤ x
  · rw [if_pos h]; simp [h]
  · rw [if_neg h]; simp [h]
theorem isPort_eq (x : Int) : impl_isPort.f x = some (decide (0 ≤ x ∧ x ≤ 3)) := by simp [impl_isPort.f, inRange_eq]
theorem implVecOk_eq (r c b p : Int) : impl_VecOk.f r c b p = some (vecOk r c b p) := by
  simp only [impl_VecOk.f, inRange_eq, isPort_eq, Option.bind_some, vecOk]
  by_cases h1 : 1 ≤ r ∧ r ≤ 9 <;> by_cases h2 : 1 ≤ b ∧ b ≤ 9 <;> by_cases h3 : r ≤ b <;> by_cases h4 : 0 ≤ c ∧ c ≤ 20 <;> by_cases h5 : 0 ≤ p ∧ p ≤ 3 <;> simp [h1, h2, h3, h4, h5]
  all_goals (first | (cases (c == 0) <;> cases (r == b) <;> rfl) | omega)
theorem FnExactVecOk : FnExactVecOkPure := by
  intro a b c d _ _ _ _
  simp [laws_FnExactVecOk.f, laws_toVec.f, specVecOk_eq, implVecOk_eq]
end Go.Proofs.Ytahpnabiobemoaa.Pure

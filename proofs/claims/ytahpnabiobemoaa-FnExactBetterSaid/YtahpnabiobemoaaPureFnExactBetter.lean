/- The statement of laws.FnExactBetter over numbers and lists alone: at every input it answers true. No condition but that the numbers are those of their kinds and that no slice is longer than a Go slice can be. -/
import Derived.Test.YtahpnabiobemoaaPFnExactBetterx2
import Derived.Test.YtahpnabiobemoaaBase
set_option linter.unusedVariables false
set_option linter.unusedSimpArgs false
namespace Go.Proofs.Ytahpnabiobemoaa.Pure
open Go.RowKit Go.Proofs.Ytahpnabiobemoaa.PFnExactBetter Go.Proofs.Ytahpnabiobemoaa.Base Go.Proofs.YtahpnabiobemoaaW.PrintWords Go.Proofs.YtahpnabiobemoaaW.PrintLast Go.Proofs.YtahpnabiobemoaaW.PrintMore
def FnExactBetterPure : Prop := ∀ (a0_0 : Int) (a0_1 : Int) (a0_2 : Int) (a0_3 : Int) (a1_0 : Int) (a1_1 : Int) (a1_2 : Int) (a1_3 : Int), ((Lit.int .i64 a0_0).wf = true) → ((Lit.int .i64 a0_1).wf = true) → ((Lit.int .i64 a0_2).wf = true) → ((Lit.int .i64 a0_3).wf = true) → ((Lit.int .i64 a1_0).wf = true) → ((Lit.int .i64 a1_1).wf = true) → ((Lit.int .i64 a1_2).wf = true) → ((Lit.int .i64 a1_3).wf = true) → ∃ k, laws_FnExactBetter.f k a0_0 a0_1 a0_2 a0_3 a1_0 a1_1 a1_2 a1_3 = some true
/-- Which of two claims is the less. -/
def better (a b c d a' b' c' d' : Int) : Bool := decide (a < a' ∨ a = a' ∧ (b < b' ∨ b = b' ∧ (c < c' ∨ c = c' ∧ d < d')))
theorem specBetter_eq (a b c d a' b' c' d' : Int) : spec_Better.f a b c d a' b' c' d' = some (better a b c d a' b' c' d') := by
  simp only [spec_Better.f, better]
  by_cases h1 : a = a' <;> by_cases h2 : b = b' <;> by_cases h3 : c = c' <;> simp [h1, h2, h3] <;> omega
theorem compare_eq (a b : Int) : cmp_Compare_int.f a b = some (if a < b then -1 else if a > b then 1 else 0) := by
  simp only [cmp_Compare_int.f, cmp_isNaN_int.f, Option.bind_some, bne_self_eq_false]
  simp only [Bool.false_eq_true, if_false]
  (repeat' split) <;> rfl
theorem or_ev (a b c d : Int) : Ev (fun k => cmp_Or_int.f k [a, b, c, d]) (if a ≠ 0 then a else if b ≠ 0 then b else if c ≠ 0 then c else if d ≠ 0 then d else 0) := by
  refine ⟨5, fun k hk => ?_⟩
  obtain ⟨j, rfl⟩ : ∃ j, k = j + 5 := ⟨k - 5, by omega⟩
  simp [cmp_Or_int.f, cmp_Or_int.l0, rd, wrap64]
  (repeat' split) <;> simp_all
theorem implBetter_ev (a b c d a' b' c' d' : Int) : Ev (fun k => impl_Better.f k a b c d a' b' c' d') (better a b c d a' b' c' d') := by
  simp only [impl_Better.f, compare_eq, Option.bind_some]
  refine Ev.bind (or_ev _ _ _ _) (ev_some fun _ => ?_)
  simp only [better]
  congr 1
  rw [decide_eq_decide]
  (repeat' split) <;> omega
theorem FnExactBetter : FnExactBetterPure := by
  intro a b c d a' b' c' d' _ _ _ _ _ _ _ _
  obtain ⟨K1, h1⟩ := implBetter_ev a b c d a' b' c' d'
  refine ⟨K1, ?_⟩
  simp (disch := omega) [laws_FnExactBetter.f, laws_toVec.f, specBetter_eq, h1]
end Go.Proofs.Ytahpnabiobemoaa.Pure

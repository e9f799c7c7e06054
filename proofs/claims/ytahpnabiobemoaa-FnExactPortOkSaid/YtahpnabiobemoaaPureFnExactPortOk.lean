/- The statement of laws.FnExactPortOk over numbers and lists alone: at every input it answers true. No condition but that the numbers are those of their kinds and that no slice is longer than a Go slice can be. -/
import Derived.Test.YtahpnabiobemoaaPFnExactPortOkx6
import Derived.Test.YtahpnabiobemoaaBase
set_option linter.unusedVariables false
set_option linter.unusedSimpArgs false
namespace Go.Proofs.Ytahpnabiobemoaa.Pure
open Go.RowKit Go.Proofs.Ytahpnabiobemoaa.PFnExactPortOk Go.Proofs.Ytahpnabiobemoaa.Base Go.Proofs.YtahpnabiobemoaaW.PrintWords Go.Proofs.YtahpnabiobemoaaW.PrintLast Go.Proofs.YtahpnabiobemoaaW.PrintMore
def FnExactPortOkPure : Prop := ∀ (a0_0 : Bool) (a0_1 : Bool) (a0_2 : Int) (a0_3 : Int) (a0_4 : Int) (a0_5 : Int) (a0_6 : Int) (a0_7 : Int) (a0_8 : Int) (a0_9 : Int) (a0_10 : Bool), ((Lit.int .i64 a0_2).wf = true) → ((Lit.int .i64 a0_3).wf = true) → ((Lit.int .i64 a0_4).wf = true) → ((Lit.int .i64 a0_5).wf = true) → ((Lit.int .i64 a0_6).wf = true) → ((Lit.int .i64 a0_7).wf = true) → ((Lit.int .i64 a0_8).wf = true) → ((Lit.int .i64 a0_9).wf = true) → ∃ k, laws_FnExactPortOk.f k a0_0 a0_1 a0_2 a0_3 a0_4 a0_5 a0_6 a0_7 a0_8 a0_9 a0_10 = some true
def vecOk (r c b p : Int) : Bool := decide (1 ≤ r ∧ r ≤ 9) && (decide (1 ≤ b ∧ b ≤ 9) && (decide (r ≤ b) && (decide (0 ≤ c ∧ c ≤ 20) && (((c == 0) == (r == b)) && decide (0 ≤ p ∧ p ≤ 3)))))
theorem vecOk_iff (r c b p : Int) : vecOk r c b p = true ↔ (1 ≤ r ∧ r ≤ 9) ∧ (1 ≤ b ∧ b ≤ 9) ∧ r ≤ b ∧ (0 ≤ c ∧ c ≤ 20) ∧ (c = 0 ↔ r = b) ∧ 0 ≤ p ∧ p ≤ 3 := by
  unfold vecOk
  have e1 : (c == 0) = decide (c = 0) := by by_cases h : c = 0 <;> simp [h]
  have e2 : (r == b) = decide (r = b) := by by_cases h : r = b <;> simp [h]
  rw [e1, e2]
  by_cases h1 : c = 0 <;> by_cases h2 : r = b <;> simp [h1, h2]
structure Prt where
  up : Bool
  has : Bool
  r : Int
  c : Int
  b : Int
  p : Int
  hops : Int
  left : Int
  role : Int
  wait : Int
  op : Bool
def Prt.tup (q : Prt) : Bool × Bool × Int × Int × Int × Int × Int × Int × Int × Int × Bool := (q.up, q.has, q.r, q.c, q.b, q.p, q.hops, q.left, q.role, q.wait, q.op)
def openBy (role wait : Int) : Bool := (role == 1 || role == 2) && wait == 0
def tailOk (up : Bool) (role wait : Int) (op : Bool) : Bool := decide (0 ≤ role ∧ role ≤ 3) && (((role == 0) == !up) && (decide (0 ≤ wait ∧ wait ≤ 4) && (op == openBy role wait)))
def headOk (q : Prt) : Bool :=
  if q.has then q.up && (vecOk q.r q.c q.b q.p && (decide (0 ≤ q.hops ∧ q.hops ≤ 8) && decide (1 ≤ q.left ∧ q.left ≤ 3)))
  else decide (q.r = 0) && (decide (q.c = 0) && (decide (q.b = 0) && (decide (q.p = 0) && (decide (q.hops = 0) && decide (q.left = 0)))))
def portOk (q : Prt) : Bool := headOk q && tailOk q.up q.role q.wait q.op
theorem l1In_eq (x lo hi : Int) : spec_l1In.f x lo hi = some (decide (lo ≤ x ∧ x ≤ hi)) := by
  simp only [spec_l1In.f]
  by_cases h : lo ≤ x
  · rw [if_pos h]; simp [h]
  · rw [if_neg h]; simp [h]
theorem specVecOk_eq (r c b p : Int) : spec_VecOk.f r c b p = some (vecOk r c b p) := by
  simp only [spec_VecOk.f, l1In_eq, Option.bind_some, vecOk]
  by_cases h1 : 1 ≤ r ∧ r ≤ 9 <;> by_cases h2 : 1 ≤ b ∧ b ≤ 9 <;> by_cases h3 : r ≤ b <;> by_cases h4 : 0 ≤ c ∧ c ≤ 20 <;> by_cases h5 : 0 ≤ p ∧ p ≤ 3 <;> simp [h1, h2, h3, h4, h5]
  all_goals (first | (cases (c == 0) <;> cases (r == b) <;> rfl) | omega)
theorem specPortTail0 (k : Nat) (fl up has : Bool) (r c b p hops left role wait : Int) (op : Bool) : spec_PortOk.j0 (k + 1) fl up has r c b p hops left role wait op = some (!fl && tailOk up role wait op) := by
  simp only [spec_PortOk.j0, l1In_eq, Option.bind_some, tailOk, openBy]
  cases fl
  · by_cases h1 : role = 1
    · subst h1
      by_cases hw : 0 ≤ wait ∧ wait ≤ 4 <;> cases up <;> simp [hw]
    · by_cases h2 : role = 2
      · subst h2
        by_cases hw : 0 ≤ wait ∧ wait ≤ 4 <;> cases up <;> simp [hw]
      · by_cases hr : 0 ≤ role ∧ role ≤ 3 <;> by_cases hw : 0 ≤ wait ∧ wait ≤ 4 <;> by_cases h0 : role = 0 <;> cases up <;> cases op <;> simp [h1, h2, hr, hw, h0]
  · simp
theorem specPortTail1 (k : Nat) (fl up has : Bool) (r c b p hops left role wait : Int) (op : Bool) : spec_PortOk.j1 (k + 1) fl up has r c b p hops left role wait op = some (!fl && tailOk up role wait op) := by
  simp only [spec_PortOk.j1, l1In_eq, Option.bind_some, tailOk, openBy]
  cases fl
  · by_cases h1 : role = 1
    · subst h1
      by_cases hw : 0 ≤ wait ∧ wait ≤ 4 <;> cases up <;> simp [hw]
    · by_cases h2 : role = 2
      · subst h2
        by_cases hw : 0 ≤ wait ∧ wait ≤ 4 <;> cases up <;> simp [hw]
      · by_cases hr : 0 ≤ role ∧ role ≤ 3 <;> by_cases hw : 0 ≤ wait ∧ wait ≤ 4 <;> by_cases h0 : role = 0 <;> cases up <;> cases op <;> simp [h1, h2, hr, hw, h0]
  · simp
theorem specPortOk_ev (up has : Bool) (r c b p hops left role wait : Int) (op : Bool) : Ev (fun k => spec_PortOk.f k up has r c b p hops left role wait op) (portOk ⟨up, has, r, c, b, p, hops, left, role, wait, op⟩) := by
  refine ev_end fun k => ?_
  simp only [spec_PortOk.f, specVecOk_eq, l1In_eq, Option.bind_some, specPortTail0, specPortTail1, portOk, headOk]
  cases has
  · by_cases r0 : r = 0 <;> by_cases c0 : c = 0 <;> by_cases b0 : b = 0 <;> by_cases p0 : p = 0 <;> by_cases h0 : hops = 0 <;> by_cases l0 : left = 0 <;> simp [r0, c0, b0, p0, h0, l0]
  · cases up <;> cases vecOk r c b p <;> by_cases h0 : 0 ≤ hops ∧ hops ≤ 8 <;> by_cases l0 : 1 ≤ left ∧ left ≤ 3 <;> simp [h0, l0]
theorem inRange_eq (x lo hi : Int) : impl_inRange.f x lo hi = some (decide (lo ≤ x ∧ x ≤ hi)) := by
  simp only [impl_inRange.f]
  by_cases h : lo ≤ x
  · rw [if_pos h]; simp [h]
  · rw [if_neg h]; simp [h]
theorem isPort_eq (x : Int) : impl_isPort.f x = some (decide (0 ≤ x ∧ x ≤ 3)) := by simp [impl_isPort.f, inRange_eq]
theorem implVecOk_eq (r c b p : Int) : impl_VecOk.f r c b p = some (vecOk r c b p) := by
  simp only [impl_VecOk.f, inRange_eq, isPort_eq, Option.bind_some, vecOk]
  by_cases h1 : 1 ≤ r ∧ r ≤ 9 <;> by_cases h2 : 1 ≤ b ∧ b ≤ 9 <;> by_cases h3 : r ≤ b <;> by_cases h4 : 0 ≤ c ∧ c ≤ 20 <;> by_cases h5 : 0 ≤ p ∧ p ≤ 3 <;> simp [h1, h2, h3, h4, h5]
  all_goals (first | (cases (c == 0) <;> cases (r == b) <;> rfl) | omega)
theorem isHops_eq (x : Int) : impl_isHops.f x = some (decide (0 ≤ x ∧ x ≤ 8)) := by simp [impl_isHops.f, inRange_eq]
theorem isOpenBy_eq (up has : Bool) (r c b p hops left role wait : Int) (op : Bool) : impl_Port_isOpenBy.f up has r c b p hops left role wait op = some (openBy role wait) := by
  simp only [impl_Port_isOpenBy.f, openBy]
  by_cases h1 : role = 1 <;> by_cases h2 : role = 2 <;> simp [h1, h2]
theorem implPortTail1 (k : Nat) (fl up has : Bool) (r c b p hops left role wait : Int) (op : Bool) : impl_PortOk.j1 (k + 1) fl up has r c b p hops left role wait op = some (!fl && tailOk up role wait op) := by
  simp only [impl_PortOk.j1, inRange_eq, isOpenBy_eq, Option.bind_some, tailOk]
  cases fl
  · by_cases hr : 0 ≤ role ∧ role ≤ 3 <;> by_cases hw : 0 ≤ wait ∧ wait ≤ 4 <;> by_cases h0 : role = 0 <;> cases up <;> simp [hr, hw, h0]
  · simp
theorem implPortOk_ev (up has : Bool) (r c b p hops left role wait : Int) (op : Bool) : Ev (fun k => impl_PortOk.f k up has r c b p hops left role wait op) (portOk ⟨up, has, r, c, b, p, hops, left, role, wait, op⟩) := by
  refine ⟨2, fun k hk => ?_⟩
  obtain ⟨j, rfl⟩ : ∃ j, k = j + 2 := ⟨k - 2, by omega⟩
  simp only [impl_PortOk.f, impl_PortOk.j0, implVecOk_eq, inRange_eq, isHops_eq, Option.bind_some, implPortTail1, portOk, headOk]
  cases has
  · by_cases r0 : r = 0 <;> by_cases c0 : c = 0 <;> by_cases b0 : b = 0 <;> by_cases p0 : p = 0 <;> by_cases h0 : hops = 0 <;> by_cases l0 : left = 0 <;> simp [r0, c0, b0, p0, h0, l0]
  · cases up <;> cases vecOk r c b p <;> by_cases h0 : 0 ≤ hops ∧ hops ≤ 8 <;> by_cases l0 : 1 ≤ left ∧ left ≤ 3 <;> simp [h0, l0]
theorem FnExactPortOk : FnExactPortOkPure := by
  intro a0 a1 a2 a3 a4 a5 a6 a7 a8 a9 a10
  intros
  obtain ⟨K1, h1⟩ := specPortOk_ev a0 a1 a2 a3 a4 a5 a6 a7 a8 a9 a10
  obtain ⟨K2, h2⟩ := implPortOk_ev a0 a1 a2 a3 a4 a5 a6 a7 a8 a9 a10
  refine ⟨K1 + K2, ?_⟩
  simp (disch := omega) [laws_FnExactPortOk.f, laws_toPort.f, laws_toVec.f, h1, h2]
end Go.Proofs.Ytahpnabiobemoaa.Pure

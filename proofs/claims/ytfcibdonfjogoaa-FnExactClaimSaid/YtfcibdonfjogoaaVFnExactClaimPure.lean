/- Of the proof of laws.FnExactClaim: a part. No condition beyond what its theorems say. -/
/- The statement of laws.FnExactClaim over numbers and lists alone: at every input it answers true. No condition but that the numbers are those of their kinds and that no slice is longer than a Go slice can be. -/
import Derived.Test.YtfcibdonfjogoaaVFnExactClaimT
import Derived.Test.YtfcibdonfjogoaaVFnExactClaimBase
set_option linter.unusedVariables false
set_option linter.unusedSimpArgs false
namespace Go.Proofs.Ytfcibdonfjogoaa.Pure
open Go.RowKit Go.Proofs.Ytfcibdonfjogoaa.PFnExactClaim Go.Proofs.Ytfcibdonfjogoaa.Base Go.Proofs.YtfcibdonfjogoaaW.PrintWords Go.Proofs.YtfcibdonfjogoaaW.PrintLast Go.Proofs.YtfcibdonfjogoaaW.PrintMore
def FnExactClaimPure : Prop := ∀ (a0_0 : Bool) (a0_1 : Bool) (a0_2 : Int) (a0_3 : Int) (a0_4 : Int) (a0_5 : Int) (a0_6 : Int) (a0_7 : Int) (a0_8 : Int) (a0_9 : Int) (a0_10 : Bool) (a1_0 : Int) (a1_1 : Int) (a1_2 : Int) (a1_3 : Int) (a2 : Int), ((Lit.int .i64 a0_2).wf = true) → ((Lit.int .i64 a0_3).wf = true) → ((Lit.int .i64 a0_4).wf = true) → ((Lit.int .i64 a0_5).wf = true) → ((Lit.int .i64 a0_6).wf = true) → ((Lit.int .i64 a0_7).wf = true) → ((Lit.int .i64 a0_8).wf = true) → ((Lit.int .i64 a0_9).wf = true) → ((Lit.int .i64 a1_0).wf = true) → ((Lit.int .i64 a1_1).wf = true) → ((Lit.int .i64 a1_2).wf = true) → ((Lit.int .i64 a1_3).wf = true) → ((Lit.int .i64 a2).wf = true) → ∃ k, laws_FnExactClaim.f k a0_0 a0_1 a0_2 a0_3 a0_4 a0_5 a0_6 a0_7 a0_8 a0_9 a0_10 a1_0 a1_1 a1_2 a1_3 a2 = some true
def vecOk (r c b p : Int) : Bool := decide (1 ≤ r ∧ r ≤ 9) && (decide (1 ≤ b ∧ b ≤ 9) && (decide (r ≤ b) && (decide (0 ≤ c ∧ c ≤ 20) && (((c == 0) == (r == b)) && decide (0 ≤ p ∧ p ≤ 3)))))
theorem vecOk_iff (r c b p : Int) : vecOk r c b p = true ↔ (1 ≤ r ∧ r ≤ 9) ∧ (1 ≤ b ∧ b ≤ 9) ∧ r ≤ b ∧ (0 ≤ c ∧ c ≤ 20) ∧ (c = 0 ↔ r = b) ∧ 0 ≤ p ∧ p ≤ 3 := by
  unfold vecOk
  have e1 : (c == 0) = decide (c = 0) := by by_cases h : c = 0 <;> simp [h]
  have e2 : (r == b) = decide (r = b) := by by_cases h : r = b <;> simp [h]
  rw [e1, e2]
  by_cases h1 : c = 0 <;> by_cases h2 : r = b <;> simp [h1, h2]
structure Prt where
  up : Bool
  has : Bool
  r : Int
  c : Int
  b : Int
  p : Int
  hops : Int
  left : Int
  role : Int
  wait : Int
  op : Bool
def Prt.tup (q : Prt) : Bool × Bool × Int × Int × Int × Int × Int × Int × Int × Int × Bool := (q.up, q.has, q.r, q.c, q.b, q.p, q.hops, q.left, q.role, q.wait, q.op)
def openBy (role wait : Int) : Bool := (role == 1 || role == 2) && wait == 0
def tailOk (up : Bool) (role wait : Int) (op : Bool) : Bool := decide (0 ≤ role ∧ role ≤ 3) && (((role == 0) == !up) && (decide (0 ≤ wait ∧ wait ≤ 4) && (op == openBy role wait)))
def headOk (q : Prt) : Bool :=
  if q.has then q.up && (vecOk q.r q.c q.b q.p && (decide (0 ≤ q.hops ∧ q.hops ≤ 8) && decide (1 ≤ q.left ∧ q.left ≤ 3)))
  else decide (q.r = 0) && (decide (q.c = 0) && (decide (q.b = 0) && (decide (q.p = 0) && (decide (q.hops = 0) && decide (q.left = 0)))))
def portOk (q : Prt) : Bool := headOk q && tailOk q.up q.role q.wait q.op
/-- Which of two claims is the less. -/
def better (a b c d a' b' c' d' : Int) : Bool := decide (a < a' ∨ a = a' ∧ (b < b' ∨ b = b' ∧ (c < c' ∨ c = c' ∧ d < d')))
def claimM (q : Prt) (r c b p h : Int) : Prt :=
  if (portOk q && (q.up && (vecOk r c b p && decide (0 ≤ h ∧ h ≤ 8)))) = true then
    (if (q.has && (better q.r q.c q.b q.p r c b p && !(decide (q.b = b) && decide (q.p = p)))) = true then q else ⟨q.up, true, r, c, b, p, h, 3, q.role, q.wait, q.op⟩)
  else q
theorem l1In_eq (x lo hi : Int) : spec_l1In.f x lo hi = some (decide (lo ≤ x ∧ x ≤ hi)) := by
  simp only [spec_l1In.f]
  by_cases h : lo ≤ x
  · rw [if_pos h]; simp [h]
  · rw [if_neg h]; simp [h]
theorem specVecOk_eq (r c b p : Int) : spec_VecOk.f r c b p = some (vecOk r c b p) := by
  simp only [spec_VecOk.f, l1In_eq, Option.bind_some, vecOk]
  by_cases h1 : 1 ≤ r ∧ r ≤ 9 <;> by_cases h2 : 1 ≤ b ∧ b ≤ 9 <;> by_cases h3 : r ≤ b <;> by_cases h4 : 0 ≤ c ∧ c ≤ 20 <;> by_cases h5 : 0 ≤ p ∧ p ≤ 3 <;> simp [h1, h2, h3, h4, h5]
  all_goals (first | (cases (c == 0) <;> cases (r == b) <;> rfl) | omega)
theorem specPortTail0 (k : Nat) (fl up has : Bool) (r c b p hops left role wait : Int) (op : Bool) : spec_PortOk.j0 (k + 1) fl up has r c b p hops left role wait op = some (!fl && tailOk up role wait op) := by
  simp only [spec_PortOk.j0, l1In_eq, Option.bind_some, tailOk, openBy]
  cases fl
  · by_cases h1 : role = 1
    · subst h1
      by_cases hw : 0 ≤ wait ∧ wait ≤ 4 <;> cases up <;> simp [hw]
    · by_cases h2 : role = 2
      · subst h2
        by_cases hw : 0 ≤ wait ∧ wait ≤ 4 <;> cases up <;> simp [hw]
      · by_cases hr : 0 ≤ role ∧ role ≤ 3 <;> by_cases hw : 0 ≤ wait ∧ wait ≤ 4 <;> by_cases h0 : role = 0 <;> cases up <;> cases op <;> simp [h1, h2, hr, hw, h0]
  · simp
theorem specPortTail1 (k : Nat) (fl up has : Bool) (r c b p hops left role wait : Int) (op : Bool) : spec_PortOk.j1 (k + 1) fl up has r c b p hops left role wait op = some (!fl && tailOk up role wait op) := by
  simp only [spec_PortOk.j1, l1In_eq, Option.bind_some, tailOk, openBy]
  cases fl
  · by_cases h1 : role = 1
    · subst h1
      by_cases hw : 0 ≤ wait ∧ wait ≤ 4 <;> cases up <;> simp [hw]
    · by_cases h2 : role = 2
      · subst h2
        by_cases hw : 0 ≤ wait ∧ wait ≤ 4 <;> cases up <;> simp [hw]
      · by_cases hr : 0 ≤ role ∧ role ≤ 3 <;> by_cases hw : 0 ≤ wait ∧ wait ≤ 4 <;> by_cases h0 : role = 0 <;> cases up <;> cases op <;> simp [h1, h2, hr, hw, h0]
  · simp
theorem specPortOk_ev (up has : Bool) (r c b p hops left role wait : Int) (op : Bool) : Ev (fun k => spec_PortOk.f k up has r c b p hops left role wait op) (portOk ⟨up, has, r, c, b, p, hops, left, role, wait, op⟩) := by
  refine ev_end fun k => ?_
  simp only [spec_PortOk.f, specVecOk_eq, l1In_eq, Option.bind_some, specPortTail0, specPortTail1, portOk, headOk]
  cases has
  · by_cases r0 : r = 0 <;> by_cases c0 : c = 0 <;> by_cases b0 : b = 0 <;> by_cases p0 : p = 0 <;> by_cases h0 : hops = 0 <;> by_cases l0 : left = 0 <;> simp [r0, c0, b0, p0, h0, l0]
  · cases up <;> cases vecOk r c b p <;> by_cases h0 : 0 ≤ hops ∧ hops ≤ 8 <;> by_cases l0 : 1 ≤ left ∧ left ≤ 3 <;> simp [h0, l0]
theorem specBetter_eq (a b c d a' b' c' d' : Int) : spec_Better.f a b c d a' b' c' d' = some (better a b c d a' b' c' d') := by
  simp only [spec_Better.f, better]
  by_cases h1 : a = a' <;> by_cases h2 : b = b' <;> by_cases h3 : c = c' <;> simp [h1, h2, h3] <;> omega
theorem specClaim_ev (up has : Bool) (r c b p hops left role wait : Int) (op : Bool) (r' c' b' p' h' : Int) : Ev (fun k => spec_Claim.f k up has r c b p hops left role wait op r' c' b' p' h') (claimM ⟨up, has, r, c, b, p, hops, left, role, wait, op⟩ r' c' b' p' h').tup := by
  refine Ev.bind (specPortOk_ev up has r c b p hops left role wait op) ?_
  generalize hp : portOk ⟨up, has, r, c, b, p, hops, left, role, wait, op⟩ = po
  refine ev_end fun k => ?_
  simp only [spec_Claim.j0, specVecOk_eq, l1In_eq, specBetter_eq, Option.bind_some, claimM, hp, Prt.tup]
  cases po
  · simp
  · cases up
    · simp
    · cases vecOk r' c' b' p'
      · simp
      · by_cases hh : 0 ≤ h' ∧ h' ≤ 8
        · cases has
          · simp [hh]
          · cases better r c b p r' c' b' p'
            · simp [hh]
            · by_cases e1 : b = b' <;> by_cases e2 : p = p' <;> simp [hh, e1, e2]
        · simp [hh]
theorem inRange_eq (x lo hi : Int) : impl_inRange.f x lo hi = some (decide (lo ≤ x ∧ x ≤ hi)) := by
  simp only [impl_inRange.f]
  by_cases h : lo ≤ x
  · rw [if_pos h]; simp [h]
  · rw [if_neg h]; simp [h]
theorem isPort_eq (x : Int) : impl_isPort.f x = some (decide (0 ≤ x ∧ x ≤ 3)) := by simp [impl_isPort.f, inRange_eq]
theorem implVecOk_eq (r c b p : Int) : impl_VecOk.f r c b p = some (vecOk r c b p) := by
  simp only [impl_VecOk.f, inRange_eq, isPort_eq, Option.bind_some, vecOk]
  by_cases h1 : 1 ≤ r ∧ r ≤ 9 <;> by_cases h2 : 1 ≤ b ∧ b ≤ 9 <;> by_cases h3 : r ≤ b <;> by_cases h4 : 0 ≤ c ∧ c ≤ 20 <;> by_cases h5 : 0 ≤ p ∧ p ≤ 3 <;> simp [h1, h2, h3, h4, h5]
  all_goals (first | (cases (c == 0) <;> cases (r == b) <;> rfl) | omega)
theorem isHops_eq (x : Int) : impl_isHops.f x = some (decide (0 ≤ x ∧ x ≤ 8)) := by simp [impl_isHops.f, inRange_eq]
theorem isOpenBy_eq (up has : Bool) (r c b p hops left role wait : Int) (op : Bool) : impl_Port_isOpenBy.f up has r c b p hops left role wait op = some (openBy role wait) := by
  simp only [impl_Port_isOpenBy.f, openBy]
  by_cases h1 : role = 1 <;> by_cases h2 : role = 2 <;> simp [h1, h2]
theorem implPortTail1 (k : Nat) (fl up has : Bool) (r c b p hops left role wait : Int) (op : Bool) : impl_PortOk.j1 (k + 1) fl up has r c b p hops left role wait op = some (!fl && tailOk up role wait op) := by
  simp only [impl_PortOk.j1, inRange_eq, isOpenBy_eq, Option.bind_some, tailOk]
  cases fl
  · by_cases hr : 0 ≤ role ∧ role ≤ 3 <;> by_cases hw : 0 ≤ wait ∧ wait ≤ 4 <;> by_cases h0 : role = 0 <;> cases up <;> simp [hr, hw, h0]
  · simp
theorem implPortOk_ev (up has : Bool) (r c b p hops left role wait : Int) (op : Bool) : Ev (fun k => impl_PortOk.f k up has r c b p hops left role wait op) (portOk ⟨up, has, r, c, b, p, hops, left, role, wait, op⟩) := by
  refine ⟨2, fun k hk => ?_⟩
  obtain ⟨j, rfl⟩ : ∃ j, k = j + 2 := ⟨k - 2, by omega⟩
  simp only [impl_PortOk.f, impl_PortOk.j0, implVecOk_eq, inRange_eq, isHops_eq, Option.bind_some, implPortTail1, portOk, headOk]
  cases has
  · by_cases r0 : r = 0 <;> by_cases c0 : c = 0 <;> by_cases b0 : b = 0 <;> by_cases p0 : p = 0 <;> by_cases h0 : hops = 0 <;> by_cases l0 : left = 0 <;> simp [r0, c0, b0, p0, h0, l0]
  · cases up <;> cases vecOk r c b p <;> by_cases h0 : 0 ≤ hops ∧ hops ≤ 8 <;> by_cases l0 : 1 ≤ left ∧ left ≤ 3 <;> simp [h0, l0]
theorem compare_eq (a b : Int) : cmp_Compare_int.f a b = some (if a < b then -1 else if a > b then 1 else 0) := by
  simp only [cmp_Compare_int.f, cmp_isNaN_int.f, Option.bind_some, bne_self_eq_false]
  simp only [Bool.false_eq_true, if_false]
  (repeat' split) <;> rfl
theorem or_ev (a b c d : Int) : Ev (fun k => cmp_Or_int.f k [a, b, c, d]) (if a ≠ 0 then a else if b ≠ 0 then b else if c ≠ 0 then c else if d ≠ 0 then d else 0) := by
  refine ⟨5, fun k hk => ?_⟩
  obtain ⟨j, rfl⟩ : ∃ j, k = j + 5 := ⟨k - 5, by omega⟩
  simp [cmp_Or_int.f, cmp_Or_int.l0, rd, wrap64]
  (repeat' split) <;> simp_all
theorem implBetter_ev (a b c d a' b' c' d' : Int) : Ev (fun k => impl_Better.f k a b c d a' b' c' d') (better a b c d a' b' c' d') := by
  simp only [impl_Better.f, compare_eq, Option.bind_some]
  refine Ev.bind (or_ev _ _ _ _) (ev_some fun _ => ?_)
  simp only [better]
  congr 1
  rw [decide_eq_decide]
  (repeat' split) <;> omega
theorem claimJ_true (j : Nat) (up has : Bool) (r c b p hops left role wait : Int) (op : Bool) (r' c' b' p' h' : Int) : impl_Claim.j0 (j + 1) h' true up has r c b p hops left role wait op r' c' b' p' = some (up, has, r, c, b, p, hops, left, role, wait, op) := by
  simp only [impl_Claim.j0, if_true]
theorem implClaim_ev (up has : Bool) (r c b p hops left role wait : Int) (op : Bool) (r' c' b' p' h' : Int) : Ev (fun k => impl_Claim.f k up has r c b p hops left role wait op r' c' b' p' h') (claimM ⟨up, has, r, c, b, p, hops, left, role, wait, op⟩ r' c' b' p' h').tup := by
  obtain ⟨K1, h1⟩ := implPortOk_ev up has r c b p hops left role wait op
  obtain ⟨K2, h2⟩ := implBetter_ev r c b p r' c' b' p'
  refine ⟨K1 + K2 + 1, fun k hk => ?_⟩
  obtain ⟨j, rfl⟩ : ∃ j, k = j + 1 := ⟨k - 1, by omega⟩
  have e1 := h1 (j + 1) (by omega)
  have e2 := h2 j (by omega)
  simp only [impl_Claim.f, implVecOk_eq, isHops_eq, e1, Option.bind_some, claimJ_true]
  cases up with
  | false =>
    simp only [Bool.false_eq_true, if_false, claimM, Bool.false_and, Bool.and_false, Prt.tup]
  | true =>
    simp only [if_true]
    by_cases hh : 0 ≤ h' ∧ h' ≤ 8
    · simp only [hh, and_self, decide_true, if_true]
      cases hv : vecOk r' c' b' p' with
      | false => simp only [Bool.false_eq_true, if_false, claimM, hv, Bool.false_and, Bool.and_false, Prt.tup]
      | true =>
        simp only [if_true]
        cases hp : portOk ⟨true, has, r, c, b, p, hops, left, role, wait, op⟩ with
        | false => simp only [Bool.not_false, claimJ_true, claimM, hp, Bool.false_eq_true, if_false, Bool.false_and, Prt.tup]
        | true =>
          simp only [Bool.not_true, impl_Claim.j0, Bool.false_eq_true, if_false, e2, Option.bind_some, claimM, hp, hv, hh, and_self, decide_true, Bool.and_self, if_true]
          cases has with
          | false =>
            simp only [Bool.false_eq_true, if_false, Bool.false_and, Prt.tup]
            split <;> rfl
          | true =>
            simp only [if_true, Bool.true_and]
            cases better r c b p r' c' b' p' with
            | false =>
              simp only [Bool.false_eq_true, if_false, Bool.false_and, Prt.tup]
              split <;> rfl
            | true =>
              simp only [if_true, Bool.true_and]
              by_cases e1 : b' = b
              · subst e1
                by_cases e2 : p' = p
                · subst e2
                  simp [Prt.tup]
                · have e2' : ¬ p = p' := fun h => e2 h.symm
                  simp [Prt.tup, e2, e2']
              · have e1' : ¬ b = b' := fun h => e1 h.symm
                simp [Prt.tup, e1, e1']
    · simp only [hh, decide_false, Bool.false_eq_true, if_false, claimM, Bool.and_false, Prt.tup]
theorem eqPort_eq (a0 a1 : Bool) (a2 a3 a4 a5 a6 a7 a8 a9 : Int) (a10 : Bool) : laws_eqPort.f a0 a1 a2 a3 a4 a5 a6 a7 a8 a9 a10 a0 a1 a2 a3 a4 a5 a6 a7 a8 a9 a10 = some true := by
  simp [laws_eqPort.f, laws_eqVec.f]
theorem FnExactClaim : FnExactClaimPure := by
  intro a0 a1 a2 a3 a4 a5 a6 a7 a8 a9 a10 b0 b1 b2 b3 h
  intros
  obtain ⟨K1, h1⟩ := specClaim_ev a0 a1 a2 a3 a4 a5 a6 a7 a8 a9 a10 b0 b1 b2 b3 h
  obtain ⟨K2, h2⟩ := implClaim_ev a0 a1 a2 a3 a4 a5 a6 a7 a8 a9 a10 b0 b1 b2 b3 h
  obtain ⟨S, hS⟩ : ∃ S, S = K1 + K2 := ⟨_, rfl⟩
  refine ⟨S, ?_⟩
  have h1_0 := h1 S (by omega)
  have h2_0 := h2 S (by omega)
  clear h1 h2
  simp only [laws_FnExactClaim.f, laws_toPort.f, laws_toVec.f, h1_0, h2_0, Option.bind_some, Prt.tup, eqPort_eq, if_true]
end Go.Proofs.Ytfcibdonfjogoaa.Pure

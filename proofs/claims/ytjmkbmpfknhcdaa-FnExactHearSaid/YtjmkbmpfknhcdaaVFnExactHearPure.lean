/- Of the proof of laws.FnExactHear: a part. No condition beyond what its theorems say. -/
/- The statement of laws.FnExactHear over numbers and lists alone: at every input it answers true. No condition but that the numbers are those of their kinds and that no slice is longer than a Go slice can be. -/
import Derived.Test.YtjmkbmpfknhcdaaVFnExactHearPx8
import Derived.Test.YtjmkbmpfknhcdaaVFnExactHearBase
set_option linter.unusedVariables false
set_option linter.unusedSimpArgs false
namespace Go.Proofs.Ytjmkbmpfknhcdaa.Pure
open Go.RowKit Go.Proofs.Ytjmkbmpfknhcdaa.PFnExactHear Go.Proofs.Ytjmkbmpfknhcdaa.Base Go.Proofs.YtjmkbmpfknhcdaaW.PrintWords Go.Proofs.YtjmkbmpfknhcdaaW.PrintLast Go.Proofs.YtjmkbmpfknhcdaaW.PrintMore
def FnExactHearPure : Prop := ∀ (l0 : List (S94)) (a1 : Int) (a2 : Int) (a3 : Int), (l0.length ≤ maxLen ∧ ∀ x ∈ l0, ((Lit.int .i64 x.f0).wf = true) ∧ ((Lit.int .i64 x.f1).wf = true) ∧ ((Lit.int .i64 x.f2).wf = true) ∧ ((Lit.int .i64 x.f3).wf = true)) → ((Lit.int .i64 a1).wf = true) → ((Lit.int .i64 a2).wf = true) → ((Lit.int .i64 a3).wf = true) → ∃ k, laws_FnExactHear.f k l0 a1 a2 a3 = some true
abbrev HB := S90
theorem rdHB {l : List HB} {i : Nat} {x : HB} (h : l[i]? = some x) : rd_T90 l (i : Int) = x := getD_at h
def hOk (x : HB) : Bool := decide (1 ≤ x.f0 ∧ x.f0 ≤ 9) && (decide (1 ≤ x.f1 ∧ x.f1 ≤ 4) && (decide (0 ≤ x.f2 ∧ x.f2 ≤ 3) && decide (1 ≤ x.f3 ∧ x.f3 ≤ 20)))
def hBefore (a b : HB) : Bool := decide (a.f1 < b.f1 ∨ a.f1 = b.f1 ∧ a.f0 < b.f0)
def hNext (p : Option HB) (x : HB) : Bool := match p with | none => true | some y => hBefore y x
def tabM (n : Nat) : Option HB → List HB → Bool
  | _, [] => decide (n ≤ 12)
  | p, x :: t => hOk x && (hNext p x && tabM n (some x) t)
def tableOk (l : List HB) : Bool := tabM l.length none l
theorem hOk_iff (x : HB) : hOk x = true ↔ (1 ≤ x.f0 ∧ x.f0 ≤ 9) ∧ (1 ≤ x.f1 ∧ x.f1 ≤ 4) ∧ (0 ≤ x.f2 ∧ x.f2 ≤ 3) ∧ (1 ≤ x.f3 ∧ x.f3 ≤ 20) := by simp [hOk]
/-- How the reference puts a newly heard one in. -/
def hearM (a v : Int) (x : HB) : Bool → List HB → List HB
  | put, [] => if put then [] else [x]
  | put, y :: t => if (!put && !hBefore y x) = true then (x :: ((if y.f0 = a ∧ y.f1 = v then [] else [y]) ++ hearM a v x true t)) else ((if y.f0 = a ∧ y.f1 = v then [] else [y]) ++ hearM a v x put t)
def hearX (a v p : Int) : HB := ⟨a, v, p, 20⟩
def hearNew (l : List HB) (a v p : Int) : List HB := hearM a v (hearX a v p) false l
def hear (l : List HB) (a v p : Int) : List HB := if tableOk (hearNew l a v p) then hearNew l a v p else l
theorem drop1_length (P : Prop) [Decidable P] (y : HB) : (if P then [] else [y]).length ≤ 1 := by split <;> simp
theorem hearM_length (a v : Int) (x : HB) : ∀ (l : List HB), (hearM a v x true l).length ≤ l.length ∧ (hearM a v x false l).length ≤ l.length + 1 := by
  intro l
  induction l with
  | nil => simp [hearM]
  | cons y t ih =>
    obtain ⟨h1, h2⟩ := ih
    have h3 := drop1_length (y.f0 = a ∧ y.f1 = v) y
    constructor
    · simp only [hearM, Bool.not_true, Bool.false_and, Bool.false_eq_true, if_false, List.length_append, List.length_cons]
      omega
    · simp only [hearM]
      split
      · simp only [List.length_append, List.length_cons]
        omega
      · simp only [List.length_append, List.length_cons]
        omega
theorem hear_length (l : List HB) (a v p : Int) : (hear l a v p).length ≤ l.length + 1 := by
  unfold hear
  split
  · exact (hearM_length a v _ l).2
  · omega
theorem hearM_mem (a v : Int) (x : HB) : ∀ (l : List HB) (put : Bool) (y : HB), y ∈ hearM a v x put l → y = x ∨ y ∈ l := by
  intro l
  induction l with
  | nil => intro put y hy; cases put <;> simp [hearM] at hy; exact Or.inl hy
  | cons z t ih =>
    intro put y hy
    have d : ∀ P : Prop, [Decidable P] → y ∈ (if P then [] else [z]) → y = z := by
      intro P _ h
      split at h <;> simp at h
      exact h
    simp only [hearM] at hy
    split at hy
    · rcases List.mem_cons.1 hy with h | h
      · exact Or.inl h
      · rcases List.mem_append.1 h with h | h
        · exact Or.inr (by rw [d _ h]; simp)
        · rcases ih true y h with h | h
          · exact Or.inl h
          · exact Or.inr (by simp [h])
    · rcases List.mem_append.1 hy with h | h
      · exact Or.inr (by rw [d _ h]; simp)
      · rcases ih put y h with h | h
        · exact Or.inl h
        · exact Or.inr (by simp [h])
theorem hear_mem (l : List HB) (a v p : Int) (y : HB) (h : y ∈ hear l a v p) : y = hearX a v p ∨ y ∈ l := by
  unfold hear at h
  split at h
  · exact hearM_mem a v _ l false y h
  · exact Or.inr h
theorem l3Before_eq (a b : HB) : spec_l3Before.f a.f0 a.f1 a.f2 a.f3 b.f0 b.f1 b.f2 b.f3 = some (hBefore a b) := by
  simp only [spec_l3Before.f, hBefore]
  by_cases h1 : a.f1 < b.f1
  · simp [h1]
  · by_cases h2 : a.f1 = b.f1 <;> simp [h1, h2]
theorem l1In_eq (x lo hi : Int) : spec_l1In.f x lo hi = some (decide (lo ≤ x ∧ x ≤ hi)) := by
  simp only [spec_l1In.f]
  by_cases h : lo ≤ x
  · rw [if_pos h]; simp [h]
  · rw [if_neg h]; simp [h]
theorem specTableOk_ev (l : List HB) (h : l.length ≤ 4194304) : Ev (fun k => spec_TableOk.f k l) (tableOk l) := by
  refine ev_list l (fun k (_ : Option HB) i => spec_TableOk.l0 k l i) (fun p t => tabM l.length p t) (fun i p => p = if i = 0 then none else l[i - 1]?) ?_ ?_ none rfl
  · intro p _
    refine ev_end fun k => ?_
    simp only [spec_TableOk.l0]
    rw [if_neg (by omega)]
    simp [tabM]
    omega
  · intro i p x t hI hi _ hx ih
    have ih' := ih (some x) (by simp [hx])
    have hbefore : ∀ k, (if (i : Int) > 0 then (if 0 ≤ (wrap64 ((i : Int) - 1)) then (if (wrap64 ((i : Int) - 1)) < (l.length : Int) then ((spec_l3Before.f ((rd_T90 l (wrap64 ((i : Int) - 1))).f0) ((rd_T90 l (wrap64 ((i : Int) - 1))).f1) ((rd_T90 l (wrap64 ((i : Int) - 1))).f2) ((rd_T90 l (wrap64 ((i : Int) - 1))).f3) x.f0 x.f1 x.f2 x.f3).bind fun t110 => (if t110 = true then (spec_TableOk.l0 k l ((i + 1 : Nat) : Int)) else (some false))) else (none)) else (none)) else (spec_TableOk.l0 k l ((i + 1 : Nat) : Int))) = if hNext p x = true then spec_TableOk.l0 k l ((i + 1 : Nat) : Int) else some false := by
      intro k
      cases i with
      | zero => simp at hI; subst hI; simp [hNext]
      | succ j =>
        simp at hI
        have hj : l[j]? = some l[j] := List.getElem?_eq_getElem (by omega)
        rw [hj] at hI
        subst hI
        rw [if_pos (by omega), w64 (by omega) (by omega), show ((j + 1 : Nat) : Int) - 1 = (j : Int) by omega, if_pos (by omega), if_pos (by omega), rdHB hj, l3Before_eq]
        (simp [hNext]) <;> rfl
    cases hok : hOk x with
    | true =>
      have a := (hOk_iff x).1 hok
      cases hb : hNext p x with
      | true =>
        have e : tabM l.length p (x :: t) = tabM l.length (some x) t := by simp [tabM, hok, hb]
        rw [e]
        refine Ev.step (fun k => ?_) ih'
        simp only [spec_TableOk.l0]
        rw [if_pos (by omega), if_pos (by omega), rdHB hx, w64_succ (by omega)]
        simp only [l1In_eq, Option.bind_some, a.1, a.2.1, a.2.2.1, a.2.2.2, and_self, decide_true, if_true]
        rw [hbefore k, if_pos hb]
      | false =>
        have e : tabM l.length p (x :: t) = false := by simp [tabM, hb]
        rw [e]
        refine ev_end fun k => ?_
        simp only [spec_TableOk.l0]
        rw [if_pos (by omega), if_pos (by omega), rdHB hx, w64_succ (by omega)]
        simp only [l1In_eq, Option.bind_some, a.1, a.2.1, a.2.2.1, a.2.2.2, and_self, decide_true, if_true]
        rw [hbefore k, if_neg (by simp [hb])]
    | false =>
      have e : tabM l.length p (x :: t) = false := by simp [tabM, hok]
      rw [e]
      refine ev_end fun k => ?_
      simp only [spec_TableOk.l0]
      rw [if_pos (by omega), if_pos (by omega), rdHB hx]
      simp only [hOk] at hok
      by_cases a1 : 1 ≤ x.f0 ∧ x.f0 ≤ 9 <;> by_cases a2 : 1 ≤ x.f1 ∧ x.f1 ≤ 4 <;> by_cases a3 : 0 ≤ x.f2 ∧ x.f2 ≤ 3 <;> by_cases a4 : 1 ≤ x.f3 ∧ x.f3 ≤ 20 <;> simp only [l1In_eq, Option.bind_some, a1, a2, a3, a4, and_self, decide_true, decide_false, if_true, if_false, Bool.false_eq_true, Bool.and_true, Bool.and_false, Bool.true_and, Bool.false_and, Bool.true_eq_false] at hok ⊢
theorem specHear_ev (l : List HB) (a v p : Int) (h : l.length ≤ 2097152) : Ev (fun k => spec_Hear.f k l a v p) (hear l a v p) := by
  have fin : ∀ out : List HB, out.length ≤ 4194304 → Ev (fun k => (spec_TableOk.f k out).bind fun t198 => (if t198 = true then (some out) else ((some (([] : List HB) : List HB)).bind fun y199 => (if y199.length + l.length < 4398046511104 then (some (y199 ++ l)) else (none))))) (if tableOk out then out else l) := by
    intro out ho
    refine Ev.bind (specTableOk_ev out ho) (ev_some fun k => ?_)
    cases tableOk out with
    | true => simp
    | false =>
      simp only [Bool.false_eq_true, if_false, Option.bind_some, List.length_nil, Nat.zero_add, List.nil_append]
      rw [if_pos (by omega)]
  have := ev_list l (fun k (s : List HB × Bool) i => spec_Hear.l0 k l a v s.1 s.2 i a v p 20) (fun s t => if tableOk (s.1 ++ hearM a v (hearX a v p) s.2 t) then s.1 ++ hearM a v (hearX a v p) s.2 t else l) (fun i s => s.1.length ≤ i + (if s.2 then 1 else 0))
    (fun s hI => by
      obtain ⟨acc, put⟩ := s
      dsimp only at hI ⊢
      cases put with
      | true =>
        have e : acc ++ hearM a v (hearX a v p) true [] = acc := by simp [hearM]
        rw [e]
        refine Ev.step (fun k => ?_) (fin acc (by simp at hI; omega))
        simp only [spec_Hear.l0]
        rw [if_neg (by omega)]
        simp only [if_true]
      | false =>
        refine Ev.step (fun k => ?_) (fin (acc ++ hearM a v (hearX a v p) false []) (by simp [hearM] at hI ⊢; omega))
        simp only [spec_Hear.l0]
        rw [if_neg (by omega)]
        simp only [Bool.false_eq_true, if_false]
        simp only [Bool.false_eq_true, if_false] at hI
        rw [if_pos (by omega)]
        simp only [Option.bind_some, hearM, Bool.false_eq_true, if_false, hearX])
    (fun i s y t hI hi _ hy ih => by
      obtain ⟨acc, put⟩ := s
      dsimp only at hI ih ⊢
      have hacc : acc.length ≤ 2097153 := by
        cases put <;> simp at hI <;> omega
      -- the flag of the second part
      have s1 : ∀ k, spec_Hear.l0 (k + 1) l a v acc put (i : Int) a v p 20 = spec_Hear.j1 k l a v acc put (i : Int) (!put && !hBefore y (hearX a v p)) a v p 20 := by
        intro k
        simp only [spec_Hear.l0]
        rw [if_pos (by omega)]
        cases put with
        | true => simp
        | false =>
          simp only [Bool.false_eq_true, if_false, rdHB hy]
          rw [if_pos (by omega)]
          have := l3Before_eq y (hearX a v p)
          simp only [hearX] at this ⊢
          rw [this]
          simp
      refine Ev.step s1 ?_
      by_cases hput : (!put && !hBefore y (hearX a v p)) = true
      · have hpf : put = false := by cases put <;> simp at hput ⊢
        subst hpf
        rw [hput]
        simp only [Bool.false_eq_true, if_false] at hI
        by_cases he : y.f0 = a ∧ y.f1 = v
        · have e : acc ++ hearM a v (hearX a v p) false (y :: t) = (acc ++ [hearX a v p]) ++ hearM a v (hearX a v p) true t := by
            simp only [hearM]
            rw [if_pos hput, if_pos he]
            simp
          have := ih (acc ++ [hearX a v p], true) (by simp; omega)
          rw [e]
          refine Ev.step (fun k => ?_) this
          simp only [spec_Hear.j1, if_true]
          rw [if_pos (by omega)]
          simp only [Option.bind_some]
          rw [if_pos (by omega), if_pos (by omega), rdHB hy, if_pos he.1, if_pos he.2, w64_succ (by omega)]
          rfl
        · have e : acc ++ hearM a v (hearX a v p) false (y :: t) = ((acc ++ [hearX a v p]) ++ [y]) ++ hearM a v (hearX a v p) true t := by
            simp only [hearM]
            rw [if_pos hput, if_neg he]
            simp
          have := ih ((acc ++ [hearX a v p]) ++ [y], true) (by simp; omega)
          rw [e]
          refine Ev.step (fun k => ?_) this
          simp only [spec_Hear.j1, if_true]
          rw [if_pos (by omega)]
          simp only [Option.bind_some]
          rw [if_pos (by omega), if_pos (by omega), rdHB hy, w64_succ (by omega)]
          by_cases h1 : y.f0 = a
          · have h2 : ¬ y.f1 = v := fun h => he ⟨h1, h⟩
            rw [if_pos h1, if_neg h2, if_pos (by simp; omega)]
            rfl
          · rw [if_neg h1, if_pos (by simp; omega)]
            rfl
      · rw [Bool.eq_false_iff.mpr hput]
        by_cases he : y.f0 = a ∧ y.f1 = v
        · have e : acc ++ hearM a v (hearX a v p) put (y :: t) = acc ++ hearM a v (hearX a v p) put t := by
            simp only [hearM]
            rw [if_neg hput, if_pos he]
            simp
          have := ih (acc, put) (by cases put <;> simp at hI ⊢ <;> omega)
          rw [e]
          refine Ev.step (fun k => ?_) this
          simp only [spec_Hear.j1, Bool.false_eq_true, if_false]
          rw [if_pos (by omega), if_pos (by omega), rdHB hy, if_pos he.1, if_pos he.2, w64_succ (by omega)]
        · have e : acc ++ hearM a v (hearX a v p) put (y :: t) = (acc ++ [y]) ++ hearM a v (hearX a v p) put t := by
            simp only [hearM]
            rw [if_neg hput, if_neg he]
            simp
          have := ih (acc ++ [y], put) (by cases put <;> simp at hI ⊢ <;> omega)
          rw [e]
          refine Ev.step (fun k => ?_) this
          simp only [spec_Hear.j1, Bool.false_eq_true, if_false]
          rw [if_pos (by omega), if_pos (by omega), rdHB hy, w64_succ (by omega)]
          by_cases h1 : y.f0 = a
          · have h2 : ¬ y.f1 = v := fun h => he ⟨h1, h⟩
            rw [if_pos h1, if_neg h2, if_pos (by omega)]
          · rw [if_neg h1, if_pos (by omega)])
    ([], false) (by simp)
  simp only [List.nil_append] at this
  exact this
theorem ahead_eq (a b : HB) : impl_ahead.f a.f0 a.f1 a.f2 a.f3 b.f0 b.f1 b.f2 b.f3 = some (hBefore a b) := by
  simp only [impl_ahead.f, hBefore]
  by_cases h1 : a.f1 < b.f1
  · simp [h1]
  · by_cases h2 : a.f1 = b.f1 <;> simp [h1, h2]
theorem inRange_eq (x lo hi : Int) : impl_inRange.f x lo hi = some (decide (lo ≤ x ∧ x ≤ hi)) := by
  simp only [impl_inRange.f]
  by_cases h : lo ≤ x
  · rw [if_pos h]; simp [h]
  · rw [if_neg h]; simp [h]
theorem isAddr_eq (x : Int) : impl_isAddr.f x = some (decide (1 ≤ x ∧ x ≤ 9)) := by simp [impl_isAddr.f, inRange_eq]
theorem isVlan_eq (x : Int) : impl_isVlan.f x = some (decide (1 ≤ x ∧ x ≤ 4)) := by simp [impl_isVlan.f, inRange_eq]
theorem isPort_eq (x : Int) : impl_isPort.f x = some (decide (0 ≤ x ∧ x ≤ 3)) := by simp [impl_isPort.f, inRange_eq]
theorem implTableOk_ev (l : List HB) (h : l.length ≤ 4194304) : Ev (fun k => impl_TableOk.f k l) (tableOk l) := by
  refine ev_list l (fun k (_ : Option HB) i => impl_TableOk.l0 k l l (l.length : Int) i) (fun p t => tabM l.length p t) (fun i p => p = if i = 0 then none else l[i - 1]?) ?_ ?_ none rfl
  · intro p _
    refine ev_end fun k => ?_
    simp only [impl_TableOk.l0]
    rw [if_neg (by omega)]
    simp [tabM]
    omega
  · intro i p x t hI hi _ hx ih
    have ih' := ih (some x) (by simp [hx])
    have s1 : ∀ k, impl_TableOk.l0 (k + 1) l l (l.length : Int) (i : Int) = impl_TableOk.j1 k l (i : Int) l (l.length : Int) (i : Int) (!hOk x) x.f0 x.f1 x.f2 x.f3 := by
      intro k
      simp only [impl_TableOk.l0]
      rw [if_pos (by omega), if_pos (by omega), if_pos (by omega), rdHB hx]
      simp only [isAddr_eq, isVlan_eq, isPort_eq, inRange_eq, Option.bind_some, hOk]
      by_cases a1 : 1 ≤ x.f0 ∧ x.f0 ≤ 9 <;> by_cases a2 : 1 ≤ x.f1 ∧ x.f1 ≤ 4 <;> by_cases a3 : 0 ≤ x.f2 ∧ x.f2 ≤ 3 <;> by_cases a4 : 1 ≤ x.f3 ∧ x.f3 ≤ 20 <;> simp only [a1, a2, a3, a4, and_self, decide_true, decide_false, if_true, if_false, Bool.false_eq_true, Bool.and_true, Bool.and_false, Bool.true_and, Bool.false_and, Bool.not_true, Bool.not_false]
    cases hok : hOk x with
    | true =>
      have hbefore : ∀ k, impl_TableOk.j1 (k + 1) l (i : Int) l (l.length : Int) (i : Int) (!true) x.f0 x.f1 x.f2 x.f3 = if hNext p x = true then impl_TableOk.l0 k l l (l.length : Int) ((i + 1 : Nat) : Int) else some false := by
        intro k
        simp only [impl_TableOk.j1, w64_succ (show (i : Int) < 4611686018427387904 by omega)]
        rw [if_neg (by simp)]
        cases i with
        | zero => simp at hI; subst hI; simp [hNext]
        | succ j =>
          simp at hI
          have hj : l[j]? = some l[j] := List.getElem?_eq_getElem (by omega)
          rw [hj] at hI
          subst hI
          rw [if_pos (by omega), w64 (by omega) (by omega), show ((j + 1 : Nat) : Int) - 1 = (j : Int) by omega, if_pos (by omega), if_pos (by omega), rdHB hj, ahead_eq]
          (simp [hNext]) <;> rfl
      cases hb : hNext p x with
      | true =>
        have e : tabM l.length p (x :: t) = tabM l.length (some x) t := by simp [tabM, hok, hb]
        rw [e]
        refine Ev.step (fun k => (s1 k).trans (by rw [hok])) (Ev.step (fun k => ?_) ih')
        rw [hbefore k, if_pos hb]
      | false =>
        have e : tabM l.length p (x :: t) = false := by simp [tabM, hb]
        rw [e]
        refine Ev.step (fun k => (s1 k).trans (by rw [hok])) (ev_end fun k => ?_)
        rw [hbefore k, if_neg (by simp [hb])]
    | false =>
      have e : tabM l.length p (x :: t) = false := by simp [tabM, hok]
      rw [e]
      refine Ev.step (fun k => (s1 k).trans (by rw [hok])) (ev_end fun k => ?_)
      simp only [impl_TableOk.j1]
      rw [if_pos (by simp)]
def othersM (a v : Int) (l : List HB) : List HB := l.filter fun x => !(decide (x.f0 = a ∧ x.f1 = v))
theorem othersM_length (a v : Int) (l : List HB) : (othersM a v l).length ≤ l.length := List.length_filter_le _ _
theorem implOthers_ev (l : List HB) (a v : Int) (h : l.length ≤ 4194304) : Ev (fun k => impl_others.f k l a v) (othersM a v l) := by
  have := ev_list l (fun k (acc : List HB) i => impl_others.l0 k a v acc l (l.length : Int) i) (fun acc t => acc ++ othersM a v t) (fun i acc => acc.length ≤ i)
    (fun acc hI => ev_end fun k => by simp only [impl_others.l0]; rw [if_neg (by omega)]; simp [othersM])
    (fun i acc x t hI hi _ hx ih => by
      by_cases hp : x.f0 = a ∧ x.f1 = v
      · have hd : (!(decide (x.f0 = a ∧ x.f1 = v))) = false := by rw [decide_eq_true hp]; rfl
        have e : acc ++ othersM a v (x :: t) = acc ++ othersM a v t := by simp only [othersM, List.filter_cons, hd, Bool.false_eq_true, if_false]
        rw [e]
        refine Ev.step (fun k => ?_) (ih acc (by omega))
        simp only [impl_others.l0]
        rw [if_pos (by omega), if_pos (by omega), if_pos (by omega), rdHB hx, if_pos hp.1, if_pos hp.2, w64_succ (by omega)]
      · have hd : (!(decide (x.f0 = a ∧ x.f1 = v))) = true := by rw [decide_eq_false hp]; rfl
        have e : acc ++ othersM a v (x :: t) = (acc ++ [x]) ++ othersM a v t := by simp only [othersM, List.filter_cons, hd, if_true, List.append_assoc, List.cons_append, List.nil_append]
        rw [e]
        refine Ev.step (fun k => ?_) (ih (acc ++ [x]) (by simp; omega))
        simp only [impl_others.l0]
        rw [if_pos (by omega), if_pos (by omega), if_pos (by omega), rdHB hx, w64_succ (by omega)]
        by_cases h1 : x.f0 = a
        · have h2 : ¬ x.f1 = v := fun h => hp ⟨h1, h⟩
          rw [if_pos h1, if_neg h2, if_pos (by omega)]
        · rw [if_neg h1, if_pos (by omega)])
    [] (by simp)
  simpa [impl_others.f] using this
theorem cloneHeard_eq (l : List HB) (h : l.length ≤ 4194304) : impl_Heard_75.f l = some l := by
  simp only [impl_Heard_75.f, Option.bind_some, List.length_nil, Nat.zero_add, List.nil_append]
  rw [if_pos (by omega)]
theorem growHeard_eq (n : Int) (h0 : 0 ≤ n) (h1 : n ≤ 1099511627776) : impl_Heard_114.f ([] : List HB) n = some [] := by
  simp only [impl_Heard_114.f]
  rw [if_pos ⟨h0, h1⟩]
theorem concatHeard_ev (A B C : List HB) (h : A.length + B.length + C.length ≤ 8388608) : Ev (fun k => impl_Heard_78.f k [A, B, C]) (A ++ (B ++ C)) := by
  have r0 : rd_L3 [A, B, C] 0 = A := rfl
  have r1 : rd_L3 [A, B, C] 1 = B := rfl
  have r2 : rd_L3 [A, B, C] 2 = C := rfl
  have e3 : (([A, B, C] : List (List HB)).length : Int) = 3 := rfl
  have s1 : ∀ k, impl_Heard_78.l0 (k + 1) [A, B, C] 0 [A, B, C] 3 0 = impl_Heard_78.l0 k [A, B, C] (A.length : Int) [A, B, C] 3 1 := by
    intro k
    simp only [impl_Heard_78.l0, r0, e3]
    rw [if_pos (by omega), if_pos (by omega), if_pos (by omega), w64 (x := 0 + (A.length : Int)) (by omega) (by omega), if_neg (by omega), w64 (x := 0 + 1) (by omega) (by omega)]
    simp
  have s2 : ∀ k, impl_Heard_78.l0 (k + 1) [A, B, C] (A.length : Int) [A, B, C] 3 1 = impl_Heard_78.l0 k [A, B, C] ((A.length : Int) + B.length) [A, B, C] 3 2 := by
    intro k
    simp only [impl_Heard_78.l0, r1, e3]
    rw [if_pos (by omega), if_pos (by omega), if_pos (by omega), w64 (x := (A.length : Int) + (B.length : Int)) (by omega) (by omega), if_neg (by omega), w64 (x := 1 + 1) (by omega) (by omega)]
    rfl
  have s3 : ∀ k, impl_Heard_78.l0 (k + 1) [A, B, C] ((A.length : Int) + B.length) [A, B, C] 3 2 = impl_Heard_78.l0 k [A, B, C] ((A.length : Int) + B.length + C.length) [A, B, C] 3 3 := by
    intro k
    simp only [impl_Heard_78.l0, r2, e3]
    rw [if_pos (by omega), if_pos (by omega), if_pos (by omega), w64 (x := (A.length : Int) + (B.length : Int) + C.length) (by omega) (by omega), if_neg (by omega), w64 (x := 2 + 1) (by omega) (by omega)]
    rfl
  have s4 : ∀ k, impl_Heard_78.l0 (k + 1) [A, B, C] ((A.length : Int) + B.length + C.length) [A, B, C] 3 3 = impl_Heard_78.l1 k [] [A, B, C] 3 0 := by
    intro k
    simp only [impl_Heard_78.l0, e3]
    rw [if_neg (by omega), growHeard_eq _ (by omega) (by omega)]
    rfl
  have t1 : ∀ k, impl_Heard_78.l1 (k + 1) [] [A, B, C] 3 0 = impl_Heard_78.l1 k A [A, B, C] 3 1 := by
    intro k
    simp only [impl_Heard_78.l1, r0, e3]
    rw [if_pos (by omega), if_pos (by omega), if_pos (by omega), if_pos (by simp; omega), w64 (x := 0 + 1) (by omega) (by omega)]
    simp
  have t2 : ∀ k, impl_Heard_78.l1 (k + 1) A [A, B, C] 3 1 = impl_Heard_78.l1 k (A ++ B) [A, B, C] 3 2 := by
    intro k
    simp only [impl_Heard_78.l1, r1, e3]
    rw [if_pos (by omega), if_pos (by omega), if_pos (by omega), if_pos (by omega), w64 (x := 1 + 1) (by omega) (by omega)]
    rfl
  have t3 : ∀ k, impl_Heard_78.l1 (k + 1) (A ++ B) [A, B, C] 3 2 = impl_Heard_78.l1 k (A ++ (B ++ C)) [A, B, C] 3 3 := by
    intro k
    simp only [impl_Heard_78.l1, r2, e3]
    rw [if_pos (by omega), if_pos (by omega), if_pos (by omega), if_pos (by simp; omega), w64 (x := 2 + 1) (by omega) (by omega), List.append_assoc]
    rfl
  have t4 : ∀ k, impl_Heard_78.l1 (k + 1) (A ++ (B ++ C)) [A, B, C] 3 3 = some (A ++ (B ++ C)) := by
    intro k
    simp only [impl_Heard_78.l1, e3]
    rw [if_neg (by omega)]
  have z8 : Ev (fun k => impl_Heard_78.l1 k (A ++ (B ++ C)) [A, B, C] 3 3) (A ++ (B ++ C)) := ev_end t4
  have z7 : Ev (fun k => impl_Heard_78.l1 k (A ++ B) [A, B, C] 3 2) (A ++ (B ++ C)) := Ev.step t3 z8
  have z6 : Ev (fun k => impl_Heard_78.l1 k A [A, B, C] 3 1) (A ++ (B ++ C)) := Ev.step t2 z7
  have z5 : Ev (fun k => impl_Heard_78.l1 k [] [A, B, C] 3 0) (A ++ (B ++ C)) := Ev.step t1 z6
  have z4 : Ev (fun k => impl_Heard_78.l0 k [A, B, C] ((A.length : Int) + B.length + C.length) [A, B, C] 3 3) (A ++ (B ++ C)) := Ev.step s4 z5
  have z3 : Ev (fun k => impl_Heard_78.l0 k [A, B, C] ((A.length : Int) + B.length) [A, B, C] 3 2) (A ++ (B ++ C)) := Ev.step s3 z4
  have z2 : Ev (fun k => impl_Heard_78.l0 k [A, B, C] (A.length : Int) [A, B, C] 3 1) (A ++ (B ++ C)) := Ev.step s2 z3
  have z1 : Ev (fun k => impl_Heard_78.l0 k [A, B, C] 0 [A, B, C] 3 0) (A ++ (B ++ C)) := Ev.step s1 z2
  refine Ev.congr (fun k => ?_) z1
  simp only [impl_Heard_78.f, e3]
theorem hearM_true (a v : Int) (x : HB) : ∀ t, hearM a v x true t = othersM a v t
  | [] => rfl
  | y :: t => by
    simp only [hearM, Bool.not_true, Bool.false_and, Bool.false_eq_true, if_false, hearM_true a v x t, othersM, List.filter_cons]
    by_cases h : y.f0 = a ∧ y.f1 = v <;> simp [h]
/-- How many stand ahead of one. -/
def aheadN (x : HB) : List HB → Nat
  | [] => 0
  | y :: t => if hBefore y x = true then aheadN x t + 1 else 0
theorem aheadN_le (x : HB) : ∀ l, aheadN x l ≤ l.length
  | [] => Nat.le_refl _
  | y :: t => by
    simp only [aheadN]
    split
    · have := aheadN_le x t
      simp
      omega
    · simp
theorem hearM_cut (a v : Int) (x : HB) : ∀ l, hearM a v x false l = othersM a v (l.take (aheadN x l)) ++ ([x] ++ othersM a v (l.drop (aheadN x l)))
  | [] => rfl
  | y :: t => by
    by_cases hb : hBefore y x = true
    · simp only [hearM, aheadN, hb, Bool.not_false, Bool.not_true, Bool.and_false, Bool.false_eq_true, if_false, if_true, List.take_succ_cons, List.drop_succ_cons, hearM_cut a v x t]
      simp only [othersM, List.filter_cons]
      by_cases h : y.f0 = a ∧ y.f1 = v <;> simp [h]
    · have hb' : hBefore y x = false := by simpa using hb
      simp only [hearM, aheadN, hb', Bool.not_false, Bool.and_true, Bool.false_eq_true, if_false, if_true, List.take_zero, List.drop_zero, hearM_true]
      simp only [othersM, List.filter_cons, List.filter_nil, List.nil_append]
      by_cases h : y.f0 = a ∧ y.f1 = v <;> simp [h]
theorem implHear_j (l : List HB) (a v p : Int) (n : Nat) (h : l.length ≤ 2097152) (hn : n ≤ l.length) (he : n = aheadN (hearX a v p) l) : Ev (fun k => impl_Hear.j1 k l a v l (n : Int) a v p 20) (hear l a v p) := by
  have h1 := implOthers_ev (l.take n) a v (by rw [List.length_take]; omega)
  have h2 := implOthers_ev (l.drop n) a v (by rw [List.length_drop]; omega)
  have l1 := othersM_length a v (l.take n)
  have l2 := othersM_length a v (l.drop n)
  rw [List.length_take] at l1
  rw [List.length_drop] at l2
  have h3 := concatHeard_ev (othersM a v (l.take n)) [⟨a, v, p, 20⟩] (othersM a v (l.drop n)) (by simp; omega)
  have e : othersM a v (l.take n) ++ ([⟨a, v, p, 20⟩] ++ othersM a v (l.drop n)) = hearNew l a v p := by
    rw [hearNew, hearM_cut, he]
    rfl
  rw [e] at h3
  have ln : (hearNew l a v p).length ≤ l.length + 1 := (hearM_length a v _ l).2
  refine Ev.step (f := fun k => _) (fun k => by simp only [impl_Hear.j1, Int.toNat_natCast]; rw [if_pos (by omega), if_pos (by omega)]) ?_
  refine Ev.bind h1 (Ev.bind h2 (Ev.bind h3 (Ev.bind (implTableOk_ev _ (by omega)) (ev_some fun k => ?_))))
  unfold hear
  by_cases ht : tableOk (hearNew l a v p) = true
  · rw [if_pos ht, if_pos ht]
  · rw [if_neg ht, if_neg ht, cloneHeard_eq l (by omega)]
    rfl
theorem implHear_ev (l : List HB) (a v p : Int) (h : l.length ≤ 2097152) : Ev (fun k => impl_Hear.f k l a v p) (hear l a v p) := by
  have key : ∀ (d i : Nat), i + d = l.length → aheadN (hearX a v p) l = i + aheadN (hearX a v p) (l.drop i) → Ev (fun k => impl_Hear.l0 k l a v l (i : Int) a v p 20) (hear l a v p) := by
    intro d
    induction d with
    | zero =>
      intro i hi ha
      refine Ev.step (fun k => ?_) (implHear_j l a v p i h (by omega) ?_)
      · simp only [impl_Hear.l0]
        rw [if_neg (by omega)]
      · rw [ha, List.drop_eq_nil_of_le (by omega)]
        rfl
    | succ d ih =>
      intro i hi ha
      have hx : l[i]? = some l[i] := List.getElem?_eq_getElem (by omega)
      rw [List.drop_eq_getElem_cons (by omega)] at ha
      simp only [aheadN] at ha
      have hq := ahead_eq (l[i]) (hearX a v p)
      simp only [hearX] at hq
      by_cases hb : hBefore l[i] (hearX a v p) = true
      · rw [if_pos hb] at ha
        refine Ev.step (fun k => ?_) (ih (i + 1) (by omega) (by omega))
        simp only [impl_Hear.l0]
        rw [if_pos (by omega), if_pos (by omega), rdHB hx, hq]
        simp only [hearX] at hb
        simp only [Option.bind_some, hb, if_true]
        rw [w64_succ (by omega)]
      · rw [if_neg hb] at ha
        refine Ev.step (fun k => ?_) (implHear_j l a v p i h (by omega) (by omega))
        simp only [impl_Hear.l0]
        rw [if_pos (by omega), if_pos (by omega), rdHB hx, hq]
        simp only [hearX] at hb
        have hb' : hBefore l[i] ⟨a, v, p, 20⟩ = false := by simpa using hb
        simp only [Option.bind_some, hb', Bool.false_eq_true, if_false]
  refine Ev.congr (fun k => ?_) (key l.length 0 (by omega) (by simp))
  simp only [impl_Hear.f, cloneHeard_eq l (by omega), Option.bind_some]
  rfl
abbrev HA := S94
/-- The program's own of a given one. -/
def hcv (x : HA) : HB := ⟨x.f0, x.f1, x.f2, x.f3⟩
theorem rdHA {l : List HA} {i : Nat} {x : HA} (h : l[i]? = some x) : rd_T94 l (i : Int) = x := getD_at h
theorem szHeardS_eq (l : List HA) (n : Int) (h : l.length ≤ maxLen) (h0 : 0 ≤ n) (h1 : n ≤ 1048576) : laws_szHeardS.f l n = some (if (l.length : Int) ≤ n then n - l.length else -1) := by
  unfold maxLen at h
  simp only [laws_szHeardS.f]
  rw [w64 (by omega) (by omega)]
  by_cases hl : (l.length : Int) ≤ n
  · rw [if_neg (by omega), if_pos hl]
  · rw [if_pos (by omega), if_neg hl]
theorem toHeardS_ev (l : List HA) (h : l.length ≤ 4194304) : Ev (fun k => laws_toHeardS.f k l) (l.map hcv) := by
  have h0 := ev_copy l z90 hcv (fun k acc i => laws_toHeardS.l0 k l acc i)
    (fun acc ha => ev_end fun k => by simp only [laws_toHeardS.l0]; rw [if_neg (by omega)])
    (fun i acc x r ha hi hx ih => Ev.step (fun k => by
      simp only [laws_toHeardS.l0, laws_toHeard.f, Option.bind_some]
      rw [if_pos (by omega), if_pos (by omega), if_pos (by omega), rdHA hx, w64_succ (by omega)]
      simp [hcv]) ih)
  refine Ev.congr (fun k => ?_) h0
  simp only [laws_toHeardS.f]
  rw [if_pos (by omega), if_pos (by simp; omega)]
  simp
theorem eqHeardS_ev (l : List HB) (h : l.length ≤ 4194304) : Ev (fun k => laws_eqHeardS.f k l l) true := by
  have h0 := ev_list0 l (fun k i => laws_eqHeardS.l0 k l l i) (fun _ => true)
    (ev_end fun k => by simp only [laws_eqHeardS.l0]; rw [if_neg (by omega)])
    (fun i x t hi _ hx ih => Ev.step (fun k => by
      simp only [laws_eqHeardS.l0, laws_eqHeard.f]
      rw [if_pos (by omega), if_pos (by omega), if_pos (by omega), w64_succ (by omega)]
      simp) ih)
  refine Ev.congr (fun k => ?_) h0
  simp [laws_eqHeardS.f]
def hmk (_ : HB) (n : Int) : HB := ⟨n, n + 1, n + 1 + 1, n + 1 + 1 + 1⟩
theorem rdHB_set {l : List HB} {i : Nat} (h : i < l.length) (v : HB) : rd_T90 (l.set i v) (i : Int) = v := rdHB (by simp [h])
theorem markHeardS_ev (l : List HB) (h : l.length ≤ 4194304) (m : Int) (h0 : 0 ≤ m) (h1 : m ≤ 1125899906842624) : Ev (fun k => laws_markHeardS.f k l m) (m + costs (fun _ => 4) l, upsG hmk (fun _ => 4) m l) := by
  refine ev_mark l hmk (fun _ => 4) (fun _ _ => by decide) (fun k acc n i => laws_markHeardS.l0 k acc n i) (fun acc n ha => ?_) (fun i acc n x r ha hi _ hx hn hb ih => ?_) m h0 (by rw [costs_const]; omega)
  · refine ev_end fun k => ?_
    simp only [laws_markHeardS.l0]
    rw [if_neg (by omega)]
  · refine Ev.step (fun k => ?_) ih
    have hs := fun v => rdHB_set (l := acc) (i := i) (by omega) v
    simp only [laws_markHeardS.l0]
    rw [if_pos (by omega), if_pos (by omega), w64_succ (by omega)]
    simp (disch := omega) only [Option.bind_some, Int.toNat_natCast, hs, List.set_set, w64, hmk]
    have e : n + 4 = n + 1 + 1 + 1 + 1 := by omega
    rw [e]
theorem heldHeardS_ev (l : List HB) (h : l.length ≤ 4194304) (m : Int) (h0 : 0 ≤ m) (h1 : m ≤ 1125899906842624) : Ev (fun k => laws_heldHeardS.f k (upsG hmk (fun _ => 4) m l) m) (m + costs (fun _ => 4) l) := by
  refine ev_held l hmk (fun _ => 4) (fun _ _ => by decide) (fun k acc n i => laws_heldHeardS.l0 k acc n i) (fun acc n ha => ?_) (fun i acc n x r ha hi _ hx hn hb ih => ?_) m h0 (by rw [costs_const]; omega)
  · refine ev_end fun k => ?_
    simp only [laws_heldHeardS.l0]
    rw [if_neg (by omega)]
  · refine Ev.step (fun k => ?_) ih
    simp only [laws_heldHeardS.l0]
    rw [if_pos (by omega), if_pos (by omega), w64_succ (by omega), rdHB hx]
    simp (disch := omega) only [w64, hmk, if_true]
    have e : n + 4 = n + 1 + 1 + 1 + 1 := by omega
    rw [e]
theorem FnExactHear : FnExactHearPure := by
  intro l a v p hl _ _ _
  have hsz := szHeardS_eq l 1048576 hl.1 (by omega) (by omega)
  by_cases hbig : ¬ ((l.length : Int) ≤ 1048576)
  · exact ⟨0, by simp [laws_FnExactHear.f, hsz, hbig]⟩
  have hbig : (l.length : Int) ≤ 1048576 := by omega
  have hlen : (l.map hcv).length ≤ 1048576 := by simp; omega
  have hfl : (hear (l.map hcv) a v p).length ≤ 1048577 := Nat.le_trans (hear_length _ _ _ _) (by omega)
  obtain ⟨K1, h1⟩ := toHeardS_ev l (by omega)
  obtain ⟨K2, h2⟩ := specHear_ev (l.map hcv) a v p (by omega)
  obtain ⟨K3, h3⟩ := implHear_ev (l.map hcv) a v p (by omega)
  generalize hR : hear (l.map hcv) a v p = R at hfl h2 h3
  obtain ⟨K4, h4⟩ := eqHeardS_ev (l.map hcv) (by omega)
  obtain ⟨K5, h5⟩ := eqHeardS_ev R (by omega)
  obtain ⟨K6, h6⟩ := markHeardS_ev (l.map hcv) (by omega) 1 (by omega) (by omega)
  obtain ⟨K7, h7⟩ := markHeardS_ev R (by omega) 1 (by omega) (by omega)
  obtain ⟨K8, h8⟩ := heldHeardS_ev R (by omega) 1 (by omega) (by omega)
  have c1 := costs_nonneg (fun _ : HB => 4) (l.map hcv) (fun _ _ => by decide)
  have c2 := costs_nonneg (fun _ : HB => 4) R (fun _ _ => by decide)
  obtain ⟨S, hS⟩ : ∃ S, S = K1 + K2 + K3 + K4 + K5 + K6 + K7 + K8 := ⟨_, rfl⟩
  refine ⟨S + 1, ?_⟩
  have h1_0 := h1 S (by omega)
  have h1_1 := h1 (S + 1) (by omega)
  have h2_0 := h2 S (by omega)
  have h2_1 := h2 (S + 1) (by omega)
  have h3_0 := h3 S (by omega)
  have h3_1 := h3 (S + 1) (by omega)
  have h4_0 := h4 S (by omega)
  have h4_1 := h4 (S + 1) (by omega)
  have h5_0 := h5 S (by omega)
  have h5_1 := h5 (S + 1) (by omega)
  have h6_0 := h6 S (by omega)
  have h6_1 := h6 (S + 1) (by omega)
  have h7_0 := h7 S (by omega)
  have h7_1 := h7 (S + 1) (by omega)
  have h8_0 := h8 S (by omega)
  have h8_1 := h8 (S + 1) (by omega)
  clear h1 h2 h3 h4 h5 h6 h7 h8
  have e : ¬ ((1048576 : Int) - l.length < 0) := by omega
  have e1 : ¬ ((1 : Int) + costs (fun _ : HB => 4) (l.map hcv) < 0) := by omega
  have e2 : ¬ ((1 : Int) + costs (fun _ : HB => 4) R < 0) := by omega
  simp only [laws_FnExactHear.f, laws_FnExactHear.j0, h1_0, h1_1, h2_0, h2_1, h3_0, h3_1, h4_0, h4_1, h5_0, h5_1, h6_0, h6_1, h7_0, h7_1, h8_0, h8_1, hsz, hbig, e, e1, e2, Option.bind_some, if_true, if_false, Bool.not_true, Bool.false_eq_true]
end Go.Proofs.Ytjmkbmpfknhcdaa.Pure

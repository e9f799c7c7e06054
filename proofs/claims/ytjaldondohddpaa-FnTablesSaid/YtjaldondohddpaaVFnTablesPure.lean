/- Of the proof of laws.FnTables: a part. No condition beyond what its theorems say. -/
/- The statement of laws.FnTables over numbers and lists alone: at every input it answers true. No condition but that the numbers are those of their kinds and that no slice is longer than a Go slice can be. -/
import Derived.Test.YtjaldondohddpaaVFnTablesPx11
import Derived.Test.YtjaldondohddpaaVFnTablesBase
import Derived.Laws.BitsLemmas
set_option linter.unusedVariables false
set_option linter.unusedSimpArgs false
namespace Go.Proofs.Ytjaldondohddpaa.Pure
open Go.RowKit Go.Proofs.Ytjaldondohddpaa.PFnTables Go.Proofs.Ytjaldondohddpaa.Base Go.Proofs.YtjaldondohddpaaW.PrintWords Go.Proofs.YtjaldondohddpaaW.PrintLast Go.Proofs.YtjaldondohddpaaW.PrintMore
def FnTablesPure : Prop := ∀ (l0 : List (Int)), (l0.length ≤ maxLen ∧ ∀ x ∈ l0, (Lit.int .u8 x).wf = true) → ∃ k, laws_FnTables.f k l0 = some true
theorem and_range (x : Int) (m : Nat) (hm : m < 2 ^ 62) : 0 ≤ Go.bits .and .i64 x (m : Int) ∧ Go.bits .and .i64 x (m : Int) ≤ m := by
  have e : Go.bits .and .i64 x (m : Int) = IntKind.i64.wrap (((BitVec.ofInt 64 x) &&& (BitVec.ofInt 64 (m : Int))).toNat : Int) := rfl
  have h1 : ((BitVec.ofInt 64 x) &&& (BitVec.ofInt 64 (m : Int))).toNat ≤ m := by
    rw [BitVec.toNat_and, BitVec.ofInt_natCast, BitVec.toNat_ofNat, Nat.mod_eq_of_lt (by omega)]
    exact Nat.and_le_right
  rw [e, IntKind.wrap_i64]
  omega
theorem and_255_range (x : Int) : 0 ≤ Go.bits .and .i64 x 255 ∧ Go.bits .and .i64 x 255 ≤ 255 := and_range x 255 (by decide)
/-- The cursor's place lies in its bytes. -/
def CurOk (b : List Int) (i : Int) : Prop := 0 ≤ i ∧ i ≤ b.length ∧ b.length ≤ 4194304
/-- It comes to an answer, and P holds of it. -/
def EvP {α : Type} (g : Nat → Option α) (P : α → Prop) : Prop := ∃ r, Ev g r ∧ P r
theorem EvP.bind {α β : Type} {c : Nat → Option α} {f : Nat → α → Option β} {Q : α → Prop} {P : β → Prop} (h : EvP c Q) (hf : ∀ a, Q a → EvP (fun k => f k a) P) : EvP (fun k => (c k).bind (f k)) P := by
  obtain ⟨a, ha, hq⟩ := h
  obtain ⟨r, hr, hp⟩ := hf a hq
  exact ⟨r, Ev.bind ha hr, hp⟩
theorem EvP.now {α : Type} {P : α → Prop} (r : α) (h : P r) : EvP (fun _ => some r) P := ⟨r, Ev.now r, h⟩
theorem EvP.of {α : Type} {g : Nat → Option α} {P : α → Prop} {r : α} (h : Ev g r) (hp : P r) : EvP g P := ⟨r, h, hp⟩
theorem EvP.imp {α : Type} {g : Nat → Option α} {P Q : α → Prop} (h : EvP g P) (hi : ∀ r, P r → Q r) : EvP g Q := by
  obtain ⟨r, hr, hp⟩ := h
  exact ⟨r, hr, hi r hp⟩
theorem Ev.succ {α : Type} {g : Nat → Option α} {r : α} (h : Ev (fun k => g (k + 1)) r) : Ev g r := Ev.step (fun _ => rfl) h
theorem EvP.succ {α : Type} {g : Nat → Option α} {P : α → Prop} (h : EvP (fun k => g (k + 1)) P) : EvP g P := by
  obtain ⟨r, hr, hp⟩ := h
  exact ⟨r, Ev.succ hr, hp⟩
theorem l1New_ev (l : List Int) (h : l.length ≤ 4194304) : ∃ q : Int, Ev (fun k => spec_l1New.f k l) (l, 0, q) := by
  have key : ∀ (d i : Nat) (q : Int), i + d = l.length → ∃ q' : Int, Ev (fun k => spec_l1New.l0 k l q (i : Int)) (l, 0, q') := by
    intro d
    induction d with
    | zero =>
      intro i q hi
      refine ⟨q, ev_end fun k => ?_⟩
      simp only [spec_l1New.l0]
      rw [if_neg (by omega)]
    | succ d ih =>
      intro i q hi
      by_cases h4 : (i : Int) < 4000
      · obtain ⟨q', hq⟩ := ih (i + 1) (Go.bits .and .i64 (wrap64 ((wrap64 ((wrap64 (q * 131)) + (wrap64 (rd l (i : Int))))) + 7)) 1073741823) (by omega)
        refine ⟨q', Ev.step (fun k => ?_) hq⟩
        simp only [spec_l1New.l0]
        rw [if_pos (by omega), if_pos h4, if_pos (by omega), w64_succ (by omega)]
      · refine ⟨q, ev_end fun k => ?_⟩
        simp only [spec_l1New.l0]
        rw [if_pos (by omega), if_neg h4]
  exact key l.length 0 _ (by omega)
abbrev HB := S40
theorem rdHB {l : List HB} {i : Nat} {x : HB} (h : l[i]? = some x) : rd_T40 l (i : Int) = x := getD_at h
def hOk (x : HB) : Bool := decide (1 ≤ x.f0 ∧ x.f0 ≤ 9) && (decide (1 ≤ x.f1 ∧ x.f1 ≤ 4) && (decide (0 ≤ x.f2 ∧ x.f2 ≤ 3) && decide (1 ≤ x.f3 ∧ x.f3 ≤ 20)))
def hBefore (a b : HB) : Bool := decide (a.f1 < b.f1 ∨ a.f1 = b.f1 ∧ a.f0 < b.f0)
def hNext (p : Option HB) (x : HB) : Bool := match p with | none => true | some y => hBefore y x
def tabM (n : Nat) : Option HB → List HB → Bool
  | _, [] => decide (n ≤ 12)
  | p, x :: t => hOk x && (hNext p x && tabM n (some x) t)
def tableOk (l : List HB) : Bool := tabM l.length none l
theorem hOk_iff (x : HB) : hOk x = true ↔ (1 ≤ x.f0 ∧ x.f0 ≤ 9) ∧ (1 ≤ x.f1 ∧ x.f1 ≤ 4) ∧ (0 ≤ x.f2 ∧ x.f2 ≤ 3) ∧ (1 ≤ x.f3 ∧ x.f3 ≤ 20) := by simp [hOk]
/-- How the reference puts a newly heard one in. -/
def hearM (a v : Int) (x : HB) : Bool → List HB → List HB
  | put, [] => if put then [] else [x]
  | put, y :: t => if (!put && !hBefore y x) = true then (x :: ((if y.f0 = a ∧ y.f1 = v then [] else [y]) ++ hearM a v x true t)) else ((if y.f0 = a ∧ y.f1 = v then [] else [y]) ++ hearM a v x put t)
def hearX (a v p : Int) : HB := ⟨a, v, p, 20⟩
def hearNew (l : List HB) (a v p : Int) : List HB := hearM a v (hearX a v p) false l
def hear (l : List HB) (a v p : Int) : List HB := if tableOk (hearNew l a v p) then hearNew l a v p else l
theorem drop1_length (P : Prop) [Decidable P] (y : HB) : (if P then [] else [y]).length ≤ 1 := by split <;> simp
theorem hearM_length (a v : Int) (x : HB) : ∀ (l : List HB), (hearM a v x true l).length ≤ l.length ∧ (hearM a v x false l).length ≤ l.length + 1 := by
  intro l
  induction l with
  | nil => simp [hearM]
  | cons y t ih =>
    obtain ⟨h1, h2⟩ := ih
    have h3 := drop1_length (y.f0 = a ∧ y.f1 = v) y
    constructor
    · simp only [hearM, Bool.not_true, Bool.false_and, Bool.false_eq_true, if_false, List.length_append, List.length_cons]
      omega
    · simp only [hearM]
      split
      · simp only [List.length_append, List.length_cons]
        omega
      · simp only [List.length_append, List.length_cons]
        omega
theorem hear_length (l : List HB) (a v p : Int) : (hear l a v p).length ≤ l.length + 1 := by
  unfold hear
  split
  · exact (hearM_length a v _ l).2
  · omega
theorem hearM_mem (a v : Int) (x : HB) : ∀ (l : List HB) (put : Bool) (y : HB), y ∈ hearM a v x put l → y = x ∨ y ∈ l := by
  intro l
  induction l with
  | nil => intro put y hy; cases put <;> simp [hearM] at hy; exact Or.inl hy
  | cons z t ih =>
    intro put y hy
    have d : ∀ P : Prop, [Decidable P] → y ∈ (if P then [] else [z]) → y = z := by
      intro P _ h
      split at h <;> simp at h
      exact h
    simp only [hearM] at hy
    split at hy
    · rcases List.mem_cons.1 hy with h | h
      · exact Or.inl h
      · rcases List.mem_append.1 h with h | h
        · exact Or.inr (by rw [d _ h]; simp)
        · rcases ih true y h with h | h
          · exact Or.inl h
          · exact Or.inr (by simp [h])
    · rcases List.mem_append.1 hy with h | h
      · exact Or.inr (by rw [d _ h]; simp)
      · rcases ih put y h with h | h
        · exact Or.inl h
        · exact Or.inr (by simp [h])
theorem hear_mem (l : List HB) (a v p : Int) (y : HB) (h : y ∈ hear l a v p) : y = hearX a v p ∨ y ∈ l := by
  unfold hear at h
  split at h
  · exact hearM_mem a v _ l false y h
  · exact Or.inr h
theorem l3Before_eq (a b : HB) : spec_l3Before.f a.f0 a.f1 a.f2 a.f3 b.f0 b.f1 b.f2 b.f3 = some (hBefore a b) := by
  simp only [spec_l3Before.f, hBefore]
  by_cases h1 : a.f1 < b.f1
  · simp [h1]
  · by_cases h2 : a.f1 = b.f1 <;> simp [h1, h2]
theorem l1In_eq (x lo hi : Int) : spec_l1In.f x lo hi = some (decide (lo ≤ x ∧ x ≤ hi)) := by
  simp only [spec_l1In.f]
  by_cases h : lo ≤ x
  · rw [if_pos h]; simp [h]
  · rw [if_neg h]; simp [h]
theorem specTableOk_ev (l : List HB) (h : l.length ≤ 4194304) : Ev (fun k => spec_TableOk.f k l) (tableOk l) := by
  refine ev_list l (fun k (_ : Option HB) i => spec_TableOk.l0 k l i) (fun p t => tabM l.length p t) (fun i p => p = if i = 0 then none else l[i - 1]?) ?_ ?_ none rfl
  · intro p _
    refine ev_end fun k => ?_
    simp only [spec_TableOk.l0]
    rw [if_neg (by omega)]
    simp [tabM]
    omega
  · intro i p x t hI hi _ hx ih
    have ih' := ih (some x) (by simp [hx])
    have hbefore : ∀ k, (if (i : Int) > 0 then (if 0 ≤ (wrap64 ((i : Int) - 1)) then (if (wrap64 ((i : Int) - 1)) < (l.length : Int) then ((spec_l3Before.f ((rd_T40 l (wrap64 ((i : Int) - 1))).f0) ((rd_T40 l (wrap64 ((i : Int) - 1))).f1) ((rd_T40 l (wrap64 ((i : Int) - 1))).f2) ((rd_T40 l (wrap64 ((i : Int) - 1))).f3) x.f0 x.f1 x.f2 x.f3).bind fun t110 => (if t110 = true then (spec_TableOk.l0 k l ((i + 1 : Nat) : Int)) else (some false))) else (none)) else (none)) else (spec_TableOk.l0 k l ((i + 1 : Nat) : Int))) = if hNext p x = true then spec_TableOk.l0 k l ((i + 1 : Nat) : Int) else some false := by
      intro k
      cases i with
      | zero => simp at hI; subst hI; simp [hNext]
      | succ j =>
        simp at hI
        have hj : l[j]? = some l[j] := List.getElem?_eq_getElem (by omega)
        rw [hj] at hI
        subst hI
        rw [if_pos (by omega), w64 (by omega) (by omega), show ((j + 1 : Nat) : Int) - 1 = (j : Int) by omega, if_pos (by omega), if_pos (by omega), rdHB hj, l3Before_eq]
        (simp [hNext]) <;> rfl
    cases hok : hOk x with
    | true =>
      have a := (hOk_iff x).1 hok
      cases hb : hNext p x with
      | true =>
        have e : tabM l.length p (x :: t) = tabM l.length (some x) t := by simp [tabM, hok, hb]
        rw [e]
        refine Ev.step (fun k => ?_) ih'
        simp only [spec_TableOk.l0]
        rw [if_pos (by omega), if_pos (by omega), rdHB hx, w64_succ (by omega)]
        simp only [l1In_eq, Option.bind_some, a.1, a.2.1, a.2.2.1, a.2.2.2, and_self, decide_true, if_true]
        rw [hbefore k, if_pos hb]
      | false =>
        have e : tabM l.length p (x :: t) = false := by simp [tabM, hb]
        rw [e]
        refine ev_end fun k => ?_
        simp only [spec_TableOk.l0]
        rw [if_pos (by omega), if_pos (by omega), rdHB hx, w64_succ (by omega)]
        simp only [l1In_eq, Option.bind_some, a.1, a.2.1, a.2.2.1, a.2.2.2, and_self, decide_true, if_true]
        rw [hbefore k, if_neg (by simp [hb])]
    | false =>
      have e : tabM l.length p (x :: t) = false := by simp [tabM, hok]
      rw [e]
      refine ev_end fun k => ?_
      simp only [spec_TableOk.l0]
      rw [if_pos (by omega), if_pos (by omega), rdHB hx]
      simp only [hOk] at hok
      by_cases a1 : 1 ≤ x.f0 ∧ x.f0 ≤ 9 <;> by_cases a2 : 1 ≤ x.f1 ∧ x.f1 ≤ 4 <;> by_cases a3 : 0 ≤ x.f2 ∧ x.f2 ≤ 3 <;> by_cases a4 : 1 ≤ x.f3 ∧ x.f3 ≤ 20 <;> simp only [l1In_eq, Option.bind_some, a1, a2, a3, a4, and_self, decide_true, decide_false, if_true, if_false, Bool.false_eq_true, Bool.and_true, Bool.and_false, Bool.true_and, Bool.false_and, Bool.true_eq_false] at hok ⊢
theorem specHear_ev (l : List HB) (a v p : Int) (h : l.length ≤ 2097152) : Ev (fun k => spec_Hear.f k l a v p) (hear l a v p) := by
  have fin : ∀ out : List HB, out.length ≤ 4194304 → Ev (fun k => (spec_TableOk.f k out).bind fun t198 => (if t198 = true then (some out) else ((some (([] : List HB) : List HB)).bind fun y199 => (if y199.length + l.length < 4398046511104 then (some (y199 ++ l)) else (none))))) (if tableOk out then out else l) := by
    intro out ho
    refine Ev.bind (specTableOk_ev out ho) (ev_some fun k => ?_)
    cases tableOk out with
    | true => simp
    | false =>
      simp only [Bool.false_eq_true, if_false, Option.bind_some, List.length_nil, Nat.zero_add, List.nil_append]
      rw [if_pos (by omega)]
  have := ev_list l (fun k (s : List HB × Bool) i => spec_Hear.l0 k l a v s.1 s.2 i a v p 20) (fun s t => if tableOk (s.1 ++ hearM a v (hearX a v p) s.2 t) then s.1 ++ hearM a v (hearX a v p) s.2 t else l) (fun i s => s.1.length ≤ i + (if s.2 then 1 else 0))
    (fun s hI => by
      obtain ⟨acc, put⟩ := s
      dsimp only at hI ⊢
      cases put with
      | true =>
        have e : acc ++ hearM a v (hearX a v p) true [] = acc := by simp [hearM]
        rw [e]
        refine Ev.step (fun k => ?_) (fin acc (by simp at hI; omega))
        simp only [spec_Hear.l0]
        rw [if_neg (by omega)]
        simp only [if_true]
      | false =>
        refine Ev.step (fun k => ?_) (fin (acc ++ hearM a v (hearX a v p) false []) (by simp [hearM] at hI ⊢; omega))
        simp only [spec_Hear.l0]
        rw [if_neg (by omega)]
        simp only [Bool.false_eq_true, if_false]
        simp only [Bool.false_eq_true, if_false] at hI
        rw [if_pos (by omega)]
        simp only [Option.bind_some, hearM, Bool.false_eq_true, if_false, hearX])
    (fun i s y t hI hi _ hy ih => by
      obtain ⟨acc, put⟩ := s
      dsimp only at hI ih ⊢
      have hacc : acc.length ≤ 2097153 := by
        cases put <;> simp at hI <;> omega
      -- the flag of the second part
      have s1 : ∀ k, spec_Hear.l0 (k + 1) l a v acc put (i : Int) a v p 20 = spec_Hear.j1 k l a v acc put (i : Int) (!put && !hBefore y (hearX a v p)) a v p 20 := by
        intro k
        simp only [spec_Hear.l0]
        rw [if_pos (by omega)]
        cases put with
        | true => simp
        | false =>
          simp only [Bool.false_eq_true, if_false, rdHB hy]
          rw [if_pos (by omega)]
          have := l3Before_eq y (hearX a v p)
          simp only [hearX] at this ⊢
          rw [this]
          simp
      refine Ev.step s1 ?_
      by_cases hput : (!put && !hBefore y (hearX a v p)) = true
      · have hpf : put = false := by cases put <;> simp at hput ⊢
        subst hpf
        rw [hput]
        simp only [Bool.false_eq_true, if_false] at hI
        by_cases he : y.f0 = a ∧ y.f1 = v
        · have e : acc ++ hearM a v (hearX a v p) false (y :: t) = (acc ++ [hearX a v p]) ++ hearM a v (hearX a v p) true t := by
            simp only [hearM]
            rw [if_pos hput, if_pos he]
            simp
          have := ih (acc ++ [hearX a v p], true) (by simp; omega)
          rw [e]
          refine Ev.step (fun k => ?_) this
          simp only [spec_Hear.j1, if_true]
          rw [if_pos (by omega)]
          simp only [Option.bind_some]
          rw [if_pos (by omega), if_pos (by omega), rdHB hy, if_pos he.1, if_pos he.2, w64_succ (by omega)]
          rfl
        · have e : acc ++ hearM a v (hearX a v p) false (y :: t) = ((acc ++ [hearX a v p]) ++ [y]) ++ hearM a v (hearX a v p) true t := by
            simp only [hearM]
            rw [if_pos hput, if_neg he]
            simp
          have := ih ((acc ++ [hearX a v p]) ++ [y], true) (by simp; omega)
          rw [e]
          refine Ev.step (fun k => ?_) this
          simp only [spec_Hear.j1, if_true]
          rw [if_pos (by omega)]
          simp only [Option.bind_some]
          rw [if_pos (by omega), if_pos (by omega), rdHB hy, w64_succ (by omega)]
          by_cases h1 : y.f0 = a
          · have h2 : ¬ y.f1 = v := fun h => he ⟨h1, h⟩
            rw [if_pos h1, if_neg h2, if_pos (by simp; omega)]
            rfl
          · rw [if_neg h1, if_pos (by simp; omega)]
            rfl
      · rw [Bool.eq_false_iff.mpr hput]
        by_cases he : y.f0 = a ∧ y.f1 = v
        · have e : acc ++ hearM a v (hearX a v p) put (y :: t) = acc ++ hearM a v (hearX a v p) put t := by
            simp only [hearM]
            rw [if_neg hput, if_pos he]
            simp
          have := ih (acc, put) (by cases put <;> simp at hI ⊢ <;> omega)
          rw [e]
          refine Ev.step (fun k => ?_) this
          simp only [spec_Hear.j1, Bool.false_eq_true, if_false]
          rw [if_pos (by omega), if_pos (by omega), rdHB hy, if_pos he.1, if_pos he.2, w64_succ (by omega)]
        · have e : acc ++ hearM a v (hearX a v p) put (y :: t) = (acc ++ [y]) ++ hearM a v (hearX a v p) put t := by
            simp only [hearM]
            rw [if_neg hput, if_neg he]
            simp
          have := ih (acc ++ [y], put) (by cases put <;> simp at hI ⊢ <;> omega)
          rw [e]
          refine Ev.step (fun k => ?_) this
          simp only [spec_Hear.j1, Bool.false_eq_true, if_false]
          rw [if_pos (by omega), if_pos (by omega), rdHB hy, w64_succ (by omega)]
          by_cases h1 : y.f0 = a
          · have h2 : ¬ y.f1 = v := fun h => he ⟨h1, h⟩
            rw [if_pos h1, if_neg h2, if_pos (by omega)]
          · rw [if_neg h1, if_pos (by omega)])
    ([], false) (by simp)
  simp only [List.nil_append] at this
  exact this
def ageM : List HB → List HB
  | [] => []
  | x :: t => if x.f3 > 1 then ⟨x.f0, x.f1, x.f2, x.f3 - 1⟩ :: ageM t else ageM t
theorem ageM_length : ∀ l : List HB, (ageM l).length ≤ l.length := by
  intro l
  induction l with
  | nil => simp [ageM]
  | cons x t ih =>
    simp only [ageM]
    split <;> simp <;> omega
theorem specAge_ev (l : List HB) (h : l.length ≤ 4194304) (hw : ∀ x ∈ l, x.f3 ≤ 9223372036854775807) : Ev (fun k => spec_Age.f k l) (ageM l) := by
  have := ev_list l (fun k (acc : List HB) i => spec_Age.l0 k l acc i) (fun acc t => acc ++ ageM t) (fun i acc => acc.length ≤ i)
    (fun acc hI => ev_end fun k => by simp only [spec_Age.l0]; rw [if_neg (by omega)]; simp [ageM])
    (fun i acc x t hI hi _ hx ih => by
      have hwx := hw x (List.mem_of_getElem? hx)
      by_cases hp : x.f3 > 1
      · have e : acc ++ ageM (x :: t) = (acc ++ [⟨x.f0, x.f1, x.f2, x.f3 - 1⟩]) ++ ageM t := by simp [ageM, hp]
        rw [e]
        refine Ev.step (fun k => ?_) (ih (acc ++ [⟨x.f0, x.f1, x.f2, x.f3 - 1⟩]) (by simp; omega))
        simp only [spec_Age.l0]
        rw [if_pos (by omega), if_pos (by omega), rdHB hx, if_pos hp, if_pos (by omega), w64_succ (by omega), w64 (by omega) (by omega)]
      · have e : acc ++ ageM (x :: t) = acc ++ ageM t := by simp [ageM, hp]
        rw [e]
        refine Ev.step (fun k => ?_) (ih acc (by omega))
        simp only [spec_Age.l0]
        rw [if_pos (by omega), if_pos (by omega), rdHB hx, if_neg hp, w64_succ (by omega)])
    [] (by simp)
  simpa [spec_Age.f] using this
theorem l1Byte_some (b : List Int) (i q : Int) (h : CurOk b i) : ∃ r i' q', spec_l1Byte.f b i q = some (r, i', q') ∧ CurOk b i' ∧ 0 ≤ r ∧ r ≤ 255 := by
  obtain ⟨h0, h1, h2⟩ := h
  simp only [spec_l1Byte.f]
  by_cases hi : i < (b.length : Int)
  · rw [if_pos hi, if_pos h0]
    refine ⟨_, _, _, rfl, ⟨?_, ?_, h2⟩, (and_255_range _).1, (and_255_range _).2⟩ <;> rw [w64 (by omega) (by omega)] <;> omega
  · rw [if_neg hi]
    exact ⟨_, _, _, rfl, ⟨h0, h1, h2⟩, (and_255_range _).1, (and_255_range _).2⟩
theorem l1Below_some (b : List Int) (i q n : Int) (h : CurOk b i) : ∃ r i' q', spec_l1Below.f b i q n = some (r, i', q') ∧ CurOk b i' ∧ 0 ≤ r ∧ (0 < n → r < n) := by
  simp only [spec_l1Below.f]
  by_cases h0 : n ≤ 0
  · rw [if_pos h0]
    exact ⟨_, _, _, rfl, h, by omega, by omega⟩
  · rw [if_neg h0]
    obtain ⟨r1, i1, q1, e1, c1, a1, b1⟩ := l1Byte_some b i q h
    by_cases h2 : n ≤ 256
    · rw [if_pos h2, e1]
      simp only [Option.bind_some]
      rw [if_neg (by omega), Int.tmod_eq_emod_of_nonneg a1]
      exact ⟨_, _, _, rfl, c1, Int.emod_nonneg _ (by omega), fun _ => Int.emod_lt_of_pos _ (by omega)⟩
    · obtain ⟨r2, i2, q2, e2, c2, a2, b2⟩ := l1Byte_some b i1 q1 c1
      obtain ⟨r3, i3, q3, e3, c3, a3, b3⟩ := l1Byte_some b i2 q2 c2
      obtain ⟨r4, i4, q4, e4, c4, a4, b4⟩ := l1Byte_some b i3 q3 c3
      rw [if_neg h2, e1]
      simp only [Option.bind_some, e2, e3, e4]
      rw [if_neg (by omega), w64 (x := r1 * 16777216) (by omega) (by omega), w64 (x := r2 * 65536) (by omega) (by omega), w64 (x := r3 * 256) (by omega) (by omega), w64 (x := r1 * 16777216 + r2 * 65536) (by omega) (by omega), w64 (x := r1 * 16777216 + r2 * 65536 + r3 * 256) (by omega) (by omega), w64 (by omega) (by omega), Int.tmod_eq_emod_of_nonneg (by omega)]
      exact ⟨_, _, _, rfl, c4, Int.emod_nonneg _ (by omega), fun _ => Int.emod_lt_of_pos _ (by omega)⟩
theorem l1Below_evp (b : List Int) (i q n : Int) (h : CurOk b i) : EvP (fun _ => spec_l1Below.f b i q n) (fun r => CurOk b r.2.1 ∧ 0 ≤ r.1 ∧ (0 < n → r.1 < n)) := by
  obtain ⟨r, i', q', e, c, h0, h1⟩ := l1Below_some b i q n h
  exact ⟨(r, i', q'), ev_some fun _ => e, c, h0, h1⟩
theorem l1Once_some (b : List Int) (i q n : Int) (h : CurOk b i) : ∃ r i' q', spec_l1Once.f b i q n = some (r, i', q') ∧ CurOk b i' := by
  obtain ⟨r, i', q', e, c, _⟩ := l1Below_some b i q n h
  exact ⟨r == 0, i', q', by simp [spec_l1Once.f, e], c⟩
theorem l1Once_evp (b : List Int) (i q n : Int) (h : CurOk b i) : EvP (fun _ => spec_l1Once.f b i q n) (fun r => CurOk b r.2.1) := by
  obtain ⟨r, i', q', e, c⟩ := l1Once_some b i q n h
  exact ⟨(r, i', q'), ev_some fun _ => e, c⟩
/-- A drawn list: how many, and how long each is known at the most. -/
def Drawn3 (n : Nat) (l : List HB) : Prop := l.length ≤ n ∧ ∀ x ∈ l, x.f3 ≤ 21
theorem drawn3_hear {n : Nat} {l : List HB} (h : Drawn3 n l) (a v p : Int) : Drawn3 (n + 1) (hear l a v p) := by
  refine ⟨Nat.le_trans (hear_length l a v p) (by have := h.1; omega), fun x hx => ?_⟩
  rcases hear_mem l a v p x hx with rfl | hx
  · simp [hearX]
  · exact h.2 x hx
theorem ageM_mem : ∀ (l : List HB) (x : HB), x ∈ ageM l → ∃ y ∈ l, y.f3 > 1 ∧ x.f3 = y.f3 - 1 := by
  intro l
  induction l with
  | nil => intro x h; simp [ageM] at h
  | cons z t ih =>
    intro x h
    simp only [ageM] at h
    split at h
    · rcases List.mem_cons.1 h with rfl | h
      · exact ⟨z, by simp, by assumption, rfl⟩
      · obtain ⟨y, hy, h⟩ := ih x h
        exact ⟨y, by simp [hy], h⟩
    · obtain ⟨y, hy, h⟩ := ih x h
      exact ⟨y, by simp [hy], h⟩
theorem drawn3_age {n : Nat} {l : List HB} (h : Drawn3 n l) : Drawn3 n (ageM l) := by
  refine ⟨Nat.le_trans (ageM_length l) h.1, fun x hx => ?_⟩
  obtain ⟨y, hy, _, e⟩ := ageM_mem l x hx
  have := h.2 y hy
  omega
theorem l3DrawRight_evp (b : List Int) (i q : Int) (h : CurOk b i) : EvP (fun k => spec_l3DrawRight.f k b i q) (fun r => CurOk b r.2.1 ∧ Drawn3 9 r.1) := by
  have key : ∀ (d n : Nat) (l : List HB) (i q : Int), n + d = 9 → CurOk b i → Drawn3 n l → EvP (fun k => spec_l3DrawRight.l0 k l (n : Int) b i q) (fun r => CurOk b r.2.1 ∧ Drawn3 9 r.1) := by
    intro d
    induction d with
    | zero =>
      intro n l i q hn hc hl
      refine EvP.succ ?_
      simp only [spec_l3DrawRight.l0]
      refine EvP.bind (l1Below_evp b i q 9 hc) (fun r hr => ?_)
      have := hr.2.2 (by omega)
      simp only [if_neg (show ¬ (n : Int) < r.1 by omega)]
      exact EvP.now _ ⟨hr.1, by have : n = 9 := by omega
                                subst this; exact hl⟩
    | succ d ih =>
      intro n l i q hn hc hl
      refine EvP.succ ?_
      simp only [spec_l3DrawRight.l0]
      refine EvP.bind (l1Below_evp b i q 9 hc) (fun r hr => ?_)
      by_cases hlt : (n : Int) < r.1
      · simp only [if_pos hlt]
        refine EvP.bind (l1Below_evp b _ _ 4 hr.1) (fun r1 h1 => ?_)
        refine EvP.bind (l1Below_evp b _ _ 3 h1.1) (fun r2 h2 => ?_)
        refine EvP.bind (l1Below_evp b _ _ 4 h2.1) (fun r3 h3 => ?_)
        refine EvP.bind (EvP.of (specHear_ev l _ _ _ (by have := hl.1; omega)) (drawn3_hear hl _ _ _)) (fun t ht => ?_)
        refine EvP.bind (l1Once_evp b _ _ 4 h3.1) (fun r4 h4 => ?_)
        rw [w64_succ (by omega)]
        by_cases ho : r4.1 = true
        · simp only [if_pos ho]
          refine EvP.bind (EvP.of (specAge_ev t (by have := ht.1; omega) (fun x hx => by have := ht.2 x hx; omega)) (drawn3_age ht)) (fun t2 ht2 => ?_)
          exact ih (n + 1) t2 _ _ (by omega) h4 ht2
        · simp only [if_neg ho]
          exact ih (n + 1) t _ _ (by omega) h4 ht
      · simp only [if_neg hlt]
        exact EvP.now _ ⟨hr.1, Nat.le_trans hl.1 (by omega), hl.2⟩
  exact key 9 0 [] i q rfl h ⟨by simp, by simp⟩
theorem l1PickInt_some (b : List Int) (i q : Int) (l : List Int) (h : CurOk b i) (hl : 0 < l.length) : ∃ r i' q', spec_l1PickInt.f b i q l = some (r, i', q') ∧ CurOk b i' ∧ r ∈ l := by
  obtain ⟨r, i', q', e, c, h0, h1⟩ := l1Below_some b i q l.length h
  have h1 := h1 (by omega)
  obtain ⟨n, rfl⟩ := Int.eq_ofNat_of_zero_le h0
  refine ⟨l[n]'(by omega), i', q', ?_, c, List.getElem_mem _⟩
  simp only [spec_l1PickInt.f, e, Option.bind_some]
  rw [if_pos h0, if_pos h1, rd_at (List.getElem?_eq_getElem (by omega))]
theorem l1PickInt_evp (b : List Int) (i q : Int) (l : List Int) (h : CurOk b i) (hl : 0 < l.length) : EvP (fun _ => spec_l1PickInt.f b i q l) (fun r => CurOk b r.2.1 ∧ r.1 ∈ l) := by
  obtain ⟨r, i', q', e, c, hm⟩ := l1PickInt_some b i q l h hl
  exact ⟨(r, i', q'), ev_some fun _ => e, c, hm⟩
theorem l3Draw_evp (b : List Int) (i q : Int) (h : CurOk b i) : EvP (fun k => spec_l3Draw.f k b i q) (fun r => CurOk b r.2.1 ∧ Drawn3 18 r.1) := by
  have key : ∀ (d n m : Nat) (l : List HB) (i q : Int), n + d = 10 → m + d = 18 → CurOk b i → Drawn3 m l → EvP (fun k => spec_l3Draw.l0 k l (n : Int) b i q) (fun r => CurOk b r.2.1 ∧ Drawn3 18 r.1) := by
    intro d
    induction d with
    | zero =>
      intro n m l i q hn hm hc hl
      refine EvP.succ ?_
      simp only [spec_l3Draw.l0]
      simp only [if_neg (show ¬ (n : Int) ≤ 9 by omega)]
      exact EvP.now _ ⟨hc, by have : m = 18 := by omega
                              subst this; exact hl⟩
    | succ d ih =>
      intro n m l i q hn hm hc hl
      refine EvP.succ ?_
      simp only [spec_l3Draw.l0]
      simp only [if_pos (show (n : Int) ≤ 9 by omega)]
      refine EvP.bind (EvP.of (specHear_ev l _ _ _ (by have := hl.1; omega)) (drawn3_hear hl _ _ _)) (fun t ht => ?_)
      rw [w64_succ (by omega)]
      exact ih (n + 1) (m + 1) t _ _ (by omega) (by omega) hc ht
  simp only [spec_l3Draw.f]
  refine EvP.bind (l3DrawRight_evp b i q h) (fun r hr => ?_)
  refine EvP.bind (l1Below_evp b _ _ 8 hr.1) (fun r1 h1 => ?_)
  by_cases e0 : r1.1 = 0
  · simp only [if_pos e0]
    refine EvP.bind (l1Below_evp b _ _ 11 h1.1) (fun r2 h2 => ?_)
    refine EvP.bind (l1Below_evp b _ _ 6 h2.1) (fun r3 h3 => ?_)
    refine EvP.bind (l1Below_evp b _ _ 6 h3.1) (fun r4 h4 => ?_)
    refine EvP.bind (l1PickInt_evp b _ _ [0, 1, 20, 21] h4.1 (by simp)) (fun r5 h5 => ?_)
    simp only [if_pos (show r.1.length < 4398046511104 by have := hr.2.1; omega)]
    refine EvP.now _ ⟨h5.1, ?_, fun x hx => ?_⟩
    · have := hr.2.1
      simp
      omega
    · rcases List.mem_append.1 hx with hx | hx
      · exact hr.2.2 x hx
      · simp at hx
        subst hx
        have := h5.2
        simp at this
        dsimp only
        omega
  · simp only [if_neg e0]
    by_cases e1 : r1.1 = 1
    · simp only [if_pos e1]
      exact key 9 1 9 r.1 _ _ rfl rfl h1.1 hr.2
    · simp only [if_neg e1]
      exact EvP.now _ ⟨h1.1, Nat.le_trans hr.2.1 (by omega), hr.2.2⟩
theorem drawAge_evp (l : List Int) (h : l.length ≤ 4194304) : EvP (fun k => spec_DrawAge.f k l) (Drawn3 18) := by
  obtain ⟨q, hq⟩ := l1New_ev l h
  simp only [spec_DrawAge.f]
  refine EvP.bind (EvP.of hq (P := fun r => r = (l, 0, q)) rfl) (fun r hr => ?_)
  subst hr
  refine EvP.bind (l3Draw_evp l 0 q ⟨by omega, by omega, h⟩) (fun r hr => ?_)
  by_cases e0 : (r.1.length : Int) > 0
  · simp only [if_pos e0]
    refine EvP.bind (l1Once_evp l _ _ 2 hr.1) (fun r1 h1 => ?_)
    by_cases e1 : r1.1 = true
    · simp only [if_pos e1, if_pos (show 0 < (r.1.length : Int) from e0)]
      refine EvP.now _ ⟨by have := hr.2.1; simp; omega, fun x hx => ?_⟩
      rcases List.mem_or_eq_of_mem_set hx with hx | rfl
      · exact hr.2.2 x hx
      · simp
    · simp only [if_neg e1]
      exact EvP.now _ hr.2
  · simp only [if_neg e0]
    exact EvP.now _ hr.2
theorem drawHear_evp (l : List Int) (h : l.length ≤ 4194304) : EvP (fun k => spec_DrawHear.f k l) (fun r => Drawn3 18 r.1) := by
  obtain ⟨q, hq⟩ := l1New_ev l h
  simp only [spec_DrawHear.f]
  refine EvP.bind (EvP.of hq (P := fun r => r = (l, 0, q)) rfl) (fun r hr => ?_)
  subst hr
  refine EvP.bind (l3Draw_evp l 0 q ⟨by omega, by omega, h⟩) (fun r hr => ?_)
  refine EvP.bind (l1Below_evp l _ _ 11 hr.1) (fun r1 h1 => ?_)
  refine EvP.bind (l1Below_evp l _ _ 6 h1.1) (fun r2 h2 => ?_)
  refine EvP.bind (l1Below_evp l _ _ 6 h2.1) (fun r3 h3 => ?_)
  exact EvP.now _ hr.2
theorem drawForget_evp (l : List Int) (h : l.length ≤ 4194304) : EvP (fun k => spec_DrawForget.f k l) (fun r => Drawn3 18 r.1) := by
  obtain ⟨q, hq⟩ := l1New_ev l h
  simp only [spec_DrawForget.f]
  refine EvP.bind (EvP.of hq (P := fun r => r = (l, 0, q)) rfl) (fun r hr => ?_)
  subst hr
  refine EvP.bind (l3Draw_evp l 0 q ⟨by omega, by omega, h⟩) (fun r hr => ?_)
  refine EvP.bind (l1Below_evp l _ _ 6 hr.1) (fun r1 h1 => ?_)
  exact EvP.now _ hr.2
theorem drawWhere_evp (l : List Int) (h : l.length ≤ 4194304) : EvP (fun k => spec_DrawWhere.f k l) (fun r => Drawn3 18 r.1) := by
  obtain ⟨q, hq⟩ := l1New_ev l h
  simp only [spec_DrawWhere.f]
  refine EvP.bind (EvP.of hq (P := fun r => r = (l, 0, q)) rfl) (fun r hr => ?_)
  subst hr
  refine EvP.bind (l3Draw_evp l 0 q ⟨by omega, by omega, h⟩) (fun r hr => ?_)
  refine EvP.bind (l1Below_evp l _ _ 6 hr.1) (fun r1 h1 => ?_)
  refine EvP.bind (l1Below_evp l _ _ 5 h1.1) (fun r2 h2 => ?_)
  exact EvP.now _ hr.2
theorem drawTableOk_evp (l : List Int) (h : l.length ≤ 4194304) : EvP (fun k => spec_DrawTableOk.f k l) (Drawn3 18) := by
  obtain ⟨q, hq⟩ := l1New_ev l h
  simp only [spec_DrawTableOk.f]
  refine EvP.bind (EvP.of hq (P := fun r => r = (l, 0, q)) rfl) (fun r hr => ?_)
  subst hr
  refine EvP.bind (l3Draw_evp l 0 q ⟨by omega, by omega, h⟩) (fun r hr => ?_)
  exact EvP.now _ hr.2
theorem ahead_eq (a b : HB) : impl_ahead.f a.f0 a.f1 a.f2 a.f3 b.f0 b.f1 b.f2 b.f3 = some (hBefore a b) := by
  simp only [impl_ahead.f, hBefore]
  by_cases h1 : a.f1 < b.f1
  · simp [h1]
  · by_cases h2 : a.f1 = b.f1 <;> simp [h1, h2]
theorem inRange_eq (x lo hi : Int) : impl_inRange.f x lo hi = some (decide (lo ≤ x ∧ x ≤ hi)) := by
  simp only [impl_inRange.f]
  by_cases h : lo ≤ x
  · rw [if_pos h]; simp [h]
  · rw [if_neg h]; simp [h]
theorem isAddr_eq (x : Int) : impl_isAddr.f x = some (decide (1 ≤ x ∧ x ≤ 9)) := by simp [impl_isAddr.f, inRange_eq]
theorem isVlan_eq (x : Int) : impl_isVlan.f x = some (decide (1 ≤ x ∧ x ≤ 4)) := by simp [impl_isVlan.f, inRange_eq]
theorem isPort_eq (x : Int) : impl_isPort.f x = some (decide (0 ≤ x ∧ x ≤ 3)) := by simp [impl_isPort.f, inRange_eq]
theorem implTableOk_ev (l : List HB) (h : l.length ≤ 4194304) : Ev (fun k => impl_TableOk.f k l) (tableOk l) := by
  refine ev_list l (fun k (_ : Option HB) i => impl_TableOk.l0 k l l (l.length : Int) i) (fun p t => tabM l.length p t) (fun i p => p = if i = 0 then none else l[i - 1]?) ?_ ?_ none rfl
  · intro p _
    refine ev_end fun k => ?_
    simp only [impl_TableOk.l0]
    rw [if_neg (by omega)]
    simp [tabM]
    omega
  · intro i p x t hI hi _ hx ih
    have ih' := ih (some x) (by simp [hx])
    have s1 : ∀ k, impl_TableOk.l0 (k + 1) l l (l.length : Int) (i : Int) = impl_TableOk.j1 k l (i : Int) l (l.length : Int) (i : Int) (!hOk x) x.f0 x.f1 x.f2 x.f3 := by
      intro k
      simp only [impl_TableOk.l0]
      rw [if_pos (by omega), if_pos (by omega), if_pos (by omega), rdHB hx]
      simp only [isAddr_eq, isVlan_eq, isPort_eq, inRange_eq, Option.bind_some, hOk]
      by_cases a1 : 1 ≤ x.f0 ∧ x.f0 ≤ 9 <;> by_cases a2 : 1 ≤ x.f1 ∧ x.f1 ≤ 4 <;> by_cases a3 : 0 ≤ x.f2 ∧ x.f2 ≤ 3 <;> by_cases a4 : 1 ≤ x.f3 ∧ x.f3 ≤ 20 <;> simp only [a1, a2, a3, a4, and_self, decide_true, decide_false, if_true, if_false, Bool.false_eq_true, Bool.and_true, Bool.and_false, Bool.true_and, Bool.false_and, Bool.not_true, Bool.not_false]
    cases hok : hOk x with
    | true =>
      have hbefore : ∀ k, impl_TableOk.j1 (k + 1) l (i : Int) l (l.length : Int) (i : Int) (!true) x.f0 x.f1 x.f2 x.f3 = if hNext p x = true then impl_TableOk.l0 k l l (l.length : Int) ((i + 1 : Nat) : Int) else some false := by
        intro k
        simp only [impl_TableOk.j1, w64_succ (show (i : Int) < 4611686018427387904 by omega)]
        rw [if_neg (by simp)]
        cases i with
        | zero => simp at hI; subst hI; simp [hNext]
        | succ j =>
          simp at hI
          have hj : l[j]? = some l[j] := List.getElem?_eq_getElem (by omega)
          rw [hj] at hI
          subst hI
          rw [if_pos (by omega), w64 (by omega) (by omega), show ((j + 1 : Nat) : Int) - 1 = (j : Int) by omega, if_pos (by omega), if_pos (by omega), rdHB hj, ahead_eq]
          (simp [hNext]) <;> rfl
      cases hb : hNext p x with
      | true =>
        have e : tabM l.length p (x :: t) = tabM l.length (some x) t := by simp [tabM, hok, hb]
        rw [e]
        refine Ev.step (fun k => (s1 k).trans (by rw [hok])) (Ev.step (fun k => ?_) ih')
        rw [hbefore k, if_pos hb]
      | false =>
        have e : tabM l.length p (x :: t) = false := by simp [tabM, hb]
        rw [e]
        refine Ev.step (fun k => (s1 k).trans (by rw [hok])) (ev_end fun k => ?_)
        rw [hbefore k, if_neg (by simp [hb])]
    | false =>
      have e : tabM l.length p (x :: t) = false := by simp [tabM, hok]
      rw [e]
      refine Ev.step (fun k => (s1 k).trans (by rw [hok])) (ev_end fun k => ?_)
      simp only [impl_TableOk.j1]
      rw [if_pos (by simp)]
def othersM (a v : Int) (l : List HB) : List HB := l.filter fun x => !(decide (x.f0 = a ∧ x.f1 = v))
theorem othersM_length (a v : Int) (l : List HB) : (othersM a v l).length ≤ l.length := List.length_filter_le _ _
theorem implOthers_ev (l : List HB) (a v : Int) (h : l.length ≤ 4194304) : Ev (fun k => impl_others.f k l a v) (othersM a v l) := by
  have := ev_list l (fun k (acc : List HB) i => impl_others.l0 k a v acc l (l.length : Int) i) (fun acc t => acc ++ othersM a v t) (fun i acc => acc.length ≤ i)
    (fun acc hI => ev_end fun k => by simp only [impl_others.l0]; rw [if_neg (by omega)]; simp [othersM])
    (fun i acc x t hI hi _ hx ih => by
      by_cases hp : x.f0 = a ∧ x.f1 = v
      · have hd : (!(decide (x.f0 = a ∧ x.f1 = v))) = false := by rw [decide_eq_true hp]; rfl
        have e : acc ++ othersM a v (x :: t) = acc ++ othersM a v t := by simp only [othersM, List.filter_cons, hd, Bool.false_eq_true, if_false]
        rw [e]
        refine Ev.step (fun k => ?_) (ih acc (by omega))
        simp only [impl_others.l0]
        rw [if_pos (by omega), if_pos (by omega), if_pos (by omega), rdHB hx, if_pos hp.1, if_pos hp.2, w64_succ (by omega)]
      · have hd : (!(decide (x.f0 = a ∧ x.f1 = v))) = true := by rw [decide_eq_false hp]; rfl
        have e : acc ++ othersM a v (x :: t) = (acc ++ [x]) ++ othersM a v t := by simp only [othersM, List.filter_cons, hd, if_true, List.append_assoc, List.cons_append, List.nil_append]
        rw [e]
        refine Ev.step (fun k => ?_) (ih (acc ++ [x]) (by simp; omega))
        simp only [impl_others.l0]
        rw [if_pos (by omega), if_pos (by omega), if_pos (by omega), rdHB hx, w64_succ (by omega)]
        by_cases h1 : x.f0 = a
        · have h2 : ¬ x.f1 = v := fun h => hp ⟨h1, h⟩
          rw [if_pos h1, if_neg h2, if_pos (by omega)]
        · rw [if_neg h1, if_pos (by omega)])
    [] (by simp)
  simpa [impl_others.f] using this
theorem cloneHeard_eq (l : List HB) (h : l.length ≤ 4194304) : impl_Heard_75.f l = some l := by
  simp only [impl_Heard_75.f, Option.bind_some, List.length_nil, Nat.zero_add, List.nil_append]
  rw [if_pos (by omega)]
theorem growHeard_eq (n : Int) (h0 : 0 ≤ n) (h1 : n ≤ 1099511627776) : impl_Heard_132.f ([] : List HB) n = some [] := by
  simp only [impl_Heard_132.f]
  rw [if_pos ⟨h0, h1⟩]
theorem concatHeard_ev (A B C : List HB) (h : A.length + B.length + C.length ≤ 8388608) : Ev (fun k => impl_Heard_78.f k [A, B, C]) (A ++ (B ++ C)) := by
  have r0 : rd_L3 [A, B, C] 0 = A := rfl
  have r1 : rd_L3 [A, B, C] 1 = B := rfl
  have r2 : rd_L3 [A, B, C] 2 = C := rfl
  have e3 : (([A, B, C] : List (List HB)).length : Int) = 3 := rfl
  have s1 : ∀ k, impl_Heard_78.l0 (k + 1) [A, B, C] 0 [A, B, C] 3 0 = impl_Heard_78.l0 k [A, B, C] (A.length : Int) [A, B, C] 3 1 := by
    intro k
    simp only [impl_Heard_78.l0, r0, e3]
    rw [if_pos (by omega), if_pos (by omega), if_pos (by omega), w64 (x := 0 + (A.length : Int)) (by omega) (by omega), if_neg (by omega), w64 (x := 0 + 1) (by omega) (by omega)]
    simp
  have s2 : ∀ k, impl_Heard_78.l0 (k + 1) [A, B, C] (A.length : Int) [A, B, C] 3 1 = impl_Heard_78.l0 k [A, B, C] ((A.length : Int) + B.length) [A, B, C] 3 2 := by
    intro k
    simp only [impl_Heard_78.l0, r1, e3]
    rw [if_pos (by omega), if_pos (by omega), if_pos (by omega), w64 (x := (A.length : Int) + (B.length : Int)) (by omega) (by omega), if_neg (by omega), w64 (x := 1 + 1) (by omega) (by omega)]
    rfl
  have s3 : ∀ k, impl_Heard_78.l0 (k + 1) [A, B, C] ((A.length : Int) + B.length) [A, B, C] 3 2 = impl_Heard_78.l0 k [A, B, C] ((A.length : Int) + B.length + C.length) [A, B, C] 3 3 := by
    intro k
    simp only [impl_Heard_78.l0, r2, e3]
    rw [if_pos (by omega), if_pos (by omega), if_pos (by omega), w64 (x := (A.length : Int) + (B.length : Int) + C.length) (by omega) (by omega), if_neg (by omega), w64 (x := 2 + 1) (by omega) (by omega)]
    rfl
  have s4 : ∀ k, impl_Heard_78.l0 (k + 1) [A, B, C] ((A.length : Int) + B.length + C.length) [A, B, C] 3 3 = impl_Heard_78.l1 k [] [A, B, C] 3 0 := by
    intro k
    simp only [impl_Heard_78.l0, e3]
    rw [if_neg (by omega), growHeard_eq _ (by omega) (by omega)]
    rfl
  have t1 : ∀ k, impl_Heard_78.l1 (k + 1) [] [A, B, C] 3 0 = impl_Heard_78.l1 k A [A, B, C] 3 1 := by
    intro k
    simp only [impl_Heard_78.l1, r0, e3]
    rw [if_pos (by omega), if_pos (by omega), if_pos (by omega), if_pos (by simp; omega), w64 (x := 0 + 1) (by omega) (by omega)]
    simp
  have t2 : ∀ k, impl_Heard_78.l1 (k + 1) A [A, B, C] 3 1 = impl_Heard_78.l1 k (A ++ B) [A, B, C] 3 2 := by
    intro k
    simp only [impl_Heard_78.l1, r1, e3]
    rw [if_pos (by omega), if_pos (by omega), if_pos (by omega), if_pos (by omega), w64 (x := 1 + 1) (by omega) (by omega)]
    rfl
  have t3 : ∀ k, impl_Heard_78.l1 (k + 1) (A ++ B) [A, B, C] 3 2 = impl_Heard_78.l1 k (A ++ (B ++ C)) [A, B, C] 3 3 := by
    intro k
    simp only [impl_Heard_78.l1, r2, e3]
    rw [if_pos (by omega), if_pos (by omega), if_pos (by omega), if_pos (by simp; omega), w64 (x := 2 + 1) (by omega) (by omega), List.append_assoc]
    rfl
  have t4 : ∀ k, impl_Heard_78.l1 (k + 1) (A ++ (B ++ C)) [A, B, C] 3 3 = some (A ++ (B ++ C)) := by
    intro k
    simp only [impl_Heard_78.l1, e3]
    rw [if_neg (by omega)]
  have z8 : Ev (fun k => impl_Heard_78.l1 k (A ++ (B ++ C)) [A, B, C] 3 3) (A ++ (B ++ C)) := ev_end t4
  have z7 : Ev (fun k => impl_Heard_78.l1 k (A ++ B) [A, B, C] 3 2) (A ++ (B ++ C)) := Ev.step t3 z8
  have z6 : Ev (fun k => impl_Heard_78.l1 k A [A, B, C] 3 1) (A ++ (B ++ C)) := Ev.step t2 z7
  have z5 : Ev (fun k => impl_Heard_78.l1 k [] [A, B, C] 3 0) (A ++ (B ++ C)) := Ev.step t1 z6
  have z4 : Ev (fun k => impl_Heard_78.l0 k [A, B, C] ((A.length : Int) + B.length + C.length) [A, B, C] 3 3) (A ++ (B ++ C)) := Ev.step s4 z5
  have z3 : Ev (fun k => impl_Heard_78.l0 k [A, B, C] ((A.length : Int) + B.length) [A, B, C] 3 2) (A ++ (B ++ C)) := Ev.step s3 z4
  have z2 : Ev (fun k => impl_Heard_78.l0 k [A, B, C] (A.length : Int) [A, B, C] 3 1) (A ++ (B ++ C)) := Ev.step s2 z3
  have z1 : Ev (fun k => impl_Heard_78.l0 k [A, B, C] 0 [A, B, C] 3 0) (A ++ (B ++ C)) := Ev.step s1 z2
  refine Ev.congr (fun k => ?_) z1
  simp only [impl_Heard_78.f, e3]
theorem hearM_true (a v : Int) (x : HB) : ∀ t, hearM a v x true t = othersM a v t
  | [] => rfl
  | y :: t => by
    simp only [hearM, Bool.not_true, Bool.false_and, Bool.false_eq_true, if_false, hearM_true a v x t, othersM, List.filter_cons]
    by_cases h : y.f0 = a ∧ y.f1 = v <;> simp [h]
/-- How many stand ahead of one. -/
def aheadN (x : HB) : List HB → Nat
  | [] => 0
  | y :: t => if hBefore y x = true then aheadN x t + 1 else 0
theorem aheadN_le (x : HB) : ∀ l, aheadN x l ≤ l.length
  | [] => Nat.le_refl _
  | y :: t => by
    simp only [aheadN]
    split
    · have := aheadN_le x t
      simp
      omega
    · simp
theorem hearM_cut (a v : Int) (x : HB) : ∀ l, hearM a v x false l = othersM a v (l.take (aheadN x l)) ++ ([x] ++ othersM a v (l.drop (aheadN x l)))
  | [] => rfl
  | y :: t => by
    by_cases hb : hBefore y x = true
    · simp only [hearM, aheadN, hb, Bool.not_false, Bool.not_true, Bool.and_false, Bool.false_eq_true, if_false, if_true, List.take_succ_cons, List.drop_succ_cons, hearM_cut a v x t]
      simp only [othersM, List.filter_cons]
      by_cases h : y.f0 = a ∧ y.f1 = v <;> simp [h]
    · have hb' : hBefore y x = false := by simpa using hb
      simp only [hearM, aheadN, hb', Bool.not_false, Bool.and_true, Bool.false_eq_true, if_false, if_true, List.take_zero, List.drop_zero, hearM_true]
      simp only [othersM, List.filter_cons, List.filter_nil, List.nil_append]
      by_cases h : y.f0 = a ∧ y.f1 = v <;> simp [h]
theorem implHear_j (l : List HB) (a v p : Int) (n : Nat) (h : l.length ≤ 2097152) (hn : n ≤ l.length) (he : n = aheadN (hearX a v p) l) : Ev (fun k => impl_Hear.j1 k l a v l (n : Int) a v p 20) (hear l a v p) := by
  have h1 := implOthers_ev (l.take n) a v (by rw [List.length_take]; omega)
  have h2 := implOthers_ev (l.drop n) a v (by rw [List.length_drop]; omega)
  have l1 := othersM_length a v (l.take n)
  have l2 := othersM_length a v (l.drop n)
  rw [List.length_take] at l1
  rw [List.length_drop] at l2
  have h3 := concatHeard_ev (othersM a v (l.take n)) [⟨a, v, p, 20⟩] (othersM a v (l.drop n)) (by simp; omega)
  have e : othersM a v (l.take n) ++ ([⟨a, v, p, 20⟩] ++ othersM a v (l.drop n)) = hearNew l a v p := by
    rw [hearNew, hearM_cut, he]
    rfl
  rw [e] at h3
  have ln : (hearNew l a v p).length ≤ l.length + 1 := (hearM_length a v _ l).2
  refine Ev.step (f := fun k => _) (fun k => by simp only [impl_Hear.j1, Int.toNat_natCast]; rw [if_pos (by omega), if_pos (by omega)]) ?_
  refine Ev.bind h1 (Ev.bind h2 (Ev.bind h3 (Ev.bind (implTableOk_ev _ (by omega)) (ev_some fun k => ?_))))
  unfold hear
  by_cases ht : tableOk (hearNew l a v p) = true
  · rw [if_pos ht, if_pos ht]
  · rw [if_neg ht, if_neg ht, cloneHeard_eq l (by omega)]
    rfl
theorem implHear_ev (l : List HB) (a v p : Int) (h : l.length ≤ 2097152) : Ev (fun k => impl_Hear.f k l a v p) (hear l a v p) := by
  have key : ∀ (d i : Nat), i + d = l.length → aheadN (hearX a v p) l = i + aheadN (hearX a v p) (l.drop i) → Ev (fun k => impl_Hear.l0 k l a v l (i : Int) a v p 20) (hear l a v p) := by
    intro d
    induction d with
    | zero =>
      intro i hi ha
      refine Ev.step (fun k => ?_) (implHear_j l a v p i h (by omega) ?_)
      · simp only [impl_Hear.l0]
        rw [if_neg (by omega)]
      · rw [ha, List.drop_eq_nil_of_le (by omega)]
        rfl
    | succ d ih =>
      intro i hi ha
      have hx : l[i]? = some l[i] := List.getElem?_eq_getElem (by omega)
      rw [List.drop_eq_getElem_cons (by omega)] at ha
      simp only [aheadN] at ha
      have hq := ahead_eq (l[i]) (hearX a v p)
      simp only [hearX] at hq
      by_cases hb : hBefore l[i] (hearX a v p) = true
      · rw [if_pos hb] at ha
        refine Ev.step (fun k => ?_) (ih (i + 1) (by omega) (by omega))
        simp only [impl_Hear.l0]
        rw [if_pos (by omega), if_pos (by omega), rdHB hx, hq]
        simp only [hearX] at hb
        simp only [Option.bind_some, hb, if_true]
        rw [w64_succ (by omega)]
      · rw [if_neg hb] at ha
        refine Ev.step (fun k => ?_) (implHear_j l a v p i h (by omega) (by omega))
        simp only [impl_Hear.l0]
        rw [if_pos (by omega), if_pos (by omega), rdHB hx, hq]
        simp only [hearX] at hb
        have hb' : hBefore l[i] ⟨a, v, p, 20⟩ = false := by simpa using hb
        simp only [Option.bind_some, hb', Bool.false_eq_true, if_false]
  refine Ev.congr (fun k => ?_) (key l.length 0 (by omega) (by simp))
  simp only [impl_Hear.f, cloneHeard_eq l (by omega), Option.bind_some]
  rfl
theorem implAge_ev (l : List HB) (h : l.length ≤ 4194304) (hw : ∀ x ∈ l, x.f3 ≤ 9223372036854775807) : Ev (fun k => impl_Age.f k l) (ageM l) := by
  have := ev_list l (fun k (acc : List HB) i => impl_Age.l0 k acc l (l.length : Int) i) (fun acc t => acc ++ ageM t) (fun i acc => acc.length ≤ i)
    (fun acc hI => ev_end fun k => by simp only [impl_Age.l0]; rw [if_neg (by omega)]; simp [ageM])
    (fun i acc x t hI hi _ hx ih => by
      have hwx := hw x (List.mem_of_getElem? hx)
      by_cases hp : x.f3 > 1
      · have e : acc ++ ageM (x :: t) = (acc ++ [⟨x.f0, x.f1, x.f2, x.f3 - 1⟩]) ++ ageM t := by simp [ageM, hp]
        rw [e]
        refine Ev.step (fun k => ?_) (ih (acc ++ [⟨x.f0, x.f1, x.f2, x.f3 - 1⟩]) (by simp; omega))
        simp only [impl_Age.l0]
        rw [if_pos (by omega), if_pos (by omega), if_pos (by omega), rdHB hx, if_pos hp, if_pos (by omega), w64_succ (by omega), w64 (by omega) (by omega)]
      · have e : acc ++ ageM (x :: t) = acc ++ ageM t := by simp [ageM, hp]
        rw [e]
        refine Ev.step (fun k => ?_) (ih acc (by omega))
        simp only [impl_Age.l0]
        rw [if_pos (by omega), if_pos (by omega), if_pos (by omega), rdHB hx, if_neg hp, w64_succ (by omega)])
    [] (by simp)
  simpa [impl_Age.f] using this
def whereM (a v : Int) : List HB → Int × Bool
  | [] => (0, false)
  | x :: t => if x.f0 = a ∧ x.f1 = v then (x.f2, true) else whereM a v t
theorem implWhere_ev (l : List HB) (a v : Int) (h : l.length ≤ 4194304) : Ev (fun k => impl_Where.f k l a v) (whereM a v l) := by
  refine ev_list0 l (fun k i => impl_Where.l0 k a v l (l.length : Int) i) (whereM a v)
    (ev_end fun k => by simp only [impl_Where.l0]; rw [if_neg (by omega)]; rfl)
    (fun i x t hi _ hx ih => ?_)
  by_cases h1 : x.f0 = a
  · by_cases h2 : x.f1 = v
    · refine ev_end fun k => ?_
      simp only [impl_Where.l0]
      rw [if_pos (by omega), if_pos (by omega), if_pos (by omega), rdHB hx, if_pos h1, if_pos h2, whereM, if_pos ⟨h1, h2⟩]
    · rw [whereM, if_neg (by simp [h2])]
      refine Ev.step (fun k => ?_) ih
      simp only [impl_Where.l0]
      rw [if_pos (by omega), if_pos (by omega), if_pos (by omega), rdHB hx, if_pos h1, if_neg h2, w64_succ (by omega)]
  · rw [whereM, if_neg (by simp [h1])]
    refine Ev.step (fun k => ?_) ih
    simp only [impl_Where.l0]
    rw [if_pos (by omega), if_pos (by omega), if_pos (by omega), rdHB hx, if_neg h1, w64_succ (by omega)]
theorem specWhere_ev (l : List HB) (a v : Int) (h : l.length ≤ 4194304) : Ev (fun k => spec_Where.f k l a v) (whereM a v l) := by
  refine ev_list0 l (fun k i => spec_Where.l0 k l a v i) (whereM a v)
    (ev_end fun k => by simp only [spec_Where.l0]; rw [if_neg (by omega)]; rfl)
    (fun i x t hi _ hx ih => ?_)
  by_cases h1 : x.f0 = a
  · by_cases h2 : x.f1 = v
    · refine ev_end fun k => ?_
      simp only [spec_Where.l0]
      rw [if_pos (by omega), if_pos (by omega), rdHB hx, if_pos h1, if_pos h2, whereM, if_pos ⟨h1, h2⟩]
    · rw [whereM, if_neg (by simp [h2])]
      refine Ev.step (fun k => ?_) ih
      simp only [spec_Where.l0]
      rw [if_pos (by omega), if_pos (by omega), rdHB hx, if_pos h1, if_neg h2, w64_succ (by omega)]
  · rw [whereM, if_neg (by simp [h1])]
    refine Ev.step (fun k => ?_) ih
    simp only [spec_Where.l0]
    rw [if_pos (by omega), if_pos (by omega), rdHB hx, if_neg h1, w64_succ (by omega)]
def forgetM (p : Int) (l : List HB) : List HB := l.filter fun x => decide (x.f2 ≠ p)
theorem implForget_ev (l : List HB) (p : Int) (h : l.length ≤ 4194304) : Ev (fun k => impl_Forget.f k l p) (forgetM p l) := by
  have := ev_list l (fun k (acc : List HB) i => impl_Forget.l0 k p acc l (l.length : Int) i) (fun acc t => acc ++ forgetM p t) (fun i acc => acc.length ≤ i)
    (fun acc hI => ev_end fun k => by simp only [impl_Forget.l0]; rw [if_neg (by omega)]; simp [forgetM])
    (fun i acc x t hI hi _ hx ih => by
      by_cases hp : x.f2 = p
      · have e : acc ++ forgetM p (x :: t) = acc ++ forgetM p t := by simp [forgetM, hp]
        rw [e]
        refine Ev.step (fun k => ?_) (ih acc (by omega))
        simp only [impl_Forget.l0]
        rw [if_pos (by omega), if_pos (by omega), if_pos (by omega), rdHB hx, if_pos hp, w64_succ (by omega)]
      · have e : acc ++ forgetM p (x :: t) = (acc ++ [x]) ++ forgetM p t := by simp [forgetM, hp]
        rw [e]
        refine Ev.step (fun k => ?_) (ih (acc ++ [x]) (by simp; omega))
        simp only [impl_Forget.l0]
        rw [if_pos (by omega), if_pos (by omega), if_pos (by omega), rdHB hx, if_neg hp, if_pos (by omega), w64_succ (by omega)])
    [] (by simp)
  simpa [impl_Forget.f] using this
theorem specForget_ev (l : List HB) (p : Int) (h : l.length ≤ 4194304) : Ev (fun k => spec_Forget.f k l p) (forgetM p l) := by
  have := ev_list l (fun k (acc : List HB) i => spec_Forget.l0 k l p acc i) (fun acc t => acc ++ forgetM p t) (fun i acc => acc.length ≤ i)
    (fun acc hI => ev_end fun k => by simp only [spec_Forget.l0]; rw [if_neg (by omega)]; simp [forgetM])
    (fun i acc x t hI hi _ hx ih => by
      by_cases hp : x.f2 = p
      · have e : acc ++ forgetM p (x :: t) = acc ++ forgetM p t := by simp [forgetM, hp]
        rw [e]
        refine Ev.step (fun k => ?_) (ih acc (by omega))
        simp only [spec_Forget.l0]
        rw [if_pos (by omega), if_pos (by omega), rdHB hx, if_pos hp, w64_succ (by omega)]
      · have e : acc ++ forgetM p (x :: t) = (acc ++ [x]) ++ forgetM p t := by simp [forgetM, hp]
        rw [e]
        refine Ev.step (fun k => ?_) (ih (acc ++ [x]) (by simp; omega))
        simp only [spec_Forget.l0]
        rw [if_pos (by omega), if_pos (by omega), rdHB hx, if_neg hp, if_pos (by omega), w64_succ (by omega)])
    [] (by simp)
  simpa [spec_Forget.f] using this
theorem sameHeard_ev (l : List HB) (h : l.length ≤ 4194304) : Ev (fun k => laws_sameHeard.f k l l) true := by
  have h0 := ev_list0 l (fun k i => laws_sameHeard.l0 k l l i) (fun _ => true)
    (ev_end fun k => by simp only [laws_sameHeard.l0]; rw [if_neg (by omega)])
    (fun i x t hi _ hx ih => Ev.step (fun k => by
      simp only [laws_sameHeard.l0]
      rw [if_pos (by omega), if_pos (by omega), if_pos (by omega), rdHB hx, w64_succ (by omega)]
      simp) ih)
  refine Ev.congr (fun k => ?_) h0
  simp [laws_sameHeard.f]
theorem hBefore_trans {a b c : HB} (h1 : hBefore a b = true) (h2 : hBefore b c = true) : hBefore a c = true := by
  simp [hBefore] at h1 h2 ⊢
  omega
theorem tabM_pairwise (n : Nat) : ∀ (l : List HB) (p : Option HB), tabM n p l = true → (∀ y, p = some y → ∀ z ∈ l, hBefore y z = true) ∧ l.Pairwise (fun a b => hBefore a b = true) ∧ (∀ z ∈ l, hOk z = true) ∧ n ≤ 12 := by
  intro l
  induction l with
  | nil => intro p h; simpa [tabM] using h
  | cons x t ih =>
    intro p h
    simp only [tabM, Bool.and_eq_true] at h
    obtain ⟨h1, h2, h3⟩ := h
    obtain ⟨i1, i2, i3, i4⟩ := ih (some x) h3
    have hx := i1 x rfl
    refine ⟨fun y hy z hz => ?_, List.pairwise_cons.2 ⟨hx, i2⟩, fun z hz => ?_, i4⟩
    · subst hy
      simp only [hNext] at h2
      rcases List.mem_cons.1 hz with rfl | hz
      · exact h2
      · exact hBefore_trans h2 (hx z hz)
    · rcases List.mem_cons.1 hz with rfl | hz
      · exact h1
      · exact i3 z hz
theorem tableOk_spec {l : List HB} (h : tableOk l = true) : l.Pairwise (fun a b => hBefore a b = true) ∧ (∀ z ∈ l, hOk z = true) ∧ l.length ≤ 12 := (tabM_pairwise l.length l none h).2
theorem same_key {l : List HB} (h : l.Pairwise (fun a b => hBefore a b = true)) {x y : HB} (hx : x ∈ l) (hy : y ∈ l) (h0 : x.f0 = y.f0) (h1 : x.f1 = y.f1) : x = y := by
  induction l with
  | nil => simp at hx
  | cons z t ih =>
    rw [List.pairwise_cons] at h
    rcases List.mem_cons.1 hx with e1 | hx'
    · rcases List.mem_cons.1 hy with e2 | hy'
      · rw [e1, e2]
      · have := h.1 y hy'
        rw [← e1] at this
        simp [hBefore, h0, h1] at this
    · rcases List.mem_cons.1 hy with e2 | hy'
      · have := h.1 x hx'
        rw [← e2] at this
        simp [hBefore, h0, h1] at this
      · exact ih h.2 hx' hy'
def ageN (n : Int) (l : List HB) : List HB := l.filterMap fun x => if x.f3 > n then some ⟨x.f0, x.f1, x.f2, x.f3 - n⟩ else none
theorem ageN_zero : ∀ (l : List HB), (∀ x ∈ l, 0 < x.f3) → ageN 0 l = l := by
  intro l
  induction l with
  | nil => intro _; rfl
  | cons x t ih =>
    intro h
    have hx := h x (by simp)
    have := ih (fun y hy => h y (by simp [hy]))
    simp only [ageN] at this ⊢
    rw [List.filterMap_cons, if_pos hx]
    dsimp only
    rw [this, Int.sub_zero]
theorem ageN_succ : ∀ (l : List HB) (n : Int), 0 ≤ n → ageM (ageN n l) = ageN (n + 1) l := by
  intro l
  induction l with
  | nil => intro n _; rfl
  | cons x t ih =>
    intro n hn
    have := ih n hn
    simp only [ageN] at this ⊢
    rw [List.filterMap_cons, List.filterMap_cons]
    by_cases h1 : x.f3 > n
    · rw [if_pos h1]
      dsimp only
      simp only [ageM]
      by_cases h2 : x.f3 > n + 1
      · rw [if_pos (by omega), if_pos h2, this]
        dsimp only
        congr 2
        omega
      · rw [if_neg (by omega), if_neg h2, this]
    · rw [if_neg h1, if_neg (by omega)]
      exact this
theorem ageN_length (n : Int) (l : List HB) : (ageN n l).length ≤ l.length := List.length_filterMap_le _ _
theorem ageN_left (n : Int) (hn : 0 ≤ n) (l : List HB) (h : ∀ x ∈ l, x.f3 ≤ 21) : ∀ x ∈ ageN n l, x.f3 ≤ 9223372036854775807 := by
  intro x hx
  obtain ⟨y, hy, e⟩ := List.mem_filterMap.1 hx
  have := h y hy
  split at e
  · injection e with e
    subst e
    dsimp only
    omega
  · cases e
theorem sameHeard_evp (l m : List HB) (h : l.length ≤ 4194304) : EvP (fun k => laws_sameHeard.f k l m) (fun b => b = false → l ≠ m) := by
  by_cases hlm : l = m
  · subst hlm
    exact EvP.of (sameHeard_ev l h) (fun e => by cases e)
  simp only [laws_sameHeard.f]
  by_cases he : (l.length : Int) = (m.length : Int)
  · simp only [if_pos he]
    have key : ∀ (d i : Nat), i + d = l.length → EvP (fun k => laws_sameHeard.l0 k l m (i : Int)) (fun b => b = false → l ≠ m) := by
      intro d
      induction d with
      | zero =>
        intro i hi
        refine EvP.succ ?_
        simp only [laws_sameHeard.l0, if_neg (show ¬ (i : Int) < (l.length : Int) by omega)]
        exact EvP.now _ (fun _ => hlm)
      | succ d ih =>
        intro i hi
        refine EvP.succ ?_
        simp only [laws_sameHeard.l0, if_pos (show (i : Int) < (l.length : Int) by omega), if_pos (show (0 : Int) ≤ (i : Int) by omega), if_pos (show (i : Int) < (m.length : Int) by omega), w64_succ (show (i : Int) < 4611686018427387904 by omega)]
        split
        · exact EvP.now _ (fun _ => hlm)
        · exact ih (i + 1) (by omega)
    exact key l.length 0 (by omega)
  · simp only [if_neg he]
    exact EvP.now _ (fun _ => hlm)
theorem where_others (a v : Int) (r : List HB) : ∀ l, whereM a v (othersM a v l ++ r) = whereM a v r
  | [] => rfl
  | y :: t => by
    have ih := where_others a v r t
    simp only [othersM, List.filter_cons] at ih ⊢
    by_cases h : y.f0 = a ∧ y.f1 = v
    · have hd : (!(decide (y.f0 = a ∧ y.f1 = v))) = false := by rw [decide_eq_true h]; rfl
      rw [hd, if_neg (by decide)]
      exact ih
    · have hd : (!(decide (y.f0 = a ∧ y.f1 = v))) = true := by rw [decide_eq_false h]; rfl
      rw [hd, if_pos rfl, List.cons_append, whereM, if_neg h]
      exact ih
theorem where_hear (l : List HB) (a v p : Int) : whereM a v (hearNew l a v p) = (p, true) := by
  rw [hearNew, hearM_cut, where_others]
  simp [whereM, hearX]
theorem tables_j4 (l : List HB) (a v p : Int) (h : l.length ≤ 18) (b : Bool) (hb : b = false → hear l a v p ≠ l) : Ev (fun k => laws_FnTables.j4 k a v p (hear l a v p) b) true := by
  refine Ev.succ ?_
  cases b with
  | true => simp only [laws_FnTables.j4, if_true]; exact ev_some fun _ => rfl
  | false =>
    have hn := hb rfl
    have hlen := hear_length l a v p
    have ht : tableOk (hearNew l a v p) = true := by
      by_cases ht : tableOk (hearNew l a v p) = true
      · exact ht
      · exact absurd (by unfold hear; rw [if_neg ht]) hn
    have e : hear l a v p = hearNew l a v p := by unfold hear; rw [if_pos ht]
    simp only [laws_FnTables.j4, Bool.false_eq_true, if_false]
    refine Ev.bind (implWhere_ev _ a v (by omega)) (Ev.bind (implTableOk_ev _ (by omega)) ?_)
    rw [e, ht, where_hear]
    simp only [if_true, beq_self_eq_true]
    exact ev_some fun _ => rfl
theorem tables_j3 (l : List HB) (a v p : Int) (h : l.length ≤ 18) : Ev (fun k => laws_FnTables.j3 k l a v p (hear l a v p)) true := by
  have hlen := hear_length l a v p
  refine Ev.succ ?_
  simp only [laws_FnTables.j3]
  refine Ev.bind (implTableOk_ev l (by omega)) ?_
  by_cases ht : tableOk l = true
  · simp only [if_pos ht]
    obtain ⟨b, hb, hP⟩ := sameHeard_evp (hear l a v p) l (by omega)
    exact Ev.bind hb (tables_j4 l a v p h b hP)
  · simp only [if_neg ht]
    exact tables_j4 l a v p h true (fun e => by cases e)
theorem tables_l1 (x : List HB) (a v p : Int) (hx : x.length ≤ 18) (t : List HB) (ht : Drawn3 18 t) (hok : tableOk t = true) : Ev (fun k => laws_FnTables.l1 k x a v p (hear x a v p) t 0) true := by
  obtain ⟨_, ho, _⟩ := tableOk_spec hok
  have key : ∀ (d i : Nat), i + d = 20 → Ev (fun k => laws_FnTables.l1 k x a v p (hear x a v p) (ageN (i : Int) t) (i : Int)) true := by
    intro d
    induction d with
    | zero =>
      intro i hi
      have e : ageN (i : Int) t = [] := by
        unfold ageN
        rw [List.filterMap_eq_nil_iff]
        intro y hy
        have := (hOk_iff y).1 (ho y hy)
        rw [if_neg (by omega)]
      refine Ev.succ ?_
      rw [e]
      simp only [laws_FnTables.l1, if_neg (show ¬ (i : Int) < 20 by omega), List.length_nil]
      exact tables_j3 x a v p hx
    | succ d ih =>
      intro i hi
      have hlen := ageN_length (i : Int) t
      have hl := ht.1
      refine Ev.succ ?_
      simp only [laws_FnTables.l1, if_pos (show (i : Int) < 20 by omega), w64_succ (show (i : Int) < 4611686018427387904 by omega)]
      refine Ev.bind (implAge_ev (ageN (i : Int) t) (by omega) (ageN_left _ (by omega) t ht.2)) ?_
      rw [ageN_succ t (i : Int) (by omega)]
      exact ih (i + 1) (by omega)
  have := key 20 0 (by omega)
  rw [show ((0 : Nat) : Int) = 0 by rfl, ageN_zero t (fun y hy => by have := (hOk_iff y).1 (ho y hy); omega)] at this
  exact this
theorem tables_l0 (x : List HB) (a v p : Int) (hx : x.length ≤ 18) (t : List HB) (ht : Drawn3 18 t) (q : Int) (f : List HB) (hf : f.length ≤ 18) : Ev (fun k => laws_FnTables.l0 k x a v p (hear x a v p) t q (forgetM q f) 0) true := by
  have hlen : (forgetM q f).length ≤ f.length := List.length_filter_le _ _
  have h0 := ev_list0 (forgetM q f) (fun k i => laws_FnTables.l0 k x a v p (hear x a v p) t q (forgetM q f) i) (fun _ => true)
    (by
      refine Ev.succ ?_
      simp only [laws_FnTables.l0, if_neg (show ¬ ((forgetM q f).length : Int) < ((forgetM q f).length : Int) by omega)]
      refine Ev.bind (implTableOk_ev t (by have := ht.1; omega)) ?_
      by_cases hok : tableOk t = true
      · simp only [if_pos hok]
        exact tables_l1 x a v p hx t ht hok
      · simp only [if_neg hok]
        exact tables_j3 x a v p hx)
    (fun i y r hi _ hy ih => Ev.step (fun k => by
      have hm := List.mem_of_getElem? hy
      have hne : ¬ y.f2 = q := by simpa using (List.mem_filter.1 hm).2
      simp only [laws_FnTables.l0]
      rw [if_pos (by omega), if_pos (by omega), rdHB hy, if_neg hne, w64_succ (by omega)]) ih)
  exact h0
theorem FnTables : FnTablesPure := by
  intro l hl
  have hb : ∀ x ∈ l, 0 ≤ x ∧ x < 256 := fun x hx => wf8 (hl.2 x hx)
  refine Ev.rounds ?_
  simp only [laws_FnTables.f, laws_big.f, Option.bind_some]
  by_cases hbig : (l.length : Int) > 1048576
  · exact ev_some fun _ => by simp [hbig]
  simp only [hbig, decide_false, Bool.false_eq_true, if_false]
  obtain ⟨⟨x, a, v, p⟩, hd, hdx⟩ := drawHear_evp l (by omega)
  have hx : Drawn3 18 x := hdx
  have hx18 := hx.1
  have hh18 := hear_length x a v p
  refine Ev.bind hd (Ev.bind (implHear_ev x a v p (by omega)) ?_)
  obtain ⟨t, ht, htd⟩ := drawAge_evp l (by omega)
  have ht18 := htd.1
  have h3 : ∀ y ∈ t, y.f3 ≤ 9223372036854775807 := fun y hy => by have := htd.2 y hy; omega
  refine Ev.bind ht (Ev.bind (implAge_ev t (by omega) h3) ?_)
  obtain ⟨⟨f, q⟩, hf, hfd⟩ := drawForget_evp l (by omega)
  have hf18 : f.length ≤ 18 := hfd.1
  have hfl : (forgetM q f).length ≤ f.length := List.length_filter_le _ _
  refine Ev.bind hf (Ev.bind (implForget_ev f q (by omega)) ?_)
  obtain ⟨⟨w, b, c⟩, hw, hwd⟩ := drawWhere_evp l (by omega)
  have hw18 : w.length ≤ 18 := hwd.1
  refine Ev.bind hw (Ev.bind (implWhere_ev w b c (by omega)) (Ev.bind (specWhere_ev w b c (by omega)) ?_))
  obtain ⟨o, ho, hod⟩ := drawTableOk_evp l (by omega)
  have ho18 := hod.1
  have hal := ageM_length t
  refine Ev.bind ho (Ev.bind (specHear_ev x a v p (by omega)) (Ev.bind (sameHeard_ev _ (by omega)) ?_))
  simp only [if_true]
  refine Ev.bind (specAge_ev t (by omega) h3) (Ev.bind (sameHeard_ev _ (by omega)) ?_)
  simp only [if_true]
  refine Ev.bind (specForget_ev f q (by omega)) (Ev.bind (sameHeard_ev _ (by omega)) ?_)
  simp only [if_true, bne_self_eq_false, Bool.false_eq_true, if_false]
  refine Ev.bind (implTableOk_ev o (by omega)) (Ev.bind (specTableOk_ev o (by omega)) ?_)
  simp only [bne_self_eq_false]
  refine Ev.succ ?_
  simp only [laws_FnTables.j0, Bool.false_eq_true, if_false]
  exact tables_l0 x a v p hx18 t htd q f hf18
end Go.Proofs.Ytjaldondohddpaa.Pure

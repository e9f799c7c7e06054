/- Of the proof of laws.FnFlushed: a part. No condition beyond what its theorems say. -/
/- The statement of laws.FnFlushed over numbers and lists alone: at every input it answers true. No condition but that the numbers are those of their kinds and that no slice is longer than a Go slice can be. -/
import Derived.Test.YtjaldondohddpaaVFnFlushedT
import Derived.Test.YtjaldondohddpaaVFnFlushedBase
import Derived.Laws.BitsLemmas
set_option linter.unusedVariables false
set_option linter.unusedSimpArgs false
namespace Go.Proofs.Ytjaldondohddpaa.Pure
open Go.RowKit Go.Proofs.Ytjaldondohddpaa.PFnFlushed Go.Proofs.Ytjaldondohddpaa.Base Go.Proofs.YtjaldondohddpaaW.PrintWords Go.Proofs.YtjaldondohddpaaW.PrintLast Go.Proofs.YtjaldondohddpaaW.PrintMore
def FnFlushedPure : Prop := ∀ (l0 : List (Int)), (l0.length ≤ maxLen ∧ ∀ x ∈ l0, (Lit.int .u8 x).wf = true) → ∃ k, laws_FnFlushed.f k l0 = some true
theorem and_range (x : Int) (m : Nat) (hm : m < 2 ^ 62) : 0 ≤ Go.bits .and .i64 x (m : Int) ∧ Go.bits .and .i64 x (m : Int) ≤ m := by
  have e : Go.bits .and .i64 x (m : Int) = IntKind.i64.wrap (((BitVec.ofInt 64 x) &&& (BitVec.ofInt 64 (m : Int))).toNat : Int) := rfl
  have h1 : ((BitVec.ofInt 64 x) &&& (BitVec.ofInt 64 (m : Int))).toNat ≤ m := by
    rw [BitVec.toNat_and, BitVec.ofInt_natCast, BitVec.toNat_ofNat, Nat.mod_eq_of_lt (by omega)]
    exact Nat.and_le_right
  rw [e, IntKind.wrap_i64]
  omega
theorem and_255_range (x : Int) : 0 ≤ Go.bits .and .i64 x 255 ∧ Go.bits .and .i64 x 255 ≤ 255 := and_range x 255 (by decide)
/-- The cursor's place lies in its bytes. -/
def CurOk (b : List Int) (i : Int) : Prop := 0 ≤ i ∧ i ≤ b.length ∧ b.length ≤ 4194304
/-- It comes to an answer, and P holds of it. -/
def EvP {α : Type} (g : Nat → Option α) (P : α → Prop) : Prop := ∃ r, Ev g r ∧ P r
theorem EvP.bind {α β : Type} {c : Nat → Option α} {f : Nat → α → Option β} {Q : α → Prop} {P : β → Prop} (h : EvP c Q) (hf : ∀ a, Q a → EvP (fun k => f k a) P) : EvP (fun k => (c k).bind (f k)) P := by
  obtain ⟨a, ha, hq⟩ := h
  obtain ⟨r, hr, hp⟩ := hf a hq
  exact ⟨r, Ev.bind ha hr, hp⟩
theorem EvP.now {α : Type} {P : α → Prop} (r : α) (h : P r) : EvP (fun _ => some r) P := ⟨r, Ev.now r, h⟩
theorem EvP.of {α : Type} {g : Nat → Option α} {P : α → Prop} {r : α} (h : Ev g r) (hp : P r) : EvP g P := ⟨r, h, hp⟩
theorem EvP.imp {α : Type} {g : Nat → Option α} {P Q : α → Prop} (h : EvP g P) (hi : ∀ r, P r → Q r) : EvP g Q := by
  obtain ⟨r, hr, hp⟩ := h
  exact ⟨r, hr, hi r hp⟩
theorem Ev.succ {α : Type} {g : Nat → Option α} {r : α} (h : Ev (fun k => g (k + 1)) r) : Ev g r := Ev.step (fun _ => rfl) h
theorem EvP.succ {α : Type} {g : Nat → Option α} {P : α → Prop} (h : EvP (fun k => g (k + 1)) P) : EvP g P := by
  obtain ⟨r, hr, hp⟩ := h
  exact ⟨r, Ev.succ hr, hp⟩
theorem l1New_ev (l : List Int) (h : l.length ≤ 4194304) : ∃ q : Int, Ev (fun k => spec_l1New.f k l) (l, 0, q) := by
  have key : ∀ (d i : Nat) (q : Int), i + d = l.length → ∃ q' : Int, Ev (fun k => spec_l1New.l0 k l q (i : Int)) (l, 0, q') := by
    intro d
    induction d with
    | zero =>
      intro i q hi
      refine ⟨q, ev_end fun k => ?_⟩
      simp only [spec_l1New.l0]
      rw [if_neg (by omega)]
    | succ d ih =>
      intro i q hi
      by_cases h4 : (i : Int) < 4000
      · obtain ⟨q', hq⟩ := ih (i + 1) (Go.bits .and .i64 (wrap64 ((wrap64 ((wrap64 (q * 131)) + (wrap64 (rd l (i : Int))))) + 7)) 1073741823) (by omega)
        refine ⟨q', Ev.step (fun k => ?_) hq⟩
        simp only [spec_l1New.l0]
        rw [if_pos (by omega), if_pos h4, if_pos (by omega), w64_succ (by omega)]
      · refine ⟨q, ev_end fun k => ?_⟩
        simp only [spec_l1New.l0]
        rw [if_pos (by omega), if_neg h4]
  exact key l.length 0 _ (by omega)
theorem l1Byte_some (b : List Int) (i q : Int) (h : CurOk b i) : ∃ r i' q', spec_l1Byte.f b i q = some (r, i', q') ∧ CurOk b i' ∧ 0 ≤ r ∧ r ≤ 255 := by
  obtain ⟨h0, h1, h2⟩ := h
  simp only [spec_l1Byte.f]
  by_cases hi : i < (b.length : Int)
  · rw [if_pos hi, if_pos h0]
    refine ⟨_, _, _, rfl, ⟨?_, ?_, h2⟩, (and_255_range _).1, (and_255_range _).2⟩ <;> rw [w64 (by omega) (by omega)] <;> omega
  · rw [if_neg hi]
    exact ⟨_, _, _, rfl, ⟨h0, h1, h2⟩, (and_255_range _).1, (and_255_range _).2⟩
theorem l1Below_some (b : List Int) (i q n : Int) (h : CurOk b i) : ∃ r i' q', spec_l1Below.f b i q n = some (r, i', q') ∧ CurOk b i' ∧ 0 ≤ r ∧ (0 < n → r < n) := by
  simp only [spec_l1Below.f]
  by_cases h0 : n ≤ 0
  · rw [if_pos h0]
    exact ⟨_, _, _, rfl, h, by omega, by omega⟩
  · rw [if_neg h0]
    obtain ⟨r1, i1, q1, e1, c1, a1, b1⟩ := l1Byte_some b i q h
    by_cases h2 : n ≤ 256
    · rw [if_pos h2, e1]
      simp only [Option.bind_some]
      rw [if_neg (by omega), Int.tmod_eq_emod_of_nonneg a1]
      exact ⟨_, _, _, rfl, c1, Int.emod_nonneg _ (by omega), fun _ => Int.emod_lt_of_pos _ (by omega)⟩
    · obtain ⟨r2, i2, q2, e2, c2, a2, b2⟩ := l1Byte_some b i1 q1 c1
      obtain ⟨r3, i3, q3, e3, c3, a3, b3⟩ := l1Byte_some b i2 q2 c2
      obtain ⟨r4, i4, q4, e4, c4, a4, b4⟩ := l1Byte_some b i3 q3 c3
      rw [if_neg h2, e1]
      simp only [Option.bind_some, e2, e3, e4]
      rw [if_neg (by omega), w64 (x := r1 * 16777216) (by omega) (by omega), w64 (x := r2 * 65536) (by omega) (by omega), w64 (x := r3 * 256) (by omega) (by omega), w64 (x := r1 * 16777216 + r2 * 65536) (by omega) (by omega), w64 (x := r1 * 16777216 + r2 * 65536 + r3 * 256) (by omega) (by omega), w64 (by omega) (by omega), Int.tmod_eq_emod_of_nonneg (by omega)]
      exact ⟨_, _, _, rfl, c4, Int.emod_nonneg _ (by omega), fun _ => Int.emod_lt_of_pos _ (by omega)⟩
theorem l1Below_evp (b : List Int) (i q n : Int) (h : CurOk b i) : EvP (fun _ => spec_l1Below.f b i q n) (fun r => CurOk b r.2.1 ∧ 0 ≤ r.1 ∧ (0 < n → r.1 < n)) := by
  obtain ⟨r, i', q', e, c, h0, h1⟩ := l1Below_some b i q n h
  exact ⟨(r, i', q'), ev_some fun _ => e, c, h0, h1⟩
theorem l1Once_some (b : List Int) (i q n : Int) (h : CurOk b i) : ∃ r i' q', spec_l1Once.f b i q n = some (r, i', q') ∧ CurOk b i' := by
  obtain ⟨r, i', q', e, c, _⟩ := l1Below_some b i q n h
  exact ⟨r == 0, i', q', by simp [spec_l1Once.f, e], c⟩
theorem l1Once_evp (b : List Int) (i q n : Int) (h : CurOk b i) : EvP (fun _ => spec_l1Once.f b i q n) (fun r => CurOk b r.2.1) := by
  obtain ⟨r, i', q', e, c⟩ := l1Once_some b i q n h
  exact ⟨(r, i', q'), ev_some fun _ => e, c⟩
theorem l4DrawRight_evp (b : List Int) (i q : Int) (h : CurOk b i) : EvP (fun k => spec_l4DrawRight.f k b i q) (fun r => CurOk b r.2.2.1 ∧ r.2.1.length ≤ 4) := by
  have key : ∀ (d n : Nat) (own : Int) (l : List Int) (i q : Int), n + d = 5 → 1 ≤ n → CurOk b i → l.length + 1 ≤ n → EvP (fun k => spec_l4DrawRight.l0 k (n : Int) b i q own l) (fun r => CurOk b r.2.2.1 ∧ r.2.1.length ≤ 4) := by
    intro d
    induction d with
    | zero =>
      intro n own l i q hn h1 hc hl
      refine EvP.succ ?_
      simp only [spec_l4DrawRight.l0]
      simp only [if_neg (show ¬ (n : Int) ≤ 4 by omega)]
      exact EvP.now _ ⟨hc, by dsimp only; omega⟩
    | succ d ih =>
      intro n own l i q hn h1 hc hl
      refine EvP.succ ?_
      simp only [spec_l4DrawRight.l0]
      simp only [if_pos (show (n : Int) ≤ 4 by omega), w64_succ (show (n : Int) < 4611686018427387904 by omega), if_pos (show l.length < 17592186044416 by omega)]
      by_cases e : (n : Int) = own
      · simp only [if_pos e]
        exact ih (n + 1) own (l ++ [(n : Int)]) i q (by omega) (by omega) hc (by simp; omega)
      · simp only [if_neg e]
        refine EvP.bind (l1Once_evp b _ _ 2 hc) (fun r hr => ?_)
        by_cases e1 : r.1 = true
        · simp only [if_pos e1]
          exact ih (n + 1) own (l ++ [(n : Int)]) _ _ (by omega) (by omega) hr (by simp; omega)
        · simp only [if_neg e1]
          exact ih (n + 1) own l _ _ (by omega) (by omega) hr (by omega)
  simp only [spec_l4DrawRight.f]
  refine EvP.bind (l1Below_evp b i q 3 h) (fun r hr => ?_)
  exact key 4 1 _ [] _ _ (by omega) (by omega) hr.1 (by simp)
theorem l4Draw_evp (b : List Int) (i q : Int) (h : CurOk b i) : EvP (fun k => spec_l4Draw.f k b i q) (fun r => CurOk b r.2.2.1 ∧ r.2.1.length ≤ 5) := by
  simp only [spec_l4Draw.f]
  refine EvP.bind (l4DrawRight_evp b i q h) (fun r hr => ?_)
  refine EvP.bind (l1Below_evp b _ _ 8 hr.1) (fun r1 h1 => ?_)
  have hl := hr.2
  by_cases e0 : r1.1 = 0
  · simp only [if_pos e0]
    refine EvP.bind (l1Below_evp b _ _ 6 h1.1) (fun r2 h2 => ?_)
    exact EvP.now _ ⟨h2.1, by dsimp only; omega⟩
  · simp only [if_neg e0]
    by_cases e1 : r1.1 = 1
    · simp only [if_pos e1]
      refine EvP.bind (l1Below_evp b _ _ 6 h1.1) (fun r2 h2 => ?_)
      simp only [if_pos (show r.2.1.length < 17592186044416 by omega)]
      exact EvP.now _ ⟨h2.1, by simp; omega⟩
    · simp only [if_neg e1]
      exact EvP.now _ ⟨h1.1, by dsimp only; omega⟩
abbrev HB := S40
theorem rdHB {l : List HB} {i : Nat} {x : HB} (h : l[i]? = some x) : rd_T40 l (i : Int) = x := getD_at h
def hOk (x : HB) : Bool := decide (1 ≤ x.f0 ∧ x.f0 ≤ 9) && (decide (1 ≤ x.f1 ∧ x.f1 ≤ 4) && (decide (0 ≤ x.f2 ∧ x.f2 ≤ 3) && decide (1 ≤ x.f3 ∧ x.f3 ≤ 20)))
def hBefore (a b : HB) : Bool := decide (a.f1 < b.f1 ∨ a.f1 = b.f1 ∧ a.f0 < b.f0)
def hNext (p : Option HB) (x : HB) : Bool := match p with | none => true | some y => hBefore y x
def tabM (n : Nat) : Option HB → List HB → Bool
  | _, [] => decide (n ≤ 12)
  | p, x :: t => hOk x && (hNext p x && tabM n (some x) t)
def tableOk (l : List HB) : Bool := tabM l.length none l
theorem hOk_iff (x : HB) : hOk x = true ↔ (1 ≤ x.f0 ∧ x.f0 ≤ 9) ∧ (1 ≤ x.f1 ∧ x.f1 ≤ 4) ∧ (0 ≤ x.f2 ∧ x.f2 ≤ 3) ∧ (1 ≤ x.f3 ∧ x.f3 ≤ 20) := by simp [hOk]
/-- How the reference puts a newly heard one in. -/
def hearM (a v : Int) (x : HB) : Bool → List HB → List HB
  | put, [] => if put then [] else [x]
  | put, y :: t => if (!put && !hBefore y x) = true then (x :: ((if y.f0 = a ∧ y.f1 = v then [] else [y]) ++ hearM a v x true t)) else ((if y.f0 = a ∧ y.f1 = v then [] else [y]) ++ hearM a v x put t)
def hearX (a v p : Int) : HB := ⟨a, v, p, 20⟩
def hearNew (l : List HB) (a v p : Int) : List HB := hearM a v (hearX a v p) false l
def hear (l : List HB) (a v p : Int) : List HB := if tableOk (hearNew l a v p) then hearNew l a v p else l
theorem drop1_length (P : Prop) [Decidable P] (y : HB) : (if P then [] else [y]).length ≤ 1 := by split <;> simp
theorem hearM_length (a v : Int) (x : HB) : ∀ (l : List HB), (hearM a v x true l).length ≤ l.length ∧ (hearM a v x false l).length ≤ l.length + 1 := by
  intro l
  induction l with
  | nil => simp [hearM]
  | cons y t ih =>
    obtain ⟨h1, h2⟩ := ih
    have h3 := drop1_length (y.f0 = a ∧ y.f1 = v) y
    constructor
    · simp only [hearM, Bool.not_true, Bool.false_and, Bool.false_eq_true, if_false, List.length_append, List.length_cons]
      omega
    · simp only [hearM]
      split
      · simp only [List.length_append, List.length_cons]
        omega
      · simp only [List.length_append, List.length_cons]
        omega
theorem hear_length (l : List HB) (a v p : Int) : (hear l a v p).length ≤ l.length + 1 := by
  unfold hear
  split
  · exact (hearM_length a v _ l).2
  · omega
theorem hearM_mem (a v : Int) (x : HB) : ∀ (l : List HB) (put : Bool) (y : HB), y ∈ hearM a v x put l → y = x ∨ y ∈ l := by
  intro l
  induction l with
  | nil => intro put y hy; cases put <;> simp [hearM] at hy; exact Or.inl hy
  | cons z t ih =>
    intro put y hy
    have d : ∀ P : Prop, [Decidable P] → y ∈ (if P then [] else [z]) → y = z := by
      intro P _ h
      split at h <;> simp at h
      exact h
    simp only [hearM] at hy
    split at hy
    · rcases List.mem_cons.1 hy with h | h
      · exact Or.inl h
      · rcases List.mem_append.1 h with h | h
        · exact Or.inr (by rw [d _ h]; simp)
        · rcases ih true y h with h | h
          · exact Or.inl h
          · exact Or.inr (by simp [h])
    · rcases List.mem_append.1 hy with h | h
      · exact Or.inr (by rw [d _ h]; simp)
      · rcases ih put y h with h | h
        · exact Or.inl h
        · exact Or.inr (by simp [h])
theorem hear_mem (l : List HB) (a v p : Int) (y : HB) (h : y ∈ hear l a v p) : y = hearX a v p ∨ y ∈ l := by
  unfold hear at h
  split at h
  · exact hearM_mem a v _ l false y h
  · exact Or.inr h
theorem l3Before_eq (a b : HB) : spec_l3Before.f a.f0 a.f1 a.f2 a.f3 b.f0 b.f1 b.f2 b.f3 = some (hBefore a b) := by
  simp only [spec_l3Before.f, hBefore]
  by_cases h1 : a.f1 < b.f1
  · simp [h1]
  · by_cases h2 : a.f1 = b.f1 <;> simp [h1, h2]
theorem l1In_eq (x lo hi : Int) : spec_l1In.f x lo hi = some (decide (lo ≤ x ∧ x ≤ hi)) := by
  simp only [spec_l1In.f]
  by_cases h : lo ≤ x
  · rw [if_pos h]; simp [h]
  · rw [if_neg h]; simp [h]
theorem specTableOk_ev (l : List HB) (h : l.length ≤ 4194304) : Ev (fun k => spec_TableOk.f k l) (tableOk l) := by
  refine ev_list l (fun k (_ : Option HB) i => spec_TableOk.l0 k l i) (fun p t => tabM l.length p t) (fun i p => p = if i = 0 then none else l[i - 1]?) ?_ ?_ none rfl
  · intro p _
    refine ev_end fun k => ?_
    simp only [spec_TableOk.l0]
    rw [if_neg (by omega)]
    simp [tabM]
    omega
  · intro i p x t hI hi _ hx ih
    have ih' := ih (some x) (by simp [hx])
    have hbefore : ∀ k, (if (i : Int) > 0 then (if 0 ≤ (wrap64 ((i : Int) - 1)) then (if (wrap64 ((i : Int) - 1)) < (l.length : Int) then ((spec_l3Before.f ((rd_T40 l (wrap64 ((i : Int) - 1))).f0) ((rd_T40 l (wrap64 ((i : Int) - 1))).f1) ((rd_T40 l (wrap64 ((i : Int) - 1))).f2) ((rd_T40 l (wrap64 ((i : Int) - 1))).f3) x.f0 x.f1 x.f2 x.f3).bind fun t110 => (if t110 = true then (spec_TableOk.l0 k l ((i + 1 : Nat) : Int)) else (some false))) else (none)) else (none)) else (spec_TableOk.l0 k l ((i + 1 : Nat) : Int))) = if hNext p x = true then spec_TableOk.l0 k l ((i + 1 : Nat) : Int) else some false := by
      intro k
      cases i with
      | zero => simp at hI; subst hI; simp [hNext]
      | succ j =>
        simp at hI
        have hj : l[j]? = some l[j] := List.getElem?_eq_getElem (by omega)
        rw [hj] at hI
        subst hI
        rw [if_pos (by omega), w64 (by omega) (by omega), show ((j + 1 : Nat) : Int) - 1 = (j : Int) by omega, if_pos (by omega), if_pos (by omega), rdHB hj, l3Before_eq]
        (simp [hNext]) <;> rfl
    cases hok : hOk x with
    | true =>
      have a := (hOk_iff x).1 hok
      cases hb : hNext p x with
      | true =>
        have e : tabM l.length p (x :: t) = tabM l.length (some x) t := by simp [tabM, hok, hb]
        rw [e]
        refine Ev.step (fun k => ?_) ih'
        simp only [spec_TableOk.l0]
        rw [if_pos (by omega), if_pos (by omega), rdHB hx, w64_succ (by omega)]
        simp only [l1In_eq, Option.bind_some, a.1, a.2.1, a.2.2.1, a.2.2.2, and_self, decide_true, if_true]
        rw [hbefore k, if_pos hb]
      | false =>
        have e : tabM l.length p (x :: t) = false := by simp [tabM, hb]
        rw [e]
        refine ev_end fun k => ?_
        simp only [spec_TableOk.l0]
        rw [if_pos (by omega), if_pos (by omega), rdHB hx, w64_succ (by omega)]
        simp only [l1In_eq, Option.bind_some, a.1, a.2.1, a.2.2.1, a.2.2.2, and_self, decide_true, if_true]
        rw [hbefore k, if_neg (by simp [hb])]
    | false =>
      have e : tabM l.length p (x :: t) = false := by simp [tabM, hok]
      rw [e]
      refine ev_end fun k => ?_
      simp only [spec_TableOk.l0]
      rw [if_pos (by omega), if_pos (by omega), rdHB hx]
      simp only [hOk] at hok
      by_cases a1 : 1 ≤ x.f0 ∧ x.f0 ≤ 9 <;> by_cases a2 : 1 ≤ x.f1 ∧ x.f1 ≤ 4 <;> by_cases a3 : 0 ≤ x.f2 ∧ x.f2 ≤ 3 <;> by_cases a4 : 1 ≤ x.f3 ∧ x.f3 ≤ 20 <;> simp only [l1In_eq, Option.bind_some, a1, a2, a3, a4, and_self, decide_true, decide_false, if_true, if_false, Bool.false_eq_true, Bool.and_true, Bool.and_false, Bool.true_and, Bool.false_and, Bool.true_eq_false] at hok ⊢
theorem specHear_ev (l : List HB) (a v p : Int) (h : l.length ≤ 2097152) : Ev (fun k => spec_Hear.f k l a v p) (hear l a v p) := by
  have fin : ∀ out : List HB, out.length ≤ 4194304 → Ev (fun k => (spec_TableOk.f k out).bind fun t198 => (if t198 = true then (some out) else ((some (([] : List HB) : List HB)).bind fun y199 => (if y199.length + l.length < 4398046511104 then (some (y199 ++ l)) else (none))))) (if tableOk out then out else l) := by
    intro out ho
    refine Ev.bind (specTableOk_ev out ho) (ev_some fun k => ?_)
    cases tableOk out with
    | true => simp
    | false =>
      simp only [Bool.false_eq_true, if_false, Option.bind_some, List.length_nil, Nat.zero_add, List.nil_append]
      rw [if_pos (by omega)]
  have := ev_list l (fun k (s : List HB × Bool) i => spec_Hear.l0 k l a v s.1 s.2 i a v p 20) (fun s t => if tableOk (s.1 ++ hearM a v (hearX a v p) s.2 t) then s.1 ++ hearM a v (hearX a v p) s.2 t else l) (fun i s => s.1.length ≤ i + (if s.2 then 1 else 0))
    (fun s hI => by
      obtain ⟨acc, put⟩ := s
      dsimp only at hI ⊢
      cases put with
      | true =>
        have e : acc ++ hearM a v (hearX a v p) true [] = acc := by simp [hearM]
        rw [e]
        refine Ev.step (fun k => ?_) (fin acc (by simp at hI; omega))
        simp only [spec_Hear.l0]
        rw [if_neg (by omega)]
        simp only [if_true]
      | false =>
        refine Ev.step (fun k => ?_) (fin (acc ++ hearM a v (hearX a v p) false []) (by simp [hearM] at hI ⊢; omega))
        simp only [spec_Hear.l0]
        rw [if_neg (by omega)]
        simp only [Bool.false_eq_true, if_false]
        simp only [Bool.false_eq_true, if_false] at hI
        rw [if_pos (by omega)]
        simp only [Option.bind_some, hearM, Bool.false_eq_true, if_false, hearX])
    (fun i s y t hI hi _ hy ih => by
      obtain ⟨acc, put⟩ := s
      dsimp only at hI ih ⊢
      have hacc : acc.length ≤ 2097153 := by
        cases put <;> simp at hI <;> omega
      -- the flag of the second part
      have s1 : ∀ k, spec_Hear.l0 (k + 1) l a v acc put (i : Int) a v p 20 = spec_Hear.j1 k l a v acc put (i : Int) (!put && !hBefore y (hearX a v p)) a v p 20 := by
        intro k
        simp only [spec_Hear.l0]
        rw [if_pos (by omega)]
        cases put with
        | true => simp
        | false =>
          simp only [Bool.false_eq_true, if_false, rdHB hy]
          rw [if_pos (by omega)]
          have := l3Before_eq y (hearX a v p)
          simp only [hearX] at this ⊢
          rw [this]
          simp
      refine Ev.step s1 ?_
      by_cases hput : (!put && !hBefore y (hearX a v p)) = true
      · have hpf : put = false := by cases put <;> simp at hput ⊢
        subst hpf
        rw [hput]
        simp only [Bool.false_eq_true, if_false] at hI
        by_cases he : y.f0 = a ∧ y.f1 = v
        · have e : acc ++ hearM a v (hearX a v p) false (y :: t) = (acc ++ [hearX a v p]) ++ hearM a v (hearX a v p) true t := by
            simp only [hearM]
            rw [if_pos hput, if_pos he]
            simp
          have := ih (acc ++ [hearX a v p], true) (by simp; omega)
          rw [e]
          refine Ev.step (fun k => ?_) this
          simp only [spec_Hear.j1, if_true]
          rw [if_pos (by omega)]
          simp only [Option.bind_some]
          rw [if_pos (by omega), if_pos (by omega), rdHB hy, if_pos he.1, if_pos he.2, w64_succ (by omega)]
          rfl
        · have e : acc ++ hearM a v (hearX a v p) false (y :: t) = ((acc ++ [hearX a v p]) ++ [y]) ++ hearM a v (hearX a v p) true t := by
            simp only [hearM]
            rw [if_pos hput, if_neg he]
            simp
          have := ih ((acc ++ [hearX a v p]) ++ [y], true) (by simp; omega)
          rw [e]
          refine Ev.step (fun k => ?_) this
          simp only [spec_Hear.j1, if_true]
          rw [if_pos (by omega)]
          simp only [Option.bind_some]
          rw [if_pos (by omega), if_pos (by omega), rdHB hy, w64_succ (by omega)]
          by_cases h1 : y.f0 = a
          · have h2 : ¬ y.f1 = v := fun h => he ⟨h1, h⟩
            rw [if_pos h1, if_neg h2, if_pos (by simp; omega)]
            rfl
          · rw [if_neg h1, if_pos (by simp; omega)]
            rfl
      · rw [Bool.eq_false_iff.mpr hput]
        by_cases he : y.f0 = a ∧ y.f1 = v
        · have e : acc ++ hearM a v (hearX a v p) put (y :: t) = acc ++ hearM a v (hearX a v p) put t := by
            simp only [hearM]
            rw [if_neg hput, if_pos he]
            simp
          have := ih (acc, put) (by cases put <;> simp at hI ⊢ <;> omega)
          rw [e]
          refine Ev.step (fun k => ?_) this
          simp only [spec_Hear.j1, Bool.false_eq_true, if_false]
          rw [if_pos (by omega), if_pos (by omega), rdHB hy, if_pos he.1, if_pos he.2, w64_succ (by omega)]
        · have e : acc ++ hearM a v (hearX a v p) put (y :: t) = (acc ++ [y]) ++ hearM a v (hearX a v p) put t := by
            simp only [hearM]
            rw [if_neg hput, if_neg he]
            simp
          have := ih (acc ++ [y], put) (by cases put <;> simp at hI ⊢ <;> omega)
          rw [e]
          refine Ev.step (fun k => ?_) this
          simp only [spec_Hear.j1, Bool.false_eq_true, if_false]
          rw [if_pos (by omega), if_pos (by omega), rdHB hy, w64_succ (by omega)]
          by_cases h1 : y.f0 = a
          · have h2 : ¬ y.f1 = v := fun h => he ⟨h1, h⟩
            rw [if_pos h1, if_neg h2, if_pos (by omega)]
          · rw [if_neg h1, if_pos (by omega)])
    ([], false) (by simp)
  simp only [List.nil_append] at this
  exact this
def ageM : List HB → List HB
  | [] => []
  | x :: t => if x.f3 > 1 then ⟨x.f0, x.f1, x.f2, x.f3 - 1⟩ :: ageM t else ageM t
theorem ageM_length : ∀ l : List HB, (ageM l).length ≤ l.length := by
  intro l
  induction l with
  | nil => simp [ageM]
  | cons x t ih =>
    simp only [ageM]
    split <;> simp <;> omega
theorem specAge_ev (l : List HB) (h : l.length ≤ 4194304) (hw : ∀ x ∈ l, x.f3 ≤ 9223372036854775807) : Ev (fun k => spec_Age.f k l) (ageM l) := by
  have := ev_list l (fun k (acc : List HB) i => spec_Age.l0 k l acc i) (fun acc t => acc ++ ageM t) (fun i acc => acc.length ≤ i)
    (fun acc hI => ev_end fun k => by simp only [spec_Age.l0]; rw [if_neg (by omega)]; simp [ageM])
    (fun i acc x t hI hi _ hx ih => by
      have hwx := hw x (List.mem_of_getElem? hx)
      by_cases hp : x.f3 > 1
      · have e : acc ++ ageM (x :: t) = (acc ++ [⟨x.f0, x.f1, x.f2, x.f3 - 1⟩]) ++ ageM t := by simp [ageM, hp]
        rw [e]
        refine Ev.step (fun k => ?_) (ih (acc ++ [⟨x.f0, x.f1, x.f2, x.f3 - 1⟩]) (by simp; omega))
        simp only [spec_Age.l0]
        rw [if_pos (by omega), if_pos (by omega), rdHB hx, if_pos hp, if_pos (by omega), w64_succ (by omega), w64 (by omega) (by omega)]
      · have e : acc ++ ageM (x :: t) = acc ++ ageM t := by simp [ageM, hp]
        rw [e]
        refine Ev.step (fun k => ?_) (ih acc (by omega))
        simp only [spec_Age.l0]
        rw [if_pos (by omega), if_pos (by omega), rdHB hx, if_neg hp, w64_succ (by omega)])
    [] (by simp)
  simpa [spec_Age.f] using this
/-- A drawn list: how many, and how long each is known at the most. -/
def Drawn3 (n : Nat) (l : List HB) : Prop := l.length ≤ n ∧ ∀ x ∈ l, x.f3 ≤ 21
theorem drawn3_hear {n : Nat} {l : List HB} (h : Drawn3 n l) (a v p : Int) : Drawn3 (n + 1) (hear l a v p) := by
  refine ⟨Nat.le_trans (hear_length l a v p) (by have := h.1; omega), fun x hx => ?_⟩
  rcases hear_mem l a v p x hx with rfl | hx
  · simp [hearX]
  · exact h.2 x hx
theorem ageM_mem : ∀ (l : List HB) (x : HB), x ∈ ageM l → ∃ y ∈ l, y.f3 > 1 ∧ x.f3 = y.f3 - 1 := by
  intro l
  induction l with
  | nil => intro x h; simp [ageM] at h
  | cons z t ih =>
    intro x h
    simp only [ageM] at h
    split at h
    · rcases List.mem_cons.1 h with rfl | h
      · exact ⟨z, by simp, by assumption, rfl⟩
      · obtain ⟨y, hy, h⟩ := ih x h
        exact ⟨y, by simp [hy], h⟩
    · obtain ⟨y, hy, h⟩ := ih x h
      exact ⟨y, by simp [hy], h⟩
theorem drawn3_age {n : Nat} {l : List HB} (h : Drawn3 n l) : Drawn3 n (ageM l) := by
  refine ⟨Nat.le_trans (ageM_length l) h.1, fun x hx => ?_⟩
  obtain ⟨y, hy, _, e⟩ := ageM_mem l x hx
  have := h.2 y hy
  omega
theorem l3DrawRight_evp (b : List Int) (i q : Int) (h : CurOk b i) : EvP (fun k => spec_l3DrawRight.f k b i q) (fun r => CurOk b r.2.1 ∧ Drawn3 9 r.1) := by
  have key : ∀ (d n : Nat) (l : List HB) (i q : Int), n + d = 9 → CurOk b i → Drawn3 n l → EvP (fun k => spec_l3DrawRight.l0 k l (n : Int) b i q) (fun r => CurOk b r.2.1 ∧ Drawn3 9 r.1) := by
    intro d
    induction d with
    | zero =>
      intro n l i q hn hc hl
      refine EvP.succ ?_
      simp only [spec_l3DrawRight.l0]
      refine EvP.bind (l1Below_evp b i q 9 hc) (fun r hr => ?_)
      have := hr.2.2 (by omega)
      simp only [if_neg (show ¬ (n : Int) < r.1 by omega)]
      exact EvP.now _ ⟨hr.1, by have : n = 9 := by omega
                                subst this; exact hl⟩
    | succ d ih =>
      intro n l i q hn hc hl
      refine EvP.succ ?_
      simp only [spec_l3DrawRight.l0]
      refine EvP.bind (l1Below_evp b i q 9 hc) (fun r hr => ?_)
      by_cases hlt : (n : Int) < r.1
      · simp only [if_pos hlt]
        refine EvP.bind (l1Below_evp b _ _ 4 hr.1) (fun r1 h1 => ?_)
        refine EvP.bind (l1Below_evp b _ _ 3 h1.1) (fun r2 h2 => ?_)
        refine EvP.bind (l1Below_evp b _ _ 4 h2.1) (fun r3 h3 => ?_)
        refine EvP.bind (EvP.of (specHear_ev l _ _ _ (by have := hl.1; omega)) (drawn3_hear hl _ _ _)) (fun t ht => ?_)
        refine EvP.bind (l1Once_evp b _ _ 4 h3.1) (fun r4 h4 => ?_)
        rw [w64_succ (by omega)]
        by_cases ho : r4.1 = true
        · simp only [if_pos ho]
          refine EvP.bind (EvP.of (specAge_ev t (by have := ht.1; omega) (fun x hx => by have := ht.2 x hx; omega)) (drawn3_age ht)) (fun t2 ht2 => ?_)
          exact ih (n + 1) t2 _ _ (by omega) h4 ht2
        · simp only [if_neg ho]
          exact ih (n + 1) t _ _ (by omega) h4 ht
      · simp only [if_neg hlt]
        exact EvP.now _ ⟨hr.1, Nat.le_trans hl.1 (by omega), hl.2⟩
  exact key 9 0 [] i q rfl h ⟨by simp, by simp⟩
theorem l1PickInt_some (b : List Int) (i q : Int) (l : List Int) (h : CurOk b i) (hl : 0 < l.length) : ∃ r i' q', spec_l1PickInt.f b i q l = some (r, i', q') ∧ CurOk b i' ∧ r ∈ l := by
  obtain ⟨r, i', q', e, c, h0, h1⟩ := l1Below_some b i q l.length h
  have h1 := h1 (by omega)
  obtain ⟨n, rfl⟩ := Int.eq_ofNat_of_zero_le h0
  refine ⟨l[n]'(by omega), i', q', ?_, c, List.getElem_mem _⟩
  simp only [spec_l1PickInt.f, e, Option.bind_some]
  rw [if_pos h0, if_pos h1, rd_at (List.getElem?_eq_getElem (by omega))]
theorem l1PickInt_evp (b : List Int) (i q : Int) (l : List Int) (h : CurOk b i) (hl : 0 < l.length) : EvP (fun _ => spec_l1PickInt.f b i q l) (fun r => CurOk b r.2.1 ∧ r.1 ∈ l) := by
  obtain ⟨r, i', q', e, c, hm⟩ := l1PickInt_some b i q l h hl
  exact ⟨(r, i', q'), ev_some fun _ => e, c, hm⟩
theorem l3Draw_evp (b : List Int) (i q : Int) (h : CurOk b i) : EvP (fun k => spec_l3Draw.f k b i q) (fun r => CurOk b r.2.1 ∧ Drawn3 18 r.1) := by
  have key : ∀ (d n m : Nat) (l : List HB) (i q : Int), n + d = 10 → m + d = 18 → CurOk b i → Drawn3 m l → EvP (fun k => spec_l3Draw.l0 k l (n : Int) b i q) (fun r => CurOk b r.2.1 ∧ Drawn3 18 r.1) := by
    intro d
    induction d with
    | zero =>
      intro n m l i q hn hm hc hl
      refine EvP.succ ?_
      simp only [spec_l3Draw.l0]
      simp only [if_neg (show ¬ (n : Int) ≤ 9 by omega)]
      exact EvP.now _ ⟨hc, by have : m = 18 := by omega
                              subst this; exact hl⟩
    | succ d ih =>
      intro n m l i q hn hm hc hl
      refine EvP.succ ?_
      simp only [spec_l3Draw.l0]
      simp only [if_pos (show (n : Int) ≤ 9 by omega)]
      refine EvP.bind (EvP.of (specHear_ev l _ _ _ (by have := hl.1; omega)) (drawn3_hear hl _ _ _)) (fun t ht => ?_)
      rw [w64_succ (by omega)]
      exact ih (n + 1) (m + 1) t _ _ (by omega) (by omega) hc ht
  simp only [spec_l3Draw.f]
  refine EvP.bind (l3DrawRight_evp b i q h) (fun r hr => ?_)
  refine EvP.bind (l1Below_evp b _ _ 8 hr.1) (fun r1 h1 => ?_)
  by_cases e0 : r1.1 = 0
  · simp only [if_pos e0]
    refine EvP.bind (l1Below_evp b _ _ 11 h1.1) (fun r2 h2 => ?_)
    refine EvP.bind (l1Below_evp b _ _ 6 h2.1) (fun r3 h3 => ?_)
    refine EvP.bind (l1Below_evp b _ _ 6 h3.1) (fun r4 h4 => ?_)
    refine EvP.bind (l1PickInt_evp b _ _ [0, 1, 20, 21] h4.1 (by simp)) (fun r5 h5 => ?_)
    simp only [if_pos (show r.1.length < 4398046511104 by have := hr.2.1; omega)]
    refine EvP.now _ ⟨h5.1, ?_, fun x hx => ?_⟩
    · have := hr.2.1
      simp
      omega
    · rcases List.mem_append.1 hx with hx | hx
      · exact hr.2.2 x hx
      · simp at hx
        subst hx
        have := h5.2
        simp at this
        dsimp only
        omega
  · simp only [if_neg e0]
    by_cases e1 : r1.1 = 1
    · simp only [if_pos e1]
      exact key 9 1 9 r.1 _ _ rfl rfl h1.1 hr.2
    · simp only [if_neg e1]
      exact EvP.now _ ⟨h1.1, Nat.le_trans hr.2.1 (by omega), hr.2.2⟩
def nextI (p : Option Int) (x : Int) : Bool := match p with | none => true | some y => decide (y < x)
def memM (own : Int) (l : List Int) : Option Int → List Int → Bool
  | _, [] => decide (1 ≤ own ∧ own ≤ 4) && l.contains own
  | p, x :: t => decide (1 ≤ x ∧ x ≤ 4) && (nextI p x && memM own l (some x) t)
def memberOk (own : Int) (l : List Int) : Bool := memM own l none l
abbrev MB := S129
theorem rdMB {l : List MB} {i : Nat} {x : MB} (h : l[i]? = some x) : rd_T129 l (i : Int) = x := getD_at h
def membersOk : List MB → Bool
  | [] => true
  | x :: t => memberOk x.f0 x.f1 && membersOk t
theorem membersOk_iff : ∀ l : List MB, membersOk l = true ↔ ∀ x ∈ l, memberOk x.f0 x.f1 = true := by
  intro l
  induction l with
  | nil => simp [membersOk]
  | cons x t ih => simp [membersOk, ih]
theorem l5DrawRight_evp (b : List Int) (i q : Int) (h : CurOk b i) : EvP (fun k => spec_l5DrawRight.f k b i q) (fun r => CurOk b r.2.2.2.1 ∧ r.1.length ≤ 4 ∧ 1 ≤ r.2.1.length ∧ r.2.1.length ≤ 4 ∧ (∀ x ∈ r.2.1, x.f1.length ≤ 4) ∧ Drawn3 9 r.2.2.1) := by
  have key : ∀ (X : Nat), 1 ≤ X → X ≤ 4 → ∀ (d n : Nat) (o : List Bool) (m : List MB) (i q : Int), n + d = X → CurOk b i → o.length = n → m.length = n → (∀ x ∈ m, x.f1.length ≤ 4) → EvP (fun k => spec_l5DrawRight.l0 k (X : Int) (n : Int) b i q o m) (fun r => CurOk b r.2.2.2.1 ∧ r.1.length ≤ 4 ∧ 1 ≤ r.2.1.length ∧ r.2.1.length ≤ 4 ∧ (∀ x ∈ r.2.1, x.f1.length ≤ 4) ∧ Drawn3 9 r.2.2.1) := by
    intro X hX1 hX4 d
    induction d with
    | zero =>
      intro n o m i q hn hc ho hm hmm
      refine EvP.succ ?_
      simp only [spec_l5DrawRight.l0]
      simp only [if_neg (show ¬ (n : Int) < (X : Int) by omega)]
      refine EvP.bind (l3DrawRight_evp b i q hc) (fun r hr => ?_)
      exact EvP.now _ ⟨hr.1, by dsimp only; omega, by dsimp only; omega, by dsimp only; omega, hmm, hr.2⟩
    | succ d ih =>
      intro n o m i q hn hc ho hm hmm
      refine EvP.succ ?_
      simp only [spec_l5DrawRight.l0]
      simp only [if_pos (show (n : Int) < (X : Int) by omega)]
      refine EvP.bind (l1Once_evp b i q 4 hc) (fun r hr => ?_)
      simp only [if_pos (show o.length < 140737488355328 by omega)]
      refine EvP.bind (l4DrawRight_evp b _ _ hr) (fun r1 h1 => ?_)
      simp only [if_pos (show m.length < 4398046511104 by omega), w64_succ (show (n : Int) < 4611686018427387904 by omega)]
      refine ih (n + 1) _ _ _ _ (by omega) h1.1 (by simp; omega) (by simp; omega) (fun x hx => ?_)
      rcases List.mem_append.1 hx with hx | hx
      · exact hmm x hx
      · simp only [List.mem_cons, List.not_mem_nil, or_false] at hx
        subst hx
        exact h1.2
  simp only [spec_l5DrawRight.f]
  refine EvP.bind (l1Below_evp b i q 4 h) (fun r hr => ?_)
  have a0 := hr.2.1
  have a1 := hr.2.2 (by omega)
  rw [w64 (by omega) (by omega)]
  obtain ⟨X, hX⟩ : ∃ X : Nat, 1 + r.1 = (X : Int) := ⟨(1 + r.1).toNat, by omega⟩
  rw [hX]
  exact key X (by omega) (by omega) X 0 [] [] _ _ (by omega) hr.1 rfl rfl (by simp)
theorem l5Draw_evp (b : List Int) (i q : Int) (h : CurOk b i) : EvP (fun k => spec_l5Draw.f k b i q) (fun r => CurOk b r.2.2.2.1 ∧ r.1.length ≤ 5 ∧ r.2.1.length ≤ 4 ∧ (∀ x ∈ r.2.1, x.f1.length ≤ 5) ∧ Drawn3 18 r.2.2.1) := by
  simp only [spec_l5Draw.f]
  refine EvP.bind (l5DrawRight_evp b i q h) (fun r hr => ?_)
  obtain ⟨hc, ho, hm1, hm, hmm, ht⟩ := hr
  have hmm' : ∀ x ∈ r.2.1, x.f1.length ≤ 5 := fun x hx => by have := hmm x hx; omega
  have ht' : Drawn3 18 r.2.2.1 := ⟨by have := ht.1; omega, ht.2⟩
  refine EvP.bind (l1Below_evp b _ _ 8 hc) (fun r1 h1 => ?_)
  by_cases e0 : r1.1 = 0
  · simp only [if_pos e0, if_pos (show r.1.length < 140737488355328 by omega)]
    exact EvP.now _ ⟨h1.1, by simp; omega, by dsimp only; omega, hmm', ht'⟩
  simp only [if_neg e0]
  by_cases e1 : r1.1 = 1
  · simp only [if_pos e1]
    refine EvP.bind (l4Draw_evp b _ _ h1.1) (fun r2 h2 => ?_)
    simp only [if_pos (show 0 < (r.2.1.length : Int) by omega)]
    refine EvP.now _ ⟨h2.1, by dsimp only; omega, by simp; omega, fun x hx => ?_, ht'⟩
    rcases List.mem_or_eq_of_mem_set hx with hx | rfl
    · exact hmm' x hx
    · exact h2.2
  simp only [if_neg e1]
  by_cases e2 : r1.1 = 2
  · simp only [if_pos e2]
    refine EvP.bind (l3Draw_evp b _ _ h1.1) (fun r2 h2 => ?_)
    exact EvP.now _ ⟨h2.1, by dsimp only; omega, by dsimp only; omega, hmm', h2.2⟩
  · simp only [if_neg e2]
    exact EvP.now _ ⟨h1.1, by dsimp only; omega, by dsimp only; omega, hmm', ht'⟩
theorem drawGate_evp (l : List Int) (h : l.length ≤ 4194304) : EvP (fun k => spec_DrawGate.f k l) (fun r => r.1.length ≤ 5 ∧ r.2.1.length ≤ 4 ∧ (∀ x ∈ r.2.1, x.f1.length ≤ 5) ∧ Drawn3 18 r.2.2.1) := by
  obtain ⟨q, hq⟩ := l1New_ev l h
  simp only [spec_DrawGate.f]
  refine EvP.bind (EvP.of hq (P := fun r => r = (l, 0, q)) rfl) (fun r hr => ?_)
  subst hr
  refine EvP.bind (l5Draw_evp l 0 q ⟨by omega, by omega, h⟩) (fun r hr => ?_)
  refine EvP.bind (l1Below_evp l _ _ _ hr.1) (fun r1 h1 => ?_)
  refine EvP.bind (l1Once_evp l _ _ 2 h1.1) (fun r2 h2 => ?_)
  exact EvP.now _ hr.2
def cardOk (o : List Bool) (m : List MB) (t : List HB) : Bool := decide (1 ≤ o.length ∧ o.length ≤ 4) && (decide (m.length = o.length) && (tableOk t && membersOk m))
theorem cloneB_eq (l : List Bool) (h : l.length ≤ 4194304) : slices_Clone_bool_bool.f l = some l := by
  simp only [slices_Clone_bool_bool.f, Option.bind_some, List.length_nil, Nat.zero_add, List.nil_append]
  rw [if_pos (by omega)]
theorem cloneI_eq (l : List Int) (h : l.length ≤ 4194304) : slices_Clone_int_int.f l = some l := by
  simp only [slices_Clone_int_int.f, Option.bind_some, List.length_nil, Nat.zero_add, List.nil_append]
  rw [if_pos (by omega)]
theorem cloneH_eq (l : List HB) (h : l.length ≤ 4194304) : impl_Heard.f l = some l := by
  simp only [impl_Heard.f, Option.bind_some, List.length_nil, Nat.zero_add, List.nil_append]
  rw [if_pos (by omega)]
theorem copyCard_ev (o : List Bool) (m : List MB) (t : List HB) (ho : o.length ≤ 4194304) (h : m.length ≤ 4194304) (hm : ∀ x ∈ m, x.f1.length ≤ 4194304) (ht : t.length ≤ 4194304) : Ev (fun k => impl_copyCard.f k o m t) (o, m, t) := by
  simp only [impl_copyCard.f, cloneB_eq o ho, cloneH_eq t ht, Option.bind_some]
  have := ev_list m (fun k (acc : List MB) i => impl_copyCard.l0 k m (m.length : Int) i o acc t) (fun acc r => (o, acc ++ r, t)) (fun i acc => acc.length ≤ i)
    (fun acc hI => ev_end fun k => by simp only [impl_copyCard.l0]; rw [if_neg (by omega)]; simp)
    (fun i acc x r hI hi _ hx ih => by
      have e : acc ++ (x :: r) = (acc ++ [x]) ++ r := by simp
      rw [e]
      refine Ev.step (fun k => ?_) (ih (acc ++ [x]) (by simp; omega))
      simp only [impl_copyCard.l0]
      rw [if_pos (by omega), if_pos (by omega), if_pos (by omega), rdMB hx, cloneI_eq _ (hm x (List.mem_of_getElem? hx)), Option.bind_some, if_pos (by omega), w64_succ (by omega)])
    [] (by simp)
  simpa using this
def idxM (v : Int) : Int → List Int → Int
  | _, [] => -1
  | i, x :: t => if v = x then i else idxM v (i + 1) t
theorem idxM_iff (v : Int) : ∀ (l : List Int) (i : Int), 0 ≤ i → (0 ≤ idxM v i l ↔ v ∈ l) := by
  intro l
  induction l with
  | nil => intro i _; simp [idxM]
  | cons x t ih =>
    intro i hi
    simp only [idxM]
    by_cases e : v = x
    · simp [e, hi]
    · rw [if_neg e, ih (i + 1) (by omega)]
      simp [e]
theorem index_ev (l : List Int) (v : Int) (h : l.length ≤ 4194304) : Ev (fun k => slices_Index_int_int.f k l v) (idxM v 0 l) := by
  refine ev_list l (fun k (s : Int) i => slices_Index_int_int.l0 k l v (l.length : Int) i) (fun s t => idxM v s t) (fun i s => s = i) ?_ ?_ 0 rfl
  · intro s _
    refine ev_end fun k => ?_
    simp only [slices_Index_int_int.l0]
    rw [if_neg (by omega)]
    rfl
  · intro i s x t hI hi _ hx ih
    subst hI
    by_cases e : v = x
    · refine ev_end fun k => ?_
      simp only [slices_Index_int_int.l0]
      rw [if_pos (by omega), if_pos (by omega), if_pos (by omega), rd_at hx, if_pos e, idxM, if_pos e]
    · have := ih ((i : Int) + 1) (by omega)
      rw [idxM, if_neg e]
      refine Ev.step (fun k => ?_) this
      simp only [slices_Index_int_int.l0]
      rw [if_pos (by omega), if_pos (by omega), if_pos (by omega), rd_at hx, if_neg e, w64_succ (by omega)]
theorem contains_ev (l : List Int) (v : Int) (h : l.length ≤ 4194304) : Ev (fun k => slices_Contains_int_int.f k l v) (l.contains v) := by
  simp only [slices_Contains_int_int.f]
  refine Ev.bind (index_ev l v h) (ev_some fun _ => ?_)
  congr 1
  rw [Bool.eq_iff_iff]
  simp [idxM_iff v l 0 (by omega)]
theorem inRange_eq (x lo hi : Int) : impl_inRange.f x lo hi = some (decide (lo ≤ x ∧ x ≤ hi)) := by
  simp only [impl_inRange.f]
  by_cases h : lo ≤ x
  · rw [if_pos h]; simp [h]
  · rw [if_neg h]; simp [h]
theorem isVlan_eq (x : Int) : impl_isVlan.f x = some (decide (1 ≤ x ∧ x ≤ 4)) := by simp [impl_isVlan.f, inRange_eq]
theorem implMemberOk_ev (own : Int) (l : List Int) (h : l.length ≤ 4194304) : Ev (fun k => impl_MemberOk.f k own l) (memberOk own l) := by
  refine ev_list l (fun k (_ : Option Int) i => impl_MemberOk.l0 k l (l.length : Int) i own l) (fun p t => memM own l p t) (fun i p => p = if i = 0 then none else l[i - 1]?) ?_ ?_ none rfl
  · intro p _
    refine Ev.step (f := fun k => ((impl_isVlan.f own).bind fun t109 => (if t109 = true then ((slices_Contains_int_int.f k l own).bind fun t110 => (some t110)) else (some false)))) (fun k => ?_) ?_
    · simp only [impl_MemberOk.l0]
      rw [if_neg (by omega)]
    · simp only [isVlan_eq, Option.bind_some, memM]
      by_cases a : 1 ≤ own ∧ own ≤ 4
      · simp only [a, and_self, decide_true, if_true, Bool.true_and]
        exact Ev.bind (contains_ev l own h) (ev_some fun _ => rfl)
      · refine ev_some fun k => ?_
        simp [a]
  · intro i p x t hI hi _ hx ih
    have ih' := ih (some x) (by simp [hx])
    have hbefore : ∀ k, (if (i : Int) > 0 then (if 0 ≤ (wrap64 ((i : Int) - 1)) then (if (wrap64 ((i : Int) - 1)) < (l.length : Int) then (if x ≤ (rd l (wrap64 ((i : Int) - 1))) then (some false) else (impl_MemberOk.l0 k l (l.length : Int) ((i + 1 : Nat) : Int) own l)) else (none)) else (none)) else (impl_MemberOk.l0 k l (l.length : Int) ((i + 1 : Nat) : Int) own l)) = if nextI p x = true then impl_MemberOk.l0 k l (l.length : Int) ((i + 1 : Nat) : Int) own l else some false := by
      intro k
      cases i with
      | zero => simp at hI; subst hI; simp [nextI]
      | succ j =>
        simp at hI
        have hj : l[j]? = some l[j] := List.getElem?_eq_getElem (by omega)
        rw [hj] at hI
        subst hI
        rw [if_pos (by omega), w64 (by omega) (by omega), show ((j + 1 : Nat) : Int) - 1 = (j : Int) by omega, if_pos (by omega), if_pos (by omega), rd_at hj]
        by_cases e : l[j] < x
        · rw [if_neg (by omega), if_pos (by simp [nextI, e])]
        · rw [if_pos (by omega), if_neg (by simp [nextI]; omega)]
    by_cases a : 1 ≤ x ∧ x ≤ 4
    · cases hb : nextI p x with
      | true =>
        have e : memM own l p (x :: t) = memM own l (some x) t := by simp [memM, a, hb]
        rw [e]
        refine Ev.step (fun k => ?_) ih'
        simp only [impl_MemberOk.l0]
        rw [if_pos (by omega), if_pos (by omega), if_pos (by omega), rd_at hx, w64_succ (by omega)]
        simp only [isVlan_eq, Option.bind_some, a, and_self, decide_true, if_true]
        rw [hbefore k, if_pos hb]
      | false =>
        have e : memM own l p (x :: t) = false := by simp [memM, hb]
        rw [e]
        refine ev_end fun k => ?_
        simp only [impl_MemberOk.l0]
        rw [if_pos (by omega), if_pos (by omega), if_pos (by omega), rd_at hx, w64_succ (by omega)]
        simp only [isVlan_eq, Option.bind_some, a, and_self, decide_true, if_true]
        rw [hbefore k, if_neg (by simp [hb])]
    · have e : memM own l p (x :: t) = false := by simp [memM, a]
      rw [e]
      refine ev_end fun k => ?_
      simp only [impl_MemberOk.l0]
      rw [if_pos (by omega), if_pos (by omega), if_pos (by omega), rd_at hx]
      simp only [isVlan_eq, Option.bind_some, a, decide_false, if_false, Bool.false_eq_true]
theorem ahead_eq (a b : HB) : impl_ahead.f a.f0 a.f1 a.f2 a.f3 b.f0 b.f1 b.f2 b.f3 = some (hBefore a b) := by
  simp only [impl_ahead.f, hBefore]
  by_cases h1 : a.f1 < b.f1
  · simp [h1]
  · by_cases h2 : a.f1 = b.f1 <;> simp [h1, h2]
theorem isAddr_eq (x : Int) : impl_isAddr.f x = some (decide (1 ≤ x ∧ x ≤ 9)) := by simp [impl_isAddr.f, inRange_eq]
theorem isPort_eq (x : Int) : impl_isPort.f x = some (decide (0 ≤ x ∧ x ≤ 3)) := by simp [impl_isPort.f, inRange_eq]
theorem implTableOk_ev (l : List HB) (h : l.length ≤ 4194304) : Ev (fun k => impl_TableOk.f k l) (tableOk l) := by
  refine ev_list l (fun k (_ : Option HB) i => impl_TableOk.l0 k l l (l.length : Int) i) (fun p t => tabM l.length p t) (fun i p => p = if i = 0 then none else l[i - 1]?) ?_ ?_ none rfl
  · intro p _
    refine ev_end fun k => ?_
    simp only [impl_TableOk.l0]
    rw [if_neg (by omega)]
    simp [tabM]
    omega
  · intro i p x t hI hi _ hx ih
    have ih' := ih (some x) (by simp [hx])
    have s1 : ∀ k, impl_TableOk.l0 (k + 1) l l (l.length : Int) (i : Int) = impl_TableOk.j1 k l (i : Int) l (l.length : Int) (i : Int) (!hOk x) x.f0 x.f1 x.f2 x.f3 := by
      intro k
      simp only [impl_TableOk.l0]
      rw [if_pos (by omega), if_pos (by omega), if_pos (by omega), rdHB hx]
      simp only [isAddr_eq, isVlan_eq, isPort_eq, inRange_eq, Option.bind_some, hOk]
      by_cases a1 : 1 ≤ x.f0 ∧ x.f0 ≤ 9 <;> by_cases a2 : 1 ≤ x.f1 ∧ x.f1 ≤ 4 <;> by_cases a3 : 0 ≤ x.f2 ∧ x.f2 ≤ 3 <;> by_cases a4 : 1 ≤ x.f3 ∧ x.f3 ≤ 20 <;> simp only [a1, a2, a3, a4, and_self, decide_true, decide_false, if_true, if_false, Bool.false_eq_true, Bool.and_true, Bool.and_false, Bool.true_and, Bool.false_and, Bool.not_true, Bool.not_false]
    cases hok : hOk x with
    | true =>
      have hbefore : ∀ k, impl_TableOk.j1 (k + 1) l (i : Int) l (l.length : Int) (i : Int) (!true) x.f0 x.f1 x.f2 x.f3 = if hNext p x = true then impl_TableOk.l0 k l l (l.length : Int) ((i + 1 : Nat) : Int) else some false := by
        intro k
        simp only [impl_TableOk.j1, w64_succ (show (i : Int) < 4611686018427387904 by omega)]
        rw [if_neg (by simp)]
        cases i with
        | zero => simp at hI; subst hI; simp [hNext]
        | succ j =>
          simp at hI
          have hj : l[j]? = some l[j] := List.getElem?_eq_getElem (by omega)
          rw [hj] at hI
          subst hI
          rw [if_pos (by omega), w64 (by omega) (by omega), show ((j + 1 : Nat) : Int) - 1 = (j : Int) by omega, if_pos (by omega), if_pos (by omega), rdHB hj, ahead_eq]
          (simp [hNext]) <;> rfl
      cases hb : hNext p x with
      | true =>
        have e : tabM l.length p (x :: t) = tabM l.length (some x) t := by simp [tabM, hok, hb]
        rw [e]
        refine Ev.step (fun k => (s1 k).trans (by rw [hok])) (Ev.step (fun k => ?_) ih')
        rw [hbefore k, if_pos hb]
      | false =>
        have e : tabM l.length p (x :: t) = false := by simp [tabM, hb]
        rw [e]
        refine Ev.step (fun k => (s1 k).trans (by rw [hok])) (ev_end fun k => ?_)
        rw [hbefore k, if_neg (by simp [hb])]
    | false =>
      have e : tabM l.length p (x :: t) = false := by simp [tabM, hok]
      rw [e]
      refine Ev.step (fun k => (s1 k).trans (by rw [hok])) (ev_end fun k => ?_)
      simp only [impl_TableOk.j1]
      rw [if_pos (by simp)]
theorem implCardOk_ev (o : List Bool) (m : List MB) (t : List HB) (ho : o.length ≤ 4194304) (h : m.length ≤ 4194304) (hm : ∀ x ∈ m, x.f1.length ≤ 4194304) (ht : t.length ≤ 4194304) : Ev (fun k => impl_CardOk.f k o m t) (cardOk o m t) := by
  refine ev_list0 m (fun k i => impl_CardOk.l0 k m (m.length : Int) i o m t) (fun r => decide (1 ≤ o.length ∧ o.length ≤ 4) && (decide (m.length = o.length) && (tableOk t && membersOk r)))
    ?_ (fun i x r hi _ hx ih => ?_)
  · refine Ev.step (f := fun k => ((impl_inRange.f (o.length : Int) 1 4).bind fun t206 => (if t206 = true then (if (m.length : Int) = (o.length : Int) then ((impl_TableOk.f k t).bind fun t207 => (some t207)) else (some false)) else (some false)))) (fun k => ?_) ?_
    · simp only [impl_CardOk.l0]
      rw [if_neg (by omega)]
    · simp only [inRange_eq, Option.bind_some, membersOk, Bool.and_true]
      by_cases e1 : 1 ≤ o.length ∧ o.length ≤ 4
      · have e1' : 1 ≤ (o.length : Int) ∧ (o.length : Int) ≤ 4 := by omega
        simp only [e1, e1', and_self, decide_true, if_true, Bool.true_and]
        by_cases e2 : m.length = o.length
        · have e2' : (m.length : Int) = o.length := by omega
          simp only [e2, if_pos e2', decide_true, Bool.true_and]
          simp only [if_true]
          exact Ev.bind (implTableOk_ev t ht) (ev_some fun _ => rfl)
        · have e2' : ¬ (m.length : Int) = o.length := by omega
          simp only [e2, if_neg e2', decide_false, Bool.false_and]
          exact ev_some fun _ => rfl
      · have e1' : ¬ (1 ≤ (o.length : Int) ∧ (o.length : Int) ≤ 4) := by omega
        simp only [e1, e1', decide_false, Bool.false_eq_true, if_false, Bool.false_and]
        exact ev_some fun _ => rfl
  · refine Ev.step (f := fun k => (impl_MemberOk.f k x.f0 x.f1).bind fun t131 => (if t131 = true then (impl_CardOk.l0 k m (m.length : Int) ((i + 1 : Nat) : Int) o m t) else (some false))) (fun k => ?_) (Ev.bind (implMemberOk_ev x.f0 x.f1 (hm x (List.mem_of_getElem? hx))) ?_)
    · simp only [impl_CardOk.l0]
      rw [if_pos (by omega), if_pos (by omega), if_pos (by omega), rdMB hx, w64_succ (by omega)]
    · cases hx2 : memberOk x.f0 x.f1 with
      | true => simp only [if_true, membersOk, hx2, Bool.true_and]; exact ih
      | false =>
        refine ev_some fun k => ?_
        simp [membersOk, hx2]
def forgetM (p : Int) (l : List HB) : List HB := l.filter fun x => decide (x.f2 ≠ p)
theorem implForget_ev (l : List HB) (p : Int) (h : l.length ≤ 4194304) : Ev (fun k => impl_Forget.f k l p) (forgetM p l) := by
  have := ev_list l (fun k (acc : List HB) i => impl_Forget.l0 k p acc l (l.length : Int) i) (fun acc t => acc ++ forgetM p t) (fun i acc => acc.length ≤ i)
    (fun acc hI => ev_end fun k => by simp only [impl_Forget.l0]; rw [if_neg (by omega)]; simp [forgetM])
    (fun i acc x t hI hi _ hx ih => by
      by_cases hp : x.f2 = p
      · have e : acc ++ forgetM p (x :: t) = acc ++ forgetM p t := by simp [forgetM, hp]
        rw [e]
        refine Ev.step (fun k => ?_) (ih acc (by omega))
        simp only [impl_Forget.l0]
        rw [if_pos (by omega), if_pos (by omega), if_pos (by omega), rdHB hx, if_pos hp, w64_succ (by omega)]
      · have e : acc ++ forgetM p (x :: t) = (acc ++ [x]) ++ forgetM p t := by simp [forgetM, hp]
        rw [e]
        refine Ev.step (fun k => ?_) (ih (acc ++ [x]) (by simp; omega))
        simp only [impl_Forget.l0]
        rw [if_pos (by omega), if_pos (by omega), if_pos (by omega), rdHB hx, if_neg hp, if_pos (by omega), w64_succ (by omega)])
    [] (by simp)
  simpa [impl_Forget.f] using this
def gateM (o : List Bool) (m : List MB) (t : List HB) (p : Int) (on : Bool) : List Bool × List MB × List HB :=
  if 0 ≤ p ∧ p < o.length ∧ cardOk o m t = true ∧ rdOf false o p ≠ on then (o.set p.toNat on, m, forgetM p t) else (o, m, t)
theorem gate_ev (o : List Bool) (m : List MB) (t : List HB) (p : Int) (on : Bool) (ho : o.length ≤ 4194304) (h : m.length ≤ 4194304) (hm : ∀ x ∈ m, x.f1.length ≤ 4194304) (ht : t.length ≤ 4194304) : Ev (fun k => impl_Gate.f k o m t p on) (gateM o m t p on) := by
  simp only [impl_Gate.f]
  refine Ev.bind (copyCard_ev o m t ho h hm ht) ?_
  simp only [inRange_eq, Option.bind_some]
  rw [w64 (by omega) (by omega)]
  by_cases e1 : 0 ≤ p ∧ p ≤ (o.length : Int) - 1
  · simp only [e1, and_self, decide_true, if_true]
    refine Ev.bind (implCardOk_ev o m t ho h hm ht) ?_
    cases hc : cardOk o m t with
    | false =>
      simp only [Bool.false_eq_true, if_false]
      exact ev_some fun _ => by simp [gateM, hc]
    | true =>
      have e2 : p < (o.length : Int) := by omega
      simp only [if_true, if_pos e1.1, if_pos e2]
      by_cases e3 : rdOf false o p = on
      · simp only [e3, beq_self_eq_true, if_true]
        exact ev_some fun _ => by simp [gateM, e3]
      · have e3' : (rdOf false o p == on) = false := by simp [e3]
        simp only [e3', Bool.false_eq_true, if_false]
        refine Ev.bind (implForget_ev t p ht) (ev_some fun _ => ?_)
        unfold gateM
        rw [if_pos ⟨e1.1, e2, hc, e3⟩]
  · simp only [e1, decide_false, Bool.false_eq_true, if_false]
    refine ev_some fun _ => ?_
    unfold gateM
    rw [if_neg (by omega)]
theorem rdBo {l : List Bool} {i : Nat} {x : Bool} (h : l[i]? = some x) : rdOf false l (i : Int) = x := getD_at h
theorem sameFlags_ev (l : List Bool) (h : l.length ≤ 4194304) : Ev (fun k => laws_sameFlags.f k l l) true := by
  have h0 := ev_list0 l (fun k i => laws_sameFlags.l0 k l l i) (fun _ => true)
    (ev_end fun k => by simp only [laws_sameFlags.l0]; rw [if_neg (by omega)])
    (fun i x t hi _ hx ih => Ev.step (fun k => by
      simp only [laws_sameFlags.l0, bne_self_eq_false, Bool.false_eq_true, if_false]
      rw [if_pos (by omega), if_pos (by omega), if_pos (by omega), w64_succ (by omega)]) ih)
  refine Ev.congr (fun k => ?_) h0
  simp [laws_sameFlags.f]
theorem sameInts_ev (l : List Int) (h : l.length ≤ 4194304) : Ev (fun k => laws_sameInts.f k l l) true := by
  have h0 := ev_list0 l (fun k i => laws_sameInts.l0 k l l i) (fun _ => true)
    (ev_end fun k => by simp only [laws_sameInts.l0]; rw [if_neg (by omega)])
    (fun i x t hi _ hx ih => Ev.step (fun k => by
      simp only [laws_sameInts.l0, if_true]
      rw [if_pos (by omega), if_pos (by omega), if_pos (by omega), w64_succ (by omega)]) ih)
  refine Ev.congr (fun k => ?_) h0
  simp [laws_sameInts.f]
theorem sameHeard_ev (l : List HB) (h : l.length ≤ 4194304) : Ev (fun k => laws_sameHeard.f k l l) true := by
  have h0 := ev_list0 l (fun k i => laws_sameHeard.l0 k l l i) (fun _ => true)
    (ev_end fun k => by simp only [laws_sameHeard.l0]; rw [if_neg (by omega)])
    (fun i x t hi _ hx ih => Ev.step (fun k => by
      simp only [laws_sameHeard.l0]
      rw [if_pos (by omega), if_pos (by omega), if_pos (by omega), rdHB hx, w64_succ (by omega)]
      simp) ih)
  refine Ev.congr (fun k => ?_) h0
  simp [laws_sameHeard.f]
theorem sameCard_ev (o : List Bool) (m : List MB) (t : List HB) (ho : o.length ≤ 4194304) (h : m.length ≤ 4194304) (hm : ∀ x ∈ m, x.f1.length ≤ 4194304) (ht : t.length ≤ 4194304) : Ev (fun k => laws_sameCard.f k o m t o m t) true := by
  have hl : Ev (fun k => laws_sameCard.l0 k 0 o m t o m t) true := by
    refine ev_list0 m (fun k i => laws_sameCard.l0 k i o m t o m t) (fun _ => true)
      (ev_end fun k => by simp only [laws_sameCard.l0]; rw [if_neg (by omega)])
      (fun i x r hi _ hx ih => ?_)
    refine Ev.step (f := fun k => (laws_sameInts.f k x.f1 x.f1).bind fun t403 => (if t403 = true then (laws_sameCard.l0 k ((i + 1 : Nat) : Int) o m t o m t) else (some false))) (fun k => ?_) (Ev.bind (sameInts_ev x.f1 (hm x (List.mem_of_getElem? hx))) ?_)
    · simp only [laws_sameCard.l0]
      rw [if_pos (by omega), if_pos (by omega), if_pos (by omega), rdMB hx, w64_succ (by omega)]
      simp only [if_true]
    · simp only [if_true]
      exact ih
  simp only [laws_sameCard.f]
  refine Ev.bind (sameFlags_ev o ho) ?_
  simp only [if_true]
  refine Ev.bind (sameHeard_ev t ht) ?_
  exact Ev.step (fun k => by simp only [laws_sameCard.j0, Bool.not_true, Bool.false_eq_true, if_false]) hl
theorem hBefore_trans {a b c : HB} (h1 : hBefore a b = true) (h2 : hBefore b c = true) : hBefore a c = true := by
  simp [hBefore] at h1 h2 ⊢
  omega
theorem tabM_pairwise (n : Nat) : ∀ (l : List HB) (p : Option HB), tabM n p l = true → (∀ y, p = some y → ∀ z ∈ l, hBefore y z = true) ∧ l.Pairwise (fun a b => hBefore a b = true) ∧ (∀ z ∈ l, hOk z = true) ∧ n ≤ 12 := by
  intro l
  induction l with
  | nil => intro p h; simpa [tabM] using h
  | cons x t ih =>
    intro p h
    simp only [tabM, Bool.and_eq_true] at h
    obtain ⟨h1, h2, h3⟩ := h
    obtain ⟨i1, i2, i3, i4⟩ := ih (some x) h3
    have hx := i1 x rfl
    refine ⟨fun y hy z hz => ?_, List.pairwise_cons.2 ⟨hx, i2⟩, fun z hz => ?_, i4⟩
    · subst hy
      simp only [hNext] at h2
      rcases List.mem_cons.1 hz with rfl | hz
      · exact h2
      · exact hBefore_trans h2 (hx z hz)
    · rcases List.mem_cons.1 hz with rfl | hz
      · exact h1
      · exact i3 z hz
theorem tableOk_spec {l : List HB} (h : tableOk l = true) : l.Pairwise (fun a b => hBefore a b = true) ∧ (∀ z ∈ l, hOk z = true) ∧ l.length ≤ 12 := (tabM_pairwise l.length l none h).2
theorem same_key {l : List HB} (h : l.Pairwise (fun a b => hBefore a b = true)) {x y : HB} (hx : x ∈ l) (hy : y ∈ l) (h0 : x.f0 = y.f0) (h1 : x.f1 = y.f1) : x = y := by
  induction l with
  | nil => simp at hx
  | cons z t ih =>
    rw [List.pairwise_cons] at h
    rcases List.mem_cons.1 hx with e1 | hx'
    · rcases List.mem_cons.1 hy with e2 | hy'
      · rw [e1, e2]
      · have := h.1 y hy'
        rw [← e1] at this
        simp [hBefore, h0, h1] at this
    · rcases List.mem_cons.1 hy with e2 | hy'
      · have := h.1 x hx'
        rw [← e2] at this
        simp [hBefore, h0, h1] at this
      · exact ih h.2 hx' hy'
theorem tabM_of (n : Nat) (hn : n ≤ 12) : ∀ (l : List HB) (p : Option HB), (∀ y, p = some y → ∀ z ∈ l, hBefore y z = true) → l.Pairwise (fun a b => hBefore a b = true) → (∀ z ∈ l, hOk z = true) → tabM n p l = true := by
  intro l
  induction l with
  | nil => intro p _ _ _; simp [tabM, hn]
  | cons x t ih =>
    intro p h1 h2 h3
    rw [List.pairwise_cons] at h2
    simp only [tabM, Bool.and_eq_true]
    refine ⟨h3 x (by simp), ?_, ih (some x) (fun y hy z hz => ?_) h2.2 (fun z hz => h3 z (by simp [hz]))⟩
    · cases p with
      | none => rfl
      | some y => exact h1 y rfl x (by simp)
    · injection hy with hy
      subst hy
      exact h2.1 z hz
theorem tableOk_forget {l : List HB} (h : tableOk l = true) (p : Int) : tableOk (forgetM p l) = true := by
  obtain ⟨h1, h2, h3⟩ := tableOk_spec h
  have hl : (forgetM p l).length ≤ l.length := List.length_filter_le _ _
  exact tabM_of _ (by omega) _ _ (fun y hy => by cases hy) (h1.sublist List.filter_sublist) (fun z hz => h2 z (List.mem_filter.1 hz).1)
theorem forgetM_idem (p : Int) (l : List HB) : forgetM p (forgetM p l) = forgetM p l := by
  simp [forgetM, List.filter_filter]
theorem forgetM_length (p : Int) (l : List HB) : (forgetM p l).length ≤ l.length := List.length_filter_le _ _
theorem FnFlushed : FnFlushedPure := by
  intro l hlw
  refine Ev.rounds ?_
  simp only [laws_FnFlushed.f, laws_big.f, Option.bind_some]
  by_cases hbig : (l.length : Int) > 1048576
  · exact ev_some fun _ => by simp [hbig]
  simp only [hbig, decide_false, Bool.false_eq_true, if_false]
  obtain ⟨⟨o, m, t, p, on⟩, hd, ho, hm, hmm, ht⟩ := drawGate_evp l (by omega)
  dsimp only at ho hm hmm ht
  have ht1 := ht.1
  have hmm' : ∀ x ∈ m, x.f1.length ≤ 4194304 := fun x hx => by have := hmm x hx; omega
  refine Ev.bind hd ?_
  dsimp only
  refine Ev.bind (implCardOk_ev o m t (by omega) (by omega) hmm' (by omega)) ?_
  have jt : ¬ (0 ≤ p ∧ p < (o.length : Int) ∧ cardOk o m t = true) → Ev (fun k => laws_FnFlushed.j0 k p on true o m t) true := by
    intro hno
    refine Ev.succ ?_
    simp only [laws_FnFlushed.j0, if_true]
    have hg := gate_ev o m t p on (by omega) (by omega) hmm' (by omega)
    have e : gateM o m t p on = (o, m, t) := by
      unfold gateM
      rw [if_neg (fun h => hno ⟨h.1, h.2.1, h.2.2.1⟩)]
    rw [e] at hg
    refine Ev.bind hg ?_
    exact Ev.bind (sameCard_ev o m t (by omega) (by omega) hmm' (by omega)) (ev_some fun _ => rfl)
  cases hc : cardOk o m t with
  | false =>
    simp only [Bool.false_eq_true, if_false]
    exact jt (by simp [hc])
  | true =>
    simp only [if_true]
    by_cases h0 : p < 0
    · simp only [if_pos h0]
      exact jt (fun h => by omega)
    simp only [if_neg h0]
    by_cases h1 : p ≥ (o.length : Int)
    · simp only [h1, decide_true]
      exact jt (fun h => by omega)
    simp only [h1, decide_false]
    obtain ⟨n, rfl⟩ : ∃ n : Nat, p = (n : Int) := ⟨p.toNat, by omega⟩
    have hn : n < o.length := by omega
    have hb : rdOf false o (n : Int) = o[n] := rdBo (List.getElem?_eq_getElem hn)
    refine Ev.succ ?_
    simp only [laws_FnFlushed.j0, Bool.false_eq_true, if_false, if_pos (show (0 : Int) ≤ (n : Int) by omega), if_pos (show (n : Int) < (o.length : Int) by omega), hb]
    have g1 := gate_ev o m t (n : Int) (!o[n]) (by omega) (by omega) hmm' (by omega)
    have e1 : gateM o m t (n : Int) (!o[n]) = (o.set n (!o[n]), m, forgetM (n : Int) t) := by
      unfold gateM
      rw [if_pos ⟨by omega, by omega, hc, by rw [hb]; cases o[n] <;> simp⟩]
      simp
    rw [e1] at g1
    refine Ev.bind g1 ?_
    have hfl := forgetM_length (n : Int) t
    have hcc := hc
    unfold cardOk at hcc
    simp only [Bool.and_eq_true, decide_eq_true_eq] at hcc
    have hc1 : ∀ o' : List Bool, o'.length = o.length → cardOk o' m (forgetM (n : Int) t) = true := by
      intro o' ho'
      unfold cardOk
      simp only [Bool.and_eq_true, decide_eq_true_eq, ho']
      exact ⟨hcc.1, hcc.2.1, tableOk_forget hcc.2.2.1 _, hcc.2.2.2⟩
    have hl1 : (o.set n (!o[n])).length = o.length := by simp
    have g2 := gate_ev (o.set n (!o[n])) m (forgetM (n : Int) t) (n : Int) o[n] (by omega) (by omega) hmm' (by omega)
    have e2 : gateM (o.set n (!o[n])) m (forgetM (n : Int) t) (n : Int) o[n] = (o, m, forgetM (n : Int) t) := by
      have hb1 : rdOf false (o.set n (!o[n])) (n : Int) = !o[n] := rdBo (by rw [List.getElem?_set_self hn])
      unfold gateM
      rw [if_pos ⟨by omega, by omega, hc1 _ hl1, by rw [hb1]; cases o[n] <;> simp⟩, forgetM_idem]
      simp
    rw [e2] at g2
    refine Ev.bind g2 ?_
    refine Ev.bind (implForget_ev t (n : Int) (by omega)) ?_
    refine Ev.bind (sameHeard_ev (forgetM (n : Int) t) (by omega)) ?_
    simp only [if_true]
    refine Ev.bind (sameFlags_ev o (by omega)) ?_
    simp only [if_true]
    refine Ev.bind (implCardOk_ev o m (forgetM (n : Int) t) (by omega) (by omega) hmm' (by omega)) (ev_some fun _ => ?_)
    rw [hc1 o rfl]
end Go.Proofs.Ytjaldondohddpaa.Pure

/- Of the proof of laws.FnVlans: a part. No condition beyond what its theorems say. -/
/- The statement of laws.FnVlans over numbers and lists alone: at every input it answers true. No condition but that the numbers are those of their kinds and that no slice is longer than a Go slice can be. -/
import Derived.Test.YtjmkbmpfknhcdaaVFnVlansT
import Derived.Test.YtjmkbmpfknhcdaaVFnVlansBase
import Derived.Laws.BitsLemmas
set_option linter.unusedVariables false
set_option linter.unusedSimpArgs false
namespace Go.Proofs.Ytjmkbmpfknhcdaa.Pure
open Go.RowKit Go.Proofs.Ytjmkbmpfknhcdaa.PFnVlans Go.Proofs.Ytjmkbmpfknhcdaa.Base Go.Proofs.YtjmkbmpfknhcdaaW.PrintWords Go.Proofs.YtjmkbmpfknhcdaaW.PrintLast Go.Proofs.YtjmkbmpfknhcdaaW.PrintMore
def FnVlansPure : Prop := ∀ (l0 : List (Int)), (l0.length ≤ maxLen ∧ ∀ x ∈ l0, (Lit.int .u8 x).wf = true) → ∃ k, laws_FnVlans.f k l0 = some true
theorem and_range (x : Int) (m : Nat) (hm : m < 2 ^ 62) : 0 ≤ Go.bits .and .i64 x (m : Int) ∧ Go.bits .and .i64 x (m : Int) ≤ m := by
  have e : Go.bits .and .i64 x (m : Int) = IntKind.i64.wrap (((BitVec.ofInt 64 x) &&& (BitVec.ofInt 64 (m : Int))).toNat : Int) := rfl
  have h1 : ((BitVec.ofInt 64 x) &&& (BitVec.ofInt 64 (m : Int))).toNat ≤ m := by
    rw [BitVec.toNat_and, BitVec.ofInt_natCast, BitVec.toNat_ofNat, Nat.mod_eq_of_lt (by omega)]
    exact Nat.and_le_right
  rw [e, IntKind.wrap_i64]
  omega
theorem and_255_range (x : Int) : 0 ≤ Go.bits .and .i64 x 255 ∧ Go.bits .and .i64 x 255 ≤ 255 := and_range x 255 (by decide)
/-- The cursor's place lies in its bytes. -/
def CurOk (b : List Int) (i : Int) : Prop := 0 ≤ i ∧ i ≤ b.length ∧ b.length ≤ 4194304
/-- It comes to an answer, and P holds of it. -/
def EvP {α : Type} (g : Nat → Option α) (P : α → Prop) : Prop := ∃ r, Ev g r ∧ P r
theorem EvP.bind {α β : Type} {c : Nat → Option α} {f : Nat → α → Option β} {Q : α → Prop} {P : β → Prop} (h : EvP c Q) (hf : ∀ a, Q a → EvP (fun k => f k a) P) : EvP (fun k => (c k).bind (f k)) P := by
  obtain ⟨a, ha, hq⟩ := h
  obtain ⟨r, hr, hp⟩ := hf a hq
  exact ⟨r, Ev.bind ha hr, hp⟩
theorem EvP.now {α : Type} {P : α → Prop} (r : α) (h : P r) : EvP (fun _ => some r) P := ⟨r, Ev.now r, h⟩
theorem EvP.of {α : Type} {g : Nat → Option α} {P : α → Prop} {r : α} (h : Ev g r) (hp : P r) : EvP g P := ⟨r, h, hp⟩
theorem EvP.imp {α : Type} {g : Nat → Option α} {P Q : α → Prop} (h : EvP g P) (hi : ∀ r, P r → Q r) : EvP g Q := by
  obtain ⟨r, hr, hp⟩ := h
  exact ⟨r, hr, hi r hp⟩
theorem Ev.succ {α : Type} {g : Nat → Option α} {r : α} (h : Ev (fun k => g (k + 1)) r) : Ev g r := Ev.step (fun _ => rfl) h
theorem EvP.succ {α : Type} {g : Nat → Option α} {P : α → Prop} (h : EvP (fun k => g (k + 1)) P) : EvP g P := by
  obtain ⟨r, hr, hp⟩ := h
  exact ⟨r, Ev.succ hr, hp⟩
theorem l1New_ev (l : List Int) (h : l.length ≤ 4194304) : ∃ q : Int, Ev (fun k => spec_l1New.f k l) (l, 0, q) := by
  have key : ∀ (d i : Nat) (q : Int), i + d = l.length → ∃ q' : Int, Ev (fun k => spec_l1New.l0 k l q (i : Int)) (l, 0, q') := by
    intro d
    induction d with
    | zero =>
      intro i q hi
      refine ⟨q, ev_end fun k => ?_⟩
      simp only [spec_l1New.l0]
      rw [if_neg (by omega)]
    | succ d ih =>
      intro i q hi
      by_cases h4 : (i : Int) < 4000
      · obtain ⟨q', hq⟩ := ih (i + 1) (Go.bits .and .i64 (wrap64 ((wrap64 ((wrap64 (q * 131)) + (wrap64 (rd l (i : Int))))) + 7)) 1073741823) (by omega)
        refine ⟨q', Ev.step (fun k => ?_) hq⟩
        simp only [spec_l1New.l0]
        rw [if_pos (by omega), if_pos h4, if_pos (by omega), w64_succ (by omega)]
      · refine ⟨q, ev_end fun k => ?_⟩
        simp only [spec_l1New.l0]
        rw [if_pos (by omega), if_neg h4]
  exact key l.length 0 _ (by omega)
theorem l1Byte_some (b : List Int) (i q : Int) (h : CurOk b i) : ∃ r i' q', spec_l1Byte.f b i q = some (r, i', q') ∧ CurOk b i' ∧ 0 ≤ r ∧ r ≤ 255 := by
  obtain ⟨h0, h1, h2⟩ := h
  simp only [spec_l1Byte.f]
  by_cases hi : i < (b.length : Int)
  · rw [if_pos hi, if_pos h0]
    refine ⟨_, _, _, rfl, ⟨?_, ?_, h2⟩, (and_255_range _).1, (and_255_range _).2⟩ <;> rw [w64 (by omega) (by omega)] <;> omega
  · rw [if_neg hi]
    exact ⟨_, _, _, rfl, ⟨h0, h1, h2⟩, (and_255_range _).1, (and_255_range _).2⟩
theorem l1Below_some (b : List Int) (i q n : Int) (h : CurOk b i) : ∃ r i' q', spec_l1Below.f b i q n = some (r, i', q') ∧ CurOk b i' ∧ 0 ≤ r ∧ (0 < n → r < n) := by
  simp only [spec_l1Below.f]
  by_cases h0 : n ≤ 0
  · rw [if_pos h0]
    exact ⟨_, _, _, rfl, h, by omega, by omega⟩
  · rw [if_neg h0]
    obtain ⟨r1, i1, q1, e1, c1, a1, b1⟩ := l1Byte_some b i q h
    by_cases h2 : n ≤ 256
    · rw [if_pos h2, e1]
      simp only [Option.bind_some]
      rw [if_neg (by omega), Int.tmod_eq_emod_of_nonneg a1]
      exact ⟨_, _, _, rfl, c1, Int.emod_nonneg _ (by omega), fun _ => Int.emod_lt_of_pos _ (by omega)⟩
    · obtain ⟨r2, i2, q2, e2, c2, a2, b2⟩ := l1Byte_some b i1 q1 c1
      obtain ⟨r3, i3, q3, e3, c3, a3, b3⟩ := l1Byte_some b i2 q2 c2
      obtain ⟨r4, i4, q4, e4, c4, a4, b4⟩ := l1Byte_some b i3 q3 c3
      rw [if_neg h2, e1]
      simp only [Option.bind_some, e2, e3, e4]
      rw [if_neg (by omega), w64 (x := r1 * 16777216) (by omega) (by omega), w64 (x := r2 * 65536) (by omega) (by omega), w64 (x := r3 * 256) (by omega) (by omega), w64 (x := r1 * 16777216 + r2 * 65536) (by omega) (by omega), w64 (x := r1 * 16777216 + r2 * 65536 + r3 * 256) (by omega) (by omega), w64 (by omega) (by omega), Int.tmod_eq_emod_of_nonneg (by omega)]
      exact ⟨_, _, _, rfl, c4, Int.emod_nonneg _ (by omega), fun _ => Int.emod_lt_of_pos _ (by omega)⟩
theorem l1Below_evp (b : List Int) (i q n : Int) (h : CurOk b i) : EvP (fun _ => spec_l1Below.f b i q n) (fun r => CurOk b r.2.1 ∧ 0 ≤ r.1 ∧ (0 < n → r.1 < n)) := by
  obtain ⟨r, i', q', e, c, h0, h1⟩ := l1Below_some b i q n h
  exact ⟨(r, i', q'), ev_some fun _ => e, c, h0, h1⟩
theorem l1Once_some (b : List Int) (i q n : Int) (h : CurOk b i) : ∃ r i' q', spec_l1Once.f b i q n = some (r, i', q') ∧ CurOk b i' := by
  obtain ⟨r, i', q', e, c, _⟩ := l1Below_some b i q n h
  exact ⟨r == 0, i', q', by simp [spec_l1Once.f, e], c⟩
theorem l1Once_evp (b : List Int) (i q n : Int) (h : CurOk b i) : EvP (fun _ => spec_l1Once.f b i q n) (fun r => CurOk b r.2.1) := by
  obtain ⟨r, i', q', e, c⟩ := l1Once_some b i q n h
  exact ⟨(r, i', q'), ev_some fun _ => e, c⟩
theorem l4DrawRight_evp (b : List Int) (i q : Int) (h : CurOk b i) : EvP (fun k => spec_l4DrawRight.f k b i q) (fun r => CurOk b r.2.2.1 ∧ r.2.1.length ≤ 4) := by
  have key : ∀ (d n : Nat) (own : Int) (l : List Int) (i q : Int), n + d = 5 → 1 ≤ n → CurOk b i → l.length + 1 ≤ n → EvP (fun k => spec_l4DrawRight.l0 k (n : Int) b i q own l) (fun r => CurOk b r.2.2.1 ∧ r.2.1.length ≤ 4) := by
    intro d
    induction d with
    | zero =>
      intro n own l i q hn h1 hc hl
      refine EvP.succ ?_
      simp only [spec_l4DrawRight.l0]
      simp only [if_neg (show ¬ (n : Int) ≤ 4 by omega)]
      exact EvP.now _ ⟨hc, by dsimp only; omega⟩
    | succ d ih =>
      intro n own l i q hn h1 hc hl
      refine EvP.succ ?_
      simp only [spec_l4DrawRight.l0]
      simp only [if_pos (show (n : Int) ≤ 4 by omega), w64_succ (show (n : Int) < 4611686018427387904 by omega), if_pos (show l.length < 17592186044416 by omega)]
      by_cases e : (n : Int) = own
      · simp only [if_pos e]
        exact ih (n + 1) own (l ++ [(n : Int)]) i q (by omega) (by omega) hc (by simp; omega)
      · simp only [if_neg e]
        refine EvP.bind (l1Once_evp b _ _ 2 hc) (fun r hr => ?_)
        by_cases e1 : r.1 = true
        · simp only [if_pos e1]
          exact ih (n + 1) own (l ++ [(n : Int)]) _ _ (by omega) (by omega) hr (by simp; omega)
        · simp only [if_neg e1]
          exact ih (n + 1) own l _ _ (by omega) (by omega) hr (by omega)
  simp only [spec_l4DrawRight.f]
  refine EvP.bind (l1Below_evp b i q 3 h) (fun r hr => ?_)
  exact key 4 1 _ [] _ _ (by omega) (by omega) hr.1 (by simp)
theorem l4Draw_evp (b : List Int) (i q : Int) (h : CurOk b i) : EvP (fun k => spec_l4Draw.f k b i q) (fun r => CurOk b r.2.2.1 ∧ r.2.1.length ≤ 5) := by
  simp only [spec_l4Draw.f]
  refine EvP.bind (l4DrawRight_evp b i q h) (fun r hr => ?_)
  refine EvP.bind (l1Below_evp b _ _ 8 hr.1) (fun r1 h1 => ?_)
  have hl := hr.2
  by_cases e0 : r1.1 = 0
  · simp only [if_pos e0]
    refine EvP.bind (l1Below_evp b _ _ 6 h1.1) (fun r2 h2 => ?_)
    exact EvP.now _ ⟨h2.1, by dsimp only; omega⟩
  · simp only [if_neg e0]
    by_cases e1 : r1.1 = 1
    · simp only [if_pos e1]
      refine EvP.bind (l1Below_evp b _ _ 6 h1.1) (fun r2 h2 => ?_)
      simp only [if_pos (show r.2.1.length < 17592186044416 by omega)]
      exact EvP.now _ ⟨h2.1, by simp; omega⟩
    · simp only [if_neg e1]
      exact EvP.now _ ⟨h1.1, by dsimp only; omega⟩
theorem l1PickInt_some (b : List Int) (i q : Int) (l : List Int) (h : CurOk b i) (hl : 0 < l.length) : ∃ r i' q', spec_l1PickInt.f b i q l = some (r, i', q') ∧ CurOk b i' ∧ r ∈ l := by
  obtain ⟨r, i', q', e, c, h0, h1⟩ := l1Below_some b i q l.length h
  have h1 := h1 (by omega)
  obtain ⟨n, rfl⟩ := Int.eq_ofNat_of_zero_le h0
  refine ⟨l[n]'(by omega), i', q', ?_, c, List.getElem_mem _⟩
  simp only [spec_l1PickInt.f, e, Option.bind_some]
  rw [if_pos h0, if_pos h1, rd_at (List.getElem?_eq_getElem (by omega))]
theorem l1PickInt_evp (b : List Int) (i q : Int) (l : List Int) (h : CurOk b i) (hl : 0 < l.length) : EvP (fun _ => spec_l1PickInt.f b i q l) (fun r => CurOk b r.2.1 ∧ r.1 ∈ l) := by
  obtain ⟨r, i', q', e, c, hm⟩ := l1PickInt_some b i q l h hl
  exact ⟨(r, i', q'), ev_some fun _ => e, c, hm⟩
/-- A drawn frame's load: few bytes. -/
def LoadOk (n : Nat) (l : List Int) : Prop := l.length ≤ n ∧ ∀ x ∈ l, 0 ≤ x ∧ x < 256
theorem l2DrawRight_evp (b : List Int) (i q : Int) (h : CurOk b i) : EvP (fun k => spec_l2DrawRight.f k b i q) (fun r => CurOk b r.2.2.2.2.1 ∧ LoadOk 4 r.2.2.2.1 ∧ (0 ≤ r.1 ∧ r.1 ≤ 4) ∧ (1 ≤ r.2.1 ∧ r.2.1 ≤ 4) ∧ (0 ≤ r.2.2.1 ∧ r.2.2.1 ≤ 2)) := by
  have key : ∀ (d n : Nat) (x y v : Int) (l : List Int) (i q : Int), n + d = 4 → CurOk b i → LoadOk n l → EvP (fun k => spec_l2DrawRight.l0 k (n : Int) b i q x y v l) (fun r => CurOk b r.2.2.2.2.1 ∧ LoadOk 4 r.2.2.2.1 ∧ r.1 = x ∧ r.2.1 = y ∧ r.2.2.1 = v) := by
    intro d
    induction d with
    | zero =>
      intro n x y v l i q hn hc hl
      refine EvP.succ ?_
      simp only [spec_l2DrawRight.l0]
      refine EvP.bind (l1Below_evp b i q 4 hc) (fun r hr => ?_)
      have := hr.2.2 (by omega)
      simp only [if_neg (show ¬ (n : Int) < r.1 by omega)]
      have e : n = 4 := by omega
      subst e
      exact EvP.now _ ⟨hr.1, hl, rfl, rfl, rfl⟩
    | succ d ih =>
      intro n x y v l i q hn hc hl
      refine EvP.succ ?_
      simp only [spec_l2DrawRight.l0]
      refine EvP.bind (l1Below_evp b i q 4 hc) (fun r hr => ?_)
      by_cases hlt : (n : Int) < r.1
      · simp only [if_pos hlt]
        refine EvP.bind (l1Below_evp b _ _ 256 hr.1) (fun r1 h1 => ?_)
        have hl1 := hl.1
        simp only [if_pos (show l.length < 140737488355328 by omega), w64_succ (show (n : Int) < 4611686018427387904 by omega)]
        refine ih (n + 1) x y v _ _ _ (by omega) h1.1 ⟨by simp; omega, fun z hz => ?_⟩
        rcases List.mem_append.1 hz with hz | hz
        · exact hl.2 z hz
        · simp only [List.mem_cons, List.not_mem_nil, or_false] at hz
          subst hz
          omega
      · simp only [if_neg hlt]
        exact EvP.now _ ⟨hr.1, ⟨by have := hl.1; dsimp only; omega, hl.2⟩, rfl, rfl, rfl⟩
  simp only [spec_l2DrawRight.f]
  refine EvP.bind (l1Below_evp b i q 5 h) (fun r0 h0 => ?_)
  refine EvP.bind (l1Below_evp b _ _ 4 h0.1) (fun r1 h1 => ?_)
  refine EvP.bind (l1Below_evp b _ _ 3 h1.1) (fun r2 h2 => ?_)
  have a0 := h0.2.2 (by omega)
  have a1 := h1.2.2 (by omega)
  have a2 := h2.2.2 (by omega)
  have b0 := h0.2.1
  have b1 := h1.2.1
  have b2 := h2.2.1
  refine EvP.imp (key 4 0 r0.1 (wrap64 (1 + r1.1)) r2.1 [] _ _ (by omega) h2.1 ⟨by simp, by simp⟩) (fun r hr => ?_)
  obtain ⟨p1, p2, p3, p4, p5⟩ := hr
  rw [w64 (by omega) (by omega)] at p4
  exact ⟨p1, p2, by omega, by omega, by omega⟩
theorem l2Draw_evp (b : List Int) (i q : Int) (h : CurOk b i) : EvP (fun k => spec_l2Draw.f k b i q) (fun r => CurOk b r.2.2.2.2.1 ∧ LoadOk 31 r.2.2.2.1) := by
  simp only [spec_l2Draw.f]
  refine EvP.bind (l2DrawRight_evp b i q h) (fun r hr => ?_)
  obtain ⟨hc, hl, _⟩ := hr
  have hl' : LoadOk 31 r.2.2.2.1 := ⟨by have := hl.1; omega, hl.2⟩
  refine EvP.bind (l1Below_evp b _ _ 10 hc) (fun r1 h1 => ?_)
  by_cases e0 : r1.1 = 0
  · simp only [if_pos e0]
    refine EvP.bind (l1PickInt_evp b _ _ [-1, 9, 10] h1.1 (by simp)) (fun r2 h2 => ?_)
    exact EvP.now _ ⟨h2.1, hl'⟩
  simp only [if_neg e0]
  by_cases e1 : r1.1 = 1
  · simp only [if_pos e1]
    refine EvP.bind (l1PickInt_evp b _ _ [0, 9, 10] h1.1 (by simp)) (fun r2 h2 => ?_)
    exact EvP.now _ ⟨h2.1, hl'⟩
  simp only [if_neg e1]
  by_cases e2 : r1.1 = 2
  · simp only [if_pos e2]
    refine EvP.bind (l1PickInt_evp b _ _ [-1, 4, 5] h1.1 (by simp)) (fun r2 h2 => ?_)
    exact EvP.now _ ⟨h2.1, hl'⟩
  simp only [if_neg e2]
  by_cases e3 : r1.1 = 3
  · simp only [if_pos e3]
    refine EvP.bind (l1Below_evp b _ _ 2 h1.1) (fun r2 h2 => ?_)
    have a0 := h2.2.1
    have a1 := h2.2.2 (by omega)
    rw [w64 (by omega) (by omega)]
    simp only [if_pos (show 0 ≤ 30 + r2.1 by omega), if_pos (show (30 + r2.1).toNat ≤ 281474976710656 by omega)]
    refine EvP.now _ ⟨h2.1, by simp; omega, fun x hx => ?_⟩
    rw [List.eq_of_mem_replicate hx]
    omega
  · simp only [if_neg e3]
    exact EvP.now _ ⟨h1.1, hl'⟩
theorem drawInside_evp (l : List Int) (h : l.length ≤ 4194304) : EvP (fun k => spec_DrawInside.f k l) (fun r => r.2.1.length ≤ 5 ∧ LoadOk 31 r.2.2.2.2.2) := by
  obtain ⟨q, hq⟩ := l1New_ev l h
  simp only [spec_DrawInside.f]
  refine EvP.bind (EvP.of hq (P := fun r => r = (l, 0, q)) rfl) (fun r hr => ?_)
  subst hr
  refine EvP.bind (l4Draw_evp l 0 q ⟨by omega, by omega, h⟩) (fun r hr => ?_)
  refine EvP.bind (l2Draw_evp l _ _ hr.1) (fun r1 h1 => ?_)
  exact EvP.now _ ⟨hr.2, h1.2⟩
def nextI (p : Option Int) (x : Int) : Bool := match p with | none => true | some y => decide (y < x)
def memM (own : Int) (l : List Int) : Option Int → List Int → Bool
  | _, [] => decide (1 ≤ own ∧ own ≤ 4) && l.contains own
  | p, x :: t => decide (1 ≤ x ∧ x ≤ 4) && (nextI p x && memM own l (some x) t)
def memberOk (own : Int) (l : List Int) : Bool := memM own l none l
def frameOk (a b c : Int) (l : List Int) : Bool := decide (0 ≤ a ∧ a ≤ 9 ∧ 1 ≤ b ∧ b ≤ 9 ∧ 0 ≤ c ∧ c ≤ 4 ∧ l.length ≤ 30)
theorem frameOk_iff' (a b c : Int) (l : List Int) : frameOk a b c l = true ↔ 0 ≤ a ∧ a ≤ 9 ∧ 1 ≤ b ∧ b ≤ 9 ∧ 0 ≤ c ∧ c ≤ 4 ∧ l.length ≤ 30 := by simp [frameOk]
abbrev FrB := Int × Int × Int × List Int × Bool
def insideM (a : Int) (l : List Int) (x y v : Int) (ld : List Int) : FrB :=
  if (memberOk a l && (frameOk x y v ld && l.contains (if v = 0 then a else v))) = true then (x, y, if v = 0 then a else v, ld, true) else (0, 0, 0, [], false)
def outsideM (a : Int) (l : List Int) (x y v : Int) (ld : List Int) : FrB :=
  if (memberOk a l && (frameOk x y v ld && l.contains v)) = true then (x, y, if v = a then 0 else v, ld, true) else (0, 0, 0, [], false)
theorem memM_all (own : Int) (w : List Int) : ∀ (l : List Int) (p : Option Int), memM own w p l = true → (∀ x ∈ l, 1 ≤ x ∧ x ≤ 4) ∧ 1 ≤ own ∧ own ≤ 4 ∧ w.contains own = true := by
  intro l
  induction l with
  | nil => intro p h; simp only [memM, Bool.and_eq_true, decide_eq_true_eq] at h; exact ⟨by simp, h.1.1, h.1.2, h.2⟩
  | cons y t ih =>
    intro p h
    simp only [memM, Bool.and_eq_true, decide_eq_true_eq] at h
    obtain ⟨i1, i2⟩ := ih _ h.2.2
    refine ⟨fun x hx => ?_, i2⟩
    rcases List.mem_cons.1 hx with rfl | hx
    · exact h.1
    · exact i1 x hx
theorem memberOk_all {own : Int} {l : List Int} (h : memberOk own l = true) : (∀ x ∈ l, 1 ≤ x ∧ x ≤ 4) ∧ 1 ≤ own ∧ own ≤ 4 ∧ l.contains own = true := memM_all own l l none h
theorem insideM_length (a : Int) (l : List Int) (x y v : Int) (ld : List Int) (n : Nat) (h : ld.length ≤ n) : (insideM a l x y v ld).2.2.2.1.length ≤ n := by
  unfold insideM
  (repeat' split) <;> simp [h]
theorem outsideM_length (a : Int) (l : List Int) (x y v : Int) (ld : List Int) (n : Nat) (h : ld.length ≤ n) : (outsideM a l x y v ld).2.2.2.1.length ≤ n := by
  unfold outsideM
  (repeat' split) <;> simp [h]
def idxM (v : Int) : Int → List Int → Int
  | _, [] => -1
  | i, x :: t => if v = x then i else idxM v (i + 1) t
theorem idxM_iff (v : Int) : ∀ (l : List Int) (i : Int), 0 ≤ i → (0 ≤ idxM v i l ↔ v ∈ l) := by
  intro l
  induction l with
  | nil => intro i _; simp [idxM]
  | cons x t ih =>
    intro i hi
    simp only [idxM]
    by_cases e : v = x
    · simp [e, hi]
    · rw [if_neg e, ih (i + 1) (by omega)]
      simp [e]
theorem index_ev (l : List Int) (v : Int) (h : l.length ≤ 4194304) : Ev (fun k => slices_Index_int_int.f k l v) (idxM v 0 l) := by
  refine ev_list l (fun k (s : Int) i => slices_Index_int_int.l0 k l v (l.length : Int) i) (fun s t => idxM v s t) (fun i s => s = i) ?_ ?_ 0 rfl
  · intro s _
    refine ev_end fun k => ?_
    simp only [slices_Index_int_int.l0]
    rw [if_neg (by omega)]
    rfl
  · intro i s x t hI hi _ hx ih
    subst hI
    by_cases e : v = x
    · refine ev_end fun k => ?_
      simp only [slices_Index_int_int.l0]
      rw [if_pos (by omega), if_pos (by omega), if_pos (by omega), rd_at hx, if_pos e, idxM, if_pos e]
    · have := ih ((i : Int) + 1) (by omega)
      rw [idxM, if_neg e]
      refine Ev.step (fun k => ?_) this
      simp only [slices_Index_int_int.l0]
      rw [if_pos (by omega), if_pos (by omega), if_pos (by omega), rd_at hx, if_neg e, w64_succ (by omega)]
theorem contains_ev (l : List Int) (v : Int) (h : l.length ≤ 4194304) : Ev (fun k => slices_Contains_int_int.f k l v) (l.contains v) := by
  simp only [slices_Contains_int_int.f]
  refine Ev.bind (index_ev l v h) (ev_some fun _ => ?_)
  congr 1
  rw [Bool.eq_iff_iff]
  simp [idxM_iff v l 0 (by omega)]
theorem inRange_eq (x lo hi : Int) : impl_inRange.f x lo hi = some (decide (lo ≤ x ∧ x ≤ hi)) := by
  simp only [impl_inRange.f]
  by_cases h : lo ≤ x
  · rw [if_pos h]; simp [h]
  · rw [if_neg h]; simp [h]
theorem isVlan_eq (x : Int) : impl_isVlan.f x = some (decide (1 ≤ x ∧ x ≤ 4)) := by simp [impl_isVlan.f, inRange_eq]
theorem implMemberOk_ev (own : Int) (l : List Int) (h : l.length ≤ 4194304) : Ev (fun k => impl_MemberOk.f k own l) (memberOk own l) := by
  refine ev_list l (fun k (_ : Option Int) i => impl_MemberOk.l0 k l (l.length : Int) i own l) (fun p t => memM own l p t) (fun i p => p = if i = 0 then none else l[i - 1]?) ?_ ?_ none rfl
  · intro p _
    refine Ev.step (f := fun k => ((impl_isVlan.f own).bind fun t109 => (if t109 = true then ((slices_Contains_int_int.f k l own).bind fun t110 => (some t110)) else (some false)))) (fun k => ?_) ?_
    · simp only [impl_MemberOk.l0]
      rw [if_neg (by omega)]
    · simp only [isVlan_eq, Option.bind_some, memM]
      by_cases a : 1 ≤ own ∧ own ≤ 4
      · simp only [a, and_self, decide_true, if_true, Bool.true_and]
        exact Ev.bind (contains_ev l own h) (ev_some fun _ => rfl)
      · refine ev_some fun k => ?_
        simp [a]
  · intro i p x t hI hi _ hx ih
    have ih' := ih (some x) (by simp [hx])
    have hbefore : ∀ k, (if (i : Int) > 0 then (if 0 ≤ (wrap64 ((i : Int) - 1)) then (if (wrap64 ((i : Int) - 1)) < (l.length : Int) then (if x ≤ (rd l (wrap64 ((i : Int) - 1))) then (some false) else (impl_MemberOk.l0 k l (l.length : Int) ((i + 1 : Nat) : Int) own l)) else (none)) else (none)) else (impl_MemberOk.l0 k l (l.length : Int) ((i + 1 : Nat) : Int) own l)) = if nextI p x = true then impl_MemberOk.l0 k l (l.length : Int) ((i + 1 : Nat) : Int) own l else some false := by
      intro k
      cases i with
      | zero => simp at hI; subst hI; simp [nextI]
      | succ j =>
        simp at hI
        have hj : l[j]? = some l[j] := List.getElem?_eq_getElem (by omega)
        rw [hj] at hI
        subst hI
        rw [if_pos (by omega), w64 (by omega) (by omega), show ((j + 1 : Nat) : Int) - 1 = (j : Int) by omega, if_pos (by omega), if_pos (by omega), rd_at hj]
        by_cases e : l[j] < x
        · rw [if_neg (by omega), if_pos (by simp [nextI, e])]
        · rw [if_pos (by omega), if_neg (by simp [nextI]; omega)]
    by_cases a : 1 ≤ x ∧ x ≤ 4
    · cases hb : nextI p x with
      | true =>
        have e : memM own l p (x :: t) = memM own l (some x) t := by simp [memM, a, hb]
        rw [e]
        refine Ev.step (fun k => ?_) ih'
        simp only [impl_MemberOk.l0]
        rw [if_pos (by omega), if_pos (by omega), if_pos (by omega), rd_at hx, w64_succ (by omega)]
        simp only [isVlan_eq, Option.bind_some, a, and_self, decide_true, if_true]
        rw [hbefore k, if_pos hb]
      | false =>
        have e : memM own l p (x :: t) = false := by simp [memM, hb]
        rw [e]
        refine ev_end fun k => ?_
        simp only [impl_MemberOk.l0]
        rw [if_pos (by omega), if_pos (by omega), if_pos (by omega), rd_at hx, w64_succ (by omega)]
        simp only [isVlan_eq, Option.bind_some, a, and_self, decide_true, if_true]
        rw [hbefore k, if_neg (by simp [hb])]
    · have e : memM own l p (x :: t) = false := by simp [memM, a]
      rw [e]
      refine ev_end fun k => ?_
      simp only [impl_MemberOk.l0]
      rw [if_pos (by omega), if_pos (by omega), if_pos (by omega), rd_at hx]
      simp only [isVlan_eq, Option.bind_some, a, decide_false, if_false, Bool.false_eq_true]
theorem isAddr_eq (x : Int) : impl_isAddr.f x = some (decide (1 ≤ x ∧ x ≤ 9)) := by simp [impl_isAddr.f, inRange_eq]
theorem implFrameOk_eq (a b c : Int) (l : List Int) : impl_FrameOk.f a b c l = some (frameOk a b c l) := by
  simp only [impl_FrameOk.f, inRange_eq, isAddr_eq, Option.bind_some, frameOk]
  by_cases h1 : 0 ≤ a ∧ a ≤ 9 <;> by_cases h2 : 1 ≤ b ∧ b ≤ 9 <;> by_cases h3 : 0 ≤ c ∧ c ≤ 4 <;> by_cases h4 : l.length ≤ 30 <;> simp [h1, h2, h3, h4] <;> omega
theorem clone_eq (l : List Int) (h : l.length ≤ 4194304) : slices_Clone_byte_byte.f l = some l := by
  simp only [slices_Clone_byte_byte.f, Option.bind_some, List.length_nil, List.nil_append]
  rw [if_pos (by omega)]
theorem copyFrame_eq (a b c : Int) (l : List Int) (h : l.length ≤ 4194304) : impl_copyFrame.f a b c l = some (a, b, c, l) := by
  simp [impl_copyFrame.f, clone_eq l h]
theorem implOutside_ev (a : Int) (l : List Int) (x y v : Int) (ld : List Int) (hl : l.length ≤ 4194304) (hd : ld.length ≤ 4194304) : Ev (fun k => impl_Outside.f k a l x y v ld) (outsideM a l x y v ld) := by
  obtain ⟨K1, h1⟩ := implMemberOk_ev a l hl
  obtain ⟨K2, h2⟩ := contains_ev l v hl
  refine ⟨K1 + K2 + 1, fun k hk => ?_⟩
  obtain ⟨j, rfl⟩ : ∃ j, k = j + 1 := ⟨k - 1, by omega⟩
  have e1 := h1 (j + 1) (by omega)
  have e2 := h2 (j + 1) (by omega)
  simp only [impl_Outside.f, impl_Outside.j0, e1, e2, implFrameOk_eq, Option.bind_some, copyFrame_eq x y v ld hd, outsideM]
  by_cases hv : v = a <;> cases memberOk a l <;> cases frameOk x y v ld <;> cases l.contains v <;> simp [hv]
theorem l4Has_ev (l : List Int) (x : Int) (h : l.length ≤ 4194304) : Ev (fun k => spec_l4Has.f k l x) (l.contains x) := by
  refine ev_list0 l (fun k i => spec_l4Has.l0 k l x i) (fun t => t.contains x)
    (ev_end fun k => by simp only [spec_l4Has.l0]; rw [if_neg (by omega)]; rfl)
    (fun i y t hi _ hx ih => ?_)
  by_cases e : y = x
  · refine ev_end fun k => ?_
    simp only [spec_l4Has.l0]
    rw [if_pos (by omega), if_pos (by omega), rd_at hx, if_pos e]
    simp [e]
  · have e' : (y :: t).contains x = t.contains x := by
      have : ¬ x = y := fun h => e h.symm
      simp [List.contains_cons, this]
    rw [e']
    refine Ev.step (fun k => ?_) ih
    simp only [spec_l4Has.l0]
    rw [if_pos (by omega), if_pos (by omega), rd_at hx, if_neg e, w64_succ (by omega)]
theorem l1In_eq (x lo hi : Int) : spec_l1In.f x lo hi = some (decide (lo ≤ x ∧ x ≤ hi)) := by
  simp only [spec_l1In.f]
  by_cases h : lo ≤ x
  · rw [if_pos h]; simp [h]
  · rw [if_neg h]; simp [h]
theorem specMemberOk_ev (own : Int) (l : List Int) (h : l.length ≤ 4194304) : Ev (fun k => spec_MemberOk.f k own l) (memberOk own l) := by
  refine ev_list l (fun k (_ : Option Int) i => spec_MemberOk.l0 k i own l) (fun p t => memM own l p t) (fun i p => p = if i = 0 then none else l[i - 1]?) ?_ ?_ none rfl
  · intro p _
    refine Ev.step (f := fun k => ((spec_l1In.f own 1 4).bind fun t109 => (if t109 = true then ((spec_l4Has.f k l own).bind fun t110 => (some t110)) else (some false)))) (fun k => ?_) ?_
    · simp only [spec_MemberOk.l0]
      rw [if_neg (by omega)]
    · simp only [l1In_eq, Option.bind_some, memM]
      by_cases a : 1 ≤ own ∧ own ≤ 4
      · simp only [a, and_self, decide_true, if_true, Bool.true_and]
        exact Ev.bind (l4Has_ev l own h) (ev_some fun _ => rfl)
      · refine ev_some fun k => ?_
        simp [a]
  · intro i p x t hI hi _ hx ih
    have ih' := ih (some x) (by simp [hx])
    have hbefore : ∀ k, (if (i : Int) > 0 then (if 0 ≤ (wrap64 ((i : Int) - 1)) then (if (wrap64 ((i : Int) - 1)) < (l.length : Int) then (if (rd l (wrap64 ((i : Int) - 1))) ≥ x then (some false) else (spec_MemberOk.l0 k ((i + 1 : Nat) : Int) own l)) else (none)) else (none)) else (spec_MemberOk.l0 k ((i + 1 : Nat) : Int) own l)) = if nextI p x = true then spec_MemberOk.l0 k ((i + 1 : Nat) : Int) own l else some false := by
      intro k
      cases i with
      | zero => simp at hI; subst hI; simp [nextI]
      | succ j =>
        simp at hI
        have hj : l[j]? = some l[j] := List.getElem?_eq_getElem (by omega)
        rw [hj] at hI
        subst hI
        rw [if_pos (by omega), w64 (by omega) (by omega), show ((j + 1 : Nat) : Int) - 1 = (j : Int) by omega, if_pos (by omega), if_pos (by omega), rd_at hj]
        by_cases e : l[j] < x
        · rw [if_neg (by omega), if_pos (by simp [nextI, e])]
        · rw [if_pos (by omega), if_neg (by simp [nextI]; omega)]
    by_cases a : 1 ≤ x ∧ x ≤ 4
    · cases hb : nextI p x with
      | true =>
        have e : memM own l p (x :: t) = memM own l (some x) t := by simp [memM, a, hb]
        rw [e]
        refine Ev.step (fun k => ?_) ih'
        simp only [spec_MemberOk.l0]
        rw [if_pos (by omega), if_pos (by omega), rd_at hx, w64_succ (by omega)]
        simp only [l1In_eq, Option.bind_some, a, and_self, decide_true, if_true]
        rw [hbefore k, if_pos hb]
      | false =>
        have e : memM own l p (x :: t) = false := by simp [memM, hb]
        rw [e]
        refine ev_end fun k => ?_
        simp only [spec_MemberOk.l0]
        rw [if_pos (by omega), if_pos (by omega), rd_at hx, w64_succ (by omega)]
        simp only [l1In_eq, Option.bind_some, a, and_self, decide_true, if_true]
        rw [hbefore k, if_neg (by simp [hb])]
    · have e : memM own l p (x :: t) = false := by simp [memM, a]
      rw [e]
      refine ev_end fun k => ?_
      simp only [spec_MemberOk.l0]
      rw [if_pos (by omega), if_pos (by omega), rd_at hx]
      simp only [l1In_eq, Option.bind_some, a, decide_false, if_false, Bool.false_eq_true]
theorem specFrameOk_eq (a b c : Int) (l : List Int) : spec_FrameOk.f a b c l = some (frameOk a b c l) := by
  simp only [spec_FrameOk.f, l1In_eq, Option.bind_some, frameOk]
  by_cases h1 : 0 ≤ a ∧ a ≤ 9 <;> by_cases h2 : 1 ≤ b ∧ b ≤ 9 <;> by_cases h3 : 0 ≤ c ∧ c ≤ 4 <;> by_cases h4 : l.length ≤ 30 <;> simp [h1, h2, h3, h4] <;> omega
theorem l2Copy_eq (a b c : Int) (l : List Int) (h : l.length ≤ 4194304) : spec_l2Copy.f a b c l = some (a, b, c, l) := by
  simp only [spec_l2Copy.f, Option.bind_some, List.length_nil, List.nil_append]
  rw [if_pos (by omega)]
theorem specOutside_ev (a : Int) (l : List Int) (x y v : Int) (ld : List Int) (hl : l.length ≤ 4194304) (hd : ld.length ≤ 4194304) : Ev (fun k => spec_Outside.f k a l x y v ld) (outsideM a l x y v ld) := by
  obtain ⟨K1, h1⟩ := specMemberOk_ev a l hl
  obtain ⟨K2, h2⟩ := l4Has_ev l v hl
  refine ⟨K1 + K2 + 1, fun k hk => ?_⟩
  obtain ⟨j, rfl⟩ : ∃ j, k = j + 1 := ⟨k - 1, by omega⟩
  have e1 := h1 (j + 1) (by omega)
  have e2 := h2 (j + 1) (by omega)
  simp only [spec_Outside.f, spec_Outside.j0, e1, e2, specFrameOk_eq, Option.bind_some, l2Copy_eq x y v ld hd, outsideM]
  by_cases hv : v = a <;> cases memberOk a l <;> cases frameOk x y v ld <;> cases l.contains v <;> simp [hv]
theorem implInside_ev (a : Int) (l : List Int) (x y v : Int) (ld : List Int) (hl : l.length ≤ 4194304) (hd : ld.length ≤ 4194304) : Ev (fun k => impl_Inside.f k a l x y v ld) (insideM a l x y v ld) := by
  obtain ⟨K1, h1⟩ := implMemberOk_ev a l hl
  obtain ⟨K2, h2⟩ := contains_ev l (if v = 0 then a else v) hl
  refine ⟨K1 + K2 + 1, fun k hk => ?_⟩
  obtain ⟨j, rfl⟩ : ∃ j, k = j + 1 := ⟨k - 1, by omega⟩
  have e1 := h1 (j + 1) (by omega)
  have e2 := h2 j (by omega)
  simp only [impl_Inside.f, impl_Inside.j0, e1, implFrameOk_eq, Option.bind_some, copyFrame_eq x y v ld hd, insideM]
  cases memberOk a l
  · simp
  · cases frameOk x y v ld
    · simp
    · by_cases hv : v = 0
      · simp only [if_pos hv] at e2 ⊢
        simp only [e2, Option.bind_some, if_true, Bool.true_and, Bool.not_true, Bool.false_eq_true, if_false]
        cases l.contains a <;> simp
      · simp only [if_neg hv] at e2 ⊢
        simp only [e2, Option.bind_some, if_true, Bool.true_and, Bool.not_true, Bool.false_eq_true, if_false]
        cases l.contains v <;> simp
theorem specInside_ev (a : Int) (l : List Int) (x y v : Int) (ld : List Int) (hl : l.length ≤ 4194304) (hd : ld.length ≤ 4194304) : Ev (fun k => spec_Inside.f k a l x y v ld) (insideM a l x y v ld) := by
  obtain ⟨K1, h1⟩ := specMemberOk_ev a l hl
  obtain ⟨K2, h2⟩ := l4Has_ev l (if v = 0 then a else v) hl
  refine ⟨K1 + K2 + 1, fun k hk => ?_⟩
  obtain ⟨j, rfl⟩ : ∃ j, k = j + 1 := ⟨k - 1, by omega⟩
  have e1 := h1 j (by omega)
  have e2 := h2 j (by omega)
  simp only [spec_Inside.f, spec_Inside.j0, e1, specFrameOk_eq, Option.bind_some, l2Copy_eq x y v ld hd, insideM]
  by_cases hv : v = 0
  · simp only [if_pos hv] at e2 ⊢
    simp only [e2, Option.bind_some]
    cases memberOk a l <;> cases frameOk x y v ld <;> cases l.contains a <;> simp
  · simp only [if_neg hv] at e2 ⊢
    simp only [e2, Option.bind_some]
    cases memberOk a l <;> cases frameOk x y v ld <;> cases l.contains v <;> simp
theorem frameSame_self (a b c : Int) (l : List Int) : impl_FrameSame.f a b c l a b c l = some true := by
  simp [impl_FrameSame.f, bytes_Equal.f]
theorem inside_outside (a : Int) (l : List Int) (x y v : Int) (ld : List Int) (h : (outsideM a l x y v ld).2.2.2.2 = true) :
    insideM a l (outsideM a l x y v ld).1 (outsideM a l x y v ld).2.1 (outsideM a l x y v ld).2.2.1 (outsideM a l x y v ld).2.2.2.1 = (x, y, v, ld, true) := by
  unfold outsideM at h ⊢
  split at h
  · rename_i hc
    rw [if_pos hc]
    simp only [Bool.and_eq_true] at hc
    obtain ⟨hm, hf, hv⟩ := hc
    have hma := memberOk_all hm
    have hv1 := hma.1 v (by simpa using hv)
    have hff := (frameOk_iff' x y v ld).1 hf
    by_cases e : v = a
    · have hf2 : frameOk x y 0 ld = true := (frameOk_iff' x y 0 ld).2 (by omega)
      subst e
      have hcv : v ∈ l := by simpa using hv
      simp [insideM, hm, hf2, hcv]
    · have hcv : v ∈ l := by simpa using hv
      have hv0 : ¬ v = 0 := by omega
      simp [insideM, e, hv0, hm, hf, hcv]
  · simp at h
theorem FnVlans : FnVlansPure := by
  intro l hlw
  refine Ev.rounds ?_
  simp only [laws_FnVlans.f, laws_big.f, Option.bind_some]
  by_cases hbig : (l.length : Int) > 1048576
  · exact ev_some fun _ => by simp [hbig]
  simp only [hbig, decide_false, Bool.false_eq_true, if_false]
  obtain ⟨⟨m0, m1, f0, f1, f2, f3⟩, hd, hm, hld⟩ := drawInside_evp l (by omega)
  dsimp only at hm hld
  have hl31 := hld.1
  have hdo : Ev (fun k => spec_DrawOutside.f k l) (m0, m1, f0, f1, f2, f3) := by
    simp only [spec_DrawOutside.f]
    exact Ev.bind hd (ev_some fun _ => rfl)
  obtain ⟨q, hq⟩ := l1New_ev l (by omega)
  have hdm : EvP (fun k => spec_DrawMemberOk.f k l) (fun r => r.2.length ≤ 5) := by
    simp only [spec_DrawMemberOk.f]
    refine EvP.bind (EvP.of hq (P := fun r => r = (l, 0, q)) rfl) (fun r hr => ?_)
    subst hr
    refine EvP.bind (l4Draw_evp l 0 q ⟨by omega, by omega, by omega⟩) (fun r hr => ?_)
    exact EvP.now _ hr.2
  obtain ⟨⟨n0, n1⟩, hn, hnl⟩ := hdm
  dsimp only at hnl
  obtain ⟨K1, h1⟩ := hdo
  obtain ⟨K2, h2⟩ := implOutside_ev m0 m1 f0 f1 f2 f3 (by omega) (by omega)
  obtain ⟨K3, h3⟩ := specOutside_ev m0 m1 f0 f1 f2 f3 (by omega) (by omega)
  obtain ⟨K4, h4⟩ := hd
  obtain ⟨K5, h5⟩ := implInside_ev m0 m1 f0 f1 f2 f3 (by omega) (by omega)
  obtain ⟨K6, h6⟩ := specInside_ev m0 m1 f0 f1 f2 f3 (by omega) (by omega)
  obtain ⟨K7, h7⟩ := hn
  obtain ⟨K8, h8⟩ := implMemberOk_ev n0 n1 (by omega)
  obtain ⟨K9, h9⟩ := specMemberOk_ev n0 n1 (by omega)
  have hol := outsideM_length m0 m1 f0 f1 f2 f3 31 hl31
  obtain ⟨K10, h10⟩ := implInside_ev m0 m1 (outsideM m0 m1 f0 f1 f2 f3).1 (outsideM m0 m1 f0 f1 f2 f3).2.1 (outsideM m0 m1 f0 f1 f2 f3).2.2.1 (outsideM m0 m1 f0 f1 f2 f3).2.2.2.1 (by omega) (by omega)
  have hio := inside_outside m0 m1 f0 f1 f2 f3
  have hz : (outsideM m0 m1 f0 f1 f2 f3).2.2.2.2 = false → (outsideM m0 m1 f0 f1 f2 f3).2.1 = 0 := by
    unfold outsideM
    split <;> simp
  generalize hoo : outsideM m0 m1 f0 f1 f2 f3 = o at h2 h3 h10 hio hz
  obtain ⟨o0, o1, o2, o3, o4⟩ := o
  dsimp only at h2 h3 h10 hio hz
  generalize hii : insideM m0 m1 f0 f1 f2 f3 = p at h5 h6
  obtain ⟨p0, p1, p2, p3, p4⟩ := p
  refine ⟨K1 + K2 + K3 + K4 + K5 + K6 + K7 + K8 + K9 + K10 + 1, fun k hk => ?_⟩
  obtain ⟨j, rfl⟩ : ∃ j, k = j + 1 := ⟨k - 1, by omega⟩
  have a1 := h1 (j + 1) (by omega)
  have a2 := h2 (j + 1) (by omega)
  have a3 := h3 (j + 1) (by omega)
  have a4 := h4 (j + 1) (by omega)
  have a5 := h5 (j + 1) (by omega)
  have a6 := h6 (j + 1) (by omega)
  have a7 := h7 (j + 1) (by omega)
  have a8 := h8 (j + 1) (by omega)
  have a9 := h9 (j + 1) (by omega)
  have a10 := h10 j (by omega)
  simp only [laws_FnVlans.j0, a1, a2, a3, a4, a5, a6, a7, a8, a9, a10, Option.bind_some, bne_self_eq_false, Bool.false_eq_true, if_false, frameSame_self, if_true]
  cases o4 with
  | true =>
    rw [hio rfl]
    simp only [if_true, frameSame_self, Option.bind_some]
  | false =>
    simp only [Bool.false_eq_true, if_false, hz rfl]
    rfl
end Go.Proofs.Ytjmkbmpfknhcdaa.Pure

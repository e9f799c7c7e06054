/- A part of the proof of laws.FnFrames. No condition beyond what its theorems say. -/
/- The statement of laws.FnFrames over numbers and lists alone: at every input it answers true. No condition but that the numbers are those of their kinds and that no slice is longer than a Go slice can be. -/
import Derived.Test.YtaoipjdmmamkmaaVFnFramesT
import Derived.Test.YtaoipjdmmamkmaaVFnFramesBase
import Derived.Laws.BitsLemmas
import Derived.Laws.BitsLemmas
import Derived.Laws.BitsLemmas
import Derived.Lib.Strings
import Derived.Lib.Strings
set_option linter.unusedVariables false
set_option linter.unusedSimpArgs false
namespace Go.Proofs.Ytaoipjdmmamkmaa.Pure
open Go.RowKit Go.Proofs.Ytaoipjdmmamkmaa.PFnFrames Go.Proofs.Ytaoipjdmmamkmaa.Base Go.Proofs.YtaoipjdmmamkmaaW.PrintWords Go.Proofs.YtaoipjdmmamkmaaW.PrintLast Go.Proofs.YtaoipjdmmamkmaaW.PrintMore
def FnFramesPure : Prop := ∀ (l0 : List (Int)), (l0.length ≤ maxLen ∧ ∀ x ∈ l0, (Lit.int .u8 x).wf = true) → ∃ k, laws_FnFrames.f k l0 = some true
theorem and_range (x : Int) (m : Nat) (hm : m < 2 ^ 62) : 0 ≤ Go.bits .and .i64 x (m : Int) ∧ Go.bits .and .i64 x (m : Int) ≤ m := by
 have e : Go.bits .and .i64 x (m : Int) = IntKind.i64.wrap (((BitVec.ofInt 64 x) &&& (BitVec.ofInt 64 (m : Int))).toNat : Int) := rfl
 have h1 : ((BitVec.ofInt 64 x) &&& (BitVec.ofInt 64 (m : Int))).toNat ≤ m := by
  rw [BitVec.toNat_and, BitVec.ofInt_natCast, BitVec.toNat_ofNat, Nat.mod_eq_of_lt (by omega)]
  exact Nat.and_le_right
 rw [e, IntKind.wrap_i64]
 omega
theorem and_255_range (x : Int) : 0 ≤ Go.bits .and .i64 x 255 ∧ Go.bits .and .i64 x 255 ≤ 255 := and_range x 255 (by decide)
def CurOk (b : List Int) (i : Int) : Prop := 0 ≤ i ∧ i ≤ b.length ∧ b.length ≤ 4194304
def EvP {α : Type} (g : Nat → Option α) (P : α → Prop) : Prop := ∃ r, Ev g r ∧ P r
theorem EvP.bind {α β : Type} {c : Nat → Option α} {f : Nat → α → Option β} {Q : α → Prop} {P : β → Prop} (h : EvP c Q) (hf : ∀ a, Q a → EvP (fun k => f k a) P) : EvP (fun k => (c k).bind (f k)) P := by
 obtain ⟨a, ha, hq⟩ := h
 obtain ⟨r, hr, hp⟩ := hf a hq
 exact ⟨r, Ev.bind ha hr, hp⟩
theorem EvP.now {α : Type} {P : α → Prop} (r : α) (h : P r) : EvP (fun _ => some r) P := ⟨r, Ev.now r, h⟩
theorem EvP.of {α : Type} {g : Nat → Option α} {P : α → Prop} {r : α} (h : Ev g r) (hp : P r) : EvP g P := ⟨r, h, hp⟩
theorem EvP.imp {α : Type} {g : Nat → Option α} {P Q : α → Prop} (h : EvP g P) (hi : ∀ r, P r → Q r) : EvP g Q := by
 obtain ⟨r, hr, hp⟩ := h
 exact ⟨r, hr, hi r hp⟩
theorem Ev.succ {α : Type} {g : Nat → Option α} {r : α} (h : Ev (fun k => g (k + 1)) r) : Ev g r := Ev.step (fun _ => rfl) h
theorem EvP.succ {α : Type} {g : Nat → Option α} {P : α → Prop} (h : EvP (fun k => g (k + 1)) P) : EvP g P := by
 obtain ⟨r, hr, hp⟩ := h
 exact ⟨r, Ev.succ hr, hp⟩
theorem l1New_ev (l : List Int) (h : l.length ≤ 4194304) : ∃ q : Int, Ev (fun k => spec_l1New.f k l) (l, 0, q) := by
 have key : ∀ (d i : Nat) (q : Int), i + d = l.length → ∃ q' : Int, Ev (fun k => spec_l1New.l0 k l q (i : Int)) (l, 0, q') := by
  intro d
  induction d with
  | zero =>
   intro i q hi
   refine ⟨q, ev_end fun k => ?_⟩
   simp only [spec_l1New.l0]
   rw [if_neg (by omega)]
  | succ d ih =>
   intro i q hi
   by_cases h4 : (i : Int) < 4000
   ·obtain ⟨q', hq⟩ := ih (i + 1) (Go.bits .and .i64 (wrap64 ((wrap64 ((wrap64 (q * 131)) + (wrap64 (rd l (i : Int))))) + 7)) 1073741823) (by omega)
    refine ⟨q', Ev.step (fun k => ?_) hq⟩
    simp only [spec_l1New.l0]
    rw [if_pos (by omega), if_pos h4, if_pos (by omega), w64_succ (by omega)]
   ·refine ⟨q, ev_end fun k => ?_⟩
    simp only [spec_l1New.l0]
    rw [if_pos (by omega), if_neg h4]
 exact key l.length 0 _ (by omega)
theorem l1Byte_some (b : List Int) (i q : Int) (h : CurOk b i) : ∃ r i' q', spec_l1Byte.f b i q = some (r, i', q') ∧ CurOk b i' ∧ 0 ≤ r ∧ r ≤ 255 := by
 obtain ⟨h0, h1, h2⟩ := h
 simp only [spec_l1Byte.f]
 by_cases hi : i < (b.length : Int)
 ·rw [if_pos hi, if_pos h0]
  refine ⟨_, _, _, rfl, ⟨?_, ?_, h2⟩, (and_255_range _).1, (and_255_range _).2⟩ <;> rw [w64 (by omega) (by omega)] <;> omega
 ·rw [if_neg hi]
  exact ⟨_, _, _, rfl, ⟨h0, h1, h2⟩, (and_255_range _).1, (and_255_range _).2⟩
theorem l1Below_some (b : List Int) (i q n : Int) (h : CurOk b i) : ∃ r i' q', spec_l1Below.f b i q n = some (r, i', q') ∧ CurOk b i' ∧ 0 ≤ r ∧ (0 < n → r < n) := by
 simp only [spec_l1Below.f]
 by_cases h0 : n ≤ 0
 ·rw [if_pos h0]
  exact ⟨_, _, _, rfl, h, by omega, by omega⟩
 ·rw [if_neg h0]
  obtain ⟨r1, i1, q1, e1, c1, a1, b1⟩ := l1Byte_some b i q h
  by_cases h2 : n ≤ 256
  ·rw [if_pos h2, e1]
   simp only [Option.bind_some]
   rw [if_neg (by omega), Int.tmod_eq_emod_of_nonneg a1]
   exact ⟨_, _, _, rfl, c1, Int.emod_nonneg _ (by omega), fun _ => Int.emod_lt_of_pos _ (by omega)⟩
  ·obtain ⟨r2, i2, q2, e2, c2, a2, b2⟩ := l1Byte_some b i1 q1 c1
   obtain ⟨r3, i3, q3, e3, c3, a3, b3⟩ := l1Byte_some b i2 q2 c2
   obtain ⟨r4, i4, q4, e4, c4, a4, b4⟩ := l1Byte_some b i3 q3 c3
   rw [if_neg h2, e1]
   simp only [Option.bind_some, e2, e3, e4]
   rw [if_neg (by omega), w64 (x := r1 * 16777216) (by omega) (by omega), w64 (x := r2 * 65536) (by omega) (by omega), w64 (x := r3 * 256) (by omega) (by omega), w64 (x := r1 * 16777216 + r2 * 65536) (by omega) (by omega), w64 (x := r1 * 16777216 + r2 * 65536 + r3 * 256) (by omega) (by omega), w64 (by omega) (by omega), Int.tmod_eq_emod_of_nonneg (by omega)]
   exact ⟨_, _, _, rfl, c4, Int.emod_nonneg _ (by omega), fun _ => Int.emod_lt_of_pos _ (by omega)⟩
theorem l1Below_evp (b : List Int) (i q n : Int) (h : CurOk b i) : EvP (fun _ => spec_l1Below.f b i q n) (fun r => CurOk b r.2.1 ∧ 0 ≤ r.1 ∧ (0 < n → r.1 < n)) := by
 obtain ⟨r, i', q', e, c, h0, h1⟩ := l1Below_some b i q n h
 exact ⟨(r, i', q'), ev_some fun _ => e, c, h0, h1⟩
theorem l1Once_some (b : List Int) (i q n : Int) (h : CurOk b i) : ∃ r i' q', spec_l1Once.f b i q n = some (r, i', q') ∧ CurOk b i' := by
 obtain ⟨r, i', q', e, c, _⟩ := l1Below_some b i q n h
 exact ⟨r == 0, i', q', by simp [spec_l1Once.f, e], c⟩
theorem l1Once_evp (b : List Int) (i q n : Int) (h : CurOk b i) : EvP (fun _ => spec_l1Once.f b i q n) (fun r => CurOk b r.2.1) := by
 obtain ⟨r, i', q', e, c⟩ := l1Once_some b i q n h
 exact ⟨(r, i', q'), ev_some fun _ => e, c⟩
theorem l1PickInt_some (b : List Int) (i q : Int) (l : List Int) (h : CurOk b i) (hl : 0 < l.length) : ∃ r i' q', spec_l1PickInt.f b i q l = some (r, i', q') ∧ CurOk b i' ∧ r ∈ l := by
 obtain ⟨r, i', q', e, c, h0, h1⟩ := l1Below_some b i q l.length h
 have h1 := h1 (by omega)
 obtain ⟨n, rfl⟩ := Int.eq_ofNat_of_zero_le h0
 refine ⟨l[n]'(by omega), i', q', ?_, c, List.getElem_mem _⟩
 simp only [spec_l1PickInt.f, e, Option.bind_some]
 rw [if_pos h0, if_pos h1, rd_at (List.getElem?_eq_getElem (by omega))]
theorem l1PickInt_evp (b : List Int) (i q : Int) (l : List Int) (h : CurOk b i) (hl : 0 < l.length) : EvP (fun _ => spec_l1PickInt.f b i q l) (fun r => CurOk b r.2.1 ∧ r.1 ∈ l) := by
 obtain ⟨r, i', q', e, c, hm⟩ := l1PickInt_some b i q l h hl
 exact ⟨(r, i', q'), ev_some fun _ => e, c, hm⟩
def LoadOk (n : Nat) (l : List Int) : Prop := l.length ≤ n ∧ ∀ x ∈ l, 0 ≤ x ∧ x < 256
theorem l2DrawRight_evp (b : List Int) (i q : Int) (h : CurOk b i) : EvP (fun k => spec_l2DrawRight.f k b i q) (fun r => CurOk b r.2.2.2.2.1 ∧ LoadOk 4 r.2.2.2.1 ∧ (0 ≤ r.1 ∧ r.1 ≤ 4) ∧ (1 ≤ r.2.1 ∧ r.2.1 ≤ 4) ∧ (0 ≤ r.2.2.1 ∧ r.2.2.1 ≤ 2)) := by
 have key : ∀ (d n : Nat) (x y v : Int) (l : List Int) (i q : Int), n + d = 4 → CurOk b i → LoadOk n l → EvP (fun k => spec_l2DrawRight.l0 k (n : Int) b i q x y v l) (fun r => CurOk b r.2.2.2.2.1 ∧ LoadOk 4 r.2.2.2.1 ∧ r.1 = x ∧ r.2.1 = y ∧ r.2.2.1 = v) := by
  intro d
  induction d with
  | zero =>
   intro n x y v l i q hn hc hl
   refine EvP.succ ?_
   simp only [spec_l2DrawRight.l0]
   refine EvP.bind (l1Below_evp b i q 4 hc) (fun r hr => ?_)
   have := hr.2.2 (by omega)
   simp only [if_neg (show ¬ (n : Int) < r.1 by omega)]
   have e : n = 4 := by omega
   subst e
   exact EvP.now _ ⟨hr.1, hl, rfl, rfl, rfl⟩
  | succ d ih =>
   intro n x y v l i q hn hc hl
   refine EvP.succ ?_
   simp only [spec_l2DrawRight.l0]
   refine EvP.bind (l1Below_evp b i q 4 hc) (fun r hr => ?_)
   by_cases hlt : (n : Int) < r.1
   ·simp only [if_pos hlt]
    refine EvP.bind (l1Below_evp b _ _ 256 hr.1) (fun r1 h1 => ?_)
    have hl1 := hl.1
    simp only [if_pos (show l.length < 140737488355328 by omega), w64_succ (show (n : Int) < 4611686018427387904 by omega)]
    refine ih (n + 1) x y v _ _ _ (by omega) h1.1 ⟨by simp; omega, fun z hz => ?_⟩
    rcases List.mem_append.1 hz with hz | hz
    ·exact hl.2 z hz
    ·simp only [List.mem_cons, List.not_mem_nil, or_false] at hz
     subst hz
     omega
   ·simp only [if_neg hlt]
    exact EvP.now _ ⟨hr.1, ⟨by have := hl.1; dsimp only; omega, hl.2⟩, rfl, rfl, rfl⟩
 simp only [spec_l2DrawRight.f]
 refine EvP.bind (l1Below_evp b i q 5 h) (fun r0 h0 => ?_)
 refine EvP.bind (l1Below_evp b _ _ 4 h0.1) (fun r1 h1 => ?_)
 refine EvP.bind (l1Below_evp b _ _ 3 h1.1) (fun r2 h2 => ?_)
 have a0 := h0.2.2 (by omega)
 have a1 := h1.2.2 (by omega)
 have a2 := h2.2.2 (by omega)
 have b0 := h0.2.1
 have b1 := h1.2.1
 have b2 := h2.2.1
 refine EvP.imp (key 4 0 r0.1 (wrap64 (1 + r1.1)) r2.1 [] _ _ (by omega) h2.1 ⟨by simp, by simp⟩) (fun r hr => ?_)
 obtain ⟨p1, p2, p3, p4, p5⟩ := hr
 rw [w64 (by omega) (by omega)] at p4
 exact ⟨p1, p2, by omega, by omega, by omega⟩
theorem l2Draw_evp (b : List Int) (i q : Int) (h : CurOk b i) : EvP (fun k => spec_l2Draw.f k b i q) (fun r => CurOk b r.2.2.2.2.1 ∧ LoadOk 31 r.2.2.2.1) := by
 simp only [spec_l2Draw.f]
 refine EvP.bind (l2DrawRight_evp b i q h) (fun r hr => ?_)
 obtain ⟨hc, hl, _⟩ := hr
 have hl' : LoadOk 31 r.2.2.2.1 := ⟨by have := hl.1; omega, hl.2⟩
 refine EvP.bind (l1Below_evp b _ _ 10 hc) (fun r1 h1 => ?_)
 by_cases e0 : r1.1 = 0
 ·simp only [if_pos e0]
  refine EvP.bind (l1PickInt_evp b _ _ [-1, 9, 10] h1.1 (by simp)) (fun r2 h2 => ?_)
  exact EvP.now _ ⟨h2.1, hl'⟩
 simp only [if_neg e0]
 by_cases e1 : r1.1 = 1
 ·simp only [if_pos e1]
  refine EvP.bind (l1PickInt_evp b _ _ [0, 9, 10] h1.1 (by simp)) (fun r2 h2 => ?_)
  exact EvP.now _ ⟨h2.1, hl'⟩
 simp only [if_neg e1]
 by_cases e2 : r1.1 = 2
 ·simp only [if_pos e2]
  refine EvP.bind (l1PickInt_evp b _ _ [-1, 4, 5] h1.1 (by simp)) (fun r2 h2 => ?_)
  exact EvP.now _ ⟨h2.1, hl'⟩
 simp only [if_neg e2]
 by_cases e3 : r1.1 = 3
 ·simp only [if_pos e3]
  refine EvP.bind (l1Below_evp b _ _ 2 h1.1) (fun r2 h2 => ?_)
  have a0 := h2.2.1
  have a1 := h2.2.2 (by omega)
  rw [w64 (by omega) (by omega)]
  simp only [if_pos (show 0 ≤ 30 + r2.1 by omega), if_pos (show (30 + r2.1).toNat ≤ 281474976710656 by omega)]
  refine EvP.now _ ⟨h2.1, by simp; omega, fun x hx => ?_⟩
  rw [List.eq_of_mem_replicate hx]
  omega
 ·simp only [if_neg e3]
  exact EvP.now _ ⟨h1.1, hl'⟩
theorem l2Copy_eq (a b c : Int) (l : List Int) (h : l.length ≤ 4194304) : spec_l2Copy.f a b c l = some (a, b, c, l) := by
 simp only [spec_l2Copy.f, Option.bind_some, List.length_nil, List.nil_append]
 rw [if_pos (by omega)]
theorem l2Dent_evp (b : List Int) (i q : Int) (h : CurOk b i) (l : List Int) (hl : l.length ≤ 4194304) (hb : ∀ x ∈ l, 0 ≤ x ∧ x < 256) : EvP (fun _ => spec_l2Dent.f b i q l) (fun r => r.1.length ≤ l.length + 1 ∧ ∀ x ∈ r.1, 0 ≤ x ∧ x < 256) := by
 have ew : wrap64 ((l.length : Int) + 1) = (l.length : Int) + 1 := w64 (by omega) (by omega)
 obtain ⟨t, i1, q1, e1, c1, t0, t1⟩ := l1Below_some b i q ((l.length : Int) + 1) h
 obtain ⟨u, i2, q2, e2, c2, u0, u1⟩ := l1Below_some b i1 q1 5 c1
 have t1 := t1 (by omega)
 have htk : ∀ x ∈ l.take t.toNat, 0 ≤ x ∧ x < 256 := fun x hx => hb x (List.mem_of_mem_take hx)
 have hdr : ∀ x ∈ l.drop t.toNat, 0 ≤ x ∧ x < 256 := fun x hx => hb x (List.mem_of_mem_drop hx)
 have ltk : (l.take t.toNat).length = t.toNat := by rw [List.length_take]; omega
 have ldr : (l.drop t.toNat).length = l.length - t.toNat := List.length_drop ..
 simp only [spec_l2Dent.f, ew, e1, e2, Option.bind_some]
 by_cases h0 : u = 0
 ·simp only [if_pos h0, if_pos t0, if_pos (show t ≤ (l.length : Int) by omega)]
  exact EvP.now _ ⟨by dsimp only; omega, htk⟩
 simp only [if_neg h0]
 by_cases h1 : u = 1
 ·simp only [if_pos h1, spec_l2DentR.f, ew, e1, e2, Option.bind_some, if_neg h0, if_pos t0, if_pos (show t ≤ (l.length : Int) by omega), List.length_nil, List.nil_append, List.length_cons, ltk, ldr, if_pos (show 0 + t.toNat < 140737488355328 by omega)]
  refine EvP.bind (c := fun _ => spec_l1PickInt.f b i2 q2 [0, 1, 128, 3]) (l1PickInt_evp b _ _ [0, 1, 128, 3] c2 (by simp)) (fun r3 h3 => ?_)
  simp only [if_pos (show 0 + 1 + (l.length - t.toNat) < 140737488355328 by omega), List.length_append, List.length_cons, List.length_nil, ltk, ldr, if_pos (show t.toNat + (0 + 1 + (l.length - t.toNat)) < 140737488355328 by omega)]
  refine EvP.now _ ⟨by simp only [List.length_append, List.length_cons, List.length_nil, ltk, ldr]; omega, fun x hx => ?_⟩
  rcases List.mem_append.1 hx with hx | hx
  ·exact htk x hx
  ·rcases List.mem_append.1 hx with hx | hx
   ·simp only [List.mem_cons, List.not_mem_nil, or_false] at hx
    subst hx
    omega
   ·exact hdr x hx
 ·simp only [if_neg h1]
  exact EvP.now _ ⟨by dsimp only; omega, hb⟩
def frameOk (a b c : Int) (l : List Int) : Bool := decide (0 ≤ a ∧ a ≤ 9 ∧ 1 ≤ b ∧ b ≤ 9 ∧ 0 ≤ c ∧ c ≤ 4 ∧ l.length ≤ 30)
theorem frameOk_iff' (a b c : Int) (l : List Int) : frameOk a b c l = true ↔ 0 ≤ a ∧ a ≤ 9 ∧ 1 ≤ b ∧ b ≤ 9 ∧ 0 ≤ c ∧ c ≤ 4 ∧ l.length ≤ 30 := by simp [frameOk]
def sumM (x y : Int) : List Int → Int
 | [] => y * 65536 + x
 | b :: t => sumM ((x + b) % 65521) ((y + (x + b) % 65521) % 65521) t
def sumOf (l : List Int) : Int := sumM 1 0 l
theorem sumM_range : ∀ (l : List Int) (x y : Int), 0 ≤ x → x < 65521 → 0 ≤ y → y < 65521 → 0 ≤ sumM x y l ∧ sumM x y l < 4294967296 := by
 intro l
 induction l with
 | nil => intro x y h0 h1 h2 h3; simp only [sumM]; omega
 | cons b t ih => intro x y h0 h1 h2 h3; simp only [sumM]; exact ih _ _ (by omega) (by omega) (by omega) (by omega)
theorem sumOf_range (l : List Int) : 0 ≤ sumOf l ∧ sumOf l < 4294967296 := sumM_range l 1 0 (by omega) (by omega) (by omega) (by omega)
def four (s : Int) : List Int := [s % 256, s / 256 % 256, s / 65536 % 256, s / 16777216 % 256]
theorem four_bytes (s : Int) : ∀ x ∈ four s, 0 ≤ x ∧ x < 256 := by
 intro x hx
 simp only [four, List.mem_cons, List.not_mem_nil, or_false] at hx
 omega
def summedM (l : List Int) : List Int := l ++ four (sumOf l)
def putM (n : Nat) : List Int := if n > 127 then (((n % 128 + 128 : Nat) : Int)) :: putM (n / 128) else [(n : Int)]
termination_by n
decreasing_by omega
theorem putM_length (n : Nat) : (putM n).length ≤ n + 1 := by
 induction n using Nat.strongRecOn with
 | ind n ih =>
  rw [putM]
  split
  ·have := ih (n / 128) (by omega)
   simp
   omega
  ·simp
theorem putM_bytes (n : Nat) : ∀ x ∈ putM n, 0 ≤ x ∧ x < 256 := by
 induction n using Nat.strongRecOn with
 | ind n ih =>
  rw [putM]
  split
  ·intro x hx
   rcases List.mem_cons.1 hx with rfl | hx
   ·omega
   ·exact ih (n / 128) (by omega) x hx
  ·intro x hx
   simp at hx
   omega
def putNum (n : Int) : List Int := if 0 ≤ n ∧ n ≤ 2147483647 then putM n.toNat else []
theorem putM_short (n : Nat) (h : n ≤ 2147483647) : (putM n).length ≤ 5 := by
 have h1 : ∀ m, m ≤ 127 → (putM m).length = 1 := by
  intro m hm
  rw [putM, if_neg (by omega)]
  rfl
 have st : ∀ m b c, (∀ m', m' ≤ b → (putM m').length ≤ c) → m / 128 ≤ b → (putM m).length ≤ c + 1 := by
  intro m b c hh hm
  rw [putM]
  split
  ·have := hh _ hm
   simp
   omega
  ·simp
 have a1 : ∀ m, m ≤ 127 → (putM m).length ≤ 1 := fun m hm => by rw [h1 m hm]; omega
 have a2 : ∀ m, m ≤ 16383 → (putM m).length ≤ 2 := fun m hm => st m 127 1 a1 (by omega)
 have a3 : ∀ m, m ≤ 2097151 → (putM m).length ≤ 3 := fun m hm => st m 16383 2 a2 (by omega)
 have a4 : ∀ m, m ≤ 268435455 → (putM m).length ≤ 4 := fun m hm => st m 2097151 3 a3 (by omega)
 exact st n 268435455 4 a4 (by omega)
theorem putNum_short (n : Int) : (putNum n).length ≤ 5 := by
 unfold putNum
 split
 ·exact putM_short _ (by omega)
 ·simp
theorem putNum_bytes (n : Int) : ∀ x ∈ putNum n, 0 ≤ x ∧ x < 256 := by
 unfold putNum
 split
 ·exact putM_bytes _
 ·simp
def frameBytesM (a b c : Int) (l : List Int) : List Int := if frameOk a b c l then summedM ([a, b, c] ++ putNum l.length ++ l) else []
theorem frameOk_iff (a b c : Int) (l : List Int) : frameOk a b c l = true ↔ 0 ≤ a ∧ a ≤ 9 ∧ 1 ≤ b ∧ b ≤ 9 ∧ 0 ≤ c ∧ c ≤ 4 ∧ l.length ≤ 30 := by simp [frameOk]
theorem frame_body_bytes (a b c : Int) (l : List Int) (h : frameOk a b c l = true) (hb : ∀ x ∈ l, 0 ≤ x ∧ x < 256) : ∀ x ∈ [a, b, c] ++ putNum l.length ++ l, 0 ≤ x ∧ x < 256 := by
 have hf := (frameOk_iff a b c l).1 h
 intro x hx
 rcases List.mem_append.1 hx with hx | hx
 ·rcases List.mem_append.1 hx with hx | hx
  ·simp only [List.mem_cons, List.not_mem_nil, or_false] at hx
   omega
  ·exact putNum_bytes _ x hx
 ·exact hb x hx
theorem frameBytesM_length (a b c : Int) (l : List Int) : (frameBytesM a b c l).length ≤ 42 := by
 unfold frameBytesM
 split
 ·rename_i h
  have hf := (frameOk_iff a b c l).1 h
  have := putNum_short (l.length : Int)
  simp [summedM, four]
  omega
 ·simp
theorem inRange_eq (x lo hi : Int) : impl_inRange.f x lo hi = some (decide (lo ≤ x ∧ x ≤ hi)) := by
 simp only [impl_inRange.f]
 by_cases h : lo ≤ x
 ·rw [if_pos h]; simp [h]
 ·rw [if_neg h]; simp [h]
theorem isAddr_eq (x : Int) : impl_isAddr.f x = some (decide (1 ≤ x ∧ x ≤ 9)) := by simp [impl_isAddr.f, inRange_eq]
theorem implFrameOk_eq (a b c : Int) (l : List Int) : impl_FrameOk.f a b c l = some (frameOk a b c l) := by
 simp only [impl_FrameOk.f, inRange_eq, isAddr_eq, Option.bind_some, frameOk]
 by_cases h1 : 0 ≤ a ∧ a ≤ 9 <;> by_cases h2 : 1 ≤ b ∧ b ≤ 9 <;> by_cases h3 : 0 ≤ c ∧ c ≤ 4 <;> by_cases h4 : l.length ≤ 30 <;> simp [h1, h2, h3, h4] <;> omega
def putNumsM (l : List Int) : List Int := l.flatMap putNum
theorem putNumsM_length (l : List Int) : (putNumsM l).length ≤ 5 * l.length := by
 induction l with
 | nil => simp [putNumsM]
 | cons x t ih =>
  have h1 := putNum_short x
  simp only [putNumsM, List.flatMap_cons, List.length_append, List.length_cons] at *
  omega
theorem putNumsM_bytes (l : List Int) : ∀ x ∈ putNumsM l, 0 ≤ x ∧ x < 256 := by
 intro x hx
 obtain ⟨n, _, hn⟩ := List.mem_flatMap.1 hx
 exact putNum_bytes n x hn
theorem implPutNum_l (n : Nat) (acc : List Int) (h : acc.length + n ≤ 70368744177664) (hn : n ≤ 2147483647) : Ev (fun k => impl_PutNum.l0 k (n : Int) acc) (acc ++ putM n) := by
 induction n using Nat.strongRecOn generalizing acc with
 | ind n ih =>
  by_cases hb : n > 127
  ·have := ih (n / 128) (by omega) (acc ++ [((n % 128 + 128 : Nat) : Int)]) (by simp; omega) (by omega)
   rw [putM, if_pos hb]
   rw [List.append_assoc] at this
   refine Ev.step (fun k => ?_) this
   simp only [impl_PutNum.l0]
   rw [if_pos (by omega), if_pos (by omega), Int.tmod_eq_emod_of_nonneg (by omega), w64 (x := 128 + (n : Int) % 128) (by omega) (by omega), Int.tdiv_eq_ediv_of_nonneg (by omega), w64 (by omega) (by omega)]
   congr 2
   congr 1
   omega
  ·rw [putM, if_neg hb]
   refine ev_end fun k => ?_
   simp only [impl_PutNum.l0]
   rw [if_neg (by omega), if_pos (by omega), Int.emod_eq_of_lt (by omega) (by omega)]
theorem implPutNum_ev (n : Int) : Ev (fun k => impl_PutNum.f k n) (putNum n) := by
 by_cases h : 0 ≤ n ∧ n ≤ 2147483647
 ·obtain ⟨m, rfl⟩ := Int.eq_ofNat_of_zero_le h.1
  have := implPutNum_l m [] (by simp; omega) (by omega)
  refine Ev.congr (fun k => ?_) (by simpa [putNum, h] using this)
  simp [impl_PutNum.f, inRange_eq, h]
 ·refine ev_some fun k => ?_
  simp [impl_PutNum.f, inRange_eq, h, putNum]
theorem implPutNums_ev (b l : List Int) (h : l.length ≤ 4194304) (hb : b.length ≤ 4194304) : Ev (fun k => impl_putNums.f k b l) (b ++ putNumsM l) := by
 have := ev_list l (fun k (acc : List Int) i => impl_putNums.l0 k acc l (l.length : Int) i) (fun acc t => acc ++ putNumsM t) (fun i acc => acc.length ≤ b.length + 5 * i)
  (fun acc hI => ev_end fun k => by simp only [impl_putNums.l0]; rw [if_neg (by omega)]; simp [putNumsM])
  (fun i acc x t hI hi _ hx ih => by
   have hs := putNum_short x
   have e : acc ++ putNumsM (x :: t) = (acc ++ putNum x) ++ putNumsM t := by simp [putNumsM]
   rw [e]
   refine Ev.step (f := fun k => (impl_PutNum.f k x).bind fun t169 => (if acc.length + t169.length < 140737488355328 then (impl_putNums.l0 k (acc ++ t169) l (l.length : Int) ((i + 1 : Nat) : Int)) else (none))) (fun k => ?_) (Ev.bind (implPutNum_ev x) ?_)
   ·simp only [impl_putNums.l0]
    rw [if_pos (by omega), if_pos (by omega), if_pos (by omega), rd_at hx, w64_succ (by omega)]
   ·refine Ev.congr (fun k => ?_) (ih (acc ++ putNum x) (by simp; omega))
    rw [if_pos (by omega)])
  b (by omega)
 simpa [impl_putNums.f] using this
theorem implSumOf_ev (l : List Int) (h : l.length ≤ 4194304) (hb : ∀ x ∈ l, 0 ≤ x ∧ x < 256) : Ev (fun k => impl_SumOf.f k l) (sumOf l) := by
 have hh := ev_list l (fun k (s : Int × Int) i => impl_SumOf.l0 k s.1 s.2 l (l.length : Int) i) (fun s t => sumM s.1 s.2 t) (fun _ s => 0 ≤ s.1 ∧ s.1 < 65521 ∧ 0 ≤ s.2 ∧ s.2 < 65521)
  (fun s hI => by
   obtain ⟨x, y⟩ := s
   obtain ⟨a1, a2, a3, a4⟩ := hI
   dsimp only at a1 a2 a3 a4 ⊢
   refine ev_end fun k => ?_
   simp only [impl_SumOf.l0]
   rw [if_neg (by omega), w64 (x := y * 65536) (by omega) (by omega), w64 (by omega) (by omega)]
   rfl)
  (fun i s b t hI hi _ hx ih => by
   obtain ⟨x, y⟩ := s
   obtain ⟨a1, a2, a3, a4⟩ := hI
   dsimp only at a1 a2 a3 a4 ih ⊢
   have hbb := hb b (List.mem_of_getElem? hx)
   refine Ev.step (fun k => ?_) (ih ((x + b) % 65521, (y + (x + b) % 65521) % 65521) ⟨by dsimp only; omega, by dsimp only; omega, by dsimp only; omega, by dsimp only; omega⟩)
   simp only [impl_SumOf.l0]
   rw [if_pos (by omega), if_pos (by omega), if_pos (by omega), rd_at hx, w64_succ (by omega), w64 (x := b) (by omega) (by omega), w64 (x := x + b) (by omega) (by omega), Int.tmod_eq_emod_of_nonneg (by omega), w64 (by omega) (by omega), Int.tmod_eq_emod_of_nonneg (by omega)])
  (1, 0) ⟨by simp, by simp, by simp, by simp⟩
 exact hh
theorem implSummed_ev (l : List Int) (h : l.length ≤ 4194304) (hb : ∀ x ∈ l, 0 ≤ x ∧ x < 256) : Ev (fun k => impl_summed.f k l) (summedM l) := by
 simp only [impl_summed.f]
 refine Ev.bind (implSumOf_ev l h hb) (ev_some fun k => ?_)
 simp only [Option.bind_some, List.length_cons, List.length_nil]
 rw [if_pos (by omega)]
 rfl
theorem implFrameBytes_ev (a b c : Int) (l : List Int) (hb : ∀ x ∈ l, 0 ≤ x ∧ x < 256) : Ev (fun k => impl_FrameBytes.f k a b c l) (frameBytesM a b c l) := by
 simp only [impl_FrameBytes.f, implFrameOk_eq, Option.bind_some, frameBytesM]
 by_cases h : frameOk a b c l = true
 ·have hf := (frameOk_iff a b c l).1 h
  have hs := putNum_short (l.length : Int)
  have hy := frame_body_bytes a b c l h hb
  simp only [h, if_true]
  rw [Int.emod_eq_of_lt (a := a) (by omega) (by omega), Int.emod_eq_of_lt (a := b) (by omega) (by omega), Int.emod_eq_of_lt (a := c) (by omega) (by omega)]
  refine Ev.bind (implPutNums_ev [a, b, c] [(l.length : Int)] (by simp) (by simp)) ?_
  have e : [a, b, c] ++ putNumsM [(l.length : Int)] = [a, b, c] ++ putNum (l.length : Int) := by simp [putNumsM]
  rw [e]
  have e2 : ([a, b, c] ++ putNum (l.length : Int)).length + l.length < 140737488355328 := by simp; omega
  simp only [e2, if_true]
  exact Ev.bind (implSummed_ev _ (by simp; omega) hy) (ev_some fun k => rfl)
 ·refine ev_some fun k => ?_
  simp [h]
theorem l1In_eq (x lo hi : Int) : spec_l1In.f x lo hi = some (decide (lo ≤ x ∧ x ≤ hi)) := by
 simp only [spec_l1In.f]
 by_cases h : lo ≤ x
 ·rw [if_pos h]; simp [h]
 ·rw [if_neg h]; simp [h]
theorem specFrameOk_eq (a b c : Int) (l : List Int) : spec_FrameOk.f a b c l = some (frameOk a b c l) := by
 simp only [spec_FrameOk.f, l1In_eq, Option.bind_some, frameOk]
 by_cases h1 : 0 ≤ a ∧ a ≤ 9 <;> by_cases h2 : 1 ≤ b ∧ b ≤ 9 <;> by_cases h3 : 0 ≤ c ∧ c ≤ 4 <;> by_cases h4 : l.length ≤ 30 <;> simp [h1, h2, h3, h4] <;> omega
theorem specPutNum_l (n : Nat) (acc : List Int) (h : acc.length + n ≤ 70368744177664) (hn : n ≤ 2147483647) : Ev (fun k => spec_PutNum.l0 k (n : Int) acc) (acc ++ putM n) := by
 induction n using Nat.strongRecOn generalizing acc with
 | ind n ih =>
  by_cases hb : n > 127
  ·have := ih (n / 128) (by omega) (acc ++ [((n % 128 + 128 : Nat) : Int)]) (by simp; omega) (by omega)
   rw [putM, if_pos hb]
   rw [List.append_assoc] at this
   refine Ev.step (fun k => ?_) this
   simp only [spec_PutNum.l0]
   rw [if_pos (by omega), if_pos (by omega), Int.tmod_eq_emod_of_nonneg (by omega), w64 (x := (n : Int) % 128 + 128) (by omega) (by omega), Int.tdiv_eq_ediv_of_nonneg (by omega), w64 (by omega) (by omega)]
   congr 2
   congr 1
   omega
  ·rw [putM, if_neg hb]
   refine ev_end fun k => ?_
   simp only [spec_PutNum.l0]
   rw [if_neg (by omega), if_pos (by omega), Int.emod_eq_of_lt (by omega) (by omega)]
theorem specPutNum_ev (n : Int) : Ev (fun k => spec_PutNum.f k n) (putNum n) := by
 by_cases h : 0 ≤ n ∧ n ≤ 2147483647
 ·obtain ⟨m, rfl⟩ := Int.eq_ofNat_of_zero_le h.1
  have := specPutNum_l m [] (by simp; omega) (by omega)
  refine Ev.congr (fun k => ?_) (by simpa [putNum, h] using this)
  simp [spec_PutNum.f, l1In_eq, h]
 ·refine ev_some fun k => ?_
  simp [spec_PutNum.f, l1In_eq, h, putNum]
theorem specSumOf_ev (l : List Int) (h : l.length ≤ 4194304) (hb : ∀ x ∈ l, 0 ≤ x ∧ x < 256) : Ev (fun k => spec_SumOf.f k l) (sumOf l) := by
 have hh := ev_list l (fun k (s : Int × Int) i => spec_SumOf.l0 k l s.1 s.2 i) (fun s t => sumM s.1 s.2 t) (fun _ s => 0 ≤ s.1 ∧ s.1 < 65521 ∧ 0 ≤ s.2 ∧ s.2 < 65521)
  (fun s hI => by
   obtain ⟨x, y⟩ := s
   obtain ⟨a1, a2, a3, a4⟩ := hI
   dsimp only at a1 a2 a3 a4 ⊢
   refine ev_end fun k => ?_
   simp only [spec_SumOf.l0]
   rw [if_neg (by omega), w64 (x := y * 65536) (by omega) (by omega), w64 (by omega) (by omega)]
   rfl)
  (fun i s b t hI hi _ hx ih => by
   obtain ⟨x, y⟩ := s
   obtain ⟨a1, a2, a3, a4⟩ := hI
   dsimp only at a1 a2 a3 a4 ih ⊢
   have hbb := hb b (List.mem_of_getElem? hx)
   refine Ev.step (fun k => ?_) (ih ((x + b) % 65521, (y + (x + b) % 65521) % 65521) ⟨by dsimp only; omega, by dsimp only; omega, by dsimp only; omega, by dsimp only; omega⟩)
   simp only [spec_SumOf.l0]
   rw [if_pos (by omega), if_pos (by omega), rd_at hx, w64_succ (by omega), w64 (x := b) (by omega) (by omega), w64 (x := x + b) (by omega) (by omega), Int.tmod_eq_emod_of_nonneg (by omega), w64 (by omega) (by omega), Int.tmod_eq_emod_of_nonneg (by omega)])
  (1, 0) ⟨by simp, by simp, by simp, by simp⟩
 exact hh
theorem i64_wraps' (n : Int) (h0 : 0 ≤ n) (h1 : n < 2 ^ 62) : IntKind.i64.wrap n = n := by
 rw [IntKind.wrap_i64]
 omega
theorem and_255 (x : Int) (h0 : 0 ≤ x) (h1 : x < 4294967296) : Go.bits .and .i64 x 255 = x % 256 := by
 have := Go.bits_mask .i64 62 (by decide) i64_wraps' 8 (by decide) x h0 (by omega)
 simpa using this
theorem l2Sum_eq (s : Int) (h0 : 0 ≤ s) (h1 : s < 4294967296) : spec_l2Sum.f s = some (four s) := by
 simp only [spec_l2Sum.f, four]
 rw [and_255 s h0 h1, and_255 (s / 256) (by omega) (by omega), and_255 (s / 65536) (by omega) (by omega), and_255 (s / 16777216) (by omega) (by omega)]
 simp
theorem specFrameBytes_ev (a b c : Int) (l : List Int) (hb : ∀ x ∈ l, 0 ≤ x ∧ x < 256) : Ev (fun k => spec_FrameBytes.f k a b c l) (frameBytesM a b c l) := by
 simp only [spec_FrameBytes.f, specFrameOk_eq, Option.bind_some, frameBytesM]
 by_cases h : frameOk a b c l = true
 ·have hf := (frameOk_iff a b c l).1 h
  have hs := putNum_short (l.length : Int)
  have hy := frame_body_bytes a b c l h hb
  simp only [h, if_true]
  refine Ev.bind (specPutNum_ev _) ?_
  rw [Int.emod_eq_of_lt (a := a) (by omega) (by omega), Int.emod_eq_of_lt (a := b) (by omega) (by omega), Int.emod_eq_of_lt (a := c) (by omega) (by omega)]
  have e1 : [a, b, c].length + (putNum (l.length : Int)).length < 140737488355328 := by simp; omega
  have e2 : ([a, b, c] ++ putNum (l.length : Int)).length + l.length < 140737488355328 := by simp; omega
  have e3 : ∀ s, ([a, b, c] ++ putNum (l.length : Int) ++ l).length + (four s).length < 140737488355328 := by intro s; simp [four]; omega
  simp only [e1, e2, if_true]
  refine Ev.bind (specSumOf_ev _ (by simp; omega) hy) (ev_some fun k => ?_)
  rw [l2Sum_eq _ (sumOf_range _).1 (sumOf_range _).2]
  simp only [Option.bind_some]
  rw [if_pos (e3 _)]
  rfl
 ·refine ev_some fun k => ?_
  simp [h]
def getM : Nat → Int → List Int → Option (Int × Nat)
 | _, _, [] => none
 | i, n, x :: t => if i < 5 then
   (if x < 128 then (if x = 0 ∧ 0 < i ∨ n + x % 128 * 128 ^ i > 2147483647 then none else some (n + x % 128 * 128 ^ i, i + 1)) else getM (i + 1) (n + x % 128 * 128 ^ i) t)
  else none
def getNum (l : List Int) (at_ : Int) : Int × Int × Bool :=
 if at_ < 0 then (0, 0, false) else match getM 0 0 (l.drop at_.toNat) with
  | none => (0, 0, false)
  | some (n, c) => (n, at_ + c, true)
theorem i64_wraps (n : Int) (h0 : 0 ≤ n) (h1 : n < 2 ^ 62) : IntKind.i64.wrap n = n := by
 rw [IntKind.wrap_i64]
 omega
theorem or_comm64 (a b : Int) : Go.bits .or .i64 a b = Go.bits .or .i64 b a := by simp only [Go.bits, BitVec.or_comm]
theorem or_join (i : Nat) (n d : Int) (hi : i < 5) (h0 : 0 ≤ n) (h1 : n < 128 ^ i) (h2 : 0 ≤ d) (h3 : d < 128) :
  Go.bits .or .i64 n (shl .i64 d (7 * (i : Int))) = n + d * 128 ^ i := by
 have key : ∀ j : Nat, j ≤ 28 → n < 2 ^ j → (2 : Int) ^ j ≤ 268435456 → Go.bits .or .i64 n (IntKind.i64.wrap (d * 2 ^ j)) = n + d * 2 ^ j := by
  intro j hj hn hp
  have hp0 : (0 : Int) < 2 ^ j := Int.pow_pos (by decide)
  have hd0 : 0 ≤ d * 2 ^ j := Int.mul_nonneg h2 (Int.le_of_lt hp0)
  have hd1 : d * 2 ^ j ≤ 127 * 268435456 := by
   calc d * 2 ^ j ≤ 127 * 2 ^ j := Int.mul_le_mul_of_nonneg_right (by omega) (Int.le_of_lt hp0)
    _ ≤ 127 * 268435456 := Int.mul_le_mul_of_nonneg_left hp (by decide)
  rw [i64_wraps _ hd0 (by omega), or_comm64, Go.bits_join .i64 62 (by decide) i64_wraps j _ _ hd0 (Int.mul_emod_left _ _) (by omega) h0 hn (by omega)]
  omega
 match i, hi with
 | 0, _ => have := key 0 (by decide) (by simpa using h1) (by decide); simpa [shl, IntKind.bits] using this
 | 1, _ => have := key 7 (by decide) (by simpa using h1) (by decide); simpa [shl, IntKind.bits] using this
 | 2, _ => have := key 14 (by decide) (by simpa using h1) (by decide); simpa [shl, IntKind.bits] using this
 | 3, _ => have := key 21 (by decide) (by simpa using h1) (by decide); simpa [shl, IntKind.bits] using this
 | 4, _ => have := key 28 (by decide) (by simpa using h1) (by decide); simpa [shl, IntKind.bits] using this
theorem and_127 (x : Int) (h0 : 0 ≤ x) (h1 : x < 256) : Go.bits .and .i64 x 127 = x % 128 := by
 have := Go.bits_mask .i64 62 (by decide) i64_wraps 7 (by decide) x h0 (by omega)
 simpa using this
theorem pow_step (i : Nat) (n d : Int) (h0 : 0 ≤ n) (h1 : n < 128 ^ i) (h2 : 0 ≤ d) (h3 : d < 128) : 0 ≤ n + d * 128 ^ i ∧ n + d * 128 ^ i < 128 ^ (i + 1) := by
 have hp : (0 : Int) < 128 ^ i := Int.pow_pos (by decide)
 have a : 0 ≤ d * 128 ^ i := Int.mul_nonneg h2 (Int.le_of_lt hp)
 have b : d * 128 ^ i ≤ 127 * 128 ^ i := Int.mul_le_mul_of_nonneg_right (by omega) (Int.le_of_lt hp)
 rw [Int.pow_succ]
 omega
theorem pow128 (i : Nat) : (0 : Int) < 128 ^ i := Int.pow_pos (by decide)
theorem getM_some : ∀ (l : List Int) (i : Nat) (acc : Int) (n : Int) (c : Nat), 0 ≤ acc → (∀ x ∈ l, 0 ≤ x ∧ x < 256) → getM i acc l = some (n, c) → 0 ≤ n ∧ n ≤ 2147483647 ∧ i < c ∧ c ≤ i + l.length ∧ c ≤ 5 := by
 intro l
 induction l with
 | nil => intro i acc n c _ _ h; simp [getM] at h
 | cons x t ih =>
  intro i acc n c h0 hb h
  have hx := hb x (by simp)
  have hp : 0 ≤ x % 128 * 128 ^ i := Int.mul_nonneg (by omega) (Int.le_of_lt (pow128 i))
  rw [getM] at h
  by_cases h5 : i < 5
  ·rw [if_pos h5] at h
   by_cases h128 : x < 128
   ·rw [if_pos h128] at h
    split at h
    ·cases h
    ·rename_i hn
     injection h with h
     injection h with h1 h2
     subst h1
     subst h2
     refine ⟨by omega, by omega, by omega, by simp, by omega⟩
   ·rw [if_neg h128] at h
    have := ih (i + 1) (acc + x % 128 * 128 ^ i) n c (by omega) (fun y hy => hb y (by simp [hy])) h
    simp only [List.length_cons]
    omega
  ·rw [if_neg h5] at h
   cases h
theorem byte_inj {x y : Int} (hx : 0 ≤ x ∧ x < 256) (hy : 0 ≤ y ∧ y < 256) (h : UInt8.ofNat x.toNat = UInt8.ofNat y.toNat) : x = y := by
 have := congrArg UInt8.toNat h
 simp only [UInt8.toNat_ofNat'] at this
 omega
theorem strOfNums_inj : ∀ (a b : List Int), (∀ x ∈ a, 0 ≤ x ∧ x < 256) → (∀ x ∈ b, 0 ≤ x ∧ x < 256) → (strOfNums a).toList = (strOfNums b).toList → a = b := by
 intro a b ha hb h
 rw [Lib.toList_data, Lib.toList_data] at h
 simp only [strOfNums] at h
 have key : ∀ (a b : List Int), (∀ x ∈ a, 0 ≤ x ∧ x < 256) → (∀ x ∈ b, 0 ≤ x ∧ x < 256) → a.map (fun x => UInt8.ofNat x.toNat) = b.map (fun x => UInt8.ofNat x.toNat) → a = b := by
  intro a
  induction a with
  | nil =>
   intro b _ _ h
   cases b with
   | nil => rfl
   | cons y t => simp at h
  | cons x t ih =>
   intro b ha hb h
   cases b with
   | nil => simp at h
   | cons y u =>
    simp only [List.map_cons, List.cons.injEq] at h
    rw [byte_inj (ha x (by simp)) (hb y (by simp)) h.1, ih u (fun z hz => ha z (by simp [hz])) (fun z hz => hb z (by simp [hz])) h.2]
 exact key a b ha hb (by simpa using h)
theorem summedM_bytes (l : List Int) (h : ∀ x ∈ l, 0 ≤ x ∧ x < 256) : ∀ x ∈ summedM l, 0 ≤ x ∧ x < 256 := by
 intro x hx
 rcases List.mem_append.1 hx with hx | hx
 ·exact h x hx
 ·exact four_bytes _ x hx
theorem getM_putM (m : Nat) : ∀ (i : Nat) (acc : Int) (t : List Int), 0 ≤ acc → i + (putM m).length ≤ 5 → (0 < i → m ≠ 0) → acc + (m : Int) * 128 ^ i ≤ 2147483647 → getM i acc (putM m ++ t) = some (acc + (m : Int) * 128 ^ i, i + (putM m).length) := by
 induction m using Nat.strongRecOn with
 | ind m ih =>
  intro i acc t h0 h5 hz hn
  rw [putM] at h5 ⊢
  by_cases hb : m > 127
  ·rw [if_pos hb] at h5 ⊢
   simp only [List.length_cons] at h5 ⊢
   have hp := pow128 i
   have e : (m : Int) * 128 ^ i = ((m % 128 : Nat) : Int) * 128 ^ i + ((m / 128 : Nat) : Int) * 128 ^ (i + 1) := by
    have hm : (m : Int) = ((m % 128 : Nat) : Int) + ((m / 128 : Nat) : Int) * 128 := by omega
    conv => lhs; rw [hm]
    rw [Int.pow_succ, Int.add_mul, Int.mul_assoc, Int.mul_comm 128 (128 ^ i)]
   have hq : 0 ≤ ((m % 128 : Nat) : Int) * 128 ^ i := Int.mul_nonneg (by omega) (Int.le_of_lt hp)
   have r := ih (m / 128) (by omega) (i + 1) (acc + ((m % 128 : Nat) : Int) * 128 ^ i) t (by omega) (by omega) (fun _ => by omega) (by rw [e] at hn; omega)
   rw [List.cons_append, getM, if_pos (by omega), if_neg (by omega)]
   have em : (((m % 128 + 128 : Nat) : Int)) % 128 = ((m % 128 : Nat) : Int) := by omega
   rw [em, r, e]
   simp only [Option.some.injEq, Prod.mk.injEq]
   constructor <;> omega
  ·rw [if_neg hb] at h5 ⊢
   simp only [List.length_cons, List.length_nil] at h5 ⊢
   rw [List.cons_append, getM, if_pos (by omega), if_pos (by omega)]
   have em : (m : Int) % 128 = (m : Int) := by omega
   rw [em, if_neg (by omega)]
theorem putNum_nat (n : Int) (h0 : 0 ≤ n) (h1 : n ≤ 2147483647) : putNum n = putM n.toNat := by
 unfold putNum
 rw [if_pos ⟨h0, h1⟩]
theorem getNum_body (a b c n : Int) (t : List Int) (h0 : 0 ≤ n) (h1 : n ≤ 2147483647) : getNum ([a, b, c] ++ putNum n ++ t) 3 = (n, 3 + ((putNum n).length : Int), true) := by
 have hs := putNum_short n
 have e := getM_putM n.toNat 0 0 t (by omega) (by rw [← putNum_nat n h0 h1]; omega) (by omega) (by simp; omega)
 unfold getNum
 rw [if_neg (by omega)]
 have ed : ([a, b, c] ++ putNum n ++ t).drop (3 : Int).toNat = putM n.toNat ++ t := by
  rw [putNum_nat n h0 h1]
  simp
 rw [ed, e]
 have en : ((n.toNat : Nat) : Int) = n := by omega
 simp [putNum_nat n h0 h1, en]
theorem getNum_ok (l : List Int) (hb : ∀ x ∈ l, 0 ≤ x ∧ x < 256) (h : (getNum l 3).2.2 = true) : 0 ≤ (getNum l 3).1 ∧ (getNum l 3).1 ≤ 2147483647 ∧ 4 ≤ (getNum l 3).2.1 ∧ (getNum l 3).2.1 ≤ l.length ∧ 3 < l.length := by
 unfold getNum at h ⊢
 rw [if_neg (by omega)] at h ⊢
 have hd : ∀ x ∈ l.drop (3 : Int).toNat, 0 ≤ x ∧ x < 256 := fun x hx => hb x (List.mem_of_mem_drop hx)
 cases e : getM 0 0 (l.drop (3 : Int).toNat) with
 | none => rw [e] at h; cases h
 | some p =>
  obtain ⟨n, c⟩ := p
  have := getM_some _ 0 0 n c (by omega) hd e
  have el : (l.drop (3 : Int).toNat).length = l.length - 3 := by simp
  rw [e] at h
  rw [el] at this
  dsimp only
  omega
def cutM (l : List Int) (a n : Int) : List Int := (l.take (a + n).toNat).drop a.toNat
def frameOfM (l : List Int) : Int × Int × Int × List Int × Bool :=
 if (getNum l 3).2.2 = true ∧ (getNum l 3).1 = (l.length : Int) - (getNum l 3).2.1 - 4 ∧ frameBytesM (rd l 0) (rd l 1) (rd l 2) (cutM l (getNum l 3).2.1 (getNum l 3).1) = l then
  (rd l 0, rd l 1, rd l 2, cutM l (getNum l 3).2.1 (getNum l 3).1, true)
 else (0, 0, 0, [], false)
theorem frameBytesM_bytes (a b c : Int) (l : List Int) (hb : ∀ x ∈ l, 0 ≤ x ∧ x < 256) : ∀ x ∈ frameBytesM a b c l, 0 ≤ x ∧ x < 256 := by
 unfold frameBytesM
 split
 ·rename_i h
  exact summedM_bytes _ (frame_body_bytes a b c l h hb)
 ·simp
theorem cut_bytes (l : List Int) (a n : Int) (hb : ∀ x ∈ l, 0 ≤ x ∧ x < 256) : ∀ x ∈ cutM l a n, 0 ≤ x ∧ x < 256 := fun x hx => hb x (List.mem_of_mem_take (List.mem_of_mem_drop hx))
theorem cut_length (l : List Int) (a n : Int) (h0 : 0 ≤ a) (h1 : 0 ≤ n) (h2 : a + n ≤ l.length) : ((cutM l a n).length : Int) = n := by
 simp only [cutM, List.length_drop, List.length_take]
 omega
theorem frameOf_tests (l : List Int) (hb : ∀ x ∈ l, 0 ≤ x ∧ x < 256) (h : (getNum l 3).2.2 = true) :
  ((getNum l 3).1 ≤ 30 ∧ (getNum l 3).1 ≤ (l.length : Int) - (getNum l 3).2.1 ∧ frameOk (rd l 0) (rd l 1) (rd l 2) (cutM l (getNum l 3).2.1 (getNum l 3).1) = true ∧ frameBytesM (rd l 0) (rd l 1) (rd l 2) (cutM l (getNum l 3).2.1 (getNum l 3).1) = l) ↔
  ((getNum l 3).1 = (l.length : Int) - (getNum l 3).2.1 - 4 ∧ frameBytesM (rd l 0) (rd l 1) (rd l 2) (cutM l (getNum l 3).2.1 (getNum l 3).1) = l) := by
 obtain ⟨g0, g1, g2, g3, g4⟩ := getNum_ok l hb h
 constructor
 ·rintro ⟨h1, h2, h3, h4⟩
  refine ⟨?_, h4⟩
  have hc := cut_length l (getNum l 3).2.1 (getNum l 3).1 (by omega) g0 (by omega)
  have h5 := h4
  unfold frameBytesM at h5
  rw [if_pos h3] at h5
  unfold summedM at h5
  have hl := congrArg List.length h5
  have hg := getNum_body (rd l 0) (rd l 1) (rd l 2) (getNum l 3).1 (cutM l (getNum l 3).2.1 (getNum l 3).1 ++ four (sumOf ([rd l 0, rd l 1, rd l 2] ++ putNum ((cutM l (getNum l 3).2.1 (getNum l 3).1).length : Int) ++ cutM l (getNum l 3).2.1 (getNum l 3).1))) g0 g1
  rw [hc] at h5 hl hg
  rw [← List.append_assoc, h5] at hg
  have e2 := congrArg (fun z => z.2.1) hg
  dsimp only at e2
  simp only [List.length_append, List.length_cons, List.length_nil, four] at hl
  omega
 ·rintro ⟨h1, h2⟩
  have hc := cut_length l (getNum l 3).2.1 (getNum l 3).1 (by omega) g0 (by omega)
  have h3 : frameOk (rd l 0) (rd l 1) (rd l 2) (cutM l (getNum l 3).2.1 (getNum l 3).1) = true := by
   by_cases hf : frameOk (rd l 0) (rd l 1) (rd l 2) (cutM l (getNum l 3).2.1 (getNum l 3).1) = true
   ·exact hf
   ·exfalso
    unfold frameBytesM at h2
    rw [if_neg hf] at h2
    rw [← h2] at g4
    simp at g4
  have hf := (frameOk_iff _ _ _ _).1 h3
  exact ⟨by omega, by omega, h3, h2⟩
theorem w64_rd {l : List Int} (hb : ∀ x ∈ l, 0 ≤ x ∧ x < 256) (i : Nat) (h : i < l.length) : wrap64 (rd l (i : Int)) = rd l (i : Int) ∧ 0 ≤ rd l (i : Int) ∧ rd l (i : Int) < 256 := by
 have hx := List.getElem?_eq_getElem h
 have := hb _ (List.getElem_mem h)
 rw [rd_at hx]
 exact ⟨w64 (by omega) (by omega), this.1, this.2⟩
theorem frameOfM_bytes (l : List Int) (hb : ∀ x ∈ l, 0 ≤ x ∧ x < 256) : (frameOfM l).2.2.2.1.length ≤ l.length := by
 unfold frameOfM
 split
 ·simp only [cutM, List.length_drop, List.length_take]
  omega
 ·simp
theorem implGetNum_ev (l : List Int) (a : Int) (h : l.length ≤ 4194304) (hb : ∀ x ∈ l, 0 ≤ x ∧ x < 256) (ha : -9223372036854775808 ≤ a ∧ a ≤ 9223372036854775807) : Ev (fun k => impl_GetNum.f k l a) (getNum l a) := by
 by_cases hneg : a < 0
 ·exact ev_some fun k => by simp [impl_GetNum.f, getNum, hneg]
 obtain ⟨p, rfl⟩ := Int.eq_ofNat_of_zero_le (Int.not_lt.1 hneg)
 have key : ∀ (d i : Nat) (n : Int), i + d = 5 → 0 ≤ n → n < 128 ^ i →
   Ev (fun k => impl_GetNum.l0 k l (p : Int) n (i : Int)) (match getM i n (l.drop (p + i)) with | none => (0, 0, false) | some (m, c) => (m, (p : Int) + c, true)) := by
  intro d
  induction d with
  | zero =>
   intro i n hi h0 h1
   refine Ev.step (f := fun k => impl_GetNum.j1 k l (p : Int) n (i : Int) false) (fun k => by simp only [impl_GetNum.l0]; rw [if_neg (by omega)]) (ev_end fun k => ?_)
   simp only [impl_GetNum.j1]
   rw [if_neg (by simp)]
   have : getM i n (l.drop (p + i)) = none := by
    cases l.drop (p + i) with
    | nil => rfl
    | cons x t => rw [getM, if_neg (by omega)]
   rw [this]
  | succ d ih =>
   intro i n hi h0 h1
   by_cases hin : p + i < l.length
   ·have e : l.drop (p + i) = l[p + i] :: l.drop (p + (i + 1)) := by rw [List.drop_eq_getElem_cons hin]; rfl
    rw [e]
    generalize hx : l[p + i] = x
    have hxx : l[p + i]? = some x := by rw [← hx]; exact List.getElem?_eq_getElem hin
    have hxb := hb x (List.mem_of_getElem? hxx)
    have hr : rd l ((p : Int) + (i : Int)) = x := by have := rd_at hxx; simpa using this
    have hu : ∀ y : Int, 0 ≤ y → y < 100 → IntKind.u64.wrap y = y := fun y h0 h1 => by simp [IntKind.wrap, IntKind.bits, IntKind.signed]; omega
    have hand := and_127 x hxb.1 hxb.2
    have hpw := pow_step i n (x % 128) h0 h1 (by omega) (by omega)
    have hor : Go.bits .or .i64 n (shl .i64 (x % 128) (7 * (i : Int))) = n + x % 128 * 128 ^ i := or_join i n _ (by omega) h0 h1 (by omega) (by omega)
    have s1 : ∀ k, impl_GetNum.l0 (k + 1) l (p : Int) n (i : Int) = impl_GetNum.j1 k l (p : Int) n (i : Int) true := by
     intro k
     simp only [impl_GetNum.l0]
     rw [if_pos (by omega), w64 (by omega) (by omega)]
     congr 1
     rw [decide_eq_true_iff]
     omega
    by_cases hx128 : x < 128
    ·rw [getM, if_pos (show i < 5 by omega), if_pos hx128]
     refine Ev.step s1 (ev_end fun k => ?_)
     simp only [impl_GetNum.j1]
     rw [if_pos trivial, w64 (x := (p : Int) + (i : Int)) (by omega) (by omega), hr, w64 (x := 7 * (i : Int)) (by omega) (by omega), hu (7 * (i : Int)) (by omega) (by omega), w64 (x := x) (by omega) (by omega),
      if_pos (by omega), if_pos (by omega), if_pos (by omega), if_neg (by omega), hand, hor, w64 (x := (p : Int) + (i : Int) + 1) (by omega) (by omega)]
     by_cases hx0 : x = 0
     ·rw [if_pos hx0]
      by_cases hi0 : 0 < i
      ·rw [if_pos (by omega), if_pos (Or.inl ⟨hx0, hi0⟩)]
      ·rw [if_neg (by omega)]
       by_cases hbig : n + x % 128 * 128 ^ i > 2147483647
       ·rw [if_pos hbig, if_pos (Or.inr hbig)]
       ·rw [if_neg hbig, if_neg (by omega)]
        simp
        omega
     ·rw [if_neg hx0]
      by_cases hbig : n + x % 128 * 128 ^ i > 2147483647
      ·rw [if_pos hbig, if_pos (Or.inr hbig)]
      ·rw [if_neg hbig, if_neg (by omega)]
       simp
       omega
    ·have := ih (i + 1) _ (by omega) hpw.1 hpw.2
     rw [getM, if_pos (by omega), if_neg hx128]
     refine Ev.step s1 (Ev.step (fun k => ?_) this)
     simp only [impl_GetNum.j1]
     rw [if_pos trivial, w64 (x := (p : Int) + (i : Int)) (by omega) (by omega), hr, w64 (x := 7 * (i : Int)) (by omega) (by omega), hu (7 * (i : Int)) (by omega) (by omega), w64 (x := x) (by omega) (by omega),
      if_pos (by omega), if_pos (by omega), if_pos (by omega), if_pos (by omega), hand, hor, w64_succ (by omega)]
   ·have e : l.drop (p + i) = [] := List.drop_eq_nil_of_le (by omega)
    rw [e]
    refine Ev.step (f := fun k => impl_GetNum.j1 k l (p : Int) n (i : Int) false) (fun k => ?_) (ev_end fun k => ?_)
    ·simp only [impl_GetNum.l0]
     rw [if_pos (by omega), w64 (by omega) (by omega)]
     congr 1
     rw [decide_eq_false_iff_not]
     omega
    ·simp only [impl_GetNum.j1]
     rw [if_neg (by simp)]
     rfl
 have := key 5 0 0 rfl (by omega) (by simp)
 simp only [getNum, impl_GetNum.f, if_neg hneg]
 exact this
theorem cloneBytes_eq (l : List Int) (h : l.length ≤ 4194304) : slices_Clone_byte_byte.f l = some l := by
 simp only [slices_Clone_byte_byte.f, Option.bind_some, List.length_nil, List.nil_append]
 rw [if_pos (by omega)]
theorem octet_in (l : List Int) (i : Nat) (hb : ∀ x ∈ l, 0 ≤ x ∧ x < 256) (hl : l.length ≤ 4194304) (h : i < l.length) : impl_reader_octet.f l (i : Int) false = some (rd l (i : Int), ((i + 1 : Nat) : Int), false) := by
 simp only [impl_reader_octet.f, Bool.false_eq_true, if_false]
 rw [if_neg (by omega), w64_succ (by omega), w64 (x := ((i + 1 : Nat) : Int) - 1) (by omega) (by omega), if_pos (by omega), if_pos (by omega)]
 have e : ((i + 1 : Nat) : Int) - 1 = (i : Int) := by omega
 rw [e, (w64_rd hb i h).1]
theorem octet_out (l : List Int) (i : Int) (bad : Bool) (h : bad = true ∨ i ≥ (l.length : Int)) : impl_reader_octet.f l i bad = some (0, i, true) := by
 simp only [impl_reader_octet.f]
 by_cases hb : bad = true
 ·rw [if_pos hb]
 ·rw [if_neg hb, if_pos (by rcases h with h | h; exact absurd h hb; exact h)]
theorem implFrameOf_ev (l : List Int) (hl : l.length ≤ 4194304) (hb : ∀ x ∈ l, 0 ≤ x ∧ x < 256) : Ev (fun k => impl_FrameOf.f k l) (frameOfM l) := by
 by_cases h3 : 3 ≤ l.length
 ·have o0 : impl_reader_octet.f l 0 false = some (rd l 0, 1, false) := octet_in l 0 hb hl (by omega)
  have o1 : impl_reader_octet.f l 1 false = some (rd l 1, 2, false) := octet_in l 1 hb hl (by omega)
  have o2 : impl_reader_octet.f l 2 false = some (rd l 2, 3, false) := octet_in l 2 hb hl (by omega)
  obtain ⟨K1, hg⟩ := implGetNum_ev l 3 hl hb (by omega)
  obtain ⟨K2, hK⟩ := implFrameBytes_ev (rd l 0) (rd l 1) (rd l 2) (cutM l (getNum l 3).2.1 (getNum l 3).1) (cut_bytes l _ _ hb)
  refine ⟨K1 + K2 + 1, fun k hk => ?_⟩
  have hg : impl_GetNum.f k l 3 = some (getNum l 3) := hg k (by omega)
  simp only [impl_FrameOf.f, o0, o1, o2, Option.bind_some, impl_reader_num.f, hg, Bool.false_eq_true, if_false]
  obtain ⟨k, rfl⟩ : ∃ j, k = j + 1 := ⟨k - 1, by omega⟩
  have hK : impl_FrameBytes.f k (rd l 0) (rd l 1) (rd l 2) (cutM l (getNum l 3).2.1 (getNum l 3).1) = some (frameBytesM (rd l 0) (rd l 1) (rd l 2) (cutM l (getNum l 3).2.1 (getNum l 3).1)) := hK k (by omega)
  by_cases h : (getNum l 3).2.2 = true
  ·obtain ⟨g0, g1, g2, g3, g4⟩ := getNum_ok l hb h
   have ht := frameOf_tests l hb h
   simp only [h, if_true, Option.bind_some, Bool.false_eq_true, if_false]
   rw [w64 (x := (l.length : Int) - (getNum l 3).2.1) (by omega) (by omega)]
   by_cases h30 : (getNum l 3).1 > 30
   ·rw [if_pos h30]
    simp only [impl_FrameOf.j0, if_true]
    unfold frameOfM
    rw [if_neg (fun e => by have := ht.2 ⟨e.2.1, e.2.2⟩; omega)]
   rw [if_neg h30]
   by_cases hle : (getNum l 3).1 > (l.length : Int) - (getNum l 3).2.1
   ·rw [decide_eq_true hle]
    simp only [impl_FrameOf.j0, if_true]
    unfold frameOfM
    rw [if_neg (fun e => by have := ht.2 ⟨e.2.1, e.2.2⟩; omega)]
   rw [decide_eq_false hle]
   have ec : (l.take ((getNum l 3).2.1 + (getNum l 3).1).toNat).drop (getNum l 3).2.1.toNat = cutM l (getNum l 3).2.1 (getNum l 3).1 := rfl
   have hc := cut_length l (getNum l 3).2.1 (getNum l 3).1 (by omega) g0 (by omega)
   simp only [impl_FrameOf.j0, Bool.false_eq_true, if_false]
   rw [w64 (x := (getNum l 3).2.1 + (getNum l 3).1) (by omega) (by omega), if_pos (by omega), if_pos (by omega), if_pos (by omega), ec, cloneBytes_eq _ (by omega)]
   simp only [Option.bind_some, implFrameOk_eq]
   by_cases hf : frameOk (rd l 0) (rd l 1) (rd l 2) (cutM l (getNum l 3).2.1 (getNum l 3).1) = true
   ·rw [if_pos hf, hK]
    simp only [Option.bind_some, bytes_Equal.f]
    by_cases he : frameBytesM (rd l 0) (rd l 1) (rd l 2) (cutM l (getNum l 3).2.1 (getNum l 3).1) = l
    ·rw [if_pos (by rw [he]; exact beq_self_eq_true _)]
     have := ht.1 ⟨by omega, by omega, hf, he⟩
     unfold frameOfM
     rw [if_pos ⟨h, this.1, he⟩]
    ·rw [if_neg (fun e => he (strOfNums_inj _ _ (frameBytesM_bytes _ _ _ _ (cut_bytes l _ _ hb)) hb (eq_of_beq e)))]
     unfold frameOfM
     rw [if_neg (fun e => he e.2.2)]
   ·rw [if_neg hf]
    unfold frameOfM
    rw [if_neg (fun e => hf (ht.2 ⟨e.2.1, e.2.2⟩).2.2.1)]
  ·have hz : frameOfM l = (0, 0, 0, [], false) := by
    unfold frameOfM
    rw [if_neg (fun e => h e.1)]
   rw [hz, if_neg h]
   simp only [Option.bind_some, if_true, impl_FrameOf.j0]
 ·have hg0 : (getNum l 3).2.2 = false := by
   have e : l.drop (3 : Int).toNat = [] := List.drop_eq_nil_of_le (by show l.length ≤ 3; omega)
   unfold getNum
   rw [if_neg (by omega), e]
   rfl
  have hz : frameOfM l = (0, 0, 0, [], false) := by
   unfold frameOfM
   rw [if_neg (fun e => by rw [hg0] at e; cases e.1)]
  rw [hz]
  obtain ⟨a, i, b, e0⟩ : ∃ a i b, impl_reader_octet.f l 0 false = some (a, i, b) ∧ (b = true ∨ b = false ∧ i = 1) := by
   by_cases h0 : 0 < l.length
   ·exact ⟨_, _, _, octet_in l 0 hb hl h0, .inr ⟨rfl, rfl⟩⟩
   ·exact ⟨_, _, _, octet_out l 0 false (.inr (by omega)), .inl rfl⟩
  obtain ⟨a', i', b', e1⟩ : ∃ a' i' b', impl_reader_octet.f l i b = some (a', i', b') ∧ (b' = true ∨ b' = false ∧ i' = 2) := by
   rcases e0.2 with hb1 | ⟨hb1, hi1⟩
   ·exact ⟨_, _, _, octet_out l i b (.inl hb1), .inl rfl⟩
   ·subst hb1
    subst hi1
    by_cases h1 : 1 < l.length
    ·exact ⟨_, _, _, octet_in l 1 hb hl h1, .inr ⟨rfl, rfl⟩⟩
    ·exact ⟨_, _, _, octet_out l 1 false (.inr (by omega)), .inl rfl⟩
  have e2 : ∃ i'', impl_reader_octet.f l i' b' = some (0, i'', true) := by
   rcases e1.2 with hb1 | ⟨hb1, hi1⟩
   ·exact ⟨_, octet_out l i' b' (.inl hb1)⟩
   ·subst hi1
    exact ⟨_, octet_out l 2 b' (.inr (by omega))⟩
  obtain ⟨i'', e2⟩ := e2
  have hi2 : -9223372036854775808 ≤ i'' ∧ i'' ≤ 9223372036854775807 := by
   have hx : impl_reader_octet.f l i' b' = some (0, i', true) := by
    rcases e1.2 with hb1 | ⟨hb1, hi1⟩
    ·exact octet_out l i' b' (.inl hb1)
    ·subst hi1
     exact octet_out l 2 b' (.inr (by omega))
   rw [hx] at e2
   injection e2 with e2
   injection e2 with _ e2
   injection e2 with e2 _
   subst e2
   have hy : i' = i ∨ i' = 2 := by
    rcases e0.2 with hb0 | ⟨hb0, hi0⟩
    ·have := octet_out l i b (.inl hb0)
     rw [this] at e1
     have := e1.1
     injection this with this
     injection this with _ this
     injection this with this _
     exact .inl this.symm
    ·subst hb0
     subst hi0
     by_cases h1 : 1 < l.length
     ·have := octet_in l 1 hb hl h1
      have h9 := e1.1
      rw [show ((1 : Nat) : Int) = 1 from rfl] at this
      rw [this] at h9
      injection h9 with h9
      injection h9 with _ h9
      injection h9 with h9 _
      exact .inr h9.symm
     ·have := octet_out l 1 false (.inr (by omega))
      have h9 := e1.1
      rw [this] at h9
      injection h9 with h9
      injection h9 with _ h9
      injection h9 with h9 _
      exact .inl h9.symm
   have hi : i = 0 ∨ i = 1 := by
    by_cases h0 : 0 < l.length
    ·have := octet_in l 0 hb hl h0
     have h9 := e0.1
     rw [show ((0 : Nat) : Int) = 0 from rfl] at this
     rw [this] at h9
     injection h9 with h9
     injection h9 with _ h9
     injection h9 with h9 _
     exact .inr h9.symm
    ·have := octet_out l 0 false (.inr (by omega))
     have h9 := e0.1
     rw [this] at h9
     injection h9 with h9
     injection h9 with _ h9
     injection h9 with h9 _
     exact .inl h9.symm
   omega
  obtain ⟨K1, hg⟩ := implGetNum_ev l i'' hl hb hi2
  refine ⟨K1 + 1, fun k hk => ?_⟩
  have hg : impl_GetNum.f k l i'' = some (getNum l i'') := hg k (by omega)
  simp only [impl_FrameOf.f, e0.1, e1.1, e2, Option.bind_some, impl_reader_num.f, hg, if_true]
  obtain ⟨k, rfl⟩ : ∃ j, k = j + 1 := ⟨k - 1, by omega⟩
  simp only [impl_FrameOf.j0, if_true]
theorem specGetNum_ev (l : List Int) (a : Int) (h : l.length ≤ 4194304) (hb : ∀ x ∈ l, 0 ≤ x ∧ x < 256) (ha : -9223372036854775808 ≤ a ∧ a ≤ 9223372036854775807) : Ev (fun k => spec_GetNum.f k l a) (getNum l a) := by
 by_cases hneg : a < 0
 ·refine ⟨2, fun k hk => ?_⟩
  obtain ⟨j, rfl⟩ : ∃ j, k = j + 2 := ⟨k - 2, by omega⟩
  simp [spec_GetNum.f, spec_GetNum.l0, spec_GetNum.j1, getNum, hneg]
 obtain ⟨p, rfl⟩ := Int.eq_ofNat_of_zero_le (Int.not_lt.1 hneg)
 have key : ∀ (d i : Nat) (n : Int), i + d = 5 → 0 ≤ n → n < 128 ^ i →
   Ev (fun k => spec_GetNum.l0 k l (p : Int) n (i : Int)) (match getM i n (l.drop (p + i)) with | none => (0, 0, false) | some (m, c) => (m, (p : Int) + c, true)) := by
  intro d
  induction d with
  | zero =>
   intro i n hi h0 h1
   refine ev_end fun k => ?_
   simp only [spec_GetNum.l0]
   rw [if_neg (by omega)]
   have : getM i n (l.drop (p + i)) = none := by
    cases l.drop (p + i) with
    | nil => rfl
    | cons x t => rw [getM, if_neg (by omega)]
   rw [this]
  | succ d ih =>
   intro i n hi h0 h1
   by_cases hin : p + i < l.length
   ·have e : l.drop (p + i) = l[p + i] :: l.drop (p + (i + 1)) := by rw [List.drop_eq_getElem_cons hin]; rfl
    rw [e]
    generalize hx : l[p + i] = x
    have hxx : l[p + i]? = some x := by rw [← hx]; exact List.getElem?_eq_getElem hin
    have hxb := hb x (List.mem_of_getElem? hxx)
    have hr : rd l ((p : Int) + (i : Int)) = x := by have := rd_at hxx; simpa using this
    have hpw := pow_step i n (x % 128) h0 h1 (by omega) (by omega)
    have hor : Go.bits .or .i64 n (shl .i64 (x % 128) (7 * (i : Int))) = n + x % 128 * 128 ^ i := or_join i n _ (by omega) h0 h1 (by omega) (by omega)
    have s1 : ∀ k, spec_GetNum.l0 (k + 1) l (p : Int) n (i : Int) = spec_GetNum.j1 k l (p : Int) n (i : Int) false := by
     intro k
     simp only [spec_GetNum.l0]
     rw [if_pos (by omega), if_neg (by omega), w64 (by omega) (by omega)]
     congr 1
     rw [decide_eq_false_iff_not]
     omega
    by_cases hx128 : x < 128
    ·rw [getM, if_pos (show i < 5 by omega), if_pos hx128]
     refine Ev.step s1 (ev_end fun k => ?_)
     simp only [spec_GetNum.j1]
     rw [if_neg (by simp), w64 (x := (p : Int) + (i : Int)) (by omega) (by omega), hr, w64 (x := 7 * (i : Int)) (by omega) (by omega), w64 (x := x) (by omega) (by omega),
      if_pos (by omega), if_pos (by omega), if_pos (by omega), if_pos hx128, Int.tmod_eq_emod_of_nonneg hxb.1, hor, w64 (x := (p : Int) + (i : Int) + 1) (by omega) (by omega)]
     by_cases hi0 : 0 < i
     ·rw [if_pos (by omega)]
      by_cases hx0 : x = 0
      ·rw [if_pos hx0, if_pos (Or.inl ⟨hx0, hi0⟩)]
      ·rw [if_neg hx0]
       by_cases hbig : n + x % 128 * 128 ^ i > 2147483647
       ·rw [if_pos hbig, if_pos (Or.inr hbig)]
       ·rw [if_neg hbig, if_neg (by omega)]
        simp
        omega
     ·rw [if_neg (by omega)]
      by_cases hbig : n + x % 128 * 128 ^ i > 2147483647
      ·rw [if_pos hbig, if_pos (Or.inr hbig)]
      ·rw [if_neg hbig, if_neg (by omega)]
       simp
       omega
    ·have := ih (i + 1) _ (by omega) hpw.1 hpw.2
     rw [getM, if_pos (by omega), if_neg hx128]
     refine Ev.step s1 (Ev.step (fun k => ?_) this)
     simp only [spec_GetNum.j1]
     rw [if_neg (by simp), w64 (x := (p : Int) + (i : Int)) (by omega) (by omega), hr, w64 (x := 7 * (i : Int)) (by omega) (by omega), w64 (x := x) (by omega) (by omega),
      if_pos (by omega), if_pos (by omega), if_pos (by omega), if_neg hx128, Int.tmod_eq_emod_of_nonneg hxb.1, hor, w64_succ (by omega)]
   ·have e : l.drop (p + i) = [] := List.drop_eq_nil_of_le (by omega)
    rw [e]
    refine Ev.step (f := fun k => spec_GetNum.j1 k l (p : Int) n (i : Int) true) (fun k => ?_) (ev_end fun k => ?_)
    ·simp only [spec_GetNum.l0]
     rw [if_pos (by omega), if_neg (by omega), w64 (by omega) (by omega)]
     congr 1
     rw [decide_eq_true_iff]
     omega
    ·simp only [spec_GetNum.j1, if_true]
     rfl
 have := key 5 0 0 rfl (by omega) (by simp)
 simp only [getNum, if_neg hneg]
 exact this
theorem specFrameOf_ev (l : List Int) (hl : l.length ≤ 4194304) (hb : ∀ x ∈ l, 0 ≤ x ∧ x < 256) : Ev (fun k => spec_FrameOf.f k l) (frameOfM l) := by
 simp only [spec_FrameOf.f]
 refine Ev.bind (specGetNum_ev l 3 hl hb (by omega)) ?_
 by_cases h : (getNum l 3).2.2 = true
 ·simp only [h, if_true]
  obtain ⟨g0, g1, g2, g3, g4⟩ := getNum_ok l hb h
  rw [w64 (x := (l.length : Int) - (getNum l 3).2.1) (by omega) (by omega), w64 (by omega) (by omega)]
  by_cases hn : (getNum l 3).1 = (l.length : Int) - (getNum l 3).2.1 - 4
  ·have hne : ((getNum l 3).1 != (l.length : Int) - (getNum l 3).2.1 - 4) = false := by simp [← hn]
   rw [hne]
   have w0 := w64_rd hb 0 (by omega)
   have w1 := w64_rd hb 1 (by omega)
   have w2 := w64_rd hb 2 (by omega)
   obtain ⟨K, hK⟩ := specFrameBytes_ev (rd l 0) (rd l 1) (rd l 2) (cutM l (getNum l 3).2.1 (getNum l 3).1) (cut_bytes l _ _ hb)
   have hK : ∀ k, K ≤ k → spec_FrameBytes.f k (rd l 0) (rd l 1) (rd l 2) (cutM l (getNum l 3).2.1 (getNum l 3).1) = some (frameBytesM (rd l 0) (rd l 1) (rd l 2) (cutM l (getNum l 3).2.1 (getNum l 3).1)) := hK
   refine Ev.step (fun _ => rfl) ⟨K, fun k hk => ?_⟩
   have e0 : wrap64 (rd l 0) = rd l 0 := w0.1
   have e1 : wrap64 (rd l 1) = rd l 1 := w1.1
   have e2 : wrap64 (rd l 2) = rd l 2 := w2.1
   have ec : (l.take ((getNum l 3).2.1 + (getNum l 3).1).toNat).drop (getNum l 3).2.1.toNat = cutM l (getNum l 3).2.1 (getNum l 3).1 := rfl
   have hc := cut_length l (getNum l 3).2.1 (getNum l 3).1 (by omega) g0 (by omega)
   simp only [spec_FrameOf.j0, Bool.false_eq_true, if_false, Option.bind_some, List.nil_append, List.length_nil, Nat.zero_add]
   rw [if_pos (by omega), if_pos (by omega), if_pos (by omega), if_pos (by omega), w64 (x := (getNum l 3).2.1 + (getNum l 3).1) (by omega) (by omega), if_pos (by omega), if_pos (by omega), ec, if_pos (by omega), e0, e1, e2, hK k hk]
   simp only [Option.bind_some]
   by_cases hf : frameBytesM (rd l 0) (rd l 1) (rd l 2) (cutM l (getNum l 3).2.1 (getNum l 3).1) = l
   ·rw [if_pos (by rw [hf])]
    unfold frameOfM
    rw [if_pos ⟨h, hn, hf⟩]
   ·rw [if_neg (fun e => hf (strOfNums_inj _ _ (frameBytesM_bytes _ _ _ _ (cut_bytes l _ _ hb)) hb e))]
    unfold frameOfM
    rw [if_neg (fun e => hf e.2.2)]
  ·have hne : ((getNum l 3).1 != (l.length : Int) - (getNum l 3).2.1 - 4) = true := by simp [hn]
   rw [hne]
   refine ev_end fun k => ?_
   simp only [spec_FrameOf.j0, if_true]
   unfold frameOfM
   rw [if_neg (fun e => hn e.2.1)]
 ·have hz : frameOfM l = (0, 0, 0, [], false) := by
   unfold frameOfM
   rw [if_neg (fun e => h e.1)]
  rw [hz]
  simp only [if_neg h]
  refine ev_end fun k => ?_
  simp only [spec_FrameOf.j0, if_true]
theorem rd_app (l t : List Int) (i : Nat) (h : i < l.length) : rd (l ++ t) (i : Int) = rd l (i : Int) := by
 rw [rd_at (List.getElem?_eq_getElem h)]
 refine rd_at ?_
 rw [List.getElem?_append_left h, List.getElem?_eq_getElem h]
theorem cut_mid (B d t : List Int) : cutM (B ++ d ++ t) (B.length : Int) (d.length : Int) = d := by
 unfold cutM
 have e1 : ((B.length : Int) + (d.length : Int)).toNat = (B ++ d).length := by rw [List.length_append]; omega
 rw [e1, List.take_left' rfl, show (B.length : Int).toNat = B.length by omega, List.drop_left' rfl]
theorem frameOf_back {a b c : Int} {d : List Int} (h : frameOk a b c d = true) : frameOfM (frameBytesM a b c d) = (a, b, c, d, true) := by
 have hf := (frameOk_iff a b c d).1 h
 have e : frameBytesM a b c d = ([a, b, c] ++ putNum (d.length : Int)) ++ d ++ four (sumOf ([a, b, c] ++ putNum (d.length : Int) ++ d)) := by
  unfold frameBytesM summedM
  rw [if_pos h]
 have hg := getNum_body a b c (d.length : Int) (d ++ four (sumOf ([a, b, c] ++ putNum (d.length : Int) ++ d))) (by omega) (by omega)
 rw [← List.append_assoc, ← e] at hg
 have hl : (frameBytesM a b c d).length = 3 + (putNum (d.length : Int)).length + d.length + 4 := by
  rw [e]
  simp [four]
  omega
 have hB : (([a, b, c] ++ putNum (d.length : Int)).length : Int) = 3 + ((putNum (d.length : Int)).length : Int) := by simp; omega
 have hc : cutM (frameBytesM a b c d) (3 + ((putNum (d.length : Int)).length : Int)) (d.length : Int) = d := by
  have := cut_mid ([a, b, c] ++ putNum (d.length : Int)) d (four (sumOf ([a, b, c] ++ putNum (d.length : Int) ++ d)))
  rw [← e, hB] at this
  exact this
 have h3 : ∀ i : Nat, i < 3 → rd (frameBytesM a b c d) (i : Int) = rd [a, b, c] (i : Int) := fun i hi => by
  rw [e, List.append_assoc, List.append_assoc]
  exact rd_app [a, b, c] _ i hi
 have r0 : rd (frameBytesM a b c d) 0 = a := h3 0 (by omega)
 have r1 : rd (frameBytesM a b c d) 1 = b := h3 1 (by omega)
 have r2 : rd (frameBytesM a b c d) 2 = c := h3 2 (by omega)
 unfold frameOfM
 rw [hg]
 dsimp only
 rw [hc, r0, r1, r2, if_pos ⟨rfl, by rw [hl]; omega, rfl⟩]
theorem frameOf_short {a b c : Int} {d : List Int} (h : frameOk a b c d = true) : (frameOfM ((frameBytesM a b c d).take ((frameBytesM a b c d).length - 1))).2.2.2.2 = false := by
 have hf := (frameOk_iff a b c d).1 h
 have e : frameBytesM a b c d = ([a, b, c] ++ putNum (d.length : Int)) ++ (d ++ four (sumOf ([a, b, c] ++ putNum (d.length : Int) ++ d))) := by
  unfold frameBytesM summedM
  rw [if_pos h, List.append_assoc]
 have hl : (frameBytesM a b c d).length = 3 + (putNum (d.length : Int)).length + d.length + 4 := by
  rw [e]
  simp [four]
  omega
 have hB : ([a, b, c] ++ putNum (d.length : Int)).length = 3 + (putNum (d.length : Int)).length := by simp; omega
 have ht : (frameBytesM a b c d).take ((frameBytesM a b c d).length - 1) = ([a, b, c] ++ putNum (d.length : Int)) ++ (d ++ four (sumOf ([a, b, c] ++ putNum (d.length : Int) ++ d))).take (d.length + 3) := by
  rw [hl, show 3 + (putNum (d.length : Int)).length + d.length + 4 - 1 = ([a, b, c] ++ putNum (d.length : Int)).length + (d.length + 3) by omega]
  conv => lhs; rw [e]
  rw [List.take_append]
  congr 1
  ·rw [List.take_of_length_le (by omega)]
  ·congr 1
   omega
 have hg := getNum_body a b c (d.length : Int) ((d ++ four (sumOf ([a, b, c] ++ putNum (d.length : Int) ++ d))).take (d.length + 3)) (by omega) (by omega)
 rw [← ht] at hg
 have hl2 : ((frameBytesM a b c d).take ((frameBytesM a b c d).length - 1)).length = 3 + (putNum (d.length : Int)).length + d.length + 3 := by
  rw [List.length_take, hl]
  omega
 unfold frameOfM
 rw [hg]
 dsimp only
 rw [if_neg]
 rintro ⟨_, h2, _⟩
 rw [hl2] at h2
 omega
theorem frameOf_same {l : List Int} (h : (frameOfM l).2.2.2.2 = true) : frameBytesM (frameOfM l).1 (frameOfM l).2.1 (frameOfM l).2.2.1 (frameOfM l).2.2.2.1 = l := by
 unfold frameOfM at h ⊢
 split at h
 ·rename_i hc
  rw [if_pos hc]
  exact hc.2.2
 ·cases h
theorem frameOf_load {l : List Int} (hb : ∀ x ∈ l, 0 ≤ x ∧ x < 256) : ∀ x ∈ (frameOfM l).2.2.2.1, 0 ≤ x ∧ x < 256 := by
 unfold frameOfM
 split
 ·exact cut_bytes _ _ _ hb
 ·simp
theorem frameSame_self (a b c : Int) (l : List Int) : impl_FrameSame.f a b c l a b c l = some true := by
 simp [impl_FrameSame.f, bytes_Equal.f]
theorem frameSame_eq (a b c : Int) (l : List Int) (a' b' c' : Int) (l' : List Int) : impl_FrameSame.f a b c l a' b' c' l' = spec_FrameSame.f a b c l a' b' c' l' := by
 simp [impl_FrameSame.f, spec_FrameSame.f, bytes_Equal.f]
theorem frameSame_some (a b c : Int) (l : List Int) (a' b' c' : Int) (l' : List Int) : ∃ r, spec_FrameSame.f a b c l a' b' c' l' = some r := by
 simp only [spec_FrameSame.f]
 (repeat' split) <;> exact ⟨_, rfl⟩
theorem frames_j0 (a b c : Int) (d : List Int) (hb : ∀ x ∈ d, 0 ≤ x ∧ x < 256) : Ev (fun k => laws_FnFrames.j0 k (frameBytesM a b c d) false a b c d) true := by
 have hB := frameBytesM_bytes a b c d hb
 have hl := frameBytesM_length a b c d
 refine Ev.succ ?_
 simp only [laws_FnFrames.j0, Bool.false_eq_true, if_false, implFrameOk_eq, Option.bind_some]
 by_cases h : frameOk a b c d = true
 ·simp only [if_pos h]
  refine Ev.bind (implFrameOf_ev _ (by omega) hB) ?_
  have hf := (frameOk_iff a b c d).1 h
  have h1 : 7 ≤ (frameBytesM a b c d).length := by
   unfold frameBytesM summedM
   rw [if_pos h]
   simp [four]
   omega
  rw [frameOf_back h]
  dsimp only
  rw [w64 (by omega) (by omega)]
  simp only [if_pos (show 0 ≤ ((frameBytesM a b c d).length : Int) - 1 by omega), if_pos (show ((frameBytesM a b c d).length : Int) - 1 ≤ ((frameBytesM a b c d).length : Int) by omega), if_true]
  rw [show (((frameBytesM a b c d).length : Int) - 1).toNat = (frameBytesM a b c d).length - 1 by omega]
  refine Ev.bind (implFrameOf_ev _ (by rw [List.length_take]; omega) (fun x hx => hB x (List.mem_of_mem_take hx))) ?_
  simp only [frameSame_self, Option.bind_some, if_true, frameOf_short h]
  exact ev_some fun _ => rfl
 ·simp only [if_neg h]
  have : frameBytesM a b c d = [] := by unfold frameBytesM; rw [if_neg h]
  rw [this]
  exact ev_some fun _ => rfl
theorem FnFrames : FnFramesPure := by
 intro l hlw
 refine Ev.rounds ?_
 simp only [laws_FnFrames.f, laws_big.f, Option.bind_some]
 by_cases hbig : (l.length : Int) > 1048576
 ·exact ev_some fun _ => by simp [hbig]
 simp only [hbig, decide_false, Bool.false_eq_true, if_false]
 obtain ⟨q, hq⟩ := l1New_ev l (by omega)
 have hcur : CurOk l 0 := ⟨by omega, by omega, by omega⟩
 have hd1 : EvP (fun k => spec_DrawFrameBytes.f k l) (fun r => LoadOk 31 r.2.2.2) := by
  simp only [spec_DrawFrameBytes.f]
  refine EvP.bind (EvP.of hq (P := fun r => r = (l, 0, q)) rfl) (fun r hr => ?_)
  subst hr
  refine EvP.bind (l2Draw_evp l 0 q hcur) (fun r hr => ?_)
  exact EvP.now _ hr.2
 have hd2 : EvP (fun k => spec_DrawFrameOf.f k l) (fun r => r.length ≤ 43 ∧ ∀ x ∈ r, 0 ≤ x ∧ x < 256) := by
  simp only [spec_DrawFrameOf.f]
  refine EvP.bind (EvP.of hq (P := fun r => r = (l, 0, q)) rfl) (fun r hr => ?_)
  subst hr
  refine EvP.bind (l2DrawRight_evp l 0 q hcur) (fun r hr => ?_)
  have hlb := frameBytesM_length r.1 r.2.1 r.2.2.1 r.2.2.2.1
  have hbb := frameBytesM_bytes r.1 r.2.1 r.2.2.1 r.2.2.2.1 hr.2.1.2
  refine EvP.bind (EvP.of (specFrameBytes_ev r.1 r.2.1 r.2.2.1 r.2.2.2.1 hr.2.1.2) (P := fun x => x = frameBytesM r.1 r.2.1 r.2.2.1 r.2.2.2.1) rfl) (fun x hx => ?_)
  subst hx
  refine EvP.bind (c := fun _ => spec_l2Dent.f l r.2.2.2.2.1 r.2.2.2.2.2 (frameBytesM r.1 r.2.1 r.2.2.1 r.2.2.2.1)) (l2Dent_evp l _ _ hr.1 _ (by omega) hbb) (fun y hy => ?_)
  exact EvP.now _ ⟨by have := hy.1; omega, hy.2⟩
 have hd3 : EvP (fun k => spec_DrawFrameSame.f k l) (fun _ => True) := by
  simp only [spec_DrawFrameSame.f]
  refine EvP.bind (EvP.of hq (P := fun r => r = (l, 0, q)) rfl) (fun r hr => ?_)
  subst hr
  refine EvP.bind (l2Draw_evp l 0 q hcur) (fun r hr => ?_)
  have hll := hr.2.1
  refine EvP.bind (c := fun _ => spec_l1Once.f l r.2.2.2.2.1 r.2.2.2.2.2 2) (l1Once_evp l _ _ 2 hr.1) (fun r1 h1 => ?_)
  by_cases e : r1.1 = true
  ·simp only [if_pos e, l2Copy_eq r.1 r.2.1 r.2.2.1 r.2.2.2.1 (by omega), Option.bind_some]
   exact EvP.now _ trivial
  ·simp only [if_neg e]
   refine EvP.bind (l2Draw_evp l _ _ h1) (fun r2 h2 => ?_)
   exact EvP.now _ trivial
 obtain ⟨⟨a, b, c, d⟩, hd, hld⟩ := hd1
 obtain ⟨x, hx, hxl, hxb⟩ := hd2
 obtain ⟨⟨p0, p1, p2, p3, s0, s1, s2, s3⟩, hp, _⟩ := hd3
 dsimp only at hld
 refine Ev.bind hd (Ev.bind (implFrameBytes_ev a b c d hld.2) (Ev.bind hx (Ev.bind (implFrameOf_ev x (by omega) hxb) (Ev.bind (specFrameOf_ev x (by omega) hxb) (Ev.bind hp (Ev.bind (specFrameBytes_ev a b c d hld.2) ?_))))))
 obtain ⟨s, hs⟩ := frameSame_some p0 p1 p2 p3 s0 s1 s2 s3
 simp only [if_true, bne_self_eq_false, Bool.false_eq_true, if_false, frameSame_self, frameSame_eq, hs, implFrameOk_eq, specFrameOk_eq, Option.bind_some]
 by_cases hy : (frameOfM x).2.2.2.2 = true
 ·simp only [if_pos hy]
  refine Ev.bind (implFrameBytes_ev _ _ _ _ (frameOf_load hxb)) ?_
  rw [frameOf_same hy]
  simp only [bne_self_eq_false]
  exact frames_j0 a b c d hld.2
 ·simp only [if_neg hy]
  exact frames_j0 a b c d hld.2
end Go.Proofs.Ytaoipjdmmamkmaa.Pure

/- The statement of laws.FnVecs over numbers and lists alone: at every input it answers true. No condition but that the numbers are those of their kinds and that no slice is longer than a Go slice can be. -/
import Derived.Test.YtjaldondohddpaaDoorPFnVecsx6
import Derived.Test.YtjaldondohddpaaDoorBase
import Derived.Laws.BitsLemmas
import Derived.Lib.ItoaNum
import Derived.Lib.ItoaLen
import Derived.Lib.Strings
set_option linter.unusedVariables false
set_option linter.unusedSimpArgs false
namespace Go.Proofs.YtjaldondohddpaaDoor.Pure
open Go.RowKit Go.Proofs.YtjaldondohddpaaDoor.PFnVecs Go.Proofs.YtjaldondohddpaaDoor.Base Go.Proofs.YtjaldondohddpaaDoorW.PrintWords Go.Proofs.YtjaldondohddpaaDoorW.PrintLast Go.Proofs.YtjaldondohddpaaDoorW.PrintMore
def FnVecsPure : Prop := ∀ (l0 : List (Int)), (l0.length ≤ maxLen ∧ ∀ x ∈ l0, (Lit.int .u8 x).wf = true) → ∃ k, laws_FnVecs.f k l0 = some true
/-! What is drawn: a cursor (bytes, place, a number); whatever it holds, each draw ends, and is in its bounds. -/
theorem and_range (x : Int) (m : Nat) (hm : m < 2 ^ 62) : 0 ≤ Go.bits .and .i64 x (m : Int) ∧ Go.bits .and .i64 x (m : Int) ≤ m := by
  have e : Go.bits .and .i64 x (m : Int) = IntKind.i64.wrap (((BitVec.ofInt 64 x) &&& (BitVec.ofInt 64 (m : Int))).toNat : Int) := rfl
  have h1 : ((BitVec.ofInt 64 x) &&& (BitVec.ofInt 64 (m : Int))).toNat ≤ m := by
    rw [BitVec.toNat_and, BitVec.ofInt_natCast, BitVec.toNat_ofNat, Nat.mod_eq_of_lt (by omega)]
    exact Nat.and_le_right
  rw [e, IntKind.wrap_i64]
  omega
theorem and_255_range (x : Int) : 0 ≤ Go.bits .and .i64 x 255 ∧ Go.bits .and .i64 x 255 ≤ 255 := and_range x 255 (by decide)
/-- The cursor's place lies in its bytes. -/
def CurOk (b : List Int) (i : Int) : Prop := 0 ≤ i ∧ i ≤ b.length ∧ b.length ≤ 4194304
/-- It comes to an answer, and P holds of it. -/
def EvP {α : Type} (g : Nat → Option α) (P : α → Prop) : Prop := ∃ r, Ev g r ∧ P r
theorem EvP.bind {α β : Type} {c : Nat → Option α} {f : Nat → α → Option β} {Q : α → Prop} {P : β → Prop} (h : EvP c Q) (hf : ∀ a, Q a → EvP (fun k => f k a) P) : EvP (fun k => (c k).bind (f k)) P := by
  obtain ⟨a, ha, hq⟩ := h
  obtain ⟨r, hr, hp⟩ := hf a hq
  exact ⟨r, Ev.bind ha hr, hp⟩
theorem EvP.now {α : Type} {P : α → Prop} (r : α) (h : P r) : EvP (fun _ => some r) P := ⟨r, Ev.now r, h⟩
theorem EvP.of {α : Type} {g : Nat → Option α} {P : α → Prop} {r : α} (h : Ev g r) (hp : P r) : EvP g P := ⟨r, h, hp⟩
theorem EvP.imp {α : Type} {g : Nat → Option α} {P Q : α → Prop} (h : EvP g P) (hi : ∀ r, P r → Q r) : EvP g Q := by
  obtain ⟨r, hr, hp⟩ := h
  exact ⟨r, hr, hi r hp⟩
theorem Ev.succ {α : Type} {g : Nat → Option α} {r : α} (h : Ev (fun k => g (k + 1)) r) : Ev g r := Ev.step (fun _ => rfl) h
theorem EvP.succ {α : Type} {g : Nat → Option α} {P : α → Prop} (h : EvP (fun k => g (k + 1)) P) : EvP g P := by
  obtain ⟨r, hr, hp⟩ := h
  exact ⟨r, Ev.succ hr, hp⟩
theorem l1Byte_some (b : List Int) (i q : Int) (h : CurOk b i) : ∃ r i' q', spec_l1Byte.f b i q = some (r, i', q') ∧ CurOk b i' ∧ 0 ≤ r ∧ r ≤ 255 := by
  obtain ⟨h0, h1, h2⟩ := h
  simp only [spec_l1Byte.f]
  by_cases hi : i < (b.length : Int)
  · rw [if_pos hi, if_pos h0]
    refine ⟨_, _, _, rfl, ⟨?_, ?_, h2⟩, (and_255_range _).1, (and_255_range _).2⟩ <;> rw [w64 (by omega) (by omega)] <;> omega
  · rw [if_neg hi]
    exact ⟨_, _, _, rfl, ⟨h0, h1, h2⟩, (and_255_range _).1, (and_255_range _).2⟩
theorem l1Below_some (b : List Int) (i q n : Int) (h : CurOk b i) : ∃ r i' q', spec_l1Below.f b i q n = some (r, i', q') ∧ CurOk b i' ∧ 0 ≤ r ∧ (0 < n → r < n) := by
  simp only [spec_l1Below.f]
  by_cases h0 : n ≤ 0
  · rw [if_pos h0]
    exact ⟨_, _, _, rfl, h, by omega, by omega⟩
  · rw [if_neg h0]
    obtain ⟨r1, i1, q1, e1, c1, a1, b1⟩ := l1Byte_some b i q h
    by_cases h2 : n ≤ 256
    · rw [if_pos h2, e1]
      simp only [Option.bind_some]
      rw [if_neg (by omega), Int.tmod_eq_emod_of_nonneg a1]
      exact ⟨_, _, _, rfl, c1, Int.emod_nonneg _ (by omega), fun _ => Int.emod_lt_of_pos _ (by omega)⟩
    · obtain ⟨r2, i2, q2, e2, c2, a2, b2⟩ := l1Byte_some b i1 q1 c1
      obtain ⟨r3, i3, q3, e3, c3, a3, b3⟩ := l1Byte_some b i2 q2 c2
      obtain ⟨r4, i4, q4, e4, c4, a4, b4⟩ := l1Byte_some b i3 q3 c3
      rw [if_neg h2, e1]
      simp only [Option.bind_some, e2, e3, e4]
      rw [if_neg (by omega), w64 (x := r1 * 16777216) (by omega) (by omega), w64 (x := r2 * 65536) (by omega) (by omega), w64 (x := r3 * 256) (by omega) (by omega), w64 (x := r1 * 16777216 + r2 * 65536) (by omega) (by omega), w64 (x := r1 * 16777216 + r2 * 65536 + r3 * 256) (by omega) (by omega), w64 (by omega) (by omega), Int.tmod_eq_emod_of_nonneg (by omega)]
      exact ⟨_, _, _, rfl, c4, Int.emod_nonneg _ (by omega), fun _ => Int.emod_lt_of_pos _ (by omega)⟩
theorem l1Below_evp (b : List Int) (i q n : Int) (h : CurOk b i) : EvP (fun _ => spec_l1Below.f b i q n) (fun r => CurOk b r.2.1 ∧ 0 ≤ r.1 ∧ (0 < n → r.1 < n)) := by
  obtain ⟨r, i', q', e, c, h0, h1⟩ := l1Below_some b i q n h
  exact ⟨(r, i', q'), ev_some fun _ => e, c, h0, h1⟩
theorem l1PickInt_some (b : List Int) (i q : Int) (l : List Int) (h : CurOk b i) (hl : 0 < l.length) : ∃ r i' q', spec_l1PickInt.f b i q l = some (r, i', q') ∧ CurOk b i' ∧ r ∈ l := by
  obtain ⟨r, i', q', e, c, h0, h1⟩ := l1Below_some b i q l.length h
  have h1 := h1 (by omega)
  obtain ⟨n, rfl⟩ := Int.eq_ofNat_of_zero_le h0
  refine ⟨l[n]'(by omega), i', q', ?_, c, List.getElem_mem _⟩
  simp only [spec_l1PickInt.f, e, Option.bind_some]
  rw [if_pos h0, if_pos h1, rd_at (List.getElem?_eq_getElem (by omega))]
theorem l1PickInt_evp (b : List Int) (i q : Int) (l : List Int) (h : CurOk b i) (hl : 0 < l.length) : EvP (fun _ => spec_l1PickInt.f b i q l) (fun r => CurOk b r.2.1 ∧ r.1 ∈ l) := by
  obtain ⟨r, i', q', e, c, hm⟩ := l1PickInt_some b i q l h hl
  exact ⟨(r, i', q'), ev_some fun _ => e, c, hm⟩
def Small (x : Int) : Prop := -100 ≤ x ∧ x ≤ 100
theorem l6DrawRight_some (b : List Int) (i q : Int) (h : CurOk b i) : ∃ v0 v1 v2 v3 i' q', spec_l6DrawRight.f b i q = some (v0, v1, v2, v3, i', q') ∧ CurOk b i' ∧ Small v0 ∧ Small v1 ∧ Small v2 ∧ Small v3 := by
  obtain ⟨r1, i1, q1, e1, c1, a1, b1⟩ := l1Below_some b i q 4 h
  obtain ⟨r2, i2, q2, e2, c2, a2, b2⟩ := l1Below_some b i1 q1 4 c1
  obtain ⟨r3, i3, q3, e3, c3, a3, b3⟩ := l1Below_some b i2 q2 3 c2
  obtain ⟨r4, i4, q4, e4, c4, a4, b4⟩ := l1Below_some b i3 q3 3 c3
  have b1 := b1 (by omega)
  have b2 := b2 (by omega)
  have b3 := b3 (by omega)
  have b4 := b4 (by omega)
  simp only [spec_l6DrawRight.f, e1, e2, e3, e4, Option.bind_some]
  rw [w64 (x := 1 + r1) (by omega) (by omega), w64 (x := 1 + r1 + r3) (by omega) (by omega), w64 (x := 1 + r4) (by omega) (by omega)]
  split
  · exact ⟨_, _, _, _, _, _, rfl, c4, ⟨by omega, by omega⟩, ⟨by omega, by omega⟩, ⟨by omega, by omega⟩, ⟨by omega, by omega⟩⟩
  · exact ⟨_, _, _, _, _, _, rfl, c3, ⟨by omega, by omega⟩, ⟨by omega, by omega⟩, ⟨by omega, by omega⟩, ⟨by omega, by omega⟩⟩
theorem small_mem {x : Int} {l : List Int} (h : x ∈ l) (hl : (l.all fun y => decide (-100 ≤ y ∧ y ≤ 100)) = true) : Small x := by
  have := List.all_eq_true.1 hl x h
  show -100 ≤ x ∧ x ≤ 100
  exact of_decide_eq_true (show decide (-100 ≤ x ∧ x ≤ 100) = true from this)
theorem l6Draw_some (b : List Int) (i q : Int) (h : CurOk b i) : ∃ v0 v1 v2 v3 i' q', spec_l6Draw.f b i q = some (v0, v1, v2, v3, i', q') ∧ CurOk b i' ∧ Small v0 ∧ Small v1 ∧ Small v2 ∧ Small v3 := by
  obtain ⟨v0, v1, v2, v3, i1, q1, e1, c1, s0, s1, s2, s3⟩ := l6DrawRight_some b i q h
  obtain ⟨r, i2, q2, e2, c2, a2, b2⟩ := l1Below_some b i1 q1 10 c1
  obtain ⟨x0, j0, p0, f0, d0, m0⟩ := l1PickInt_some b i2 q2 [0, 9, 10] c2 (by simp)
  obtain ⟨x1, j1, p1, f1, d1, m1⟩ := l1PickInt_some b i2 q2 [-1, 0, 20, 21] c2 (by simp)
  obtain ⟨x3, j3, p3, f3, d3, m3⟩ := l1PickInt_some b i2 q2 [-1, 3, 4] c2 (by simp)
  have n0 : Small x0 := small_mem m0 (by decide)
  have n1 : Small x1 := small_mem m1 (by decide)
  have n3 : Small x3 := small_mem m3 (by decide)
  simp only [spec_l6Draw.f, e1, e2, f0, f1, f3, Option.bind_some]
  split
  · exact ⟨_, _, _, _, _, _, rfl, d0, n0, s1, s2, s3⟩
  split
  · exact ⟨_, _, _, _, _, _, rfl, d1, s0, n1, s2, s3⟩
  split
  · exact ⟨_, _, _, _, _, _, rfl, d0, s0, s1, n0, s3⟩
  split
  · exact ⟨_, _, _, _, _, _, rfl, d3, s0, s1, s2, n3⟩
  · exact ⟨_, _, _, _, _, _, rfl, c2, s0, s1, s2, s3⟩
theorem Small.in64 {x : Int} (h : Small x) : -9223372036854775808 ≤ x ∧ x ≤ 9223372036854775807 := ⟨by have := h.1; omega, by have := h.2; omega⟩
theorem l1New_ev (l : List Int) (h : l.length ≤ 4194304) : ∃ q : Int, Ev (fun k => spec_l1New.f k l) (l, 0, q) := by
  have key : ∀ (d i : Nat) (q : Int), i + d = l.length → ∃ q' : Int, Ev (fun k => spec_l1New.l0 k l q (i : Int)) (l, 0, q') := by
    intro d
    induction d with
    | zero =>
      intro i q hi
      refine ⟨q, ev_end fun k => ?_⟩
      simp only [spec_l1New.l0]
      rw [if_neg (by omega)]
    | succ d ih =>
      intro i q hi
      by_cases h4 : (i : Int) < 4000
      · obtain ⟨q', hq⟩ := ih (i + 1) (Go.bits .and .i64 (wrap64 ((wrap64 ((wrap64 (q * 131)) + (wrap64 (rd l (i : Int))))) + 7)) 1073741823) (by omega)
        refine ⟨q', Ev.step (fun k => ?_) hq⟩
        simp only [spec_l1New.l0]
        rw [if_pos (by omega), if_pos h4, if_pos (by omega), w64_succ (by omega)]
      · refine ⟨q, ev_end fun k => ?_⟩
        simp only [spec_l1New.l0]
        rw [if_pos (by omega), if_neg h4]
  exact key l.length 0 _ (by omega)
theorem l1Once_some (b : List Int) (i q n : Int) (h : CurOk b i) : ∃ r i' q', spec_l1Once.f b i q n = some (r, i', q') ∧ CurOk b i' := by
  obtain ⟨r, i', q', e, c, _⟩ := l1Below_some b i q n h
  exact ⟨r == 0, i', q', by simp [spec_l1Once.f, e], c⟩
theorem l1Once_evp (b : List Int) (i q n : Int) (h : CurOk b i) : EvP (fun _ => spec_l1Once.f b i q n) (fun r => CurOk b r.2.1) := by
  obtain ⟨r, i', q', e, c⟩ := l1Once_some b i q n h
  exact ⟨(r, i', q'), ev_some fun _ => e, c⟩
/-- Which of two claims is the less. -/
def better (a b c d a' b' c' d' : Int) : Bool := decide (a < a' ∨ a = a' ∧ (b < b' ∨ b = b' ∧ (c < c' ∨ c = c' ∧ d < d')))
theorem compare_eq (a b : Int) : cmp_Compare_int.f a b = some (if a < b then -1 else if a > b then 1 else 0) := by
  simp only [cmp_Compare_int.f, cmp_isNaN_int.f, Option.bind_some, bne_self_eq_false]
  simp only [Bool.false_eq_true, if_false]
  (repeat' split) <;> rfl
theorem or_ev (a b c d : Int) : Ev (fun k => cmp_Or_int.f k [a, b, c, d]) (if a ≠ 0 then a else if b ≠ 0 then b else if c ≠ 0 then c else if d ≠ 0 then d else 0) := by
  refine ⟨5, fun k hk => ?_⟩
  obtain ⟨j, rfl⟩ : ∃ j, k = j + 5 := ⟨k - 5, by omega⟩
  simp [cmp_Or_int.f, cmp_Or_int.l0, rd, wrap64]
  (repeat' split) <;> simp_all
theorem implBetter_ev (a b c d a' b' c' d' : Int) : Ev (fun k => impl_Better.f k a b c d a' b' c' d') (better a b c d a' b' c' d') := by
  simp only [impl_Better.f, compare_eq, Option.bind_some]
  refine Ev.bind (or_ev _ _ _ _) (ev_some fun _ => ?_)
  simp only [better]
  congr 1
  rw [decide_eq_decide]
  (repeat' split) <;> omega
theorem specBetter_eq (a b c d a' b' c' d' : Int) : spec_Better.f a b c d a' b' c' d' = some (better a b c d a' b' c' d') := by
  simp only [spec_Better.f, better]
  by_cases h1 : a = a' <;> by_cases h2 : b = b' <;> by_cases h3 : c = c' <;> simp [h1, h2, h3] <;> omega
theorem l1In_eq (x lo hi : Int) : spec_l1In.f x lo hi = some (decide (lo ≤ x ∧ x ≤ hi)) := by
  simp only [spec_l1In.f]
  by_cases h : lo ≤ x
  · rw [if_pos h]; simp [h]
  · rw [if_neg h]; simp [h]
def vecOk (r c b p : Int) : Bool := decide (1 ≤ r ∧ r ≤ 9) && (decide (1 ≤ b ∧ b ≤ 9) && (decide (r ≤ b) && (decide (0 ≤ c ∧ c ≤ 20) && (((c == 0) == (r == b)) && decide (0 ≤ p ∧ p ≤ 3)))))
theorem vecOk_iff (r c b p : Int) : vecOk r c b p = true ↔ (1 ≤ r ∧ r ≤ 9) ∧ (1 ≤ b ∧ b ≤ 9) ∧ r ≤ b ∧ (0 ≤ c ∧ c ≤ 20) ∧ (c = 0 ↔ r = b) ∧ 0 ≤ p ∧ p ≤ 3 := by
  unfold vecOk
  have e1 : (c == 0) = decide (c = 0) := by by_cases h : c = 0 <;> simp [h]
  have e2 : (r == b) = decide (r = b) := by by_cases h : r = b <;> simp [h]
  rw [e1, e2]
  by_cases h1 : c = 0 <;> by_cases h2 : r = b <;> simp [h1, h2]
theorem specVecOk_eq (r c b p : Int) : spec_VecOk.f r c b p = some (vecOk r c b p) := by
  simp only [spec_VecOk.f, l1In_eq, Option.bind_some, vecOk]
  by_cases h1 : 1 ≤ r ∧ r ≤ 9 <;> by_cases h2 : 1 ≤ b ∧ b ≤ 9 <;> by_cases h3 : r ≤ b <;> by_cases h4 : 0 ≤ c ∧ c ≤ 20 <;> by_cases h5 : 0 ≤ p ∧ p ≤ 3 <;> simp [h1, h2, h3, h4, h5]
  all_goals (first | (cases (c == 0) <;> cases (r == b) <;> rfl) | omega)
theorem inRange_eq (x lo hi : Int) : impl_inRange.f x lo hi = some (decide (lo ≤ x ∧ x ≤ hi)) := by
  simp only [impl_inRange.f]
  by_cases h : lo ≤ x
  · rw [if_pos h]; simp [h]
  · rw [if_neg h]; simp [h]
theorem isPort_eq (x : Int) : impl_isPort.f x = some (decide (0 ≤ x ∧ x ≤ 3)) := by simp [impl_isPort.f, inRange_eq]
theorem implVecOk_eq (r c b p : Int) : impl_VecOk.f r c b p = some (vecOk r c b p) := by
  simp only [impl_VecOk.f, inRange_eq, isPort_eq, Option.bind_some, vecOk]
  by_cases h1 : 1 ≤ r ∧ r ≤ 9 <;> by_cases h2 : 1 ≤ b ∧ b ≤ 9 <;> by_cases h3 : r ≤ b <;> by_cases h4 : 0 ≤ c ∧ c ≤ 20 <;> by_cases h5 : 0 ≤ p ∧ p ≤ 3 <;> simp [h1, h2, h3, h4, h5]
  all_goals (first | (cases (c == 0) <;> cases (r == b) <;> rfl) | omega)
def itoaB (n : Int) : ByteArray := ⟨(Lib.itoa n).toArray⟩
theorem bytes_append (a b : List UInt8) : ((⟨a.toArray⟩ : ByteArray) ++ ⟨b.toArray⟩) = ⟨(a ++ b).toArray⟩ := by
  apply ByteArray.ext
  simp
theorem bytes_size (a : List UInt8) : (⟨a.toArray⟩ : ByteArray).size = a.length := by
  simp [ByteArray.size]
theorem implDigits_eq (k : Nat) (n : Int) (h0 : -9223372036854775808 ≤ n) (h1 : n ≤ 9223372036854775807) : impl_Digits.f k n = some (itoaB n) := by
  simp only [impl_Digits.f, strconv_Itoa_43.f]
  rw [if_pos ⟨h0, h1⟩]
  rfl
theorem strOfNums_one (x : Nat) : strOfNums [(x : Int)] = ⟨[UInt8.ofNat x].toArray⟩ := by
  simp [strOfNums]
def digs (m : Nat) : List UInt8 := if m = 0 then [] else Lib.decDigits m
theorem digs_step (m : Nat) (h : m ≠ 0) : digs m = digs (m / 10) ++ [UInt8.ofNat (48 + m % 10)] := by
  unfold digs
  rw [if_neg h]
  by_cases hs : m < 10
  · rw [Lib.decDigits_one hs, if_pos (by omega), Nat.mod_eq_of_lt hs]
    rfl
  · rw [if_neg (by omega)]
    conv => lhs; rw [Lib.decDigits]
    rw [dif_neg hs]
def ndigs (m : Nat) : Nat := if m = 0 then 0 else Lib.nDigits m
theorem ndigs_step (m : Nat) (h : m ≠ 0) : ndigs m = ndigs (m / 10) + 1 := by
  unfold ndigs
  rw [if_neg h]
  by_cases hs : m < 10
  · rw [Lib.nDigits_small hs, if_pos (by omega)]
  · rw [if_neg (by omega), Lib.nDigits_big hs]
theorem ndigs_le (m : Nat) (h : m < 18446744073709551616) : ndigs m ≤ 20 := by
  unfold ndigs
  split
  · omega
  · exact Lib.nDigits_le20 m h
theorem specDigits_l (m : Nat) : ∀ (x : Int) (b : Bool) (acc : List UInt8), x.natAbs = m → -9223372036854775808 ≤ x → x ≤ 9223372036854775807 → acc.length + ndigs m ≤ 100 →
    Ev (fun k => spec_Digits.l0 k x b ⟨acc.toArray⟩) ⟨((if b then [45] else []) ++ digs m ++ acc).toArray⟩ := by
  induction m using Nat.strongRecOn with
  | ind m ih =>
    intro x b acc hm h0 h1 hacc
    by_cases hx : x = 0
    · subst hx
      have hm0 : m = 0 := by omega
      subst hm0
      refine ev_end fun k => ?_
      simp only [spec_Digits.l0]
      rw [if_pos trivial]
      cases b with
      | true =>
        rw [if_pos rfl, if_pos (by rw [bytes_size]; omega)]
        show some ((⟨[45].toArray⟩ : ByteArray) ++ _) = _
        rw [bytes_append]
        simp [digs]
      | false => simp [digs]
    · have hm0 : m ≠ 0 := by omega
      have hs := ndigs_step m hm0
      have hd : (Int.tmod x 10).natAbs = m % 10 := by rw [Int.natAbs_tmod, hm]; rfl
      have hq : (Int.tdiv x 10).natAbs = m / 10 := by rw [Int.natAbs_tdiv, hm]; rfl
      have hq0 : -9223372036854775808 ≤ Int.tdiv x 10 ∧ Int.tdiv x 10 ≤ 9223372036854775807 := by
        have : m / 10 ≤ 922337203685477580 := by omega
        omega
      have rec_ := ih (m / 10) (by omega) (Int.tdiv x 10) b (UInt8.ofNat (48 + m % 10) :: acc) hq hq0.1 hq0.2 (by simp; omega)
      have hlt : m % 10 < 10 := Nat.mod_lt _ (by omega)
      have e : ∀ v : Int, v = ((48 + m % 10 : Nat) : Int) → (strOfNums [v] : ByteArray) = ⟨[UInt8.ofNat (48 + m % 10)].toArray⟩ := fun v hv => by rw [hv, strOfNums_one]
      have fin : ∀ v : Int, v = ((48 + m % 10 : Nat) : Int) → ∀ k, (if (strOfNums [v]).size + (⟨acc.toArray⟩ : ByteArray).size ≤ 9223372036854775807 then spec_Digits.l0 k (wrap64 (Int.tdiv x 10)) b (strOfNums [v] ++ ⟨acc.toArray⟩) else none) = spec_Digits.l0 k (Int.tdiv x 10) b ⟨(UInt8.ofNat (48 + m % 10) :: acc).toArray⟩ := fun v hv k => by
        rw [e v hv, bytes_append, bytes_size, bytes_size, if_pos (by simp; omega), w64 hq0.1 hq0.2]
        rfl
      rw [digs_step m hm0]
      rw [List.append_assoc, List.append_assoc]
      rw [List.append_assoc] at rec_
      refine Ev.step (fun k => ?_) rec_
      simp only [spec_Digits.l0]
      rw [if_neg hx]
      by_cases hneg : Int.tmod x 10 < 0
      · rw [if_pos hneg]
        simp only [Option.bind_some]
        exact fin _ (by rw [w64 (x := -(Int.tmod x 10)) (by omega) (by omega), w64 (by omega) (by omega)]; omega) k
      · rw [if_neg hneg]
        simp only [Option.bind_some]
        exact fin _ (by rw [w64 (by omega) (by omega)]; omega) k
theorem specDigits_ev (n : Int) (h0 : -9223372036854775808 ≤ n) (h1 : n ≤ 9223372036854775807) : Ev (fun k => spec_Digits.f k n) (itoaB n) := by
  by_cases hn : n = 0
  · subst hn
    refine ev_some fun k => ?_
    simp only [spec_Digits.f]
    rw [if_pos trivial]
    unfold itoaB Lib.itoa
    rw [if_neg (by omega)]
    show _ = some (⟨(Lib.decDigits 0).toArray⟩ : ByteArray)
    rw [Lib.decDigits_one (by omega)]
    rfl
  · have h := specDigits_l n.natAbs n (decide (n < 0)) [] rfl h0 h1 (by have := ndigs_le n.natAbs (by omega); simp; omega)
    have e : (⟨((if decide (n < 0) = true then [45] else []) ++ digs n.natAbs ++ []).toArray⟩ : ByteArray) = itoaB n := by
      have hz : ¬ n.natAbs = 0 := by omega
      unfold itoaB Lib.itoa digs
      by_cases hb : n < 0
      · simp only [if_pos hb, if_neg hz, decide_eq_true hb, if_true, List.append_nil]
        rfl
      · have ht : n.natAbs = n.toNat := by omega
        simp only [if_neg hb, ht, decide_eq_false hb, List.append_nil, List.nil_append, Bool.false_eq_true, if_false, if_neg (show ¬ n.toNat = 0 by omega)]
    rw [e] at h
    refine Ev.congr (fun k => ?_) h
    simp only [spec_Digits.f]
    rw [if_neg hn]
theorem itoaB_size (n : Int) (h0 : -9223372036854775808 ≤ n) (h1 : n ≤ 9223372036854775807) : (itoaB n).size ≤ 21 := by
  unfold itoaB
  rw [bytes_size]
  exact Lib.itoa_length_le n h0 h1
def vecTextB (a b c d : Int) : ByteArray := ((((((itoaB a ++ (⟨#[46]⟩ : ByteArray)) ++ itoaB b) ++ (⟨#[46]⟩ : ByteArray)) ++ itoaB c) ++ (⟨#[46]⟩ : ByteArray)) ++ itoaB d)
theorem dot_size (x : UInt8) : (⟨#[x]⟩ : ByteArray).size = 1 := rfl
theorem in64 {x : Int} : (-9223372036854775808 ≤ x ∧ x ≤ 9223372036854775807) → (-9223372036854775808 ≤ x ∧ x ≤ 9223372036854775807) := id
theorem vecTextB_size (a b c d : Int) (ha : -9223372036854775808 ≤ a ∧ a ≤ 9223372036854775807) (hb : -9223372036854775808 ≤ b ∧ b ≤ 9223372036854775807) (hc : -9223372036854775808 ≤ c ∧ c ≤ 9223372036854775807) (hd : -9223372036854775808 ≤ d ∧ d ≤ 9223372036854775807) : (vecTextB a b c d).size ≤ 87 := by
  have s1 := itoaB_size a ha.1 ha.2
  have s2 := itoaB_size b hb.1 hb.2
  have s3 := itoaB_size c hc.1 hc.2
  have s4 := itoaB_size d hd.1 hd.2
  simp only [vecTextB, ByteArray.size_append, dot_size]
  omega
theorem specVecText_ev (a b c d : Int) (ha : -9223372036854775808 ≤ a ∧ a ≤ 9223372036854775807) (hb : -9223372036854775808 ≤ b ∧ b ≤ 9223372036854775807) (hc : -9223372036854775808 ≤ c ∧ c ≤ 9223372036854775807) (hd : -9223372036854775808 ≤ d ∧ d ≤ 9223372036854775807) :
    Ev (fun k => spec_VecText.f k a b c d) (vecTextB a b c d) := by
  have s1 := itoaB_size a ha.1 ha.2
  have s2 := itoaB_size b hb.1 hb.2
  have s3 := itoaB_size c hc.1 hc.2
  have s4 := itoaB_size d hd.1 hd.2
  obtain ⟨K1, h1⟩ := specDigits_ev a ha.1 ha.2
  obtain ⟨K2, h2⟩ := specDigits_ev b hb.1 hb.2
  obtain ⟨K3, h3⟩ := specDigits_ev c hc.1 hc.2
  obtain ⟨K4, h4⟩ := specDigits_ev d hd.1 hd.2
  refine ⟨K1 + K2 + K3 + K4, fun k hk => ?_⟩
  have h1 := h1 k (by omega)
  have h2 := h2 k (by omega)
  have h3 := h3 k (by omega)
  have h4 := h4 k (by omega)
  simp only [spec_VecText.f]
  simp only [h1, h2, h3, h4]
  simp only [Option.bind_some, ByteArray.size_append, dot_size]
  rw [if_pos (by omega), if_pos (by omega), if_pos (by omega), if_pos (by omega), if_pos (by omega), if_pos (by omega)]
  rfl
theorem implVecText_eq (k : Nat) (a b c d : Int) (ha : -9223372036854775808 ≤ a ∧ a ≤ 9223372036854775807) (hb : -9223372036854775808 ≤ b ∧ b ≤ 9223372036854775807) (hc : -9223372036854775808 ≤ c ∧ c ≤ 9223372036854775807) (hd : -9223372036854775808 ≤ d ∧ d ≤ 9223372036854775807) :
    impl_VecText.f k a b c d = some (vecTextB a b c d) := by
  have s1 := itoaB_size a ha.1 ha.2
  have s2 := itoaB_size b hb.1 hb.2
  have s3 := itoaB_size c hc.1 hc.2
  have s4 := itoaB_size d hd.1 hd.2
  simp only [impl_VecText.f]
  rw [implDigits_eq k a ha.1 ha.2, implDigits_eq k b hb.1 hb.2, implDigits_eq k c hc.1 hc.2, implDigits_eq k d hd.1 hd.2]
  simp only [Option.bind_some, ByteArray.size_append, dot_size]
  rw [if_pos (by omega), if_pos (by omega), if_pos (by omega), if_pos (by omega), if_pos (by omega), if_pos (by omega)]
  rfl
theorem drawBetter_ev (l : List Int) (h : l.length ≤ 4194304) : ∃ a b c d a' b' c' d', Ev (fun k => spec_DrawBetter.f k l) (a, b, c, d, a', b', c', d') := by
  obtain ⟨q, hq⟩ := l1New_ev l h
  have c0 : CurOk l 0 := ⟨by omega, by omega, h⟩
  obtain ⟨a, b, c, d, i1, q1, e1, c1, _⟩ := l6Draw_some l 0 q c0
  obtain ⟨r, i2, q2, e2, c2⟩ := l1Once_some l i1 q1 4 c1
  obtain ⟨a', b', c', d', i3, q3, e3, c3, _⟩ := l6Draw_some l i2 q2 c2
  obtain ⟨K, hK⟩ := hq
  have hK : ∀ k, K ≤ k → spec_l1New.f k l = some (l, 0, q) := hK
  by_cases hr : r = true
  · refine ⟨a, b, c, d, a, b, c, d, K, fun k hk => ?_⟩
    simp only [spec_DrawBetter.f, hK k hk, e1, e2, Option.bind_some]
    rw [if_pos hr]
  · refine ⟨a, b, c, d, a', b', c', d', K, fun k hk => ?_⟩
    simp only [spec_DrawBetter.f, hK k hk, e1, e2, Option.bind_some]
    rw [if_neg hr]
    simp only [e3, Option.bind_some]
theorem drawVecOk_ev (l : List Int) (h : l.length ≤ 4194304) : ∃ a b c d, Ev (fun k => spec_DrawVecOk.f k l) (a, b, c, d) := by
  obtain ⟨q, hq⟩ := l1New_ev l h
  have c0 : CurOk l 0 := ⟨by omega, by omega, h⟩
  obtain ⟨a, b, c, d, i1, q1, e1, c1, _⟩ := l6Draw_some l 0 q c0
  obtain ⟨K, hK⟩ := hq
  have hK : ∀ k, K ≤ k → spec_l1New.f k l = some (l, 0, q) := hK
  refine ⟨a, b, c, d, K, fun k hk => ?_⟩
  simp only [spec_DrawVecOk.f, hK k hk, e1, Option.bind_some]
theorem drawVecText_ev (l : List Int) (h : l.length ≤ 4194304) : ∃ a b c d, Ev (fun k => spec_DrawVecText.f k l) (a, b, c, d) ∧ Small a ∧ Small b ∧ Small c ∧ Small d := by
  obtain ⟨q, hq⟩ := l1New_ev l h
  have c0 : CurOk l 0 := ⟨by omega, by omega, h⟩
  obtain ⟨a, b, c, d, i1, q1, e1, c1, s⟩ := l6Draw_some l 0 q c0
  obtain ⟨K, hK⟩ := hq
  have hK : ∀ k, K ≤ k → spec_l1New.f k l = some (l, 0, q) := hK
  refine ⟨a, b, c, d, ⟨K, fun k hk => ?_⟩, s⟩
  simp only [spec_DrawVecText.f, hK k hk, e1, Option.bind_some]
theorem better_self (a b c d : Int) : better a b c d a b c d = false := by
  unfold better
  apply decide_eq_false
  omega
theorem better_one (a b c d a' b' c' d' : Int) (h : ¬(a = a' ∧ b = b' ∧ c = c' ∧ d = d')) : (better a b c d a' b' c' d' != better a' b' c' d' a b c d) = true := by
  by_cases h1 : better a b c d a' b' c' d' = true
  · have h2 : better a' b' c' d' a b c d = false := by
      unfold better at h1 ⊢
      have := of_decide_eq_true h1
      apply decide_eq_false
      omega
    rw [h1, h2]
    rfl
  · have h1 : better a b c d a' b' c' d' = false := by simpa using h1
    have h2 : better a' b' c' d' a b c d = true := by
      unfold better at h1 ⊢
      have := of_decide_eq_false h1
      apply decide_eq_true
      omega
    rw [h1, h2]
    rfl
theorem FnVecs : FnVecsPure := by
  intro l hl
  by_cases hbig : (l.length : Int) > 1048576
  · exact ⟨0, by simp [laws_FnVecs.f, laws_big.f, hbig]⟩
  have hl4 : l.length ≤ 4194304 := by omega
  obtain ⟨a, b, c, d, a', b', c', d', K1, h1⟩ := drawBetter_ev l hl4
  obtain ⟨e, f, g, h, K2, h2⟩ := drawVecOk_ev l hl4
  obtain ⟨x, y, z, u, ⟨K3, h3⟩, sx, sy, sz, su⟩ := drawVecText_ev l hl4
  obtain ⟨K4, h4⟩ := specVecText_ev x y z u sx.in64 sy.in64 sz.in64 su.in64
  obtain ⟨K5, h5⟩ := implBetter_ev a b c d a' b' c' d'
  obtain ⟨K6, h6⟩ := implBetter_ev a' b' c' d' a b c d
  obtain ⟨S, hS⟩ : ∃ S, S = K1 + K2 + K3 + K4 + K5 + K6 := ⟨_, rfl⟩
  refine ⟨S + 1, ?_⟩
  have h1 := h1 (S + 1) (by omega)
  have h2 := h2 (S + 1) (by omega)
  have h3 := h3 (S + 1) (by omega)
  have h4 := h4 (S + 1) (by omega)
  have h5' := h5 S (by omega)
  have h5 := h5 (S + 1) (by omega)
  have h6 := h6 S (by omega)
  have ht := implVecText_eq (S + 1) x y z u sx.in64 sy.in64 sz.in64 su.in64
  simp only [laws_FnVecs.f, laws_big.f, decide_eq_false hbig, Option.bind_some, Bool.false_eq_true, if_false, h1, h2, h3, h4, h5, ht, specBetter_eq, implVecOk_eq, specVecOk_eq, bne_self_eq_false, laws_FnVecs.j0]
  by_cases hs : a = a' ∧ b = b' ∧ c = c' ∧ d = d'
  · obtain ⟨rfl, rfl, rfl, rfl⟩ := hs
    simp only [beq_self_eq_true, Bool.and_self, if_true, h5', Option.bind_some, better_self]
    rfl
  · have hn : ¬ ((a == a' && (b == b' && (c == c' && (d == d')))) = true) := by
      simp only [Bool.and_eq_true, beq_iff_eq]
      exact hs
    rw [if_neg hn]
    simp only [h5', h6, Option.bind_some, better_one a b c d a' b' c' d' hs]
end Go.Proofs.YtjaldondohddpaaDoor.Pure

/- The statement of laws.FnExactFrameOf over numbers and lists alone: at every input it answers true. No condition but that the numbers are those of their kinds and that no slice is longer than a Go slice can be. -/
import Derived.Test.YtjmkbmpfknhcdaaPFnExactFrameOfx7
import Derived.Test.YtjmkbmpfknhcdaaBase
import Derived.Laws.BitsLemmas
import Derived.Lib.Strings
import Derived.Laws.BitsLemmas
set_option linter.unusedVariables false
set_option linter.unusedSimpArgs false
namespace Go.Proofs.Ytjmkbmpfknhcdaa.Pure
open Go.RowKit Go.Proofs.Ytjmkbmpfknhcdaa.PFnExactFrameOf Go.Proofs.Ytjmkbmpfknhcdaa.Base Go.Proofs.YtjmkbmpfknhcdaaW.PrintWords Go.Proofs.YtjmkbmpfknhcdaaW.PrintLast Go.Proofs.YtjmkbmpfknhcdaaW.PrintMore
def FnExactFrameOfPure : Prop := ∀ (l0 : List (Int)), (l0.length ≤ maxLen ∧ ∀ x ∈ l0, (Lit.int .u8 x).wf = true) → ∃ k, laws_FnExactFrameOf.f k l0 = some true
/-- The number that begins at the i-th byte of a number, of which n is read: it and how many bytes it has. -/
def getM : Nat → Int → List Int → Option (Int × Nat)
  | _, _, [] => none
  | i, n, x :: t => if i < 5 then
      (if x < 128 then (if x = 0 ∧ 0 < i ∨ n + x % 128 * 128 ^ i > 2147483647 then none else some (n + x % 128 * 128 ^ i, i + 1)) else getM (i + 1) (n + x % 128 * 128 ^ i) t)
    else none
/-- What GetNum answers. -/
def getNum (l : List Int) (at_ : Int) : Int × Int × Bool :=
  if at_ < 0 then (0, 0, false) else match getM 0 0 (l.drop at_.toNat) with
    | none => (0, 0, false)
    | some (n, c) => (n, at_ + c, true)
theorem i64_wraps (n : Int) (h0 : 0 ≤ n) (h1 : n < 2 ^ 62) : IntKind.i64.wrap n = n := by
  rw [IntKind.wrap_i64]
  omega
theorem or_comm64 (a b : Int) : Go.bits .or .i64 a b = Go.bits .or .i64 b a := by simp only [Go.bits, BitVec.or_comm]
theorem or_join (i : Nat) (n d : Int) (hi : i < 5) (h0 : 0 ≤ n) (h1 : n < 128 ^ i) (h2 : 0 ≤ d) (h3 : d < 128) :
    Go.bits .or .i64 n (shl .i64 d (7 * (i : Int))) = n + d * 128 ^ i := by
  have key : ∀ j : Nat, j ≤ 28 → n < 2 ^ j → (2 : Int) ^ j ≤ 268435456 → Go.bits .or .i64 n (IntKind.i64.wrap (d * 2 ^ j)) = n + d * 2 ^ j := by
    intro j hj hn hp
    have hp0 : (0 : Int) < 2 ^ j := Int.pow_pos (by decide)
    have hd0 : 0 ≤ d * 2 ^ j := Int.mul_nonneg h2 (Int.le_of_lt hp0)
    have hd1 : d * 2 ^ j ≤ 127 * 268435456 := by
      calc d * 2 ^ j ≤ 127 * 2 ^ j := Int.mul_le_mul_of_nonneg_right (by omega) (Int.le_of_lt hp0)
        _ ≤ 127 * 268435456 := Int.mul_le_mul_of_nonneg_left hp (by decide)
    rw [i64_wraps _ hd0 (by omega), or_comm64, Go.bits_join .i64 62 (by decide) i64_wraps j _ _ hd0 (Int.mul_emod_left _ _) (by omega) h0 hn (by omega)]
    omega
  match i, hi with
  | 0, _ => have := key 0 (by decide) (by simpa using h1) (by decide); simpa [shl, IntKind.bits] using this
  | 1, _ => have := key 7 (by decide) (by simpa using h1) (by decide); simpa [shl, IntKind.bits] using this
  | 2, _ => have := key 14 (by decide) (by simpa using h1) (by decide); simpa [shl, IntKind.bits] using this
  | 3, _ => have := key 21 (by decide) (by simpa using h1) (by decide); simpa [shl, IntKind.bits] using this
  | 4, _ => have := key 28 (by decide) (by simpa using h1) (by decide); simpa [shl, IntKind.bits] using this
theorem and_127 (x : Int) (h0 : 0 ≤ x) (h1 : x < 256) : Go.bits .and .i64 x 127 = x % 128 := by
  have := Go.bits_mask .i64 62 (by decide) i64_wraps 7 (by decide) x h0 (by omega)
  simpa using this
theorem pow_step (i : Nat) (n d : Int) (h0 : 0 ≤ n) (h1 : n < 128 ^ i) (h2 : 0 ≤ d) (h3 : d < 128) : 0 ≤ n + d * 128 ^ i ∧ n + d * 128 ^ i < 128 ^ (i + 1) := by
  have hp : (0 : Int) < 128 ^ i := Int.pow_pos (by decide)
  have a : 0 ≤ d * 128 ^ i := Int.mul_nonneg h2 (Int.le_of_lt hp)
  have b : d * 128 ^ i ≤ 127 * 128 ^ i := Int.mul_le_mul_of_nonneg_right (by omega) (Int.le_of_lt hp)
  rw [Int.pow_succ]
  omega
def frameOk (a b c : Int) (l : List Int) : Bool := decide (0 ≤ a ∧ a ≤ 9 ∧ 1 ≤ b ∧ b ≤ 9 ∧ 0 ≤ c ∧ c ≤ 4 ∧ l.length ≤ 30)
theorem frameOk_iff' (a b c : Int) (l : List Int) : frameOk a b c l = true ↔ 0 ≤ a ∧ a ≤ 9 ∧ 1 ≤ b ∧ b ≤ 9 ∧ 0 ≤ c ∧ c ≤ 4 ∧ l.length ≤ 30 := by simp [frameOk]
/-- The two running sums. -/
def sumM (x y : Int) : List Int → Int
  | [] => y * 65536 + x
  | b :: t => sumM ((x + b) % 65521) ((y + (x + b) % 65521) % 65521) t
def sumOf (l : List Int) : Int := sumM 1 0 l
theorem sumM_range : ∀ (l : List Int) (x y : Int), 0 ≤ x → x < 65521 → 0 ≤ y → y < 65521 → 0 ≤ sumM x y l ∧ sumM x y l < 4294967296 := by
  intro l
  induction l with
  | nil => intro x y h0 h1 h2 h3; simp only [sumM]; omega
  | cons b t ih => intro x y h0 h1 h2 h3; simp only [sumM]; exact ih _ _ (by omega) (by omega) (by omega) (by omega)
theorem sumOf_range (l : List Int) : 0 ≤ sumOf l ∧ sumOf l < 4294967296 := sumM_range l 1 0 (by omega) (by omega) (by omega) (by omega)
def four (s : Int) : List Int := [s % 256, s / 256 % 256, s / 65536 % 256, s / 16777216 % 256]
theorem four_bytes (s : Int) : ∀ x ∈ four s, 0 ≤ x ∧ x < 256 := by
  intro x hx
  simp only [four, List.mem_cons, List.not_mem_nil, or_false] at hx
  omega
def summedM (l : List Int) : List Int := l ++ four (sumOf l)
/-- A number's bytes, seven bits each, the low ones first. -/
def putM (n : Nat) : List Int := if n > 127 then (((n % 128 + 128 : Nat) : Int)) :: putM (n / 128) else [(n : Int)]
termination_by n
decreasing_by omega
theorem putM_length (n : Nat) : (putM n).length ≤ n + 1 := by
  induction n using Nat.strongRecOn with
  | ind n ih =>
    rw [putM]
    split
    · have := ih (n / 128) (by omega)
      simp
      omega
    · simp
theorem putM_bytes (n : Nat) : ∀ x ∈ putM n, 0 ≤ x ∧ x < 256 := by
  induction n using Nat.strongRecOn with
  | ind n ih =>
    rw [putM]
    split
    · intro x hx
      rcases List.mem_cons.1 hx with rfl | hx
      · omega
      · exact ih (n / 128) (by omega) x hx
    · intro x hx
      simp at hx
      omega
/-- PutNum: nothing of a number that is below 0 or above the greatest. -/
def putNum (n : Int) : List Int := if 0 ≤ n ∧ n ≤ 2147483647 then putM n.toNat else []
theorem putM_short (n : Nat) (h : n ≤ 2147483647) : (putM n).length ≤ 5 := by
  have h1 : ∀ m, m ≤ 127 → (putM m).length = 1 := by
    intro m hm
    rw [putM, if_neg (by omega)]
    rfl
  have st : ∀ m b c, (∀ m', m' ≤ b → (putM m').length ≤ c) → m / 128 ≤ b → (putM m).length ≤ c + 1 := by
    intro m b c hh hm
    rw [putM]
    split
    · have := hh _ hm
      simp
      omega
    · simp
  have a1 : ∀ m, m ≤ 127 → (putM m).length ≤ 1 := fun m hm => by rw [h1 m hm]; omega
  have a2 : ∀ m, m ≤ 16383 → (putM m).length ≤ 2 := fun m hm => st m 127 1 a1 (by omega)
  have a3 : ∀ m, m ≤ 2097151 → (putM m).length ≤ 3 := fun m hm => st m 16383 2 a2 (by omega)
  have a4 : ∀ m, m ≤ 268435455 → (putM m).length ≤ 4 := fun m hm => st m 2097151 3 a3 (by omega)
  exact st n 268435455 4 a4 (by omega)
theorem putNum_short (n : Int) : (putNum n).length ≤ 5 := by
  unfold putNum
  split
  · exact putM_short _ (by omega)
  · simp
theorem putNum_bytes (n : Int) : ∀ x ∈ putNum n, 0 ≤ x ∧ x < 256 := by
  unfold putNum
  split
  · exact putM_bytes _
  · simp
def frameBytesM (a b c : Int) (l : List Int) : List Int := if frameOk a b c l then summedM ([a, b, c] ++ putNum l.length ++ l) else []
theorem frameOk_iff (a b c : Int) (l : List Int) : frameOk a b c l = true ↔ 0 ≤ a ∧ a ≤ 9 ∧ 1 ≤ b ∧ b ≤ 9 ∧ 0 ≤ c ∧ c ≤ 4 ∧ l.length ≤ 30 := by simp [frameOk]
theorem frame_body_bytes (a b c : Int) (l : List Int) (h : frameOk a b c l = true) (hb : ∀ x ∈ l, 0 ≤ x ∧ x < 256) : ∀ x ∈ [a, b, c] ++ putNum l.length ++ l, 0 ≤ x ∧ x < 256 := by
  have hf := (frameOk_iff a b c l).1 h
  intro x hx
  rcases List.mem_append.1 hx with hx | hx
  · rcases List.mem_append.1 hx with hx | hx
    · simp only [List.mem_cons, List.not_mem_nil, or_false] at hx
      omega
    · exact putNum_bytes _ x hx
  · exact hb x hx
theorem frameBytesM_length (a b c : Int) (l : List Int) : (frameBytesM a b c l).length ≤ 42 := by
  unfold frameBytesM
  split
  · rename_i h
    have hf := (frameOk_iff a b c l).1 h
    have := putNum_short (l.length : Int)
    simp [summedM, four]
    omega
  · simp
theorem pow128 (i : Nat) : (0 : Int) < 128 ^ i := Int.pow_pos (by decide)
theorem getM_some : ∀ (l : List Int) (i : Nat) (acc : Int) (n : Int) (c : Nat), 0 ≤ acc → (∀ x ∈ l, 0 ≤ x ∧ x < 256) → getM i acc l = some (n, c) → 0 ≤ n ∧ n ≤ 2147483647 ∧ i < c ∧ c ≤ i + l.length ∧ c ≤ 5 := by
  intro l
  induction l with
  | nil => intro i acc n c _ _ h; simp [getM] at h
  | cons x t ih =>
    intro i acc n c h0 hb h
    have hx := hb x (by simp)
    have hp : 0 ≤ x % 128 * 128 ^ i := Int.mul_nonneg (by omega) (Int.le_of_lt (pow128 i))
    rw [getM] at h
    by_cases h5 : i < 5
    · rw [if_pos h5] at h
      by_cases h128 : x < 128
      · rw [if_pos h128] at h
        split at h
        · cases h
        · rename_i hn
          injection h with h
          injection h with h1 h2
          subst h1
          subst h2
          refine ⟨by omega, by omega, by omega, by simp, by omega⟩
      · rw [if_neg h128] at h
        have := ih (i + 1) (acc + x % 128 * 128 ^ i) n c (by omega) (fun y hy => hb y (by simp [hy])) h
        simp only [List.length_cons]
        omega
    · rw [if_neg h5] at h
      cases h
theorem getM_putM (m : Nat) : ∀ (i : Nat) (acc : Int) (t : List Int), 0 ≤ acc → i + (putM m).length ≤ 5 → (0 < i → m ≠ 0) → acc + (m : Int) * 128 ^ i ≤ 2147483647 → getM i acc (putM m ++ t) = some (acc + (m : Int) * 128 ^ i, i + (putM m).length) := by
  induction m using Nat.strongRecOn with
  | ind m ih =>
    intro i acc t h0 h5 hz hn
    rw [putM] at h5 ⊢
    by_cases hb : m > 127
    · rw [if_pos hb] at h5 ⊢
      simp only [List.length_cons] at h5 ⊢
      have hp := pow128 i
      have e : (m : Int) * 128 ^ i = ((m % 128 : Nat) : Int) * 128 ^ i + ((m / 128 : Nat) : Int) * 128 ^ (i + 1) := by
        have hm : (m : Int) = ((m % 128 : Nat) : Int) + ((m / 128 : Nat) : Int) * 128 := by omega
        conv => lhs; rw [hm]
        rw [Int.pow_succ, Int.add_mul, Int.mul_assoc, Int.mul_comm 128 (128 ^ i)]
      have hq : 0 ≤ ((m % 128 : Nat) : Int) * 128 ^ i := Int.mul_nonneg (by omega) (Int.le_of_lt hp)
      have r := ih (m / 128) (by omega) (i + 1) (acc + ((m % 128 : Nat) : Int) * 128 ^ i) t (by omega) (by omega) (fun _ => by omega) (by rw [e] at hn; omega)
      rw [List.cons_append, getM, if_pos (by omega), if_neg (by omega)]
      have em : (((m % 128 + 128 : Nat) : Int)) % 128 = ((m % 128 : Nat) : Int) := by omega
      rw [em, r, e]
      simp only [Option.some.injEq, Prod.mk.injEq]
      constructor <;> omega
    · rw [if_neg hb] at h5 ⊢
      simp only [List.length_cons, List.length_nil] at h5 ⊢
      rw [List.cons_append, getM, if_pos (by omega), if_pos (by omega)]
      have em : (m : Int) % 128 = (m : Int) := by omega
      rw [em, if_neg (by omega)]
theorem putNum_nat (n : Int) (h0 : 0 ≤ n) (h1 : n ≤ 2147483647) : putNum n = putM n.toNat := by
  unfold putNum
  rw [if_pos ⟨h0, h1⟩]
theorem getNum_body (a b c n : Int) (t : List Int) (h0 : 0 ≤ n) (h1 : n ≤ 2147483647) : getNum ([a, b, c] ++ putNum n ++ t) 3 = (n, 3 + ((putNum n).length : Int), true) := by
  have hs := putNum_short n
  have e := getM_putM n.toNat 0 0 t (by omega) (by rw [← putNum_nat n h0 h1]; omega) (by omega) (by simp; omega)
  unfold getNum
  rw [if_neg (by omega)]
  have ed : ([a, b, c] ++ putNum n ++ t).drop (3 : Int).toNat = putM n.toNat ++ t := by
    rw [putNum_nat n h0 h1]
    simp
  rw [ed, e]
  have en : ((n.toNat : Nat) : Int) = n := by omega
  simp [putNum_nat n h0 h1, en]
theorem getNum_ok (l : List Int) (hb : ∀ x ∈ l, 0 ≤ x ∧ x < 256) (h : (getNum l 3).2.2 = true) : 0 ≤ (getNum l 3).1 ∧ (getNum l 3).1 ≤ 2147483647 ∧ 4 ≤ (getNum l 3).2.1 ∧ (getNum l 3).2.1 ≤ l.length ∧ 3 < l.length := by
  unfold getNum at h ⊢
  rw [if_neg (by omega)] at h ⊢
  have hd : ∀ x ∈ l.drop (3 : Int).toNat, 0 ≤ x ∧ x < 256 := fun x hx => hb x (List.mem_of_mem_drop hx)
  cases e : getM 0 0 (l.drop (3 : Int).toNat) with
  | none => rw [e] at h; cases h
  | some p =>
    obtain ⟨n, c⟩ := p
    have := getM_some _ 0 0 n c (by omega) hd e
    have el : (l.drop (3 : Int).toNat).length = l.length - 3 := by simp
    rw [e] at h
    rw [el] at this
    dsimp only
    omega
def cutM (l : List Int) (a n : Int) : List Int := (l.take (a + n).toNat).drop a.toNat
/-- What FrameOf answers. -/
def frameOfM (l : List Int) : Int × Int × Int × List Int × Bool :=
  if (getNum l 3).2.2 = true ∧ (getNum l 3).1 = (l.length : Int) - (getNum l 3).2.1 - 4 ∧ frameBytesM (rd l 0) (rd l 1) (rd l 2) (cutM l (getNum l 3).2.1 (getNum l 3).1) = l then
    (rd l 0, rd l 1, rd l 2, cutM l (getNum l 3).2.1 (getNum l 3).1, true)
  else (0, 0, 0, [], false)
theorem summedM_bytes (l : List Int) (h : ∀ x ∈ l, 0 ≤ x ∧ x < 256) : ∀ x ∈ summedM l, 0 ≤ x ∧ x < 256 := by
  intro x hx
  rcases List.mem_append.1 hx with hx | hx
  · exact h x hx
  · exact four_bytes _ x hx
theorem frameBytesM_bytes (a b c : Int) (l : List Int) (hb : ∀ x ∈ l, 0 ≤ x ∧ x < 256) : ∀ x ∈ frameBytesM a b c l, 0 ≤ x ∧ x < 256 := by
  unfold frameBytesM
  split
  · rename_i h
    exact summedM_bytes _ (frame_body_bytes a b c l h hb)
  · simp
theorem byte_inj {x y : Int} (hx : 0 ≤ x ∧ x < 256) (hy : 0 ≤ y ∧ y < 256) (h : UInt8.ofNat x.toNat = UInt8.ofNat y.toNat) : x = y := by
  have := congrArg UInt8.toNat h
  simp only [UInt8.toNat_ofNat'] at this
  omega
theorem strOfNums_inj : ∀ (a b : List Int), (∀ x ∈ a, 0 ≤ x ∧ x < 256) → (∀ x ∈ b, 0 ≤ x ∧ x < 256) → (strOfNums a).toList = (strOfNums b).toList → a = b := by
  intro a b ha hb h
  rw [Lib.toList_data, Lib.toList_data] at h
  simp only [strOfNums] at h
  have key : ∀ (a b : List Int), (∀ x ∈ a, 0 ≤ x ∧ x < 256) → (∀ x ∈ b, 0 ≤ x ∧ x < 256) → a.map (fun x => UInt8.ofNat x.toNat) = b.map (fun x => UInt8.ofNat x.toNat) → a = b := by
    intro a
    induction a with
    | nil =>
      intro b _ _ h
      cases b with
      | nil => rfl
      | cons y t => simp at h
    | cons x t ih =>
      intro b ha hb h
      cases b with
      | nil => simp at h
      | cons y u =>
        simp only [List.map_cons, List.cons.injEq] at h
        rw [byte_inj (ha x (by simp)) (hb y (by simp)) h.1, ih u (fun z hz => ha z (by simp [hz])) (fun z hz => hb z (by simp [hz])) h.2]
  exact key a b ha hb (by simpa using h)
theorem cut_bytes (l : List Int) (a n : Int) (hb : ∀ x ∈ l, 0 ≤ x ∧ x < 256) : ∀ x ∈ cutM l a n, 0 ≤ x ∧ x < 256 := fun x hx => hb x (List.mem_of_mem_take (List.mem_of_mem_drop hx))
theorem cut_length (l : List Int) (a n : Int) (h0 : 0 ≤ a) (h1 : 0 ≤ n) (h2 : a + n ≤ l.length) : ((cutM l a n).length : Int) = n := by
  simp only [cutM, List.length_drop, List.length_take]
  omega
/-- The program's test is the reference's. -/
theorem frameOf_tests (l : List Int) (hb : ∀ x ∈ l, 0 ≤ x ∧ x < 256) (h : (getNum l 3).2.2 = true) :
    ((getNum l 3).1 ≤ 30 ∧ (getNum l 3).1 ≤ (l.length : Int) - (getNum l 3).2.1 ∧ frameOk (rd l 0) (rd l 1) (rd l 2) (cutM l (getNum l 3).2.1 (getNum l 3).1) = true ∧ frameBytesM (rd l 0) (rd l 1) (rd l 2) (cutM l (getNum l 3).2.1 (getNum l 3).1) = l) ↔
    ((getNum l 3).1 = (l.length : Int) - (getNum l 3).2.1 - 4 ∧ frameBytesM (rd l 0) (rd l 1) (rd l 2) (cutM l (getNum l 3).2.1 (getNum l 3).1) = l) := by
  obtain ⟨g0, g1, g2, g3, g4⟩ := getNum_ok l hb h
  constructor
  · rintro ⟨h1, h2, h3, h4⟩
    refine ⟨?_, h4⟩
    have hc := cut_length l (getNum l 3).2.1 (getNum l 3).1 (by omega) g0 (by omega)
    have h5 := h4
    unfold frameBytesM at h5
    rw [if_pos h3] at h5
    unfold summedM at h5
    have hl := congrArg List.length h5
    have hg := getNum_body (rd l 0) (rd l 1) (rd l 2) (getNum l 3).1 (cutM l (getNum l 3).2.1 (getNum l 3).1 ++ four (sumOf ([rd l 0, rd l 1, rd l 2] ++ putNum ((cutM l (getNum l 3).2.1 (getNum l 3).1).length : Int) ++ cutM l (getNum l 3).2.1 (getNum l 3).1))) g0 g1
    rw [hc] at h5 hl hg
    rw [← List.append_assoc, h5] at hg
    have e2 := congrArg (fun z => z.2.1) hg
    dsimp only at e2
    simp only [List.length_append, List.length_cons, List.length_nil, four] at hl
    omega
  · rintro ⟨h1, h2⟩
    have hc := cut_length l (getNum l 3).2.1 (getNum l 3).1 (by omega) g0 (by omega)
    have h3 : frameOk (rd l 0) (rd l 1) (rd l 2) (cutM l (getNum l 3).2.1 (getNum l 3).1) = true := by
      by_cases hf : frameOk (rd l 0) (rd l 1) (rd l 2) (cutM l (getNum l 3).2.1 (getNum l 3).1) = true
      · exact hf
      · exfalso
        unfold frameBytesM at h2
        rw [if_neg hf] at h2
        rw [← h2] at g4
        simp at g4
    have hf := (frameOk_iff _ _ _ _).1 h3
    exact ⟨by omega, by omega, h3, h2⟩
theorem w64_rd {l : List Int} (hb : ∀ x ∈ l, 0 ≤ x ∧ x < 256) (i : Nat) (h : i < l.length) : wrap64 (rd l (i : Int)) = rd l (i : Int) ∧ 0 ≤ rd l (i : Int) ∧ rd l (i : Int) < 256 := by
  have hx := List.getElem?_eq_getElem h
  have := hb _ (List.getElem_mem h)
  rw [rd_at hx]
  exact ⟨w64 (by omega) (by omega), this.1, this.2⟩
theorem frameOfM_bytes (l : List Int) (hb : ∀ x ∈ l, 0 ≤ x ∧ x < 256) : (frameOfM l).2.2.2.1.length ≤ l.length := by
  unfold frameOfM
  split
  · simp only [cutM, List.length_drop, List.length_take]
    omega
  · simp
theorem specGetNum_ev (l : List Int) (a : Int) (h : l.length ≤ 4194304) (hb : ∀ x ∈ l, 0 ≤ x ∧ x < 256) (ha : -9223372036854775808 ≤ a ∧ a ≤ 9223372036854775807) : Ev (fun k => spec_GetNum.f k l a) (getNum l a) := by
  by_cases hneg : a < 0
  · refine ⟨2, fun k hk => ?_⟩
    obtain ⟨j, rfl⟩ : ∃ j, k = j + 2 := ⟨k - 2, by omega⟩
    simp [spec_GetNum.f, spec_GetNum.l0, spec_GetNum.j1, getNum, hneg]
  obtain ⟨p, rfl⟩ := Int.eq_ofNat_of_zero_le (Int.not_lt.1 hneg)
  have key : ∀ (d i : Nat) (n : Int), i + d = 5 → 0 ≤ n → n < 128 ^ i →
      Ev (fun k => spec_GetNum.l0 k l (p : Int) n (i : Int)) (match getM i n (l.drop (p + i)) with | none => (0, 0, false) | some (m, c) => (m, (p : Int) + c, true)) := by
    intro d
    induction d with
    | zero =>
      intro i n hi h0 h1
      refine ev_end fun k => ?_
      simp only [spec_GetNum.l0]
      rw [if_neg (by omega)]
      have : getM i n (l.drop (p + i)) = none := by
        cases l.drop (p + i) with
        | nil => rfl
        | cons x t => rw [getM, if_neg (by omega)]
      rw [this]
    | succ d ih =>
      intro i n hi h0 h1
      by_cases hin : p + i < l.length
      · have e : l.drop (p + i) = l[p + i] :: l.drop (p + (i + 1)) := by rw [List.drop_eq_getElem_cons hin]; rfl
        rw [e]
        generalize hx : l[p + i] = x
        have hxx : l[p + i]? = some x := by rw [← hx]; exact List.getElem?_eq_getElem hin
        have hxb := hb x (List.mem_of_getElem? hxx)
        have hr : rd l ((p : Int) + (i : Int)) = x := by have := rd_at hxx; simpa using this
        have hpw := pow_step i n (x % 128) h0 h1 (by omega) (by omega)
        have hor : Go.bits .or .i64 n (shl .i64 (x % 128) (7 * (i : Int))) = n + x % 128 * 128 ^ i := or_join i n _ (by omega) h0 h1 (by omega) (by omega)
        have s1 : ∀ k, spec_GetNum.l0 (k + 1) l (p : Int) n (i : Int) = spec_GetNum.j1 k l (p : Int) n (i : Int) false := by
          intro k
          simp only [spec_GetNum.l0]
          rw [if_pos (by omega), if_neg (by omega), w64 (by omega) (by omega)]
          congr 1
          rw [decide_eq_false_iff_not]
          omega
        by_cases hx128 : x < 128
        · rw [getM, if_pos (show i < 5 by omega), if_pos hx128]
          refine Ev.step s1 (ev_end fun k => ?_)
          simp only [spec_GetNum.j1]
          rw [if_neg (by simp), w64 (x := (p : Int) + (i : Int)) (by omega) (by omega), hr, w64 (x := 7 * (i : Int)) (by omega) (by omega), w64 (x := x) (by omega) (by omega),
            if_pos (by omega), if_pos (by omega), if_pos (by omega), if_pos hx128, Int.tmod_eq_emod_of_nonneg hxb.1, hor, w64 (x := (p : Int) + (i : Int) + 1) (by omega) (by omega)]
          by_cases hi0 : 0 < i
          · rw [if_pos (by omega)]
            by_cases hx0 : x = 0
            · rw [if_pos hx0, if_pos (Or.inl ⟨hx0, hi0⟩)]
            · rw [if_neg hx0]
              by_cases hbig : n + x % 128 * 128 ^ i > 2147483647
              · rw [if_pos hbig, if_pos (Or.inr hbig)]
              · rw [if_neg hbig, if_neg (by omega)]
                simp
                omega
          · rw [if_neg (by omega)]
            by_cases hbig : n + x % 128 * 128 ^ i > 2147483647
            · rw [if_pos hbig, if_pos (Or.inr hbig)]
            · rw [if_neg hbig, if_neg (by omega)]
              simp
              omega
        · have := ih (i + 1) _ (by omega) hpw.1 hpw.2
          rw [getM, if_pos (by omega), if_neg hx128]
          refine Ev.step s1 (Ev.step (fun k => ?_) this)
          simp only [spec_GetNum.j1]
          rw [if_neg (by simp), w64 (x := (p : Int) + (i : Int)) (by omega) (by omega), hr, w64 (x := 7 * (i : Int)) (by omega) (by omega), w64 (x := x) (by omega) (by omega),
            if_pos (by omega), if_pos (by omega), if_pos (by omega), if_neg hx128, Int.tmod_eq_emod_of_nonneg hxb.1, hor, w64_succ (by omega)]
      · have e : l.drop (p + i) = [] := List.drop_eq_nil_of_le (by omega)
        rw [e]
        refine Ev.step (f := fun k => spec_GetNum.j1 k l (p : Int) n (i : Int) true) (fun k => ?_) (ev_end fun k => ?_)
        · simp only [spec_GetNum.l0]
          rw [if_pos (by omega), if_neg (by omega), w64 (by omega) (by omega)]
          congr 1
          rw [decide_eq_true_iff]
          omega
        · simp only [spec_GetNum.j1, if_true]
          rfl
  have := key 5 0 0 rfl (by omega) (by simp)
  simp only [getNum, if_neg hneg]
  exact this
theorem l1In_eq (x lo hi : Int) : spec_l1In.f x lo hi = some (decide (lo ≤ x ∧ x ≤ hi)) := by
  simp only [spec_l1In.f]
  by_cases h : lo ≤ x
  · rw [if_pos h]; simp [h]
  · rw [if_neg h]; simp [h]
theorem specFrameOk_eq (a b c : Int) (l : List Int) : spec_FrameOk.f a b c l = some (frameOk a b c l) := by
  simp only [spec_FrameOk.f, l1In_eq, Option.bind_some, frameOk]
  by_cases h1 : 0 ≤ a ∧ a ≤ 9 <;> by_cases h2 : 1 ≤ b ∧ b ≤ 9 <;> by_cases h3 : 0 ≤ c ∧ c ≤ 4 <;> by_cases h4 : l.length ≤ 30 <;> simp [h1, h2, h3, h4] <;> omega
theorem specPutNum_l (n : Nat) (acc : List Int) (h : acc.length + n ≤ 70368744177664) (hn : n ≤ 2147483647) : Ev (fun k => spec_PutNum.l0 k (n : Int) acc) (acc ++ putM n) := by
  induction n using Nat.strongRecOn generalizing acc with
  | ind n ih =>
    by_cases hb : n > 127
    · have := ih (n / 128) (by omega) (acc ++ [((n % 128 + 128 : Nat) : Int)]) (by simp; omega) (by omega)
      rw [putM, if_pos hb]
      rw [List.append_assoc] at this
      refine Ev.step (fun k => ?_) this
      simp only [spec_PutNum.l0]
      rw [if_pos (by omega), if_pos (by omega), Int.tmod_eq_emod_of_nonneg (by omega), w64 (x := (n : Int) % 128 + 128) (by omega) (by omega), Int.tdiv_eq_ediv_of_nonneg (by omega), w64 (by omega) (by omega)]
      congr 2
      congr 1
      omega
    · rw [putM, if_neg hb]
      refine ev_end fun k => ?_
      simp only [spec_PutNum.l0]
      rw [if_neg (by omega), if_pos (by omega), Int.emod_eq_of_lt (by omega) (by omega)]
theorem specPutNum_ev (n : Int) : Ev (fun k => spec_PutNum.f k n) (putNum n) := by
  by_cases h : 0 ≤ n ∧ n ≤ 2147483647
  · obtain ⟨m, rfl⟩ := Int.eq_ofNat_of_zero_le h.1
    have := specPutNum_l m [] (by simp; omega) (by omega)
    refine Ev.congr (fun k => ?_) (by simpa [putNum, h] using this)
    simp [spec_PutNum.f, l1In_eq, h]
  · refine ev_some fun k => ?_
    simp [spec_PutNum.f, l1In_eq, h, putNum]
theorem specSumOf_ev (l : List Int) (h : l.length ≤ 4194304) (hb : ∀ x ∈ l, 0 ≤ x ∧ x < 256) : Ev (fun k => spec_SumOf.f k l) (sumOf l) := by
  have hh := ev_list l (fun k (s : Int × Int) i => spec_SumOf.l0 k l s.1 s.2 i) (fun s t => sumM s.1 s.2 t) (fun _ s => 0 ≤ s.1 ∧ s.1 < 65521 ∧ 0 ≤ s.2 ∧ s.2 < 65521)
    (fun s hI => by
      obtain ⟨x, y⟩ := s
      obtain ⟨a1, a2, a3, a4⟩ := hI
      dsimp only at a1 a2 a3 a4 ⊢
      refine ev_end fun k => ?_
      simp only [spec_SumOf.l0]
      rw [if_neg (by omega), w64 (x := y * 65536) (by omega) (by omega), w64 (by omega) (by omega)]
      rfl)
    (fun i s b t hI hi _ hx ih => by
      obtain ⟨x, y⟩ := s
      obtain ⟨a1, a2, a3, a4⟩ := hI
      dsimp only at a1 a2 a3 a4 ih ⊢
      have hbb := hb b (List.mem_of_getElem? hx)
      refine Ev.step (fun k => ?_) (ih ((x + b) % 65521, (y + (x + b) % 65521) % 65521) ⟨by dsimp only; omega, by dsimp only; omega, by dsimp only; omega, by dsimp only; omega⟩)
      simp only [spec_SumOf.l0]
      rw [if_pos (by omega), if_pos (by omega), rd_at hx, w64_succ (by omega), w64 (x := b) (by omega) (by omega), w64 (x := x + b) (by omega) (by omega), Int.tmod_eq_emod_of_nonneg (by omega), w64 (by omega) (by omega), Int.tmod_eq_emod_of_nonneg (by omega)])
    (1, 0) ⟨by simp, by simp, by simp, by simp⟩
  exact hh
theorem i64_wraps' (n : Int) (h0 : 0 ≤ n) (h1 : n < 2 ^ 62) : IntKind.i64.wrap n = n := by
  rw [IntKind.wrap_i64]
  omega
theorem and_255 (x : Int) (h0 : 0 ≤ x) (h1 : x < 4294967296) : Go.bits .and .i64 x 255 = x % 256 := by
  have := Go.bits_mask .i64 62 (by decide) i64_wraps' 8 (by decide) x h0 (by omega)
  simpa using this
theorem l2Sum_eq (s : Int) (h0 : 0 ≤ s) (h1 : s < 4294967296) : spec_l2Sum.f s = some (four s) := by
  simp only [spec_l2Sum.f, four]
  rw [and_255 s h0 h1, and_255 (s / 256) (by omega) (by omega), and_255 (s / 65536) (by omega) (by omega), and_255 (s / 16777216) (by omega) (by omega)]
  simp
theorem specFrameBytes_ev (a b c : Int) (l : List Int) (hb : ∀ x ∈ l, 0 ≤ x ∧ x < 256) : Ev (fun k => spec_FrameBytes.f k a b c l) (frameBytesM a b c l) := by
  simp only [spec_FrameBytes.f, specFrameOk_eq, Option.bind_some, frameBytesM]
  by_cases h : frameOk a b c l = true
  · have hf := (frameOk_iff a b c l).1 h
    have hs := putNum_short (l.length : Int)
    have hy := frame_body_bytes a b c l h hb
    simp only [h, if_true]
    refine Ev.bind (specPutNum_ev _) ?_
    rw [Int.emod_eq_of_lt (a := a) (by omega) (by omega), Int.emod_eq_of_lt (a := b) (by omega) (by omega), Int.emod_eq_of_lt (a := c) (by omega) (by omega)]
    have e1 : [a, b, c].length + (putNum (l.length : Int)).length < 140737488355328 := by simp; omega
    have e2 : ([a, b, c] ++ putNum (l.length : Int)).length + l.length < 140737488355328 := by simp; omega
    have e3 : ∀ s, ([a, b, c] ++ putNum (l.length : Int) ++ l).length + (four s).length < 140737488355328 := by intro s; simp [four]; omega
    simp only [e1, e2, if_true]
    refine Ev.bind (specSumOf_ev _ (by simp; omega) hy) (ev_some fun k => ?_)
    rw [l2Sum_eq _ (sumOf_range _).1 (sumOf_range _).2]
    simp only [Option.bind_some]
    rw [if_pos (e3 _)]
    rfl
  · refine ev_some fun k => ?_
    simp [h]
theorem specFrameOf_ev (l : List Int) (hl : l.length ≤ 4194304) (hb : ∀ x ∈ l, 0 ≤ x ∧ x < 256) : Ev (fun k => spec_FrameOf.f k l) (frameOfM l) := by
  simp only [spec_FrameOf.f]
  refine Ev.bind (specGetNum_ev l 3 hl hb (by omega)) ?_
  by_cases h : (getNum l 3).2.2 = true
  · simp only [h, if_true]
    obtain ⟨g0, g1, g2, g3, g4⟩ := getNum_ok l hb h
    rw [w64 (x := (l.length : Int) - (getNum l 3).2.1) (by omega) (by omega), w64 (by omega) (by omega)]
    by_cases hn : (getNum l 3).1 = (l.length : Int) - (getNum l 3).2.1 - 4
    · have hne : ((getNum l 3).1 != (l.length : Int) - (getNum l 3).2.1 - 4) = false := by simp [← hn]
      rw [hne]
      have w0 := w64_rd hb 0 (by omega)
      have w1 := w64_rd hb 1 (by omega)
      have w2 := w64_rd hb 2 (by omega)
      obtain ⟨K, hK⟩ := specFrameBytes_ev (rd l 0) (rd l 1) (rd l 2) (cutM l (getNum l 3).2.1 (getNum l 3).1) (cut_bytes l _ _ hb)
      have hK : ∀ k, K ≤ k → spec_FrameBytes.f k (rd l 0) (rd l 1) (rd l 2) (cutM l (getNum l 3).2.1 (getNum l 3).1) = some (frameBytesM (rd l 0) (rd l 1) (rd l 2) (cutM l (getNum l 3).2.1 (getNum l 3).1)) := hK
      refine Ev.step (fun _ => rfl) ⟨K, fun k hk => ?_⟩
      have e0 : wrap64 (rd l 0) = rd l 0 := w0.1
      have e1 : wrap64 (rd l 1) = rd l 1 := w1.1
      have e2 : wrap64 (rd l 2) = rd l 2 := w2.1
      have ec : (l.take ((getNum l 3).2.1 + (getNum l 3).1).toNat).drop (getNum l 3).2.1.toNat = cutM l (getNum l 3).2.1 (getNum l 3).1 := rfl
      have hc := cut_length l (getNum l 3).2.1 (getNum l 3).1 (by omega) g0 (by omega)
      simp only [spec_FrameOf.j0, Bool.false_eq_true, if_false, Option.bind_some, List.nil_append, List.length_nil, Nat.zero_add]
      rw [if_pos (by omega), if_pos (by omega), if_pos (by omega), if_pos (by omega), w64 (x := (getNum l 3).2.1 + (getNum l 3).1) (by omega) (by omega), if_pos (by omega), if_pos (by omega), ec, if_pos (by omega), e0, e1, e2, hK k hk]
      simp only [Option.bind_some]
      by_cases hf : frameBytesM (rd l 0) (rd l 1) (rd l 2) (cutM l (getNum l 3).2.1 (getNum l 3).1) = l
      · rw [if_pos (by rw [hf])]
        unfold frameOfM
        rw [if_pos ⟨h, hn, hf⟩]
      · rw [if_neg (fun e => hf (strOfNums_inj _ _ (frameBytesM_bytes _ _ _ _ (cut_bytes l _ _ hb)) hb e))]
        unfold frameOfM
        rw [if_neg (fun e => hf e.2.2)]
    · have hne : ((getNum l 3).1 != (l.length : Int) - (getNum l 3).2.1 - 4) = true := by simp [hn]
      rw [hne]
      refine ev_end fun k => ?_
      simp only [spec_FrameOf.j0, if_true]
      unfold frameOfM
      rw [if_neg (fun e => hn e.2.1)]
  · have hz : frameOfM l = (0, 0, 0, [], false) := by
      unfold frameOfM
      rw [if_neg (fun e => h e.1)]
    rw [hz]
    simp only [if_neg h]
    refine ev_end fun k => ?_
    simp only [spec_FrameOf.j0, if_true]
theorem implGetNum_ev (l : List Int) (a : Int) (h : l.length ≤ 4194304) (hb : ∀ x ∈ l, 0 ≤ x ∧ x < 256) (ha : -9223372036854775808 ≤ a ∧ a ≤ 9223372036854775807) : Ev (fun k => impl_GetNum.f k l a) (getNum l a) := by
  by_cases hneg : a < 0
  · exact ev_some fun k => by simp [impl_GetNum.f, getNum, hneg]
  obtain ⟨p, rfl⟩ := Int.eq_ofNat_of_zero_le (Int.not_lt.1 hneg)
  have key : ∀ (d i : Nat) (n : Int), i + d = 5 → 0 ≤ n → n < 128 ^ i →
      Ev (fun k => impl_GetNum.l0 k l (p : Int) n (i : Int)) (match getM i n (l.drop (p + i)) with | none => (0, 0, false) | some (m, c) => (m, (p : Int) + c, true)) := by
    intro d
    induction d with
    | zero =>
      intro i n hi h0 h1
      refine Ev.step (f := fun k => impl_GetNum.j1 k l (p : Int) n (i : Int) false) (fun k => by simp only [impl_GetNum.l0]; rw [if_neg (by omega)]) (ev_end fun k => ?_)
      simp only [impl_GetNum.j1]
      rw [if_neg (by simp)]
      have : getM i n (l.drop (p + i)) = none := by
        cases l.drop (p + i) with
        | nil => rfl
        | cons x t => rw [getM, if_neg (by omega)]
      rw [this]
    | succ d ih =>
      intro i n hi h0 h1
      by_cases hin : p + i < l.length
      · have e : l.drop (p + i) = l[p + i] :: l.drop (p + (i + 1)) := by rw [List.drop_eq_getElem_cons hin]; rfl
        rw [e]
        generalize hx : l[p + i] = x
        have hxx : l[p + i]? = some x := by rw [← hx]; exact List.getElem?_eq_getElem hin
        have hxb := hb x (List.mem_of_getElem? hxx)
        have hr : rd l ((p : Int) + (i : Int)) = x := by have := rd_at hxx; simpa using this
        have hu : ∀ y : Int, 0 ≤ y → y < 100 → IntKind.u64.wrap y = y := fun y h0 h1 => by simp [IntKind.wrap, IntKind.bits, IntKind.signed]; omega
        have hand := and_127 x hxb.1 hxb.2
        have hpw := pow_step i n (x % 128) h0 h1 (by omega) (by omega)
        have hor : Go.bits .or .i64 n (shl .i64 (x % 128) (7 * (i : Int))) = n + x % 128 * 128 ^ i := or_join i n _ (by omega) h0 h1 (by omega) (by omega)
        have s1 : ∀ k, impl_GetNum.l0 (k + 1) l (p : Int) n (i : Int) = impl_GetNum.j1 k l (p : Int) n (i : Int) true := by
          intro k
          simp only [impl_GetNum.l0]
          rw [if_pos (by omega), w64 (by omega) (by omega)]
          congr 1
          rw [decide_eq_true_iff]
          omega
        by_cases hx128 : x < 128
        · rw [getM, if_pos (show i < 5 by omega), if_pos hx128]
          refine Ev.step s1 (ev_end fun k => ?_)
          simp only [impl_GetNum.j1]
          rw [if_pos trivial, w64 (x := (p : Int) + (i : Int)) (by omega) (by omega), hr, w64 (x := 7 * (i : Int)) (by omega) (by omega), hu (7 * (i : Int)) (by omega) (by omega), w64 (x := x) (by omega) (by omega),
            if_pos (by omega), if_pos (by omega), if_pos (by omega), if_neg (by omega), hand, hor, w64 (x := (p : Int) + (i : Int) + 1) (by omega) (by omega)]
          by_cases hx0 : x = 0
          · rw [if_pos hx0]
            by_cases hi0 : 0 < i
            · rw [if_pos (by omega), if_pos (Or.inl ⟨hx0, hi0⟩)]
            · rw [if_neg (by omega)]
              by_cases hbig : n + x % 128 * 128 ^ i > 2147483647
              · rw [if_pos hbig, if_pos (Or.inr hbig)]
              · rw [if_neg hbig, if_neg (by omega)]
                simp
                omega
          · rw [if_neg hx0]
            by_cases hbig : n + x % 128 * 128 ^ i > 2147483647
            · rw [if_pos hbig, if_pos (Or.inr hbig)]
            · rw [if_neg hbig, if_neg (by omega)]
              simp
              omega
        · have := ih (i + 1) _ (by omega) hpw.1 hpw.2
          rw [getM, if_pos (by omega), if_neg hx128]
          refine Ev.step s1 (Ev.step (fun k => ?_) this)
          simp only [impl_GetNum.j1]
          rw [if_pos trivial, w64 (x := (p : Int) + (i : Int)) (by omega) (by omega), hr, w64 (x := 7 * (i : Int)) (by omega) (by omega), hu (7 * (i : Int)) (by omega) (by omega), w64 (x := x) (by omega) (by omega),
            if_pos (by omega), if_pos (by omega), if_pos (by omega), if_pos (by omega), hand, hor, w64_succ (by omega)]
      · have e : l.drop (p + i) = [] := List.drop_eq_nil_of_le (by omega)
        rw [e]
        refine Ev.step (f := fun k => impl_GetNum.j1 k l (p : Int) n (i : Int) false) (fun k => ?_) (ev_end fun k => ?_)
        · simp only [impl_GetNum.l0]
          rw [if_pos (by omega), w64 (by omega) (by omega)]
          congr 1
          rw [decide_eq_false_iff_not]
          omega
        · simp only [impl_GetNum.j1]
          rw [if_neg (by simp)]
          rfl
  have := key 5 0 0 rfl (by omega) (by simp)
  simp only [getNum, impl_GetNum.f, if_neg hneg]
  exact this
theorem inRange_eq (x lo hi : Int) : impl_inRange.f x lo hi = some (decide (lo ≤ x ∧ x ≤ hi)) := by
  simp only [impl_inRange.f]
  by_cases h : lo ≤ x
  · rw [if_pos h]; simp [h]
  · rw [if_neg h]; simp [h]
theorem isAddr_eq (x : Int) : impl_isAddr.f x = some (decide (1 ≤ x ∧ x ≤ 9)) := by simp [impl_isAddr.f, inRange_eq]
theorem implFrameOk_eq (a b c : Int) (l : List Int) : impl_FrameOk.f a b c l = some (frameOk a b c l) := by
  simp only [impl_FrameOk.f, inRange_eq, isAddr_eq, Option.bind_some, frameOk]
  by_cases h1 : 0 ≤ a ∧ a ≤ 9 <;> by_cases h2 : 1 ≤ b ∧ b ≤ 9 <;> by_cases h3 : 0 ≤ c ∧ c ≤ 4 <;> by_cases h4 : l.length ≤ 30 <;> simp [h1, h2, h3, h4] <;> omega
def putNumsM (l : List Int) : List Int := l.flatMap putNum
theorem putNumsM_length (l : List Int) : (putNumsM l).length ≤ 5 * l.length := by
  induction l with
  | nil => simp [putNumsM]
  | cons x t ih =>
    have h1 := putNum_short x
    simp only [putNumsM, List.flatMap_cons, List.length_append, List.length_cons] at *
    omega
theorem putNumsM_bytes (l : List Int) : ∀ x ∈ putNumsM l, 0 ≤ x ∧ x < 256 := by
  intro x hx
  obtain ⟨n, _, hn⟩ := List.mem_flatMap.1 hx
  exact putNum_bytes n x hn
theorem implPutNum_l (n : Nat) (acc : List Int) (h : acc.length + n ≤ 70368744177664) (hn : n ≤ 2147483647) : Ev (fun k => impl_PutNum.l0 k (n : Int) acc) (acc ++ putM n) := by
  induction n using Nat.strongRecOn generalizing acc with
  | ind n ih =>
    by_cases hb : n > 127
    · have := ih (n / 128) (by omega) (acc ++ [((n % 128 + 128 : Nat) : Int)]) (by simp; omega) (by omega)
      rw [putM, if_pos hb]
      rw [List.append_assoc] at this
      refine Ev.step (fun k => ?_) this
      simp only [impl_PutNum.l0]
      rw [if_pos (by omega), if_pos (by omega), Int.tmod_eq_emod_of_nonneg (by omega), w64 (x := 128 + (n : Int) % 128) (by omega) (by omega), Int.tdiv_eq_ediv_of_nonneg (by omega), w64 (by omega) (by omega)]
      congr 2
      congr 1
      omega
    · rw [putM, if_neg hb]
      refine ev_end fun k => ?_
      simp only [impl_PutNum.l0]
      rw [if_neg (by omega), if_pos (by omega), Int.emod_eq_of_lt (by omega) (by omega)]
theorem implPutNum_ev (n : Int) : Ev (fun k => impl_PutNum.f k n) (putNum n) := by
  by_cases h : 0 ≤ n ∧ n ≤ 2147483647
  · obtain ⟨m, rfl⟩ := Int.eq_ofNat_of_zero_le h.1
    have := implPutNum_l m [] (by simp; omega) (by omega)
    refine Ev.congr (fun k => ?_) (by simpa [putNum, h] using this)
    simp [impl_PutNum.f, inRange_eq, h]
  · refine ev_some fun k => ?_
    simp [impl_PutNum.f, inRange_eq, h, putNum]
theorem implPutNums_ev (b l : List Int) (h : l.length ≤ 4194304) (hb : b.length ≤ 4194304) : Ev (fun k => impl_putNums.f k b l) (b ++ putNumsM l) := by
  have := ev_list l (fun k (acc : List Int) i => impl_putNums.l0 k acc l (l.length : Int) i) (fun acc t => acc ++ putNumsM t) (fun i acc => acc.length ≤ b.length + 5 * i)
    (fun acc hI => ev_end fun k => by simp only [impl_putNums.l0]; rw [if_neg (by omega)]; simp [putNumsM])
    (fun i acc x t hI hi _ hx ih => by
      have hs := putNum_short x
      have e : acc ++ putNumsM (x :: t) = (acc ++ putNum x) ++ putNumsM t := by simp [putNumsM]
      rw [e]
      refine Ev.step (f := fun k => (impl_PutNum.f k x).bind fun t169 => (if acc.length + t169.length < 140737488355328 then (impl_putNums.l0 k (acc ++ t169) l (l.length : Int) ((i + 1 : Nat) : Int)) else (none))) (fun k => ?_) (Ev.bind (implPutNum_ev x) ?_)
      · simp only [impl_putNums.l0]
        rw [if_pos (by omega), if_pos (by omega), if_pos (by omega), rd_at hx, w64_succ (by omega)]
      · refine Ev.congr (fun k => ?_) (ih (acc ++ putNum x) (by simp; omega))
        rw [if_pos (by omega)])
    b (by omega)
  simpa [impl_putNums.f] using this
theorem implSumOf_ev (l : List Int) (h : l.length ≤ 4194304) (hb : ∀ x ∈ l, 0 ≤ x ∧ x < 256) : Ev (fun k => impl_SumOf.f k l) (sumOf l) := by
  have hh := ev_list l (fun k (s : Int × Int) i => impl_SumOf.l0 k s.1 s.2 l (l.length : Int) i) (fun s t => sumM s.1 s.2 t) (fun _ s => 0 ≤ s.1 ∧ s.1 < 65521 ∧ 0 ≤ s.2 ∧ s.2 < 65521)
    (fun s hI => by
      obtain ⟨x, y⟩ := s
      obtain ⟨a1, a2, a3, a4⟩ := hI
      dsimp only at a1 a2 a3 a4 ⊢
      refine ev_end fun k => ?_
      simp only [impl_SumOf.l0]
      rw [if_neg (by omega), w64 (x := y * 65536) (by omega) (by omega), w64 (by omega) (by omega)]
      rfl)
    (fun i s b t hI hi _ hx ih => by
      obtain ⟨x, y⟩ := s
      obtain ⟨a1, a2, a3, a4⟩ := hI
      dsimp only at a1 a2 a3 a4 ih ⊢
      have hbb := hb b (List.mem_of_getElem? hx)
      refine Ev.step (fun k => ?_) (ih ((x + b) % 65521, (y + (x + b) % 65521) % 65521) ⟨by dsimp only; omega, by dsimp only; omega, by dsimp only; omega, by dsimp only; omega⟩)
      simp only [impl_SumOf.l0]
      rw [if_pos (by omega), if_pos (by omega), if_pos (by omega), rd_at hx, w64_succ (by omega), w64 (x := b) (by omega) (by omega), w64 (x := x + b) (by omega) (by omega), Int.tmod_eq_emod_of_nonneg (by omega), w64 (by omega) (by omega), Int.tmod_eq_emod_of_nonneg (by omega)])
    (1, 0) ⟨by simp, by simp, by simp, by simp⟩
  exact hh
theorem implSummed_ev (l : List Int) (h : l.length ≤ 4194304) (hb : ∀ x ∈ l, 0 ≤ x ∧ x < 256) : Ev (fun k => impl_summed.f k l) (summedM l) := by
  simp only [impl_summed.f]
  refine Ev.bind (implSumOf_ev l h hb) (ev_some fun k => ?_)
  simp only [Option.bind_some, List.length_cons, List.length_nil]
  rw [if_pos (by omega)]
  rfl
theorem implFrameBytes_ev (a b c : Int) (l : List Int) (hb : ∀ x ∈ l, 0 ≤ x ∧ x < 256) : Ev (fun k => impl_FrameBytes.f k a b c l) (frameBytesM a b c l) := by
  simp only [impl_FrameBytes.f, implFrameOk_eq, Option.bind_some, frameBytesM]
  by_cases h : frameOk a b c l = true
  · have hf := (frameOk_iff a b c l).1 h
    have hs := putNum_short (l.length : Int)
    have hy := frame_body_bytes a b c l h hb
    simp only [h, if_true]
    rw [Int.emod_eq_of_lt (a := a) (by omega) (by omega), Int.emod_eq_of_lt (a := b) (by omega) (by omega), Int.emod_eq_of_lt (a := c) (by omega) (by omega)]
    refine Ev.bind (implPutNums_ev [a, b, c] [(l.length : Int)] (by simp) (by simp)) ?_
    have e : [a, b, c] ++ putNumsM [(l.length : Int)] = [a, b, c] ++ putNum (l.length : Int) := by simp [putNumsM]
    rw [e]
    have e2 : ([a, b, c] ++ putNum (l.length : Int)).length + l.length < 140737488355328 := by simp; omega
    simp only [e2, if_true]
    exact Ev.bind (implSummed_ev _ (by simp; omega) hy) (ev_some fun k => rfl)
  · refine ev_some fun k => ?_
    simp [h]
theorem cloneBytes_eq (l : List Int) (h : l.length ≤ 4194304) : slices_Clone_byte_byte.f l = some l := by
  simp only [slices_Clone_byte_byte.f, Option.bind_some, List.length_nil, List.nil_append]
  rw [if_pos (by omega)]
theorem octet_in (l : List Int) (i : Nat) (hb : ∀ x ∈ l, 0 ≤ x ∧ x < 256) (hl : l.length ≤ 4194304) (h : i < l.length) : impl_reader_octet.f l (i : Int) false = some (rd l (i : Int), ((i + 1 : Nat) : Int), false) := by
  simp only [impl_reader_octet.f, Bool.false_eq_true, if_false]
  rw [if_neg (by omega), w64_succ (by omega), w64 (x := ((i + 1 : Nat) : Int) - 1) (by omega) (by omega), if_pos (by omega), if_pos (by omega)]
  have e : ((i + 1 : Nat) : Int) - 1 = (i : Int) := by omega
  rw [e, (w64_rd hb i h).1]
theorem octet_out (l : List Int) (i : Int) (bad : Bool) (h : bad = true ∨ i ≥ (l.length : Int)) : impl_reader_octet.f l i bad = some (0, i, true) := by
  simp only [impl_reader_octet.f]
  by_cases hb : bad = true
  · rw [if_pos hb]
  · rw [if_neg hb, if_pos (by rcases h with h | h; exact absurd h hb; exact h)]
theorem implFrameOf_ev (l : List Int) (hl : l.length ≤ 4194304) (hb : ∀ x ∈ l, 0 ≤ x ∧ x < 256) : Ev (fun k => impl_FrameOf.f k l) (frameOfM l) := by
  by_cases h3 : 3 ≤ l.length
  · have o0 : impl_reader_octet.f l 0 false = some (rd l 0, 1, false) := octet_in l 0 hb hl (by omega)
    have o1 : impl_reader_octet.f l 1 false = some (rd l 1, 2, false) := octet_in l 1 hb hl (by omega)
    have o2 : impl_reader_octet.f l 2 false = some (rd l 2, 3, false) := octet_in l 2 hb hl (by omega)
    obtain ⟨K1, hg⟩ := implGetNum_ev l 3 hl hb (by omega)
    obtain ⟨K2, hK⟩ := implFrameBytes_ev (rd l 0) (rd l 1) (rd l 2) (cutM l (getNum l 3).2.1 (getNum l 3).1) (cut_bytes l _ _ hb)
    refine ⟨K1 + K2 + 1, fun k hk => ?_⟩
    have hg : impl_GetNum.f k l 3 = some (getNum l 3) := hg k (by omega)
    simp only [impl_FrameOf.f, o0, o1, o2, Option.bind_some, impl_reader_num.f, hg, Bool.false_eq_true, if_false]
    obtain ⟨k, rfl⟩ : ∃ j, k = j + 1 := ⟨k - 1, by omega⟩
    have hK : impl_FrameBytes.f k (rd l 0) (rd l 1) (rd l 2) (cutM l (getNum l 3).2.1 (getNum l 3).1) = some (frameBytesM (rd l 0) (rd l 1) (rd l 2) (cutM l (getNum l 3).2.1 (getNum l 3).1)) := hK k (by omega)
    by_cases h : (getNum l 3).2.2 = true
    · obtain ⟨g0, g1, g2, g3, g4⟩ := getNum_ok l hb h
      have ht := frameOf_tests l hb h
      simp only [h, if_true, Option.bind_some, Bool.false_eq_true, if_false]
      rw [w64 (x := (l.length : Int) - (getNum l 3).2.1) (by omega) (by omega)]
      by_cases h30 : (getNum l 3).1 > 30
      · rw [if_pos h30]
        simp only [impl_FrameOf.j0, if_true]
        unfold frameOfM
        rw [if_neg (fun e => by have := ht.2 ⟨e.2.1, e.2.2⟩; omega)]
      rw [if_neg h30]
      by_cases hle : (getNum l 3).1 > (l.length : Int) - (getNum l 3).2.1
      · rw [decide_eq_true hle]
        simp only [impl_FrameOf.j0, if_true]
        unfold frameOfM
        rw [if_neg (fun e => by have := ht.2 ⟨e.2.1, e.2.2⟩; omega)]
      rw [decide_eq_false hle]
      have ec : (l.take ((getNum l 3).2.1 + (getNum l 3).1).toNat).drop (getNum l 3).2.1.toNat = cutM l (getNum l 3).2.1 (getNum l 3).1 := rfl
      have hc := cut_length l (getNum l 3).2.1 (getNum l 3).1 (by omega) g0 (by omega)
      simp only [impl_FrameOf.j0, Bool.false_eq_true, if_false]
      rw [w64 (x := (getNum l 3).2.1 + (getNum l 3).1) (by omega) (by omega), if_pos (by omega), if_pos (by omega), if_pos (by omega), ec, cloneBytes_eq _ (by omega)]
      simp only [Option.bind_some, implFrameOk_eq]
      by_cases hf : frameOk (rd l 0) (rd l 1) (rd l 2) (cutM l (getNum l 3).2.1 (getNum l 3).1) = true
      · rw [if_pos hf, hK]
        simp only [Option.bind_some, bytes_Equal.f]
        by_cases he : frameBytesM (rd l 0) (rd l 1) (rd l 2) (cutM l (getNum l 3).2.1 (getNum l 3).1) = l
        · rw [if_pos (by rw [he]; exact beq_self_eq_true _)]
          have := ht.1 ⟨by omega, by omega, hf, he⟩
          unfold frameOfM
          rw [if_pos ⟨h, this.1, he⟩]
        · rw [if_neg (fun e => he (strOfNums_inj _ _ (frameBytesM_bytes _ _ _ _ (cut_bytes l _ _ hb)) hb (eq_of_beq e)))]
          unfold frameOfM
          rw [if_neg (fun e => he e.2.2)]
      · rw [if_neg hf]
        unfold frameOfM
        rw [if_neg (fun e => hf (ht.2 ⟨e.2.1, e.2.2⟩).2.2.1)]
    · have hz : frameOfM l = (0, 0, 0, [], false) := by
        unfold frameOfM
        rw [if_neg (fun e => h e.1)]
      rw [hz, if_neg h]
      simp only [Option.bind_some, if_true, impl_FrameOf.j0]
  · have hg0 : (getNum l 3).2.2 = false := by
      have e : l.drop (3 : Int).toNat = [] := List.drop_eq_nil_of_le (by show l.length ≤ 3; omega)
      unfold getNum
      rw [if_neg (by omega), e]
      rfl
    have hz : frameOfM l = (0, 0, 0, [], false) := by
      unfold frameOfM
      rw [if_neg (fun e => by rw [hg0] at e; cases e.1)]
    rw [hz]
    obtain ⟨a, i, b, e0⟩ : ∃ a i b, impl_reader_octet.f l 0 false = some (a, i, b) ∧ (b = true ∨ b = false ∧ i = 1) := by
      by_cases h0 : 0 < l.length
      · exact ⟨_, _, _, octet_in l 0 hb hl h0, .inr ⟨rfl, rfl⟩⟩
      · exact ⟨_, _, _, octet_out l 0 false (.inr (by omega)), .inl rfl⟩
    obtain ⟨a', i', b', e1⟩ : ∃ a' i' b', impl_reader_octet.f l i b = some (a', i', b') ∧ (b' = true ∨ b' = false ∧ i' = 2) := by
      rcases e0.2 with hb1 | ⟨hb1, hi1⟩
      · exact ⟨_, _, _, octet_out l i b (.inl hb1), .inl rfl⟩
      · subst hb1
        subst hi1
        by_cases h1 : 1 < l.length
        · exact ⟨_, _, _, octet_in l 1 hb hl h1, .inr ⟨rfl, rfl⟩⟩
        · exact ⟨_, _, _, octet_out l 1 false (.inr (by omega)), .inl rfl⟩
    have e2 : ∃ i'', impl_reader_octet.f l i' b' = some (0, i'', true) := by
      rcases e1.2 with hb1 | ⟨hb1, hi1⟩
      · exact ⟨_, octet_out l i' b' (.inl hb1)⟩
      · subst hi1
        exact ⟨_, octet_out l 2 b' (.inr (by omega))⟩
    obtain ⟨i'', e2⟩ := e2
    have hi2 : -9223372036854775808 ≤ i'' ∧ i'' ≤ 9223372036854775807 := by
      have hx : impl_reader_octet.f l i' b' = some (0, i', true) := by
        rcases e1.2 with hb1 | ⟨hb1, hi1⟩
        · exact octet_out l i' b' (.inl hb1)
        · subst hi1
          exact octet_out l 2 b' (.inr (by omega))
      rw [hx] at e2
      injection e2 with e2
      injection e2 with _ e2
      injection e2 with e2 _
      subst e2
      have hy : i' = i ∨ i' = 2 := by
        rcases e0.2 with hb0 | ⟨hb0, hi0⟩
        · have := octet_out l i b (.inl hb0)
          rw [this] at e1
          have := e1.1
          injection this with this
          injection this with _ this
          injection this with this _
          exact .inl this.symm
        · subst hb0
          subst hi0
          by_cases h1 : 1 < l.length
          · have := octet_in l 1 hb hl h1
            have h9 := e1.1
            rw [show ((1 : Nat) : Int) = 1 from rfl] at this
            rw [this] at h9
            injection h9 with h9
            injection h9 with _ h9
            injection h9 with h9 _
            exact .inr h9.symm
          · have := octet_out l 1 false (.inr (by omega))
            have h9 := e1.1
            rw [this] at h9
            injection h9 with h9
            injection h9 with _ h9
            injection h9 with h9 _
            exact .inl h9.symm
      have hi : i = 0 ∨ i = 1 := by
        by_cases h0 : 0 < l.length
        · have := octet_in l 0 hb hl h0
          have h9 := e0.1
          rw [show ((0 : Nat) : Int) = 0 from rfl] at this
          rw [this] at h9
          injection h9 with h9
          injection h9 with _ h9
          injection h9 with h9 _
          exact .inr h9.symm
        · have := octet_out l 0 false (.inr (by omega))
          have h9 := e0.1
          rw [this] at h9
          injection h9 with h9
          injection h9 with _ h9
          injection h9 with h9 _
          exact .inl h9.symm
      omega
    obtain ⟨K1, hg⟩ := implGetNum_ev l i'' hl hb hi2
    refine ⟨K1 + 1, fun k hk => ?_⟩
    have hg : impl_GetNum.f k l i'' = some (getNum l i'') := hg k (by omega)
    simp only [impl_FrameOf.f, e0.1, e1.1, e2, Option.bind_some, impl_reader_num.f, hg, if_true]
    obtain ⟨k, rfl⟩ : ∃ j, k = j + 1 := ⟨k - 1, by omega⟩
    simp only [impl_FrameOf.j0, if_true]
theorem toByteS_ev (l : List Int) (h : l.length ≤ 4194304) : Ev (fun k => laws_toByteS.f k l) l := by
  have h0 := ev_copy l (0 : Int) (fun x => x) (fun k acc i => laws_toByteS.l0 k l acc i)
    (fun acc ha => ev_end fun k => by simp only [laws_toByteS.l0]; rw [if_neg (by omega)])
    (fun i acc x r ha hi hx ih => Ev.step (fun k => by
      simp only [laws_toByteS.l0]
      rw [if_pos (by omega), if_pos (by omega), if_pos (by omega), rd_at hx, w64_succ (by omega)]
      simp) ih)
  rw [List.map_id'] at h0
  refine Ev.congr (fun k => ?_) h0
  simp only [laws_toByteS.f]
  rw [if_pos (by omega), if_pos (by simp; omega)]
  simp
theorem eqByteS_ev (l : List Int) (h : l.length ≤ 4194304) : Ev (fun k => laws_eqByteS.f k l l) true := by
  have h0 := ev_list0 l (fun k i => laws_eqByteS.l0 k l l i) (fun _ => true)
    (ev_end fun k => by simp only [laws_eqByteS.l0]; rw [if_neg (by omega)])
    (fun i x t hi _ hx ih => Ev.step (fun k => by
      simp only [laws_eqByteS.l0]
      rw [if_pos (by omega), if_pos (by omega), if_pos (by omega), w64_succ (by omega)]
      try simp) ih)
  refine Ev.congr (fun k => ?_) h0
  simp [laws_eqByteS.f]
/-- What is written into bytes one by one, counting up. -/
def ups (m : Int) : List Int → List Int
  | [] => []
  | _ :: t => (m % 256) :: ups (m + 1) t
theorem ups_length : ∀ (l : List Int) (m : Int), (ups m l).length = l.length := by
  intro l
  induction l with
  | nil => intro m; rfl
  | cons x t ih => intro m; simp [ups, ih]
def setUps (acc : List Int) (i : Nat) (m : Int) : List Int → List Int
  | [] => acc
  | _ :: t => setUps (acc.set i (m % 256)) (i + 1) (m + 1) t
theorem setUps_eq : ∀ (t acc : List Int) (i : Nat) (m : Int), i + t.length = acc.length → setUps acc i m t = acc.take i ++ ups m t := by
  intro t
  induction t with
  | nil => intro acc i m h; simp at h; simp [setUps, ups, h]
  | cons x t ih =>
    intro acc i m h
    simp at h
    rw [setUps, ih _ _ _ (by simp; omega)]
    have e : (acc.set i (m % 256)).take (i + 1) = acc.take i ++ [m % 256] := by
      rw [List.take_succ_eq_append_getElem (by simp; omega)]
      simp [List.take_set_of_le]
    rw [e]
    simp [ups]
theorem markByteS_ev (l : List Int) (m : Int) (h : l.length ≤ 4194304) (h0 : 0 ≤ m) (h1 : m ≤ 1152921504606846976) : Ev (fun k => laws_markByteS.f k l m) (m + l.length, ups m l) := by
  have hh := ev_list l (fun k (s : Nat × Int × List Int) i => laws_markByteS.l0 k s.2.2 s.2.1 i) (fun s t => (s.2.1 + t.length, setUps s.2.2 s.1 s.2.1 t)) (fun i s => s.1 = i ∧ s.2.1 = m + i ∧ s.2.2.length = l.length)
    (fun s hI => by
      obtain ⟨j, n, acc⟩ := s
      obtain ⟨h2, h3, h4⟩ := hI
      dsimp only at h2 h3 h4 ⊢
      refine ev_end fun k => ?_
      simp only [laws_markByteS.l0]
      rw [if_neg (by omega)]
      simp [setUps])
    (fun i s x t hI hi _ hx ih => by
      obtain ⟨j, n, acc⟩ := s
      obtain ⟨h2, h3, h4⟩ := hI
      dsimp only at h2 h3 h4 ih ⊢
      subst h2
      have := ih (j + 1, n + 1, acc.set j (n % 256)) ⟨rfl, by dsimp only; omega, by simp [h4]⟩
      have e : (n + ((x :: t).length : Nat), setUps acc j n (x :: t)) = (n + 1 + (t.length : Nat), setUps (acc.set j (n % 256)) (j + 1) (n + 1) t) := by
        simp only [setUps, List.length_cons]
        congr 1
        omega
      rw [e]
      refine Ev.step (fun k => ?_) this
      simp only [laws_markByteS.l0]
      rw [if_pos (by omega), if_pos (by omega), w64_succ (by omega), w64 (by omega) (by omega)]
      simp)
    (0, m, l) ⟨rfl, by simp, rfl⟩
  dsimp only at hh
  rw [setUps_eq _ _ _ _ (by simp)] at hh
  simpa [laws_markByteS.f] using hh
theorem heldByteS_ev (l : List Int) (m : Int) (h : l.length ≤ 4194304) (h0 : 0 ≤ m) (h1 : m ≤ 1152921504606846976) : Ev (fun k => laws_heldByteS.f k (ups m l) m) (m + l.length) := by
  have key : ∀ (d i : Nat) (n : Int) (acc : List Int), i + d = acc.length → acc.length = l.length → n = m + i → (∃ t : List Int, acc.drop i = ups n t ∧ t.length = d) → Ev (fun k => laws_heldByteS.l0 k acc n (i : Int)) (n + d) := by
    intro d
    induction d with
    | zero =>
      intro i n acc hi ha hn _
      refine ev_end fun k => ?_
      simp only [laws_heldByteS.l0]
      rw [if_neg (by omega)]
      simp
    | succ d ih =>
      intro i n acc hi ha hn ht
      obtain ⟨t, ht, htl⟩ := ht
      obtain ⟨x, t, rfl⟩ : ∃ x t', t = x :: t' := by
        cases t with
        | nil => simp at htl
        | cons x t => exact ⟨x, t, rfl⟩
      simp at htl
      have hlt : i < acc.length := by omega
      rw [List.drop_eq_getElem_cons hlt, ups] at ht
      injection ht with e1 e2
      have := ih (i + 1) (n + 1) acc (by omega) ha (by omega) ⟨t, e2, htl⟩
      have e : n + ((d + 1 : Nat) : Int) = n + 1 + (d : Int) := by omega
      rw [e]
      refine Ev.step (fun k => ?_) this
      simp only [laws_heldByteS.l0]
      rw [if_pos (by omega), if_pos (by omega), rd_at (List.getElem?_eq_getElem hlt), if_pos e1, w64_succ (by omega), w64 (by omega) (by omega)]
  have := key l.length 0 m (ups m l) (by simp [ups_length]) (ups_length _ _) (by simp) ⟨l, by simp, rfl⟩
  simpa [laws_heldByteS.f] using this
theorem markFrame_ev (a b c : Int) (l : List Int) (m : Int) (h : l.length ≤ 4194304) (h0 : 0 ≤ m) (h1 : m ≤ 1125899906842624) : Ev (fun k => laws_markFrame.f k a b c l m) (m + l.length, ups m l) := by
  simp only [laws_markFrame.f]
  exact Ev.bind (markByteS_ev l m h h0 (by omega)) (ev_some fun _ => rfl)
theorem heldFrame_ev (a b c : Int) (l : List Int) (m : Int) (h : l.length ≤ 4194304) (h0 : 0 ≤ m) (h1 : m ≤ 1125899906842624) : Ev (fun k => laws_heldFrame.f k a b c (ups m l) m) (m + l.length) := by
  simp only [laws_heldFrame.f]
  exact Ev.bind (heldByteS_ev l m h h0 (by omega)) (ev_some fun _ => by rw [if_neg (by omega)])
theorem eqFrame_ev (a b c : Int) (l : List Int) (h : l.length ≤ 4194304) : Ev (fun k => laws_eqFrame.f k a b c l a b c l) true := by
  simp only [laws_eqFrame.f, if_true]
  exact Ev.bind (eqByteS_ev l h) (ev_some fun _ => rfl)
theorem frameOf_j2 (k : Nat) (a b c : Int) (d : List Int) (h8 : laws_heldFrame.f k a b c (ups 1 d) 1 = some (1 + (d.length : Int))) : laws_FnExactFrameOf.j2 (k + 1) (1 + (d.length : Int)) false a b c (ups 1 d) = some true := by
  have e2 : ¬ ((1 : Int) + d.length < 0) := by omega
  simp only [laws_FnExactFrameOf.j2, h8, e2, Option.bind_some, if_true, if_false, Bool.false_eq_true]
theorem frameOf_j1 (k : Nat) (l : List Int) (ok : Bool) (a b c : Int) (d : List Int) (h1 : laws_toByteS.f k l = some l) (h3 : impl_FrameOf.f k l = some (a, b, c, d, ok)) (h4 : laws_eqFrame.f k a b c d a b c d = some true) (h7 : laws_markFrame.f k a b c d 1 = some (1 + (d.length : Int), ups 1 d)) (h8 : laws_heldFrame.f k a b c (ups 1 d) 1 = some (1 + (d.length : Int))) (hj : laws_FnExactFrameOf.j2 k (1 + (d.length : Int)) false a b c (ups 1 d) = some true) :
    laws_FnExactFrameOf.j1 (k + 1) l ok false a b c d a b c d = some true := by
  have e2 : ¬ ((1 : Int) + d.length < 0) := by omega
  simp only [laws_FnExactFrameOf.j1, h1, h3, h4, h7, h8, hj, e2, Option.bind_some, if_true, if_false, Bool.false_eq_true, bne_self_eq_false]
theorem frameOf_j0 (k : Nat) (l : List Int) (ok : Bool) (a b c : Int) (d : List Int) (h1 : laws_toByteS.f k l = some l) (h4 : laws_eqFrame.f k a b c d a b c d = some true) (h5 : laws_eqByteS.f k l l = some true) (h6 : laws_markByteS.f k l 1 = some (1 + (l.length : Int), ups 1 l)) (hj : laws_FnExactFrameOf.j1 k l ok false a b c d a b c d = some true) :
    laws_FnExactFrameOf.j0 (k + 1) l ok l ok false a b c d a b c d = some true := by
  have e1 : ¬ ((1 : Int) + l.length < 0) := by omega
  simp only [laws_FnExactFrameOf.j0, h1, h4, h5, h6, hj, e1, Option.bind_some, if_true, if_false, Bool.false_eq_true, bne_self_eq_false]
theorem frameOf_f (k : Nat) (l : List Int) (ok : Bool) (a b c : Int) (d : List Int) (hbig : ¬ ((l.length : Int) > 1048576)) (h1 : laws_toByteS.f k l = some l) (h2 : spec_FrameOf.f k l = some (a, b, c, d, ok)) (h3 : impl_FrameOf.f k l = some (a, b, c, d, ok)) (h4 : laws_eqFrame.f k a b c d a b c d = some true) (hj : laws_FnExactFrameOf.j0 k l ok l ok false a b c d a b c d = some true) : laws_FnExactFrameOf.f k l = some true := by
  simp only [laws_FnExactFrameOf.f, if_neg hbig, h1, h2, h3, h4, hj, Option.bind_some, if_true, bne_self_eq_false]
theorem FnExactFrameOf : FnExactFrameOfPure := by
  intro l hl
  by_cases hbig : (l.length : Int) > 1048576
  · exact ⟨0, by simp only [laws_FnExactFrameOf.f]; rw [if_pos hbig]⟩
  have hb : ∀ x ∈ l, 0 ≤ x ∧ x < 256 := fun x hx => wf8 (hl.2 x hx)
  have hl4 : l.length ≤ 4194304 := by omega
  have hf := frameOfM_bytes l hb
  obtain ⟨K2, h2⟩ := specFrameOf_ev l hl4 hb
  obtain ⟨K3, h3⟩ := implFrameOf_ev l hl4 hb
  generalize frameOfM l = R at hf h2 h3
  obtain ⟨a, b, c, d, ok⟩ := R
  have hf : d.length ≤ l.length := hf
  obtain ⟨K1, h1⟩ := toByteS_ev l hl4
  obtain ⟨K4, h4⟩ := eqFrame_ev a b c d (by omega)
  obtain ⟨K5, h5⟩ := eqByteS_ev l hl4
  obtain ⟨K6, h6⟩ := markByteS_ev l 1 hl4 (by omega) (by omega)
  obtain ⟨K7, h7⟩ := markFrame_ev a b c d 1 (by omega) (by omega) (by omega)
  obtain ⟨K8, h8⟩ := heldFrame_ev a b c d 1 (by omega) (by omega) (by omega)
  obtain ⟨S, hS⟩ : ∃ S, S = K1 + K2 + K3 + K4 + K5 + K6 + K7 + K8 := ⟨_, rfl⟩
  refine ⟨S + 3, ?_⟩
  have h1_0 := h1 S (by omega)
  have h1_1 := h1 (S + 1) (by omega)
  have h1_2 := h1 (S + 2) (by omega)
  have h1_3 := h1 (S + 3) (by omega)
  have h2_0 := h2 S (by omega)
  have h2_1 := h2 (S + 1) (by omega)
  have h2_2 := h2 (S + 2) (by omega)
  have h2_3 := h2 (S + 3) (by omega)
  have h3_0 := h3 S (by omega)
  have h3_1 := h3 (S + 1) (by omega)
  have h3_2 := h3 (S + 2) (by omega)
  have h3_3 := h3 (S + 3) (by omega)
  have h4_0 := h4 S (by omega)
  have h4_1 := h4 (S + 1) (by omega)
  have h4_2 := h4 (S + 2) (by omega)
  have h4_3 := h4 (S + 3) (by omega)
  have h5_0 := h5 S (by omega)
  have h5_1 := h5 (S + 1) (by omega)
  have h5_2 := h5 (S + 2) (by omega)
  have h5_3 := h5 (S + 3) (by omega)
  have h6_0 := h6 S (by omega)
  have h6_1 := h6 (S + 1) (by omega)
  have h6_2 := h6 (S + 2) (by omega)
  have h6_3 := h6 (S + 3) (by omega)
  have h7_0 := h7 S (by omega)
  have h7_1 := h7 (S + 1) (by omega)
  have h7_2 := h7 (S + 2) (by omega)
  have h7_3 := h7 (S + 3) (by omega)
  have h8_0 := h8 S (by omega)
  have h8_1 := h8 (S + 1) (by omega)
  have h8_2 := h8 (S + 2) (by omega)
  have h8_3 := h8 (S + 3) (by omega)
  clear h1 h2 h3 h4 h5 h6 h7 h8
  have hj2 := frameOf_j2 S a b c d h8_0
  have hj1 := frameOf_j1 (S + 1) l ok a b c d h1_1 h3_1 h4_1 h7_1 h8_1 hj2
  have hj0 := frameOf_j0 (S + 2) l ok a b c d h1_2 h4_2 h5_2 h6_2 hj1
  exact frameOf_f (S + 3) l ok a b c d hbig h1_3 h2_3 h3_3 h4_3 hj0
end Go.Proofs.Ytjmkbmpfknhcdaa.Pure

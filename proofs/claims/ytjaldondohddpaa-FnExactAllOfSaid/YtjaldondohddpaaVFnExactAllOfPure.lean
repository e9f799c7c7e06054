/- Of the proof of laws.FnExactAllOf: a part. No condition beyond what its theorems say. -/
/- The statement of laws.FnExactAllOf over numbers and lists alone: at every input it answers true. No condition but that the numbers are those of their kinds and that no slice is longer than a Go slice can be. -/
import Derived.Test.YtjaldondohddpaaVFnExactAllOfPx12
import Derived.Test.YtjaldondohddpaaVFnExactAllOfBase
import Derived.Laws.BitsLemmas
import Derived.Lib.Strings
import Derived.Laws.BitsLemmas
set_option linter.unusedVariables false
set_option linter.unusedSimpArgs false
namespace Go.Proofs.Ytjaldondohddpaa.Pure
open Go.RowKit Go.Proofs.Ytjaldondohddpaa.PFnExactAllOf Go.Proofs.Ytjaldondohddpaa.Base Go.Proofs.YtjaldondohddpaaW.PrintWords Go.Proofs.YtjaldondohddpaaW.PrintLast Go.Proofs.YtjaldondohddpaaW.PrintMore
def FnExactAllOfPure : Prop := ∀ (l0 : List (Int)), (l0.length ≤ maxLen ∧ ∀ x ∈ l0, (Lit.int .u8 x).wf = true) → ∃ k, laws_FnExactAllOf.f k l0 = some true
/-- The number that begins at the i-th byte of a number, of which n is read: it and how many bytes it has. -/
def getM : Nat → Int → List Int → Option (Int × Nat)
  | _, _, [] => none
  | i, n, x :: t => if i < 5 then
      (if x < 128 then (if x = 0 ∧ 0 < i ∨ n + x % 128 * 128 ^ i > 2147483647 then none else some (n + x % 128 * 128 ^ i, i + 1)) else getM (i + 1) (n + x % 128 * 128 ^ i) t)
    else none
/-- What GetNum answers. -/
def getNum (l : List Int) (at_ : Int) : Int × Int × Bool :=
  if at_ < 0 then (0, 0, false) else match getM 0 0 (l.drop at_.toNat) with
    | none => (0, 0, false)
    | some (n, c) => (n, at_ + c, true)
theorem i64_wraps (n : Int) (h0 : 0 ≤ n) (h1 : n < 2 ^ 62) : IntKind.i64.wrap n = n := by
  rw [IntKind.wrap_i64]
  omega
theorem or_comm64 (a b : Int) : Go.bits .or .i64 a b = Go.bits .or .i64 b a := by simp only [Go.bits, BitVec.or_comm]
theorem or_join (i : Nat) (n d : Int) (hi : i < 5) (h0 : 0 ≤ n) (h1 : n < 128 ^ i) (h2 : 0 ≤ d) (h3 : d < 128) :
    Go.bits .or .i64 n (shl .i64 d (7 * (i : Int))) = n + d * 128 ^ i := by
  have key : ∀ j : Nat, j ≤ 28 → n < 2 ^ j → (2 : Int) ^ j ≤ 268435456 → Go.bits .or .i64 n (IntKind.i64.wrap (d * 2 ^ j)) = n + d * 2 ^ j := by
    intro j hj hn hp
    have hp0 : (0 : Int) < 2 ^ j := Int.pow_pos (by decide)
    have hd0 : 0 ≤ d * 2 ^ j := Int.mul_nonneg h2 (Int.le_of_lt hp0)
    have hd1 : d * 2 ^ j ≤ 127 * 268435456 := by
      calc d * 2 ^ j ≤ 127 * 2 ^ j := Int.mul_le_mul_of_nonneg_right (by omega) (Int.le_of_lt hp0)
        _ ≤ 127 * 268435456 := Int.mul_le_mul_of_nonneg_left hp (by decide)
    rw [i64_wraps _ hd0 (by omega), or_comm64, Go.bits_join .i64 62 (by decide) i64_wraps j _ _ hd0 (Int.mul_emod_left _ _) (by omega) h0 hn (by omega)]
    omega
  match i, hi with
  | 0, _ => have := key 0 (by decide) (by simpa using h1) (by decide); simpa [shl, IntKind.bits] using this
  | 1, _ => have := key 7 (by decide) (by simpa using h1) (by decide); simpa [shl, IntKind.bits] using this
  | 2, _ => have := key 14 (by decide) (by simpa using h1) (by decide); simpa [shl, IntKind.bits] using this
  | 3, _ => have := key 21 (by decide) (by simpa using h1) (by decide); simpa [shl, IntKind.bits] using this
  | 4, _ => have := key 28 (by decide) (by simpa using h1) (by decide); simpa [shl, IntKind.bits] using this
theorem and_127 (x : Int) (h0 : 0 ≤ x) (h1 : x < 256) : Go.bits .and .i64 x 127 = x % 128 := by
  have := Go.bits_mask .i64 62 (by decide) i64_wraps 7 (by decide) x h0 (by omega)
  simpa using this
theorem pow_step (i : Nat) (n d : Int) (h0 : 0 ≤ n) (h1 : n < 128 ^ i) (h2 : 0 ≤ d) (h3 : d < 128) : 0 ≤ n + d * 128 ^ i ∧ n + d * 128 ^ i < 128 ^ (i + 1) := by
  have hp : (0 : Int) < 128 ^ i := Int.pow_pos (by decide)
  have a : 0 ≤ d * 128 ^ i := Int.mul_nonneg h2 (Int.le_of_lt hp)
  have b : d * 128 ^ i ≤ 127 * 128 ^ i := Int.mul_le_mul_of_nonneg_right (by omega) (Int.le_of_lt hp)
  rw [Int.pow_succ]
  omega
theorem pow128 (i : Nat) : (0 : Int) < 128 ^ i := Int.pow_pos (by decide)
theorem getM_some : ∀ (l : List Int) (i : Nat) (acc : Int) (n : Int) (c : Nat), 0 ≤ acc → (∀ x ∈ l, 0 ≤ x ∧ x < 256) → getM i acc l = some (n, c) → 0 ≤ n ∧ n ≤ 2147483647 ∧ i < c ∧ c ≤ i + l.length ∧ c ≤ 5 := by
  intro l
  induction l with
  | nil => intro i acc n c _ _ h; simp [getM] at h
  | cons x t ih =>
    intro i acc n c h0 hb h
    have hx := hb x (by simp)
    have hp : 0 ≤ x % 128 * 128 ^ i := Int.mul_nonneg (by omega) (Int.le_of_lt (pow128 i))
    rw [getM] at h
    by_cases h5 : i < 5
    · rw [if_pos h5] at h
      by_cases h128 : x < 128
      · rw [if_pos h128] at h
        split at h
        · cases h
        · rename_i hn
          injection h with h
          injection h with h1 h2
          subst h1
          subst h2
          refine ⟨by omega, by omega, by omega, by simp, by omega⟩
      · rw [if_neg h128] at h
        have := ih (i + 1) (acc + x % 128 * 128 ^ i) n c (by omega) (fun y hy => hb y (by simp [hy])) h
        simp only [List.length_cons]
        omega
    · rw [if_neg h5] at h
      cases h
def vecOk (r c b p : Int) : Bool := decide (1 ≤ r ∧ r ≤ 9) && (decide (1 ≤ b ∧ b ≤ 9) && (decide (r ≤ b) && (decide (0 ≤ c ∧ c ≤ 20) && (((c == 0) == (r == b)) && decide (0 ≤ p ∧ p ≤ 3)))))
theorem vecOk_iff (r c b p : Int) : vecOk r c b p = true ↔ (1 ≤ r ∧ r ≤ 9) ∧ (1 ≤ b ∧ b ≤ 9) ∧ r ≤ b ∧ (0 ≤ c ∧ c ≤ 20) ∧ (c = 0 ↔ r = b) ∧ 0 ≤ p ∧ p ≤ 3 := by
  unfold vecOk
  have e1 : (c == 0) = decide (c = 0) := by by_cases h : c = 0 <;> simp [h]
  have e2 : (r == b) = decide (r = b) := by by_cases h : r = b <;> simp [h]
  rw [e1, e2]
  by_cases h1 : c = 0 <;> by_cases h2 : r = b <;> simp [h1, h2]
def inOk (k p r c b q h : Int) (u : Bool) : Bool :=
  if k = 1 then decide (0 ≤ p ∧ p ≤ 3) && vecOk r c b q && decide (0 ≤ h ∧ h ≤ 8) && !u
  else if k = 3 then decide (0 ≤ p ∧ p ≤ 3 ∧ r = 0 ∧ c = 0 ∧ b = 0 ∧ q = 0 ∧ h = 0)
  else decide (k = 2 ∧ p = 0 ∧ r = 0 ∧ c = 0 ∧ b = 0 ∧ q = 0 ∧ h = 0) && !u
/-- The two running sums. -/
def sumM (x y : Int) : List Int → Int
  | [] => y * 65536 + x
  | b :: t => sumM ((x + b) % 65521) ((y + (x + b) % 65521) % 65521) t
def sumOf (l : List Int) : Int := sumM 1 0 l
theorem sumM_range : ∀ (l : List Int) (x y : Int), 0 ≤ x → x < 65521 → 0 ≤ y → y < 65521 → 0 ≤ sumM x y l ∧ sumM x y l < 4294967296 := by
  intro l
  induction l with
  | nil => intro x y h0 h1 h2 h3; simp only [sumM]; omega
  | cons b t ih => intro x y h0 h1 h2 h3; simp only [sumM]; exact ih _ _ (by omega) (by omega) (by omega) (by omega)
theorem sumOf_range (l : List Int) : 0 ≤ sumOf l ∧ sumOf l < 4294967296 := sumM_range l 1 0 (by omega) (by omega) (by omega) (by omega)
def four (s : Int) : List Int := [s % 256, s / 256 % 256, s / 65536 % 256, s / 16777216 % 256]
theorem four_bytes (s : Int) : ∀ x ∈ four s, 0 ≤ x ∧ x < 256 := by
  intro x hx
  simp only [four, List.mem_cons, List.not_mem_nil, or_false] at hx
  omega
def summedM (l : List Int) : List Int := l ++ four (sumOf l)
/-- A number's bytes, seven bits each, the low ones first. -/
def putM (n : Nat) : List Int := if n > 127 then (((n % 128 + 128 : Nat) : Int)) :: putM (n / 128) else [(n : Int)]
termination_by n
decreasing_by omega
theorem putM_length (n : Nat) : (putM n).length ≤ n + 1 := by
  induction n using Nat.strongRecOn with
  | ind n ih =>
    rw [putM]
    split
    · have := ih (n / 128) (by omega)
      simp
      omega
    · simp
theorem putM_bytes (n : Nat) : ∀ x ∈ putM n, 0 ≤ x ∧ x < 256 := by
  induction n using Nat.strongRecOn with
  | ind n ih =>
    rw [putM]
    split
    · intro x hx
      rcases List.mem_cons.1 hx with rfl | hx
      · omega
      · exact ih (n / 128) (by omega) x hx
    · intro x hx
      simp at hx
      omega
/-- PutNum: nothing of a number that is below 0 or above the greatest. -/
def putNum (n : Int) : List Int := if 0 ≤ n ∧ n ≤ 2147483647 then putM n.toNat else []
theorem putM_short (n : Nat) (h : n ≤ 2147483647) : (putM n).length ≤ 5 := by
  have h1 : ∀ m, m ≤ 127 → (putM m).length = 1 := by
    intro m hm
    rw [putM, if_neg (by omega)]
    rfl
  have st : ∀ m b c, (∀ m', m' ≤ b → (putM m').length ≤ c) → m / 128 ≤ b → (putM m).length ≤ c + 1 := by
    intro m b c hh hm
    rw [putM]
    split
    · have := hh _ hm
      simp
      omega
    · simp
  have a1 : ∀ m, m ≤ 127 → (putM m).length ≤ 1 := fun m hm => by rw [h1 m hm]; omega
  have a2 : ∀ m, m ≤ 16383 → (putM m).length ≤ 2 := fun m hm => st m 127 1 a1 (by omega)
  have a3 : ∀ m, m ≤ 2097151 → (putM m).length ≤ 3 := fun m hm => st m 16383 2 a2 (by omega)
  have a4 : ∀ m, m ≤ 268435455 → (putM m).length ≤ 4 := fun m hm => st m 2097151 3 a3 (by omega)
  exact st n 268435455 4 a4 (by omega)
theorem putNum_short (n : Int) : (putNum n).length ≤ 5 := by
  unfold putNum
  split
  · exact putM_short _ (by omega)
  · simp
theorem putNum_bytes (n : Int) : ∀ x ∈ putNum n, 0 ≤ x ∧ x < 256 := by
  unfold putNum
  split
  · exact putM_bytes _
  · simp
def putNumsM (l : List Int) : List Int := l.flatMap putNum
theorem putNumsM_length (l : List Int) : (putNumsM l).length ≤ 5 * l.length := by
  induction l with
  | nil => simp [putNumsM]
  | cons x t ih =>
    have h1 := putNum_short x
    simp only [putNumsM, List.flatMap_cons, List.length_append, List.length_cons] at *
    omega
theorem putNumsM_bytes (l : List Int) : ∀ x ∈ putNumsM l, 0 ≤ x ∧ x < 256 := by
  intro x hx
  obtain ⟨n, _, hn⟩ := List.mem_flatMap.1 hx
  exact putNum_bytes n x hn
def inBody (k p r c b q h : Int) (u : Bool) : List Int := putNumsM [k, p] ++ (if k = 1 then putNumsM [r, c, b, q, h] else if k = 3 then [if u then 1 else 0] else [])
def inBytesM (k p r c b q h : Int) (u : Bool) : List Int := if inOk k p r c b q h u then summedM (inBody k p r c b q h u) else []
theorem inBody_length (k p r c b q h : Int) (u : Bool) : (inBody k p r c b q h u).length ≤ 35 := by
  have h1 := putNumsM_length [k, p]
  have h2 := putNumsM_length [r, c, b, q, h]
  unfold inBody
  rw [List.length_append]
  simp only [List.length_cons, List.length_nil] at h1 h2
  split
  · omega
  · split <;> simp <;> omega
theorem inBody_bytes (k p r c b q h : Int) (u : Bool) : ∀ x ∈ inBody k p r c b q h u, 0 ≤ x ∧ x < 256 := by
  intro x hx
  unfold inBody at hx
  rcases List.mem_append.1 hx with hx | hx
  · exact putNumsM_bytes _ x hx
  · split at hx
    · exact putNumsM_bytes _ x hx
    · split at hx
      · simp only [List.mem_cons, List.not_mem_nil, or_false] at hx
        subst hx
        cases u <;> simp
      · simp at hx
theorem inBytesM_length (k p r c b q h : Int) (u : Bool) : (inBytesM k p r c b q h u).length ≤ 39 := by
  have := inBody_length k p r c b q h u
  unfold inBytesM
  split
  · simp [summedM, four]
    omega
  · simp
theorem byte_inj {x y : Int} (hx : 0 ≤ x ∧ x < 256) (hy : 0 ≤ y ∧ y < 256) (h : UInt8.ofNat x.toNat = UInt8.ofNat y.toNat) : x = y := by
  have := congrArg UInt8.toNat h
  simp only [UInt8.toNat_ofNat'] at this
  omega
theorem strOfNums_inj : ∀ (a b : List Int), (∀ x ∈ a, 0 ≤ x ∧ x < 256) → (∀ x ∈ b, 0 ≤ x ∧ x < 256) → (strOfNums a).toList = (strOfNums b).toList → a = b := by
  intro a b ha hb h
  rw [Lib.toList_data, Lib.toList_data] at h
  simp only [strOfNums] at h
  have key : ∀ (a b : List Int), (∀ x ∈ a, 0 ≤ x ∧ x < 256) → (∀ x ∈ b, 0 ≤ x ∧ x < 256) → a.map (fun x => UInt8.ofNat x.toNat) = b.map (fun x => UInt8.ofNat x.toNat) → a = b := by
    intro a
    induction a with
    | nil =>
      intro b _ _ h
      cases b with
      | nil => rfl
      | cons y t => simp at h
    | cons x t ih =>
      intro b ha hb h
      cases b with
      | nil => simp at h
      | cons y u =>
        simp only [List.map_cons, List.cons.injEq] at h
        rw [byte_inj (ha x (by simp)) (hb y (by simp)) h.1, ih u (fun z hz => ha z (by simp [hz])) (fun z hz => hb z (by simp [hz])) h.2]
  exact key a b ha hb (by simpa using h)
theorem summedM_bytes (l : List Int) (h : ∀ x ∈ l, 0 ≤ x ∧ x < 256) : ∀ x ∈ summedM l, 0 ≤ x ∧ x < 256 := by
  intro x hx
  rcases List.mem_append.1 hx with hx | hx
  · exact h x hx
  · exact four_bytes _ x hx
theorem getNum_in (l : List Int) (a : Int) (hb : ∀ x ∈ l, 0 ≤ x ∧ x < 256) (h : (getNum l a).2.2 = true) : 0 ≤ a ∧ a < l.length ∧ a ≤ (getNum l a).2.1 ∧ (getNum l a).2.1 ≤ l.length := by
  unfold getNum at h ⊢
  by_cases hn : a < 0
  · rw [if_pos hn] at h
    cases h
  · rw [if_neg hn] at h ⊢
    have hd : ∀ x ∈ l.drop a.toNat, 0 ≤ x ∧ x < 256 := fun x hx => hb x (List.mem_of_mem_drop hx)
    cases e : getM 0 0 (l.drop a.toNat) with
    | none => rw [e] at h; cases h
    | some p =>
      obtain ⟨n, c⟩ := p
      have := getM_some _ 0 0 n c (by omega) hd e
      have el : (l.drop a.toNat).length = l.length - a.toNat := by simp
      rw [el] at this
      dsimp only
      omega
/-- A reader's number: it, where it stands behind, whether all was well. -/
def readN (l : List Int) (a : Int) (ok : Bool) : Int × Int × Bool := if ok = true ∧ (getNum l a).2.2 = true then ((getNum l a).1, (getNum l a).2.1, true) else (0, a, false)
def In64 (a : Int) : Prop := -9223372036854775808 ≤ a ∧ a ≤ 9223372036854775807
theorem readN_in (l : List Int) (a : Int) (ok : Bool) (hl : l.length ≤ 4194304) (hb : ∀ x ∈ l, 0 ≤ x ∧ x < 256) (ha : In64 a) : In64 (readN l a ok).2.1 := by
  unfold readN
  split
  · rename_i h
    have := getNum_in l a hb h.2
    exact ⟨by dsimp only; omega, by dsimp only; omega⟩
  · exact ha
theorem readN_ok (l : List Int) (a : Int) (ok : Bool) (hb : ∀ x ∈ l, 0 ≤ x ∧ x < 256) (h : (readN l a ok).2.2 = true) : ok = true ∧ 0 ≤ a ∧ a < l.length := by
  unfold readN at h
  split at h
  · rename_i h2
    have := getNum_in l a hb h2.2
    exact ⟨h2.1, this.1, this.2.1⟩
  · cases h
/-- What is answered when all is read. -/
def finM (l : List Int) (a : Int) (ok : Bool) (k p r c b q h : Int) (u : Bool) : Int × Int × Int × Int × Int × Int × Int × Bool × Int × Bool :=
  if ok = true ∧ ¬ (inBytesM k p r c b q h u).length = 0 ∧ ((inBytesM k p r c b q h u).length : Int) ≤ (l.length : Int) - a ∧ (l.take (a + ((inBytesM k p r c b q h u).length : Int)).toNat).drop a.toNat = inBytesM k p r c b q h u then
    (k, p, r, c, b, q, h, u, a + ((inBytesM k p r c b q h u).length : Int), true)
  else (0, 0, 0, 0, 0, 0, 0, false, 0, false)
theorem inBytesM_bytes (k p r c b q h : Int) (u : Bool) : ∀ x ∈ inBytesM k p r c b q h u, 0 ≤ x ∧ x < 256 := by
  unfold inBytesM
  split
  · exact summedM_bytes _ (inBody_bytes k p r c b q h u)
  · simp
/-- What InOf answers. -/
def inOfM (l : List Int) (a : Int) : Int × Int × Int × Int × Int × Int × Int × Bool × Int × Bool :=
  let r0 := readN l a true
  let r1 := readN l r0.2.1 r0.2.2
  let r2 := readN l r1.2.1 r1.2.2
  let r3 := readN l r2.2.1 r2.2.2
  let r4 := readN l r3.2.1 r3.2.2
  let r5 := readN l r4.2.1 r4.2.2
  let r6 := readN l r5.2.1 r5.2.2
  if r0.1 = 1 then finM l a r6.2.2 r0.1 r1.1 r2.1 r3.1 r4.1 r5.1 r6.1 false
  else if r0.1 = 3 then finM l a r2.2.2 r0.1 r1.1 0 0 0 0 0 (r2.1 == 1)
  else finM l a r1.2.2 r0.1 r1.1 0 0 0 0 0 false
theorem finM_no (l : List Int) (a : Int) (k p r c b q h : Int) (u : Bool) : finM l a false k p r c b q h u = (0, 0, 0, 0, 0, 0, 0, false, 0, false) := by
  unfold finM
  rw [if_neg (fun e => by cases e.1)]
abbrev IN := S82
theorem rdIN {l : List IN} {i : Nat} {x : IN} (h : l[i]? = some x) : rd_T82 l (i : Int) = x := getD_at h
theorem finM_next (l : List Int) (a : Int) (ok : Bool) (k p r c b q h : Int) (u : Bool) (h1 : (finM l a ok k p r c b q h u).2.2.2.2.2.2.2.2.2 = true) : a < (finM l a ok k p r c b q h u).2.2.2.2.2.2.2.2.1 ∧ (finM l a ok k p r c b q h u).2.2.2.2.2.2.2.2.1 ≤ l.length := by
  unfold finM at h1 ⊢
  split at h1
  · rename_i hc
    rw [if_pos hc]
    have := hc.2.1
    have := hc.2.2.1
    dsimp only
    omega
  · cases h1
theorem inOfM_next (l : List Int) (a : Int) (h1 : (inOfM l a).2.2.2.2.2.2.2.2.2 = true) : a < (inOfM l a).2.2.2.2.2.2.2.2.1 ∧ (inOfM l a).2.2.2.2.2.2.2.2.1 ≤ l.length := by
  unfold inOfM at h1 ⊢
  dsimp only at h1 ⊢
  split at h1
  · rename_i hc
    rw [if_pos hc]
    exact finM_next _ _ _ _ _ _ _ _ _ _ _ h1
  · rename_i hc
    rw [if_neg hc]
    split at h1
    · rename_i hd
      rw [if_pos hd]
      exact finM_next _ _ _ _ _ _ _ _ _ _ _ h1
    · rename_i hd
      rw [if_neg hd]
      exact finM_next _ _ _ _ _ _ _ _ _ _ _ h1
/-- One read in, as the program keeps it. -/
def inRow (R : Int × Int × Int × Int × Int × Int × Int × Bool × Int × Bool) : IN := ⟨R.1, R.2.1, ⟨R.2.2.1, R.2.2.2.1, R.2.2.2.2.1, R.2.2.2.2.2.1⟩, R.2.2.2.2.2.2.1, R.2.2.2.2.2.2.2.1⟩
/-- What AllOf answers from there on. -/
def allOfM (l : List Int) : Nat → List IN → Int → List IN × Int
  | 0, acc, a => (acc, a)
  | n + 1, acc, a => if (inOfM l a).2.2.2.2.2.2.2.2.2 = true then allOfM l n (acc ++ [inRow (inOfM l a)]) (inOfM l a).2.2.2.2.2.2.2.2.1 else (acc, a)
theorem allOfM_length (l : List Int) : ∀ (n : Nat) (acc : List IN) (a : Int), (acc.length : Int) ≤ a → a ≤ l.length → ((allOfM l n acc a).1.length : Int) ≤ l.length
  | 0, acc, a, h, h2 => by simp only [allOfM]; omega
  | n + 1, acc, a, h, h2 => by
    simp only [allOfM]
    split
    · rename_i hc
      have hn := inOfM_next l a hc
      refine allOfM_length l n _ _ ?_ hn.2
      simp only [List.length_append, List.length_cons, List.length_nil]
      omega
    · dsimp only
      omega
theorem allOf_walk (l : List Int) (F : Nat → List IN → Int → Option (List IN × Int)) (G : Nat → Int → Option (Int × Int × Int × Int × Int × Int × Int × Bool × Int × Bool)) (hl : l.length ≤ 4194304)
    (hG : ∀ a : Int, 0 ≤ a → a ≤ l.length → Ev (fun k => G k a) (inOfM l a))
    (hF : ∀ k acc a, F (k + 1) acc a = (G k a).bind fun t => (if t.2.2.2.2.2.2.2.2.2 = true then (if acc.length < 2199023255552 then F k (acc ++ [inRow t]) t.2.2.2.2.2.2.2.2.1 else none) else some (acc, a))) :
    ∀ (n : Nat) (acc : List IN) (a : Int), 0 ≤ a → a ≤ l.length → (l.length : Int) - a < n → (acc.length : Int) ≤ a → Ev (fun k => F k acc a) (allOfM l n acc a)
  | 0, acc, a, h0, h1, h2, h3 => by omega
  | n + 1, acc, a, h0, h1, h2, h3 => by
    refine Ev.stepBind (hG a h0 h1) (fun k => hF k acc a) ?_
    simp only [allOfM]
    by_cases hc : (inOfM l a).2.2.2.2.2.2.2.2.2 = true
    · have hn := inOfM_next l a hc
      simp only [if_pos hc]
      refine Ev.congr (fun k => if_pos (by omega)) ?_
      refine allOf_walk l F G hl hG hF n _ _ (by omega) hn.2 (by omega) ?_
      simp only [List.length_append, List.length_cons, List.length_nil]
      omega
    · simp only [if_neg hc]
      exact ev_some fun _ => rfl
theorem specGetNum_ev (l : List Int) (a : Int) (h : l.length ≤ 4194304) (hb : ∀ x ∈ l, 0 ≤ x ∧ x < 256) (ha : -9223372036854775808 ≤ a ∧ a ≤ 9223372036854775807) : Ev (fun k => spec_GetNum.f k l a) (getNum l a) := by
  by_cases hneg : a < 0
  · refine ⟨2, fun k hk => ?_⟩
    obtain ⟨j, rfl⟩ : ∃ j, k = j + 2 := ⟨k - 2, by omega⟩
    simp [spec_GetNum.f, spec_GetNum.l0, spec_GetNum.j1, getNum, hneg]
  obtain ⟨p, rfl⟩ := Int.eq_ofNat_of_zero_le (Int.not_lt.1 hneg)
  have key : ∀ (d i : Nat) (n : Int), i + d = 5 → 0 ≤ n → n < 128 ^ i →
      Ev (fun k => spec_GetNum.l0 k l (p : Int) n (i : Int)) (match getM i n (l.drop (p + i)) with | none => (0, 0, false) | some (m, c) => (m, (p : Int) + c, true)) := by
    intro d
    induction d with
    | zero =>
      intro i n hi h0 h1
      refine ev_end fun k => ?_
      simp only [spec_GetNum.l0]
      rw [if_neg (by omega)]
      have : getM i n (l.drop (p + i)) = none := by
        cases l.drop (p + i) with
        | nil => rfl
        | cons x t => rw [getM, if_neg (by omega)]
      rw [this]
    | succ d ih =>
      intro i n hi h0 h1
      by_cases hin : p + i < l.length
      · have e : l.drop (p + i) = l[p + i] :: l.drop (p + (i + 1)) := by rw [List.drop_eq_getElem_cons hin]; rfl
        rw [e]
        generalize hx : l[p + i] = x
        have hxx : l[p + i]? = some x := by rw [← hx]; exact List.getElem?_eq_getElem hin
        have hxb := hb x (List.mem_of_getElem? hxx)
        have hr : rd l ((p : Int) + (i : Int)) = x := by have := rd_at hxx; simpa using this
        have hpw := pow_step i n (x % 128) h0 h1 (by omega) (by omega)
        have hor : Go.bits .or .i64 n (shl .i64 (x % 128) (7 * (i : Int))) = n + x % 128 * 128 ^ i := or_join i n _ (by omega) h0 h1 (by omega) (by omega)
        have s1 : ∀ k, spec_GetNum.l0 (k + 1) l (p : Int) n (i : Int) = spec_GetNum.j1 k l (p : Int) n (i : Int) false := by
          intro k
          simp only [spec_GetNum.l0]
          rw [if_pos (by omega), if_neg (by omega), w64 (by omega) (by omega)]
          congr 1
          rw [decide_eq_false_iff_not]
          omega
        by_cases hx128 : x < 128
        · rw [getM, if_pos (show i < 5 by omega), if_pos hx128]
          refine Ev.step s1 (ev_end fun k => ?_)
          simp only [spec_GetNum.j1]
          rw [if_neg (by simp), w64 (x := (p : Int) + (i : Int)) (by omega) (by omega), hr, w64 (x := 7 * (i : Int)) (by omega) (by omega), w64 (x := x) (by omega) (by omega),
            if_pos (by omega), if_pos (by omega), if_pos (by omega), if_pos hx128, Int.tmod_eq_emod_of_nonneg hxb.1, hor, w64 (x := (p : Int) + (i : Int) + 1) (by omega) (by omega)]
          by_cases hi0 : 0 < i
          · rw [if_pos (by omega)]
            by_cases hx0 : x = 0
            · rw [if_pos hx0, if_pos (Or.inl ⟨hx0, hi0⟩)]
            · rw [if_neg hx0]
              by_cases hbig : n + x % 128 * 128 ^ i > 2147483647
              · rw [if_pos hbig, if_pos (Or.inr hbig)]
              · rw [if_neg hbig, if_neg (by omega)]
                simp
                omega
          · rw [if_neg (by omega)]
            by_cases hbig : n + x % 128 * 128 ^ i > 2147483647
            · rw [if_pos hbig, if_pos (Or.inr hbig)]
            · rw [if_neg hbig, if_neg (by omega)]
              simp
              omega
        · have := ih (i + 1) _ (by omega) hpw.1 hpw.2
          rw [getM, if_pos (by omega), if_neg hx128]
          refine Ev.step s1 (Ev.step (fun k => ?_) this)
          simp only [spec_GetNum.j1]
          rw [if_neg (by simp), w64 (x := (p : Int) + (i : Int)) (by omega) (by omega), hr, w64 (x := 7 * (i : Int)) (by omega) (by omega), w64 (x := x) (by omega) (by omega),
            if_pos (by omega), if_pos (by omega), if_pos (by omega), if_neg hx128, Int.tmod_eq_emod_of_nonneg hxb.1, hor, w64_succ (by omega)]
      · have e : l.drop (p + i) = [] := List.drop_eq_nil_of_le (by omega)
        rw [e]
        refine Ev.step (f := fun k => spec_GetNum.j1 k l (p : Int) n (i : Int) true) (fun k => ?_) (ev_end fun k => ?_)
        · simp only [spec_GetNum.l0]
          rw [if_pos (by omega), if_neg (by omega), w64 (by omega) (by omega)]
          congr 1
          rw [decide_eq_true_iff]
          omega
        · simp only [spec_GetNum.j1, if_true]
          rfl
  have := key 5 0 0 rfl (by omega) (by simp)
  simp only [getNum, if_neg hneg]
  exact this
theorem l1In_eq (x lo hi : Int) : spec_l1In.f x lo hi = some (decide (lo ≤ x ∧ x ≤ hi)) := by
  simp only [spec_l1In.f]
  by_cases h : lo ≤ x
  · rw [if_pos h]; simp [h]
  · rw [if_neg h]; simp [h]
theorem specVecOk_eq (r c b p : Int) : spec_VecOk.f r c b p = some (vecOk r c b p) := by
  simp only [spec_VecOk.f, l1In_eq, Option.bind_some, vecOk]
  by_cases h1 : 1 ≤ r ∧ r ≤ 9 <;> by_cases h2 : 1 ≤ b ∧ b ≤ 9 <;> by_cases h3 : r ≤ b <;> by_cases h4 : 0 ≤ c ∧ c ≤ 20 <;> by_cases h5 : 0 ≤ p ∧ p ≤ 3 <;> simp [h1, h2, h3, h4, h5]
  all_goals (first | (cases (c == 0) <;> cases (r == b) <;> rfl) | omega)
theorem specInOk_eq (k p r c b q h : Int) (u : Bool) : spec_InOk.f k p r c b q h u = some (inOk k p r c b q h u) := by
  simp only [spec_InOk.f, l1In_eq, specVecOk_eq, Option.bind_some, inOk]
  by_cases h1 : k = 1
  · simp only [h1, if_true]
    by_cases a1 : 0 ≤ p ∧ p ≤ 3 <;> by_cases a3 : 0 ≤ h ∧ h ≤ 8 <;> cases vecOk r c b q <;> simp [a1, a3]
  · by_cases h3 : k = 3
    · by_cases a1 : 0 ≤ p <;> by_cases a2 : p ≤ 3 <;> by_cases r0 : r = 0 <;> by_cases c0 : c = 0 <;> by_cases b0 : b = 0 <;> by_cases q0 : q = 0 <;> by_cases hh : h = 0 <;> simp_all
      all_goals (first | (split <;> simp <;> omega) | omega)
    · by_cases h2 : k = 2
      · by_cases p0 : p = 0 <;> by_cases r0 : r = 0 <;> by_cases c0 : c = 0 <;> by_cases b0 : b = 0 <;> by_cases q0 : q = 0 <;> by_cases hh : h = 0 <;> cases u <;> simp_all
      · simp [h1, h2, h3]
theorem specPutNum_l (n : Nat) (acc : List Int) (h : acc.length + n ≤ 70368744177664) (hn : n ≤ 2147483647) : Ev (fun k => spec_PutNum.l0 k (n : Int) acc) (acc ++ putM n) := by
  induction n using Nat.strongRecOn generalizing acc with
  | ind n ih =>
    by_cases hb : n > 127
    · have := ih (n / 128) (by omega) (acc ++ [((n % 128 + 128 : Nat) : Int)]) (by simp; omega) (by omega)
      rw [putM, if_pos hb]
      rw [List.append_assoc] at this
      refine Ev.step (fun k => ?_) this
      simp only [spec_PutNum.l0]
      rw [if_pos (by omega), if_pos (by omega), Int.tmod_eq_emod_of_nonneg (by omega), w64 (x := (n : Int) % 128 + 128) (by omega) (by omega), Int.tdiv_eq_ediv_of_nonneg (by omega), w64 (by omega) (by omega)]
      congr 2
      congr 1
      omega
    · rw [putM, if_neg hb]
      refine ev_end fun k => ?_
      simp only [spec_PutNum.l0]
      rw [if_neg (by omega), if_pos (by omega), Int.emod_eq_of_lt (by omega) (by omega)]
theorem specPutNum_ev (n : Int) : Ev (fun k => spec_PutNum.f k n) (putNum n) := by
  by_cases h : 0 ≤ n ∧ n ≤ 2147483647
  · obtain ⟨m, rfl⟩ := Int.eq_ofNat_of_zero_le h.1
    have := specPutNum_l m [] (by simp; omega) (by omega)
    refine Ev.congr (fun k => ?_) (by simpa [putNum, h] using this)
    simp [spec_PutNum.f, l1In_eq, h]
  · refine ev_some fun k => ?_
    simp [spec_PutNum.f, l1In_eq, h, putNum]
theorem specL9Nums_ev (l : List Int) (h : l.length ≤ 4194304) : Ev (fun k => spec_l9Nums.f k l) (putNumsM l) := by
  have := ev_list l (fun k (acc : List Int) i => spec_l9Nums.l0 k l acc i) (fun acc t => acc ++ putNumsM t) (fun i acc => acc.length ≤ 5 * i)
    (fun acc hI => ev_end fun k => by simp only [spec_l9Nums.l0]; rw [if_neg (by omega)]; simp [putNumsM])
    (fun i acc x t hI hi _ hx ih => by
      have hs := putNum_short x
      have e : acc ++ putNumsM (x :: t) = (acc ++ putNum x) ++ putNumsM t := by simp [putNumsM]
      rw [e]
      refine Ev.step (f := fun k => (spec_PutNum.f k x).bind fun t169 => (if acc.length + t169.length < 140737488355328 then (spec_l9Nums.l0 k l (acc ++ t169) ((i + 1 : Nat) : Int)) else (none))) (fun k => ?_) (Ev.bind (specPutNum_ev x) ?_)
      · simp only [spec_l9Nums.l0]
        rw [if_pos (by omega), if_pos (by omega), rd_at hx, w64_succ (by omega)]
      · refine Ev.congr (fun k => ?_) (ih (acc ++ putNum x) (by simp; omega))
        rw [if_pos (by omega)])
    [] (by simp)
  simpa [spec_l9Nums.f] using this
theorem specSumOf_ev (l : List Int) (h : l.length ≤ 4194304) (hb : ∀ x ∈ l, 0 ≤ x ∧ x < 256) : Ev (fun k => spec_SumOf.f k l) (sumOf l) := by
  have hh := ev_list l (fun k (s : Int × Int) i => spec_SumOf.l0 k l s.1 s.2 i) (fun s t => sumM s.1 s.2 t) (fun _ s => 0 ≤ s.1 ∧ s.1 < 65521 ∧ 0 ≤ s.2 ∧ s.2 < 65521)
    (fun s hI => by
      obtain ⟨x, y⟩ := s
      obtain ⟨a1, a2, a3, a4⟩ := hI
      dsimp only at a1 a2 a3 a4 ⊢
      refine ev_end fun k => ?_
      simp only [spec_SumOf.l0]
      rw [if_neg (by omega), w64 (x := y * 65536) (by omega) (by omega), w64 (by omega) (by omega)]
      rfl)
    (fun i s b t hI hi _ hx ih => by
      obtain ⟨x, y⟩ := s
      obtain ⟨a1, a2, a3, a4⟩ := hI
      dsimp only at a1 a2 a3 a4 ih ⊢
      have hbb := hb b (List.mem_of_getElem? hx)
      refine Ev.step (fun k => ?_) (ih ((x + b) % 65521, (y + (x + b) % 65521) % 65521) ⟨by dsimp only; omega, by dsimp only; omega, by dsimp only; omega, by dsimp only; omega⟩)
      simp only [spec_SumOf.l0]
      rw [if_pos (by omega), if_pos (by omega), rd_at hx, w64_succ (by omega), w64 (x := b) (by omega) (by omega), w64 (x := x + b) (by omega) (by omega), Int.tmod_eq_emod_of_nonneg (by omega), w64 (by omega) (by omega), Int.tmod_eq_emod_of_nonneg (by omega)])
    (1, 0) ⟨by simp, by simp, by simp, by simp⟩
  exact hh
theorem i64_wraps' (n : Int) (h0 : 0 ≤ n) (h1 : n < 2 ^ 62) : IntKind.i64.wrap n = n := by
  rw [IntKind.wrap_i64]
  omega
theorem and_255 (x : Int) (h0 : 0 ≤ x) (h1 : x < 4294967296) : Go.bits .and .i64 x 255 = x % 256 := by
  have := Go.bits_mask .i64 62 (by decide) i64_wraps' 8 (by decide) x h0 (by omega)
  simpa using this
theorem l2Sum_eq (s : Int) (h0 : 0 ≤ s) (h1 : s < 4294967296) : spec_l2Sum.f s = some (four s) := by
  simp only [spec_l2Sum.f, four]
  rw [and_255 s h0 h1, and_255 (s / 256) (by omega) (by omega), and_255 (s / 65536) (by omega) (by omega), and_255 (s / 16777216) (by omega) (by omega)]
  simp
theorem putNum_bit (u : Bool) : putNumsM [if u then 1 else 0] = [if u then 1 else 0] := by
  cases u <;> simp [putNumsM, putNum, putM]
theorem specInBytes_ev (k p r c b q h : Int) (u : Bool) : Ev (fun n => spec_InBytes.f n k p r c b q h u) (inBytesM k p r c b q h u) := by
  simp only [spec_InBytes.f, specInOk_eq, Option.bind_some, inBytesM]
  by_cases ho : inOk k p r c b q h u = true
  · have hl := inBody_length k p r c b q h u
    have hy := inBody_bytes k p r c b q h u
    simp only [ho, if_true]
    refine Ev.bind (specL9Nums_ev [k, p] (by simp)) ?_
    have fin : ∀ body, body.length ≤ 35 → (∀ x ∈ body, 0 ≤ x ∧ x < 256) → Ev (fun n => (spec_SumOf.f n body).bind fun t159 => ((spec_l2Sum.f t159).bind fun t160 => (if body.length + t160.length < 140737488355328 then (some (body ++ t160)) else (none)))) (summedM body) := by
      intro body h1 h2
      refine Ev.bind (specSumOf_ev body (by omega) h2) (ev_some fun n => ?_)
      rw [l2Sum_eq _ (sumOf_range _).1 (sumOf_range _).2]
      simp only [Option.bind_some]
      rw [if_pos (by simp [four]; omega)]
      rfl
    by_cases k1 : k = 1
    · have eb : inBody k p r c b q h u = putNumsM [k, p] ++ putNumsM [r, c, b, q, h] := by unfold inBody; rw [if_pos k1]
      rw [eb] at hl hy ⊢
      simp only [if_pos k1]
      refine Ev.bind (specL9Nums_ev [r, c, b, q, h] (by simp)) ?_
      have e : (putNumsM [k, p]).length + (putNumsM [r, c, b, q, h]).length < 140737488355328 := by rw [List.length_append] at hl; omega
      simp only [e, if_true]
      exact fin _ hl hy
    · by_cases k3 : k = 3
      · have eb : inBody k p r c b q h u = putNumsM [k, p] ++ [if u then 1 else 0] := by unfold inBody; rw [if_neg k1, if_pos k3]
        rw [eb] at hl hy ⊢
        have e1 : spec_l1Bit.f u = some (if u then 1 else 0) := by cases u <;> rfl
        simp only [if_neg k1, if_pos k3, e1, Option.bind_some]
        refine Ev.bind (specL9Nums_ev [if u then 1 else 0] (by simp)) ?_
        rw [putNum_bit]
        have e : (putNumsM [k, p]).length + [if u then (1 : Int) else 0].length < 140737488355328 := by rw [List.length_append] at hl; omega
        simp only [e, if_true]
        exact fin _ hl hy
      · have eb : inBody k p r c b q h u = putNumsM [k, p] := by unfold inBody; rw [if_neg k1, if_neg k3]; simp
        rw [eb] at hl hy ⊢
        simp only [if_neg k1, if_neg k3]
        exact fin _ hl hy
  · refine ev_some fun n => ?_
    simp [ho]
theorem l9Num_ev (l : List Int) (a : Int) (ok : Bool) (hl : l.length ≤ 4194304) (hb : ∀ x ∈ l, 0 ≤ x ∧ x < 256) (ha : In64 a) : Ev (fun k => spec_l9Num.f k l a ok) (readN l a ok) := by
  simp only [spec_l9Num.f]
  refine Ev.bind (specGetNum_ev l a hl hb ha) (ev_some fun _ => ?_)
  unfold readN
  by_cases h : (getNum l a).2.2 = true
  · rw [if_pos h]
    by_cases ho : ok = true
    · rw [if_pos ho, if_pos ⟨ho, h⟩, ho]
    · rw [if_neg ho, if_neg (fun e => ho e.1)]
  · rw [if_neg h, if_neg (fun e => h e.2)]
theorem specFin_ev (l : List Int) (a c1 : Int) (ok : Bool) (k p r c b q h : Int) (u : Bool) (hl : l.length ≤ 4194304) (hb : ∀ x ∈ l, 0 ≤ x ∧ x < 256) (hok : ok = true → 0 ≤ a ∧ a < l.length) :
    Ev (fun n => spec_InOf.j0 n l a l c1 ok k p r c b q h u) (finM l a ok k p r c b q h u) := by
  have hw := inBytesM_length k p r c b q h u
  have hwb := inBytesM_bytes k p r c b q h u
  refine Ev.stepBind (specInBytes_ev k p r c b q h u) (fun _ => rfl) (f := fun n t => _) ?_
  try dsimp only
  by_cases ho : ok = true
  · obtain ⟨h0, h1⟩ := hok ho
    simp only [if_pos ho]
    by_cases hz : ((inBytesM k p r c b q h u).length : Int) = 0
    · simp only [if_pos hz]
      refine ev_end fun n => ?_
      simp only [spec_InOf.j1, if_true]
      unfold finM
      rw [if_neg (fun e => e.2.1 (by omega))]
    · simp only [if_neg hz]
      rw [w64 (x := (l.length : Int) - a) (by omega) (by omega)]
      by_cases hg : ((inBytesM k p r c b q h u).length : Int) > (l.length : Int) - a
      · simp only [if_pos hg]
        refine ev_end fun n => ?_
        simp only [spec_InOf.j1, if_true]
        unfold finM
        rw [if_neg (fun e => by have := e.2.2.1; omega)]
      · simp only [if_neg hg]
        rw [w64 (x := a + ((inBytesM k p r c b q h u).length : Int)) (by omega) (by omega)]
        have g1 : a ≤ a + ((inBytesM k p r c b q h u).length : Int) := by omega
        have g2 : a + ((inBytesM k p r c b q h u).length : Int) ≤ (l.length : Int) := by omega
        simp only [if_pos h0, if_pos g1, if_pos g2]
        refine ev_end fun n => ?_
        by_cases he : (l.take (a + ((inBytesM k p r c b q h u).length : Int)).toNat).drop a.toNat = inBytesM k p r c b q h u
        · rw [he]
          simp only [spec_InOf.j1, bne_self_eq_false, Bool.false_eq_true, if_false]
          rw [w64 (x := a + ((inBytesM k p r c b q h u).length : Int)) (by omega) (by omega)]
          unfold finM
          rw [if_pos ⟨ho, by omega, by omega, he⟩]
        · have hd : ((strOfNums ((l.take (a + ((inBytesM k p r c b q h u).length : Int)).toNat).drop a.toNat)).toList != (strOfNums (inBytesM k p r c b q h u)).toList) = true := by
            rw [bne_iff_ne]
            exact fun e => he (strOfNums_inj _ _ (fun x hx => hb x (List.mem_of_mem_take (List.mem_of_mem_drop hx))) hwb e)
          rw [hd]
          simp only [spec_InOf.j1, if_true]
          unfold finM
          rw [if_neg (fun e => he e.2.2.2)]
  · simp only [if_neg ho]
    refine ev_end fun n => ?_
    simp only [spec_InOf.j1, if_true]
    unfold finM
    rw [if_neg (fun e => ho e.1)]
theorem specInOf_ev (l : List Int) (a : Int) (hl : l.length ≤ 4194304) (hb : ∀ x ∈ l, 0 ≤ x ∧ x < 256) (ha : In64 a) : Ev (fun k => spec_InOf.f k l a) (inOfM l a) := by
  have a0 := readN_in l a true hl hb ha
  have k0 := readN_ok l a true hb
  unfold inOfM
  simp only [spec_InOf.f]
  refine Ev.bind (l9Num_ev l a true hl hb ha) ?_
  generalize readN l a true = r0 at a0 k0 ⊢
  have a1 := readN_in l r0.2.1 r0.2.2 hl hb a0
  have k1 := readN_ok l r0.2.1 r0.2.2 hb
  refine Ev.bind (l9Num_ev l r0.2.1 r0.2.2 hl hb a0) ?_
  generalize readN l r0.2.1 r0.2.2 = r1 at a1 k1 ⊢
  have a2 := readN_in l r1.2.1 r1.2.2 hl hb a1
  have k2 := readN_ok l r1.2.1 r1.2.2 hb
  have e2 := l9Num_ev l r1.2.1 r1.2.2 hl hb a1
  generalize readN l r1.2.1 r1.2.2 = r2 at a2 k2 e2 ⊢
  by_cases h1 : r0.1 = 1
  · simp only [if_pos h1]
    refine Ev.bind e2 ?_
    have a3 := readN_in l r2.2.1 r2.2.2 hl hb a2
    have k3 := readN_ok l r2.2.1 r2.2.2 hb
    refine Ev.bind (l9Num_ev l r2.2.1 r2.2.2 hl hb a2) ?_
    generalize readN l r2.2.1 r2.2.2 = r3 at a3 k3 ⊢
    have a4 := readN_in l r3.2.1 r3.2.2 hl hb a3
    have k4 := readN_ok l r3.2.1 r3.2.2 hb
    refine Ev.bind (l9Num_ev l r3.2.1 r3.2.2 hl hb a3) ?_
    generalize readN l r3.2.1 r3.2.2 = r4 at a4 k4 ⊢
    have a5 := readN_in l r4.2.1 r4.2.2 hl hb a4
    have k5 := readN_ok l r4.2.1 r4.2.2 hb
    refine Ev.bind (l9Num_ev l r4.2.1 r4.2.2 hl hb a4) ?_
    generalize readN l r4.2.1 r4.2.2 = r5 at a5 k5 ⊢
    have k6 := readN_ok l r5.2.1 r5.2.2 hb
    refine Ev.bind (l9Num_ev l r5.2.1 r5.2.2 hl hb a5) ?_
    generalize readN l r5.2.1 r5.2.2 = r6 at k6 ⊢
    exact specFin_ev l a _ r6.2.2 _ _ _ _ _ _ _ _ hl hb (fun e => (k0 (k1 (k2 (k3 (k4 (k5 (k6 e).1).1).1).1).1).1).2)
  · simp only [if_neg h1]
    by_cases h3 : r0.1 = 3
    · simp only [if_pos h3]
      refine Ev.bind e2 ?_
      exact specFin_ev l a _ r2.2.2 _ _ _ _ _ _ _ _ hl hb (fun e => (k0 (k1 (k2 e).1).1).2)
    · simp only [if_neg h3]
      exact specFin_ev l a _ r1.2.2 _ _ _ _ _ _ _ _ hl hb (fun e => (k0 (k1 e).1).2)
theorem specAllOf_ev (l : List Int) (hl : l.length ≤ 4194304) (hb : ∀ x ∈ l, 0 ≤ x ∧ x < 256) : Ev (fun k => spec_AllOf.f k l) (allOfM l (l.length + 1) [] 0) := by
  refine Ev.congr (fun k => ?_) (allOf_walk l (fun k acc a => spec_AllOf.l0 k l acc a) (fun k a => spec_InOf.f k l a) hl (fun a h0 h1 => specInOf_ev l a hl hb ⟨by omega, by omega⟩) (fun k acc a => ?_) (l.length + 1) [] 0 (by omega) (by omega) (by omega) (by simp))
  · simp only [spec_AllOf.f]
  · simp only [spec_AllOf.l0, inRow]
theorem implGetNum_ev (l : List Int) (a : Int) (h : l.length ≤ 4194304) (hb : ∀ x ∈ l, 0 ≤ x ∧ x < 256) (ha : -9223372036854775808 ≤ a ∧ a ≤ 9223372036854775807) : Ev (fun k => impl_GetNum.f k l a) (getNum l a) := by
  by_cases hneg : a < 0
  · exact ev_some fun k => by simp [impl_GetNum.f, getNum, hneg]
  obtain ⟨p, rfl⟩ := Int.eq_ofNat_of_zero_le (Int.not_lt.1 hneg)
  have key : ∀ (d i : Nat) (n : Int), i + d = 5 → 0 ≤ n → n < 128 ^ i →
      Ev (fun k => impl_GetNum.l0 k l (p : Int) n (i : Int)) (match getM i n (l.drop (p + i)) with | none => (0, 0, false) | some (m, c) => (m, (p : Int) + c, true)) := by
    intro d
    induction d with
    | zero =>
      intro i n hi h0 h1
      refine Ev.step (f := fun k => impl_GetNum.j1 k l (p : Int) n (i : Int) false) (fun k => by simp only [impl_GetNum.l0]; rw [if_neg (by omega)]) (ev_end fun k => ?_)
      simp only [impl_GetNum.j1]
      rw [if_neg (by simp)]
      have : getM i n (l.drop (p + i)) = none := by
        cases l.drop (p + i) with
        | nil => rfl
        | cons x t => rw [getM, if_neg (by omega)]
      rw [this]
    | succ d ih =>
      intro i n hi h0 h1
      by_cases hin : p + i < l.length
      · have e : l.drop (p + i) = l[p + i] :: l.drop (p + (i + 1)) := by rw [List.drop_eq_getElem_cons hin]; rfl
        rw [e]
        generalize hx : l[p + i] = x
        have hxx : l[p + i]? = some x := by rw [← hx]; exact List.getElem?_eq_getElem hin
        have hxb := hb x (List.mem_of_getElem? hxx)
        have hr : rd l ((p : Int) + (i : Int)) = x := by have := rd_at hxx; simpa using this
        have hu : ∀ y : Int, 0 ≤ y → y < 100 → IntKind.u64.wrap y = y := fun y h0 h1 => by simp [IntKind.wrap, IntKind.bits, IntKind.signed]; omega
        have hand := and_127 x hxb.1 hxb.2
        have hpw := pow_step i n (x % 128) h0 h1 (by omega) (by omega)
        have hor : Go.bits .or .i64 n (shl .i64 (x % 128) (7 * (i : Int))) = n + x % 128 * 128 ^ i := or_join i n _ (by omega) h0 h1 (by omega) (by omega)
        have s1 : ∀ k, impl_GetNum.l0 (k + 1) l (p : Int) n (i : Int) = impl_GetNum.j1 k l (p : Int) n (i : Int) true := by
          intro k
          simp only [impl_GetNum.l0]
          rw [if_pos (by omega), w64 (by omega) (by omega)]
          congr 1
          rw [decide_eq_true_iff]
          omega
        by_cases hx128 : x < 128
        · rw [getM, if_pos (show i < 5 by omega), if_pos hx128]
          refine Ev.step s1 (ev_end fun k => ?_)
          simp only [impl_GetNum.j1]
          rw [if_pos trivial, w64 (x := (p : Int) + (i : Int)) (by omega) (by omega), hr, w64 (x := 7 * (i : Int)) (by omega) (by omega), hu (7 * (i : Int)) (by omega) (by omega), w64 (x := x) (by omega) (by omega),
            if_pos (by omega), if_pos (by omega), if_pos (by omega), if_neg (by omega), hand, hor, w64 (x := (p : Int) + (i : Int) + 1) (by omega) (by omega)]
          by_cases hx0 : x = 0
          · rw [if_pos hx0]
            by_cases hi0 : 0 < i
            · rw [if_pos (by omega), if_pos (Or.inl ⟨hx0, hi0⟩)]
            · rw [if_neg (by omega)]
              by_cases hbig : n + x % 128 * 128 ^ i > 2147483647
              · rw [if_pos hbig, if_pos (Or.inr hbig)]
              · rw [if_neg hbig, if_neg (by omega)]
                simp
                omega
          · rw [if_neg hx0]
            by_cases hbig : n + x % 128 * 128 ^ i > 2147483647
            · rw [if_pos hbig, if_pos (Or.inr hbig)]
            · rw [if_neg hbig, if_neg (by omega)]
              simp
              omega
        · have := ih (i + 1) _ (by omega) hpw.1 hpw.2
          rw [getM, if_pos (by omega), if_neg hx128]
          refine Ev.step s1 (Ev.step (fun k => ?_) this)
          simp only [impl_GetNum.j1]
          rw [if_pos trivial, w64 (x := (p : Int) + (i : Int)) (by omega) (by omega), hr, w64 (x := 7 * (i : Int)) (by omega) (by omega), hu (7 * (i : Int)) (by omega) (by omega), w64 (x := x) (by omega) (by omega),
            if_pos (by omega), if_pos (by omega), if_pos (by omega), if_pos (by omega), hand, hor, w64_succ (by omega)]
      · have e : l.drop (p + i) = [] := List.drop_eq_nil_of_le (by omega)
        rw [e]
        refine Ev.step (f := fun k => impl_GetNum.j1 k l (p : Int) n (i : Int) false) (fun k => ?_) (ev_end fun k => ?_)
        · simp only [impl_GetNum.l0]
          rw [if_pos (by omega), w64 (by omega) (by omega)]
          congr 1
          rw [decide_eq_false_iff_not]
          omega
        · simp only [impl_GetNum.j1]
          rw [if_neg (by simp)]
          rfl
  have := key 5 0 0 rfl (by omega) (by simp)
  simp only [getNum, impl_GetNum.f, if_neg hneg]
  exact this
theorem inRange_eq (x lo hi : Int) : impl_inRange.f x lo hi = some (decide (lo ≤ x ∧ x ≤ hi)) := by
  simp only [impl_inRange.f]
  by_cases h : lo ≤ x
  · rw [if_pos h]; simp [h]
  · rw [if_neg h]; simp [h]
theorem isPort_eq (x : Int) : impl_isPort.f x = some (decide (0 ≤ x ∧ x ≤ 3)) := by simp [impl_isPort.f, inRange_eq]
theorem implVecOk_eq (r c b p : Int) : impl_VecOk.f r c b p = some (vecOk r c b p) := by
  simp only [impl_VecOk.f, inRange_eq, isPort_eq, Option.bind_some, vecOk]
  by_cases h1 : 1 ≤ r ∧ r ≤ 9 <;> by_cases h2 : 1 ≤ b ∧ b ≤ 9 <;> by_cases h3 : r ≤ b <;> by_cases h4 : 0 ≤ c ∧ c ≤ 20 <;> by_cases h5 : 0 ≤ p ∧ p ≤ 3 <;> simp [h1, h2, h3, h4, h5]
  all_goals (first | (cases (c == 0) <;> cases (r == b) <;> rfl) | omega)
theorem isHops_eq (x : Int) : impl_isHops.f x = some (decide (0 ≤ x ∧ x ≤ 8)) := by simp [impl_isHops.f, inRange_eq]
theorem implInOk_eq (k p r c b q h : Int) (u : Bool) : impl_InOk.f k p r c b q h u = some (inOk k p r c b q h u) := by
  simp only [impl_InOk.f, isPort_eq, isHops_eq, implVecOk_eq, Option.bind_some, inOk]
  by_cases h1 : k = 1
  · simp only [h1, if_true]
    by_cases a1 : 0 ≤ p ∧ p ≤ 3 <;> by_cases a3 : 0 ≤ h ∧ h ≤ 8 <;> cases vecOk r c b q <;> simp [a1, a3]
  · by_cases h3 : k = 3
    · by_cases a1 : 0 ≤ p <;> by_cases a2 : p ≤ 3 <;> by_cases r0 : r = 0 <;> by_cases c0 : c = 0 <;> by_cases b0 : b = 0 <;> by_cases q0 : q = 0 <;> by_cases hh : h = 0 <;> simp_all
      all_goals (first | (split <;> simp <;> omega) | omega)
    · by_cases h2 : k = 2
      · by_cases p0 : p = 0 <;> by_cases r0 : r = 0 <;> by_cases c0 : c = 0 <;> by_cases b0 : b = 0 <;> by_cases q0 : q = 0 <;> by_cases hh : h = 0 <;> cases u <;> simp_all
      · simp [h1, h2, h3]
theorem implPutNum_l (n : Nat) (acc : List Int) (h : acc.length + n ≤ 70368744177664) (hn : n ≤ 2147483647) : Ev (fun k => impl_PutNum.l0 k (n : Int) acc) (acc ++ putM n) := by
  induction n using Nat.strongRecOn generalizing acc with
  | ind n ih =>
    by_cases hb : n > 127
    · have := ih (n / 128) (by omega) (acc ++ [((n % 128 + 128 : Nat) : Int)]) (by simp; omega) (by omega)
      rw [putM, if_pos hb]
      rw [List.append_assoc] at this
      refine Ev.step (fun k => ?_) this
      simp only [impl_PutNum.l0]
      rw [if_pos (by omega), if_pos (by omega), Int.tmod_eq_emod_of_nonneg (by omega), w64 (x := 128 + (n : Int) % 128) (by omega) (by omega), Int.tdiv_eq_ediv_of_nonneg (by omega), w64 (by omega) (by omega)]
      congr 2
      congr 1
      omega
    · rw [putM, if_neg hb]
      refine ev_end fun k => ?_
      simp only [impl_PutNum.l0]
      rw [if_neg (by omega), if_pos (by omega), Int.emod_eq_of_lt (by omega) (by omega)]
theorem implPutNum_ev (n : Int) : Ev (fun k => impl_PutNum.f k n) (putNum n) := by
  by_cases h : 0 ≤ n ∧ n ≤ 2147483647
  · obtain ⟨m, rfl⟩ := Int.eq_ofNat_of_zero_le h.1
    have := implPutNum_l m [] (by simp; omega) (by omega)
    refine Ev.congr (fun k => ?_) (by simpa [putNum, h] using this)
    simp [impl_PutNum.f, inRange_eq, h]
  · refine ev_some fun k => ?_
    simp [impl_PutNum.f, inRange_eq, h, putNum]
theorem implPutNums_ev (b l : List Int) (h : l.length ≤ 4194304) (hb : b.length ≤ 4194304) : Ev (fun k => impl_putNums.f k b l) (b ++ putNumsM l) := by
  have := ev_list l (fun k (acc : List Int) i => impl_putNums.l0 k acc l (l.length : Int) i) (fun acc t => acc ++ putNumsM t) (fun i acc => acc.length ≤ b.length + 5 * i)
    (fun acc hI => ev_end fun k => by simp only [impl_putNums.l0]; rw [if_neg (by omega)]; simp [putNumsM])
    (fun i acc x t hI hi _ hx ih => by
      have hs := putNum_short x
      have e : acc ++ putNumsM (x :: t) = (acc ++ putNum x) ++ putNumsM t := by simp [putNumsM]
      rw [e]
      refine Ev.step (f := fun k => (impl_PutNum.f k x).bind fun t169 => (if acc.length + t169.length < 140737488355328 then (impl_putNums.l0 k (acc ++ t169) l (l.length : Int) ((i + 1 : Nat) : Int)) else (none))) (fun k => ?_) (Ev.bind (implPutNum_ev x) ?_)
      · simp only [impl_putNums.l0]
        rw [if_pos (by omega), if_pos (by omega), if_pos (by omega), rd_at hx, w64_succ (by omega)]
      · refine Ev.congr (fun k => ?_) (ih (acc ++ putNum x) (by simp; omega))
        rw [if_pos (by omega)])
    b (by omega)
  simpa [impl_putNums.f] using this
theorem implSumOf_ev (l : List Int) (h : l.length ≤ 4194304) (hb : ∀ x ∈ l, 0 ≤ x ∧ x < 256) : Ev (fun k => impl_SumOf.f k l) (sumOf l) := by
  have hh := ev_list l (fun k (s : Int × Int) i => impl_SumOf.l0 k s.1 s.2 l (l.length : Int) i) (fun s t => sumM s.1 s.2 t) (fun _ s => 0 ≤ s.1 ∧ s.1 < 65521 ∧ 0 ≤ s.2 ∧ s.2 < 65521)
    (fun s hI => by
      obtain ⟨x, y⟩ := s
      obtain ⟨a1, a2, a3, a4⟩ := hI
      dsimp only at a1 a2 a3 a4 ⊢
      refine ev_end fun k => ?_
      simp only [impl_SumOf.l0]
      rw [if_neg (by omega), w64 (x := y * 65536) (by omega) (by omega), w64 (by omega) (by omega)]
      rfl)
    (fun i s b t hI hi _ hx ih => by
      obtain ⟨x, y⟩ := s
      obtain ⟨a1, a2, a3, a4⟩ := hI
      dsimp only at a1 a2 a3 a4 ih ⊢
      have hbb := hb b (List.mem_of_getElem? hx)
      refine Ev.step (fun k => ?_) (ih ((x + b) % 65521, (y + (x + b) % 65521) % 65521) ⟨by dsimp only; omega, by dsimp only; omega, by dsimp only; omega, by dsimp only; omega⟩)
      simp only [impl_SumOf.l0]
      rw [if_pos (by omega), if_pos (by omega), if_pos (by omega), rd_at hx, w64_succ (by omega), w64 (x := b) (by omega) (by omega), w64 (x := x + b) (by omega) (by omega), Int.tmod_eq_emod_of_nonneg (by omega), w64 (by omega) (by omega), Int.tmod_eq_emod_of_nonneg (by omega)])
    (1, 0) ⟨by simp, by simp, by simp, by simp⟩
  exact hh
theorem implSummed_ev (l : List Int) (h : l.length ≤ 4194304) (hb : ∀ x ∈ l, 0 ≤ x ∧ x < 256) : Ev (fun k => impl_summed.f k l) (summedM l) := by
  simp only [impl_summed.f]
  refine Ev.bind (implSumOf_ev l h hb) (ev_some fun k => ?_)
  simp only [Option.bind_some, List.length_cons, List.length_nil]
  rw [if_pos (by omega)]
  rfl
theorem implInBytes_ev (k p r c b q h : Int) (u : Bool) : Ev (fun n => impl_InBytes.f n k p r c b q h u) (inBytesM k p r c b q h u) := by
  simp only [impl_InBytes.f, implInOk_eq, Option.bind_some, inBytesM]
  by_cases ho : inOk k p r c b q h u = true
  · have hl := inBody_length k p r c b q h u
    have hy := inBody_bytes k p r c b q h u
    simp only [ho, if_true]
    refine Ev.bind (implPutNums_ev [] [k, p] (by simp) (by simp)) ?_
    rw [List.nil_append]
    have h1 := putNumsM_length [k, p]
    simp only [List.length_cons, List.length_nil] at h1
    by_cases k1 : k = 1
    · have eb : inBody k p r c b q h u = putNumsM [k, p] ++ putNumsM [r, c, b, q, h] := by unfold inBody; rw [if_pos k1]
      rw [eb] at hl hy ⊢
      simp only [if_pos k1]
      refine Ev.bind (implPutNums_ev (putNumsM [k, p]) [r, c, b, q, h] (by simp) (by omega)) ?_
      exact Ev.bind (implSummed_ev _ (by omega) hy) (ev_some fun n => rfl)
    · by_cases k3 : k = 3
      · have eb : inBody k p r c b q h u = putNumsM [k, p] ++ [if u then 1 else 0] := by unfold inBody; rw [if_neg k1, if_pos k3]
        rw [eb] at hl hy ⊢
        have e1 : impl_onByte.f u = some (if u then 1 else 0) := by cases u <;> rfl
        have e : (putNumsM [k, p]).length < 140737488355328 := by omega
        simp only [if_neg k1, if_pos k3, e1, Option.bind_some, e, if_true]
        exact Ev.bind (implSummed_ev _ (by omega) hy) (ev_some fun n => rfl)
      · have eb : inBody k p r c b q h u = putNumsM [k, p] := by unfold inBody; rw [if_neg k1, if_neg k3]; simp
        rw [eb] at hl hy ⊢
        simp only [if_neg k1, if_neg k3]
        exact Ev.bind (implSummed_ev _ (by omega) hy) (ev_some fun n => rfl)
  · refine ev_some fun n => ?_
    simp [ho]
theorem num_ev (l : List Int) (a : Int) (ok : Bool) (hl : l.length ≤ 4194304) (hb : ∀ x ∈ l, 0 ≤ x ∧ x < 256) (ha : In64 a) : Ev (fun k => impl_reader_num.f k l a (!ok)) ((readN l a ok).1, (readN l a ok).2.1, !(readN l a ok).2.2) := by
  simp only [impl_reader_num.f]
  refine Ev.bind (implGetNum_ev l a hl hb ha) (ev_some fun _ => ?_)
  unfold readN
  cases ok with
  | false => simp
  | true =>
    rw [if_neg (by decide)]
    by_cases h : (getNum l a).2.2 = true
    · rw [if_pos h, if_pos ⟨rfl, h⟩]
    · rw [if_neg h, if_neg (fun e => h e.2)]; rfl
theorem implFin_ev (l : List Int) (a c1 : Int) (ok : Bool) (k p r c b q h : Int) (u : Bool) (hl : l.length ≤ 4194304) (hb : ∀ x ∈ l, 0 ≤ x ∧ x < 256) (h0 : 0 ≤ a) (h1 : a ≤ l.length) :
    Ev (fun n => impl_InOf.j1 n l a l c1 (!ok) k p r c b q h u) (finM l a ok k p r c b q h u) := by
  have hw := inBytesM_length k p r c b q h u
  have hwb := inBytesM_bytes k p r c b q h u
  refine Ev.stepBind (implInBytes_ev k p r c b q h u) (fun _ => rfl) (f := fun n t => _) (ev_some fun _ => ?_)
  try dsimp only
  cases ok with
  | false => simp [finM_no]
  | true =>
    rw [if_neg (by decide)]
    by_cases hz : ((inBytesM k p r c b q h u).length : Int) = 0
    · rw [if_pos hz]
      unfold finM
      rw [if_neg (fun e => e.2.1 (by omega))]
    · rw [if_neg hz, if_pos h0, if_pos h1]
      have hdl : ((l.drop a.toNat).length : Int) = (l.length : Int) - a := by
        rw [List.length_drop]
        omega
      simp only [bytes_HasPrefix.f, hdl]
      by_cases hg : (l.length : Int) - a ≥ ((inBytesM k p r c b q h u).length : Int)
      · rw [if_pos hg, if_pos (by omega), if_pos hg]
        have et : (l.drop a.toNat).take (((inBytesM k p r c b q h u).length : Int)).toNat = (l.take (a + ((inBytesM k p r c b q h u).length : Int)).toNat).drop a.toNat := by
          rw [List.drop_take]
          congr 1
          omega
        rw [et]
        simp only [bytes_Equal.f, Option.bind_some]
        by_cases he : (l.take (a + ((inBytesM k p r c b q h u).length : Int)).toNat).drop a.toNat = inBytesM k p r c b q h u
        · rw [if_pos (by rw [he]; exact beq_self_eq_true _), w64 (x := a + ((inBytesM k p r c b q h u).length : Int)) (by omega) (by omega)]
          unfold finM
          rw [if_pos ⟨rfl, by omega, by omega, he⟩]
        · rw [if_neg (fun e => he (strOfNums_inj _ _ (fun x hx => hb x (List.mem_of_mem_take (List.mem_of_mem_drop hx))) hwb (eq_of_beq e)))]
          unfold finM
          rw [if_neg (fun e => he e.2.2.2)]
      · rw [if_neg hg]
        simp only [Option.bind_some, Bool.false_eq_true, if_false]
        unfold finM
        rw [if_neg (fun e => by have := e.2.2.1; omega)]
theorem implInOf_j (l : List Int) (a : Int) (hl : l.length ≤ 4194304) (hb : ∀ x ∈ l, 0 ≤ x ∧ x < 256) (h0 : 0 ≤ a) (h1 : a ≤ l.length) : Ev (fun k => impl_InOf.j0 k l a false) (inOfM l a) := by
  have ha : In64 a := ⟨by omega, by omega⟩
  have a0 := readN_in l a true hl hb ha
  have e0 := num_ev l a true hl hb ha
  unfold inOfM
  dsimp only
  refine Ev.step (f := fun k => _) (fun k => by simp only [impl_InOf.j0, Bool.false_eq_true, if_false]; rfl) ?_
  refine Ev.bind e0 ?_
  generalize readN l a true = r0 at a0 ⊢
  have a1 := readN_in l r0.2.1 r0.2.2 hl hb a0
  refine Ev.bind (num_ev l r0.2.1 r0.2.2 hl hb a0) ?_
  generalize readN l r0.2.1 r0.2.2 = r1 at a1 ⊢
  have a2 := readN_in l r1.2.1 r1.2.2 hl hb a1
  have e2 := num_ev l r1.2.1 r1.2.2 hl hb a1
  generalize readN l r1.2.1 r1.2.2 = r2 at a2 e2 ⊢
  try dsimp only
  by_cases k1 : r0.1 = 1
  · simp only [if_pos k1]
    refine Ev.bind e2 ?_
    have a3 := readN_in l r2.2.1 r2.2.2 hl hb a2
    refine Ev.bind (num_ev l r2.2.1 r2.2.2 hl hb a2) ?_
    generalize readN l r2.2.1 r2.2.2 = r3 at a3 ⊢
    have a4 := readN_in l r3.2.1 r3.2.2 hl hb a3
    refine Ev.bind (num_ev l r3.2.1 r3.2.2 hl hb a3) ?_
    generalize readN l r3.2.1 r3.2.2 = r4 at a4 ⊢
    have a5 := readN_in l r4.2.1 r4.2.2 hl hb a4
    refine Ev.bind (num_ev l r4.2.1 r4.2.2 hl hb a4) ?_
    generalize readN l r4.2.1 r4.2.2 = r5 at a5 ⊢
    refine Ev.bind (num_ev l r5.2.1 r5.2.2 hl hb a5) ?_
    generalize readN l r5.2.1 r5.2.2 = r6
    exact implFin_ev l a _ r6.2.2 _ _ _ _ _ _ _ _ hl hb h0 h1
  · simp only [if_neg k1]
    by_cases k3 : r0.1 = 3
    · simp only [if_pos k3]
      refine Ev.bind e2 ?_
      exact implFin_ev l a _ r2.2.2 _ _ _ _ _ _ _ _ hl hb h0 h1
    · simp only [if_neg k3]
      exact implFin_ev l a _ r1.2.2 _ _ _ _ _ _ _ _ hl hb h0 h1
theorem readN_off (l : List Int) (a : Int) (hb : ∀ x ∈ l, 0 ≤ x ∧ x < 256) (h : a < 0 ∨ a > (l.length : Int)) (ok : Bool) : readN l a ok = (0, a, false) := by
  unfold readN
  rw [if_neg]
  rintro ⟨_, h2⟩
  have := getNum_in l a hb h2
  omega
theorem implInOf_ev (l : List Int) (a : Int) (hl : l.length ≤ 4194304) (hb : ∀ x ∈ l, 0 ≤ x ∧ x < 256) : Ev (fun k => impl_InOf.f k l a) (inOfM l a) := by
  by_cases h : a < 0 ∨ a > (l.length : Int)
  · have hz : inOfM l a = (0, 0, 0, 0, 0, 0, 0, false, 0, false) := by
      unfold inOfM
      simp only [readN_off l a hb h]
      rw [if_neg (by omega), if_neg (by omega), finM_no]
    rw [hz]
    refine Ev.congr (f := fun k => impl_InOf.j0 k l a true) (fun k => ?_) (ev_end fun k => by simp only [impl_InOf.j0, if_true])
    simp only [impl_InOf.f]
    by_cases hn : a < 0
    · rw [if_pos hn]
    · rw [if_neg hn, decide_eq_true (by omega)]
  · refine Ev.congr (fun k => ?_) (implInOf_j l a hl hb (by omega) (by omega))
    simp only [impl_InOf.f]
    rw [if_neg (by omega), decide_eq_false (by omega)]
theorem implAllOf_ev (l : List Int) (hl : l.length ≤ 4194304) (hb : ∀ x ∈ l, 0 ≤ x ∧ x < 256) : Ev (fun k => impl_AllOf.f k l) (allOfM l (l.length + 1) [] 0) := by
  refine Ev.congr (fun k => ?_) (allOf_walk l (fun k acc a => impl_AllOf.l0 k l acc a) (fun k a => impl_InOf.f k l a) hl (fun a h0 h1 => implInOf_ev l a hl hb) (fun k acc a => ?_) (l.length + 1) [] 0 (by omega) (by omega) (by omega) (by simp))
  · simp only [impl_AllOf.f]
  · simp only [impl_AllOf.l0, inRow]
theorem toByteS_ev (l : List Int) (h : l.length ≤ 4194304) : Ev (fun k => laws_toByteS.f k l) l := by
  have h0 := ev_copy l (0 : Int) (fun x => x) (fun k acc i => laws_toByteS.l0 k l acc i)
    (fun acc ha => ev_end fun k => by simp only [laws_toByteS.l0]; rw [if_neg (by omega)])
    (fun i acc x r ha hi hx ih => Ev.step (fun k => by
      simp only [laws_toByteS.l0]
      rw [if_pos (by omega), if_pos (by omega), if_pos (by omega), rd_at hx, w64_succ (by omega)]
      simp) ih)
  rw [List.map_id'] at h0
  refine Ev.congr (fun k => ?_) h0
  simp only [laws_toByteS.f]
  rw [if_pos (by omega), if_pos (by simp; omega)]
  simp
theorem eqByteS_ev (l : List Int) (h : l.length ≤ 4194304) : Ev (fun k => laws_eqByteS.f k l l) true := by
  have h0 := ev_list0 l (fun k i => laws_eqByteS.l0 k l l i) (fun _ => true)
    (ev_end fun k => by simp only [laws_eqByteS.l0]; rw [if_neg (by omega)])
    (fun i x t hi _ hx ih => Ev.step (fun k => by
      simp only [laws_eqByteS.l0]
      rw [if_pos (by omega), if_pos (by omega), if_pos (by omega), w64_succ (by omega)]
      try simp) ih)
  refine Ev.congr (fun k => ?_) h0
  simp [laws_eqByteS.f]
/-- What is written into bytes one by one, counting up. -/
def ups (m : Int) : List Int → List Int
  | [] => []
  | _ :: t => (m % 256) :: ups (m + 1) t
theorem ups_length : ∀ (l : List Int) (m : Int), (ups m l).length = l.length := by
  intro l
  induction l with
  | nil => intro m; rfl
  | cons x t ih => intro m; simp [ups, ih]
def setUps (acc : List Int) (i : Nat) (m : Int) : List Int → List Int
  | [] => acc
  | _ :: t => setUps (acc.set i (m % 256)) (i + 1) (m + 1) t
theorem setUps_eq : ∀ (t acc : List Int) (i : Nat) (m : Int), i + t.length = acc.length → setUps acc i m t = acc.take i ++ ups m t := by
  intro t
  induction t with
  | nil => intro acc i m h; simp at h; simp [setUps, ups, h]
  | cons x t ih =>
    intro acc i m h
    simp at h
    rw [setUps, ih _ _ _ (by simp; omega)]
    have e : (acc.set i (m % 256)).take (i + 1) = acc.take i ++ [m % 256] := by
      rw [List.take_succ_eq_append_getElem (by simp; omega)]
      simp [List.take_set_of_le]
    rw [e]
    simp [ups]
theorem markByteS_ev (l : List Int) (m : Int) (h : l.length ≤ 4194304) (h0 : 0 ≤ m) (h1 : m ≤ 1152921504606846976) : Ev (fun k => laws_markByteS.f k l m) (m + l.length, ups m l) := by
  have hh := ev_list l (fun k (s : Nat × Int × List Int) i => laws_markByteS.l0 k s.2.2 s.2.1 i) (fun s t => (s.2.1 + t.length, setUps s.2.2 s.1 s.2.1 t)) (fun i s => s.1 = i ∧ s.2.1 = m + i ∧ s.2.2.length = l.length)
    (fun s hI => by
      obtain ⟨j, n, acc⟩ := s
      obtain ⟨h2, h3, h4⟩ := hI
      dsimp only at h2 h3 h4 ⊢
      refine ev_end fun k => ?_
      simp only [laws_markByteS.l0]
      rw [if_neg (by omega)]
      simp [setUps])
    (fun i s x t hI hi _ hx ih => by
      obtain ⟨j, n, acc⟩ := s
      obtain ⟨h2, h3, h4⟩ := hI
      dsimp only at h2 h3 h4 ih ⊢
      subst h2
      have := ih (j + 1, n + 1, acc.set j (n % 256)) ⟨rfl, by dsimp only; omega, by simp [h4]⟩
      have e : (n + ((x :: t).length : Nat), setUps acc j n (x :: t)) = (n + 1 + (t.length : Nat), setUps (acc.set j (n % 256)) (j + 1) (n + 1) t) := by
        simp only [setUps, List.length_cons]
        congr 1
        omega
      rw [e]
      refine Ev.step (fun k => ?_) this
      simp only [laws_markByteS.l0]
      rw [if_pos (by omega), if_pos (by omega), w64_succ (by omega), w64 (by omega) (by omega)]
      simp)
    (0, m, l) ⟨rfl, by simp, rfl⟩
  dsimp only at hh
  rw [setUps_eq _ _ _ _ (by simp)] at hh
  simpa [laws_markByteS.f] using hh
theorem eqInS_ev (l : List IN) (h : l.length ≤ 4194304) : Ev (fun k => laws_eqInS.f k l l) true := by
  have h0 := ev_list0 l (fun k i => laws_eqInS.l0 k l l i) (fun _ => true)
    (ev_end fun k => by simp only [laws_eqInS.l0]; rw [if_neg (by omega)])
    (fun i x t hi _ hx ih => Ev.step (fun k => by
      simp only [laws_eqInS.l0, laws_eqIn.f, laws_eqVec.f]
      rw [if_pos (by omega), if_pos (by omega), if_pos (by omega), w64_succ (by omega)]
      simp) ih)
  refine Ev.congr (fun k => ?_) h0
  simp [laws_eqInS.f]
def inmk (_ : IN) (n : Int) : IN := ⟨n, n + 1, ⟨n + 1 + 1, n + 1 + 1 + 1, n + 1 + 1 + 1 + 1, n + 1 + 1 + 1 + 1 + 1⟩, n + 1 + 1 + 1 + 1 + 1 + 1, (Int.tmod (n + 1 + 1 + 1 + 1 + 1 + 1 + 1) 3 == 0)⟩
theorem rdIN_set {l : List IN} {i : Nat} (h : i < l.length) (v : IN) : rd_T82 (l.set i v) (i : Int) = v := rdIN (by simp [h])
theorem markInS_ev (l : List IN) (h : l.length ≤ 4194304) (m : Int) (h0 : 0 ≤ m) (h1 : m ≤ 1125899906842624) : Ev (fun k => laws_markInS.f k l m) (m + costs (fun _ => 8) l, upsG inmk (fun _ => 8) m l) := by
  refine ev_mark l inmk (fun _ => 8) (fun _ _ => by decide) (fun k acc n i => laws_markInS.l0 k acc n i) (fun acc n ha => ?_) (fun i acc n x r ha hi _ hx hn hb ih => ?_) m h0 (by rw [costs_const]; omega)
  · refine ev_end fun k => ?_
    simp only [laws_markInS.l0]
    rw [if_neg (by omega)]
  · refine Ev.step (fun k => ?_) ih
    have hs := fun v => rdIN_set (l := acc) (i := i) (by omega) v
    simp only [laws_markInS.l0]
    rw [if_pos (by omega), if_pos (by omega), w64_succ (by omega)]
    simp (disch := omega) only [Option.bind_some, Int.toNat_natCast, hs, List.set_set, w64, inmk]
    have e : n + 8 = n + 1 + 1 + 1 + 1 + 1 + 1 + 1 + 1 := by omega
    rw [e]
theorem heldInS_ev (l : List IN) (h : l.length ≤ 4194304) (m : Int) (h0 : 0 ≤ m) (h1 : m ≤ 1125899906842624) : Ev (fun k => laws_heldInS.f k (upsG inmk (fun _ => 8) m l) m) (m + costs (fun _ => 8) l) := by
  refine ev_held l inmk (fun _ => 8) (fun _ _ => by decide) (fun k acc n i => laws_heldInS.l0 k acc n i) (fun acc n ha => ?_) (fun i acc n x r ha hi _ hx hn hb ih => ?_) m h0 (by rw [costs_const]; omega)
  · refine ev_end fun k => ?_
    simp only [laws_heldInS.l0]
    rw [if_neg (by omega)]
  · refine Ev.step (fun k => ?_) ih
    simp only [laws_heldInS.l0]
    rw [if_pos (by omega), if_pos (by omega), w64_succ (by omega)]
    simp (disch := omega) only [w64, rdIN hx, inmk, if_true, bne_self_eq_false, Bool.false_eq_true, if_false]
    have e : n + 8 = n + 1 + 1 + 1 + 1 + 1 + 1 + 1 + 1 := by omega
    rw [e]
theorem allOf_j2 (k : Nat) (L : List IN) (c : Int) (hc : 0 ≤ c) (h8 : laws_heldInS.f k L 1 = some c) : laws_FnExactAllOf.j2 (k + 1) L c false = some true := by
  have e2 : ¬ (c < 0) := by omega
  simp only [laws_FnExactAllOf.j2, h8, e2, Option.bind_some, if_true, if_false, Bool.false_eq_true]
theorem allOf_j1 (k : Nat) (l : List Int) (R : List IN) (n : Int) (L : List IN) (c : Int) (hc : 0 ≤ c) (h1 : laws_toByteS.f k l = some l) (h3 : impl_AllOf.f k l = some (R, n)) (h4 : laws_eqInS.f k R R = some true) (h7 : laws_markInS.f k R 1 = some (c, L)) (h8 : laws_heldInS.f k L 1 = some c) (hj : laws_FnExactAllOf.j2 k L c false = some true) :
    laws_FnExactAllOf.j1 (k + 1) l R n R false = some true := by
  have e2 : ¬ (c < 0) := by omega
  simp only [laws_FnExactAllOf.j1, h1, h3, h4, h7, h8, hj, e2, Option.bind_some, if_true, if_false, Bool.false_eq_true, bne_self_eq_false]
theorem allOf_j0 (k : Nat) (l : List Int) (R : List IN) (n : Int) (h1 : laws_toByteS.f k l = some l) (h4 : laws_eqInS.f k R R = some true) (h5 : laws_eqByteS.f k l l = some true) (h6 : laws_markByteS.f k l 1 = some (1 + (l.length : Int), ups 1 l)) (hj : laws_FnExactAllOf.j1 k l R n R false = some true) :
    laws_FnExactAllOf.j0 (k + 1) l R n l R n false = some true := by
  have e1 : ¬ ((1 : Int) + l.length < 0) := by omega
  simp only [laws_FnExactAllOf.j0, h1, h4, h5, h6, hj, e1, Option.bind_some, if_true, if_false, Bool.false_eq_true, bne_self_eq_false]
theorem allOf_f (k : Nat) (l : List Int) (R : List IN) (n : Int) (hbig : ¬ ((l.length : Int) > 1048576)) (h1 : laws_toByteS.f k l = some l) (h2 : spec_AllOf.f k l = some (R, n)) (h3 : impl_AllOf.f k l = some (R, n)) (h4 : laws_eqInS.f k R R = some true) (hj : laws_FnExactAllOf.j0 k l R n l R n false = some true) : laws_FnExactAllOf.f k l = some true := by
  simp only [laws_FnExactAllOf.f, if_neg hbig, h1, h2, h3, h4, hj, Option.bind_some, if_true, bne_self_eq_false]
theorem FnExactAllOf : FnExactAllOfPure := by
  intro l hl
  by_cases hbig : (l.length : Int) > 1048576
  · exact ⟨0, by simp only [laws_FnExactAllOf.f]; rw [if_pos hbig]⟩
  have hb : ∀ x ∈ l, 0 ≤ x ∧ x < 256 := fun x hx => wf8 (hl.2 x hx)
  have hl4 : l.length ≤ 4194304 := by omega
  have hR := allOfM_length l (l.length + 1) [] 0 (by simp) (by omega)
  obtain ⟨K2, h2⟩ := specAllOf_ev l hl4 hb
  obtain ⟨K3, h3⟩ := implAllOf_ev l hl4 hb
  generalize allOfM l (l.length + 1) [] 0 = RR at hR h2 h3
  obtain ⟨R, n⟩ := RR
  have hR : (R.length : Int) ≤ l.length := hR
  obtain ⟨K1, h1⟩ := toByteS_ev l hl4
  obtain ⟨K4, h4⟩ := eqInS_ev R (by omega)
  obtain ⟨K5, h5⟩ := eqByteS_ev l hl4
  obtain ⟨K6, h6⟩ := markByteS_ev l 1 hl4 (by omega) (by omega)
  obtain ⟨K7, h7⟩ := markInS_ev R (by omega) 1 (by omega) (by omega)
  obtain ⟨K8, h8⟩ := heldInS_ev R (by omega) 1 (by omega) (by omega)
  have hc := costs_const (β := IN) 8 R
  generalize costs (fun _ => 8) R = c0 at hc h7 h8
  generalize upsG inmk (fun _ => 8) 1 R = L at h7 h8
  obtain ⟨c, hcc⟩ : ∃ c, 1 + c0 = c := ⟨_, rfl⟩
  rw [hcc] at h7 h8
  have hc0 : 0 ≤ c := by omega
  obtain ⟨S, hS⟩ : ∃ S, S = K1 + K2 + K3 + K4 + K5 + K6 + K7 + K8 := ⟨_, rfl⟩
  refine ⟨S + 3, ?_⟩
  have h1_0 := h1 S (by omega)
  have h1_1 := h1 (S + 1) (by omega)
  have h1_2 := h1 (S + 2) (by omega)
  have h1_3 := h1 (S + 3) (by omega)
  have h2_0 := h2 S (by omega)
  have h2_1 := h2 (S + 1) (by omega)
  have h2_2 := h2 (S + 2) (by omega)
  have h2_3 := h2 (S + 3) (by omega)
  have h3_0 := h3 S (by omega)
  have h3_1 := h3 (S + 1) (by omega)
  have h3_2 := h3 (S + 2) (by omega)
  have h3_3 := h3 (S + 3) (by omega)
  have h4_0 := h4 S (by omega)
  have h4_1 := h4 (S + 1) (by omega)
  have h4_2 := h4 (S + 2) (by omega)
  have h4_3 := h4 (S + 3) (by omega)
  have h5_0 := h5 S (by omega)
  have h5_1 := h5 (S + 1) (by omega)
  have h5_2 := h5 (S + 2) (by omega)
  have h5_3 := h5 (S + 3) (by omega)
  have h6_0 := h6 S (by omega)
  have h6_1 := h6 (S + 1) (by omega)
  have h6_2 := h6 (S + 2) (by omega)
  have h6_3 := h6 (S + 3) (by omega)
  have h7_0 := h7 S (by omega)
  have h7_1 := h7 (S + 1) (by omega)
  have h7_2 := h7 (S + 2) (by omega)
  have h7_3 := h7 (S + 3) (by omega)
  have h8_0 := h8 S (by omega)
  have h8_1 := h8 (S + 1) (by omega)
  have h8_2 := h8 (S + 2) (by omega)
  have h8_3 := h8 (S + 3) (by omega)
  clear h1 h2 h3 h4 h5 h6 h7 h8
  have hj2 := allOf_j2 S L c hc0 h8_0
  have hj1 := allOf_j1 (S + 1) l R n L c hc0 h1_1 h3_1 h4_1 h7_1 h8_1 hj2
  have hj0 := allOf_j0 (S + 2) l R n h1_2 h4_2 h5_2 h6_2 hj1
  exact allOf_f (S + 3) l R n hbig h1_3 h2_3 h3_3 h4_3 hj0
end Go.Proofs.Ytjaldondohddpaa.Pure

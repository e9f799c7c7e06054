/- The statement of laws.FnNumbers over numbers and lists alone: at every input it answers true. No condition but that the numbers are those of their kinds and that no slice is longer than a Go slice can be. -/
import Derived.Test.YtljbdchibfjbdaaDoorTFnNumbers
import Derived.Test.YtljbdchibfjbdaaDoorBase
import Derived.Laws.BitsLemmas
import Derived.Lib.ItoaNum
import Derived.Lib.ItoaLen
import Derived.Lib.Strings
import Derived.Lib.SplitLaws
import Derived.Lib.IndexBytes
import Derived.Laws.BitsLemmas
set_option linter.unusedVariables false
set_option linter.unusedSimpArgs false
namespace Go.Proofs.YtljbdchibfjbdaaDoor.Pure
open Go.RowKit Go.Proofs.YtljbdchibfjbdaaDoor.PFnNumbers Go.Proofs.YtljbdchibfjbdaaDoor.Base Go.Proofs.YtljbdchibfjbdaaDoorW.PrintWords Go.Proofs.YtljbdchibfjbdaaDoorW.PrintLast Go.Proofs.YtljbdchibfjbdaaDoorW.PrintMore
def FnNumbersPure : Prop := ∀ (l0 : List (Int)), (l0.length ≤ maxLen ∧ ∀ x ∈ l0, (Lit.int .u8 x).wf = true) → ∃ k, laws_FnNumbers.f k l0 = some true
/-- The number that begins at the i-th byte of a number, of which n is read: it and how many bytes it has. -/
def getM : Nat → Int → List Int → Option (Int × Nat)
  | _, _, [] => none
  | i, n, x :: t => if i < 5 then
      (if x < 128 then (if x = 0 ∧ 0 < i ∨ n + x % 128 * 128 ^ i > 2147483647 then none else some (n + x % 128 * 128 ^ i, i + 1)) else getM (i + 1) (n + x % 128 * 128 ^ i) t)
    else none
/-- What GetNum answers. -/
def getNum (l : List Int) (at_ : Int) : Int × Int × Bool :=
  if at_ < 0 then (0, 0, false) else match getM 0 0 (l.drop at_.toNat) with
    | none => (0, 0, false)
    | some (n, c) => (n, at_ + c, true)
theorem i64_wraps (n : Int) (h0 : 0 ≤ n) (h1 : n < 2 ^ 62) : IntKind.i64.wrap n = n := by
  rw [IntKind.wrap_i64]
  omega
theorem or_comm64 (a b : Int) : Go.bits .or .i64 a b = Go.bits .or .i64 b a := by simp only [Go.bits, BitVec.or_comm]
theorem or_join (i : Nat) (n d : Int) (hi : i < 5) (h0 : 0 ≤ n) (h1 : n < 128 ^ i) (h2 : 0 ≤ d) (h3 : d < 128) :
    Go.bits .or .i64 n (shl .i64 d (7 * (i : Int))) = n + d * 128 ^ i := by
  have key : ∀ j : Nat, j ≤ 28 → n < 2 ^ j → (2 : Int) ^ j ≤ 268435456 → Go.bits .or .i64 n (IntKind.i64.wrap (d * 2 ^ j)) = n + d * 2 ^ j := by
    intro j hj hn hp
    have hp0 : (0 : Int) < 2 ^ j := Int.pow_pos (by decide)
    have hd0 : 0 ≤ d * 2 ^ j := Int.mul_nonneg h2 (Int.le_of_lt hp0)
    have hd1 : d * 2 ^ j ≤ 127 * 268435456 := by
      calc d * 2 ^ j ≤ 127 * 2 ^ j := Int.mul_le_mul_of_nonneg_right (by omega) (Int.le_of_lt hp0)
        _ ≤ 127 * 268435456 := Int.mul_le_mul_of_nonneg_left hp (by decide)
    rw [i64_wraps _ hd0 (by omega), or_comm64, Go.bits_join .i64 62 (by decide) i64_wraps j _ _ hd0 (Int.mul_emod_left _ _) (by omega) h0 hn (by omega)]
    omega
  match i, hi with
  | 0, _ => have := key 0 (by decide) (by simpa using h1) (by decide); simpa [shl, IntKind.bits] using this
  | 1, _ => have := key 7 (by decide) (by simpa using h1) (by decide); simpa [shl, IntKind.bits] using this
  | 2, _ => have := key 14 (by decide) (by simpa using h1) (by decide); simpa [shl, IntKind.bits] using this
  | 3, _ => have := key 21 (by decide) (by simpa using h1) (by decide); simpa [shl, IntKind.bits] using this
  | 4, _ => have := key 28 (by decide) (by simpa using h1) (by decide); simpa [shl, IntKind.bits] using this
theorem and_127 (x : Int) (h0 : 0 ≤ x) (h1 : x < 256) : Go.bits .and .i64 x 127 = x % 128 := by
  have := Go.bits_mask .i64 62 (by decide) i64_wraps 7 (by decide) x h0 (by omega)
  simpa using this
theorem pow_step (i : Nat) (n d : Int) (h0 : 0 ≤ n) (h1 : n < 128 ^ i) (h2 : 0 ≤ d) (h3 : d < 128) : 0 ≤ n + d * 128 ^ i ∧ n + d * 128 ^ i < 128 ^ (i + 1) := by
  have hp : (0 : Int) < 128 ^ i := Int.pow_pos (by decide)
  have a : 0 ≤ d * 128 ^ i := Int.mul_nonneg h2 (Int.le_of_lt hp)
  have b : d * 128 ^ i ≤ 127 * 128 ^ i := Int.mul_le_mul_of_nonneg_right (by omega) (Int.le_of_lt hp)
  rw [Int.pow_succ]
  omega
theorem pow128 (i : Nat) : (0 : Int) < 128 ^ i := Int.pow_pos (by decide)
theorem getM_some : ∀ (l : List Int) (i : Nat) (acc : Int) (n : Int) (c : Nat), 0 ≤ acc → (∀ x ∈ l, 0 ≤ x ∧ x < 256) → getM i acc l = some (n, c) → 0 ≤ n ∧ n ≤ 2147483647 ∧ i < c ∧ c ≤ i + l.length ∧ c ≤ 5 := by
  intro l
  induction l with
  | nil => intro i acc n c _ _ h; simp [getM] at h
  | cons x t ih =>
    intro i acc n c h0 hb h
    have hx := hb x (by simp)
    have hp : 0 ≤ x % 128 * 128 ^ i := Int.mul_nonneg (by omega) (Int.le_of_lt (pow128 i))
    rw [getM] at h
    by_cases h5 : i < 5
    · rw [if_pos h5] at h
      by_cases h128 : x < 128
      · rw [if_pos h128] at h
        split at h
        · cases h
        · rename_i hn
          injection h with h
          injection h with h1 h2
          subst h1
          subst h2
          refine ⟨by omega, by omega, by omega, by simp, by omega⟩
      · rw [if_neg h128] at h
        have := ih (i + 1) (acc + x % 128 * 128 ^ i) n c (by omega) (fun y hy => hb y (by simp [hy])) h
        simp only [List.length_cons]
        omega
    · rw [if_neg h5] at h
      cases h
/-- A number's bytes, seven bits each, the low ones first. -/
def putM (n : Nat) : List Int := if n > 127 then (((n % 128 + 128 : Nat) : Int)) :: putM (n / 128) else [(n : Int)]
termination_by n
decreasing_by omega
theorem putM_length (n : Nat) : (putM n).length ≤ n + 1 := by
  induction n using Nat.strongRecOn with
  | ind n ih =>
    rw [putM]
    split
    · have := ih (n / 128) (by omega)
      simp
      omega
    · simp
theorem putM_bytes (n : Nat) : ∀ x ∈ putM n, 0 ≤ x ∧ x < 256 := by
  induction n using Nat.strongRecOn with
  | ind n ih =>
    rw [putM]
    split
    · intro x hx
      rcases List.mem_cons.1 hx with rfl | hx
      · omega
      · exact ih (n / 128) (by omega) x hx
    · intro x hx
      simp at hx
      omega
/-- PutNum: nothing of a number that is below 0 or above the greatest. -/
def putNum (n : Int) : List Int := if 0 ≤ n ∧ n ≤ 2147483647 then putM n.toNat else []
theorem putM_short (n : Nat) (h : n ≤ 2147483647) : (putM n).length ≤ 5 := by
  have h1 : ∀ m, m ≤ 127 → (putM m).length = 1 := by
    intro m hm
    rw [putM, if_neg (by omega)]
    rfl
  have st : ∀ m b c, (∀ m', m' ≤ b → (putM m').length ≤ c) → m / 128 ≤ b → (putM m).length ≤ c + 1 := by
    intro m b c hh hm
    rw [putM]
    split
    · have := hh _ hm
      simp
      omega
    · simp
  have a1 : ∀ m, m ≤ 127 → (putM m).length ≤ 1 := fun m hm => by rw [h1 m hm]; omega
  have a2 : ∀ m, m ≤ 16383 → (putM m).length ≤ 2 := fun m hm => st m 127 1 a1 (by omega)
  have a3 : ∀ m, m ≤ 2097151 → (putM m).length ≤ 3 := fun m hm => st m 16383 2 a2 (by omega)
  have a4 : ∀ m, m ≤ 268435455 → (putM m).length ≤ 4 := fun m hm => st m 2097151 3 a3 (by omega)
  exact st n 268435455 4 a4 (by omega)
theorem putNum_short (n : Int) : (putNum n).length ≤ 5 := by
  unfold putNum
  split
  · exact putM_short _ (by omega)
  · simp
theorem putNum_bytes (n : Int) : ∀ x ∈ putNum n, 0 ≤ x ∧ x < 256 := by
  unfold putNum
  split
  · exact putM_bytes _
  · simp
theorem getM_putM : ∀ (n : Nat) (i : Nat) (acc : Int), 0 ≤ acc → (0 < n ∨ i = 0) → i + (putM n).length ≤ 5 → acc + (n : Int) * 128 ^ i ≤ 2147483647 → getM i acc (putM n) = some (acc + (n : Int) * 128 ^ i, i + (putM n).length) := by
  intro n
  induction n using Nat.strongRecOn with
  | ind n ih =>
    intro i acc h0 hn hl hm
    have hp := pow128 i
    by_cases h : n > 127
    · rw [putM, if_pos h] at hl ⊢
      simp only [List.length_cons] at hl ⊢
      rw [getM, if_pos (by omega), if_neg (by omega)]
      have hx : (((n % 128 + 128 : Nat) : Int)) % 128 = ((n % 128 : Nat) : Int) := by omega
      rw [hx]
      have e : ((n : Nat) : Int) * 128 ^ i = ((n % 128 : Nat) : Int) * 128 ^ i + ((n / 128 : Nat) : Int) * 128 ^ (i + 1) := by
        have hd : (n : Int) = ((n % 128 : Nat) : Int) + 128 * ((n / 128 : Nat) : Int) := by omega
        rw [Int.pow_succ]
        calc (n : Int) * 128 ^ i = (((n % 128 : Nat) : Int) + 128 * ((n / 128 : Nat) : Int)) * 128 ^ i := by rw [← hd]
          _ = ((n % 128 : Nat) : Int) * 128 ^ i + 128 * ((n / 128 : Nat) : Int) * 128 ^ i := Int.add_mul _ _ _
          _ = ((n % 128 : Nat) : Int) * 128 ^ i + ((n / 128 : Nat) : Int) * (128 ^ i * 128) := by
            congr 1
            rw [Int.mul_comm 128, Int.mul_assoc, Int.mul_comm 128]
      have hp2 : 0 ≤ ((n % 128 : Nat) : Int) * 128 ^ i := Int.mul_nonneg (by omega) (Int.le_of_lt hp)
      rw [ih (n / 128) (by omega) (i + 1) _ (by omega) (Or.inl (by omega)) (by omega) (by omega), e]
      congr 1
      refine Prod.ext ?_ ?_
      · show acc + _ + _ = acc + (_ + _)
        omega
      · show i + 1 + _ = i + (_ + 1)
        omega
    · rw [putM, if_neg h] at hl ⊢
      simp only [List.length_cons, List.length_nil] at hl ⊢
      have hx : (n : Int) % 128 = (n : Int) := by omega
      rw [getM, if_pos (by omega), if_pos (by omega), hx, if_neg (by omega)]
theorem getNum_putNum (x : Int) (h : 0 ≤ x ∧ x ≤ 2147483647) : getNum (putNum x) 0 = (x, ((putNum x).length : Int), true) := by
  obtain ⟨n, rfl⟩ := Int.eq_ofNat_of_zero_le h.1
  unfold putNum getNum
  rw [if_pos h]
  simp only [Int.toNat_natCast]
  have hs := putM_short n (by omega)
  have := getM_putM n 0 0 (by omega) (Or.inr rfl) (by omega) (by simp; omega)
  simp only [Int.pow_zero, Int.mul_one, Int.zero_add, Nat.zero_add] at this
  simp [this]
theorem getM_canon : ∀ (l : List Int) (i : Nat) (acc n : Int) (c : Nat), 0 ≤ acc → (∀ x ∈ l, 0 ≤ x ∧ x < 256) → getM i acc l = some (n, c) → ∃ m : Nat, n = acc + (m : Int) * 128 ^ i ∧ (0 < m ∨ i = 0) ∧ l.take (c - i) = putM m := by
  intro l
  induction l with
  | nil => intro i acc n c _ _ h; simp [getM] at h
  | cons x t ih =>
    intro i acc n c h0 hb h
    have hx := hb x (by simp)
    have hp := pow128 i
    have hc := getM_some (x :: t) i acc n c h0 hb h
    rw [getM] at h
    by_cases h5 : i < 5
    · rw [if_pos h5] at h
      by_cases h128 : x < 128
      · rw [if_pos h128] at h
        split at h
        · cases h
        · rename_i hn
          injection h with h
          injection h with h1 h2
          subst h1
          subst h2
          obtain ⟨m, rfl⟩ := Int.eq_ofNat_of_zero_le hx.1
          have hm : (m : Int) % 128 = (m : Int) := by omega
          refine ⟨m, by rw [hm], by omega, ?_⟩
          rw [show i + 1 - i = 1 by omega, putM, if_neg (by omega)]
          rfl
      · rw [if_neg h128] at h
        have hp2 : 0 ≤ x % 128 * 128 ^ i := Int.mul_nonneg (by omega) (Int.le_of_lt hp)
        obtain ⟨m, e1, e2, e3⟩ := ih (i + 1) (acc + x % 128 * 128 ^ i) n c (by omega) (fun y hy => hb y (by simp [hy])) h
        obtain ⟨y, rfl⟩ := Int.eq_ofNat_of_zero_le hx.1
        have hm0 : 0 < m := by omega
        refine ⟨y % 128 + 128 * m, ?_, by omega, ?_⟩
        · rw [e1, Int.pow_succ]
          have hz : ((y % 128 + 128 * m : Nat) : Int) = (y : Int) % 128 + 128 * (m : Int) := by omega
          rw [hz, Int.add_mul, Int.add_assoc]
          congr 2
          rw [Int.mul_comm 128, Int.mul_assoc, Int.mul_comm 128]
        · rw [show c - i = (c - (i + 1)) + 1 by omega, List.take_succ_cons, e3, putM.eq_1 (y % 128 + 128 * m), if_pos (by omega)]
          congr 1
          · omega
          · congr 1
            omega
    · rw [if_neg h5] at h
      cases h
theorem getNum_canon (l : List Int) (a : Int) (hb : ∀ x ∈ l, 0 ≤ x ∧ x < 256) (h : (getNum l a).2.2 = true) : 0 ≤ a ∧ a ≤ (getNum l a).2.1 ∧ (getNum l a).2.1 ≤ (l.length : Int) ∧ putNum (getNum l a).1 = (l.take (getNum l a).2.1.toNat).drop a.toNat := by
  unfold getNum at h ⊢
  by_cases h0 : a < 0
  · rw [if_pos h0] at h; cases h
  rw [if_neg h0] at h ⊢
  cases hg : getM 0 0 (l.drop a.toNat) with
  | none => rw [hg] at h; cases h
  | some r =>
    obtain ⟨n, c⟩ := r
    have hb2 : ∀ x ∈ l.drop a.toNat, 0 ≤ x ∧ x < 256 := fun x hx => hb x (List.mem_of_mem_drop hx)
    have h1 := getM_some _ 0 0 n c (by omega) hb2 hg
    obtain ⟨m, e1, _, e3⟩ := getM_canon _ 0 0 n c (by omega) hb2 hg
    simp only [List.length_drop] at h1
    simp only [Int.pow_zero, Int.mul_one, Int.zero_add, Nat.sub_zero] at e1 e3
    dsimp only
    have hlt : a.toNat < l.length := by omega
    refine ⟨by omega, by omega, by omega, ?_⟩
    unfold putNum
    rw [if_pos (by omega), show n.toNat = m by omega, ← e3, List.drop_take, show (a + (c : Int)).toNat - a.toNat = c by omega]
theorem bytes_append (a b : List UInt8) : ((⟨a.toArray⟩ : ByteArray) ++ ⟨b.toArray⟩) = ⟨(a ++ b).toArray⟩ := by
  apply ByteArray.ext
  simp
theorem bytes_size (a : List UInt8) : (⟨a.toArray⟩ : ByteArray).size = a.length := by
  simp [ByteArray.size]
theorem strOfNums_one (x : Nat) : strOfNums [(x : Int)] = ⟨[UInt8.ofNat x].toArray⟩ := by
  simp [strOfNums]
def digs (m : Nat) : List UInt8 := if m = 0 then [] else Lib.decDigits m
theorem digs_step (m : Nat) (h : m ≠ 0) : digs m = digs (m / 10) ++ [UInt8.ofNat (48 + m % 10)] := by
  unfold digs
  rw [if_neg h]
  by_cases hs : m < 10
  · rw [Lib.decDigits_one hs, if_pos (by omega), Nat.mod_eq_of_lt hs]
    rfl
  · rw [if_neg (by omega)]
    conv => lhs; rw [Lib.decDigits]
    rw [dif_neg hs]
def ndigs (m : Nat) : Nat := if m = 0 then 0 else Lib.nDigits m
theorem ndigs_step (m : Nat) (h : m ≠ 0) : ndigs m = ndigs (m / 10) + 1 := by
  unfold ndigs
  rw [if_neg h]
  by_cases hs : m < 10
  · rw [Lib.nDigits_small hs, if_pos (by omega)]
  · rw [if_neg (by omega), Lib.nDigits_big hs]
theorem ndigs_le (m : Nat) (h : m < 18446744073709551616) : ndigs m ≤ 20 := by
  unfold ndigs
  split
  · omega
  · exact Lib.nDigits_le20 m h
/-! A text cut at a byte: as the reference's loop does it, and as the kit's word for strings.Split does. -/
def pc (c : UInt8) : List UInt8 → List UInt8 → List (List UInt8)
  | cur, [] => [cur]
  | cur, x :: t => if x = c then cur :: pc c [] t else pc c (cur ++ [x]) t
theorem indexByte_at (c : UInt8) : ∀ (cur t : List UInt8), c ∉ cur → Lib.index (cur ++ c :: t) [c] = (cur.length : Int) := by
  intro cur t h
  rw [Lib.index_one]
  induction cur with
  | nil => simp [Lib.indexByte]
  | cons x r ih =>
    have hx : ¬ x = c := fun e => h (by simp [e])
    have ih := ih (fun e => h (by simp [e]))
    simp only [List.cons_append, Lib.indexByte]
    rw [ih]
    simp [hx]
theorem splitK_pc (c : UInt8) (l : List UInt8) : ∀ cur : List UInt8, c ∉ cur → Lib.splitK [c] 0 (Lib.count (cur ++ l) [c]) (cur ++ l) = pc c cur l := by
  induction l with
  | nil =>
    intro cur h
    have e : Lib.count (cur ++ []) [c] = 0 := by rw [Lib.count_one, List.append_nil]; exact List.count_eq_zero.2 h
    rw [e, List.append_nil]
    rfl
  | cons x t ih =>
    intro cur h
    by_cases hx : x = c
    · subst hx
      have hi := indexByte_at x cur t h
      have hc : Lib.count (cur ++ x :: t) [x] = Lib.count t [x] + 1 := by
        rw [Lib.count_hit (by simp) hi]
        simp [Nat.add_comm]
      rw [hc]
      simp only [Lib.splitK, hi, pc, if_true]
      rw [if_neg (by simp)]
      have h2 := ih [] (by simp)
      simp only [List.nil_append] at h2
      rw [← h2]
      simp
    · have h2 := ih (cur ++ [x]) (by simp [h, Ne.symm hx])
      simp only [pc, if_neg hx]
      rw [← h2]
      simp
def mkB (p : List UInt8) : ByteArray := ⟨p.toArray⟩
theorem mkB_data (s : ByteArray) : mkB s.data.toList = s := by
  apply ByteArray.ext
  simp [mkB]
theorem pieces_pc (s : ByteArray) (c : UInt8) (a : Int) (h : strOfNums [a] = mkB [c]) : Cuts.pieces s a = (pc c [] s.data.toList).map mkB := by
  have e1 := splitK_pc c s.data.toList [] (by simp)
  have e2 := Lib.splitB_data (mkB [c]) 0 (Lib.countB s (mkB [c])) s
  have e3 : (mkB [c]).data.toList = [c] := by simp [mkB]
  simp only [List.nil_append] at e1
  unfold Cuts.pieces
  rw [h]
  have e4 : (Lib.splitB (mkB [c]) 0 (Lib.countB s (mkB [c])) s).map (fun p => p.data.toList) = pc c [] s.data.toList := by
    rw [e2, e3, ← e1]
    congr 1
  rw [← e4, List.map_map]
  conv => lhs; rw [← List.map_id (Lib.splitB (mkB [c]) 0 (Lib.countB s (mkB [c])) s)]
  apply List.map_congr_left
  intro p _
  exact (mkB_data p).symm
theorem pc_length (c : UInt8) (l : List UInt8) : ∀ cur, (pc c cur l).length ≤ l.length + 1 := by
  induction l with
  | nil => intro cur; simp [pc]
  | cons x t ih =>
    intro cur
    simp only [pc]
    split
    · have := ih []
      simp
      omega
    · have := ih (cur ++ [x])
      simp
      omega
theorem extract_mk (s : ByteArray) (i j : Nat) : s.extract i j = mkB ((s.data.toList.take j).drop i) := by
  apply ByteArray.ext
  apply Array.toList_inj.1
  simp [mkB, List.extract_eq_take_drop, List.drop_take]
theorem bt_list (s : ByteArray) (i : Nat) (x : UInt8) (h : s.data.toList[i]? = some x) : bt s (i : Int) = (x.toNat : Int) := by
  obtain ⟨h1, h2⟩ := List.getElem?_eq_some_iff.1 h
  have hs : i < s.size := by simpa using h1
  unfold bt
  rw [dif_pos (by simpa using hs)]
  congr 2
/-- Parts of a text, with a byte between. -/
def joinM (c : UInt8) : Bool → List UInt8 → List (List UInt8) → List UInt8
  | _, acc, [] => acc
  | first, acc, p :: t => joinM c false (acc ++ (if first then [] else [c]) ++ p) t
theorem join_pc (c : UInt8) : ∀ (l cur : List UInt8) (first : Bool) (acc : List UInt8), joinM c first acc (pc c cur l) = acc ++ (if first then [] else [c]) ++ cur ++ l := by
  intro l
  induction l with
  | nil => intro cur first acc; simp [pc, joinM]
  | cons x t ih =>
    intro cur first acc
    by_cases h : x = c
    · subst h
      simp only [pc, if_true, joinM]
      rw [ih]
      simp
    · simp only [pc, if_neg h]
      rw [ih]
      simp
theorem mkB_append (a b : List UInt8) : mkB a ++ mkB b = mkB (a ++ b) := bytes_append a b
theorem mkB_size (a : List UInt8) : (mkB a).size = a.length := bytes_size a
theorem joinM_len (c : UInt8) : ∀ (l : List (List UInt8)) (first : Bool) (acc : List UInt8), acc.length ≤ (joinM c first acc l).length := by
  intro l
  induction l with
  | nil => intro first acc; simp [joinM]
  | cons p t ih =>
    intro first acc
    simp only [joinM]
    refine Nat.le_trans ?_ (ih _ _)
    simp only [List.length_append]
    omega
def itoaB (n : Int) : ByteArray := ⟨(Lib.itoa n).toArray⟩
theorem implDigits_eq (k : Nat) (n : Int) (h0 : -9223372036854775808 ≤ n) (h1 : n ≤ 9223372036854775807) : impl_Digits.f k n = some (itoaB n) := by
  simp only [impl_Digits.f, strconv_Itoa_73.f]
  rw [if_pos ⟨h0, h1⟩]
  rfl
theorem specDigits_l (m : Nat) : ∀ (x : Int) (b : Bool) (acc : List UInt8), x.natAbs = m → -9223372036854775808 ≤ x → x ≤ 9223372036854775807 → acc.length + ndigs m ≤ 100 →
    Ev (fun k => spec_Digits.l0 k x b ⟨acc.toArray⟩) ⟨((if b then [45] else []) ++ digs m ++ acc).toArray⟩ := by
  induction m using Nat.strongRecOn with
  | ind m ih =>
    intro x b acc hm h0 h1 hacc
    by_cases hx : x = 0
    · subst hx
      have hm0 : m = 0 := by omega
      subst hm0
      refine ev_end fun k => ?_
      simp only [spec_Digits.l0]
      rw [if_pos trivial]
      cases b with
      | true =>
        rw [if_pos rfl, if_pos (by rw [bytes_size]; omega)]
        show some ((⟨[45].toArray⟩ : ByteArray) ++ _) = _
        rw [bytes_append]
        simp [digs]
      | false => simp [digs]
    · have hm0 : m ≠ 0 := by omega
      have hs := ndigs_step m hm0
      have hd : (Int.tmod x 10).natAbs = m % 10 := by rw [Int.natAbs_tmod, hm]; rfl
      have hq : (Int.tdiv x 10).natAbs = m / 10 := by rw [Int.natAbs_tdiv, hm]; rfl
      have hq0 : -9223372036854775808 ≤ Int.tdiv x 10 ∧ Int.tdiv x 10 ≤ 9223372036854775807 := by
        have : m / 10 ≤ 922337203685477580 := by omega
        omega
      have rec_ := ih (m / 10) (by omega) (Int.tdiv x 10) b (UInt8.ofNat (48 + m % 10) :: acc) hq hq0.1 hq0.2 (by simp; omega)
      have hlt : m % 10 < 10 := Nat.mod_lt _ (by omega)
      have e : ∀ v : Int, v = ((48 + m % 10 : Nat) : Int) → (strOfNums [v] : ByteArray) = ⟨[UInt8.ofNat (48 + m % 10)].toArray⟩ := fun v hv => by rw [hv, strOfNums_one]
      have fin : ∀ v : Int, v = ((48 + m % 10 : Nat) : Int) → ∀ k, (if (strOfNums [v]).size + (⟨acc.toArray⟩ : ByteArray).size ≤ 9223372036854775807 then spec_Digits.l0 k (wrap64 (Int.tdiv x 10)) b (strOfNums [v] ++ ⟨acc.toArray⟩) else none) = spec_Digits.l0 k (Int.tdiv x 10) b ⟨(UInt8.ofNat (48 + m % 10) :: acc).toArray⟩ := fun v hv k => by
        rw [e v hv, bytes_append, bytes_size, bytes_size, if_pos (by simp; omega), w64 hq0.1 hq0.2]
        rfl
      rw [digs_step m hm0]
      rw [List.append_assoc, List.append_assoc]
      rw [List.append_assoc] at rec_
      refine Ev.step (fun k => ?_) rec_
      simp only [spec_Digits.l0]
      rw [if_neg hx]
      by_cases hneg : Int.tmod x 10 < 0
      · rw [if_pos hneg]
        simp only [Option.bind_some]
        exact fin _ (by rw [w64 (x := -(Int.tmod x 10)) (by omega) (by omega), w64 (by omega) (by omega)]; omega) k
      · rw [if_neg hneg]
        simp only [Option.bind_some]
        exact fin _ (by rw [w64 (by omega) (by omega)]; omega) k
theorem specDigits_ev (n : Int) (h0 : -9223372036854775808 ≤ n) (h1 : n ≤ 9223372036854775807) : Ev (fun k => spec_Digits.f k n) (itoaB n) := by
  by_cases hn : n = 0
  · subst hn
    refine ev_some fun k => ?_
    simp only [spec_Digits.f]
    rw [if_pos trivial]
    unfold itoaB Lib.itoa
    rw [if_neg (by omega)]
    show _ = some (⟨(Lib.decDigits 0).toArray⟩ : ByteArray)
    rw [Lib.decDigits_one (by omega)]
    rfl
  · have h := specDigits_l n.natAbs n (decide (n < 0)) [] rfl h0 h1 (by have := ndigs_le n.natAbs (by omega); simp; omega)
    have e : (⟨((if decide (n < 0) = true then [45] else []) ++ digs n.natAbs ++ []).toArray⟩ : ByteArray) = itoaB n := by
      have hz : ¬ n.natAbs = 0 := by omega
      unfold itoaB Lib.itoa digs
      by_cases hb : n < 0
      · simp only [if_pos hb, if_neg hz, decide_eq_true hb, if_true, List.append_nil]
        rfl
      · have ht : n.natAbs = n.toNat := by omega
        simp only [if_neg hb, ht, decide_eq_false hb, List.append_nil, List.nil_append, Bool.false_eq_true, if_false, if_neg (show ¬ n.toNat = 0 by omega)]
    rw [e] at h
    refine Ev.congr (fun k => ?_) h
    simp only [spec_Digits.f]
    rw [if_neg hn]
theorem itoaB_size (n : Int) (h0 : -9223372036854775808 ≤ n) (h1 : n ≤ 9223372036854775807) : (itoaB n).size ≤ 21 := by
  unfold itoaB
  rw [bytes_size]
  exact Lib.itoa_length_le n h0 h1
theorem number_loops (s : ByteArray) (d : Nat) : ∀ (i : Nat) (x : Int), i + d = s.size → s.size ≤ 6 → 0 ≤ x → x < (10 : Int) ^ i → ∃ r, Ev (fun k => spec_Number.l0 k s x (i : Int)) r ∧ Ev (fun k => impl_Number.l0 k s x (i : Int)) r ∧ (r.2 = true → (itoaB r.1).toList = s.toList ∧ 0 ≤ r.1 ∧ r.1 < 1000000) := by
  induction d with
  | zero =>
    intro i x hi h6 h0 hx
    have hb : x < 1000000 := Int.lt_of_lt_of_le hx (by
      have : (10 : Nat) ^ i ≤ 10 ^ 6 := Nat.pow_le_pow_right (by omega) (by omega)
      have e : ((10 ^ i : Nat) : Int) = (10 : Int) ^ i := by simp
      rw [← e]
      omega)
    have hr : -9223372036854775808 ≤ x ∧ x ≤ 9223372036854775807 := ⟨by omega, by omega⟩
    refine ⟨if (itoaB x).toList = s.toList then (x, true) else (0, false), ?_, ?_, ?_⟩
    · refine Ev.stepBind (specDigits_ev x hr.1 hr.2) (fun k => ?_) (ev_some (fun k => ?_)) (f := fun _ t => if t.toList = s.toList then some (x, true) else some (0, false))
      · simp only [spec_Number.l0]
        rw [if_neg (by omega)]
      · split <;> rfl
    · refine ev_end fun k => ?_
      simp only [impl_Number.l0]
      rw [if_neg (by omega), implDigits_eq k x hr.1 hr.2]
      simp only [Option.bind_some]
      split <;> rfl
    · split
      · rename_i he
        exact fun _ => ⟨he, h0, hb⟩
      · intro h; cases h
  | succ d ih =>
    intro i x hi h6 h0 hx
    have hb : x < 100000 := Int.lt_of_lt_of_le hx (by
      have : (10 : Nat) ^ i ≤ 10 ^ 5 := Nat.pow_le_pow_right (by omega) (by omega)
      have e : ((10 ^ i : Nat) : Int) = (10 : Int) ^ i := by simp
      rw [← e]
      omega)
    by_cases h48 : bt s (i : Int) < 48
    · refine ⟨(0, false), ev_end fun k => ?_, ev_end fun k => ?_, (fun h => by cases h)⟩
      · simp only [spec_Number.l0]
        rw [if_pos (by omega), if_pos (by omega), if_pos h48]
      · simp only [impl_Number.l0]
        rw [if_pos (by omega), if_pos (by omega), if_pos h48]
    by_cases h57 : bt s (i : Int) > 57
    · refine ⟨(0, false), ev_end fun k => ?_, ev_end fun k => ?_, (fun h => by cases h)⟩
      · simp only [spec_Number.l0]
        rw [if_pos (by omega), if_pos (by omega), if_neg h48, if_pos h57]
      · simp only [impl_Number.l0]
        rw [if_pos (by omega), if_pos (by omega), if_neg h48, if_pos h57]
    obtain ⟨r, e1, e2, e3⟩ := ih (i + 1) (10 * x + (bt s (i : Int) - 48)) (by omega) h6 (by omega) (by
      rw [Int.pow_succ]
      omega)
    refine ⟨r, Ev.step (fun k => ?_) e1, Ev.step (fun k => ?_) e2, e3⟩
    · simp only [spec_Number.l0]
      rw [if_pos (by omega), if_pos (by omega), if_neg h48, if_neg h57, w64 (x := 10 * x) (by omega) (by omega), w64 (x := bt s (i : Int)) (by omega) (by omega), w64 (x := 10 * x + bt s (i : Int)) (by omega) (by omega), w64 (by omega) (by omega), w64_succ (by omega)]
      congr 1
      omega
    · simp only [impl_Number.l0]
      rw [if_pos (by omega), if_pos (by omega), if_neg h48, if_neg h57, w64 (x := x * 10) (by omega) (by omega), Int.emod_eq_of_lt (a := bt s (i : Int) - 48) (by omega) (by omega), w64 (by omega) (by omega), w64_succ (by omega)]
      congr 1
      omega
theorem number_same (s : ByteArray) : ∃ r, Ev (fun k => spec_Number.f k s) r ∧ Ev (fun k => impl_Number.f k s) r ∧ (r.2 = true → (itoaB r.1).toList = s.toList ∧ 0 ≤ r.1 ∧ r.1 < 1000000) := by
  by_cases h1 : (s.size : Int) < 1
  · refine ⟨(0, false), ?_, ?_, (fun h => by cases h)⟩
    · refine Ev.congr (f := fun k => spec_Number.j0 k s true) (fun k => ?_) (ev_end fun k => ?_)
      · simp only [spec_Number.f]
        rw [if_pos h1]
      · simp [spec_Number.j0]
    · refine Ev.congr (f := fun k => impl_Number.j0 k s true) (fun k => ?_) (ev_end fun k => ?_)
      · simp only [impl_Number.f]
        rw [if_pos h1]
      · simp [impl_Number.j0]
  by_cases h6 : (s.size : Int) > 6
  · refine ⟨(0, false), ?_, ?_, (fun h => by cases h)⟩
    · refine Ev.congr (f := fun k => spec_Number.j0 k s true) (fun k => ?_) (ev_end fun k => ?_)
      · simp only [spec_Number.f]
        rw [if_neg h1, decide_eq_true h6]
      · simp [spec_Number.j0]
    · refine Ev.congr (f := fun k => impl_Number.j0 k s true) (fun k => ?_) (ev_end fun k => ?_)
      · simp only [impl_Number.f]
        rw [if_neg h1, decide_eq_true h6]
      · simp [impl_Number.j0]
  obtain ⟨r, e1, e2, e3⟩ := number_loops s s.size 0 0 (by omega) (by omega) (by omega) (by simp)
  refine ⟨r, ?_, ?_, e3⟩
  · refine Ev.congr (f := fun k => spec_Number.j0 k s false) (fun k => ?_) (Ev.step (fun k => ?_) e1)
    · simp only [spec_Number.f]
      rw [if_neg h1, decide_eq_false h6]
    · simp [spec_Number.j0]
  · refine Ev.congr (f := fun k => impl_Number.j0 k s false) (fun k => ?_) (Ev.step (fun k => ?_) e2)
    · simp only [impl_Number.f]
      rw [if_neg h1, decide_eq_false h6]
    · simp [impl_Number.j0]
theorem inRange_eq (x lo hi : Int) : impl_inRange.f x lo hi = some (decide (lo ≤ x ∧ x ≤ hi)) := by
  simp only [impl_inRange.f]
  by_cases h : lo ≤ x
  · rw [if_pos h]; simp [h]
  · rw [if_neg h]; simp [h]
theorem implPutNum_l (n : Nat) (acc : List Int) (h : acc.length + n ≤ 70368744177664) (hn : n ≤ 2147483647) : Ev (fun k => impl_PutNum.l0 k (n : Int) acc) (acc ++ putM n) := by
  induction n using Nat.strongRecOn generalizing acc with
  | ind n ih =>
    by_cases hb : n > 127
    · have := ih (n / 128) (by omega) (acc ++ [((n % 128 + 128 : Nat) : Int)]) (by simp; omega) (by omega)
      rw [putM, if_pos hb]
      rw [List.append_assoc] at this
      refine Ev.step (fun k => ?_) this
      simp only [impl_PutNum.l0]
      rw [if_pos (by omega), if_pos (by omega), Int.tmod_eq_emod_of_nonneg (by omega), w64 (x := 128 + (n : Int) % 128) (by omega) (by omega), Int.tdiv_eq_ediv_of_nonneg (by omega), w64 (by omega) (by omega)]
      congr 2
      congr 1
      omega
    · rw [putM, if_neg hb]
      refine ev_end fun k => ?_
      simp only [impl_PutNum.l0]
      rw [if_neg (by omega), if_pos (by omega), Int.emod_eq_of_lt (by omega) (by omega)]
theorem implPutNum_ev (n : Int) : Ev (fun k => impl_PutNum.f k n) (putNum n) := by
  by_cases h : 0 ≤ n ∧ n ≤ 2147483647
  · obtain ⟨m, rfl⟩ := Int.eq_ofNat_of_zero_le h.1
    have := implPutNum_l m [] (by simp; omega) (by omega)
    refine Ev.congr (fun k => ?_) (by simpa [putNum, h] using this)
    simp [impl_PutNum.f, inRange_eq, h]
  · refine ev_some fun k => ?_
    simp [impl_PutNum.f, inRange_eq, h, putNum]
theorem l1In_eq (x lo hi : Int) : spec_l1In.f x lo hi = some (decide (lo ≤ x ∧ x ≤ hi)) := by
  simp only [spec_l1In.f]
  by_cases h : lo ≤ x
  · rw [if_pos h]; simp [h]
  · rw [if_neg h]; simp [h]
theorem specPutNum_l (n : Nat) (acc : List Int) (h : acc.length + n ≤ 70368744177664) (hn : n ≤ 2147483647) : Ev (fun k => spec_PutNum.l0 k (n : Int) acc) (acc ++ putM n) := by
  induction n using Nat.strongRecOn generalizing acc with
  | ind n ih =>
    by_cases hb : n > 127
    · have := ih (n / 128) (by omega) (acc ++ [((n % 128 + 128 : Nat) : Int)]) (by simp; omega) (by omega)
      rw [putM, if_pos hb]
      rw [List.append_assoc] at this
      refine Ev.step (fun k => ?_) this
      simp only [spec_PutNum.l0]
      rw [if_pos (by omega), if_pos (by omega), Int.tmod_eq_emod_of_nonneg (by omega), w64 (x := (n : Int) % 128 + 128) (by omega) (by omega), Int.tdiv_eq_ediv_of_nonneg (by omega), w64 (by omega) (by omega)]
      congr 2
      congr 1
      omega
    · rw [putM, if_neg hb]
      refine ev_end fun k => ?_
      simp only [spec_PutNum.l0]
      rw [if_neg (by omega), if_pos (by omega), Int.emod_eq_of_lt (by omega) (by omega)]
theorem specPutNum_ev (n : Int) : Ev (fun k => spec_PutNum.f k n) (putNum n) := by
  by_cases h : 0 ≤ n ∧ n ≤ 2147483647
  · obtain ⟨m, rfl⟩ := Int.eq_ofNat_of_zero_le h.1
    have := specPutNum_l m [] (by simp; omega) (by omega)
    refine Ev.congr (fun k => ?_) (by simpa [putNum, h] using this)
    simp [spec_PutNum.f, l1In_eq, h]
  · refine ev_some fun k => ?_
    simp [spec_PutNum.f, l1In_eq, h, putNum]
theorem implGetNum_ev (l : List Int) (a : Int) (h : l.length ≤ 4194304) (hb : ∀ x ∈ l, 0 ≤ x ∧ x < 256) (ha : -9223372036854775808 ≤ a ∧ a ≤ 9223372036854775807) : Ev (fun k => impl_GetNum.f k l a) (getNum l a) := by
  by_cases hneg : a < 0
  · exact ev_some fun k => by simp [impl_GetNum.f, getNum, hneg]
  obtain ⟨p, rfl⟩ := Int.eq_ofNat_of_zero_le (Int.not_lt.1 hneg)
  have key : ∀ (d i : Nat) (n : Int), i + d = 5 → 0 ≤ n → n < 128 ^ i →
      Ev (fun k => impl_GetNum.l0 k l (p : Int) n (i : Int)) (match getM i n (l.drop (p + i)) with | none => (0, 0, false) | some (m, c) => (m, (p : Int) + c, true)) := by
    intro d
    induction d with
    | zero =>
      intro i n hi h0 h1
      refine Ev.step (f := fun k => impl_GetNum.j1 k l (p : Int) n (i : Int) false) (fun k => by simp only [impl_GetNum.l0]; rw [if_neg (by omega)]) (ev_end fun k => ?_)
      simp only [impl_GetNum.j1]
      rw [if_neg (by simp)]
      have : getM i n (l.drop (p + i)) = none := by
        cases l.drop (p + i) with
        | nil => rfl
        | cons x t => rw [getM, if_neg (by omega)]
      rw [this]
    | succ d ih =>
      intro i n hi h0 h1
      by_cases hin : p + i < l.length
      · have e : l.drop (p + i) = l[p + i] :: l.drop (p + (i + 1)) := by rw [List.drop_eq_getElem_cons hin]; rfl
        rw [e]
        generalize hx : l[p + i] = x
        have hxx : l[p + i]? = some x := by rw [← hx]; exact List.getElem?_eq_getElem hin
        have hxb := hb x (List.mem_of_getElem? hxx)
        have hr : rd l ((p : Int) + (i : Int)) = x := by have := rd_at hxx; simpa using this
        have hu : ∀ y : Int, 0 ≤ y → y < 100 → IntKind.u64.wrap y = y := fun y h0 h1 => by simp [IntKind.wrap, IntKind.bits, IntKind.signed]; omega
        have hand := and_127 x hxb.1 hxb.2
        have hpw := pow_step i n (x % 128) h0 h1 (by omega) (by omega)
        have hor : Go.bits .or .i64 n (shl .i64 (x % 128) (7 * (i : Int))) = n + x % 128 * 128 ^ i := or_join i n _ (by omega) h0 h1 (by omega) (by omega)
        have s1 : ∀ k, impl_GetNum.l0 (k + 1) l (p : Int) n (i : Int) = impl_GetNum.j1 k l (p : Int) n (i : Int) true := by
          intro k
          simp only [impl_GetNum.l0]
          rw [if_pos (by omega), w64 (by omega) (by omega)]
          congr 1
          rw [decide_eq_true_iff]
          omega
        by_cases hx128 : x < 128
        · rw [getM, if_pos (show i < 5 by omega), if_pos hx128]
          refine Ev.step s1 (ev_end fun k => ?_)
          simp only [impl_GetNum.j1]
          rw [if_pos trivial, w64 (x := (p : Int) + (i : Int)) (by omega) (by omega), hr, w64 (x := 7 * (i : Int)) (by omega) (by omega), hu (7 * (i : Int)) (by omega) (by omega), w64 (x := x) (by omega) (by omega),
            if_pos (by omega), if_pos (by omega), if_pos (by omega), if_neg (by omega), hand, hor, w64 (x := (p : Int) + (i : Int) + 1) (by omega) (by omega)]
          by_cases hx0 : x = 0
          · rw [if_pos hx0]
            by_cases hi0 : 0 < i
            · rw [if_pos (by omega), if_pos (Or.inl ⟨hx0, hi0⟩)]
            · rw [if_neg (by omega)]
              by_cases hbig : n + x % 128 * 128 ^ i > 2147483647
              · rw [if_pos hbig, if_pos (Or.inr hbig)]
              · rw [if_neg hbig, if_neg (by omega)]
                simp
                omega
          · rw [if_neg hx0]
            by_cases hbig : n + x % 128 * 128 ^ i > 2147483647
            · rw [if_pos hbig, if_pos (Or.inr hbig)]
            · rw [if_neg hbig, if_neg (by omega)]
              simp
              omega
        · have := ih (i + 1) _ (by omega) hpw.1 hpw.2
          rw [getM, if_pos (by omega), if_neg hx128]
          refine Ev.step s1 (Ev.step (fun k => ?_) this)
          simp only [impl_GetNum.j1]
          rw [if_pos trivial, w64 (x := (p : Int) + (i : Int)) (by omega) (by omega), hr, w64 (x := 7 * (i : Int)) (by omega) (by omega), hu (7 * (i : Int)) (by omega) (by omega), w64 (x := x) (by omega) (by omega),
            if_pos (by omega), if_pos (by omega), if_pos (by omega), if_pos (by omega), hand, hor, w64_succ (by omega)]
      · have e : l.drop (p + i) = [] := List.drop_eq_nil_of_le (by omega)
        rw [e]
        refine Ev.step (f := fun k => impl_GetNum.j1 k l (p : Int) n (i : Int) false) (fun k => ?_) (ev_end fun k => ?_)
        · simp only [impl_GetNum.l0]
          rw [if_pos (by omega), w64 (by omega) (by omega)]
          congr 1
          rw [decide_eq_false_iff_not]
          omega
        · simp only [impl_GetNum.j1]
          rw [if_neg (by simp)]
          rfl
  have := key 5 0 0 rfl (by omega) (by simp)
  simp only [getNum, impl_GetNum.f, if_neg hneg]
  exact this
theorem specGetNum_ev (l : List Int) (a : Int) (h : l.length ≤ 4194304) (hb : ∀ x ∈ l, 0 ≤ x ∧ x < 256) (ha : -9223372036854775808 ≤ a ∧ a ≤ 9223372036854775807) : Ev (fun k => spec_GetNum.f k l a) (getNum l a) := by
  by_cases hneg : a < 0
  · refine ⟨2, fun k hk => ?_⟩
    obtain ⟨j, rfl⟩ : ∃ j, k = j + 2 := ⟨k - 2, by omega⟩
    simp [spec_GetNum.f, spec_GetNum.l0, spec_GetNum.j1, getNum, hneg]
  obtain ⟨p, rfl⟩ := Int.eq_ofNat_of_zero_le (Int.not_lt.1 hneg)
  have key : ∀ (d i : Nat) (n : Int), i + d = 5 → 0 ≤ n → n < 128 ^ i →
      Ev (fun k => spec_GetNum.l0 k l (p : Int) n (i : Int)) (match getM i n (l.drop (p + i)) with | none => (0, 0, false) | some (m, c) => (m, (p : Int) + c, true)) := by
    intro d
    induction d with
    | zero =>
      intro i n hi h0 h1
      refine ev_end fun k => ?_
      simp only [spec_GetNum.l0]
      rw [if_neg (by omega)]
      have : getM i n (l.drop (p + i)) = none := by
        cases l.drop (p + i) with
        | nil => rfl
        | cons x t => rw [getM, if_neg (by omega)]
      rw [this]
    | succ d ih =>
      intro i n hi h0 h1
      by_cases hin : p + i < l.length
      · have e : l.drop (p + i) = l[p + i] :: l.drop (p + (i + 1)) := by rw [List.drop_eq_getElem_cons hin]; rfl
        rw [e]
        generalize hx : l[p + i] = x
        have hxx : l[p + i]? = some x := by rw [← hx]; exact List.getElem?_eq_getElem hin
        have hxb := hb x (List.mem_of_getElem? hxx)
        have hr : rd l ((p : Int) + (i : Int)) = x := by have := rd_at hxx; simpa using this
        have hpw := pow_step i n (x % 128) h0 h1 (by omega) (by omega)
        have hor : Go.bits .or .i64 n (shl .i64 (x % 128) (7 * (i : Int))) = n + x % 128 * 128 ^ i := or_join i n _ (by omega) h0 h1 (by omega) (by omega)
        have s1 : ∀ k, spec_GetNum.l0 (k + 1) l (p : Int) n (i : Int) = spec_GetNum.j1 k l (p : Int) n (i : Int) false := by
          intro k
          simp only [spec_GetNum.l0]
          rw [if_pos (by omega), if_neg (by omega), w64 (by omega) (by omega)]
          congr 1
          rw [decide_eq_false_iff_not]
          omega
        by_cases hx128 : x < 128
        · rw [getM, if_pos (show i < 5 by omega), if_pos hx128]
          refine Ev.step s1 (ev_end fun k => ?_)
          simp only [spec_GetNum.j1]
          rw [if_neg (by simp), w64 (x := (p : Int) + (i : Int)) (by omega) (by omega), hr, w64 (x := 7 * (i : Int)) (by omega) (by omega), w64 (x := x) (by omega) (by omega),
            if_pos (by omega), if_pos (by omega), if_pos (by omega), if_pos hx128, Int.tmod_eq_emod_of_nonneg hxb.1, hor, w64 (x := (p : Int) + (i : Int) + 1) (by omega) (by omega)]
          by_cases hi0 : 0 < i
          · rw [if_pos (by omega)]
            by_cases hx0 : x = 0
            · rw [if_pos hx0, if_pos (Or.inl ⟨hx0, hi0⟩)]
            · rw [if_neg hx0]
              by_cases hbig : n + x % 128 * 128 ^ i > 2147483647
              · rw [if_pos hbig, if_pos (Or.inr hbig)]
              · rw [if_neg hbig, if_neg (by omega)]
                simp
                omega
          · rw [if_neg (by omega)]
            by_cases hbig : n + x % 128 * 128 ^ i > 2147483647
            · rw [if_pos hbig, if_pos (Or.inr hbig)]
            · rw [if_neg hbig, if_neg (by omega)]
              simp
              omega
        · have := ih (i + 1) _ (by omega) hpw.1 hpw.2
          rw [getM, if_pos (by omega), if_neg hx128]
          refine Ev.step s1 (Ev.step (fun k => ?_) this)
          simp only [spec_GetNum.j1]
          rw [if_neg (by simp), w64 (x := (p : Int) + (i : Int)) (by omega) (by omega), hr, w64 (x := 7 * (i : Int)) (by omega) (by omega), w64 (x := x) (by omega) (by omega),
            if_pos (by omega), if_pos (by omega), if_pos (by omega), if_neg hx128, Int.tmod_eq_emod_of_nonneg hxb.1, hor, w64_succ (by omega)]
      · have e : l.drop (p + i) = [] := List.drop_eq_nil_of_le (by omega)
        rw [e]
        refine Ev.step (f := fun k => spec_GetNum.j1 k l (p : Int) n (i : Int) true) (fun k => ?_) (ev_end fun k => ?_)
        · simp only [spec_GetNum.l0]
          rw [if_pos (by omega), if_neg (by omega), w64 (by omega) (by omega)]
          congr 1
          rw [decide_eq_true_iff]
          omega
        · simp only [spec_GetNum.j1, if_true]
          rfl
  have := key 5 0 0 rfl (by omega) (by simp)
  simp only [getNum, if_neg hneg]
  exact this
/-- The two running sums. -/
def sumM (x y : Int) : List Int → Int
  | [] => y * 65536 + x
  | b :: t => sumM ((x + b) % 65521) ((y + (x + b) % 65521) % 65521) t
def sumOf (l : List Int) : Int := sumM 1 0 l
theorem implSumOf_ev (l : List Int) (h : l.length ≤ 4194304) (hb : ∀ x ∈ l, 0 ≤ x ∧ x < 256) : Ev (fun k => impl_SumOf.f k l) (sumOf l) := by
  have hh := ev_list l (fun k (s : Int × Int) i => impl_SumOf.l0 k s.1 s.2 l (l.length : Int) i) (fun s t => sumM s.1 s.2 t) (fun _ s => 0 ≤ s.1 ∧ s.1 < 65521 ∧ 0 ≤ s.2 ∧ s.2 < 65521)
    (fun s hI => by
      obtain ⟨x, y⟩ := s
      obtain ⟨a1, a2, a3, a4⟩ := hI
      dsimp only at a1 a2 a3 a4 ⊢
      refine ev_end fun k => ?_
      simp only [impl_SumOf.l0]
      rw [if_neg (by omega), w64 (x := y * 65536) (by omega) (by omega), w64 (by omega) (by omega)]
      rfl)
    (fun i s b t hI hi _ hx ih => by
      obtain ⟨x, y⟩ := s
      obtain ⟨a1, a2, a3, a4⟩ := hI
      dsimp only at a1 a2 a3 a4 ih ⊢
      have hbb := hb b (List.mem_of_getElem? hx)
      refine Ev.step (fun k => ?_) (ih ((x + b) % 65521, (y + (x + b) % 65521) % 65521) ⟨by dsimp only; omega, by dsimp only; omega, by dsimp only; omega, by dsimp only; omega⟩)
      simp only [impl_SumOf.l0]
      rw [if_pos (by omega), if_pos (by omega), if_pos (by omega), rd_at hx, w64_succ (by omega), w64 (x := b) (by omega) (by omega), w64 (x := x + b) (by omega) (by omega), Int.tmod_eq_emod_of_nonneg (by omega), w64 (by omega) (by omega), Int.tmod_eq_emod_of_nonneg (by omega)])
    (1, 0) ⟨by simp, by simp, by simp, by simp⟩
  exact hh
theorem specSumOf_ev (l : List Int) (h : l.length ≤ 4194304) (hb : ∀ x ∈ l, 0 ≤ x ∧ x < 256) : Ev (fun k => spec_SumOf.f k l) (sumOf l) := by
  have hh := ev_list l (fun k (s : Int × Int) i => spec_SumOf.l0 k l s.1 s.2 i) (fun s t => sumM s.1 s.2 t) (fun _ s => 0 ≤ s.1 ∧ s.1 < 65521 ∧ 0 ≤ s.2 ∧ s.2 < 65521)
    (fun s hI => by
      obtain ⟨x, y⟩ := s
      obtain ⟨a1, a2, a3, a4⟩ := hI
      dsimp only at a1 a2 a3 a4 ⊢
      refine ev_end fun k => ?_
      simp only [spec_SumOf.l0]
      rw [if_neg (by omega), w64 (x := y * 65536) (by omega) (by omega), w64 (by omega) (by omega)]
      rfl)
    (fun i s b t hI hi _ hx ih => by
      obtain ⟨x, y⟩ := s
      obtain ⟨a1, a2, a3, a4⟩ := hI
      dsimp only at a1 a2 a3 a4 ih ⊢
      have hbb := hb b (List.mem_of_getElem? hx)
      refine Ev.step (fun k => ?_) (ih ((x + b) % 65521, (y + (x + b) % 65521) % 65521) ⟨by dsimp only; omega, by dsimp only; omega, by dsimp only; omega, by dsimp only; omega⟩)
      simp only [spec_SumOf.l0]
      rw [if_pos (by omega), if_pos (by omega), rd_at hx, w64_succ (by omega), w64 (x := b) (by omega) (by omega), w64 (x := x + b) (by omega) (by omega), Int.tmod_eq_emod_of_nonneg (by omega), w64 (by omega) (by omega), Int.tmod_eq_emod_of_nonneg (by omega)])
    (1, 0) ⟨by simp, by simp, by simp, by simp⟩
  exact hh
theorem Ev.succ {α : Type} {g : Nat → Option α} {r : α} (h : Ev (fun k => g (k + 1)) r) : Ev g r := Ev.step (fun _ => rfl) h
/-! What is drawn: a cursor (bytes, place, a number); whatever it holds, each draw ends, and is in its bounds. -/
theorem and_range (x : Int) (m : Nat) (hm : m < 2 ^ 62) : 0 ≤ Go.bits .and .i64 x (m : Int) ∧ Go.bits .and .i64 x (m : Int) ≤ m := by
  have e : Go.bits .and .i64 x (m : Int) = IntKind.i64.wrap (((BitVec.ofInt 64 x) &&& (BitVec.ofInt 64 (m : Int))).toNat : Int) := rfl
  have h1 : ((BitVec.ofInt 64 x) &&& (BitVec.ofInt 64 (m : Int))).toNat ≤ m := by
    rw [BitVec.toNat_and, BitVec.ofInt_natCast, BitVec.toNat_ofNat, Nat.mod_eq_of_lt (by omega)]
    exact Nat.and_le_right
  rw [e, IntKind.wrap_i64]
  omega
theorem and_255_range (x : Int) : 0 ≤ Go.bits .and .i64 x 255 ∧ Go.bits .and .i64 x 255 ≤ 255 := and_range x 255 (by decide)
/-- The cursor's place lies in its bytes. -/
def CurOk (b : List Int) (i : Int) : Prop := 0 ≤ i ∧ i ≤ b.length ∧ b.length ≤ 4194304
/-- It comes to an answer, and P holds of it. -/
def EvP {α : Type} (g : Nat → Option α) (P : α → Prop) : Prop := ∃ r, Ev g r ∧ P r
theorem EvP.bind {α β : Type} {c : Nat → Option α} {f : Nat → α → Option β} {Q : α → Prop} {P : β → Prop} (h : EvP c Q) (hf : ∀ a, Q a → EvP (fun k => f k a) P) : EvP (fun k => (c k).bind (f k)) P := by
  obtain ⟨a, ha, hq⟩ := h
  obtain ⟨r, hr, hp⟩ := hf a hq
  exact ⟨r, Ev.bind ha hr, hp⟩
theorem EvP.now {α : Type} {P : α → Prop} (r : α) (h : P r) : EvP (fun _ => some r) P := ⟨r, Ev.now r, h⟩
theorem EvP.of {α : Type} {g : Nat → Option α} {P : α → Prop} {r : α} (h : Ev g r) (hp : P r) : EvP g P := ⟨r, h, hp⟩
theorem EvP.imp {α : Type} {g : Nat → Option α} {P Q : α → Prop} (h : EvP g P) (hi : ∀ r, P r → Q r) : EvP g Q := by
  obtain ⟨r, hr, hp⟩ := h
  exact ⟨r, hr, hi r hp⟩
theorem EvP.succ {α : Type} {g : Nat → Option α} {P : α → Prop} (h : EvP (fun k => g (k + 1)) P) : EvP g P := by
  obtain ⟨r, hr, hp⟩ := h
  exact ⟨r, Ev.succ hr, hp⟩
theorem l1New_ev (l : List Int) (h : l.length ≤ 4194304) : ∃ q : Int, Ev (fun k => spec_l1New.f k l) (l, 0, q) := by
  have key : ∀ (d i : Nat) (q : Int), i + d = l.length → ∃ q' : Int, Ev (fun k => spec_l1New.l0 k l q (i : Int)) (l, 0, q') := by
    intro d
    induction d with
    | zero =>
      intro i q hi
      refine ⟨q, ev_end fun k => ?_⟩
      simp only [spec_l1New.l0]
      rw [if_neg (by omega)]
    | succ d ih =>
      intro i q hi
      by_cases h4 : (i : Int) < 4000
      · obtain ⟨q', hq⟩ := ih (i + 1) (Go.bits .and .i64 (wrap64 ((wrap64 ((wrap64 (q * 131)) + (wrap64 (rd l (i : Int))))) + 7)) 1073741823) (by omega)
        refine ⟨q', Ev.step (fun k => ?_) hq⟩
        simp only [spec_l1New.l0]
        rw [if_pos (by omega), if_pos h4, if_pos (by omega), w64_succ (by omega)]
      · refine ⟨q, ev_end fun k => ?_⟩
        simp only [spec_l1New.l0]
        rw [if_pos (by omega), if_neg h4]
  exact key l.length 0 _ (by omega)
theorem l1Byte_some (b : List Int) (i q : Int) (h : CurOk b i) : ∃ r i' q', spec_l1Byte.f b i q = some (r, i', q') ∧ CurOk b i' ∧ 0 ≤ r ∧ r ≤ 255 := by
  obtain ⟨h0, h1, h2⟩ := h
  simp only [spec_l1Byte.f]
  by_cases hi : i < (b.length : Int)
  · rw [if_pos hi, if_pos h0]
    refine ⟨_, _, _, rfl, ⟨?_, ?_, h2⟩, (and_255_range _).1, (and_255_range _).2⟩ <;> rw [w64 (by omega) (by omega)] <;> omega
  · rw [if_neg hi]
    exact ⟨_, _, _, rfl, ⟨h0, h1, h2⟩, (and_255_range _).1, (and_255_range _).2⟩
theorem l1Below_some (b : List Int) (i q n : Int) (h : CurOk b i) : ∃ r i' q', spec_l1Below.f b i q n = some (r, i', q') ∧ CurOk b i' ∧ 0 ≤ r ∧ (0 < n → r < n) := by
  simp only [spec_l1Below.f]
  by_cases h0 : n ≤ 0
  · rw [if_pos h0]
    exact ⟨_, _, _, rfl, h, by omega, by omega⟩
  · rw [if_neg h0]
    obtain ⟨r1, i1, q1, e1, c1, a1, b1⟩ := l1Byte_some b i q h
    by_cases h2 : n ≤ 256
    · rw [if_pos h2, e1]
      simp only [Option.bind_some]
      rw [if_neg (by omega), Int.tmod_eq_emod_of_nonneg a1]
      exact ⟨_, _, _, rfl, c1, Int.emod_nonneg _ (by omega), fun _ => Int.emod_lt_of_pos _ (by omega)⟩
    · obtain ⟨r2, i2, q2, e2, c2, a2, b2⟩ := l1Byte_some b i1 q1 c1
      obtain ⟨r3, i3, q3, e3, c3, a3, b3⟩ := l1Byte_some b i2 q2 c2
      obtain ⟨r4, i4, q4, e4, c4, a4, b4⟩ := l1Byte_some b i3 q3 c3
      rw [if_neg h2, e1]
      simp only [Option.bind_some, e2, e3, e4]
      rw [if_neg (by omega), w64 (x := r1 * 16777216) (by omega) (by omega), w64 (x := r2 * 65536) (by omega) (by omega), w64 (x := r3 * 256) (by omega) (by omega), w64 (x := r1 * 16777216 + r2 * 65536) (by omega) (by omega), w64 (x := r1 * 16777216 + r2 * 65536 + r3 * 256) (by omega) (by omega), w64 (by omega) (by omega), Int.tmod_eq_emod_of_nonneg (by omega)]
      exact ⟨_, _, _, rfl, c4, Int.emod_nonneg _ (by omega), fun _ => Int.emod_lt_of_pos _ (by omega)⟩
theorem l1Below_evp (b : List Int) (i q n : Int) (h : CurOk b i) : EvP (fun _ => spec_l1Below.f b i q n) (fun r => CurOk b r.2.1 ∧ 0 ≤ r.1 ∧ (0 < n → r.1 < n)) := by
  obtain ⟨r, i', q', e, c, h0, h1⟩ := l1Below_some b i q n h
  exact ⟨(r, i', q'), ev_some fun _ => e, c, h0, h1⟩
theorem l1PickInt_some (b : List Int) (i q : Int) (l : List Int) (h : CurOk b i) (hl : 0 < l.length) : ∃ r i' q', spec_l1PickInt.f b i q l = some (r, i', q') ∧ CurOk b i' ∧ r ∈ l := by
  obtain ⟨r, i', q', e, c, h0, h1⟩ := l1Below_some b i q l.length h
  have h1 := h1 (by omega)
  obtain ⟨n, rfl⟩ := Int.eq_ofNat_of_zero_le h0
  refine ⟨l[n]'(by omega), i', q', ?_, c, List.getElem_mem _⟩
  simp only [spec_l1PickInt.f, e, Option.bind_some]
  rw [if_pos h0, if_pos h1, rd_at (List.getElem?_eq_getElem (by omega))]
theorem l1PickInt_evp (b : List Int) (i q : Int) (l : List Int) (h : CurOk b i) (hl : 0 < l.length) : EvP (fun _ => spec_l1PickInt.f b i q l) (fun r => CurOk b r.2.1 ∧ r.1 ∈ l) := by
  obtain ⟨r, i', q', e, c, hm⟩ := l1PickInt_some b i q l h hl
  exact ⟨(r, i', q'), ev_some fun _ => e, c, hm⟩
theorem l1Once_some (b : List Int) (i q n : Int) (h : CurOk b i) : ∃ r i' q', spec_l1Once.f b i q n = some (r, i', q') ∧ CurOk b i' := by
  obtain ⟨r, i', q', e, c, _⟩ := l1Below_some b i q n h
  exact ⟨r == 0, i', q', by simp [spec_l1Once.f, e], c⟩
theorem l1Once_evp (b : List Int) (i q n : Int) (h : CurOk b i) : EvP (fun _ => spec_l1Once.f b i q n) (fun r => CurOk b r.2.1) := by
  obtain ⟨r, i', q', e, c⟩ := l1Once_some b i q n h
  exact ⟨(r, i', q'), ev_some fun _ => e, c⟩
theorem byte_mk (a : Int) (h0 : 0 ≤ a) (h1 : a < 256) : ∃ c : UInt8, a = (c.toNat : Int) ∧ strOfNums [a] = mkB [c] := by
  obtain ⟨n, rfl⟩ := Int.eq_ofNat_of_zero_le h0
  refine ⟨UInt8.ofNat n, ?_, by rw [strOfNums_one]; rfl⟩
  rw [UInt8.toNat_ofNat']
  omega
theorem l1Pick_evp (b : List Int) (i q : Int) (l : List ByteArray) (h : CurOk b i) (hl : 0 < l.length) : EvP (fun _ => spec_l1Pick.f b i q l) (fun r => CurOk b r.2.1 ∧ r.1 ∈ l) := by
  simp only [spec_l1Pick.f]
  refine EvP.bind (c := fun _ => spec_l1Below.f b i q (l.length : Int)) (l1Below_evp b i q _ h) (fun r hr => ?_)
  have h0 := hr.2.1
  have h1 := hr.2.2 (by omega)
  simp only [if_pos h0, if_pos h1]
  have hlt : r.1.toNat < l.length := by omega
  refine EvP.now _ ⟨hr.1, ?_⟩
  have e : rdOf ByteArray.empty l r.1 = l[r.1.toNat] := by simp [rdOf, List.getD, List.getElem?_eq_getElem hlt]
  dsimp only
  rw [e]
  exact List.getElem_mem hlt
theorem drawSum_evp (l : List Int) (h : l.length ≤ 4194304) : EvP (fun k => spec_DrawSumOf.f k l) (fun r => r.length ≤ 10 ∧ ∀ x ∈ r, 0 ≤ x ∧ x < 256) := by
  obtain ⟨q, hq⟩ := l1New_ev l h
  have key : ∀ (d n : Nat) (o : List Int) (i q : Int), n + d = 9 → CurOk l i → o.length ≤ n → (∀ x ∈ o, 0 ≤ x ∧ x < 256) → EvP (fun k => spec_DrawSumOf.l0 k o (n : Int) l i q) (fun r => r.length ≤ 10 ∧ ∀ x ∈ r, 0 ≤ x ∧ x < 256) := by
    intro d
    induction d with
    | zero =>
      intro n o i q hn hc ho hb
      refine EvP.succ ?_
      simp only [spec_DrawSumOf.l0]
      refine EvP.bind (l1Below_evp l i q 9 hc) (fun r hr => ?_)
      have := hr.2.2 (by omega)
      simp only [if_neg (show ¬ (n : Int) < r.1 by omega)]
      exact EvP.now _ ⟨by omega, hb⟩
    | succ d ih =>
      intro n o i q hn hc ho hb
      refine EvP.succ ?_
      simp only [spec_DrawSumOf.l0]
      refine EvP.bind (l1Below_evp l i q 9 hc) (fun r hr => ?_)
      by_cases hlt : (n : Int) < r.1
      · simp only [if_pos hlt]
        refine EvP.bind (l1Below_evp l _ _ 256 hr.1) (fun r1 h1 => ?_)
        simp only [if_pos (show o.length < 140737488355328 by omega), w64_succ (show (n : Int) < 4611686018427387904 by omega)]
        refine ih (n + 1) _ _ _ (by omega) h1.1 (by simp; omega) (fun x hx => ?_)
        rcases List.mem_append.1 hx with hx | hx
        · exact hb x hx
        · simp only [List.mem_cons, List.not_mem_nil, or_false] at hx
          subst hx
          omega
      · simp only [if_neg hlt]
        exact EvP.now _ ⟨by omega, hb⟩
  simp only [spec_DrawSumOf.f]
  refine EvP.bind (EvP.of hq (P := fun r => r = (l, 0, q)) rfl) (fun r hr => ?_)
  subst hr
  exact key 9 0 [] 0 q (by omega) ⟨by omega, by omega, h⟩ (by simp) (by simp)
theorem drawNums_evp (b : List Int) (i q : Int) (h : CurOk b i) : EvP (fun k => spec_l1DrawNums.f k b i q) (fun r => CurOk b r.2.1 ∧ r.1.length ≤ 22 ∧ ∀ x ∈ r.1, 0 ≤ x ∧ x < 256) := by
  have key : ∀ (d n : Nat) (o : List Int) (i q : Int), n + d = 4 → CurOk b i → o.length ≤ 5 * n → (∀ x ∈ o, 0 ≤ x ∧ x < 256) → EvP (fun k => spec_l1DrawNums.l0 k o (n : Int) b i q) (fun r => CurOk b r.2.1 ∧ r.1.length ≤ 22 ∧ ∀ x ∈ r.1, 0 ≤ x ∧ x < 256) := by
    intro d
    have fin : ∀ (n : Nat) (o : List Int) (r : Int × Int × Int), n ≤ 4 → CurOk b r.2.1 → o.length ≤ 5 * n → (∀ x ∈ o, 0 ≤ x ∧ x < 256) → EvP (fun k => (spec_l1Once.f b r.2.1 r.2.2 3).bind fun bt249 => (if bt249.1 = true then ((spec_l1PickInt.f b bt249.2.1 bt249.2.2 (([0, 128, 255] : List Int))).bind fun bt255 => ((spec_l1Below.f b bt255.2.1 bt255.2.2 3).bind fun bt258 => ((some (([(bt255.1) % 256, (bt258.1) % 256] : List Int) : List Int)).bind fun y261 => (if o.length + y261.length < 140737488355328 then (some ((o ++ y261), bt258.2.1, bt258.2.2)) else (none))))) else (some (o, bt249.2.1, bt249.2.2)))) (fun r => CurOk b r.2.1 ∧ r.1.length ≤ 22 ∧ ∀ x ∈ r.1, 0 ≤ x ∧ x < 256) := by
      intro n o r hn hc ho hb
      refine EvP.bind (c := fun _ => spec_l1Once.f b r.2.1 r.2.2 3) (l1Once_evp b _ _ 3 hc) (fun r1 h1 => ?_)
      by_cases e : r1.1 = true
      · simp only [if_pos e, Option.bind_some]
        refine EvP.bind (c := fun _ => spec_l1PickInt.f b r1.2.1 r1.2.2 [0, 128, 255]) (l1PickInt_evp b _ _ [0, 128, 255] h1 (by simp)) (fun r2 h2 => ?_)
        refine EvP.bind (c := fun _ => spec_l1Below.f b r2.2.1 r2.2.2 3) (l1Below_evp b _ _ 3 h2.1) (fun r3 h3 => ?_)
        simp only [List.length_cons, List.length_nil, if_pos (show o.length + (0 + 1 + 1) < 140737488355328 by omega)]
        refine EvP.now _ ⟨h3.1, by simp; omega, fun x hx => ?_⟩
        rcases List.mem_append.1 hx with hx | hx
        · exact hb x hx
        · simp only [List.mem_cons, List.not_mem_nil, or_false] at hx
          rcases hx with rfl | rfl <;> omega
      · simp only [if_neg e]
        exact EvP.now _ ⟨h1, by dsimp only; omega, hb⟩
    induction d with
    | zero =>
      intro n o i q hn hc ho hb
      refine EvP.succ ?_
      simp only [spec_l1DrawNums.l0]
      refine EvP.bind (l1Below_evp b i q 4 hc) (fun r hr => ?_)
      have := hr.2.2 (by omega)
      simp only [if_neg (show ¬ (n : Int) < r.1 by omega)]
      exact fin n o r (by omega) hr.1 ho hb
    | succ d ih =>
      intro n o i q hn hc ho hb
      refine EvP.succ ?_
      simp only [spec_l1DrawNums.l0]
      refine EvP.bind (l1Below_evp b i q 4 hc) (fun r hr => ?_)
      by_cases hlt : (n : Int) < r.1
      · simp only [if_pos hlt]
        refine EvP.bind (l1PickInt_evp b _ _ [0, 1, 127, 128, 300, 2147483647] hr.1 (by simp)) (fun r1 h1 => ?_)
        refine EvP.bind (EvP.of (specPutNum_ev r1.1) (P := fun p => p = putNum r1.1) rfl) (fun p hp => ?_)
        subst hp
        have hs := putNum_short r1.1
        simp only [if_pos (show o.length + (putNum r1.1).length < 140737488355328 by omega), w64_succ (show (n : Int) < 4611686018427387904 by omega)]
        refine ih (n + 1) _ _ _ (by omega) h1.1 (by simp; omega) (fun x hx => ?_)
        rcases List.mem_append.1 hx with hx | hx
        · exact hb x hx
        · exact putNum_bytes _ x hx
      · simp only [if_neg hlt]
        exact fin n o r (by omega) hr.1 ho hb
  simp only [spec_l1DrawNums.f]
  exact key 4 0 [] i q (by omega) h (by simp) (by simp)
theorem rdOf_get {l : List ByteArray} {i : Nat} {x : ByteArray} (h : l[i]? = some x) : rdOf ByteArray.empty l (i : Int) = x := by
  simp [rdOf, List.getD, h]
theorem FnNumbers : FnNumbersPure := by
  intro l hlw
  refine Ev.rounds ?_
  simp only [laws_FnNumbers.f, laws_big.f, Option.bind_some]
  by_cases hbig : (l.length : Int) > 1048576
  · exact ev_some fun _ => by simp [hbig]
  simp only [hbig, decide_false, Bool.false_eq_true, if_false]
  obtain ⟨q, hq⟩ := l1New_ev l (by omega)
  have c0 : CurOk l 0 := ⟨by omega, by omega, by omega⟩
  have b0 := EvP.of hq (P := fun r => r = (l, 0, q)) rfl
  obtain ⟨x, hx, _⟩ : EvP (fun k => spec_DrawPutNum.f k l) (fun _ => True) := by
    simp only [spec_DrawPutNum.f]
    refine EvP.bind b0 (fun r hr => ?_)
    subst hr
    exact EvP.bind (l1PickInt_evp l 0 q _ c0 (by simp)) (fun r1 h1 => EvP.now _ trivial)
  obtain ⟨d, hd, hd64⟩ : EvP (fun k => spec_DrawDigits.f k l) (fun d => -9223372036854775808 ≤ d ∧ d ≤ 9223372036854775807) := by
    simp only [spec_DrawDigits.f]
    refine EvP.bind b0 (fun r hr => ?_)
    subst hr
    refine EvP.bind (l1PickInt_evp l 0 q [0, 7, -12, 100000, 9223372036854775807, -9223372036854775808] c0 (by simp)) (fun r1 h1 => EvP.now _ ?_)
    have := h1.2
    simp only [List.mem_cons, List.not_mem_nil, or_false] at this
    omega
  obtain ⟨s, hs, _⟩ : EvP (fun k => spec_DrawNumber.f k l) (fun _ => True) := by
    simp only [spec_DrawNumber.f]
    refine EvP.bind b0 (fun r hr => ?_)
    subst hr
    exact EvP.bind (l1Pick_evp l 0 q _ c0 (by simp)) (fun r1 h1 => EvP.now _ trivial)
  obtain ⟨h, hh, hhl, hhb⟩ := drawSum_evp l (by omega)
  obtain ⟨⟨raw, a⟩, hg, hgl, hgb, hga⟩ : EvP (fun k => spec_DrawGetNum.f k l) (fun r => r.1.length ≤ 22 ∧ (∀ x ∈ r.1, 0 ≤ x ∧ x < 256) ∧ -9223372036854775808 ≤ r.2 ∧ r.2 ≤ 9223372036854775807) := by
    simp only [spec_DrawGetNum.f]
    refine EvP.bind b0 (fun r hr => ?_)
    subst hr
    refine EvP.bind (drawNums_evp l 0 q c0) (fun r1 h1 => ?_)
    refine EvP.bind (l1PickInt_evp l _ _ [0, 0, 1, (r1.1.length : Int), wrap64 ((r1.1.length : Int) - 5), -1, 9223372036854775807] h1.1 (by simp)) (fun r2 h2 => EvP.now _ ⟨h1.2.1, h1.2.2, ?_⟩)
    have hw := w64_range ((r1.1.length : Int) - 5)
    have hl2 := h1.2.1
    have := h2.2
    simp only [List.mem_cons, List.not_mem_nil, or_false] at this
    dsimp only
    omega
  obtain ⟨⟨tx, by_⟩, ht, htl, hty⟩ : EvP (fun k => spec_DrawSplit.f k l) (fun r => r.1.size ≤ 6 ∧ 0 ≤ r.2 ∧ r.2 < 256) := by
    simp only [spec_DrawSplit.f]
    refine EvP.bind b0 (fun r hr => ?_)
    subst hr
    refine EvP.bind (l1Pick_evp l 0 q _ c0 (by simp)) (fun r1 h1 => ?_)
    refine EvP.bind (l1PickInt_evp l _ _ [44, 47] h1.1 (by simp)) (fun r2 h2 => EvP.now _ ⟨?_, by dsimp only; omega, by dsimp only; omega⟩)
    have := h1.2
    simp only [List.mem_cons, List.not_mem_nil, or_false] at this
    rcases this with e | e | e | e | e | e <;> rw [e] <;> decide
  dsimp only at hgl hgb hga htl hty
  have g1 := implGetNum_ev raw a (by omega) hgb hga
  have g2 := specGetNum_ev raw a (by omega) hgb hga
  have gc := getNum_canon raw a hgb
  -- the text
  have l0 : Ev (fun k => laws_FnNumbers.j1 k l raw a (getNum raw a).1 (getNum raw a).2.1 (getNum raw a).2.2 false) true := by
    refine Ev.succ ?_
    simp only [laws_FnNumbers.j1, Bool.false_eq_true, if_false]
    refine Ev.bind ht ?_
    have hcut : Ev (fun _ => impl_Split.f tx by_) (Cuts.pieces tx by_) := ev_some fun k => by
      simp only [impl_Split.f]
      rw [if_pos (by omega)]
    refine Ev.bind hcut ?_
    obtain ⟨c, hc, hm⟩ := byte_mk by_ hty.1 hty.2
    have hp := pieces_pc tx c by_ hm
    have hpl := pc_length c tx.data.toList []
    have hts : tx.data.toList.length = tx.size := by simp
    rw [hp]
    have hj := join_pc c tx.data.toList [] true []
    simp only [if_true, List.nil_append, List.append_nil] at hj
    generalize pc c [] tx.data.toList = P at hpl hj ⊢
    have key : ∀ (d n : Nat) (acc : List UInt8), n + d = P.length → joinM c (decide (n = 0)) acc (P.drop n) = tx.data.toList → acc.length ≤ tx.size → Ev (fun k => laws_FnNumbers.l0 k raw a (getNum raw a).1 (getNum raw a).2.1 (getNum raw a).2.2 tx by_ (P.map mkB) (mkB acc) (n : Int)) true := by
      intro d
      induction d with
      | zero =>
        intro n acc hn hjn ha
        have e : n = P.length := by omega
        subst e
        rw [List.drop_length] at hjn
        simp only [joinM] at hjn
        have ha2 : mkB acc = tx := by rw [hjn, mkB_data]
        refine Ev.succ ?_
        simp only [laws_FnNumbers.l0, List.length_map, if_neg (show ¬ (P.length : Int) < (P.length : Int) by omega), ha2, if_true]
        cases hone : (getNum raw a).2.2 with
        | false => simp only [Bool.false_eq_true, if_false]; exact ev_some fun _ => rfl
        | true =>
          obtain ⟨z1, z2, z3, z4⟩ := gc hone
          simp only [if_true]
          refine Ev.bind (implPutNum_ev _) ?_
          simp only [if_pos z1, if_pos z2, if_pos z3, z4]
          exact ev_some fun _ => by simp
      | succ d ih =>
        intro n acc hn hjn ha
        have hlt : n < P.length := by omega
        have hx : P[n]? = some P[n] := List.getElem?_eq_getElem hlt
        rw [List.drop_eq_getElem_cons hlt] at hjn
        simp only [joinM] at hjn
        have hlen := joinM_len c (P.drop (n + 1)) false (acc ++ (if decide (n = 0) = true then [] else [c]) ++ P[n])
        rw [hjn, hts] at hlen
        have hih := ih (n + 1) (acc ++ (if decide (n = 0) = true then [] else [c]) ++ P[n]) (by omega) (by simpa using hjn) hlen
        have hrd : rdOf ByteArray.empty (P.map mkB) (n : Int) = mkB P[n] := rdOf_get (by simp [hx])
        refine Ev.succ ?_
        simp only [laws_FnNumbers.l0, List.length_map, if_pos (show (n : Int) < (P.length : Int) by omega), if_pos (show 0 ≤ (n : Int) by omega), hrd, w64_succ (show (n : Int) < 4611686018427387904 by omega)]
        by_cases h0 : n = 0
        · subst h0
          simp only [decide_true, if_true, List.append_nil, List.length_append] at hih hlen
          simp only [if_neg (show ¬ ((0 : Nat) : Int) > 0 by omega), mkB_size, mkB_append, if_pos (show acc.length + P[0].length ≤ 9223372036854775807 by omega)]
          exact hih
        · simp only [h0, decide_false, Bool.false_eq_true, if_false, List.length_append, List.length_cons, List.length_nil] at hih hlen
          simp only [if_pos (show (n : Int) > 0 by omega), Option.bind_some, hm, mkB_size, mkB_append, List.length_append, List.length_cons, List.length_nil, if_pos (show acc.length + (0 + 1) ≤ 9223372036854775807 by omega), if_pos (show acc.length + (0 + 1) + P[n].length ≤ 9223372036854775807 by omega)]
          exact hih
    exact key P.length 0 [] (by omega) (by simpa using hj) (by simp)
  have hj0 : Ev (fun k => laws_FnNumbers.j0 k l x (putNum x) false) true := by
    refine Ev.succ ?_
    simp only [laws_FnNumbers.j0, Bool.false_eq_true, if_false]
    have hps := putNum_short x
    refine Ev.bind (implGetNum_ev (putNum x) 0 (by omega) (putNum_bytes x) ⟨by omega, by omega⟩) ?_
    refine Ev.bind hg ?_
    refine Ev.bind g1 ?_
    refine Ev.bind g2 ?_
    simp only [bne_self_eq_false, Bool.false_eq_true, if_false]
    by_cases hpos : ((putNum x).length : Int) > 0
    · have hxr : 0 ≤ x ∧ x ≤ 2147483647 := by
        unfold putNum at hpos
        split at hpos
        · assumption
        · simp at hpos
      simp only [if_pos hpos, getNum_putNum x hxr, if_true]
      exact l0
    · simp only [if_neg hpos]
      exact l0
  refine Ev.bind hx ?_
  refine Ev.bind (implPutNum_ev x) ?_
  refine Ev.bind hd ?_
  refine Ev.bind hs ?_
  obtain ⟨r, n1, n2, n3⟩ := number_same s
  refine Ev.bind n2 ?_
  refine Ev.bind n1 ?_
  refine Ev.bind hh ?_
  refine Ev.bind (specPutNum_ev x) ?_
  simp only [if_true, bne_self_eq_false, Bool.false_eq_true, if_false]
  refine Ev.bind (show Ev (fun k => impl_Digits.f k d) (itoaB d) from ev_some fun k => implDigits_eq k d hd64.1 hd64.2) ?_
  refine Ev.bind (specDigits_ev d hd64.1 hd64.2) ?_
  simp only [if_true]
  have hS : Ev (fun k => (impl_SumOf.f k h).bind fun t326 => ((spec_SumOf.f k h).bind fun t327 => (laws_FnNumbers.j0 k l x (putNum x) (t326 != t327)))) true := by
    refine Ev.bind (implSumOf_ev h (by omega) hhb) ?_
    refine Ev.bind (specSumOf_ev h (by omega) hhb) ?_
    simp only [bne_self_eq_false]
    exact hj0
  by_cases hr : r.2 = true
  · obtain ⟨e1, e2, e3⟩ := n3 hr
    simp only [if_pos hr]
    refine Ev.bind (show Ev (fun k => impl_Digits.f k r.1) (itoaB r.1) from ev_some fun k => implDigits_eq k r.1 (by omega) (by omega)) ?_
    simp only [if_pos e1]
    exact hS
  · simp only [if_neg hr]
    exact hS
end Go.Proofs.YtljbdchibfjbdaaDoor.Pure

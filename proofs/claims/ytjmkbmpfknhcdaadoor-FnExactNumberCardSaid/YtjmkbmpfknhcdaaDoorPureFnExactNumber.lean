/- The statement of laws.FnExactNumber over numbers and lists alone: at every input it answers true. No condition but that the numbers are those of their kinds and that no slice is longer than a Go slice can be. -/
import Derived.Test.YtjmkbmpfknhcdaaDoorPFnExactNumberx1
import Derived.Test.YtjmkbmpfknhcdaaDoorBase
import Derived.Lib.ItoaNum
import Derived.Lib.ItoaLen
import Derived.Lib.Strings
set_option linter.unusedVariables false
set_option linter.unusedSimpArgs false
namespace Go.Proofs.YtjmkbmpfknhcdaaDoor.Pure
open Go.RowKit Go.Proofs.YtjmkbmpfknhcdaaDoor.PFnExactNumber Go.Proofs.YtjmkbmpfknhcdaaDoor.Base Go.Proofs.YtjmkbmpfknhcdaaDoorW.PrintWords Go.Proofs.YtjmkbmpfknhcdaaDoorW.PrintLast Go.Proofs.YtjmkbmpfknhcdaaDoorW.PrintMore
def FnExactNumberPure : Prop := ∀ (a0 : ByteArray), (a0.size ≤ maxLen) → ∃ k, laws_FnExactNumber.f k a0 = some true
def itoaB (n : Int) : ByteArray := ⟨(Lib.itoa n).toArray⟩
theorem bytes_append (a b : List UInt8) : ((⟨a.toArray⟩ : ByteArray) ++ ⟨b.toArray⟩) = ⟨(a ++ b).toArray⟩ := by
  apply ByteArray.ext
  simp
theorem bytes_size (a : List UInt8) : (⟨a.toArray⟩ : ByteArray).size = a.length := by
  simp [ByteArray.size]
theorem implDigits_eq (k : Nat) (n : Int) (h0 : -9223372036854775808 ≤ n) (h1 : n ≤ 9223372036854775807) : impl_Digits.f k n = some (itoaB n) := by
  simp only [impl_Digits.f, strconv_Itoa_13.f]
  rw [if_pos ⟨h0, h1⟩]
  rfl
theorem strOfNums_one (x : Nat) : strOfNums [(x : Int)] = ⟨[UInt8.ofNat x].toArray⟩ := by
  simp [strOfNums]
def digs (m : Nat) : List UInt8 := if m = 0 then [] else Lib.decDigits m
theorem digs_step (m : Nat) (h : m ≠ 0) : digs m = digs (m / 10) ++ [UInt8.ofNat (48 + m % 10)] := by
  unfold digs
  rw [if_neg h]
  by_cases hs : m < 10
  · rw [Lib.decDigits_one hs, if_pos (by omega), Nat.mod_eq_of_lt hs]
    rfl
  · rw [if_neg (by omega)]
    conv => lhs; rw [Lib.decDigits]
    rw [dif_neg hs]
def ndigs (m : Nat) : Nat := if m = 0 then 0 else Lib.nDigits m
theorem ndigs_step (m : Nat) (h : m ≠ 0) : ndigs m = ndigs (m / 10) + 1 := by
  unfold ndigs
  rw [if_neg h]
  by_cases hs : m < 10
  · rw [Lib.nDigits_small hs, if_pos (by omega)]
  · rw [if_neg (by omega), Lib.nDigits_big hs]
theorem ndigs_le (m : Nat) (h : m < 18446744073709551616) : ndigs m ≤ 20 := by
  unfold ndigs
  split
  · omega
  · exact Lib.nDigits_le20 m h
theorem specDigits_l (m : Nat) : ∀ (x : Int) (b : Bool) (acc : List UInt8), x.natAbs = m → -9223372036854775808 ≤ x → x ≤ 9223372036854775807 → acc.length + ndigs m ≤ 100 →
    Ev (fun k => spec_Digits.l0 k x b ⟨acc.toArray⟩) ⟨((if b then [45] else []) ++ digs m ++ acc).toArray⟩ := by
  induction m using Nat.strongRecOn with
  | ind m ih =>
    intro x b acc hm h0 h1 hacc
    by_cases hx : x = 0
    · subst hx
      have hm0 : m = 0 := by omega
      subst hm0
      refine ev_end fun k => ?_
      simp only [spec_Digits.l0]
      rw [if_pos trivial]
      cases b with
      | true =>
        rw [if_pos rfl, if_pos (by rw [bytes_size]; omega)]
        show some ((⟨[45].toArray⟩ : ByteArray) ++ _) = _
        rw [bytes_append]
        simp [digs]
      | false => simp [digs]
    · have hm0 : m ≠ 0 := by omega
      have hs := ndigs_step m hm0
      have hd : (Int.tmod x 10).natAbs = m % 10 := by rw [Int.natAbs_tmod, hm]; rfl
      have hq : (Int.tdiv x 10).natAbs = m / 10 := by rw [Int.natAbs_tdiv, hm]; rfl
      have hq0 : -9223372036854775808 ≤ Int.tdiv x 10 ∧ Int.tdiv x 10 ≤ 9223372036854775807 := by
        have : m / 10 ≤ 922337203685477580 := by omega
        omega
      have rec_ := ih (m / 10) (by omega) (Int.tdiv x 10) b (UInt8.ofNat (48 + m % 10) :: acc) hq hq0.1 hq0.2 (by simp; omega)
      have hlt : m % 10 < 10 := Nat.mod_lt _ (by omega)
      have e : ∀ v : Int, v = ((48 + m % 10 : Nat) : Int) → (strOfNums [v] : ByteArray) = ⟨[UInt8.ofNat (48 + m % 10)].toArray⟩ := fun v hv => by rw [hv, strOfNums_one]
      have fin : ∀ v : Int, v = ((48 + m % 10 : Nat) : Int) → ∀ k, (if (strOfNums [v]).size + (⟨acc.toArray⟩ : ByteArray).size ≤ 9223372036854775807 then spec_Digits.l0 k (wrap64 (Int.tdiv x 10)) b (strOfNums [v] ++ ⟨acc.toArray⟩) else none) = spec_Digits.l0 k (Int.tdiv x 10) b ⟨(UInt8.ofNat (48 + m % 10) :: acc).toArray⟩ := fun v hv k => by
        rw [e v hv, bytes_append, bytes_size, bytes_size, if_pos (by simp; omega), w64 hq0.1 hq0.2]
        rfl
      rw [digs_step m hm0]
      rw [List.append_assoc, List.append_assoc]
      rw [List.append_assoc] at rec_
      refine Ev.step (fun k => ?_) rec_
      simp only [spec_Digits.l0]
      rw [if_neg hx]
      by_cases hneg : Int.tmod x 10 < 0
      · rw [if_pos hneg]
        simp only [Option.bind_some]
        exact fin _ (by rw [w64 (x := -(Int.tmod x 10)) (by omega) (by omega), w64 (by omega) (by omega)]; omega) k
      · rw [if_neg hneg]
        simp only [Option.bind_some]
        exact fin _ (by rw [w64 (by omega) (by omega)]; omega) k
theorem specDigits_ev (n : Int) (h0 : -9223372036854775808 ≤ n) (h1 : n ≤ 9223372036854775807) : Ev (fun k => spec_Digits.f k n) (itoaB n) := by
  by_cases hn : n = 0
  · subst hn
    refine ev_some fun k => ?_
    simp only [spec_Digits.f]
    rw [if_pos trivial]
    unfold itoaB Lib.itoa
    rw [if_neg (by omega)]
    show _ = some (⟨(Lib.decDigits 0).toArray⟩ : ByteArray)
    rw [Lib.decDigits_one (by omega)]
    rfl
  · have h := specDigits_l n.natAbs n (decide (n < 0)) [] rfl h0 h1 (by have := ndigs_le n.natAbs (by omega); simp; omega)
    have e : (⟨((if decide (n < 0) = true then [45] else []) ++ digs n.natAbs ++ []).toArray⟩ : ByteArray) = itoaB n := by
      have hz : ¬ n.natAbs = 0 := by omega
      unfold itoaB Lib.itoa digs
      by_cases hb : n < 0
      · simp only [if_pos hb, if_neg hz, decide_eq_true hb, if_true, List.append_nil]
        rfl
      · have ht : n.natAbs = n.toNat := by omega
        simp only [if_neg hb, ht, decide_eq_false hb, List.append_nil, List.nil_append, Bool.false_eq_true, if_false, if_neg (show ¬ n.toNat = 0 by omega)]
    rw [e] at h
    refine Ev.congr (fun k => ?_) h
    simp only [spec_Digits.f]
    rw [if_neg hn]
theorem itoaB_size (n : Int) (h0 : -9223372036854775808 ≤ n) (h1 : n ≤ 9223372036854775807) : (itoaB n).size ≤ 21 := by
  unfold itoaB
  rw [bytes_size]
  exact Lib.itoa_length_le n h0 h1
theorem number_loops (s : ByteArray) (d : Nat) : ∀ (i : Nat) (x : Int), i + d = s.size → s.size ≤ 6 → 0 ≤ x → x < (10 : Int) ^ i → ∃ r, Ev (fun k => spec_Number.l0 k s x (i : Int)) r ∧ Ev (fun k => impl_Number.l0 k s x (i : Int)) r := by
  induction d with
  | zero =>
    intro i x hi h6 h0 hx
    have hb : x < 1000000 := Int.lt_of_lt_of_le hx (by
      have : (10 : Nat) ^ i ≤ 10 ^ 6 := Nat.pow_le_pow_right (by omega) (by omega)
      have e : ((10 ^ i : Nat) : Int) = (10 : Int) ^ i := by simp
      rw [← e]
      omega)
    have hr : -9223372036854775808 ≤ x ∧ x ≤ 9223372036854775807 := ⟨by omega, by omega⟩
    refine ⟨if (itoaB x).toList = s.toList then (x, true) else (0, false), ?_, ?_⟩
    · refine Ev.stepBind (specDigits_ev x hr.1 hr.2) (fun k => ?_) (ev_some (fun k => ?_)) (f := fun _ t => if t.toList = s.toList then some (x, true) else some (0, false))
      · simp only [spec_Number.l0]
        rw [if_neg (by omega)]
      · split <;> rfl
    · refine ev_end fun k => ?_
      simp only [impl_Number.l0]
      rw [if_neg (by omega), implDigits_eq k x hr.1 hr.2]
      simp only [Option.bind_some]
      split <;> rfl
  | succ d ih =>
    intro i x hi h6 h0 hx
    have hb : x < 100000 := Int.lt_of_lt_of_le hx (by
      have : (10 : Nat) ^ i ≤ 10 ^ 5 := Nat.pow_le_pow_right (by omega) (by omega)
      have e : ((10 ^ i : Nat) : Int) = (10 : Int) ^ i := by simp
      rw [← e]
      omega)
    by_cases h48 : bt s (i : Int) < 48
    · refine ⟨(0, false), ev_end fun k => ?_, ev_end fun k => ?_⟩
      · simp only [spec_Number.l0]
        rw [if_pos (by omega), if_pos (by omega), if_pos h48]
      · simp only [impl_Number.l0]
        rw [if_pos (by omega), if_pos (by omega), if_pos h48]
    by_cases h57 : bt s (i : Int) > 57
    · refine ⟨(0, false), ev_end fun k => ?_, ev_end fun k => ?_⟩
      · simp only [spec_Number.l0]
        rw [if_pos (by omega), if_pos (by omega), if_neg h48, if_pos h57]
      · simp only [impl_Number.l0]
        rw [if_pos (by omega), if_pos (by omega), if_neg h48, if_pos h57]
    obtain ⟨r, e1, e2⟩ := ih (i + 1) (10 * x + (bt s (i : Int) - 48)) (by omega) h6 (by omega) (by
      rw [Int.pow_succ]
      omega)
    refine ⟨r, Ev.step (fun k => ?_) e1, Ev.step (fun k => ?_) e2⟩
    · simp only [spec_Number.l0]
      rw [if_pos (by omega), if_pos (by omega), if_neg h48, if_neg h57, w64 (x := 10 * x) (by omega) (by omega), w64 (x := bt s (i : Int)) (by omega) (by omega), w64 (x := 10 * x + bt s (i : Int)) (by omega) (by omega), w64 (by omega) (by omega), w64_succ (by omega)]
      congr 1
      omega
    · simp only [impl_Number.l0]
      rw [if_pos (by omega), if_pos (by omega), if_neg h48, if_neg h57, w64 (x := x * 10) (by omega) (by omega), Int.emod_eq_of_lt (a := bt s (i : Int) - 48) (by omega) (by omega), w64 (by omega) (by omega), w64_succ (by omega)]
      congr 1
      omega
theorem number_same (s : ByteArray) : ∃ r, Ev (fun k => spec_Number.f k s) r ∧ Ev (fun k => impl_Number.f k s) r := by
  by_cases h1 : (s.size : Int) < 1
  · refine ⟨(0, false), ?_, ?_⟩
    · refine Ev.congr (f := fun k => spec_Number.j0 k s true) (fun k => ?_) (ev_end fun k => ?_)
      · simp only [spec_Number.f]
        rw [if_pos h1]
      · simp [spec_Number.j0]
    · refine Ev.congr (f := fun k => impl_Number.j0 k s true) (fun k => ?_) (ev_end fun k => ?_)
      · simp only [impl_Number.f]
        rw [if_pos h1]
      · simp [impl_Number.j0]
  by_cases h6 : (s.size : Int) > 6
  · refine ⟨(0, false), ?_, ?_⟩
    · refine Ev.congr (f := fun k => spec_Number.j0 k s true) (fun k => ?_) (ev_end fun k => ?_)
      · simp only [spec_Number.f]
        rw [if_neg h1, decide_eq_true h6]
      · simp [spec_Number.j0]
    · refine Ev.congr (f := fun k => impl_Number.j0 k s true) (fun k => ?_) (ev_end fun k => ?_)
      · simp only [impl_Number.f]
        rw [if_neg h1, decide_eq_true h6]
      · simp [impl_Number.j0]
  obtain ⟨r, e1, e2⟩ := number_loops s s.size 0 0 (by omega) (by omega) (by omega) (by simp)
  refine ⟨r, ?_, ?_⟩
  · refine Ev.congr (f := fun k => spec_Number.j0 k s false) (fun k => ?_) (Ev.step (fun k => ?_) e1)
    · simp only [spec_Number.f]
      rw [if_neg h1, decide_eq_false h6]
    · simp [spec_Number.j0]
  · refine Ev.congr (f := fun k => impl_Number.j0 k s false) (fun k => ?_) (Ev.step (fun k => ?_) e2)
    · simp only [impl_Number.f]
      rw [if_neg h1, decide_eq_false h6]
    · simp [impl_Number.j0]
theorem FnExactNumber : FnExactNumberPure := by
  intro s _
  by_cases hbig : (s.size : Int) > 1048576
  · exact ⟨0, by simp only [laws_FnExactNumber.f]; rw [if_pos hbig]⟩
  obtain ⟨r, ⟨K1, h1⟩, ⟨K2, h2⟩⟩ := number_same s
  have h1 : ∀ k, K1 ≤ k → spec_Number.f k s = some r := h1
  have h2 : ∀ k, K2 ≤ k → impl_Number.f k s = some r := h2
  refine ⟨K1 + K2, ?_⟩
  simp only [laws_FnExactNumber.f]
  rw [if_neg hbig, h1 _ (by omega), h2 _ (by omega)]
  simp
end Go.Proofs.YtjmkbmpfknhcdaaDoor.Pure

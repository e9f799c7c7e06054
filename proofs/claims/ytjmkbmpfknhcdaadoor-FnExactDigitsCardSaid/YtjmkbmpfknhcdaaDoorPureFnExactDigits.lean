/- The statement of laws.FnExactDigits over numbers and lists alone: at every input it answers true. No condition but that the numbers are those of their kinds and that no slice is longer than a Go slice can be. -/
import Derived.Test.YtjmkbmpfknhcdaaDoorPFnExactDigitsx1
import Derived.Test.YtjmkbmpfknhcdaaDoorBase
import Derived.Lib.ItoaNum
import Derived.Lib.ItoaLen
import Derived.Lib.Strings
set_option linter.unusedVariables false
set_option linter.unusedSimpArgs false
namespace Go.Proofs.YtjmkbmpfknhcdaaDoor.Pure
open Go.RowKit Go.Proofs.YtjmkbmpfknhcdaaDoor.PFnExactDigits Go.Proofs.YtjmkbmpfknhcdaaDoor.Base Go.Proofs.YtjmkbmpfknhcdaaDoorW.PrintWords Go.Proofs.YtjmkbmpfknhcdaaDoorW.PrintLast Go.Proofs.YtjmkbmpfknhcdaaDoorW.PrintMore
def FnExactDigitsPure : Prop := ∀ (a0 : Int), ((Lit.int .i64 a0).wf = true) → ∃ k, laws_FnExactDigits.f k a0 = some true
def itoaB (n : Int) : ByteArray := ⟨(Lib.itoa n).toArray⟩
theorem bytes_append (a b : List UInt8) : ((⟨a.toArray⟩ : ByteArray) ++ ⟨b.toArray⟩) = ⟨(a ++ b).toArray⟩ := by
  apply ByteArray.ext
  simp
theorem bytes_size (a : List UInt8) : (⟨a.toArray⟩ : ByteArray).size = a.length := by
  simp [ByteArray.size]
theorem implDigits_eq (k : Nat) (n : Int) (h0 : -9223372036854775808 ≤ n) (h1 : n ≤ 9223372036854775807) : impl_Digits.f k n = some (itoaB n) := by
  simp only [impl_Digits.f, strconv_Itoa_13.f]
  rw [if_pos ⟨h0, h1⟩]
  rfl
theorem strOfNums_one (x : Nat) : strOfNums [(x : Int)] = ⟨[UInt8.ofNat x].toArray⟩ := by
  simp [strOfNums]
def digs (m : Nat) : List UInt8 := if m = 0 then [] else Lib.decDigits m
theorem digs_step (m : Nat) (h : m ≠ 0) : digs m = digs (m / 10) ++ [UInt8.ofNat (48 + m % 10)] := by
  unfold digs
  rw [if_neg h]
  by_cases hs : m < 10
  · rw [Lib.decDigits_one hs, if_pos (by omega), Nat.mod_eq_of_lt hs]
    rfl
  · rw [if_neg (by omega)]
    conv => lhs; rw [Lib.decDigits]
    rw [dif_neg hs]
def ndigs (m : Nat) : Nat := if m = 0 then 0 else Lib.nDigits m
theorem ndigs_step (m : Nat) (h : m ≠ 0) : ndigs m = ndigs (m / 10) + 1 := by
  unfold ndigs
  rw [if_neg h]
  by_cases hs : m < 10
  · rw [Lib.nDigits_small hs, if_pos (by omega)]
  · rw [if_neg (by omega), Lib.nDigits_big hs]
theorem ndigs_le (m : Nat) (h : m < 18446744073709551616) : ndigs m ≤ 20 := by
  unfold ndigs
  split
  · omega
  · exact Lib.nDigits_le20 m h
theorem specDigits_l (m : Nat) : ∀ (x : Int) (b : Bool) (acc : List UInt8), x.natAbs = m → -9223372036854775808 ≤ x → x ≤ 9223372036854775807 → acc.length + ndigs m ≤ 100 →
    Ev (fun k => spec_Digits.l0 k x b ⟨acc.toArray⟩) ⟨((if b then [45] else []) ++ digs m ++ acc).toArray⟩ := by
  induction m using Nat.strongRecOn with
  | ind m ih =>
    intro x b acc hm h0 h1 hacc
    by_cases hx : x = 0
    · subst hx
      have hm0 : m = 0 := by omega
      subst hm0
      refine ev_end fun k => ?_
      simp only [spec_Digits.l0]
      rw [if_pos trivial]
      cases b with
      | true =>
        rw [if_pos rfl, if_pos (by rw [bytes_size]; omega)]
        show some ((⟨[45].toArray⟩ : ByteArray) ++ _) = _
        rw [bytes_append]
        simp [digs]
      | false => simp [digs]
    · have hm0 : m ≠ 0 := by omega
      have hs := ndigs_step m hm0
      have hd : (Int.tmod x 10).natAbs = m % 10 := by rw [Int.natAbs_tmod, hm]; rfl
      have hq : (Int.tdiv x 10).natAbs = m / 10 := by rw [Int.natAbs_tdiv, hm]; rfl
      have hq0 : -9223372036854775808 ≤ Int.tdiv x 10 ∧ Int.tdiv x 10 ≤ 9223372036854775807 := by
        have : m / 10 ≤ 922337203685477580 := by omega
        omega
      have rec_ := ih (m / 10) (by omega) (Int.tdiv x 10) b (UInt8.ofNat (48 + m % 10) :: acc) hq hq0.1 hq0.2 (by simp; omega)
      have hlt : m % 10 < 10 := Nat.mod_lt _ (by omega)
      have e : ∀ v : Int, v = ((48 + m % 10 : Nat) : Int) → (strOfNums [v] : ByteArray) = ⟨[UInt8.ofNat (48 + m % 10)].toArray⟩ := fun v hv => by rw [hv, strOfNums_one]
      have fin : ∀ v : Int, v = ((48 + m % 10 : Nat) : Int) → ∀ k, (if (strOfNums [v]).size + (⟨acc.toArray⟩ : ByteArray).size ≤ 9223372036854775807 then spec_Digits.l0 k (wrap64 (Int.tdiv x 10)) b (strOfNums [v] ++ ⟨acc.toArray⟩) else none) = spec_Digits.l0 k (Int.tdiv x 10) b ⟨(UInt8.ofNat (48 + m % 10) :: acc).toArray⟩ := fun v hv k => by
        rw [e v hv, bytes_append, bytes_size, bytes_size, if_pos (by simp; omega), w64 hq0.1 hq0.2]
        rfl
      rw [digs_step m hm0]
      rw [List.append_assoc, List.append_assoc]
      rw [List.append_assoc] at rec_
      refine Ev.step (fun k => ?_) rec_
      simp only [spec_Digits.l0]
      rw [if_neg hx]
      by_cases hneg : Int.tmod x 10 < 0
      · rw [if_pos hneg]
        simp only [Option.bind_some]
        exact fin _ (by rw [w64 (x := -(Int.tmod x 10)) (by omega) (by omega), w64 (by omega) (by omega)]; omega) k
      · rw [if_neg hneg]
        simp only [Option.bind_some]
        exact fin _ (by rw [w64 (by omega) (by omega)]; omega) k
theorem specDigits_ev (n : Int) (h0 : -9223372036854775808 ≤ n) (h1 : n ≤ 9223372036854775807) : Ev (fun k => spec_Digits.f k n) (itoaB n) := by
  by_cases hn : n = 0
  · subst hn
    refine ev_some fun k => ?_
    simp only [spec_Digits.f]
    rw [if_pos trivial]
    unfold itoaB Lib.itoa
    rw [if_neg (by omega)]
    show _ = some (⟨(Lib.decDigits 0).toArray⟩ : ByteArray)
    rw [Lib.decDigits_one (by omega)]
    rfl
  · have h := specDigits_l n.natAbs n (decide (n < 0)) [] rfl h0 h1 (by have := ndigs_le n.natAbs (by omega); simp; omega)
    have e : (⟨((if decide (n < 0) = true then [45] else []) ++ digs n.natAbs ++ []).toArray⟩ : ByteArray) = itoaB n := by
      have hz : ¬ n.natAbs = 0 := by omega
      unfold itoaB Lib.itoa digs
      by_cases hb : n < 0
      · simp only [if_pos hb, if_neg hz, decide_eq_true hb, if_true, List.append_nil]
        rfl
      · have ht : n.natAbs = n.toNat := by omega
        simp only [if_neg hb, ht, decide_eq_false hb, List.append_nil, List.nil_append, Bool.false_eq_true, if_false, if_neg (show ¬ n.toNat = 0 by omega)]
    rw [e] at h
    refine Ev.congr (fun k => ?_) h
    simp only [spec_Digits.f]
    rw [if_neg hn]
theorem itoaB_size (n : Int) (h0 : -9223372036854775808 ≤ n) (h1 : n ≤ 9223372036854775807) : (itoaB n).size ≤ 21 := by
  unfold itoaB
  rw [bytes_size]
  exact Lib.itoa_length_le n h0 h1
theorem FnExactDigits : FnExactDigitsPure := by
  intro n hn
  have hn := wf64 hn
  obtain ⟨K1, h1⟩ := specDigits_ev n hn.1 hn.2
  refine ⟨K1, ?_⟩
  simp (disch := omega) only [laws_FnExactDigits.f, h1, implDigits_eq, Option.bind_some, if_true]
end Go.Proofs.YtjmkbmpfknhcdaaDoor.Pure

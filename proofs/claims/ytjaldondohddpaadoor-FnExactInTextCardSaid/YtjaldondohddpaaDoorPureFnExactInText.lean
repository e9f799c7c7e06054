/- The statement of laws.FnExactInText over numbers and lists alone: at every input it answers true. No condition but that the numbers are those of their kinds and that no slice is longer than a Go slice can be. -/
import Derived.Test.YtjaldondohddpaaDoorPFnExactInTextx2
import Derived.Test.YtjaldondohddpaaDoorBase
import Derived.Lib.ItoaNum
import Derived.Lib.ItoaLen
import Derived.Lib.Strings
set_option linter.unusedVariables false
set_option linter.unusedSimpArgs false
namespace Go.Proofs.YtjaldondohddpaaDoor.Pure
open Go.RowKit Go.Proofs.YtjaldondohddpaaDoor.PFnExactInText Go.Proofs.YtjaldondohddpaaDoor.Base Go.Proofs.YtjaldondohddpaaDoorW.PrintWords Go.Proofs.YtjaldondohddpaaDoorW.PrintLast Go.Proofs.YtjaldondohddpaaDoorW.PrintMore
def FnExactInTextPure : Prop := ∀ (a0_0 : Int) (a0_1 : Int) (a0_2 : Int) (a0_3 : Int) (a0_4 : Int) (a0_5 : Int) (a0_6 : Int) (a0_7 : Bool), ((Lit.int .i64 a0_0).wf = true) → ((Lit.int .i64 a0_1).wf = true) → ((Lit.int .i64 a0_2).wf = true) → ((Lit.int .i64 a0_3).wf = true) → ((Lit.int .i64 a0_4).wf = true) → ((Lit.int .i64 a0_5).wf = true) → ((Lit.int .i64 a0_6).wf = true) → ∃ k, laws_FnExactInText.f k a0_0 a0_1 a0_2 a0_3 a0_4 a0_5 a0_6 a0_7 = some true
def itoaB (n : Int) : ByteArray := ⟨(Lib.itoa n).toArray⟩
theorem bytes_append (a b : List UInt8) : ((⟨a.toArray⟩ : ByteArray) ++ ⟨b.toArray⟩) = ⟨(a ++ b).toArray⟩ := by
  apply ByteArray.ext
  simp
theorem bytes_size (a : List UInt8) : (⟨a.toArray⟩ : ByteArray).size = a.length := by
  simp [ByteArray.size]
theorem implDigits_eq (k : Nat) (n : Int) (h0 : -9223372036854775808 ≤ n) (h1 : n ≤ 9223372036854775807) : impl_Digits.f k n = some (itoaB n) := by
  simp only [impl_Digits.f, strconv_Itoa_43.f]
  rw [if_pos ⟨h0, h1⟩]
  rfl
theorem strOfNums_one (x : Nat) : strOfNums [(x : Int)] = ⟨[UInt8.ofNat x].toArray⟩ := by
  simp [strOfNums]
def digs (m : Nat) : List UInt8 := if m = 0 then [] else Lib.decDigits m
theorem digs_step (m : Nat) (h : m ≠ 0) : digs m = digs (m / 10) ++ [UInt8.ofNat (48 + m % 10)] := by
  unfold digs
  rw [if_neg h]
  by_cases hs : m < 10
  · rw [Lib.decDigits_one hs, if_pos (by omega), Nat.mod_eq_of_lt hs]
    rfl
  · rw [if_neg (by omega)]
    conv => lhs; rw [Lib.decDigits]
    rw [dif_neg hs]
def ndigs (m : Nat) : Nat := if m = 0 then 0 else Lib.nDigits m
theorem ndigs_step (m : Nat) (h : m ≠ 0) : ndigs m = ndigs (m / 10) + 1 := by
  unfold ndigs
  rw [if_neg h]
  by_cases hs : m < 10
  · rw [Lib.nDigits_small hs, if_pos (by omega)]
  · rw [if_neg (by omega), Lib.nDigits_big hs]
theorem ndigs_le (m : Nat) (h : m < 18446744073709551616) : ndigs m ≤ 20 := by
  unfold ndigs
  split
  · omega
  · exact Lib.nDigits_le20 m h
theorem specDigits_l (m : Nat) : ∀ (x : Int) (b : Bool) (acc : List UInt8), x.natAbs = m → -9223372036854775808 ≤ x → x ≤ 9223372036854775807 → acc.length + ndigs m ≤ 100 →
    Ev (fun k => spec_Digits.l0 k x b ⟨acc.toArray⟩) ⟨((if b then [45] else []) ++ digs m ++ acc).toArray⟩ := by
  induction m using Nat.strongRecOn with
  | ind m ih =>
    intro x b acc hm h0 h1 hacc
    by_cases hx : x = 0
    · subst hx
      have hm0 : m = 0 := by omega
      subst hm0
      refine ev_end fun k => ?_
      simp only [spec_Digits.l0]
      rw [if_pos trivial]
      cases b with
      | true =>
        rw [if_pos rfl, if_pos (by rw [bytes_size]; omega)]
        show some ((⟨[45].toArray⟩ : ByteArray) ++ _) = _
        rw [bytes_append]
        simp [digs]
      | false => simp [digs]
    · have hm0 : m ≠ 0 := by omega
      have hs := ndigs_step m hm0
      have hd : (Int.tmod x 10).natAbs = m % 10 := by rw [Int.natAbs_tmod, hm]; rfl
      have hq : (Int.tdiv x 10).natAbs = m / 10 := by rw [Int.natAbs_tdiv, hm]; rfl
      have hq0 : -9223372036854775808 ≤ Int.tdiv x 10 ∧ Int.tdiv x 10 ≤ 9223372036854775807 := by
        have : m / 10 ≤ 922337203685477580 := by omega
        omega
      have rec_ := ih (m / 10) (by omega) (Int.tdiv x 10) b (UInt8.ofNat (48 + m % 10) :: acc) hq hq0.1 hq0.2 (by simp; omega)
      have hlt : m % 10 < 10 := Nat.mod_lt _ (by omega)
      have e : ∀ v : Int, v = ((48 + m % 10 : Nat) : Int) → (strOfNums [v] : ByteArray) = ⟨[UInt8.ofNat (48 + m % 10)].toArray⟩ := fun v hv => by rw [hv, strOfNums_one]
      have fin : ∀ v : Int, v = ((48 + m % 10 : Nat) : Int) → ∀ k, (if (strOfNums [v]).size + (⟨acc.toArray⟩ : ByteArray).size ≤ 9223372036854775807 then spec_Digits.l0 k (wrap64 (Int.tdiv x 10)) b (strOfNums [v] ++ ⟨acc.toArray⟩) else none) = spec_Digits.l0 k (Int.tdiv x 10) b ⟨(UInt8.ofNat (48 + m % 10) :: acc).toArray⟩ := fun v hv k => by
        rw [e v hv, bytes_append, bytes_size, bytes_size, if_pos (by simp; omega), w64 hq0.1 hq0.2]
        rfl
      rw [digs_step m hm0]
      rw [List.append_assoc, List.append_assoc]
      rw [List.append_assoc] at rec_
      refine Ev.step (fun k => ?_) rec_
      simp only [spec_Digits.l0]
      rw [if_neg hx]
      by_cases hneg : Int.tmod x 10 < 0
      · rw [if_pos hneg]
        simp only [Option.bind_some]
        exact fin _ (by rw [w64 (x := -(Int.tmod x 10)) (by omega) (by omega), w64 (by omega) (by omega)]; omega) k
      · rw [if_neg hneg]
        simp only [Option.bind_some]
        exact fin _ (by rw [w64 (by omega) (by omega)]; omega) k
theorem specDigits_ev (n : Int) (h0 : -9223372036854775808 ≤ n) (h1 : n ≤ 9223372036854775807) : Ev (fun k => spec_Digits.f k n) (itoaB n) := by
  by_cases hn : n = 0
  · subst hn
    refine ev_some fun k => ?_
    simp only [spec_Digits.f]
    rw [if_pos trivial]
    unfold itoaB Lib.itoa
    rw [if_neg (by omega)]
    show _ = some (⟨(Lib.decDigits 0).toArray⟩ : ByteArray)
    rw [Lib.decDigits_one (by omega)]
    rfl
  · have h := specDigits_l n.natAbs n (decide (n < 0)) [] rfl h0 h1 (by have := ndigs_le n.natAbs (by omega); simp; omega)
    have e : (⟨((if decide (n < 0) = true then [45] else []) ++ digs n.natAbs ++ []).toArray⟩ : ByteArray) = itoaB n := by
      have hz : ¬ n.natAbs = 0 := by omega
      unfold itoaB Lib.itoa digs
      by_cases hb : n < 0
      · simp only [if_pos hb, if_neg hz, decide_eq_true hb, if_true, List.append_nil]
        rfl
      · have ht : n.natAbs = n.toNat := by omega
        simp only [if_neg hb, ht, decide_eq_false hb, List.append_nil, List.nil_append, Bool.false_eq_true, if_false, if_neg (show ¬ n.toNat = 0 by omega)]
    rw [e] at h
    refine Ev.congr (fun k => ?_) h
    simp only [spec_Digits.f]
    rw [if_neg hn]
theorem itoaB_size (n : Int) (h0 : -9223372036854775808 ≤ n) (h1 : n ≤ 9223372036854775807) : (itoaB n).size ≤ 21 := by
  unfold itoaB
  rw [bytes_size]
  exact Lib.itoa_length_le n h0 h1
def vecTextB (a b c d : Int) : ByteArray := ((((((itoaB a ++ (⟨#[46]⟩ : ByteArray)) ++ itoaB b) ++ (⟨#[46]⟩ : ByteArray)) ++ itoaB c) ++ (⟨#[46]⟩ : ByteArray)) ++ itoaB d)
theorem dot_size (x : UInt8) : (⟨#[x]⟩ : ByteArray).size = 1 := rfl
theorem in64 {x : Int} : (-9223372036854775808 ≤ x ∧ x ≤ 9223372036854775807) → (-9223372036854775808 ≤ x ∧ x ≤ 9223372036854775807) := id
theorem vecTextB_size (a b c d : Int) (ha : -9223372036854775808 ≤ a ∧ a ≤ 9223372036854775807) (hb : -9223372036854775808 ≤ b ∧ b ≤ 9223372036854775807) (hc : -9223372036854775808 ≤ c ∧ c ≤ 9223372036854775807) (hd : -9223372036854775808 ≤ d ∧ d ≤ 9223372036854775807) : (vecTextB a b c d).size ≤ 87 := by
  have s1 := itoaB_size a ha.1 ha.2
  have s2 := itoaB_size b hb.1 hb.2
  have s3 := itoaB_size c hc.1 hc.2
  have s4 := itoaB_size d hd.1 hd.2
  simp only [vecTextB, ByteArray.size_append, dot_size]
  omega
theorem specVecText_ev (a b c d : Int) (ha : -9223372036854775808 ≤ a ∧ a ≤ 9223372036854775807) (hb : -9223372036854775808 ≤ b ∧ b ≤ 9223372036854775807) (hc : -9223372036854775808 ≤ c ∧ c ≤ 9223372036854775807) (hd : -9223372036854775808 ≤ d ∧ d ≤ 9223372036854775807) :
    Ev (fun k => spec_VecText.f k a b c d) (vecTextB a b c d) := by
  have s1 := itoaB_size a ha.1 ha.2
  have s2 := itoaB_size b hb.1 hb.2
  have s3 := itoaB_size c hc.1 hc.2
  have s4 := itoaB_size d hd.1 hd.2
  obtain ⟨K1, h1⟩ := specDigits_ev a ha.1 ha.2
  obtain ⟨K2, h2⟩ := specDigits_ev b hb.1 hb.2
  obtain ⟨K3, h3⟩ := specDigits_ev c hc.1 hc.2
  obtain ⟨K4, h4⟩ := specDigits_ev d hd.1 hd.2
  refine ⟨K1 + K2 + K3 + K4, fun k hk => ?_⟩
  have h1 := h1 k (by omega)
  have h2 := h2 k (by omega)
  have h3 := h3 k (by omega)
  have h4 := h4 k (by omega)
  simp only [spec_VecText.f]
  simp only [h1, h2, h3, h4]
  simp only [Option.bind_some, ByteArray.size_append, dot_size]
  rw [if_pos (by omega), if_pos (by omega), if_pos (by omega), if_pos (by omega), if_pos (by omega), if_pos (by omega)]
  rfl
theorem implVecText_eq (k : Nat) (a b c d : Int) (ha : -9223372036854775808 ≤ a ∧ a ≤ 9223372036854775807) (hb : -9223372036854775808 ≤ b ∧ b ≤ 9223372036854775807) (hc : -9223372036854775808 ≤ c ∧ c ≤ 9223372036854775807) (hd : -9223372036854775808 ≤ d ∧ d ≤ 9223372036854775807) :
    impl_VecText.f k a b c d = some (vecTextB a b c d) := by
  have s1 := itoaB_size a ha.1 ha.2
  have s2 := itoaB_size b hb.1 hb.2
  have s3 := itoaB_size c hc.1 hc.2
  have s4 := itoaB_size d hd.1 hd.2
  simp only [impl_VecText.f]
  rw [implDigits_eq k a ha.1 ha.2, implDigits_eq k b hb.1 hb.2, implDigits_eq k c hc.1 hc.2, implDigits_eq k d hd.1 hd.2]
  simp only [Option.bind_some, ByteArray.size_append, dot_size]
  rw [if_pos (by omega), if_pos (by omega), if_pos (by omega), if_pos (by omega), if_pos (by omega), if_pos (by omega)]
  rfl
def claimTextB (p a b c d h : Int) : ByteArray := ((((((⟨#[99, 108, 97, 105, 109, 32]⟩ : ByteArray) ++ itoaB p) ++ (⟨#[32]⟩ : ByteArray)) ++ vecTextB a b c d) ++ (⟨#[32]⟩ : ByteArray)) ++ itoaB h)
theorem six_size (a b c d e f : UInt8) : (⟨#[a, b, c, d, e, f]⟩ : ByteArray).size = 6 := rfl
theorem five_size (a b c d e : UInt8) : (⟨#[a, b, c, d, e]⟩ : ByteArray).size = 5 := rfl
theorem specClaimText_ev (p a b c d h : Int) (hp : -9223372036854775808 ≤ p ∧ p ≤ 9223372036854775807) (ha : -9223372036854775808 ≤ a ∧ a ≤ 9223372036854775807) (hb : -9223372036854775808 ≤ b ∧ b ≤ 9223372036854775807) (hc : -9223372036854775808 ≤ c ∧ c ≤ 9223372036854775807) (hd : -9223372036854775808 ≤ d ∧ d ≤ 9223372036854775807) (hh : -9223372036854775808 ≤ h ∧ h ≤ 9223372036854775807) :
    Ev (fun k => spec_l9Claim.f k p a b c d h) (claimTextB p a b c d h) := by
  have s1 := itoaB_size p hp.1 hp.2
  have s2 := vecTextB_size a b c d ha hb hc hd
  have s3 := itoaB_size h hh.1 hh.2
  obtain ⟨K1, h1⟩ := specDigits_ev p hp.1 hp.2
  obtain ⟨K2, h2⟩ := specVecText_ev a b c d ha hb hc hd
  obtain ⟨K3, h3⟩ := specDigits_ev h hh.1 hh.2
  refine ⟨K1 + K2 + K3, fun k hk => ?_⟩
  have h1 := h1 k (by omega)
  have h2 := h2 k (by omega)
  have h3 := h3 k (by omega)
  simp only [spec_l9Claim.f]
  simp only [h1, h2, h3]
  simp only [Option.bind_some, ByteArray.size_append, dot_size, six_size]
  rw [if_pos (by omega), if_pos (by omega), if_pos (by omega), if_pos (by omega), if_pos (by omega)]
  rfl
theorem implClaimText_eq (k : Nat) (p a b c d h : Int) (hp : -9223372036854775808 ≤ p ∧ p ≤ 9223372036854775807) (ha : -9223372036854775808 ≤ a ∧ a ≤ 9223372036854775807) (hb : -9223372036854775808 ≤ b ∧ b ≤ 9223372036854775807) (hc : -9223372036854775808 ≤ c ∧ c ≤ 9223372036854775807) (hd : -9223372036854775808 ≤ d ∧ d ≤ 9223372036854775807) (hh : -9223372036854775808 ≤ h ∧ h ≤ 9223372036854775807) :
    impl_claimText.f k p a b c d h = some (claimTextB p a b c d h) := by
  have s1 := itoaB_size p hp.1 hp.2
  have s2 := vecTextB_size a b c d ha hb hc hd
  have s3 := itoaB_size h hh.1 hh.2
  simp only [impl_claimText.f]
  rw [implDigits_eq k p hp.1 hp.2, implVecText_eq k a b c d ha hb hc hd, implDigits_eq k h hh.1 hh.2]
  simp only [Option.bind_some, ByteArray.size_append, dot_size, six_size]
  rw [if_pos (by omega), if_pos (by omega), if_pos (by omega), if_pos (by omega), if_pos (by omega)]
  rfl
theorem FnExactInText : FnExactInTextPure := by
  intro n p a b c d h on hn hp ha hb hc hd hh
  have hp := wf64 hp
  have s1 := itoaB_size p hp.1 hp.2
  obtain ⟨K1, h1⟩ := specClaimText_ev p a b c d h hp (wf64 ha) (wf64 hb) (wf64 hc) (wf64 hd) (wf64 hh)
  obtain ⟨K2, h2⟩ := specDigits_ev p hp.1 hp.2
  refine ⟨K1 + K2, ?_⟩
  have h1 := h1 (K1 + K2) (by omega)
  have h2 := h2 (K1 + K2) (by omega)
  simp only [laws_FnExactInText.f, laws_toIn.f, laws_toVec.f, Option.bind_some, spec_InText.f, impl_InText.f, h1, h2, implClaimText_eq _ p a b c d h hp (wf64 ha) (wf64 hb) (wf64 hc) (wf64 hd) (wf64 hh), implDigits_eq _ p hp.1 hp.2, ByteArray.size_append, five_size]
  have g1 : 5 + (itoaB p).size ≤ 9223372036854775807 := by omega
  have g2 : 5 + (itoaB p).size + 3 ≤ 9223372036854775807 := by omega
  have g3 : 5 + (itoaB p).size + 5 ≤ 9223372036854775807 := by omega
  simp only [g1, g2, g3, if_true]
  split
  · simp
  · split
    · simp
    · first
        | (split
           · split <;> simp
           · simp)
        | (split <;> simp)
        | simp
end Go.Proofs.YtjaldondohddpaaDoor.Pure

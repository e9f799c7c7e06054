/- The statement of laws.FnExactGetNum over numbers and lists alone: at every input it answers true. No condition but that the numbers are those of their kinds and that no slice is longer than a Go slice can be. -/
import Derived.Test.YtahpnabiobemoaaPFnExactGetNumx2
import Derived.Test.YtahpnabiobemoaaBase
import Derived.Laws.BitsLemmas
set_option linter.unusedVariables false
set_option linter.unusedSimpArgs false
namespace Go.Proofs.Ytahpnabiobemoaa.Pure
open Go.RowKit Go.Proofs.Ytahpnabiobemoaa.PFnExactGetNum Go.Proofs.Ytahpnabiobemoaa.Base Go.Proofs.YtahpnabiobemoaaW.PrintWords Go.Proofs.YtahpnabiobemoaaW.PrintLast Go.Proofs.YtahpnabiobemoaaW.PrintMore
def FnExactGetNumPure : Prop := ∀ (l0 : List (Int)) (a1 : Int), (l0.length ≤ maxLen ∧ ∀ x ∈ l0, (Lit.int .u8 x).wf = true) → ((Lit.int .i64 a1).wf = true) → ∃ k, laws_FnExactGetNum.f k l0 a1 = some true
/-- The number that begins at the i-th byte of a number, of which n is read: it and how many bytes it has. -/
def getM : Nat → Int → List Int → Option (Int × Nat)
  | _, _, [] => none
  | i, n, x :: t => if i < 5 then
      (if x < 128 then (if x = 0 ∧ 0 < i ∨ n + x % 128 * 128 ^ i > 2147483647 then none else some (n + x % 128 * 128 ^ i, i + 1)) else getM (i + 1) (n + x % 128 * 128 ^ i) t)
    else none
/-- What GetNum answers. -/
def getNum (l : List Int) (at_ : Int) : Int × Int × Bool :=
  if at_ < 0 then (0, 0, false) else match getM 0 0 (l.drop at_.toNat) with
    | none => (0, 0, false)
    | some (n, c) => (n, at_ + c, true)
theorem i64_wraps (n : Int) (h0 : 0 ≤ n) (h1 : n < 2 ^ 62) : IntKind.i64.wrap n = n := by
  rw [IntKind.wrap_i64]
  omega
theorem or_comm64 (a b : Int) : Go.bits .or .i64 a b = Go.bits .or .i64 b a := by simp only [Go.bits, BitVec.or_comm]
theorem or_join (i : Nat) (n d : Int) (hi : i < 5) (h0 : 0 ≤ n) (h1 : n < 128 ^ i) (h2 : 0 ≤ d) (h3 : d < 128) :
    Go.bits .or .i64 n (shl .i64 d (7 * (i : Int))) = n + d * 128 ^ i := by
  have key : ∀ j : Nat, j ≤ 28 → n < 2 ^ j → (2 : Int) ^ j ≤ 268435456 → Go.bits .or .i64 n (IntKind.i64.wrap (d * 2 ^ j)) = n + d * 2 ^ j := by
    intro j hj hn hp
    have hp0 : (0 : Int) < 2 ^ j := Int.pow_pos (by decide)
    have hd0 : 0 ≤ d * 2 ^ j := Int.mul_nonneg h2 (Int.le_of_lt hp0)
    have hd1 : d * 2 ^ j ≤ 127 * 268435456 := by
      calc d * 2 ^ j ≤ 127 * 2 ^ j := Int.mul_le_mul_of_nonneg_right (by omega) (Int.le_of_lt hp0)
        _ ≤ 127 * 268435456 := Int.mul_le_mul_of_nonneg_left hp (by decide)
    rw [i64_wraps _ hd0 (by omega), or_comm64, Go.bits_join .i64 62 (by decide) i64_wraps j _ _ hd0 (Int.mul_emod_left _ _) (by omega) h0 hn (by omega)]
    omega
  match i, hi with
  | 0, _ => have := key 0 (by decide) (by simpa using h1) (by decide); simpa [shl, IntKind.bits] using this
  | 1, _ => have := key 7 (by decide) (by simpa using h1) (by decide); simpa [shl, IntKind.bits] using this
  | 2, _ => have := key 14 (by decide) (by simpa using h1) (by decide); simpa [shl, IntKind.bits] using this
  | 3, _ => have := key 21 (by decide) (by simpa using h1) (by decide); simpa [shl, IntKind.bits] using this
  | 4, _ => have := key 28 (by decide) (by simpa using h1) (by decide); simpa [shl, IntKind.bits] using this
theorem and_127 (x : Int) (h0 : 0 ≤ x) (h1 : x < 256) : Go.bits .and .i64 x 127 = x % 128 := by
  have := Go.bits_mask .i64 62 (by decide) i64_wraps 7 (by decide) x h0 (by omega)
  simpa using this
theorem pow_step (i : Nat) (n d : Int) (h0 : 0 ≤ n) (h1 : n < 128 ^ i) (h2 : 0 ≤ d) (h3 : d < 128) : 0 ≤ n + d * 128 ^ i ∧ n + d * 128 ^ i < 128 ^ (i + 1) := by
  have hp : (0 : Int) < 128 ^ i := Int.pow_pos (by decide)
  have a : 0 ≤ d * 128 ^ i := Int.mul_nonneg h2 (Int.le_of_lt hp)
  have b : d * 128 ^ i ≤ 127 * 128 ^ i := Int.mul_le_mul_of_nonneg_right (by omega) (Int.le_of_lt hp)
  rw [Int.pow_succ]
  omega
theorem specGetNum_ev (l : List Int) (a : Int) (h : l.length ≤ 4194304) (hb : ∀ x ∈ l, 0 ≤ x ∧ x < 256) (ha : -9223372036854775808 ≤ a ∧ a ≤ 9223372036854775807) : Ev (fun k => spec_GetNum.f k l a) (getNum l a) := by
  by_cases hneg : a < 0
  · refine ⟨2, fun k hk => ?_⟩
    obtain ⟨j, rfl⟩ : ∃ j, k = j + 2 := ⟨k - 2, by omega⟩
    simp [spec_GetNum.f, spec_GetNum.l0, spec_GetNum.j1, getNum, hneg]
  obtain ⟨p, rfl⟩ := Int.eq_ofNat_of_zero_le (Int.not_lt.1 hneg)
  have key : ∀ (d i : Nat) (n : Int), i + d = 5 → 0 ≤ n → n < 128 ^ i →
      Ev (fun k => spec_GetNum.l0 k l (p : Int) n (i : Int)) (match getM i n (l.drop (p + i)) with | none => (0, 0, false) | some (m, c) => (m, (p : Int) + c, true)) := by
    intro d
    induction d with
    | zero =>
      intro i n hi h0 h1
      refine ev_end fun k => ?_
      simp only [spec_GetNum.l0]
      rw [if_neg (by omega)]
      have : getM i n (l.drop (p + i)) = none := by
        cases l.drop (p + i) with
        | nil => rfl
        | cons x t => rw [getM, if_neg (by omega)]
      rw [this]
    | succ d ih =>
      intro i n hi h0 h1
      by_cases hin : p + i < l.length
      · have e : l.drop (p + i) = l[p + i] :: l.drop (p + (i + 1)) := by rw [List.drop_eq_getElem_cons hin]; rfl
        rw [e]
        generalize hx : l[p + i] = x
        have hxx : l[p + i]? = some x := by rw [← hx]; exact List.getElem?_eq_getElem hin
        have hxb := hb x (List.mem_of_getElem? hxx)
        have hr : rd l ((p : Int) + (i : Int)) = x := by have := rd_at hxx; simpa using this
        have hpw := pow_step i n (x % 128) h0 h1 (by omega) (by omega)
        have hor : Go.bits .or .i64 n (shl .i64 (x % 128) (7 * (i : Int))) = n + x % 128 * 128 ^ i := or_join i n _ (by omega) h0 h1 (by omega) (by omega)
        have s1 : ∀ k, spec_GetNum.l0 (k + 1) l (p : Int) n (i : Int) = spec_GetNum.j1 k l (p : Int) n (i : Int) false := by
          intro k
          simp only [spec_GetNum.l0]
          rw [if_pos (by omega), if_neg (by omega), w64 (by omega) (by omega)]
          congr 1
          rw [decide_eq_false_iff_not]
          omega
        by_cases hx128 : x < 128
        · rw [getM, if_pos (show i < 5 by omega), if_pos hx128]
          refine Ev.step s1 (ev_end fun k => ?_)
          simp only [spec_GetNum.j1]
          rw [if_neg (by simp), w64 (x := (p : Int) + (i : Int)) (by omega) (by omega), hr, w64 (x := 7 * (i : Int)) (by omega) (by omega), w64 (x := x) (by omega) (by omega),
            if_pos (by omega), if_pos (by omega), if_pos (by omega), if_pos hx128, Int.tmod_eq_emod_of_nonneg hxb.1, hor, w64 (x := (p : Int) + (i : Int) + 1) (by omega) (by omega)]
          by_cases hi0 : 0 < i
          · rw [if_pos (by omega)]
            by_cases hx0 : x = 0
            · rw [if_pos hx0, if_pos (Or.inl ⟨hx0, hi0⟩)]
            · rw [if_neg hx0]
              by_cases hbig : n + x % 128 * 128 ^ i > 2147483647
              · rw [if_pos hbig, if_pos (Or.inr hbig)]
              · rw [if_neg hbig, if_neg (by omega)]
                simp
                omega
          · rw [if_neg (by omega)]
            by_cases hbig : n + x % 128 * 128 ^ i > 2147483647
            · rw [if_pos hbig, if_pos (Or.inr hbig)]
            · rw [if_neg hbig, if_neg (by omega)]
              simp
              omega
        · have := ih (i + 1) _ (by omega) hpw.1 hpw.2
          rw [getM, if_pos (by omega), if_neg hx128]
          refine Ev.step s1 (Ev.step (fun k => ?_) this)
          simp only [spec_GetNum.j1]
          rw [if_neg (by simp), w64 (x := (p : Int) + (i : Int)) (by omega) (by omega), hr, w64 (x := 7 * (i : Int)) (by omega) (by omega), w64 (x := x) (by omega) (by omega),
            if_pos (by omega), if_pos (by omega), if_pos (by omega), if_neg hx128, Int.tmod_eq_emod_of_nonneg hxb.1, hor, w64_succ (by omega)]
      · have e : l.drop (p + i) = [] := List.drop_eq_nil_of_le (by omega)
        rw [e]
        refine Ev.step (f := fun k => spec_GetNum.j1 k l (p : Int) n (i : Int) true) (fun k => ?_) (ev_end fun k => ?_)
        · simp only [spec_GetNum.l0]
          rw [if_pos (by omega), if_neg (by omega), w64 (by omega) (by omega)]
          congr 1
          rw [decide_eq_true_iff]
          omega
        · simp only [spec_GetNum.j1, if_true]
          rfl
  have := key 5 0 0 rfl (by omega) (by simp)
  simp only [getNum, if_neg hneg]
  exact this
theorem implGetNum_ev (l : List Int) (a : Int) (h : l.length ≤ 4194304) (hb : ∀ x ∈ l, 0 ≤ x ∧ x < 256) (ha : -9223372036854775808 ≤ a ∧ a ≤ 9223372036854775807) : Ev (fun k => impl_GetNum.f k l a) (getNum l a) := by
  by_cases hneg : a < 0
  · exact ev_some fun k => by simp [impl_GetNum.f, getNum, hneg]
  obtain ⟨p, rfl⟩ := Int.eq_ofNat_of_zero_le (Int.not_lt.1 hneg)
  have key : ∀ (d i : Nat) (n : Int), i + d = 5 → 0 ≤ n → n < 128 ^ i →
      Ev (fun k => impl_GetNum.l0 k l (p : Int) n (i : Int)) (match getM i n (l.drop (p + i)) with | none => (0, 0, false) | some (m, c) => (m, (p : Int) + c, true)) := by
    intro d
    induction d with
    | zero =>
      intro i n hi h0 h1
      refine Ev.step (f := fun k => impl_GetNum.j1 k l (p : Int) n (i : Int) false) (fun k => by simp only [impl_GetNum.l0]; rw [if_neg (by omega)]) (ev_end fun k => ?_)
      simp only [impl_GetNum.j1]
      rw [if_neg (by simp)]
      have : getM i n (l.drop (p + i)) = none := by
        cases l.drop (p + i) with
        | nil => rfl
        | cons x t => rw [getM, if_neg (by omega)]
      rw [this]
    | succ d ih =>
      intro i n hi h0 h1
      by_cases hin : p + i < l.length
      · have e : l.drop (p + i) = l[p + i] :: l.drop (p + (i + 1)) := by rw [List.drop_eq_getElem_cons hin]; rfl
        rw [e]
        generalize hx : l[p + i] = x
        have hxx : l[p + i]? = some x := by rw [← hx]; exact List.getElem?_eq_getElem hin
        have hxb := hb x (List.mem_of_getElem? hxx)
        have hr : rd l ((p : Int) + (i : Int)) = x := by have := rd_at hxx; simpa using this
        have hu : ∀ y : Int, 0 ≤ y → y < 100 → IntKind.u64.wrap y = y := fun y h0 h1 => by simp [IntKind.wrap, IntKind.bits, IntKind.signed]; omega
        have hand := and_127 x hxb.1 hxb.2
        have hpw := pow_step i n (x % 128) h0 h1 (by omega) (by omega)
        have hor : Go.bits .or .i64 n (shl .i64 (x % 128) (7 * (i : Int))) = n + x % 128 * 128 ^ i := or_join i n _ (by omega) h0 h1 (by omega) (by omega)
        have s1 : ∀ k, impl_GetNum.l0 (k + 1) l (p : Int) n (i : Int) = impl_GetNum.j1 k l (p : Int) n (i : Int) true := by
          intro k
          simp only [impl_GetNum.l0]
          rw [if_pos (by omega), w64 (by omega) (by omega)]
          congr 1
          rw [decide_eq_true_iff]
          omega
        by_cases hx128 : x < 128
        · rw [getM, if_pos (show i < 5 by omega), if_pos hx128]
          refine Ev.step s1 (ev_end fun k => ?_)
          simp only [impl_GetNum.j1]
          rw [if_pos trivial, w64 (x := (p : Int) + (i : Int)) (by omega) (by omega), hr, w64 (x := 7 * (i : Int)) (by omega) (by omega), hu (7 * (i : Int)) (by omega) (by omega), w64 (x := x) (by omega) (by omega),
            if_pos (by omega), if_pos (by omega), if_pos (by omega), if_neg (by omega), hand, hor, w64 (x := (p : Int) + (i : Int) + 1) (by omega) (by omega)]
          by_cases hx0 : x = 0
          · rw [if_pos hx0]
            by_cases hi0 : 0 < i
            · rw [if_pos (by omega), if_pos (Or.inl ⟨hx0, hi0⟩)]
            · rw [if_neg (by omega)]
              by_cases hbig : n + x % 128 * 128 ^ i > 2147483647
              · rw [if_pos hbig, if_pos (Or.inr hbig)]
              · rw [if_neg hbig, if_neg (by omega)]
                simp
                omega
          · rw [if_neg hx0]
            by_cases hbig : n + x % 128 * 128 ^ i > 2147483647
            · rw [if_pos hbig, if_pos (Or.inr hbig)]
            · rw [if_neg hbig, if_neg (by omega)]
              simp
              omega
        · have := ih (i + 1) _ (by omega) hpw.1 hpw.2
          rw [getM, if_pos (by omega), if_neg hx128]
          refine Ev.step s1 (Ev.step (fun k => ?_) this)
          simp only [impl_GetNum.j1]
          rw [if_pos trivial, w64 (x := (p : Int) + (i : Int)) (by omega) (by omega), hr, w64 (x := 7 * (i : Int)) (by omega) (by omega), hu (7 * (i : Int)) (by omega) (by omega), w64 (x := x) (by omega) (by omega),
            if_pos (by omega), if_pos (by omega), if_pos (by omega), if_pos (by omega), hand, hor, w64_succ (by omega)]
      · have e : l.drop (p + i) = [] := List.drop_eq_nil_of_le (by omega)
        rw [e]
        refine Ev.step (f := fun k => impl_GetNum.j1 k l (p : Int) n (i : Int) false) (fun k => ?_) (ev_end fun k => ?_)
        · simp only [impl_GetNum.l0]
          rw [if_pos (by omega), w64 (by omega) (by omega)]
          congr 1
          rw [decide_eq_false_iff_not]
          omega
        · simp only [impl_GetNum.j1]
          rw [if_neg (by simp)]
          rfl
  have := key 5 0 0 rfl (by omega) (by simp)
  simp only [getNum, impl_GetNum.f, if_neg hneg]
  exact this
theorem toByteS_ev (l : List Int) (h : l.length ≤ 4194304) : Ev (fun k => laws_toByteS.f k l) l := by
  have h0 := ev_copy l (0 : Int) (fun x => x) (fun k acc i => laws_toByteS.l0 k l acc i)
    (fun acc ha => ev_end fun k => by simp only [laws_toByteS.l0]; rw [if_neg (by omega)])
    (fun i acc x r ha hi hx ih => Ev.step (fun k => by
      simp only [laws_toByteS.l0]
      rw [if_pos (by omega), if_pos (by omega), if_pos (by omega), rd_at hx, w64_succ (by omega)]
      simp) ih)
  rw [List.map_id'] at h0
  refine Ev.congr (fun k => ?_) h0
  simp only [laws_toByteS.f]
  rw [if_pos (by omega), if_pos (by simp; omega)]
  simp
theorem eqByteS_ev (l : List Int) (h : l.length ≤ 4194304) : Ev (fun k => laws_eqByteS.f k l l) true := by
  have h0 := ev_list0 l (fun k i => laws_eqByteS.l0 k l l i) (fun _ => true)
    (ev_end fun k => by simp only [laws_eqByteS.l0]; rw [if_neg (by omega)])
    (fun i x t hi _ hx ih => Ev.step (fun k => by
      simp only [laws_eqByteS.l0]
      rw [if_pos (by omega), if_pos (by omega), if_pos (by omega), w64_succ (by omega)]
      try simp) ih)
  refine Ev.congr (fun k => ?_) h0
  simp [laws_eqByteS.f]
theorem FnExactGetNum : FnExactGetNumPure := by
  intro l a hlw ha
  obtain ⟨_, hw⟩ := hlw
  have ha := wf64 ha
  by_cases hbig : (l.length : Int) > 1048576
  · exact ⟨0, by simp only [laws_FnExactGetNum.f]; rw [if_pos hbig]⟩
  have hl : l.length ≤ 4194304 := by omega
  have hb : ∀ x ∈ l, 0 ≤ x ∧ x < 256 := fun x hx => wf8 (hw x hx)
  obtain ⟨K1, h1⟩ := toByteS_ev l hl
  obtain ⟨K2, h2⟩ := specGetNum_ev l a hl hb ha
  obtain ⟨K3, h3⟩ := implGetNum_ev l a hl hb ha
  obtain ⟨K4, h4⟩ := eqByteS_ev l hl
  refine ⟨K1 + K2 + K3 + K4 + 1, ?_⟩
  simp (disch := omega) [laws_FnExactGetNum.f, laws_FnExactGetNum.j0, h1, h2, h3, h4]
end Go.Proofs.Ytahpnabiobemoaa.Pure

/- Of the proof of laws.FnExactInside: a part. No condition beyond what its theorems say. -/
/- The statement of laws.FnExactInside over numbers and lists alone: at every input it answers true. No condition but that the numbers are those of their kinds and that no slice is longer than a Go slice can be. -/
import Derived.Test.YtjmkbmpfknhcdaaVFnExactInsideT
import Derived.Test.YtjmkbmpfknhcdaaVFnExactInsideBase
set_option linter.unusedVariables false
set_option linter.unusedSimpArgs false
namespace Go.Proofs.Ytjmkbmpfknhcdaa.Pure
open Go.RowKit Go.Proofs.Ytjmkbmpfknhcdaa.PFnExactInside Go.Proofs.Ytjmkbmpfknhcdaa.Base Go.Proofs.YtjmkbmpfknhcdaaW.PrintWords Go.Proofs.YtjmkbmpfknhcdaaW.PrintLast Go.Proofs.YtjmkbmpfknhcdaaW.PrintMore
def FnExactInsidePure : Prop := ∀ (a0_0 : Int) (l0_1 : List (Int)) (a1_0 : Int) (a1_1 : Int) (a1_2 : Int) (l1_3 : List (Int)), ((Lit.int .i64 a0_0).wf = true) → (l0_1.length ≤ maxLen ∧ ∀ x ∈ l0_1, (Lit.int .i64 x).wf = true) → ((Lit.int .i64 a1_0).wf = true) → ((Lit.int .i64 a1_1).wf = true) → ((Lit.int .i64 a1_2).wf = true) → (l1_3.length ≤ maxLen ∧ ∀ x ∈ l1_3, (Lit.int .u8 x).wf = true) → ∃ k, laws_FnExactInside.f k a0_0 l0_1 a1_0 a1_1 a1_2 l1_3 = some true
def nextI (p : Option Int) (x : Int) : Bool := match p with | none => true | some y => decide (y < x)
def memM (own : Int) (l : List Int) : Option Int → List Int → Bool
  | _, [] => decide (1 ≤ own ∧ own ≤ 4) && l.contains own
  | p, x :: t => decide (1 ≤ x ∧ x ≤ 4) && (nextI p x && memM own l (some x) t)
def memberOk (own : Int) (l : List Int) : Bool := memM own l none l
def frameOk (a b c : Int) (l : List Int) : Bool := decide (0 ≤ a ∧ a ≤ 9 ∧ 1 ≤ b ∧ b ≤ 9 ∧ 0 ≤ c ∧ c ≤ 4 ∧ l.length ≤ 30)
theorem frameOk_iff' (a b c : Int) (l : List Int) : frameOk a b c l = true ↔ 0 ≤ a ∧ a ≤ 9 ∧ 1 ≤ b ∧ b ≤ 9 ∧ 0 ≤ c ∧ c ≤ 4 ∧ l.length ≤ 30 := by simp [frameOk]
abbrev FrB := Int × Int × Int × List Int × Bool
def insideM (a : Int) (l : List Int) (x y v : Int) (ld : List Int) : FrB :=
  if (memberOk a l && (frameOk x y v ld && l.contains (if v = 0 then a else v))) = true then (x, y, if v = 0 then a else v, ld, true) else (0, 0, 0, [], false)
def outsideM (a : Int) (l : List Int) (x y v : Int) (ld : List Int) : FrB :=
  if (memberOk a l && (frameOk x y v ld && l.contains v)) = true then (x, y, if v = a then 0 else v, ld, true) else (0, 0, 0, [], false)
theorem memM_all (own : Int) (w : List Int) : ∀ (l : List Int) (p : Option Int), memM own w p l = true → (∀ x ∈ l, 1 ≤ x ∧ x ≤ 4) ∧ 1 ≤ own ∧ own ≤ 4 ∧ w.contains own = true := by
  intro l
  induction l with
  | nil => intro p h; simp only [memM, Bool.and_eq_true, decide_eq_true_eq] at h; exact ⟨by simp, h.1.1, h.1.2, h.2⟩
  | cons y t ih =>
    intro p h
    simp only [memM, Bool.and_eq_true, decide_eq_true_eq] at h
    obtain ⟨i1, i2⟩ := ih _ h.2.2
    refine ⟨fun x hx => ?_, i2⟩
    rcases List.mem_cons.1 hx with rfl | hx
    · exact h.1
    · exact i1 x hx
theorem memberOk_all {own : Int} {l : List Int} (h : memberOk own l = true) : (∀ x ∈ l, 1 ≤ x ∧ x ≤ 4) ∧ 1 ≤ own ∧ own ≤ 4 ∧ l.contains own = true := memM_all own l l none h
theorem insideM_length (a : Int) (l : List Int) (x y v : Int) (ld : List Int) (n : Nat) (h : ld.length ≤ n) : (insideM a l x y v ld).2.2.2.1.length ≤ n := by
  unfold insideM
  (repeat' split) <;> simp [h]
theorem outsideM_length (a : Int) (l : List Int) (x y v : Int) (ld : List Int) (n : Nat) (h : ld.length ≤ n) : (outsideM a l x y v ld).2.2.2.1.length ≤ n := by
  unfold outsideM
  (repeat' split) <;> simp [h]
theorem l4Has_ev (l : List Int) (x : Int) (h : l.length ≤ 4194304) : Ev (fun k => spec_l4Has.f k l x) (l.contains x) := by
  refine ev_list0 l (fun k i => spec_l4Has.l0 k l x i) (fun t => t.contains x)
    (ev_end fun k => by simp only [spec_l4Has.l0]; rw [if_neg (by omega)]; rfl)
    (fun i y t hi _ hx ih => ?_)
  by_cases e : y = x
  · refine ev_end fun k => ?_
    simp only [spec_l4Has.l0]
    rw [if_pos (by omega), if_pos (by omega), rd_at hx, if_pos e]
    simp [e]
  · have e' : (y :: t).contains x = t.contains x := by
      have : ¬ x = y := fun h => e h.symm
      simp [List.contains_cons, this]
    rw [e']
    refine Ev.step (fun k => ?_) ih
    simp only [spec_l4Has.l0]
    rw [if_pos (by omega), if_pos (by omega), rd_at hx, if_neg e, w64_succ (by omega)]
theorem l1In_eq (x lo hi : Int) : spec_l1In.f x lo hi = some (decide (lo ≤ x ∧ x ≤ hi)) := by
  simp only [spec_l1In.f]
  by_cases h : lo ≤ x
  · rw [if_pos h]; simp [h]
  · rw [if_neg h]; simp [h]
theorem specMemberOk_ev (own : Int) (l : List Int) (h : l.length ≤ 4194304) : Ev (fun k => spec_MemberOk.f k own l) (memberOk own l) := by
  refine ev_list l (fun k (_ : Option Int) i => spec_MemberOk.l0 k i own l) (fun p t => memM own l p t) (fun i p => p = if i = 0 then none else l[i - 1]?) ?_ ?_ none rfl
  · intro p _
    refine Ev.step (f := fun k => ((spec_l1In.f own 1 4).bind fun t109 => (if t109 = true then ((spec_l4Has.f k l own).bind fun t110 => (some t110)) else (some false)))) (fun k => ?_) ?_
    · simp only [spec_MemberOk.l0]
      rw [if_neg (by omega)]
    · simp only [l1In_eq, Option.bind_some, memM]
      by_cases a : 1 ≤ own ∧ own ≤ 4
      · simp only [a, and_self, decide_true, if_true, Bool.true_and]
        exact Ev.bind (l4Has_ev l own h) (ev_some fun _ => rfl)
      · refine ev_some fun k => ?_
        simp [a]
  · intro i p x t hI hi _ hx ih
    have ih' := ih (some x) (by simp [hx])
    have hbefore : ∀ k, (if (i : Int) > 0 then (if 0 ≤ (wrap64 ((i : Int) - 1)) then (if (wrap64 ((i : Int) - 1)) < (l.length : Int) then (if (rd l (wrap64 ((i : Int) - 1))) ≥ x then (some false) else (spec_MemberOk.l0 k ((i + 1 : Nat) : Int) own l)) else (none)) else (none)) else (spec_MemberOk.l0 k ((i + 1 : Nat) : Int) own l)) = if nextI p x = true then spec_MemberOk.l0 k ((i + 1 : Nat) : Int) own l else some false := by
      intro k
      cases i with
      | zero => simp at hI; subst hI; simp [nextI]
      | succ j =>
        simp at hI
        have hj : l[j]? = some l[j] := List.getElem?_eq_getElem (by omega)
        rw [hj] at hI
        subst hI
        rw [if_pos (by omega), w64 (by omega) (by omega), show ((j + 1 : Nat) : Int) - 1 = (j : Int) by omega, if_pos (by omega), if_pos (by omega), rd_at hj]
        by_cases e : l[j] < x
        · rw [if_neg (by omega), if_pos (by simp [nextI, e])]
        · rw [if_pos (by omega), if_neg (by simp [nextI]; omega)]
    by_cases a : 1 ≤ x ∧ x ≤ 4
    · cases hb : nextI p x with
      | true =>
        have e : memM own l p (x :: t) = memM own l (some x) t := by simp [memM, a, hb]
        rw [e]
        refine Ev.step (fun k => ?_) ih'
        simp only [spec_MemberOk.l0]
        rw [if_pos (by omega), if_pos (by omega), rd_at hx, w64_succ (by omega)]
        simp only [l1In_eq, Option.bind_some, a, and_self, decide_true, if_true]
        rw [hbefore k, if_pos hb]
      | false =>
        have e : memM own l p (x :: t) = false := by simp [memM, hb]
        rw [e]
        refine ev_end fun k => ?_
        simp only [spec_MemberOk.l0]
        rw [if_pos (by omega), if_pos (by omega), rd_at hx, w64_succ (by omega)]
        simp only [l1In_eq, Option.bind_some, a, and_self, decide_true, if_true]
        rw [hbefore k, if_neg (by simp [hb])]
    · have e : memM own l p (x :: t) = false := by simp [memM, a]
      rw [e]
      refine ev_end fun k => ?_
      simp only [spec_MemberOk.l0]
      rw [if_pos (by omega), if_pos (by omega), rd_at hx]
      simp only [l1In_eq, Option.bind_some, a, decide_false, if_false, Bool.false_eq_true]
theorem specFrameOk_eq (a b c : Int) (l : List Int) : spec_FrameOk.f a b c l = some (frameOk a b c l) := by
  simp only [spec_FrameOk.f, l1In_eq, Option.bind_some, frameOk]
  by_cases h1 : 0 ≤ a ∧ a ≤ 9 <;> by_cases h2 : 1 ≤ b ∧ b ≤ 9 <;> by_cases h3 : 0 ≤ c ∧ c ≤ 4 <;> by_cases h4 : l.length ≤ 30 <;> simp [h1, h2, h3, h4] <;> omega
theorem l2Copy_eq (a b c : Int) (l : List Int) (h : l.length ≤ 4194304) : spec_l2Copy.f a b c l = some (a, b, c, l) := by
  simp only [spec_l2Copy.f, Option.bind_some, List.length_nil, List.nil_append]
  rw [if_pos (by omega)]
theorem specInside_ev (a : Int) (l : List Int) (x y v : Int) (ld : List Int) (hl : l.length ≤ 4194304) (hd : ld.length ≤ 4194304) : Ev (fun k => spec_Inside.f k a l x y v ld) (insideM a l x y v ld) := by
  obtain ⟨K1, h1⟩ := specMemberOk_ev a l hl
  obtain ⟨K2, h2⟩ := l4Has_ev l (if v = 0 then a else v) hl
  refine ⟨K1 + K2 + 1, fun k hk => ?_⟩
  obtain ⟨j, rfl⟩ : ∃ j, k = j + 1 := ⟨k - 1, by omega⟩
  have e1 := h1 j (by omega)
  have e2 := h2 j (by omega)
  simp only [spec_Inside.f, spec_Inside.j0, e1, specFrameOk_eq, Option.bind_some, l2Copy_eq x y v ld hd, insideM]
  by_cases hv : v = 0
  · simp only [if_pos hv] at e2 ⊢
    simp only [e2, Option.bind_some]
    cases memberOk a l <;> cases frameOk x y v ld <;> cases l.contains a <;> simp
  · simp only [if_neg hv] at e2 ⊢
    simp only [e2, Option.bind_some]
    cases memberOk a l <;> cases frameOk x y v ld <;> cases l.contains v <;> simp
def idxM (v : Int) : Int → List Int → Int
  | _, [] => -1
  | i, x :: t => if v = x then i else idxM v (i + 1) t
theorem idxM_iff (v : Int) : ∀ (l : List Int) (i : Int), 0 ≤ i → (0 ≤ idxM v i l ↔ v ∈ l) := by
  intro l
  induction l with
  | nil => intro i _; simp [idxM]
  | cons x t ih =>
    intro i hi
    simp only [idxM]
    by_cases e : v = x
    · simp [e, hi]
    · rw [if_neg e, ih (i + 1) (by omega)]
      simp [e]
theorem index_ev (l : List Int) (v : Int) (h : l.length ≤ 4194304) : Ev (fun k => slices_Index_int_int.f k l v) (idxM v 0 l) := by
  refine ev_list l (fun k (s : Int) i => slices_Index_int_int.l0 k l v (l.length : Int) i) (fun s t => idxM v s t) (fun i s => s = i) ?_ ?_ 0 rfl
  · intro s _
    refine ev_end fun k => ?_
    simp only [slices_Index_int_int.l0]
    rw [if_neg (by omega)]
    rfl
  · intro i s x t hI hi _ hx ih
    subst hI
    by_cases e : v = x
    · refine ev_end fun k => ?_
      simp only [slices_Index_int_int.l0]
      rw [if_pos (by omega), if_pos (by omega), if_pos (by omega), rd_at hx, if_pos e, idxM, if_pos e]
    · have := ih ((i : Int) + 1) (by omega)
      rw [idxM, if_neg e]
      refine Ev.step (fun k => ?_) this
      simp only [slices_Index_int_int.l0]
      rw [if_pos (by omega), if_pos (by omega), if_pos (by omega), rd_at hx, if_neg e, w64_succ (by omega)]
theorem contains_ev (l : List Int) (v : Int) (h : l.length ≤ 4194304) : Ev (fun k => slices_Contains_int_int.f k l v) (l.contains v) := by
  simp only [slices_Contains_int_int.f]
  refine Ev.bind (index_ev l v h) (ev_some fun _ => ?_)
  congr 1
  rw [Bool.eq_iff_iff]
  simp [idxM_iff v l 0 (by omega)]
theorem inRange_eq (x lo hi : Int) : impl_inRange.f x lo hi = some (decide (lo ≤ x ∧ x ≤ hi)) := by
  simp only [impl_inRange.f]
  by_cases h : lo ≤ x
  · rw [if_pos h]; simp [h]
  · rw [if_neg h]; simp [h]
theorem isVlan_eq (x : Int) : impl_isVlan.f x = some (decide (1 ≤ x ∧ x ≤ 4)) := by simp [impl_isVlan.f, inRange_eq]
theorem implMemberOk_ev (own : Int) (l : List Int) (h : l.length ≤ 4194304) : Ev (fun k => impl_MemberOk.f k own l) (memberOk own l) := by
  refine ev_list l (fun k (_ : Option Int) i => impl_MemberOk.l0 k l (l.length : Int) i own l) (fun p t => memM own l p t) (fun i p => p = if i = 0 then none else l[i - 1]?) ?_ ?_ none rfl
  · intro p _
    refine Ev.step (f := fun k => ((impl_isVlan.f own).bind fun t109 => (if t109 = true then ((slices_Contains_int_int.f k l own).bind fun t110 => (some t110)) else (some false)))) (fun k => ?_) ?_
    · simp only [impl_MemberOk.l0]
      rw [if_neg (by omega)]
    · simp only [isVlan_eq, Option.bind_some, memM]
      by_cases a : 1 ≤ own ∧ own ≤ 4
      · simp only [a, and_self, decide_true, if_true, Bool.true_and]
        exact Ev.bind (contains_ev l own h) (ev_some fun _ => rfl)
      · refine ev_some fun k => ?_
        simp [a]
  · intro i p x t hI hi _ hx ih
    have ih' := ih (some x) (by simp [hx])
    have hbefore : ∀ k, (if (i : Int) > 0 then (if 0 ≤ (wrap64 ((i : Int) - 1)) then (if (wrap64 ((i : Int) - 1)) < (l.length : Int) then (if x ≤ (rd l (wrap64 ((i : Int) - 1))) then (some false) else (impl_MemberOk.l0 k l (l.length : Int) ((i + 1 : Nat) : Int) own l)) else (none)) else (none)) else (impl_MemberOk.l0 k l (l.length : Int) ((i + 1 : Nat) : Int) own l)) = if nextI p x = true then impl_MemberOk.l0 k l (l.length : Int) ((i + 1 : Nat) : Int) own l else some false := by
      intro k
      cases i with
      | zero => simp at hI; subst hI; simp [nextI]
      | succ j =>
        simp at hI
        have hj : l[j]? = some l[j] := List.getElem?_eq_getElem (by omega)
        rw [hj] at hI
        subst hI
        rw [if_pos (by omega), w64 (by omega) (by omega), show ((j + 1 : Nat) : Int) - 1 = (j : Int) by omega, if_pos (by omega), if_pos (by omega), rd_at hj]
        by_cases e : l[j] < x
        · rw [if_neg (by omega), if_pos (by simp [nextI, e])]
        · rw [if_pos (by omega), if_neg (by simp [nextI]; omega)]
    by_cases a : 1 ≤ x ∧ x ≤ 4
    · cases hb : nextI p x with
      | true =>
        have e : memM own l p (x :: t) = memM own l (some x) t := by simp [memM, a, hb]
        rw [e]
        refine Ev.step (fun k => ?_) ih'
        simp only [impl_MemberOk.l0]
        rw [if_pos (by omega), if_pos (by omega), if_pos (by omega), rd_at hx, w64_succ (by omega)]
        simp only [isVlan_eq, Option.bind_some, a, and_self, decide_true, if_true]
        rw [hbefore k, if_pos hb]
      | false =>
        have e : memM own l p (x :: t) = false := by simp [memM, hb]
        rw [e]
        refine ev_end fun k => ?_
        simp only [impl_MemberOk.l0]
        rw [if_pos (by omega), if_pos (by omega), if_pos (by omega), rd_at hx, w64_succ (by omega)]
        simp only [isVlan_eq, Option.bind_some, a, and_self, decide_true, if_true]
        rw [hbefore k, if_neg (by simp [hb])]
    · have e : memM own l p (x :: t) = false := by simp [memM, a]
      rw [e]
      refine ev_end fun k => ?_
      simp only [impl_MemberOk.l0]
      rw [if_pos (by omega), if_pos (by omega), if_pos (by omega), rd_at hx]
      simp only [isVlan_eq, Option.bind_some, a, decide_false, if_false, Bool.false_eq_true]
theorem isAddr_eq (x : Int) : impl_isAddr.f x = some (decide (1 ≤ x ∧ x ≤ 9)) := by simp [impl_isAddr.f, inRange_eq]
theorem implFrameOk_eq (a b c : Int) (l : List Int) : impl_FrameOk.f a b c l = some (frameOk a b c l) := by
  simp only [impl_FrameOk.f, inRange_eq, isAddr_eq, Option.bind_some, frameOk]
  by_cases h1 : 0 ≤ a ∧ a ≤ 9 <;> by_cases h2 : 1 ≤ b ∧ b ≤ 9 <;> by_cases h3 : 0 ≤ c ∧ c ≤ 4 <;> by_cases h4 : l.length ≤ 30 <;> simp [h1, h2, h3, h4] <;> omega
theorem clone_eq (l : List Int) (h : l.length ≤ 4194304) : slices_Clone_byte_byte.f l = some l := by
  simp only [slices_Clone_byte_byte.f, Option.bind_some, List.length_nil, List.nil_append]
  rw [if_pos (by omega)]
theorem copyFrame_eq (a b c : Int) (l : List Int) (h : l.length ≤ 4194304) : impl_copyFrame.f a b c l = some (a, b, c, l) := by
  simp [impl_copyFrame.f, clone_eq l h]
theorem implInside_ev (a : Int) (l : List Int) (x y v : Int) (ld : List Int) (hl : l.length ≤ 4194304) (hd : ld.length ≤ 4194304) : Ev (fun k => impl_Inside.f k a l x y v ld) (insideM a l x y v ld) := by
  obtain ⟨K1, h1⟩ := implMemberOk_ev a l hl
  obtain ⟨K2, h2⟩ := contains_ev l (if v = 0 then a else v) hl
  refine ⟨K1 + K2 + 1, fun k hk => ?_⟩
  obtain ⟨j, rfl⟩ : ∃ j, k = j + 1 := ⟨k - 1, by omega⟩
  have e1 := h1 (j + 1) (by omega)
  have e2 := h2 j (by omega)
  simp only [impl_Inside.f, impl_Inside.j0, e1, implFrameOk_eq, Option.bind_some, copyFrame_eq x y v ld hd, insideM]
  cases memberOk a l
  · simp
  · cases frameOk x y v ld
    · simp
    · by_cases hv : v = 0
      · simp only [if_pos hv] at e2 ⊢
        simp only [e2, Option.bind_some, if_true, Bool.true_and, Bool.not_true, Bool.false_eq_true, if_false]
        cases l.contains a <;> simp
      · simp only [if_neg hv] at e2 ⊢
        simp only [e2, Option.bind_some, if_true, Bool.true_and, Bool.not_true, Bool.false_eq_true, if_false]
        cases l.contains v <;> simp
theorem szIntS_eq (l : List Int) (n : Int) (h : l.length ≤ maxLen) (h0 : 0 ≤ n) (h1 : n ≤ 1048576) : laws_szIntS.f l n = some (if (l.length : Int) ≤ n then n - l.length else -1) := by
  unfold maxLen at h
  simp only [laws_szIntS.f]
  rw [w64 (by omega) (by omega)]
  by_cases hl : (l.length : Int) ≤ n
  · rw [if_neg (by omega), if_pos hl]
  · rw [if_pos (by omega), if_neg hl]
theorem szMember_eq (a : Int) (l : List Int) (n : Int) (h : l.length ≤ maxLen) (h0 : 0 ≤ n) (h1 : n ≤ 1048576) : laws_szMember.f a l n = some (if (l.length : Int) ≤ n then n - l.length else -1) := by
  simp only [laws_szMember.f, szIntS_eq l n h h0 h1, Option.bind_some]
  split
  · split <;> simp_all
    omega
  · simp
theorem szByteS_eq (l : List Int) (n : Int) (h : l.length ≤ maxLen) (h0 : 0 ≤ n) (h1 : n ≤ 1048576) : laws_szByteS.f l n = some (if (l.length : Int) ≤ n then n - l.length else -1) := by
  unfold maxLen at h
  simp only [laws_szByteS.f]
  rw [w64 (by omega) (by omega)]
  by_cases hl : (l.length : Int) ≤ n
  · rw [if_neg (by omega), if_pos hl]
  · rw [if_pos (by omega), if_neg hl]
theorem szFrame_eq (a b c : Int) (l : List Int) (n : Int) (h : l.length ≤ maxLen) (h0 : 0 ≤ n) (h1 : n ≤ 1048576) : laws_szFrame.f a b c l n = some (if (l.length : Int) ≤ n then n - l.length else -1) := by
  simp only [laws_szFrame.f, szByteS_eq l n h h0 h1, Option.bind_some]
  split
  · split <;> simp_all
    omega
  · simp
theorem toIntS_ev (l : List Int) (h : l.length ≤ 4194304) : Ev (fun k => laws_toIntS.f k l) l := by
  have h0 := ev_copy l (0 : Int) (fun x => x) (fun k acc i => laws_toIntS.l0 k l acc i)
    (fun acc ha => ev_end fun k => by simp only [laws_toIntS.l0]; rw [if_neg (by omega)])
    (fun i acc x r ha hi hx ih => Ev.step (fun k => by
      simp only [laws_toIntS.l0]
      rw [if_pos (by omega), if_pos (by omega), if_pos (by omega), rd_at hx, w64_succ (by omega)]
      simp) ih)
  rw [List.map_id'] at h0
  refine Ev.congr (fun k => ?_) h0
  simp only [laws_toIntS.f]
  rw [if_pos (by omega), if_pos (by simp; omega)]
  simp
theorem toMember_ev (a : Int) (l : List Int) (h : l.length ≤ 4194304) : Ev (fun k => laws_toMember.f k a l) (a, l) := by
  simp only [laws_toMember.f]
  exact Ev.bind (toIntS_ev l h) (ev_some fun _ => rfl)
theorem toByteS_ev (l : List Int) (h : l.length ≤ 4194304) : Ev (fun k => laws_toByteS.f k l) l := by
  have h0 := ev_copy l (0 : Int) (fun x => x) (fun k acc i => laws_toByteS.l0 k l acc i)
    (fun acc ha => ev_end fun k => by simp only [laws_toByteS.l0]; rw [if_neg (by omega)])
    (fun i acc x r ha hi hx ih => Ev.step (fun k => by
      simp only [laws_toByteS.l0]
      rw [if_pos (by omega), if_pos (by omega), if_pos (by omega), rd_at hx, w64_succ (by omega)]
      simp) ih)
  rw [List.map_id'] at h0
  refine Ev.congr (fun k => ?_) h0
  simp only [laws_toByteS.f]
  rw [if_pos (by omega), if_pos (by simp; omega)]
  simp
theorem toFrame_ev (a b c : Int) (l : List Int) (h : l.length ≤ 4194304) : Ev (fun k => laws_toFrame.f k a b c l) (a, b, c, l) := by
  simp only [laws_toFrame.f]
  exact Ev.bind (toByteS_ev l h) (ev_some fun _ => rfl)
theorem eqIntS_ev (l : List Int) (h : l.length ≤ 4194304) : Ev (fun k => laws_eqIntS.f k l l) true := by
  have h0 := ev_list0 l (fun k i => laws_eqIntS.l0 k l l i) (fun _ => true)
    (ev_end fun k => by simp only [laws_eqIntS.l0]; rw [if_neg (by omega)])
    (fun i x t hi _ hx ih => Ev.step (fun k => by
      simp only [laws_eqIntS.l0]
      rw [if_pos (by omega), if_pos (by omega), if_pos (by omega), w64_succ (by omega)]
      try simp) ih)
  refine Ev.congr (fun k => ?_) h0
  simp [laws_eqIntS.f]
theorem eqMember_ev (a : Int) (l : List Int) (h : l.length ≤ 4194304) : Ev (fun k => laws_eqMember.f k a l a l) true := by
  simp only [laws_eqMember.f, if_true]
  exact Ev.bind (eqIntS_ev l h) (ev_some fun _ => rfl)
theorem eqByteS_ev (l : List Int) (h : l.length ≤ 4194304) : Ev (fun k => laws_eqByteS.f k l l) true := by
  have h0 := ev_list0 l (fun k i => laws_eqByteS.l0 k l l i) (fun _ => true)
    (ev_end fun k => by simp only [laws_eqByteS.l0]; rw [if_neg (by omega)])
    (fun i x t hi _ hx ih => Ev.step (fun k => by
      simp only [laws_eqByteS.l0]
      rw [if_pos (by omega), if_pos (by omega), if_pos (by omega), w64_succ (by omega)]
      try simp) ih)
  refine Ev.congr (fun k => ?_) h0
  simp [laws_eqByteS.f]
theorem eqFrame_ev (a b c : Int) (l : List Int) (h : l.length ≤ 4194304) : Ev (fun k => laws_eqFrame.f k a b c l a b c l) true := by
  simp only [laws_eqFrame.f, if_true]
  exact Ev.bind (eqByteS_ev l h) (ev_some fun _ => rfl)
/-- What is written into numbers one by one, counting up. -/
def upsI (m : Int) (l : List Int) : List Int := upsG (fun _ n => n) (fun _ => 1) m l
theorem upsI_length (l : List Int) (m : Int) : (upsI m l).length = l.length := upsG_length _ _ _ _
theorem markIntS_ev (l : List Int) (m : Int) (h : l.length ≤ 4194304) (h0 : 0 ≤ m) (h1 : m ≤ 1125899906842624) : Ev (fun k => laws_markIntS.f k l m) (m + l.length, upsI m l) := by
  have hh := ev_mark l (fun _ n => n) (fun _ => 1) (fun _ _ => by decide) (fun k acc n i => laws_markIntS.l0 k acc n i)
    (fun acc n ha => ev_end fun k => by simp only [laws_markIntS.l0]; rw [if_neg (by omega)])
    (fun i acc n x r ha hi _ hx hn hb ih => Ev.step (fun k => by
      simp only [laws_markIntS.l0]
      rw [if_pos (by omega), if_pos (by omega), w64_succ (by omega), w64 (by omega) (by omega)]
      simp) ih) m h0 (by rw [costs_const]; omega)
  rw [costs_const] at hh
  simpa [laws_markIntS.f, upsI] using hh
theorem markMember_ev (a : Int) (l : List Int) (m : Int) (h : l.length ≤ 4194304) (h0 : 0 ≤ m) (h1 : m ≤ 1125899906842624) : Ev (fun k => laws_markMember.f k a l m) (m + l.length, upsI m l) := by
  simp only [laws_markMember.f]
  exact Ev.bind (markIntS_ev l m h h0 h1) (ev_some fun _ => rfl)
/-- What is written into bytes one by one, counting up. -/
def ups (m : Int) : List Int → List Int
  | [] => []
  | _ :: t => (m % 256) :: ups (m + 1) t
theorem ups_length : ∀ (l : List Int) (m : Int), (ups m l).length = l.length := by
  intro l
  induction l with
  | nil => intro m; rfl
  | cons x t ih => intro m; simp [ups, ih]
def setUps (acc : List Int) (i : Nat) (m : Int) : List Int → List Int
  | [] => acc
  | _ :: t => setUps (acc.set i (m % 256)) (i + 1) (m + 1) t
theorem setUps_eq : ∀ (t acc : List Int) (i : Nat) (m : Int), i + t.length = acc.length → setUps acc i m t = acc.take i ++ ups m t := by
  intro t
  induction t with
  | nil => intro acc i m h; simp at h; simp [setUps, ups, h]
  | cons x t ih =>
    intro acc i m h
    simp at h
    rw [setUps, ih _ _ _ (by simp; omega)]
    have e : (acc.set i (m % 256)).take (i + 1) = acc.take i ++ [m % 256] := by
      rw [List.take_succ_eq_append_getElem (by simp; omega)]
      simp [List.take_set_of_le]
    rw [e]
    simp [ups]
theorem markByteS_ev (l : List Int) (m : Int) (h : l.length ≤ 4194304) (h0 : 0 ≤ m) (h1 : m ≤ 1152921504606846976) : Ev (fun k => laws_markByteS.f k l m) (m + l.length, ups m l) := by
  have hh := ev_list l (fun k (s : Nat × Int × List Int) i => laws_markByteS.l0 k s.2.2 s.2.1 i) (fun s t => (s.2.1 + t.length, setUps s.2.2 s.1 s.2.1 t)) (fun i s => s.1 = i ∧ s.2.1 = m + i ∧ s.2.2.length = l.length)
    (fun s hI => by
      obtain ⟨j, n, acc⟩ := s
      obtain ⟨h2, h3, h4⟩ := hI
      dsimp only at h2 h3 h4 ⊢
      refine ev_end fun k => ?_
      simp only [laws_markByteS.l0]
      rw [if_neg (by omega)]
      simp [setUps])
    (fun i s x t hI hi _ hx ih => by
      obtain ⟨j, n, acc⟩ := s
      obtain ⟨h2, h3, h4⟩ := hI
      dsimp only at h2 h3 h4 ih ⊢
      subst h2
      have := ih (j + 1, n + 1, acc.set j (n % 256)) ⟨rfl, by dsimp only; omega, by simp [h4]⟩
      have e : (n + ((x :: t).length : Nat), setUps acc j n (x :: t)) = (n + 1 + (t.length : Nat), setUps (acc.set j (n % 256)) (j + 1) (n + 1) t) := by
        simp only [setUps, List.length_cons]
        congr 1
        omega
      rw [e]
      refine Ev.step (fun k => ?_) this
      simp only [laws_markByteS.l0]
      rw [if_pos (by omega), if_pos (by omega), w64_succ (by omega), w64 (by omega) (by omega)]
      simp)
    (0, m, l) ⟨rfl, by simp, rfl⟩
  dsimp only at hh
  rw [setUps_eq _ _ _ _ (by simp)] at hh
  simpa [laws_markByteS.f] using hh
theorem heldByteS_ev (l : List Int) (m : Int) (h : l.length ≤ 4194304) (h0 : 0 ≤ m) (h1 : m ≤ 1152921504606846976) : Ev (fun k => laws_heldByteS.f k (ups m l) m) (m + l.length) := by
  have key : ∀ (d i : Nat) (n : Int) (acc : List Int), i + d = acc.length → acc.length = l.length → n = m + i → (∃ t : List Int, acc.drop i = ups n t ∧ t.length = d) → Ev (fun k => laws_heldByteS.l0 k acc n (i : Int)) (n + d) := by
    intro d
    induction d with
    | zero =>
      intro i n acc hi ha hn _
      refine ev_end fun k => ?_
      simp only [laws_heldByteS.l0]
      rw [if_neg (by omega)]
      simp
    | succ d ih =>
      intro i n acc hi ha hn ht
      obtain ⟨t, ht, htl⟩ := ht
      obtain ⟨x, t, rfl⟩ : ∃ x t', t = x :: t' := by
        cases t with
        | nil => simp at htl
        | cons x t => exact ⟨x, t, rfl⟩
      simp at htl
      have hlt : i < acc.length := by omega
      rw [List.drop_eq_getElem_cons hlt, ups] at ht
      injection ht with e1 e2
      have := ih (i + 1) (n + 1) acc (by omega) ha (by omega) ⟨t, e2, htl⟩
      have e : n + ((d + 1 : Nat) : Int) = n + 1 + (d : Int) := by omega
      rw [e]
      refine Ev.step (fun k => ?_) this
      simp only [laws_heldByteS.l0]
      rw [if_pos (by omega), if_pos (by omega), rd_at (List.getElem?_eq_getElem hlt), if_pos e1, w64_succ (by omega), w64 (by omega) (by omega)]
  have := key l.length 0 m (ups m l) (by simp [ups_length]) (ups_length _ _) (by simp) ⟨l, by simp, rfl⟩
  simpa [laws_heldByteS.f] using this
theorem markFrame_ev (a b c : Int) (l : List Int) (m : Int) (h : l.length ≤ 4194304) (h0 : 0 ≤ m) (h1 : m ≤ 1125899906842624) : Ev (fun k => laws_markFrame.f k a b c l m) (m + l.length, ups m l) := by
  simp only [laws_markFrame.f]
  exact Ev.bind (markByteS_ev l m h h0 (by omega)) (ev_some fun _ => rfl)
theorem heldFrame_ev (a b c : Int) (l : List Int) (m : Int) (h : l.length ≤ 4194304) (h0 : 0 ≤ m) (h1 : m ≤ 1125899906842624) : Ev (fun k => laws_heldFrame.f k a b c (ups m l) m) (m + l.length) := by
  simp only [laws_heldFrame.f]
  exact Ev.bind (heldByteS_ev l m h h0 (by omega)) (ev_some fun _ => by rw [if_neg (by omega)])
theorem FnExactInside : FnExactInsidePure := by
  intro a l x y v ld _ hl _ _ _ hd
  have hsz := szMember_eq a l 1048576 hl.1 (by omega) (by omega)
  by_cases hbig : ¬ ((l.length : Int) ≤ 1048576)
  · exact ⟨0, by simp [laws_FnExactInside.f, hsz, hbig]⟩
  have hbig : (l.length : Int) ≤ 1048576 := by omega
  have hsz' := szFrame_eq x y v ld (1048576 - l.length) hd.1 (by omega) (by omega)
  have e : ¬ ((1048576 : Int) - l.length < 0) := by omega
  by_cases hbig' : ¬ ((ld.length : Int) ≤ 1048576 - l.length)
  · exact ⟨0, by simp [laws_FnExactInside.f, hsz, hbig, hsz', hbig', e]⟩
  have hbig' : (ld.length : Int) ≤ 1048576 - l.length := by omega
  have e' : ¬ ((1048576 : Int) - l.length - ld.length < 0) := by omega
  obtain ⟨K1, h1⟩ := toMember_ev a l (by omega)
  obtain ⟨K2, h2⟩ := toFrame_ev x y v ld (by omega)
  obtain ⟨K3, h3⟩ := specInside_ev a l x y v ld (by omega) (by omega)
  obtain ⟨K4, h4⟩ := implInside_ev a l x y v ld (by omega) (by omega)
  obtain ⟨K5, h5⟩ := eqMember_ev a l (by omega)
  obtain ⟨K6, h6⟩ := eqFrame_ev x y v ld (by omega)
  obtain ⟨K7, h7⟩ := markMember_ev a l 1 (by omega) (by omega) (by omega)
  obtain ⟨K8, h8⟩ := markFrame_ev x y v ld (1 + l.length) (by omega) (by omega) (by omega)
  have hlen := insideM_length a l x y v ld 4194304 (by omega)
  generalize hr : insideM a l x y v ld = r at h3 h4 hlen
  obtain ⟨r0, r1, r2, r3, r4⟩ := r
  dsimp only at hlen
  obtain ⟨K9, h9⟩ := eqFrame_ev r0 r1 r2 r3 hlen
  obtain ⟨K10, h10⟩ := markFrame_ev r0 r1 r2 r3 1 hlen (by omega) (by omega)
  obtain ⟨K11, h11⟩ := heldFrame_ev r0 r1 r2 r3 1 hlen (by omega) (by omega)
  have e1 : ¬ ((1 : Int) + l.length + ld.length < 0) := by omega
  have e2 : ¬ ((1 : Int) + r3.length < 0) := by omega
  obtain ⟨S, hS⟩ : ∃ S, S = K1 + K2 + K3 + K4 + K5 + K6 + K7 + K8 + K9 + K10 + K11 := ⟨_, rfl⟩
  refine ⟨S + 3, ?_⟩
  have h1_0 := h1 S (by omega)
  have h1_1 := h1 (S + 1) (by omega)
  have h1_2 := h1 (S + 2) (by omega)
  have h1_3 := h1 (S + 3) (by omega)
  have h2_0 := h2 S (by omega)
  have h2_1 := h2 (S + 1) (by omega)
  have h2_2 := h2 (S + 2) (by omega)
  have h2_3 := h2 (S + 3) (by omega)
  have h3_0 := h3 S (by omega)
  have h3_1 := h3 (S + 1) (by omega)
  have h3_2 := h3 (S + 2) (by omega)
  have h3_3 := h3 (S + 3) (by omega)
  have h4_0 := h4 S (by omega)
  have h4_1 := h4 (S + 1) (by omega)
  have h4_2 := h4 (S + 2) (by omega)
  have h4_3 := h4 (S + 3) (by omega)
  have h5_0 := h5 S (by omega)
  have h5_1 := h5 (S + 1) (by omega)
  have h5_2 := h5 (S + 2) (by omega)
  have h5_3 := h5 (S + 3) (by omega)
  have h6_0 := h6 S (by omega)
  have h6_1 := h6 (S + 1) (by omega)
  have h6_2 := h6 (S + 2) (by omega)
  have h6_3 := h6 (S + 3) (by omega)
  have h7_0 := h7 S (by omega)
  have h7_1 := h7 (S + 1) (by omega)
  have h7_2 := h7 (S + 2) (by omega)
  have h7_3 := h7 (S + 3) (by omega)
  have h8_0 := h8 S (by omega)
  have h8_1 := h8 (S + 1) (by omega)
  have h8_2 := h8 (S + 2) (by omega)
  have h8_3 := h8 (S + 3) (by omega)
  have h9_0 := h9 S (by omega)
  have h9_1 := h9 (S + 1) (by omega)
  have h9_2 := h9 (S + 2) (by omega)
  have h9_3 := h9 (S + 3) (by omega)
  have h10_0 := h10 S (by omega)
  have h10_1 := h10 (S + 1) (by omega)
  have h10_2 := h10 (S + 2) (by omega)
  have h10_3 := h10 (S + 3) (by omega)
  have h11_0 := h11 S (by omega)
  have h11_1 := h11 (S + 1) (by omega)
  have h11_2 := h11 (S + 2) (by omega)
  have h11_3 := h11 (S + 3) (by omega)
  clear h1 h2 h3 h4 h5 h6 h7 h8 h9 h10 h11
  simp only [laws_FnExactInside.f, laws_FnExactInside.j0, laws_FnExactInside.j1, laws_FnExactInside.j2, h1_0, h1_1, h1_2, h1_3, h2_0, h2_1, h2_2, h2_3, h3_0, h3_1, h3_2, h3_3, h4_0, h4_1, h4_2, h4_3, h5_0, h5_1, h5_2, h5_3, h6_0, h6_1, h6_2, h6_3, h7_0, h7_1, h7_2, h7_3, h8_0, h8_1, h8_2, h8_3, h9_0, h9_1, h9_2, h9_3, h10_0, h10_1, h10_2, h10_3, h11_0, h11_1, h11_2, h11_3, hsz, hsz', hbig, hbig', e, e', e1, e2, Option.bind_some, if_true, if_false, bne_self_eq_false, Bool.false_eq_true]
end Go.Proofs.Ytjmkbmpfknhcdaa.Pure

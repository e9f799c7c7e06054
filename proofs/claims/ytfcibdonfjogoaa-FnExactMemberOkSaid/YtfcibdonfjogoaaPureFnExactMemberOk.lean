/- The statement of laws.FnExactMemberOk over numbers and lists alone: at every input it answers true. No condition but that the numbers are those of their kinds and that no slice is longer than a Go slice can be. -/
import Derived.Test.YtfcibdonfjogoaaPFnExactMemberOkx2
import Derived.Test.YtfcibdonfjogoaaBase
set_option linter.unusedVariables false
set_option linter.unusedSimpArgs false
namespace Go.Proofs.Ytfcibdonfjogoaa.Pure
open Go.RowKit Go.Proofs.Ytfcibdonfjogoaa.PFnExactMemberOk Go.Proofs.Ytfcibdonfjogoaa.Base Go.Proofs.YtfcibdonfjogoaaW.PrintWords Go.Proofs.YtfcibdonfjogoaaW.PrintLast Go.Proofs.YtfcibdonfjogoaaW.PrintMore
def FnExactMemberOkPure : Prop := ∀ (a0_0 : Int) (l0_1 : List (Int)), ((Lit.int .i64 a0_0).wf = true) → (l0_1.length ≤ maxLen ∧ ∀ x ∈ l0_1, (Lit.int .i64 x).wf = true) → ∃ k, laws_FnExactMemberOk.f k a0_0 l0_1 = some true
def nextI (p : Option Int) (x : Int) : Bool := match p with | none => true | some y => decide (y < x)
def memM (own : Int) (l : List Int) : Option Int → List Int → Bool
  | _, [] => decide (1 ≤ own ∧ own ≤ 4) && l.contains own
  | p, x :: t => decide (1 ≤ x ∧ x ≤ 4) && (nextI p x && memM own l (some x) t)
def memberOk (own : Int) (l : List Int) : Bool := memM own l none l
theorem l4Has_ev (l : List Int) (x : Int) (h : l.length ≤ 4194304) : Ev (fun k => spec_l4Has.f k l x) (l.contains x) := by
  refine ev_list0 l (fun k i => spec_l4Has.l0 k l x i) (fun t => t.contains x)
    (ev_end fun k => by simp only [spec_l4Has.l0]; rw [if_neg (by omega)]; rfl)
    (fun i y t hi _ hx ih => ?_)
  by_cases e : y = x
  · refine ev_end fun k => ?_
    simp only [spec_l4Has.l0]
    rw [if_pos (by omega), if_pos (by omega), rd_at hx, if_pos e]
    simp [e]
  · have e' : (y :: t).contains x = t.contains x := by
      have : ¬ x = y := fun h => e h.symm
      simp [List.contains_cons, this]
    rw [e']
    refine Ev.step (fun k => ?_) ih
    simp only [spec_l4Has.l0]
    rw [if_pos (by omega), if_pos (by omega), rd_at hx, if_neg e, w64_succ (by omega)]
theorem l1In_eq (x lo hi : Int) : spec_l1In.f x lo hi = some (decide (lo ≤ x ∧ x ≤ hi)) := by
  simp only [spec_l1In.f]
  by_cases h : lo ≤ x
  · rw [if_pos h]; simp [h]
  · rw [if_neg h]; simp [h]
theorem specMemberOk_ev (own : Int) (l : List Int) (h : l.length ≤ 4194304) : Ev (fun k => spec_MemberOk.f k own l) (memberOk own l) := by
  refine ev_list l (fun k (_ : Option Int) i => spec_MemberOk.l0 k i own l) (fun p t => memM own l p t) (fun i p => p = if i = 0 then none else l[i - 1]?) ?_ ?_ none rfl
  · intro p _
    refine Ev.step (f := fun k => ((spec_l1In.f own 1 4).bind fun t109 => (if t109 = true then ((spec_l4Has.f k l own).bind fun t110 => (some t110)) else (some false)))) (fun k => ?_) ?_
    · simp only [spec_MemberOk.l0]
      rw [if_neg (by omega)]
    · simp only [l1In_eq, Option.bind_some, memM]
      by_cases a : 1 ≤ own ∧ own ≤ 4
      · simp only [a, and_self, decide_true, if_true, Bool.true_and]
        exact Ev.bind (l4Has_ev l own h) (ev_some fun _ => rfl)
      · refine ev_some fun k => ?_
        simp [a]
  · intro i p x t hI hi _ hx ih
    have ih' := ih (some x) (by simp [hx])
    have hbefore : ∀ k, (if (i : Int) > 0 then (if 0 ≤ (wrap64 ((i : Int) - 1)) then (if (wrap64 ((i : Int) - 1)) < (l.length : Int) then (if (rd l (wrap64 ((i : Int) - 1))) ≥ x then (some false) else (spec_MemberOk.l0 k ((i + 1 : Nat) : Int) own l)) else (none)) else (none)) else (spec_MemberOk.l0 k ((i + 1 : Nat) : Int) own l)) = if nextI p x = true then spec_MemberOk.l0 k ((i + 1 : Nat) : Int) own l else some false := by
      intro k
      cases i with
      | zero => simp at hI; subst hI; simp [nextI]
      | succ j =>
        simp at hI
        have hj : l[j]? = some l[j] := List.getElem?_eq_getElem (by omega)
        rw [hj] at hI
        subst hI
        rw [if_pos (by omega), w64 (by omega) (by omega), show ((j + 1 : Nat) : Int) - 1 = (j : Int) by omega, if_pos (by omega), if_pos (by omega), rd_at hj]
        by_cases e : l[j] < x
        · rw [if_neg (by omega), if_pos (by simp [nextI, e])]
        · rw [if_pos (by omega), if_neg (by simp [nextI]; omega)]
    by_cases a : 1 ≤ x ∧ x ≤ 4
    · cases hb : nextI p x with
      | true =>
        have e : memM own l p (x :: t) = memM own l (some x) t := by simp [memM, a, hb]
        rw [e]
        refine Ev.step (fun k => ?_) ih'
        simp only [spec_MemberOk.l0]
        rw [if_pos (by omega), if_pos (by omega), rd_at hx, w64_succ (by omega)]
        simp only [l1In_eq, Option.bind_some, a, and_self, decide_true, if_true]
        rw [hbefore k, if_pos hb]
      | false =>
        have e : memM own l p (x :: t) = false := by simp [memM, hb]
        rw [e]
        refine ev_end fun k => ?_
        simp only [spec_MemberOk.l0]
        rw [if_pos (by omega), if_pos (by omega), rd_at hx, w64_succ (by omega)]
        simp only [l1In_eq, Option.bind_some, a, and_self, decide_true, if_true]
        rw [hbefore k, if_neg (by simp [hb])]
    · have e : memM own l p (x :: t) = false := by simp [memM, a]
      rw [e]
      refine ev_end fun k => ?_
      simp only [spec_MemberOk.l0]
      rw [if_pos (by omega), if_pos (by omega), rd_at hx]
      simp only [l1In_eq, Option.bind_some, a, decide_false, if_false, Bool.false_eq_true]
def idxM (v : Int) : Int → List Int → Int
  | _, [] => -1
  | i, x :: t => if v = x then i else idxM v (i + 1) t
theorem idxM_iff (v : Int) : ∀ (l : List Int) (i : Int), 0 ≤ i → (0 ≤ idxM v i l ↔ v ∈ l) := by
  intro l
  induction l with
  | nil => intro i _; simp [idxM]
  | cons x t ih =>
    intro i hi
    simp only [idxM]
    by_cases e : v = x
    · simp [e, hi]
    · rw [if_neg e, ih (i + 1) (by omega)]
      simp [e]
theorem index_ev (l : List Int) (v : Int) (h : l.length ≤ 4194304) : Ev (fun k => slices_Index_int_int.f k l v) (idxM v 0 l) := by
  refine ev_list l (fun k (s : Int) i => slices_Index_int_int.l0 k l v (l.length : Int) i) (fun s t => idxM v s t) (fun i s => s = i) ?_ ?_ 0 rfl
  · intro s _
    refine ev_end fun k => ?_
    simp only [slices_Index_int_int.l0]
    rw [if_neg (by omega)]
    rfl
  · intro i s x t hI hi _ hx ih
    subst hI
    by_cases e : v = x
    · refine ev_end fun k => ?_
      simp only [slices_Index_int_int.l0]
      rw [if_pos (by omega), if_pos (by omega), if_pos (by omega), rd_at hx, if_pos e, idxM, if_pos e]
    · have := ih ((i : Int) + 1) (by omega)
      rw [idxM, if_neg e]
      refine Ev.step (fun k => ?_) this
      simp only [slices_Index_int_int.l0]
      rw [if_pos (by omega), if_pos (by omega), if_pos (by omega), rd_at hx, if_neg e, w64_succ (by omega)]
theorem contains_ev (l : List Int) (v : Int) (h : l.length ≤ 4194304) : Ev (fun k => slices_Contains_int_int.f k l v) (l.contains v) := by
  simp only [slices_Contains_int_int.f]
  refine Ev.bind (index_ev l v h) (ev_some fun _ => ?_)
  congr 1
  rw [Bool.eq_iff_iff]
  simp [idxM_iff v l 0 (by omega)]
theorem inRange_eq (x lo hi : Int) : impl_inRange.f x lo hi = some (decide (lo ≤ x ∧ x ≤ hi)) := by
  simp only [impl_inRange.f]
  by_cases h : lo ≤ x
  · rw [if_pos h]; simp [h]
  · rw [if_neg h]; simp [h]
theorem isVlan_eq (x : Int) : impl_isVlan.f x = some (decide (1 ≤ x ∧ x ≤ 4)) := by simp [impl_isVlan.f, inRange_eq]
theorem implMemberOk_ev (own : Int) (l : List Int) (h : l.length ≤ 4194304) : Ev (fun k => impl_MemberOk.f k own l) (memberOk own l) := by
  refine ev_list l (fun k (_ : Option Int) i => impl_MemberOk.l0 k l (l.length : Int) i own l) (fun p t => memM own l p t) (fun i p => p = if i = 0 then none else l[i - 1]?) ?_ ?_ none rfl
  · intro p _
    refine Ev.step (f := fun k => ((impl_isVlan.f own).bind fun t109 => (if t109 = true then ((slices_Contains_int_int.f k l own).bind fun t110 => (some t110)) else (some false)))) (fun k => ?_) ?_
    · simp only [impl_MemberOk.l0]
      rw [if_neg (by omega)]
    · simp only [isVlan_eq, Option.bind_some, memM]
      by_cases a : 1 ≤ own ∧ own ≤ 4
      · simp only [a, and_self, decide_true, if_true, Bool.true_and]
        exact Ev.bind (contains_ev l own h) (ev_some fun _ => rfl)
      · refine ev_some fun k => ?_
        simp [a]
  · intro i p x t hI hi _ hx ih
    have ih' := ih (some x) (by simp [hx])
    have hbefore : ∀ k, (if (i : Int) > 0 then (if 0 ≤ (wrap64 ((i : Int) - 1)) then (if (wrap64 ((i : Int) - 1)) < (l.length : Int) then (if x ≤ (rd l (wrap64 ((i : Int) - 1))) then (some false) else (impl_MemberOk.l0 k l (l.length : Int) ((i + 1 : Nat) : Int) own l)) else (none)) else (none)) else (impl_MemberOk.l0 k l (l.length : Int) ((i + 1 : Nat) : Int) own l)) = if nextI p x = true then impl_MemberOk.l0 k l (l.length : Int) ((i + 1 : Nat) : Int) own l else some false := by
      intro k
      cases i with
      | zero => simp at hI; subst hI; simp [nextI]
      | succ j =>
        simp at hI
        have hj : l[j]? = some l[j] := List.getElem?_eq_getElem (by omega)
        rw [hj] at hI
        subst hI
        rw [if_pos (by omega), w64 (by omega) (by omega), show ((j + 1 : Nat) : Int) - 1 = (j : Int) by omega, if_pos (by omega), if_pos (by omega), rd_at hj]
        by_cases e : l[j] < x
        · rw [if_neg (by omega), if_pos (by simp [nextI, e])]
        · rw [if_pos (by omega), if_neg (by simp [nextI]; omega)]
    by_cases a : 1 ≤ x ∧ x ≤ 4
    · cases hb : nextI p x with
      | true =>
        have e : memM own l p (x :: t) = memM own l (some x) t := by simp [memM, a, hb]
        rw [e]
        refine Ev.step (fun k => ?_) ih'
        simp only [impl_MemberOk.l0]
        rw [if_pos (by omega), if_pos (by omega), if_pos (by omega), rd_at hx, w64_succ (by omega)]
        simp only [isVlan_eq, Option.bind_some, a, and_self, decide_true, if_true]
        rw [hbefore k, if_pos hb]
      | false =>
        have e : memM own l p (x :: t) = false := by simp [memM, hb]
        rw [e]
        refine ev_end fun k => ?_
        simp only [impl_MemberOk.l0]
        rw [if_pos (by omega), if_pos (by omega), if_pos (by omega), rd_at hx, w64_succ (by omega)]
        simp only [isVlan_eq, Option.bind_some, a, and_self, decide_true, if_true]
        rw [hbefore k, if_neg (by simp [hb])]
    · have e : memM own l p (x :: t) = false := by simp [memM, a]
      rw [e]
      refine ev_end fun k => ?_
      simp only [impl_MemberOk.l0]
      rw [if_pos (by omega), if_pos (by omega), if_pos (by omega), rd_at hx]
      simp only [isVlan_eq, Option.bind_some, a, decide_false, if_false, Bool.false_eq_true]
theorem szIntS_eq (l : List Int) (n : Int) (h : l.length ≤ maxLen) (h0 : 0 ≤ n) (h1 : n ≤ 1048576) : laws_szIntS.f l n = some (if (l.length : Int) ≤ n then n - l.length else -1) := by
  unfold maxLen at h
  simp only [laws_szIntS.f]
  rw [w64 (by omega) (by omega)]
  by_cases hl : (l.length : Int) ≤ n
  · rw [if_neg (by omega), if_pos hl]
  · rw [if_pos (by omega), if_neg hl]
theorem szMember_eq (a : Int) (l : List Int) (n : Int) (h : l.length ≤ maxLen) (h0 : 0 ≤ n) (h1 : n ≤ 1048576) : laws_szMember.f a l n = some (if (l.length : Int) ≤ n then n - l.length else -1) := by
  simp only [laws_szMember.f, szIntS_eq l n h h0 h1, Option.bind_some]
  split
  · split <;> simp_all
    omega
  · simp
theorem toIntS_ev (l : List Int) (h : l.length ≤ 4194304) : Ev (fun k => laws_toIntS.f k l) l := by
  have h0 := ev_copy l (0 : Int) (fun x => x) (fun k acc i => laws_toIntS.l0 k l acc i)
    (fun acc ha => ev_end fun k => by simp only [laws_toIntS.l0]; rw [if_neg (by omega)])
    (fun i acc x r ha hi hx ih => Ev.step (fun k => by
      simp only [laws_toIntS.l0]
      rw [if_pos (by omega), if_pos (by omega), if_pos (by omega), rd_at hx, w64_succ (by omega)]
      simp) ih)
  rw [List.map_id'] at h0
  refine Ev.congr (fun k => ?_) h0
  simp only [laws_toIntS.f]
  rw [if_pos (by omega), if_pos (by simp; omega)]
  simp
theorem toMember_ev (a : Int) (l : List Int) (h : l.length ≤ 4194304) : Ev (fun k => laws_toMember.f k a l) (a, l) := by
  simp only [laws_toMember.f]
  exact Ev.bind (toIntS_ev l h) (ev_some fun _ => rfl)
theorem eqIntS_ev (l : List Int) (h : l.length ≤ 4194304) : Ev (fun k => laws_eqIntS.f k l l) true := by
  have h0 := ev_list0 l (fun k i => laws_eqIntS.l0 k l l i) (fun _ => true)
    (ev_end fun k => by simp only [laws_eqIntS.l0]; rw [if_neg (by omega)])
    (fun i x t hi _ hx ih => Ev.step (fun k => by
      simp only [laws_eqIntS.l0]
      rw [if_pos (by omega), if_pos (by omega), if_pos (by omega), w64_succ (by omega)]
      try simp) ih)
  refine Ev.congr (fun k => ?_) h0
  simp [laws_eqIntS.f]
theorem eqMember_ev (a : Int) (l : List Int) (h : l.length ≤ 4194304) : Ev (fun k => laws_eqMember.f k a l a l) true := by
  simp only [laws_eqMember.f, if_true]
  exact Ev.bind (eqIntS_ev l h) (ev_some fun _ => rfl)
theorem FnExactMemberOk : FnExactMemberOkPure := by
  intro a l _ hl
  have hsz := szMember_eq a l 1048576 hl.1 (by omega) (by omega)
  by_cases hbig : ¬ ((l.length : Int) ≤ 1048576)
  · exact ⟨0, by simp [laws_FnExactMemberOk.f, hsz, hbig]⟩
  have hbig : (l.length : Int) ≤ 1048576 := by omega
  obtain ⟨K1, h1⟩ := toMember_ev a l (by omega)
  obtain ⟨K2, h2⟩ := specMemberOk_ev a l (by omega)
  obtain ⟨K3, h3⟩ := implMemberOk_ev a l (by omega)
  obtain ⟨K4, h4⟩ := eqMember_ev a l (by omega)
  refine ⟨K1 + K2 + K3 + K4, ?_⟩
  have e : ¬ ((1048576 : Int) - l.length < 0) := by omega
  simp (disch := omega) [laws_FnExactMemberOk.f, h1, h2, h3, h4, hsz, hbig, e]
end Go.Proofs.Ytfcibdonfjogoaa.Pure

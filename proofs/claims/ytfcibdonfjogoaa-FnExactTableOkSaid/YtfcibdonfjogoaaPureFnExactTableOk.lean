/- The statement of laws.FnExactTableOk over numbers and lists alone: at every input it answers true. No condition but that the numbers are those of their kinds and that no slice is longer than a Go slice can be. -/
import Derived.Test.YtfcibdonfjogoaaPFnExactTableOkx5
import Derived.Test.YtfcibdonfjogoaaBase
set_option linter.unusedVariables false
set_option linter.unusedSimpArgs false
namespace Go.Proofs.Ytfcibdonfjogoaa.Pure
open Go.RowKit Go.Proofs.Ytfcibdonfjogoaa.PFnExactTableOk Go.Proofs.Ytfcibdonfjogoaa.Base Go.Proofs.YtfcibdonfjogoaaW.PrintWords Go.Proofs.YtfcibdonfjogoaaW.PrintLast Go.Proofs.YtfcibdonfjogoaaW.PrintMore
def FnExactTableOkPure : Prop := ∀ (l0 : List (S101)), (l0.length ≤ maxLen ∧ ∀ x ∈ l0, ((Lit.int .i64 x.f0).wf = true) ∧ ((Lit.int .i64 x.f1).wf = true) ∧ ((Lit.int .i64 x.f2).wf = true) ∧ ((Lit.int .i64 x.f3).wf = true)) → ∃ k, laws_FnExactTableOk.f k l0 = some true
abbrev HA := S101
abbrev HB := S70
/-- The program's own of a given one. -/
def hcv (x : HA) : HB := ⟨x.f0, x.f1, x.f2, x.f3⟩
theorem rdHA {l : List HA} {i : Nat} {x : HA} (h : l[i]? = some x) : rd_T101 l (i : Int) = x := getD_at h
theorem rdHB {l : List HB} {i : Nat} {x : HB} (h : l[i]? = some x) : rd_T70 l (i : Int) = x := getD_at h
def hOk (x : HB) : Bool := decide (1 ≤ x.f0 ∧ x.f0 ≤ 9) && (decide (1 ≤ x.f1 ∧ x.f1 ≤ 4) && (decide (0 ≤ x.f2 ∧ x.f2 ≤ 3) && decide (1 ≤ x.f3 ∧ x.f3 ≤ 20)))
def hBefore (a b : HB) : Bool := decide (a.f1 < b.f1 ∨ a.f1 = b.f1 ∧ a.f0 < b.f0)
def hNext (p : Option HB) (x : HB) : Bool := match p with | none => true | some y => hBefore y x
def tabM (n : Nat) : Option HB → List HB → Bool
  | _, [] => decide (n ≤ 12)
  | p, x :: t => hOk x && (hNext p x && tabM n (some x) t)
def tableOk (l : List HB) : Bool := tabM l.length none l
theorem hOk_iff (x : HB) : hOk x = true ↔ (1 ≤ x.f0 ∧ x.f0 ≤ 9) ∧ (1 ≤ x.f1 ∧ x.f1 ≤ 4) ∧ (0 ≤ x.f2 ∧ x.f2 ≤ 3) ∧ (1 ≤ x.f3 ∧ x.f3 ≤ 20) := by simp [hOk]
theorem l3Before_eq (a b : HB) : spec_l3Before.f a.f0 a.f1 a.f2 a.f3 b.f0 b.f1 b.f2 b.f3 = some (hBefore a b) := by
  simp only [spec_l3Before.f, hBefore]
  by_cases h1 : a.f1 < b.f1
  · simp [h1]
  · by_cases h2 : a.f1 = b.f1 <;> simp [h1, h2]
theorem l1In_eq (x lo hi : Int) : spec_l1In.f x lo hi = some (decide (lo ≤ x ∧ x ≤ hi)) := by
  simp only [spec_l1In.f]
  by_cases h : lo ≤ x
  · rw [if_pos h]; simp [h]
  · rw [if_neg h]; simp [h]
theorem specTableOk_ev (l : List HB) (h : l.length ≤ 4194304) : Ev (fun k => spec_TableOk.f k l) (tableOk l) := by
  refine ev_list l (fun k (_ : Option HB) i => spec_TableOk.l0 k l i) (fun p t => tabM l.length p t) (fun i p => p = if i = 0 then none else l[i - 1]?) ?_ ?_ none rfl
  · intro p _
    refine ev_end fun k => ?_
    simp only [spec_TableOk.l0]
    rw [if_neg (by omega)]
    simp [tabM]
    omega
  · intro i p x t hI hi _ hx ih
    have ih' := ih (some x) (by simp [hx])
    have hbefore : ∀ k, (if (i : Int) > 0 then (if 0 ≤ (wrap64 ((i : Int) - 1)) then (if (wrap64 ((i : Int) - 1)) < (l.length : Int) then ((spec_l3Before.f ((rd_T70 l (wrap64 ((i : Int) - 1))).f0) ((rd_T70 l (wrap64 ((i : Int) - 1))).f1) ((rd_T70 l (wrap64 ((i : Int) - 1))).f2) ((rd_T70 l (wrap64 ((i : Int) - 1))).f3) x.f0 x.f1 x.f2 x.f3).bind fun t110 => (if t110 = true then (spec_TableOk.l0 k l ((i + 1 : Nat) : Int)) else (some false))) else (none)) else (none)) else (spec_TableOk.l0 k l ((i + 1 : Nat) : Int))) = if hNext p x = true then spec_TableOk.l0 k l ((i + 1 : Nat) : Int) else some false := by
      intro k
      cases i with
      | zero => simp at hI; subst hI; simp [hNext]
      | succ j =>
        simp at hI
        have hj : l[j]? = some l[j] := List.getElem?_eq_getElem (by omega)
        rw [hj] at hI
        subst hI
        rw [if_pos (by omega), w64 (by omega) (by omega), show ((j + 1 : Nat) : Int) - 1 = (j : Int) by omega, if_pos (by omega), if_pos (by omega), rdHB hj, l3Before_eq]
        (simp [hNext]) <;> rfl
    cases hok : hOk x with
    | true =>
      have a := (hOk_iff x).1 hok
      cases hb : hNext p x with
      | true =>
        have e : tabM l.length p (x :: t) = tabM l.length (some x) t := by simp [tabM, hok, hb]
        rw [e]
        refine Ev.step (fun k => ?_) ih'
        simp only [spec_TableOk.l0]
        rw [if_pos (by omega), if_pos (by omega), rdHB hx, w64_succ (by omega)]
        simp only [l1In_eq, Option.bind_some, a.1, a.2.1, a.2.2.1, a.2.2.2, and_self, decide_true, if_true]
        rw [hbefore k, if_pos hb]
      | false =>
        have e : tabM l.length p (x :: t) = false := by simp [tabM, hb]
        rw [e]
        refine ev_end fun k => ?_
        simp only [spec_TableOk.l0]
        rw [if_pos (by omega), if_pos (by omega), rdHB hx, w64_succ (by omega)]
        simp only [l1In_eq, Option.bind_some, a.1, a.2.1, a.2.2.1, a.2.2.2, and_self, decide_true, if_true]
        rw [hbefore k, if_neg (by simp [hb])]
    | false =>
      have e : tabM l.length p (x :: t) = false := by simp [tabM, hok]
      rw [e]
      refine ev_end fun k => ?_
      simp only [spec_TableOk.l0]
      rw [if_pos (by omega), if_pos (by omega), rdHB hx]
      simp only [hOk] at hok
      by_cases a1 : 1 ≤ x.f0 ∧ x.f0 ≤ 9 <;> by_cases a2 : 1 ≤ x.f1 ∧ x.f1 ≤ 4 <;> by_cases a3 : 0 ≤ x.f2 ∧ x.f2 ≤ 3 <;> by_cases a4 : 1 ≤ x.f3 ∧ x.f3 ≤ 20 <;> simp only [l1In_eq, Option.bind_some, a1, a2, a3, a4, and_self, decide_true, decide_false, if_true, if_false, Bool.false_eq_true, Bool.and_true, Bool.and_false, Bool.true_and, Bool.false_and, Bool.true_eq_false] at hok ⊢
theorem ahead_eq (a b : HB) : impl_ahead.f a.f0 a.f1 a.f2 a.f3 b.f0 b.f1 b.f2 b.f3 = some (hBefore a b) := by
  simp only [impl_ahead.f, hBefore]
  by_cases h1 : a.f1 < b.f1
  · simp [h1]
  · by_cases h2 : a.f1 = b.f1 <;> simp [h1, h2]
theorem inRange_eq (x lo hi : Int) : impl_inRange.f x lo hi = some (decide (lo ≤ x ∧ x ≤ hi)) := by
  simp only [impl_inRange.f]
  by_cases h : lo ≤ x
  · rw [if_pos h]; simp [h]
  · rw [if_neg h]; simp [h]
theorem isAddr_eq (x : Int) : impl_isAddr.f x = some (decide (1 ≤ x ∧ x ≤ 9)) := by simp [impl_isAddr.f, inRange_eq]
theorem isVlan_eq (x : Int) : impl_isVlan.f x = some (decide (1 ≤ x ∧ x ≤ 4)) := by simp [impl_isVlan.f, inRange_eq]
theorem isPort_eq (x : Int) : impl_isPort.f x = some (decide (0 ≤ x ∧ x ≤ 3)) := by simp [impl_isPort.f, inRange_eq]
theorem implTableOk_ev (l : List HB) (h : l.length ≤ 4194304) : Ev (fun k => impl_TableOk.f k l) (tableOk l) := by
  refine ev_list l (fun k (_ : Option HB) i => impl_TableOk.l0 k l l (l.length : Int) i) (fun p t => tabM l.length p t) (fun i p => p = if i = 0 then none else l[i - 1]?) ?_ ?_ none rfl
  · intro p _
    refine ev_end fun k => ?_
    simp only [impl_TableOk.l0]
    rw [if_neg (by omega)]
    simp [tabM]
    omega
  · intro i p x t hI hi _ hx ih
    have ih' := ih (some x) (by simp [hx])
    have s1 : ∀ k, impl_TableOk.l0 (k + 1) l l (l.length : Int) (i : Int) = impl_TableOk.j1 k l (i : Int) l (l.length : Int) (i : Int) (!hOk x) x.f0 x.f1 x.f2 x.f3 := by
      intro k
      simp only [impl_TableOk.l0]
      rw [if_pos (by omega), if_pos (by omega), if_pos (by omega), rdHB hx]
      simp only [isAddr_eq, isVlan_eq, isPort_eq, inRange_eq, Option.bind_some, hOk]
      by_cases a1 : 1 ≤ x.f0 ∧ x.f0 ≤ 9 <;> by_cases a2 : 1 ≤ x.f1 ∧ x.f1 ≤ 4 <;> by_cases a3 : 0 ≤ x.f2 ∧ x.f2 ≤ 3 <;> by_cases a4 : 1 ≤ x.f3 ∧ x.f3 ≤ 20 <;> simp only [a1, a2, a3, a4, and_self, decide_true, decide_false, if_true, if_false, Bool.false_eq_true, Bool.and_true, Bool.and_false, Bool.true_and, Bool.false_and, Bool.not_true, Bool.not_false]
    cases hok : hOk x with
    | true =>
      have hbefore : ∀ k, impl_TableOk.j1 (k + 1) l (i : Int) l (l.length : Int) (i : Int) (!true) x.f0 x.f1 x.f2 x.f3 = if hNext p x = true then impl_TableOk.l0 k l l (l.length : Int) ((i + 1 : Nat) : Int) else some false := by
        intro k
        simp only [impl_TableOk.j1, w64_succ (show (i : Int) < 4611686018427387904 by omega)]
        rw [if_neg (by simp)]
        cases i with
        | zero => simp at hI; subst hI; simp [hNext]
        | succ j =>
          simp at hI
          have hj : l[j]? = some l[j] := List.getElem?_eq_getElem (by omega)
          rw [hj] at hI
          subst hI
          rw [if_pos (by omega), w64 (by omega) (by omega), show ((j + 1 : Nat) : Int) - 1 = (j : Int) by omega, if_pos (by omega), if_pos (by omega), rdHB hj, ahead_eq]
          (simp [hNext]) <;> rfl
      cases hb : hNext p x with
      | true =>
        have e : tabM l.length p (x :: t) = tabM l.length (some x) t := by simp [tabM, hok, hb]
        rw [e]
        refine Ev.step (fun k => (s1 k).trans (by rw [hok])) (Ev.step (fun k => ?_) ih')
        rw [hbefore k, if_pos hb]
      | false =>
        have e : tabM l.length p (x :: t) = false := by simp [tabM, hb]
        rw [e]
        refine Ev.step (fun k => (s1 k).trans (by rw [hok])) (ev_end fun k => ?_)
        rw [hbefore k, if_neg (by simp [hb])]
    | false =>
      have e : tabM l.length p (x :: t) = false := by simp [tabM, hok]
      rw [e]
      refine Ev.step (fun k => (s1 k).trans (by rw [hok])) (ev_end fun k => ?_)
      simp only [impl_TableOk.j1]
      rw [if_pos (by simp)]
theorem szHeardS_eq (l : List HA) (n : Int) (h : l.length ≤ maxLen) (h0 : 0 ≤ n) (h1 : n ≤ 1048576) : laws_szHeardS.f l n = some (if (l.length : Int) ≤ n then n - l.length else -1) := by
  unfold maxLen at h
  simp only [laws_szHeardS.f]
  rw [w64 (by omega) (by omega)]
  by_cases hl : (l.length : Int) ≤ n
  · rw [if_neg (by omega), if_pos hl]
  · rw [if_pos (by omega), if_neg hl]
theorem toHeardS_ev (l : List HA) (h : l.length ≤ 4194304) : Ev (fun k => laws_toHeardS.f k l) (l.map hcv) := by
  have h0 := ev_copy l z70 hcv (fun k acc i => laws_toHeardS.l0 k l acc i)
    (fun acc ha => ev_end fun k => by simp only [laws_toHeardS.l0]; rw [if_neg (by omega)])
    (fun i acc x r ha hi hx ih => Ev.step (fun k => by
      simp only [laws_toHeardS.l0, laws_toHeard.f, Option.bind_some]
      rw [if_pos (by omega), if_pos (by omega), if_pos (by omega), rdHA hx, w64_succ (by omega)]
      simp [hcv]) ih)
  refine Ev.congr (fun k => ?_) h0
  simp only [laws_toHeardS.f]
  rw [if_pos (by omega), if_pos (by simp; omega)]
  simp
theorem eqHeardS_ev (l : List HB) (h : l.length ≤ 4194304) : Ev (fun k => laws_eqHeardS.f k l l) true := by
  have h0 := ev_list0 l (fun k i => laws_eqHeardS.l0 k l l i) (fun _ => true)
    (ev_end fun k => by simp only [laws_eqHeardS.l0]; rw [if_neg (by omega)])
    (fun i x t hi _ hx ih => Ev.step (fun k => by
      simp only [laws_eqHeardS.l0, laws_eqHeard.f]
      rw [if_pos (by omega), if_pos (by omega), if_pos (by omega), w64_succ (by omega)]
      simp) ih)
  refine Ev.congr (fun k => ?_) h0
  simp [laws_eqHeardS.f]
theorem FnExactTableOk : FnExactTableOkPure := by
  intro l hl
  have hsz := szHeardS_eq l 1048576 hl.1 (by omega) (by omega)
  by_cases hbig : ¬ ((l.length : Int) ≤ 1048576)
  · exact ⟨0, by simp [laws_FnExactTableOk.f, hsz, hbig]⟩
  have hbig : (l.length : Int) ≤ 1048576 := by omega
  obtain ⟨K1, h1⟩ := toHeardS_ev l (by omega)
  obtain ⟨K2, h2⟩ := specTableOk_ev (l.map hcv) (by simp; omega)
  obtain ⟨K3, h3⟩ := implTableOk_ev (l.map hcv) (by simp; omega)
  obtain ⟨K4, h4⟩ := eqHeardS_ev (l.map hcv) (by simp; omega)
  refine ⟨K1 + K2 + K3 + K4, ?_⟩
  have e : ¬ ((1048576 : Int) - l.length < 0) := by omega
  simp (disch := omega) [laws_FnExactTableOk.f, h1, h2, h3, h4, hsz, hbig, e]
end Go.Proofs.Ytfcibdonfjogoaa.Pure

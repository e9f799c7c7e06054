/- A part of the proof of laws.FnExactGate. No condition beyond what its theorems say. -/
/- The statement of laws.FnExactGate over numbers and lists alone: at every input it answers true. No condition but that the numbers are those of their kinds and that no slice is longer than a Go slice can be. -/
import Derived.Test.YthmijfekdeagpaaVFnExactGateT
import Derived.Test.YthmijfekdeagpaaVFnExactGateBase
set_option linter.unusedVariables false
set_option linter.unusedSimpArgs false
namespace Go.Proofs.Ythmijfekdeagpaa.Pure
open Go.RowKit Go.Proofs.Ythmijfekdeagpaa.PFnExactGate Go.Proofs.Ythmijfekdeagpaa.Base Go.Proofs.YthmijfekdeagpaaW.PrintWords Go.Proofs.YthmijfekdeagpaaW.PrintLast Go.Proofs.YthmijfekdeagpaaW.PrintMore
def FnExactGatePure : Prop := ∀ (l0_0 : List (Bool)) (l0_1 : List (S165)) (l0_2 : List (S168)) (a1 : Int) (a2 : Bool), (l0_0.length ≤ maxLen ∧ ∀ x ∈ l0_0, True) → (l0_1.length ≤ maxLen ∧ ∀ x ∈ l0_1, ((Lit.int .i64 x.f0).wf = true) ∧ (x.f1.length ≤ maxLen ∧ ∀ y ∈ x.f1, (Lit.int .i64 y).wf = true)) → (l0_2.length ≤ maxLen ∧ ∀ x ∈ l0_2, ((Lit.int .i64 x.f0).wf = true) ∧ ((Lit.int .i64 x.f1).wf = true) ∧ ((Lit.int .i64 x.f2).wf = true) ∧ ((Lit.int .i64 x.f3).wf = true)) → ((Lit.int .i64 a1).wf = true) → ∃ k, laws_FnExactGate.f k l0_0 l0_1 l0_2 a1 a2 = some true
def nextI (p : Option Int) (x : Int) : Bool := match p with | none => true | some y => decide (y < x)
def memM (own : Int) (l : List Int) : Option Int → List Int → Bool
 | _, [] => decide (1 ≤ own ∧ own ≤ 4) && l.contains own
 | p, x :: t => decide (1 ≤ x ∧ x ≤ 4) && (nextI p x && memM own l (some x) t)
def memberOk (own : Int) (l : List Int) : Bool := memM own l none l
abbrev MB := S63
theorem rdMB {l : List MB} {i : Nat} {x : MB} (h : l[i]? = some x) : rd_T63 l (i : Int) = x := getD_at h
def membersOk : List MB → Bool
 | [] => true
 | x :: t => memberOk x.f0 x.f1 && membersOk t
theorem membersOk_iff : ∀ l : List MB, membersOk l = true ↔ ∀ x ∈ l, memberOk x.f0 x.f1 = true := by
 intro l
 induction l with
 | nil => simp [membersOk]
 | cons x t ih => simp [membersOk, ih]
abbrev HB := S138
theorem rdHB {l : List HB} {i : Nat} {x : HB} (h : l[i]? = some x) : rd_T138 l (i : Int) = x := getD_at h
def hOk (x : HB) : Bool := decide (1 ≤ x.f0 ∧ x.f0 ≤ 9) && (decide (1 ≤ x.f1 ∧ x.f1 ≤ 4) && (decide (0 ≤ x.f2 ∧ x.f2 ≤ 3) && decide (1 ≤ x.f3 ∧ x.f3 ≤ 20)))
def hBefore (a b : HB) : Bool := decide (a.f1 < b.f1 ∨ a.f1 = b.f1 ∧ a.f0 < b.f0)
def hNext (p : Option HB) (x : HB) : Bool := match p with | none => true | some y => hBefore y x
def tabM (n : Nat) : Option HB → List HB → Bool
 | _, [] => decide (n ≤ 12)
 | p, x :: t => hOk x && (hNext p x && tabM n (some x) t)
def tableOk (l : List HB) : Bool := tabM l.length none l
theorem hOk_iff (x : HB) : hOk x = true ↔ (1 ≤ x.f0 ∧ x.f0 ≤ 9) ∧ (1 ≤ x.f1 ∧ x.f1 ≤ 4) ∧ (0 ≤ x.f2 ∧ x.f2 ≤ 3) ∧ (1 ≤ x.f3 ∧ x.f3 ≤ 20) := by simp [hOk]
def cardOk (o : List Bool) (m : List MB) (t : List HB) : Bool := decide (1 ≤ o.length ∧ o.length ≤ 4) && (decide (m.length = o.length) && (tableOk t && membersOk m))
theorem cloneB_eq (l : List Bool) (h : l.length ≤ 4194304) : slices_Clone_bool_bool.f l = some l := by
 simp only [slices_Clone_bool_bool.f, Option.bind_some, List.length_nil, Nat.zero_add, List.nil_append]
 rw [if_pos (by omega)]
theorem cloneI_eq (l : List Int) (h : l.length ≤ 4194304) : slices_Clone_int_int.f l = some l := by
 simp only [slices_Clone_int_int.f, Option.bind_some, List.length_nil, Nat.zero_add, List.nil_append]
 rw [if_pos (by omega)]
theorem cloneH_eq (l : List HB) (h : l.length ≤ 4194304) : impl_Heard.f l = some l := by
 simp only [impl_Heard.f, Option.bind_some, List.length_nil, Nat.zero_add, List.nil_append]
 rw [if_pos (by omega)]
theorem copyCard_ev (o : List Bool) (m : List MB) (t : List HB) (ho : o.length ≤ 4194304) (h : m.length ≤ 4194304) (hm : ∀ x ∈ m, x.f1.length ≤ 4194304) (ht : t.length ≤ 4194304) : Ev (fun k => impl_copyCard.f k o m t) (o, m, t) := by
 simp only [impl_copyCard.f, cloneB_eq o ho, cloneH_eq t ht, Option.bind_some]
 have := ev_list m (fun k (acc : List MB) i => impl_copyCard.l0 k m (m.length : Int) i o acc t) (fun acc r => (o, acc ++ r, t)) (fun i acc => acc.length ≤ i)
  (fun acc hI => ev_end fun k => by simp only [impl_copyCard.l0]; rw [if_neg (by omega)]; simp)
  (fun i acc x r hI hi _ hx ih => by
   have e : acc ++ (x :: r) = (acc ++ [x]) ++ r := by simp
   rw [e]
   refine Ev.step (fun k => ?_) (ih (acc ++ [x]) (by simp; omega))
   simp only [impl_copyCard.l0]
   rw [if_pos (by omega), if_pos (by omega), if_pos (by omega), rdMB hx, cloneI_eq _ (hm x (List.mem_of_getElem? hx)), Option.bind_some, if_pos (by omega), w64_succ (by omega)])
  [] (by simp)
 simpa using this
def idxM (v : Int) : Int → List Int → Int
 | _, [] => -1
 | i, x :: t => if v = x then i else idxM v (i + 1) t
theorem idxM_iff (v : Int) : ∀ (l : List Int) (i : Int), 0 ≤ i → (0 ≤ idxM v i l ↔ v ∈ l) := by
 intro l
 induction l with
 | nil => intro i _; simp [idxM]
 | cons x t ih =>
  intro i hi
  simp only [idxM]
  by_cases e : v = x
  ·simp [e, hi]
  ·rw [if_neg e, ih (i + 1) (by omega)]
   simp [e]
theorem index_ev (l : List Int) (v : Int) (h : l.length ≤ 4194304) : Ev (fun k => slices_Index_int_int.f k l v) (idxM v 0 l) := by
 refine ev_list l (fun k (s : Int) i => slices_Index_int_int.l0 k l v (l.length : Int) i) (fun s t => idxM v s t) (fun i s => s = i) ?_ ?_ 0 rfl
 ·intro s _
  refine ev_end fun k => ?_
  simp only [slices_Index_int_int.l0]
  rw [if_neg (by omega)]
  rfl
 ·intro i s x t hI hi _ hx ih
  subst hI
  by_cases e : v = x
  ·refine ev_end fun k => ?_
   simp only [slices_Index_int_int.l0]
   rw [if_pos (by omega), if_pos (by omega), if_pos (by omega), rd_at hx, if_pos e, idxM, if_pos e]
  ·have := ih ((i : Int) + 1) (by omega)
   rw [idxM, if_neg e]
   refine Ev.step (fun k => ?_) this
   simp only [slices_Index_int_int.l0]
   rw [if_pos (by omega), if_pos (by omega), if_pos (by omega), rd_at hx, if_neg e, w64_succ (by omega)]
theorem contains_ev (l : List Int) (v : Int) (h : l.length ≤ 4194304) : Ev (fun k => slices_Contains_int_int.f k l v) (l.contains v) := by
 simp only [slices_Contains_int_int.f]
 refine Ev.bind (index_ev l v h) (ev_some fun _ => ?_)
 congr 1
 rw [Bool.eq_iff_iff]
 simp [idxM_iff v l 0 (by omega)]
theorem inRange_eq (x lo hi : Int) : impl_inRange.f x lo hi = some (decide (lo ≤ x ∧ x ≤ hi)) := by
 simp only [impl_inRange.f]
 by_cases h : lo ≤ x
 ·rw [if_pos h]; simp [h]
 ·rw [if_neg h]; simp [h]
theorem isVlan_eq (x : Int) : impl_isVlan.f x = some (decide (1 ≤ x ∧ x ≤ 4)) := by simp [impl_isVlan.f, inRange_eq]
theorem implMemberOk_ev (own : Int) (l : List Int) (h : l.length ≤ 4194304) : Ev (fun k => impl_MemberOk.f k own l) (memberOk own l) := by
 refine ev_list l (fun k (_ : Option Int) i => impl_MemberOk.l0 k l (l.length : Int) i own l) (fun p t => memM own l p t) (fun i p => p = if i = 0 then none else l[i - 1]?) ?_ ?_ none rfl
 ·intro p _
  refine Ev.step (f := fun k => ((impl_isVlan.f own).bind fun t109 => (if t109 = true then ((slices_Contains_int_int.f k l own).bind fun t110 => (some t110)) else (some false)))) (fun k => ?_) ?_
  ·simp only [impl_MemberOk.l0]
   rw [if_neg (by omega)]
  ·simp only [isVlan_eq, Option.bind_some, memM]
   by_cases a : 1 ≤ own ∧ own ≤ 4
   ·simp only [a, and_self, decide_true, if_true, Bool.true_and]
    exact Ev.bind (contains_ev l own h) (ev_some fun _ => rfl)
   ·refine ev_some fun k => ?_
    simp [a]
 ·intro i p x t hI hi _ hx ih
  have ih' := ih (some x) (by simp [hx])
  have hbefore : ∀ k, (if (i : Int) > 0 then (if 0 ≤ (wrap64 ((i : Int) - 1)) then (if (wrap64 ((i : Int) - 1)) < (l.length : Int) then (if x ≤ (rd l (wrap64 ((i : Int) - 1))) then (some false) else (impl_MemberOk.l0 k l (l.length : Int) ((i + 1 : Nat) : Int) own l)) else (none)) else (none)) else (impl_MemberOk.l0 k l (l.length : Int) ((i + 1 : Nat) : Int) own l)) = if nextI p x = true then impl_MemberOk.l0 k l (l.length : Int) ((i + 1 : Nat) : Int) own l else some false := by
   intro k
   cases i with
   | zero => simp at hI; subst hI; simp [nextI]
   | succ j =>
    simp at hI
    have hj : l[j]? = some l[j] := List.getElem?_eq_getElem (by omega)
    rw [hj] at hI
    subst hI
    rw [if_pos (by omega), w64 (by omega) (by omega), show ((j + 1 : Nat) : Int) - 1 = (j : Int) by omega, if_pos (by omega), if_pos (by omega), rd_at hj]
    by_cases e : l[j] < x
    ·rw [if_neg (by omega), if_pos (by simp [nextI, e])]
    ·rw [if_pos (by omega), if_neg (by simp [nextI]; omega)]
  by_cases a : 1 ≤ x ∧ x ≤ 4
  ·cases hb : nextI p x with
   | true =>
    have e : memM own l p (x :: t) = memM own l (some x) t := by simp [memM, a, hb]
    rw [e]
    refine Ev.step (fun k => ?_) ih'
    simp only [impl_MemberOk.l0]
    rw [if_pos (by omega), if_pos (by omega), if_pos (by omega), rd_at hx, w64_succ (by omega)]
    simp only [isVlan_eq, Option.bind_some, a, and_self, decide_true, if_true]
    rw [hbefore k, if_pos hb]
   | false =>
    have e : memM own l p (x :: t) = false := by simp [memM, hb]
    rw [e]
    refine ev_end fun k => ?_
    simp only [impl_MemberOk.l0]
    rw [if_pos (by omega), if_pos (by omega), if_pos (by omega), rd_at hx, w64_succ (by omega)]
    simp only [isVlan_eq, Option.bind_some, a, and_self, decide_true, if_true]
    rw [hbefore k, if_neg (by simp [hb])]
  ·have e : memM own l p (x :: t) = false := by simp [memM, a]
   rw [e]
   refine ev_end fun k => ?_
   simp only [impl_MemberOk.l0]
   rw [if_pos (by omega), if_pos (by omega), if_pos (by omega), rd_at hx]
   simp only [isVlan_eq, Option.bind_some, a, decide_false, if_false, Bool.false_eq_true]
theorem ahead_eq (a b : HB) : impl_ahead.f a.f0 a.f1 a.f2 a.f3 b.f0 b.f1 b.f2 b.f3 = some (hBefore a b) := by
 simp only [impl_ahead.f, hBefore]
 by_cases h1 : a.f1 < b.f1
 ·simp [h1]
 ·by_cases h2 : a.f1 = b.f1 <;> simp [h1, h2]
theorem isAddr_eq (x : Int) : impl_isAddr.f x = some (decide (1 ≤ x ∧ x ≤ 9)) := by simp [impl_isAddr.f, inRange_eq]
theorem isPort_eq (x : Int) : impl_isPort.f x = some (decide (0 ≤ x ∧ x ≤ 3)) := by simp [impl_isPort.f, inRange_eq]
theorem implTableOk_ev (l : List HB) (h : l.length ≤ 4194304) : Ev (fun k => impl_TableOk.f k l) (tableOk l) := by
 refine ev_list l (fun k (_ : Option HB) i => impl_TableOk.l0 k l l (l.length : Int) i) (fun p t => tabM l.length p t) (fun i p => p = if i = 0 then none else l[i - 1]?) ?_ ?_ none rfl
 ·intro p _
  refine ev_end fun k => ?_
  simp only [impl_TableOk.l0]
  rw [if_neg (by omega)]
  simp [tabM]
  omega
 ·intro i p x t hI hi _ hx ih
  have ih' := ih (some x) (by simp [hx])
  have s1 : ∀ k, impl_TableOk.l0 (k + 1) l l (l.length : Int) (i : Int) = impl_TableOk.j1 k l (i : Int) l (l.length : Int) (i : Int) (!hOk x) x.f0 x.f1 x.f2 x.f3 := by
   intro k
   simp only [impl_TableOk.l0]
   rw [if_pos (by omega), if_pos (by omega), if_pos (by omega), rdHB hx]
   simp only [isAddr_eq, isVlan_eq, isPort_eq, inRange_eq, Option.bind_some, hOk]
   by_cases a1 : 1 ≤ x.f0 ∧ x.f0 ≤ 9 <;> by_cases a2 : 1 ≤ x.f1 ∧ x.f1 ≤ 4 <;> by_cases a3 : 0 ≤ x.f2 ∧ x.f2 ≤ 3 <;> by_cases a4 : 1 ≤ x.f3 ∧ x.f3 ≤ 20 <;> simp only [a1, a2, a3, a4, and_self, decide_true, decide_false, if_true, if_false, Bool.false_eq_true, Bool.and_true, Bool.and_false, Bool.true_and, Bool.false_and, Bool.not_true, Bool.not_false]
  cases hok : hOk x with
  | true =>
   have hbefore : ∀ k, impl_TableOk.j1 (k + 1) l (i : Int) l (l.length : Int) (i : Int) (!true) x.f0 x.f1 x.f2 x.f3 = if hNext p x = true then impl_TableOk.l0 k l l (l.length : Int) ((i + 1 : Nat) : Int) else some false := by
    intro k
    simp only [impl_TableOk.j1, w64_succ (show (i : Int) < 4611686018427387904 by omega)]
    rw [if_neg (by simp)]
    cases i with
    | zero => simp at hI; subst hI; simp [hNext]
    | succ j =>
     simp at hI
     have hj : l[j]? = some l[j] := List.getElem?_eq_getElem (by omega)
     rw [hj] at hI
     subst hI
     rw [if_pos (by omega), w64 (by omega) (by omega), show ((j + 1 : Nat) : Int) - 1 = (j : Int) by omega, if_pos (by omega), if_pos (by omega), rdHB hj, ahead_eq]
     (simp [hNext]) <;> rfl
   cases hb : hNext p x with
   | true =>
    have e : tabM l.length p (x :: t) = tabM l.length (some x) t := by simp [tabM, hok, hb]
    rw [e]
    refine Ev.step (fun k => (s1 k).trans (by rw [hok])) (Ev.step (fun k => ?_) ih')
    rw [hbefore k, if_pos hb]
   | false =>
    have e : tabM l.length p (x :: t) = false := by simp [tabM, hb]
    rw [e]
    refine Ev.step (fun k => (s1 k).trans (by rw [hok])) (ev_end fun k => ?_)
    rw [hbefore k, if_neg (by simp [hb])]
  | false =>
   have e : tabM l.length p (x :: t) = false := by simp [tabM, hok]
   rw [e]
   refine Ev.step (fun k => (s1 k).trans (by rw [hok])) (ev_end fun k => ?_)
   simp only [impl_TableOk.j1]
   rw [if_pos (by simp)]
theorem implCardOk_ev (o : List Bool) (m : List MB) (t : List HB) (ho : o.length ≤ 4194304) (h : m.length ≤ 4194304) (hm : ∀ x ∈ m, x.f1.length ≤ 4194304) (ht : t.length ≤ 4194304) : Ev (fun k => impl_CardOk.f k o m t) (cardOk o m t) := by
 refine ev_list0 m (fun k i => impl_CardOk.l0 k m (m.length : Int) i o m t) (fun r => decide (1 ≤ o.length ∧ o.length ≤ 4) && (decide (m.length = o.length) && (tableOk t && membersOk r)))
  ?_ (fun i x r hi _ hx ih => ?_)
 ·refine Ev.step (f := fun k => ((impl_inRange.f (o.length : Int) 1 4).bind fun t206 => (if t206 = true then (if (m.length : Int) = (o.length : Int) then ((impl_TableOk.f k t).bind fun t207 => (some t207)) else (some false)) else (some false)))) (fun k => ?_) ?_
  ·simp only [impl_CardOk.l0]
   rw [if_neg (by omega)]
  ·simp only [inRange_eq, Option.bind_some, membersOk, Bool.and_true]
   by_cases e1 : 1 ≤ o.length ∧ o.length ≤ 4
   ·have e1' : 1 ≤ (o.length : Int) ∧ (o.length : Int) ≤ 4 := by omega
    simp only [e1, e1', and_self, decide_true, if_true, Bool.true_and]
    by_cases e2 : m.length = o.length
    ·have e2' : (m.length : Int) = o.length := by omega
     simp only [e2, if_pos e2', decide_true, Bool.true_and]
     simp only [if_true]
     exact Ev.bind (implTableOk_ev t ht) (ev_some fun _ => rfl)
    ·have e2' : ¬ (m.length : Int) = o.length := by omega
     simp only [e2, if_neg e2', decide_false, Bool.false_and]
     exact ev_some fun _ => rfl
   ·have e1' : ¬ (1 ≤ (o.length : Int) ∧ (o.length : Int) ≤ 4) := by omega
    simp only [e1, e1', decide_false, Bool.false_eq_true, if_false, Bool.false_and]
    exact ev_some fun _ => rfl
 ·refine Ev.step (f := fun k => (impl_MemberOk.f k x.f0 x.f1).bind fun t131 => (if t131 = true then (impl_CardOk.l0 k m (m.length : Int) ((i + 1 : Nat) : Int) o m t) else (some false))) (fun k => ?_) (Ev.bind (implMemberOk_ev x.f0 x.f1 (hm x (List.mem_of_getElem? hx))) ?_)
  ·simp only [impl_CardOk.l0]
   rw [if_pos (by omega), if_pos (by omega), if_pos (by omega), rdMB hx, w64_succ (by omega)]
  ·cases hx2 : memberOk x.f0 x.f1 with
   | true => simp only [if_true, membersOk, hx2, Bool.true_and]; exact ih
   | false =>
    refine ev_some fun k => ?_
    simp [membersOk, hx2]
def forgetM (p : Int) (l : List HB) : List HB := l.filter fun x => decide (x.f2 ≠ p)
theorem implForget_ev (l : List HB) (p : Int) (h : l.length ≤ 4194304) : Ev (fun k => impl_Forget.f k l p) (forgetM p l) := by
 have := ev_list l (fun k (acc : List HB) i => impl_Forget.l0 k p acc l (l.length : Int) i) (fun acc t => acc ++ forgetM p t) (fun i acc => acc.length ≤ i)
  (fun acc hI => ev_end fun k => by simp only [impl_Forget.l0]; rw [if_neg (by omega)]; simp [forgetM])
  (fun i acc x t hI hi _ hx ih => by
   by_cases hp : x.f2 = p
   ·have e : acc ++ forgetM p (x :: t) = acc ++ forgetM p t := by simp [forgetM, hp]
    rw [e]
    refine Ev.step (fun k => ?_) (ih acc (by omega))
    simp only [impl_Forget.l0]
    rw [if_pos (by omega), if_pos (by omega), if_pos (by omega), rdHB hx, if_pos hp, w64_succ (by omega)]
   ·have e : acc ++ forgetM p (x :: t) = (acc ++ [x]) ++ forgetM p t := by simp [forgetM, hp]
    rw [e]
    refine Ev.step (fun k => ?_) (ih (acc ++ [x]) (by simp; omega))
    simp only [impl_Forget.l0]
    rw [if_pos (by omega), if_pos (by omega), if_pos (by omega), rdHB hx, if_neg hp, if_pos (by omega), w64_succ (by omega)])
  [] (by simp)
 simpa [impl_Forget.f] using this
def gateM (o : List Bool) (m : List MB) (t : List HB) (p : Int) (on : Bool) : List Bool × List MB × List HB :=
 if 0 ≤ p ∧ p < o.length ∧ cardOk o m t = true ∧ rdOf false o p ≠ on then (o.set p.toNat on, m, forgetM p t) else (o, m, t)
theorem gate_ev (o : List Bool) (m : List MB) (t : List HB) (p : Int) (on : Bool) (ho : o.length ≤ 4194304) (h : m.length ≤ 4194304) (hm : ∀ x ∈ m, x.f1.length ≤ 4194304) (ht : t.length ≤ 4194304) : Ev (fun k => impl_Gate.f k o m t p on) (gateM o m t p on) := by
 simp only [impl_Gate.f]
 refine Ev.bind (copyCard_ev o m t ho h hm ht) ?_
 simp only [inRange_eq, Option.bind_some]
 rw [w64 (by omega) (by omega)]
 by_cases e1 : 0 ≤ p ∧ p ≤ (o.length : Int) - 1
 ·simp only [e1, and_self, decide_true, if_true]
  refine Ev.bind (implCardOk_ev o m t ho h hm ht) ?_
  cases hc : cardOk o m t with
  | false =>
   simp only [Bool.false_eq_true, if_false]
   exact ev_some fun _ => by simp [gateM, hc]
  | true =>
   have e2 : p < (o.length : Int) := by omega
   simp only [if_true, if_pos e1.1, if_pos e2]
   by_cases e3 : rdOf false o p = on
   ·simp only [e3, beq_self_eq_true, if_true]
    exact ev_some fun _ => by simp [gateM, e3]
   ·have e3' : (rdOf false o p == on) = false := by simp [e3]
    simp only [e3', Bool.false_eq_true, if_false]
    refine Ev.bind (implForget_ev t p ht) (ev_some fun _ => ?_)
    unfold gateM
    rw [if_pos ⟨e1.1, e2, hc, e3⟩]
 ·simp only [e1, decide_false, Bool.false_eq_true, if_false]
  refine ev_some fun _ => ?_
  unfold gateM
  rw [if_neg (by omega)]
theorem l5Copy_ev (o : List Bool) (m : List MB) (t : List HB) (ho : o.length ≤ 4194304) (h : m.length ≤ 4194304) (hm : ∀ x ∈ m, x.f1.length ≤ 4194304) (ht : t.length ≤ 4194304) : Ev (fun k => spec_l5Copy.f k o m t) (o, m, t) := by
 simp only [spec_l5Copy.f, Option.bind_some, List.length_nil, Nat.zero_add, List.nil_append]
 simp only [if_pos (show o.length < 140737488355328 by omega), if_pos (show t.length < 4398046511104 by omega)]
 have := ev_list m (fun k (acc : List MB) i => spec_l5Copy.l0 k i o m t o acc t) (fun acc r => (o, acc ++ r, t)) (fun i acc => acc.length ≤ i)
  (fun acc hI => ev_end fun k => by simp only [spec_l5Copy.l0]; rw [if_neg (by omega)]; simp)
  (fun i acc x r hI hi _ hx ih => by
   have hx1 := hm x (List.mem_of_getElem? hx)
   have e : acc ++ (x :: r) = (acc ++ [x]) ++ r := by simp
   rw [e]
   refine Ev.step (fun k => ?_) (ih (acc ++ [x]) (by simp; omega))
   simp only [spec_l5Copy.l0]
   rw [if_pos (by omega), if_pos (by omega), rdMB hx]
   simp only [Option.bind_some, List.length_nil, Nat.zero_add, List.nil_append]
   rw [if_pos (by omega), if_pos (by omega), w64_succ (by omega)])
  [] (by simp)
 simpa using this
theorem l4Has_ev (l : List Int) (x : Int) (h : l.length ≤ 4194304) : Ev (fun k => spec_l4Has.f k l x) (l.contains x) := by
 refine ev_list0 l (fun k i => spec_l4Has.l0 k l x i) (fun t => t.contains x)
  (ev_end fun k => by simp only [spec_l4Has.l0]; rw [if_neg (by omega)]; rfl)
  (fun i y t hi _ hx ih => ?_)
 by_cases e : y = x
 ·refine ev_end fun k => ?_
  simp only [spec_l4Has.l0]
  rw [if_pos (by omega), if_pos (by omega), rd_at hx, if_pos e]
  simp [e]
 ·have e' : (y :: t).contains x = t.contains x := by
   have : ¬ x = y := fun h => e h.symm
   simp [List.contains_cons, this]
  rw [e']
  refine Ev.step (fun k => ?_) ih
  simp only [spec_l4Has.l0]
  rw [if_pos (by omega), if_pos (by omega), rd_at hx, if_neg e, w64_succ (by omega)]
theorem l1In_eq (x lo hi : Int) : spec_l1In.f x lo hi = some (decide (lo ≤ x ∧ x ≤ hi)) := by
 simp only [spec_l1In.f]
 by_cases h : lo ≤ x
 ·rw [if_pos h]; simp [h]
 ·rw [if_neg h]; simp [h]
theorem specMemberOk_ev (own : Int) (l : List Int) (h : l.length ≤ 4194304) : Ev (fun k => spec_MemberOk.f k own l) (memberOk own l) := by
 refine ev_list l (fun k (_ : Option Int) i => spec_MemberOk.l0 k i own l) (fun p t => memM own l p t) (fun i p => p = if i = 0 then none else l[i - 1]?) ?_ ?_ none rfl
 ·intro p _
  refine Ev.step (f := fun k => ((spec_l1In.f own 1 4).bind fun t109 => (if t109 = true then ((spec_l4Has.f k l own).bind fun t110 => (some t110)) else (some false)))) (fun k => ?_) ?_
  ·simp only [spec_MemberOk.l0]
   rw [if_neg (by omega)]
  ·simp only [l1In_eq, Option.bind_some, memM]
   by_cases a : 1 ≤ own ∧ own ≤ 4
   ·simp only [a, and_self, decide_true, if_true, Bool.true_and]
    exact Ev.bind (l4Has_ev l own h) (ev_some fun _ => rfl)
   ·refine ev_some fun k => ?_
    simp [a]
 ·intro i p x t hI hi _ hx ih
  have ih' := ih (some x) (by simp [hx])
  have hbefore : ∀ k, (if (i : Int) > 0 then (if 0 ≤ (wrap64 ((i : Int) - 1)) then (if (wrap64 ((i : Int) - 1)) < (l.length : Int) then (if (rd l (wrap64 ((i : Int) - 1))) ≥ x then (some false) else (spec_MemberOk.l0 k ((i + 1 : Nat) : Int) own l)) else (none)) else (none)) else (spec_MemberOk.l0 k ((i + 1 : Nat) : Int) own l)) = if nextI p x = true then spec_MemberOk.l0 k ((i + 1 : Nat) : Int) own l else some false := by
   intro k
   cases i with
   | zero => simp at hI; subst hI; simp [nextI]
   | succ j =>
    simp at hI
    have hj : l[j]? = some l[j] := List.getElem?_eq_getElem (by omega)
    rw [hj] at hI
    subst hI
    rw [if_pos (by omega), w64 (by omega) (by omega), show ((j + 1 : Nat) : Int) - 1 = (j : Int) by omega, if_pos (by omega), if_pos (by omega), rd_at hj]
    by_cases e : l[j] < x
    ·rw [if_neg (by omega), if_pos (by simp [nextI, e])]
    ·rw [if_pos (by omega), if_neg (by simp [nextI]; omega)]
  by_cases a : 1 ≤ x ∧ x ≤ 4
  ·cases hb : nextI p x with
   | true =>
    have e : memM own l p (x :: t) = memM own l (some x) t := by simp [memM, a, hb]
    rw [e]
    refine Ev.step (fun k => ?_) ih'
    simp only [spec_MemberOk.l0]
    rw [if_pos (by omega), if_pos (by omega), rd_at hx, w64_succ (by omega)]
    simp only [l1In_eq, Option.bind_some, a, and_self, decide_true, if_true]
    rw [hbefore k, if_pos hb]
   | false =>
    have e : memM own l p (x :: t) = false := by simp [memM, hb]
    rw [e]
    refine ev_end fun k => ?_
    simp only [spec_MemberOk.l0]
    rw [if_pos (by omega), if_pos (by omega), rd_at hx, w64_succ (by omega)]
    simp only [l1In_eq, Option.bind_some, a, and_self, decide_true, if_true]
    rw [hbefore k, if_neg (by simp [hb])]
  ·have e : memM own l p (x :: t) = false := by simp [memM, a]
   rw [e]
   refine ev_end fun k => ?_
   simp only [spec_MemberOk.l0]
   rw [if_pos (by omega), if_pos (by omega), rd_at hx]
   simp only [l1In_eq, Option.bind_some, a, decide_false, if_false, Bool.false_eq_true]
theorem l3Before_eq (a b : HB) : spec_l3Before.f a.f0 a.f1 a.f2 a.f3 b.f0 b.f1 b.f2 b.f3 = some (hBefore a b) := by
 simp only [spec_l3Before.f, hBefore]
 by_cases h1 : a.f1 < b.f1
 ·simp [h1]
 ·by_cases h2 : a.f1 = b.f1 <;> simp [h1, h2]
theorem specTableOk_ev (l : List HB) (h : l.length ≤ 4194304) : Ev (fun k => spec_TableOk.f k l) (tableOk l) := by
 refine ev_list l (fun k (_ : Option HB) i => spec_TableOk.l0 k l i) (fun p t => tabM l.length p t) (fun i p => p = if i = 0 then none else l[i - 1]?) ?_ ?_ none rfl
 ·intro p _
  refine ev_end fun k => ?_
  simp only [spec_TableOk.l0]
  rw [if_neg (by omega)]
  simp [tabM]
  omega
 ·intro i p x t hI hi _ hx ih
  have ih' := ih (some x) (by simp [hx])
  have hbefore : ∀ k, (if (i : Int) > 0 then (if 0 ≤ (wrap64 ((i : Int) - 1)) then (if (wrap64 ((i : Int) - 1)) < (l.length : Int) then ((spec_l3Before.f ((rd_T138 l (wrap64 ((i : Int) - 1))).f0) ((rd_T138 l (wrap64 ((i : Int) - 1))).f1) ((rd_T138 l (wrap64 ((i : Int) - 1))).f2) ((rd_T138 l (wrap64 ((i : Int) - 1))).f3) x.f0 x.f1 x.f2 x.f3).bind fun t110 => (if t110 = true then (spec_TableOk.l0 k l ((i + 1 : Nat) : Int)) else (some false))) else (none)) else (none)) else (spec_TableOk.l0 k l ((i + 1 : Nat) : Int))) = if hNext p x = true then spec_TableOk.l0 k l ((i + 1 : Nat) : Int) else some false := by
   intro k
   cases i with
   | zero => simp at hI; subst hI; simp [hNext]
   | succ j =>
    simp at hI
    have hj : l[j]? = some l[j] := List.getElem?_eq_getElem (by omega)
    rw [hj] at hI
    subst hI
    rw [if_pos (by omega), w64 (by omega) (by omega), show ((j + 1 : Nat) : Int) - 1 = (j : Int) by omega, if_pos (by omega), if_pos (by omega), rdHB hj, l3Before_eq]
    (simp [hNext]) <;> rfl
  cases hok : hOk x with
  | true =>
   have a := (hOk_iff x).1 hok
   cases hb : hNext p x with
   | true =>
    have e : tabM l.length p (x :: t) = tabM l.length (some x) t := by simp [tabM, hok, hb]
    rw [e]
    refine Ev.step (fun k => ?_) ih'
    simp only [spec_TableOk.l0]
    rw [if_pos (by omega), if_pos (by omega), rdHB hx, w64_succ (by omega)]
    simp only [l1In_eq, Option.bind_some, a.1, a.2.1, a.2.2.1, a.2.2.2, and_self, decide_true, if_true]
    rw [hbefore k, if_pos hb]
   | false =>
    have e : tabM l.length p (x :: t) = false := by simp [tabM, hb]
    rw [e]
    refine ev_end fun k => ?_
    simp only [spec_TableOk.l0]
    rw [if_pos (by omega), if_pos (by omega), rdHB hx, w64_succ (by omega)]
    simp only [l1In_eq, Option.bind_some, a.1, a.2.1, a.2.2.1, a.2.2.2, and_self, decide_true, if_true]
    rw [hbefore k, if_neg (by simp [hb])]
  | false =>
   have e : tabM l.length p (x :: t) = false := by simp [tabM, hok]
   rw [e]
   refine ev_end fun k => ?_
   simp only [spec_TableOk.l0]
   rw [if_pos (by omega), if_pos (by omega), rdHB hx]
   simp only [hOk] at hok
   by_cases a1 : 1 ≤ x.f0 ∧ x.f0 ≤ 9 <;> by_cases a2 : 1 ≤ x.f1 ∧ x.f1 ≤ 4 <;> by_cases a3 : 0 ≤ x.f2 ∧ x.f2 ≤ 3 <;> by_cases a4 : 1 ≤ x.f3 ∧ x.f3 ≤ 20 <;> simp only [l1In_eq, Option.bind_some, a1, a2, a3, a4, and_self, decide_true, decide_false, if_true, if_false, Bool.false_eq_true, Bool.and_true, Bool.and_false, Bool.true_and, Bool.false_and, Bool.true_eq_false] at hok ⊢
theorem specCardOk_ev (o : List Bool) (m : List MB) (t : List HB) (ho : o.length ≤ 4194304) (h : m.length ≤ 4194304) (hm : ∀ x ∈ m, x.f1.length ≤ 4194304) (ht : t.length ≤ 4194304) : Ev (fun k => spec_CardOk.f k o m t) (cardOk o m t) := by
 have hl : Ev (fun k => spec_CardOk.l0 k 0 o m t) (membersOk m) := by
  refine ev_list0 m (fun k i => spec_CardOk.l0 k i o m t) membersOk
   (ev_end fun k => by simp only [spec_CardOk.l0]; rw [if_neg (by omega)]; rfl)
   (fun i x r hi _ hx ih => ?_)
  refine Ev.step (f := fun k => (spec_MemberOk.f k x.f0 x.f1).bind fun t131 => (if t131 = true then (spec_CardOk.l0 k ((i + 1 : Nat) : Int) o m t) else (some false))) (fun k => ?_) (Ev.bind (specMemberOk_ev x.f0 x.f1 (hm x (List.mem_of_getElem? hx))) ?_)
  ·simp only [spec_CardOk.l0]
   rw [if_pos (by omega), if_pos (by omega), rdMB hx, w64_succ (by omega)]
  ·cases hx2 : memberOk x.f0 x.f1 with
   | true => simp only [if_true, membersOk, hx2, Bool.true_and]; exact ih
   | false => exact ev_some fun k => by simp [membersOk, hx2]
 have jt : Ev (fun k => spec_CardOk.j0 k true o m t) false := ev_end fun k => by simp [spec_CardOk.j0]
 have jf : Ev (fun k => spec_CardOk.j0 k false o m t) (membersOk m) := Ev.step (fun k => by simp only [spec_CardOk.j0, Bool.false_eq_true, if_false]) hl
 simp only [spec_CardOk.f, l1In_eq, Option.bind_some, cardOk]
 by_cases e1 : 1 ≤ o.length ∧ o.length ≤ 4
 ·have e1' : 1 ≤ (o.length : Int) ∧ (o.length : Int) ≤ 4 := by omega
  simp only [e1, e1', and_self, decide_true, if_true, Bool.true_and]
  by_cases e2 : m.length = o.length
  ·have e2' : (m.length : Int) = o.length := by omega
   simp only [e2, if_pos e2', decide_true, Bool.true_and]
   simp only [if_true]
   refine Ev.bind (specTableOk_ev t ht) ?_
   cases tableOk t
   ·exact jt
   ·exact jf
  ·have e2' : ¬ (m.length : Int) = o.length := by omega
   simp only [e2, if_neg e2', decide_false, Bool.false_and]
   exact jt
 ·have e1' : ¬ (1 ≤ (o.length : Int) ∧ (o.length : Int) ≤ 4) := by omega
  simp only [e1, e1', decide_false, Bool.false_eq_true, if_false, Bool.false_and]
  exact jt
theorem specForget_ev (l : List HB) (p : Int) (h : l.length ≤ 4194304) : Ev (fun k => spec_Forget.f k l p) (forgetM p l) := by
 have := ev_list l (fun k (acc : List HB) i => spec_Forget.l0 k l p acc i) (fun acc t => acc ++ forgetM p t) (fun i acc => acc.length ≤ i)
  (fun acc hI => ev_end fun k => by simp only [spec_Forget.l0]; rw [if_neg (by omega)]; simp [forgetM])
  (fun i acc x t hI hi _ hx ih => by
   by_cases hp : x.f2 = p
   ·have e : acc ++ forgetM p (x :: t) = acc ++ forgetM p t := by simp [forgetM, hp]
    rw [e]
    refine Ev.step (fun k => ?_) (ih acc (by omega))
    simp only [spec_Forget.l0]
    rw [if_pos (by omega), if_pos (by omega), rdHB hx, if_pos hp, w64_succ (by omega)]
   ·have e : acc ++ forgetM p (x :: t) = (acc ++ [x]) ++ forgetM p t := by simp [forgetM, hp]
    rw [e]
    refine Ev.step (fun k => ?_) (ih (acc ++ [x]) (by simp; omega))
    simp only [spec_Forget.l0]
    rw [if_pos (by omega), if_pos (by omega), rdHB hx, if_neg hp, if_pos (by omega), w64_succ (by omega)])
  [] (by simp)
 simpa [spec_Forget.f] using this
theorem specGate_ev (o : List Bool) (m : List MB) (t : List HB) (p : Int) (on : Bool) (ho : o.length ≤ 4194304) (h : m.length ≤ 4194304) (hm : ∀ x ∈ m, x.f1.length ≤ 4194304) (ht : t.length ≤ 4194304) : Ev (fun k => spec_Gate.f k o m t p on) (gateM o m t p on) := by
 simp only [spec_Gate.f]
 refine Ev.bind (l5Copy_ev o m t ho h hm ht) ?_
 simp only [l1In_eq, Option.bind_some]
 rw [w64 (by omega) (by omega)]
 refine Ev.bind (specCardOk_ev o m t ho h hm ht) ?_
 cases hc : cardOk o m t with
 | false =>
  simp only [Bool.false_eq_true, if_false]
  exact ev_some fun _ => by simp [gateM, hc]
 | true =>
  simp only [if_true]
  by_cases e1 : 0 ≤ p ∧ p ≤ (o.length : Int) - 1
  ·have e2 : p < (o.length : Int) := by omega
   simp only [e1, and_self, decide_true, if_true, if_pos e1.1, if_pos e2]
   by_cases e3 : rdOf false o p = on
   ·simp only [e3, beq_self_eq_true, if_true]
    exact ev_some fun _ => by simp [gateM, e3]
   ·have e3' : (rdOf false o p == on) = false := by simp [e3]
    simp only [e3', Bool.false_eq_true, if_false]
    refine Ev.bind (specForget_ev t p ht) (ev_some fun _ => ?_)
    unfold gateM
    rw [if_pos ⟨e1.1, e2, hc, e3⟩]
  ·simp only [e1, decide_false, Bool.false_eq_true, if_false]
   refine ev_some fun _ => ?_
   unfold gateM
   rw [if_neg (by omega)]
theorem szBoolS_eq (l : List Bool) (n : Int) (h : l.length ≤ maxLen) (h0 : 0 ≤ n) (h1 : n ≤ 1048576) : laws_szBoolS.f l n = some (if (l.length : Int) ≤ n then n - l.length else -1) := by
 unfold maxLen at h
 simp only [laws_szBoolS.f]
 rw [w64 (by omega) (by omega)]
 by_cases hl : (l.length : Int) ≤ n
 ·rw [if_neg (by omega), if_pos hl]
 ·rw [if_pos (by omega), if_neg hl]
abbrev MA := S165
def mcv (x : MA) : MB := ⟨x.f0, x.f1⟩
theorem rdMA {l : List MA} {i : Nat} {x : MA} (h : l[i]? = some x) : rd_T165 l (i : Int) = x := getD_at h
theorem szIntS_eq (l : List Int) (n : Int) (h : l.length ≤ maxLen) (h0 : 0 ≤ n) (h1 : n ≤ 1048576) : laws_szIntS.f l n = some (if (l.length : Int) ≤ n then n - l.length else -1) := by
 unfold maxLen at h
 simp only [laws_szIntS.f]
 rw [w64 (by omega) (by omega)]
 by_cases hl : (l.length : Int) ≤ n
 ·rw [if_neg (by omega), if_pos hl]
 ·rw [if_pos (by omega), if_neg hl]
theorem szMember_eq (a : Int) (l : List Int) (n : Int) (h : l.length ≤ maxLen) (h0 : 0 ≤ n) (h1 : n ≤ 1048576) : laws_szMember.f a l n = some (if (l.length : Int) ≤ n then n - l.length else -1) := by
 simp only [laws_szMember.f, szIntS_eq l n h h0 h1, Option.bind_some]
 split
 ·split <;> simp_all
  omega
 ·simp
def inLen : List MA → Int
 | [] => 0
 | x :: t => (x.f1.length : Int) + inLen t
theorem inLen_nonneg : ∀ l : List MA, 0 ≤ inLen l := by
 intro l
 induction l with
 | nil => simp [inLen]
 | cons x t ih => simp only [inLen]; omega
theorem inLen_le : ∀ (l : List MA) (x : MA), x ∈ l → (x.f1.length : Int) ≤ inLen l := by
 intro l
 induction l with
 | nil => intro x h; simp at h
 | cons y t ih =>
  intro x h
  have := inLen_nonneg t
  simp only [inLen]
  rcases List.mem_cons.1 h with rfl | h
  ·omega
  ·have := ih x h
   omega
def szM : Int → List MA → Int
 | n, [] => n
 | n, x :: t => if (x.f1.length : Int) ≤ n then szM (n - x.f1.length) t else -1
theorem szM_eq : ∀ (l : List MA) (n : Int), 0 ≤ n → szM n l = if inLen l ≤ n then n - inLen l else -1 := by
 intro l
 induction l with
 | nil => intro n h; simp [szM, inLen, h]
 | cons x t ih =>
  intro n h
  have := inLen_nonneg t
  have e : inLen (x :: t) = (x.f1.length : Int) + inLen t := rfl
  rw [e]
  simp only [szM]
  by_cases hx : (x.f1.length : Int) ≤ n
  ·rw [if_pos hx, ih _ (by omega)]
   by_cases h2 : inLen t ≤ n - x.f1.length
   ·rw [if_pos h2, if_pos (by omega)]
    omega
   ·rw [if_neg h2, if_neg (by omega)]
  ·rw [if_neg hx, if_neg (by omega)]
theorem szMemberS_ev (l : List MA) (n : Int) (h : l.length ≤ maxLen) (hm : ∀ x ∈ l, x.f1.length ≤ maxLen) (h0 : 0 ≤ n) (h1 : n ≤ 1048576) :
  Ev (fun k => laws_szMemberS.f k l n) (if (l.length : Int) + inLen l ≤ n then n - l.length - inLen l else -1) := by
 have hn := inLen_nonneg l
 have h' := h
 unfold maxLen at h'
 simp only [laws_szMemberS.f]
 rw [w64 (by omega) (by omega)]
 by_cases hl : (l.length : Int) ≤ n
 ·simp only [if_neg (show ¬ n - (l.length : Int) < 0 by omega)]
  have := ev_list l (fun k (s : Int) i => laws_szMemberS.l0 k l s i) (fun s t => szM s t) (fun _ s => 0 ≤ s ∧ s ≤ 1048576)
   (fun s _ => ev_end fun k => by simp only [laws_szMemberS.l0]; rw [if_neg (by omega)]; rfl)
   (fun i s x t hI hi _ hx ih => by
    have hmx := hm x (List.mem_of_getElem? hx)
    have hsz := szMember_eq x.f0 x.f1 s hmx hI.1 hI.2
    simp only [szM]
    by_cases hle : (x.f1.length : Int) ≤ s
    ·rw [if_pos hle] at hsz ⊢
     refine Ev.step (fun k => ?_) (ih (s - x.f1.length) ⟨by omega, by omega⟩)
     simp only [laws_szMemberS.l0]
     rw [if_pos (by omega), if_pos (by omega), rdMA hx, hsz, w64_succ (by omega)]
     simp only [Option.bind_some]
     rw [if_neg (by omega)]
    ·rw [if_neg hle] at hsz ⊢
     refine ev_end fun k => ?_
     simp only [laws_szMemberS.l0]
     rw [if_pos (by omega), if_pos (by omega), rdMA hx, hsz]
     simp)
   (n - l.length) ⟨by omega, by omega⟩
  rw [szM_eq l _ (by omega)] at this
  have e : (if inLen l ≤ n - (l.length : Int) then n - (l.length : Int) - inLen l else -1) = (if (l.length : Int) + inLen l ≤ n then n - l.length - inLen l else -1) := by
   by_cases hh : inLen l ≤ n - (l.length : Int)
   ·rw [if_pos hh, if_pos (by omega)]
   ·rw [if_neg hh, if_neg (by omega)]
  rw [e] at this
  exact this
 ·refine ev_some fun k => ?_
  rw [if_pos (by omega), if_neg (by omega)]
abbrev HA := S168
def hcv (x : HA) : HB := ⟨x.f0, x.f1, x.f2, x.f3⟩
theorem rdHA {l : List HA} {i : Nat} {x : HA} (h : l[i]? = some x) : rd_T168 l (i : Int) = x := getD_at h
theorem szHeardS_eq (l : List HA) (n : Int) (h : l.length ≤ maxLen) (h0 : 0 ≤ n) (h1 : n ≤ 1048576) : laws_szHeardS.f l n = some (if (l.length : Int) ≤ n then n - l.length else -1) := by
 unfold maxLen at h
 simp only [laws_szHeardS.f]
 rw [w64 (by omega) (by omega)]
 by_cases hl : (l.length : Int) ≤ n
 ·rw [if_neg (by omega), if_pos hl]
 ·rw [if_pos (by omega), if_neg hl]
def cardSize (o : List Bool) (m : List MA) (t : List HA) : Int := (o.length : Int) + ((m.length : Int) + inLen m) + t.length
theorem szCard_ev (o : List Bool) (m : List MA) (t : List HA) (n : Int) (ho : o.length ≤ maxLen) (h : m.length ≤ maxLen) (hm : ∀ x ∈ m, x.f1.length ≤ maxLen) (ht : t.length ≤ maxLen) (h0 : 0 ≤ n) (h1 : n ≤ 1048576) :
  Ev (fun k => laws_szCard.f k o m t n) (if cardSize o m t ≤ n then n - cardSize o m t else -1) := by
 have hin := inLen_nonneg m
 have ec : cardSize o m t = (o.length : Int) + ((m.length : Int) + inLen m) + t.length := rfl
 rw [ec]
 simp only [laws_szCard.f, szBoolS_eq o n ho h0 h1, Option.bind_some]
 by_cases e1 : (o.length : Int) ≤ n
 ·simp only [if_pos e1, if_neg (show ¬ n - (o.length : Int) < 0 by omega)]
  have hs := szMemberS_ev m (n - o.length) h hm (by omega) (by omega)
  by_cases e2 : (m.length : Int) + inLen m ≤ n - o.length
  ·rw [if_pos e2] at hs
   refine Ev.bind hs ?_
   simp only [if_neg (show ¬ n - (o.length : Int) - (m.length : Int) - inLen m < 0 by omega)]
   rw [szHeardS_eq t _ ht (by omega) (by omega)]
   simp only [Option.bind_some]
   by_cases e3 : (t.length : Int) ≤ n - (o.length : Int) - (m.length : Int) - inLen m
   ·simp only [if_pos e3]
    refine ev_some fun k => ?_
    rw [if_neg (by omega), if_pos (by omega)]
    congr 1
    omega
   ·simp only [if_neg e3]
    refine ev_some fun k => ?_
    rw [if_pos (by omega), if_neg (by omega)]
  ·rw [if_neg e2] at hs
   refine Ev.bind hs (ev_some fun k => ?_)
   rw [if_pos (by omega), if_neg (by omega)]
 ·simp only [if_neg e1]
  refine ev_some fun k => ?_
  rw [if_pos (by omega), if_neg (by omega)]
theorem rdBo {l : List Bool} {i : Nat} {x : Bool} (h : l[i]? = some x) : rdOf false l (i : Int) = x := getD_at h
theorem toBoolS_ev (l : List Bool) (h : l.length ≤ 4194304) : Ev (fun k => laws_toBoolS.f k l) l := by
 have h0 := ev_copy l false (fun x => x) (fun k acc i => laws_toBoolS.l0 k l acc i)
  (fun acc ha => ev_end fun k => by simp only [laws_toBoolS.l0]; rw [if_neg (by omega)])
  (fun i acc x r ha hi hx ih => Ev.step (fun k => by
   simp only [laws_toBoolS.l0]
   rw [if_pos (by omega), if_pos (by omega), if_pos (by omega), rdBo hx, w64_succ (by omega)]
   simp) ih)
 rw [List.map_id'] at h0
 refine Ev.congr (fun k => ?_) h0
 simp only [laws_toBoolS.f]
 rw [if_pos (by omega), if_pos (by simp; omega)]
 simp
theorem toIntS_ev (l : List Int) (h : l.length ≤ 4194304) : Ev (fun k => laws_toIntS.f k l) l := by
 have h0 := ev_copy l (0 : Int) (fun x => x) (fun k acc i => laws_toIntS.l0 k l acc i)
  (fun acc ha => ev_end fun k => by simp only [laws_toIntS.l0]; rw [if_neg (by omega)])
  (fun i acc x r ha hi hx ih => Ev.step (fun k => by
   simp only [laws_toIntS.l0]
   rw [if_pos (by omega), if_pos (by omega), if_pos (by omega), rd_at hx, w64_succ (by omega)]
   simp) ih)
 rw [List.map_id'] at h0
 refine Ev.congr (fun k => ?_) h0
 simp only [laws_toIntS.f]
 rw [if_pos (by omega), if_pos (by simp; omega)]
 simp
theorem toMember_ev (a : Int) (l : List Int) (h : l.length ≤ 4194304) : Ev (fun k => laws_toMember.f k a l) (a, l) := by
 simp only [laws_toMember.f]
 exact Ev.bind (toIntS_ev l h) (ev_some fun _ => rfl)
theorem toMemberS_ev (l : List MA) (h : l.length ≤ 4194304) (hm : ∀ x ∈ l, x.f1.length ≤ 4194304) : Ev (fun k => laws_toMemberS.f k l) (l.map mcv) := by
 have h0 := ev_copy l z63 mcv (fun k acc i => laws_toMemberS.l0 k l acc i)
  (fun acc ha => ev_end fun k => by simp only [laws_toMemberS.l0]; rw [if_neg (by omega)])
  (fun i acc x r ha hi hx ih => by
   refine Ev.step (f := fun k => (laws_toMember.f k x.f0 x.f1).bind fun bt => (if (i : Int) < (acc.length : Int) then (laws_toMemberS.l0 k l (acc.set i (⟨bt.1, bt.2⟩ : MB)) ((i + 1 : Nat) : Int)) else (none))) (fun k => ?_) (Ev.bind (toMember_ev x.f0 x.f1 (hm x (List.mem_of_getElem? hx))) ?_)
   ·simp only [laws_toMemberS.l0]
    rw [if_pos (by omega), if_pos (by omega), rdMA hx, w64_succ (by omega)]
    simp
   ·refine Ev.congr (fun k => ?_) ih
    rw [if_pos (by omega)]
    rfl)
 refine Ev.congr (fun k => ?_) h0
 simp only [laws_toMemberS.f]
 rw [if_pos (by omega), if_pos (by simp; omega)]
 simp
theorem toHeardS_ev (l : List HA) (h : l.length ≤ 4194304) : Ev (fun k => laws_toHeardS.f k l) (l.map hcv) := by
 have h0 := ev_copy l z138 hcv (fun k acc i => laws_toHeardS.l0 k l acc i)
  (fun acc ha => ev_end fun k => by simp only [laws_toHeardS.l0]; rw [if_neg (by omega)])
  (fun i acc x r ha hi hx ih => Ev.step (fun k => by
   simp only [laws_toHeardS.l0, laws_toHeard.f, Option.bind_some]
   rw [if_pos (by omega), if_pos (by omega), if_pos (by omega), rdHA hx, w64_succ (by omega)]
   simp [hcv]) ih)
 refine Ev.congr (fun k => ?_) h0
 simp only [laws_toHeardS.f]
 rw [if_pos (by omega), if_pos (by simp; omega)]
 simp
theorem toCard_ev (o : List Bool) (m : List MA) (t : List HA) (ho : o.length ≤ 4194304) (h : m.length ≤ 4194304) (hm : ∀ x ∈ m, x.f1.length ≤ 4194304) (ht : t.length ≤ 4194304) : Ev (fun k => laws_toCard.f k o m t) (o, m.map mcv, t.map hcv) := by
 simp only [laws_toCard.f]
 exact Ev.bind (toBoolS_ev o ho) (Ev.bind (toMemberS_ev m h hm) (Ev.bind (toHeardS_ev t ht) (ev_some fun _ => rfl)))
theorem eqBoolS_ev (l : List Bool) (h : l.length ≤ 4194304) : Ev (fun k => laws_eqBoolS.f k l l) true := by
 have h0 := ev_list0 l (fun k i => laws_eqBoolS.l0 k l l i) (fun _ => true)
  (ev_end fun k => by simp only [laws_eqBoolS.l0]; rw [if_neg (by omega)])
  (fun i x t hi _ hx ih => Ev.step (fun k => by
   simp only [laws_eqBoolS.l0, bne_self_eq_false, Bool.false_eq_true, if_false]
   rw [if_pos (by omega), if_pos (by omega), if_pos (by omega), w64_succ (by omega)]) ih)
 refine Ev.congr (fun k => ?_) h0
 simp [laws_eqBoolS.f]
theorem eqIntS_ev (l : List Int) (h : l.length ≤ 4194304) : Ev (fun k => laws_eqIntS.f k l l) true := by
 have h0 := ev_list0 l (fun k i => laws_eqIntS.l0 k l l i) (fun _ => true)
  (ev_end fun k => by simp only [laws_eqIntS.l0]; rw [if_neg (by omega)])
  (fun i x t hi _ hx ih => Ev.step (fun k => by
   simp only [laws_eqIntS.l0]
   rw [if_pos (by omega), if_pos (by omega), if_pos (by omega), w64_succ (by omega)]
   try simp) ih)
 refine Ev.congr (fun k => ?_) h0
 simp [laws_eqIntS.f]
theorem eqMember_ev (a : Int) (l : List Int) (h : l.length ≤ 4194304) : Ev (fun k => laws_eqMember.f k a l a l) true := by
 simp only [laws_eqMember.f, if_true]
 exact Ev.bind (eqIntS_ev l h) (ev_some fun _ => rfl)
theorem eqMemberS_ev (l : List MB) (h : l.length ≤ 4194304) (hm : ∀ x ∈ l, x.f1.length ≤ 4194304) : Ev (fun k => laws_eqMemberS.f k l l) true := by
 have h0 := ev_list0 l (fun k i => laws_eqMemberS.l0 k l l i) (fun _ => true)
  (ev_end fun k => by simp only [laws_eqMemberS.l0]; rw [if_neg (by omega)])
  (fun i x t hi _ hx ih => by
   refine Ev.step (f := fun k => (laws_eqMember.f k x.f0 x.f1 x.f0 x.f1).bind fun t217 => (if t217 = true then (laws_eqMemberS.l0 k l l ((i + 1 : Nat) : Int)) else (some false))) (fun k => ?_) (Ev.bind (eqMember_ev x.f0 x.f1 (hm x (List.mem_of_getElem? hx))) ?_)
   ·simp only [laws_eqMemberS.l0]
    rw [if_pos (by omega), if_pos (by omega), if_pos (by omega), rdMB hx, w64_succ (by omega)]
   ·refine Ev.congr (fun k => ?_) ih
    rw [if_pos rfl])
 refine Ev.congr (fun k => ?_) h0
 simp [laws_eqMemberS.f]
theorem eqHeardS_ev (l : List HB) (h : l.length ≤ 4194304) : Ev (fun k => laws_eqHeardS.f k l l) true := by
 have h0 := ev_list0 l (fun k i => laws_eqHeardS.l0 k l l i) (fun _ => true)
  (ev_end fun k => by simp only [laws_eqHeardS.l0]; rw [if_neg (by omega)])
  (fun i x t hi _ hx ih => Ev.step (fun k => by
   simp only [laws_eqHeardS.l0, laws_eqHeard.f]
   rw [if_pos (by omega), if_pos (by omega), if_pos (by omega), w64_succ (by omega)]
   simp) ih)
 refine Ev.congr (fun k => ?_) h0
 simp [laws_eqHeardS.f]
theorem eqCard_ev (o : List Bool) (m : List MB) (t : List HB) (ho : o.length ≤ 4194304) (h : m.length ≤ 4194304) (hm : ∀ x ∈ m, x.f1.length ≤ 4194304) (ht : t.length ≤ 4194304) : Ev (fun k => laws_eqCard.f k o m t o m t) true := by
 simp only [laws_eqCard.f]
 refine Ev.bind (eqBoolS_ev o ho) ?_
 simp only [if_true]
 refine Ev.bind (eqMemberS_ev m h hm) ?_
 simp only [if_true]
 refine Ev.bind (eqHeardS_ev t ht) (ev_some fun _ => rfl)
def bmk (_ : Bool) (n : Int) : Bool := Int.tmod n 3 == 0
theorem markBoolS_ev (l : List Bool) (h : l.length ≤ 4194304) (m : Int) (h0 : 0 ≤ m) (h1 : m ≤ 1125899906842624) : Ev (fun k => laws_markBoolS.f k l m) (m + costs (fun _ => 1) l, upsG bmk (fun _ => 1) m l) :=
 ev_mark l bmk (fun _ => 1) (fun _ _ => by decide) (fun k acc n i => laws_markBoolS.l0 k acc n i)
  (fun acc n ha => ev_end fun k => by simp only [laws_markBoolS.l0]; rw [if_neg (by omega)])
  (fun i acc n x r ha hi _ hx hn hb ih => Ev.step (fun k => by
   simp only [laws_markBoolS.l0, bmk]
   rw [if_pos (by omega), if_pos (by omega), w64_succ (by omega), w64 (by omega) (by omega)]
   simp) ih) m h0 (by rw [costs_const]; omega)
theorem heldBoolS_ev (l : List Bool) (h : l.length ≤ 4194304) (m : Int) (h0 : 0 ≤ m) (h1 : m ≤ 1125899906842624) : Ev (fun k => laws_heldBoolS.f k (upsG bmk (fun _ => 1) m l) m) (m + costs (fun _ => 1) l) :=
 ev_held l bmk (fun _ => 1) (fun _ _ => by decide) (fun k acc n i => laws_heldBoolS.l0 k acc n i)
  (fun acc n ha => ev_end fun k => by simp only [laws_heldBoolS.l0]; rw [if_neg (by omega)])
  (fun i acc n x r ha hi _ hx hn hb ih => Ev.step (fun k => by
   have e : rdOf false acc (i : Int) = (Int.tmod n 3 == 0) := getD_at hx
   simp only [laws_heldBoolS.l0, e, bne_self_eq_false, Bool.false_eq_true, if_false]
   rw [if_pos (by omega), if_pos (by omega), w64_succ (by omega), w64 (by omega) (by omega)]) ih) m h0 (by rw [costs_const]; omega)
def upsI (m : Int) (l : List Int) : List Int := upsG (fun _ n => n) (fun _ => 1) m l
theorem upsI_length (l : List Int) (m : Int) : (upsI m l).length = l.length := upsG_length _ _ _ _
theorem markIntS_ev (l : List Int) (m : Int) (h : l.length ≤ 4194304) (h0 : 0 ≤ m) (h1 : m ≤ 1125899906842624) : Ev (fun k => laws_markIntS.f k l m) (m + l.length, upsI m l) := by
 have hh := ev_mark l (fun _ n => n) (fun _ => 1) (fun _ _ => by decide) (fun k acc n i => laws_markIntS.l0 k acc n i)
  (fun acc n ha => ev_end fun k => by simp only [laws_markIntS.l0]; rw [if_neg (by omega)])
  (fun i acc n x r ha hi _ hx hn hb ih => Ev.step (fun k => by
   simp only [laws_markIntS.l0]
   rw [if_pos (by omega), if_pos (by omega), w64_succ (by omega), w64 (by omega) (by omega)]
   simp) ih) m h0 (by rw [costs_const]; omega)
 rw [costs_const] at hh
 simpa [laws_markIntS.f, upsI] using hh
theorem markIntX_ev (l : List Int) (m : Int) (h : l.length ≤ 4194304) (h0 : 0 ≤ m) (h1 : m + l.length ≤ 1152921504606846976) : Ev (fun k => laws_markIntS.f k l m) (m + l.length, upsI m l) := by
 have hh := ev_mark l (fun _ n => n) (fun _ => 1) (fun _ _ => by decide) (fun k acc n i => laws_markIntS.l0 k acc n i)
  (fun acc n ha => ev_end fun k => by simp only [laws_markIntS.l0]; rw [if_neg (by omega)])
  (fun i acc n x r ha hi _ hx hn hb ih => Ev.step (fun k => by
   simp only [laws_markIntS.l0]
   rw [if_pos (by omega), if_pos (by omega), w64_succ (by omega), w64 (by omega) (by omega)]
   simp) ih) m h0 (by rw [costs_const]; omega)
 rw [costs_const] at hh
 simpa [laws_markIntS.f, upsI] using hh
theorem heldIntX_ev (l : List Int) (m : Int) (h : l.length ≤ 4194304) (h0 : 0 ≤ m) (h1 : m + l.length ≤ 1152921504606846976) : Ev (fun k => laws_heldIntS.f k (upsI m l) m) (m + l.length) := by
 have hh := ev_held l (fun _ n => n) (fun _ => 1) (fun _ _ => by decide) (fun k acc n i => laws_heldIntS.l0 k acc n i)
  (fun acc n ha => ev_end fun k => by simp only [laws_heldIntS.l0]; rw [if_neg (by omega)])
  (fun i acc n x r ha hi _ hx hn hb ih => Ev.step (fun k => by
   simp only [laws_heldIntS.l0]
   rw [if_pos (by omega), if_pos (by omega), rd_at hx, w64_succ (by omega), w64 (by omega) (by omega)]
   simp) ih) m h0 (by rw [costs_const]; omega)
 rw [costs_const] at hh
 simpa [laws_heldIntS.f, upsI] using hh
def mmk (x : MB) (n : Int) : MB := ⟨n, upsI (n + 1) x.f1⟩
def mco (x : MB) : Int := 1 + x.f1.length
theorem mco_nonneg (x : MB) : 0 ≤ mco x := by unfold mco; omega
theorem rdMB_set {l : List MB} {i : Nat} (h : i < l.length) (v : MB) : rd_T63 (l.set i v) (i : Int) = v := rdMB (by simp [h])
theorem markMemberS_ev (l : List MB) (h : l.length ≤ 4194304) (hm : ∀ x ∈ l, x.f1.length ≤ 4194304) (m : Int) (h0 : 0 ≤ m) (h1 : m + costs mco l ≤ 1125899906842624) : Ev (fun k => laws_markMemberS.f k l m) (m + costs mco l, upsG mmk mco m l) := by
 refine ev_mark l mmk mco (fun x _ => mco_nonneg x) (fun k acc n i => laws_markMemberS.l0 k acc n i) (fun acc n ha => ?_) (fun i acc n x r ha hi hxl hx hn hb ih => ?_) m h0 (by omega)
 ·refine ev_end fun k => ?_
  simp only [laws_markMemberS.l0]
  rw [if_neg (by omega)]
 ·have hxm := hm x hxl
  have hb2 : n + (1 + (x.f1.length : Int)) ≤ 1152921504606846976 := hb
  refine Ev.step (fun _ => rfl) ?_
  have hs := fun v => rdMB_set (l := acc) (i := i) (by omega) v
  simp only [laws_markMemberS.l0, if_pos (show (i : Int) < (acc.length : Int) by omega), if_pos (show (0 : Int) ≤ (i : Int) by omega), w64_succ (show (i : Int) < 4611686018427387904 by omega), Option.bind_some, Int.toNat_natCast, hs, rdMB hx, List.set_set]
  rw [w64 (by omega) (by omega)]
  refine Ev.bind (markIntX_ev x.f1 (n + 1) hxm (by omega) (by omega)) ?_
  have e : n + 1 + (x.f1.length : Int) = n + mco x := by unfold mco; omega
  dsimp only
  rw [e]
  exact ih
theorem heldMemberS_ev (l : List MB) (h : l.length ≤ 4194304) (hm : ∀ x ∈ l, x.f1.length ≤ 4194304) (m : Int) (h0 : 0 ≤ m) (h1 : m + costs mco l ≤ 1125899906842624) : Ev (fun k => laws_heldMemberS.f k (upsG mmk mco m l) m) (m + costs mco l) := by
 refine ev_held l mmk mco (fun x _ => mco_nonneg x) (fun k acc n i => laws_heldMemberS.l0 k acc n i) (fun acc n ha => ?_) (fun i acc n x r ha hi hxl hx hn hb ih => ?_) m h0 (by omega)
 ·refine ev_end fun k => ?_
  simp only [laws_heldMemberS.l0]
  rw [if_neg (by omega)]
 ·have hxm := hm x hxl
  have hb2 : n + (1 + (x.f1.length : Int)) ≤ 1152921504606846976 := hb
  refine Ev.step (fun _ => rfl) ?_
  simp only [laws_heldMemberS.l0, if_pos (show (i : Int) < (acc.length : Int) by omega), if_pos (show (0 : Int) ≤ (i : Int) by omega), w64_succ (show (i : Int) < 4611686018427387904 by omega), rdMB hx, mmk, if_true]
  rw [w64 (by omega) (by omega)]
  refine Ev.bind (heldIntX_ev x.f1 (n + 1) hxm (by omega) (by omega)) ?_
  have e : n + 1 + (x.f1.length : Int) = n + mco x := by unfold mco; omega
  rw [e]
  simp only [if_neg (show ¬ n + mco x < 0 by have := mco_nonneg x; omega)]
  exact ih
theorem costs_inLen (l : List MA) : costs mco (l.map mcv) = (l.length : Int) + inLen l := by
 induction l with
 | nil => simp [costs, inLen]
 | cons x t ih =>
  simp only [List.map_cons, costs, ih, inLen, mco, mcv, List.length_cons]
  omega
def hmk (_ : HB) (n : Int) : HB := ⟨n, n + 1, n + 1 + 1, n + 1 + 1 + 1⟩
theorem rdHB_set {l : List HB} {i : Nat} (h : i < l.length) (v : HB) : rd_T138 (l.set i v) (i : Int) = v := rdHB (by simp [h])
theorem markHeardS_ev (l : List HB) (h : l.length ≤ 4194304) (m : Int) (h0 : 0 ≤ m) (h1 : m ≤ 1125899906842624) : Ev (fun k => laws_markHeardS.f k l m) (m + costs (fun _ => 4) l, upsG hmk (fun _ => 4) m l) := by
 refine ev_mark l hmk (fun _ => 4) (fun _ _ => by decide) (fun k acc n i => laws_markHeardS.l0 k acc n i) (fun acc n ha => ?_) (fun i acc n x r ha hi _ hx hn hb ih => ?_) m h0 (by rw [costs_const]; omega)
 ·refine ev_end fun k => ?_
  simp only [laws_markHeardS.l0]
  rw [if_neg (by omega)]
 ·refine Ev.step (fun k => ?_) ih
  have hs := fun v => rdHB_set (l := acc) (i := i) (by omega) v
  simp only [laws_markHeardS.l0]
  rw [if_pos (by omega), if_pos (by omega), w64_succ (by omega)]
  simp (disch := omega) only [Option.bind_some, Int.toNat_natCast, hs, List.set_set, w64, hmk]
  have e : n + 4 = n + 1 + 1 + 1 + 1 := by omega
  rw [e]
theorem heldHeardS_ev (l : List HB) (h : l.length ≤ 4194304) (m : Int) (h0 : 0 ≤ m) (h1 : m ≤ 1125899906842624) : Ev (fun k => laws_heldHeardS.f k (upsG hmk (fun _ => 4) m l) m) (m + costs (fun _ => 4) l) := by
 refine ev_held l hmk (fun _ => 4) (fun _ _ => by decide) (fun k acc n i => laws_heldHeardS.l0 k acc n i) (fun acc n ha => ?_) (fun i acc n x r ha hi _ hx hn hb ih => ?_) m h0 (by rw [costs_const]; omega)
 ·refine ev_end fun k => ?_
  simp only [laws_heldHeardS.l0]
  rw [if_neg (by omega)]
 ·refine Ev.step (fun k => ?_) ih
  simp only [laws_heldHeardS.l0]
  rw [if_pos (by omega), if_pos (by omega), w64_succ (by omega), rdHB hx]
  simp (disch := omega) only [w64, hmk, if_true]
  have e : n + 4 = n + 1 + 1 + 1 + 1 := by omega
  rw [e]
def cardCost (o : List Bool) (m : List MB) (t : List HB) : Int := costs (fun _ => 1) o + (costs mco m + costs (fun _ => 4) t)
theorem cardCost_nonneg (o : List Bool) (m : List MB) (t : List HB) : 0 ≤ cardCost o m t := by
 have h1 := costs_nonneg (fun _ : Bool => 1) o (fun _ _ => by decide)
 have h2 := costs_nonneg mco m (fun x _ => mco_nonneg x)
 have h3 := costs_nonneg (fun _ : HB => 4) t (fun _ _ => by decide)
 unfold cardCost
 omega
theorem markCard_ev (o : List Bool) (m : List MB) (t : List HB) (ho : o.length ≤ 4194304) (h : m.length ≤ 4194304) (hm : ∀ x ∈ m, x.f1.length ≤ 4194304) (ht : t.length ≤ 4194304) (n : Int) (h0 : 0 ≤ n) (h1 : n + cardCost o m t ≤ 1125899906842624) :
  Ev (fun k => laws_markCard.f k o m t n) (n + cardCost o m t, upsG bmk (fun _ => 1) n o, upsG mmk mco (n + costs (fun _ => 1) o) m, upsG hmk (fun _ => 4) (n + costs (fun _ => 1) o + costs mco m) t) := by
 have c1 := costs_nonneg (fun _ : Bool => 1) o (fun _ _ => by decide)
 have c2 := costs_nonneg mco m (fun x _ => mco_nonneg x)
 have c3 := costs_nonneg (fun _ : HB => 4) t (fun _ _ => by decide)
 unfold cardCost at h1 ⊢
 simp only [laws_markCard.f]
 refine Ev.bind (markBoolS_ev o ho n h0 (by omega)) ?_
 refine Ev.bind (markMemberS_ev m h hm _ (by omega) (by omega)) ?_
 refine Ev.bind (markHeardS_ev t ht _ (by omega) (by omega)) ?_
 refine ev_some fun _ => ?_
 simp only [Option.some.injEq, Prod.mk.injEq, and_true]
 omega
theorem heldCard_ev (o : List Bool) (m : List MB) (t : List HB) (ho : o.length ≤ 4194304) (h : m.length ≤ 4194304) (hm : ∀ x ∈ m, x.f1.length ≤ 4194304) (ht : t.length ≤ 4194304) (n : Int) (h0 : 0 ≤ n) (h1 : n + cardCost o m t ≤ 1125899906842624) :
  Ev (fun k => laws_heldCard.f k (upsG bmk (fun _ => 1) n o) (upsG mmk mco (n + costs (fun _ => 1) o) m) (upsG hmk (fun _ => 4) (n + costs (fun _ => 1) o + costs mco m) t) n) (n + cardCost o m t) := by
 have c1 := costs_nonneg (fun _ : Bool => 1) o (fun _ _ => by decide)
 have c2 := costs_nonneg mco m (fun x _ => mco_nonneg x)
 have c3 := costs_nonneg (fun _ : HB => 4) t (fun _ _ => by decide)
 unfold cardCost at h1 ⊢
 simp only [laws_heldCard.f]
 refine Ev.bind (heldBoolS_ev o ho n h0 (by omega)) ?_
 simp only [if_neg (show ¬ n + costs (fun _ => 1) o < 0 by omega)]
 refine Ev.bind (heldMemberS_ev m h hm _ (by omega) (by omega)) ?_
 simp only [if_neg (show ¬ n + costs (fun _ => 1) o + costs mco m < 0 by omega)]
 refine Ev.bind (heldHeardS_ev t ht _ (by omega) (by omega)) ?_
 simp only [if_neg (show ¬ n + costs (fun _ => 1) o + costs mco m + costs (fun _ => 4) t < 0 by omega)]
 refine ev_some fun _ => ?_
 simp only [Option.some.injEq]
 omega
theorem gateM_sizes (o : List Bool) (m : List MB) (t : List HB) (p : Int) (on : Bool) : (gateM o m t p on).1.length = o.length ∧ (gateM o m t p on).2.1 = m ∧ (gateM o m t p on).2.2.length ≤ t.length := by
 unfold gateM
 split
 ·exact ⟨by simp, rfl, List.length_filter_le _ _⟩
 ·exact ⟨rfl, rfl, Nat.le_refl _⟩
theorem FnExactGate : FnExactGatePure := by
 intro o m t p on ho hm ht hp
 have hmm : ∀ x ∈ m, x.f1.length ≤ maxLen := fun x hx => (hm.2 x hx).2.1
 have hsz := szCard_ev o m t 1048576 ho.1 hm.1 hmm ht.1 (by omega) (by omega)
 refine Ev.rounds ?_
 simp only [laws_FnExactGate.f]
 refine Ev.bind hsz ?_
 by_cases hbig : ¬ (cardSize o m t ≤ 1048576)
 ·exact ev_some fun _ => by simp [hbig]
 have hbig : cardSize o m t ≤ 1048576 := by omega
 simp only [if_pos hbig, if_neg (show ¬ (1048576 : Int) - cardSize o m t < 0 by omega)]
 have hin := inLen_nonneg m
 have hbb := hbig
 unfold cardSize at hbb
 have hm4 : ∀ x ∈ m, x.f1.length ≤ 4194304 := fun x hx => by have := inLen_le m x hx; omega
 have hm4' : ∀ x ∈ m.map mcv, x.f1.length ≤ 4194304 := by
  intro x hx
  obtain ⟨y, hy, rfl⟩ := List.mem_map.1 hx
  exact hm4 y hy
 have l1 : o.length ≤ 4194304 := by omega
 have l2 : m.length ≤ 4194304 := by omega
 have l3 : t.length ≤ 4194304 := by omega
 have l2' : (m.map mcv).length ≤ 4194304 := by simp; omega
 have l3' : (t.map hcv).length ≤ 4194304 := by simp; omega
 have hcm := costs_inLen m
 have hco : costs (fun _ => 1) o = 1 * (o.length : Int) := costs_const 1 o
 have hct : costs (fun _ => 4) (t.map hcv) = 4 * ((t.map hcv).length : Int) := costs_const 4 _
 have hlt : ((t.map hcv).length : Int) = t.length := by simp
 refine Ev.bind (toCard_ev o m t l1 l2 hm4 l3) ?_
 dsimp only
 generalize m.map mcv = M at hm4' l2' hcm ⊢
 generalize t.map hcv = T at l3' hct hlt ⊢
 refine Ev.bind (specGate_ev o M T p on l1 l2' hm4' l3') ?_
 refine Ev.bind (gate_ev o M T p on l1 l2' hm4' l3') ?_
 obtain ⟨g1, g2, g3⟩ := gateM_sizes o M T p on
 generalize gateM o M T p on = G at g1 g2 g3 ⊢
 obtain ⟨go, gm, gt⟩ := G
 dsimp only at g1 g2 g3 ⊢
 subst g2
 refine Ev.bind (eqCard_ev go gm gt (by omega) l2' hm4' (by omega)) ?_
 simp only [if_true]
 refine Ev.bind (eqCard_ev o gm T l1 l2' hm4' l3') ?_
 simp only [if_true]
 have k1 := cardCost_nonneg o gm T
 have k2 := cardCost_nonneg go gm gt
 have hco2 : costs (fun _ => 1) go = 1 * (go.length : Int) := costs_const 1 go
 have hct2 : costs (fun _ => 4) gt = 4 * (gt.length : Int) := costs_const 4 _
 refine Ev.bind (markCard_ev o gm T l1 l2' hm4' l3' 1 (by omega) (by unfold cardCost; omega)) ?_
 simp only [if_neg (show ¬ 1 + cardCost o gm T < 0 by omega)]
 refine Ev.bind (markCard_ev go gm gt (by omega) l2' hm4' (by omega) 1 (by omega) (by unfold cardCost; omega)) ?_
 refine Ev.bind (heldCard_ev go gm gt (by omega) l2' hm4' (by omega) 1 (by omega) (by unfold cardCost; omega)) ?_
 simp only [if_neg (show ¬ 1 + cardCost go gm gt < 0 by omega), if_true]
 exact ev_some fun _ => rfl
end Go.Proofs.Ythmijfekdeagpaa.Pure

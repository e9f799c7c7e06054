/- The statement of laws.FnExactWhere over numbers and lists alone: at every input it answers true. No condition but that the numbers are those of their kinds and that no slice is longer than a Go slice can be. -/
import Derived.Test.YtahpnabiobemoaaPFnExactWherex2
import Derived.Test.YtahpnabiobemoaaBase
set_option linter.unusedVariables false
set_option linter.unusedSimpArgs false
namespace Go.Proofs.Ytahpnabiobemoaa.Pure
open Go.RowKit Go.Proofs.Ytahpnabiobemoaa.PFnExactWhere Go.Proofs.Ytahpnabiobemoaa.Base Go.Proofs.YtahpnabiobemoaaW.PrintWords Go.Proofs.YtahpnabiobemoaaW.PrintLast Go.Proofs.YtahpnabiobemoaaW.PrintMore
def FnExactWherePure : Prop := ∀ (l0 : List (S80)) (a1 : Int) (a2 : Int), (l0.length ≤ maxLen ∧ ∀ x ∈ l0, ((Lit.int .i64 x.f0).wf = true) ∧ ((Lit.int .i64 x.f1).wf = true) ∧ ((Lit.int .i64 x.f2).wf = true) ∧ ((Lit.int .i64 x.f3).wf = true)) → ((Lit.int .i64 a1).wf = true) → ((Lit.int .i64 a2).wf = true) → ∃ k, laws_FnExactWhere.f k l0 a1 a2 = some true
abbrev HA := S80
abbrev HB := S78
/-- The program's own of a given one. -/
def hcv (x : HA) : HB := ⟨x.f0, x.f1, x.f2, x.f3⟩
theorem rdHA {l : List HA} {i : Nat} {x : HA} (h : l[i]? = some x) : rd_T80 l (i : Int) = x := getD_at h
theorem rdHB {l : List HB} {i : Nat} {x : HB} (h : l[i]? = some x) : rd_T78 l (i : Int) = x := getD_at h
def whereM (a v : Int) : List HB → Int × Bool
  | [] => (0, false)
  | x :: t => if x.f0 = a ∧ x.f1 = v then (x.f2, true) else whereM a v t
theorem specWhere_ev (l : List HB) (a v : Int) (h : l.length ≤ 4194304) : Ev (fun k => spec_Where.f k l a v) (whereM a v l) := by
  refine ev_list0 l (fun k i => spec_Where.l0 k l a v i) (whereM a v)
    (ev_end fun k => by simp only [spec_Where.l0]; rw [if_neg (by omega)]; rfl)
    (fun i x t hi _ hx ih => ?_)
  by_cases h1 : x.f0 = a
  · by_cases h2 : x.f1 = v
    · refine ev_end fun k => ?_
      simp only [spec_Where.l0]
      rw [if_pos (by omega), if_pos (by omega), rdHB hx, if_pos h1, if_pos h2, whereM, if_pos ⟨h1, h2⟩]
    · rw [whereM, if_neg (by simp [h2])]
      refine Ev.step (fun k => ?_) ih
      simp only [spec_Where.l0]
      rw [if_pos (by omega), if_pos (by omega), rdHB hx, if_pos h1, if_neg h2, w64_succ (by omega)]
  · rw [whereM, if_neg (by simp [h1])]
    refine Ev.step (fun k => ?_) ih
    simp only [spec_Where.l0]
    rw [if_pos (by omega), if_pos (by omega), rdHB hx, if_neg h1, w64_succ (by omega)]
theorem implWhere_ev (l : List HB) (a v : Int) (h : l.length ≤ 4194304) : Ev (fun k => impl_Where.f k l a v) (whereM a v l) := by
  refine ev_list0 l (fun k i => impl_Where.l0 k a v l (l.length : Int) i) (whereM a v)
    (ev_end fun k => by simp only [impl_Where.l0]; rw [if_neg (by omega)]; rfl)
    (fun i x t hi _ hx ih => ?_)
  by_cases h1 : x.f0 = a
  · by_cases h2 : x.f1 = v
    · refine ev_end fun k => ?_
      simp only [impl_Where.l0]
      rw [if_pos (by omega), if_pos (by omega), if_pos (by omega), rdHB hx, if_pos h1, if_pos h2, whereM, if_pos ⟨h1, h2⟩]
    · rw [whereM, if_neg (by simp [h2])]
      refine Ev.step (fun k => ?_) ih
      simp only [impl_Where.l0]
      rw [if_pos (by omega), if_pos (by omega), if_pos (by omega), rdHB hx, if_pos h1, if_neg h2, w64_succ (by omega)]
  · rw [whereM, if_neg (by simp [h1])]
    refine Ev.step (fun k => ?_) ih
    simp only [impl_Where.l0]
    rw [if_pos (by omega), if_pos (by omega), if_pos (by omega), rdHB hx, if_neg h1, w64_succ (by omega)]
theorem szHeardS_eq (l : List HA) (n : Int) (h : l.length ≤ maxLen) (h0 : 0 ≤ n) (h1 : n ≤ 1048576) : laws_szHeardS.f l n = some (if (l.length : Int) ≤ n then n - l.length else -1) := by
  unfold maxLen at h
  simp only [laws_szHeardS.f]
  rw [w64 (by omega) (by omega)]
  by_cases hl : (l.length : Int) ≤ n
  · rw [if_neg (by omega), if_pos hl]
  · rw [if_pos (by omega), if_neg hl]
theorem toHeardS_ev (l : List HA) (h : l.length ≤ 4194304) : Ev (fun k => laws_toHeardS.f k l) (l.map hcv) := by
  have h0 := ev_copy l z78 hcv (fun k acc i => laws_toHeardS.l0 k l acc i)
    (fun acc ha => ev_end fun k => by simp only [laws_toHeardS.l0]; rw [if_neg (by omega)])
    (fun i acc x r ha hi hx ih => Ev.step (fun k => by
      simp only [laws_toHeardS.l0, laws_toHeard.f, Option.bind_some]
      rw [if_pos (by omega), if_pos (by omega), if_pos (by omega), rdHA hx, w64_succ (by omega)]
      simp [hcv]) ih)
  refine Ev.congr (fun k => ?_) h0
  simp only [laws_toHeardS.f]
  rw [if_pos (by omega), if_pos (by simp; omega)]
  simp
theorem eqHeardS_ev (l : List HB) (h : l.length ≤ 4194304) : Ev (fun k => laws_eqHeardS.f k l l) true := by
  have h0 := ev_list0 l (fun k i => laws_eqHeardS.l0 k l l i) (fun _ => true)
    (ev_end fun k => by simp only [laws_eqHeardS.l0]; rw [if_neg (by omega)])
    (fun i x t hi _ hx ih => Ev.step (fun k => by
      simp only [laws_eqHeardS.l0, laws_eqHeard.f]
      rw [if_pos (by omega), if_pos (by omega), if_pos (by omega), w64_succ (by omega)]
      simp) ih)
  refine Ev.congr (fun k => ?_) h0
  simp [laws_eqHeardS.f]
theorem FnExactWhere : FnExactWherePure := by
  intro l a v hl _ _
  have hsz := szHeardS_eq l 1048576 hl.1 (by omega) (by omega)
  by_cases hbig : ¬ ((l.length : Int) ≤ 1048576)
  · exact ⟨0, by simp [laws_FnExactWhere.f, hsz, hbig]⟩
  have hbig : (l.length : Int) ≤ 1048576 := by omega
  obtain ⟨K1, h1⟩ := toHeardS_ev l (by omega)
  obtain ⟨K2, h2⟩ := specWhere_ev (l.map hcv) a v (by simp; omega)
  obtain ⟨K3, h3⟩ := implWhere_ev (l.map hcv) a v (by simp; omega)
  obtain ⟨K4, h4⟩ := eqHeardS_ev (l.map hcv) (by simp; omega)
  refine ⟨K1 + K2 + K3 + K4 + 1, ?_⟩
  have e : ¬ ((1048576 : Int) - l.length < 0) := by omega
  simp (disch := omega) [laws_FnExactWhere.f, laws_FnExactWhere.j0, h1, h2, h3, h4, hsz, hbig, e]
end Go.Proofs.Ytahpnabiobemoaa.Pure

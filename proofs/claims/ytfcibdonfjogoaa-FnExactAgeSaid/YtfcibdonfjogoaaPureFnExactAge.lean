/- The statement of laws.FnExactAge over numbers and lists alone: at every input it answers true. No condition but that the numbers are those of their kinds and that no slice is longer than a Go slice can be. -/
import Derived.Test.YtfcibdonfjogoaaMFnExactAge
import Derived.Test.YtfcibdonfjogoaaBase
set_option linter.unusedVariables false
set_option linter.unusedSimpArgs false
namespace Go.Proofs.Ytfcibdonfjogoaa.Pure
open Go.RowKit Go.Proofs.Ytfcibdonfjogoaa.PFnExactAge Go.Proofs.Ytfcibdonfjogoaa.Base Go.Proofs.YtfcibdonfjogoaaW.PrintWords Go.Proofs.YtfcibdonfjogoaaW.PrintLast Go.Proofs.YtfcibdonfjogoaaW.PrintMore
def FnExactAgePure : Prop := ∀ (l0 : List (S101)), (l0.length ≤ maxLen ∧ ∀ x ∈ l0, ((Lit.int .i64 x.f0).wf = true) ∧ ((Lit.int .i64 x.f1).wf = true) ∧ ((Lit.int .i64 x.f2).wf = true) ∧ ((Lit.int .i64 x.f3).wf = true)) → ∃ k, laws_FnExactAge.f k l0 = some true
abbrev HA := S101
abbrev HB := S70
/-- The program's own of a given one. -/
def hcv (x : HA) : HB := ⟨x.f0, x.f1, x.f2, x.f3⟩
theorem rdHA {l : List HA} {i : Nat} {x : HA} (h : l[i]? = some x) : rd_T101 l (i : Int) = x := getD_at h
theorem rdHB {l : List HB} {i : Nat} {x : HB} (h : l[i]? = some x) : rd_T70 l (i : Int) = x := getD_at h
def ageM : List HB → List HB
  | [] => []
  | x :: t => if x.f3 > 1 then ⟨x.f0, x.f1, x.f2, x.f3 - 1⟩ :: ageM t else ageM t
theorem ageM_length : ∀ l : List HB, (ageM l).length ≤ l.length := by
  intro l
  induction l with
  | nil => simp [ageM]
  | cons x t ih =>
    simp only [ageM]
    split <;> simp <;> omega
theorem specAge_ev (l : List HB) (h : l.length ≤ 4194304) (hw : ∀ x ∈ l, x.f3 ≤ 9223372036854775807) : Ev (fun k => spec_Age.f k l) (ageM l) := by
  have := ev_list l (fun k (acc : List HB) i => spec_Age.l0 k l acc i) (fun acc t => acc ++ ageM t) (fun i acc => acc.length ≤ i)
    (fun acc hI => ev_end fun k => by simp only [spec_Age.l0]; rw [if_neg (by omega)]; simp [ageM])
    (fun i acc x t hI hi _ hx ih => by
      have hwx := hw x (List.mem_of_getElem? hx)
      by_cases hp : x.f3 > 1
      · have e : acc ++ ageM (x :: t) = (acc ++ [⟨x.f0, x.f1, x.f2, x.f3 - 1⟩]) ++ ageM t := by simp [ageM, hp]
        rw [e]
        refine Ev.step (fun k => ?_) (ih (acc ++ [⟨x.f0, x.f1, x.f2, x.f3 - 1⟩]) (by simp; omega))
        simp only [spec_Age.l0]
        rw [if_pos (by omega), if_pos (by omega), rdHB hx, if_pos hp, if_pos (by omega), w64_succ (by omega), w64 (by omega) (by omega)]
      · have e : acc ++ ageM (x :: t) = acc ++ ageM t := by simp [ageM, hp]
        rw [e]
        refine Ev.step (fun k => ?_) (ih acc (by omega))
        simp only [spec_Age.l0]
        rw [if_pos (by omega), if_pos (by omega), rdHB hx, if_neg hp, w64_succ (by omega)])
    [] (by simp)
  simpa [spec_Age.f] using this
theorem implAge_ev (l : List HB) (h : l.length ≤ 4194304) (hw : ∀ x ∈ l, x.f3 ≤ 9223372036854775807) : Ev (fun k => impl_Age.f k l) (ageM l) := by
  have := ev_list l (fun k (acc : List HB) i => impl_Age.l0 k acc l (l.length : Int) i) (fun acc t => acc ++ ageM t) (fun i acc => acc.length ≤ i)
    (fun acc hI => ev_end fun k => by simp only [impl_Age.l0]; rw [if_neg (by omega)]; simp [ageM])
    (fun i acc x t hI hi _ hx ih => by
      have hwx := hw x (List.mem_of_getElem? hx)
      by_cases hp : x.f3 > 1
      · have e : acc ++ ageM (x :: t) = (acc ++ [⟨x.f0, x.f1, x.f2, x.f3 - 1⟩]) ++ ageM t := by simp [ageM, hp]
        rw [e]
        refine Ev.step (fun k => ?_) (ih (acc ++ [⟨x.f0, x.f1, x.f2, x.f3 - 1⟩]) (by simp; omega))
        simp only [impl_Age.l0]
        rw [if_pos (by omega), if_pos (by omega), if_pos (by omega), rdHB hx, if_pos hp, if_pos (by omega), w64_succ (by omega), w64 (by omega) (by omega)]
      · have e : acc ++ ageM (x :: t) = acc ++ ageM t := by simp [ageM, hp]
        rw [e]
        refine Ev.step (fun k => ?_) (ih acc (by omega))
        simp only [impl_Age.l0]
        rw [if_pos (by omega), if_pos (by omega), if_pos (by omega), rdHB hx, if_neg hp, w64_succ (by omega)])
    [] (by simp)
  simpa [impl_Age.f] using this
theorem szHeardS_eq (l : List HA) (n : Int) (h : l.length ≤ maxLen) (h0 : 0 ≤ n) (h1 : n ≤ 1048576) : laws_szHeardS.f l n = some (if (l.length : Int) ≤ n then n - l.length else -1) := by
  unfold maxLen at h
  simp only [laws_szHeardS.f]
  rw [w64 (by omega) (by omega)]
  by_cases hl : (l.length : Int) ≤ n
  · rw [if_neg (by omega), if_pos hl]
  · rw [if_pos (by omega), if_neg hl]
theorem toHeardS_ev (l : List HA) (h : l.length ≤ 4194304) : Ev (fun k => laws_toHeardS.f k l) (l.map hcv) := by
  have h0 := ev_copy l z70 hcv (fun k acc i => laws_toHeardS.l0 k l acc i)
    (fun acc ha => ev_end fun k => by simp only [laws_toHeardS.l0]; rw [if_neg (by omega)])
    (fun i acc x r ha hi hx ih => Ev.step (fun k => by
      simp only [laws_toHeardS.l0, laws_toHeard.f, Option.bind_some]
      rw [if_pos (by omega), if_pos (by omega), if_pos (by omega), rdHA hx, w64_succ (by omega)]
      simp [hcv]) ih)
  refine Ev.congr (fun k => ?_) h0
  simp only [laws_toHeardS.f]
  rw [if_pos (by omega), if_pos (by simp; omega)]
  simp
theorem eqHeardS_ev (l : List HB) (h : l.length ≤ 4194304) : Ev (fun k => laws_eqHeardS.f k l l) true := by
  have h0 := ev_list0 l (fun k i => laws_eqHeardS.l0 k l l i) (fun _ => true)
    (ev_end fun k => by simp only [laws_eqHeardS.l0]; rw [if_neg (by omega)])
    (fun i x t hi _ hx ih => Ev.step (fun k => by
      simp only [laws_eqHeardS.l0, laws_eqHeard.f]
      rw [if_pos (by omega), if_pos (by omega), if_pos (by omega), w64_succ (by omega)]
      simp) ih)
  refine Ev.congr (fun k => ?_) h0
  simp [laws_eqHeardS.f]
def hmk (_ : HB) (n : Int) : HB := ⟨n, n + 1, n + 1 + 1, n + 1 + 1 + 1⟩
theorem rdHB_set {l : List HB} {i : Nat} (h : i < l.length) (v : HB) : rd_T70 (l.set i v) (i : Int) = v := rdHB (by simp [h])
theorem markHeardS_ev (l : List HB) (h : l.length ≤ 4194304) (m : Int) (h0 : 0 ≤ m) (h1 : m ≤ 1125899906842624) : Ev (fun k => laws_markHeardS.f k l m) (m + costs (fun _ => 4) l, upsG hmk (fun _ => 4) m l) := by
  refine ev_mark l hmk (fun _ => 4) (fun _ _ => by decide) (fun k acc n i => laws_markHeardS.l0 k acc n i) (fun acc n ha => ?_) (fun i acc n x r ha hi _ hx hn hb ih => ?_) m h0 (by rw [costs_const]; omega)
  · refine ev_end fun k => ?_
    simp only [laws_markHeardS.l0]
    rw [if_neg (by omega)]
  · refine Ev.step (fun k => ?_) ih
    have hs := fun v => rdHB_set (l := acc) (i := i) (by omega) v
    simp only [laws_markHeardS.l0]
    rw [if_pos (by omega), if_pos (by omega), w64_succ (by omega)]
    simp (disch := omega) only [Option.bind_some, Int.toNat_natCast, hs, List.set_set, w64, hmk]
    have e : n + 4 = n + 1 + 1 + 1 + 1 := by omega
    rw [e]
theorem heldHeardS_ev (l : List HB) (h : l.length ≤ 4194304) (m : Int) (h0 : 0 ≤ m) (h1 : m ≤ 1125899906842624) : Ev (fun k => laws_heldHeardS.f k (upsG hmk (fun _ => 4) m l) m) (m + costs (fun _ => 4) l) := by
  refine ev_held l hmk (fun _ => 4) (fun _ _ => by decide) (fun k acc n i => laws_heldHeardS.l0 k acc n i) (fun acc n ha => ?_) (fun i acc n x r ha hi _ hx hn hb ih => ?_) m h0 (by rw [costs_const]; omega)
  · refine ev_end fun k => ?_
    simp only [laws_heldHeardS.l0]
    rw [if_neg (by omega)]
  · refine Ev.step (fun k => ?_) ih
    simp only [laws_heldHeardS.l0]
    rw [if_pos (by omega), if_pos (by omega), w64_succ (by omega), rdHB hx]
    simp (disch := omega) only [w64, hmk, if_true]
    have e : n + 4 = n + 1 + 1 + 1 + 1 := by omega
    rw [e]
theorem FnExactAge : FnExactAgePure := by
  intro l hl
  have hsz := szHeardS_eq l 1048576 hl.1 (by omega) (by omega)
  by_cases hbig : ¬ ((l.length : Int) ≤ 1048576)
  · exact ⟨0, by simp [laws_FnExactAge.f, hsz, hbig]⟩
  have hbig : (l.length : Int) ≤ 1048576 := by omega
  have hlen : (l.map hcv).length ≤ 1048576 := by simp; omega
  have hfl : (ageM (l.map hcv)).length ≤ 1048576 := Nat.le_trans (ageM_length _) hlen
  have hw : ∀ x ∈ l.map hcv, x.f3 ≤ 9223372036854775807 := by
    intro x hx
    obtain ⟨y, hy, rfl⟩ := List.mem_map.1 hx
    exact (wf64 (hl.2 y hy).2.2.2).2
  obtain ⟨K1, h1⟩ := toHeardS_ev l (by omega)
  obtain ⟨K2, h2⟩ := specAge_ev (l.map hcv) (by omega) hw
  obtain ⟨K3, h3⟩ := implAge_ev (l.map hcv) (by omega) hw
  obtain ⟨K4, h4⟩ := eqHeardS_ev (l.map hcv) (by omega)
  obtain ⟨K5, h5⟩ := eqHeardS_ev (ageM (l.map hcv)) (by omega)
  obtain ⟨K6, h6⟩ := markHeardS_ev (l.map hcv) (by omega) 1 (by omega) (by omega)
  obtain ⟨K7, h7⟩ := markHeardS_ev (ageM (l.map hcv)) (by omega) 1 (by omega) (by omega)
  obtain ⟨K8, h8⟩ := heldHeardS_ev (ageM (l.map hcv)) (by omega) 1 (by omega) (by omega)
  have c1 := costs_nonneg (fun _ : HB => 4) (l.map hcv) (fun _ _ => by decide)
  have c2 := costs_nonneg (fun _ : HB => 4) (ageM (l.map hcv)) (fun _ _ => by decide)
  obtain ⟨S, hS⟩ : ∃ S, S = K1 + K2 + K3 + K4 + K5 + K6 + K7 + K8 := ⟨_, rfl⟩
  refine ⟨S + 1, ?_⟩
  have h1_0 := h1 S (by omega)
  have h1_1 := h1 (S + 1) (by omega)
  have h2_0 := h2 S (by omega)
  have h2_1 := h2 (S + 1) (by omega)
  have h3_0 := h3 S (by omega)
  have h3_1 := h3 (S + 1) (by omega)
  have h4_0 := h4 S (by omega)
  have h4_1 := h4 (S + 1) (by omega)
  have h5_0 := h5 S (by omega)
  have h5_1 := h5 (S + 1) (by omega)
  have h6_0 := h6 S (by omega)
  have h6_1 := h6 (S + 1) (by omega)
  have h7_0 := h7 S (by omega)
  have h7_1 := h7 (S + 1) (by omega)
  have h8_0 := h8 S (by omega)
  have h8_1 := h8 (S + 1) (by omega)
  clear h1 h2 h3 h4 h5 h6 h7 h8
  have e : ¬ ((1048576 : Int) - l.length < 0) := by omega
  have e1 : ¬ ((1 : Int) + costs (fun _ : HB => 4) (l.map hcv) < 0) := by omega
  have e2 : ¬ ((1 : Int) + costs (fun _ : HB => 4) (ageM (l.map hcv)) < 0) := by omega
  simp only [laws_FnExactAge.f, laws_FnExactAge.j0, h1_0, h1_1, h2_0, h2_1, h3_0, h3_1, h4_0, h4_1, h5_0, h5_1, h6_0, h6_1, h7_0, h7_1, h8_0, h8_1, hsz, hbig, e, e1, e2, Option.bind_some, if_true, if_false, Bool.not_true, Bool.false_eq_true]
end Go.Proofs.Ytfcibdonfjogoaa.Pure

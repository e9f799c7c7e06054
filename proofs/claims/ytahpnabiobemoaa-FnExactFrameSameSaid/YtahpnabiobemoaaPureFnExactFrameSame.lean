/- The statement of laws.FnExactFrameSame over numbers and lists alone: at every input it answers true. No condition but that the numbers are those of their kinds and that no slice is longer than a Go slice can be. -/
import Derived.Test.YtahpnabiobemoaaTFnExactFrameSame
import Derived.Test.YtahpnabiobemoaaBase
set_option linter.unusedVariables false
set_option linter.unusedSimpArgs false
namespace Go.Proofs.Ytahpnabiobemoaa.Pure
open Go.RowKit Go.Proofs.Ytahpnabiobemoaa.PFnExactFrameSame Go.Proofs.Ytahpnabiobemoaa.Base Go.Proofs.YtahpnabiobemoaaW.PrintWords Go.Proofs.YtahpnabiobemoaaW.PrintLast Go.Proofs.YtahpnabiobemoaaW.PrintMore
def FnExactFrameSamePure : Prop := ∀ (a0_0 : Int) (a0_1 : Int) (a0_2 : Int) (l0_3 : List (Int)) (a1_0 : Int) (a1_1 : Int) (a1_2 : Int) (l1_3 : List (Int)), ((Lit.int .i64 a0_0).wf = true) → ((Lit.int .i64 a0_1).wf = true) → ((Lit.int .i64 a0_2).wf = true) → (l0_3.length ≤ maxLen ∧ ∀ x ∈ l0_3, (Lit.int .u8 x).wf = true) → ((Lit.int .i64 a1_0).wf = true) → ((Lit.int .i64 a1_1).wf = true) → ((Lit.int .i64 a1_2).wf = true) → (l1_3.length ≤ maxLen ∧ ∀ x ∈ l1_3, (Lit.int .u8 x).wf = true) → ∃ k, laws_FnExactFrameSame.f k a0_0 a0_1 a0_2 l0_3 a1_0 a1_1 a1_2 l1_3 = some true
theorem szByteS_eq (l : List Int) (n : Int) (h : l.length ≤ maxLen) (h0 : 0 ≤ n) (h1 : n ≤ 1048576) : laws_szByteS.f l n = some (if (l.length : Int) ≤ n then n - l.length else -1) := by
  unfold maxLen at h
  simp only [laws_szByteS.f]
  rw [w64 (by omega) (by omega)]
  by_cases hl : (l.length : Int) ≤ n
  · rw [if_neg (by omega), if_pos hl]
  · rw [if_pos (by omega), if_neg hl]
theorem szFrame_eq (a b c : Int) (l : List Int) (n : Int) (h : l.length ≤ maxLen) (h0 : 0 ≤ n) (h1 : n ≤ 1048576) : laws_szFrame.f a b c l n = some (if (l.length : Int) ≤ n then n - l.length else -1) := by
  simp only [laws_szFrame.f, szByteS_eq l n h h0 h1, Option.bind_some]
  split
  · split <;> simp_all
    omega
  · simp
theorem toByteS_ev (l : List Int) (h : l.length ≤ 4194304) : Ev (fun k => laws_toByteS.f k l) l := by
  have h0 := ev_copy l (0 : Int) (fun x => x) (fun k acc i => laws_toByteS.l0 k l acc i)
    (fun acc ha => ev_end fun k => by simp only [laws_toByteS.l0]; rw [if_neg (by omega)])
    (fun i acc x r ha hi hx ih => Ev.step (fun k => by
      simp only [laws_toByteS.l0]
      rw [if_pos (by omega), if_pos (by omega), if_pos (by omega), rd_at hx, w64_succ (by omega)]
      simp) ih)
  rw [List.map_id'] at h0
  refine Ev.congr (fun k => ?_) h0
  simp only [laws_toByteS.f]
  rw [if_pos (by omega), if_pos (by simp; omega)]
  simp
theorem toFrame_ev (a b c : Int) (l : List Int) (h : l.length ≤ 4194304) : Ev (fun k => laws_toFrame.f k a b c l) (a, b, c, l) := by
  simp only [laws_toFrame.f]
  exact Ev.bind (toByteS_ev l h) (ev_some fun _ => rfl)
theorem eqByteS_ev (l : List Int) (h : l.length ≤ 4194304) : Ev (fun k => laws_eqByteS.f k l l) true := by
  have h0 := ev_list0 l (fun k i => laws_eqByteS.l0 k l l i) (fun _ => true)
    (ev_end fun k => by simp only [laws_eqByteS.l0]; rw [if_neg (by omega)])
    (fun i x t hi _ hx ih => Ev.step (fun k => by
      simp only [laws_eqByteS.l0]
      rw [if_pos (by omega), if_pos (by omega), if_pos (by omega), w64_succ (by omega)]
      try simp) ih)
  refine Ev.congr (fun k => ?_) h0
  simp [laws_eqByteS.f]
theorem eqFrame_ev (a b c : Int) (l : List Int) (h : l.length ≤ 4194304) : Ev (fun k => laws_eqFrame.f k a b c l a b c l) true := by
  simp only [laws_eqFrame.f, if_true]
  exact Ev.bind (eqByteS_ev l h) (ev_some fun _ => rfl)
theorem frameSame_eq (a b c : Int) (l : List Int) (a' b' c' : Int) (l' : List Int) : impl_FrameSame.f a b c l a' b' c' l' = spec_FrameSame.f a b c l a' b' c' l' := by
  simp [impl_FrameSame.f, spec_FrameSame.f, bytes_Equal.f]
theorem frameSame_some (a b c : Int) (l : List Int) (a' b' c' : Int) (l' : List Int) : ∃ r, spec_FrameSame.f a b c l a' b' c' l' = some r := by
  simp only [spec_FrameSame.f]
  (repeat' split) <;> exact ⟨_, rfl⟩
theorem FnExactFrameSame : FnExactFrameSamePure := by
  intro a b c l a' b' c' l' _ _ _ hl _ _ _ hl'
  have hsz := szFrame_eq a b c l 1048576 hl.1 (by omega) (by omega)
  by_cases hbig : ¬ ((l.length : Int) ≤ 1048576)
  · exact ⟨0, by simp [laws_FnExactFrameSame.f, hsz, hbig]⟩
  have hbig : (l.length : Int) ≤ 1048576 := by omega
  have hsz' := szFrame_eq a' b' c' l' (1048576 - l.length) hl'.1 (by omega) (by omega)
  have e : ¬ ((1048576 : Int) - l.length < 0) := by omega
  by_cases hbig' : ¬ ((l'.length : Int) ≤ 1048576 - l.length)
  · exact ⟨0, by simp [laws_FnExactFrameSame.f, hsz, hbig, hsz', hbig', e]⟩
  have hbig' : (l'.length : Int) ≤ 1048576 - l.length := by omega
  have e' : ¬ ((1048576 : Int) - l.length - l'.length < 0) := by omega
  obtain ⟨r, hr⟩ := frameSame_some a b c l a' b' c' l'
  obtain ⟨K1, h1⟩ := toFrame_ev a b c l (by omega)
  obtain ⟨K2, h2⟩ := eqFrame_ev a b c l (by omega)
  obtain ⟨K3, h3⟩ := toFrame_ev a' b' c' l' (by omega)
  obtain ⟨K4, h4⟩ := eqFrame_ev a' b' c' l' (by omega)
  obtain ⟨S, hS⟩ : ∃ S, S = K1 + K2 + K3 + K4 := ⟨_, rfl⟩
  refine ⟨S, ?_⟩
  have h1_0 := h1 S (by omega)
  have h2_0 := h2 S (by omega)
  have h3_0 := h3 S (by omega)
  have h4_0 := h4 S (by omega)
  clear h1 h2 h3 h4
  simp only [laws_FnExactFrameSame.f, h1_0, h2_0, h3_0, h4_0, hsz, hsz', hbig, hbig', e, e', frameSame_eq, hr, Option.bind_some, if_true, if_false, bne_self_eq_false, Bool.false_eq_true]
end Go.Proofs.Ytahpnabiobemoaa.Pure

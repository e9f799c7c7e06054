/- The statement of laws.FnExactFrameOk over numbers and lists alone: at every input it answers true. No condition but that the numbers are those of their kinds and that no slice is longer than a Go slice can be. -/
import Derived.Test.YtahpnabiobemoaaPFnExactFrameOkx2
import Derived.Test.YtahpnabiobemoaaBase
set_option linter.unusedVariables false
set_option linter.unusedSimpArgs false
namespace Go.Proofs.Ytahpnabiobemoaa.Pure
open Go.RowKit Go.Proofs.Ytahpnabiobemoaa.PFnExactFrameOk Go.Proofs.Ytahpnabiobemoaa.Base Go.Proofs.YtahpnabiobemoaaW.PrintWords Go.Proofs.YtahpnabiobemoaaW.PrintLast Go.Proofs.YtahpnabiobemoaaW.PrintMore
def FnExactFrameOkPure : Prop := ∀ (a0_0 : Int) (a0_1 : Int) (a0_2 : Int) (l0_3 : List (Int)), ((Lit.int .i64 a0_0).wf = true) → ((Lit.int .i64 a0_1).wf = true) → ((Lit.int .i64 a0_2).wf = true) → (l0_3.length ≤ maxLen ∧ ∀ x ∈ l0_3, (Lit.int .u8 x).wf = true) → ∃ k, laws_FnExactFrameOk.f k a0_0 a0_1 a0_2 l0_3 = some true
theorem szByteS_eq (l : List Int) (n : Int) (h : l.length ≤ maxLen) (h0 : 0 ≤ n) (h1 : n ≤ 1048576) : laws_szByteS.f l n = some (if (l.length : Int) ≤ n then n - l.length else -1) := by
  unfold maxLen at h
  simp only [laws_szByteS.f]
  rw [w64 (by omega) (by omega)]
  by_cases hl : (l.length : Int) ≤ n
  · rw [if_neg (by omega), if_pos hl]
  · rw [if_pos (by omega), if_neg hl]
theorem szFrame_eq (a b c : Int) (l : List Int) (n : Int) (h : l.length ≤ maxLen) (h0 : 0 ≤ n) (h1 : n ≤ 1048576) : laws_szFrame.f a b c l n = some (if (l.length : Int) ≤ n then n - l.length else -1) := by
  simp only [laws_szFrame.f, szByteS_eq l n h h0 h1, Option.bind_some]
  split
  · split <;> simp_all
    omega
  · simp
theorem toByteS_ev (l : List Int) (h : l.length ≤ 4194304) : Ev (fun k => laws_toByteS.f k l) l := by
  have h0 := ev_copy l (0 : Int) (fun x => x) (fun k acc i => laws_toByteS.l0 k l acc i)
    (fun acc ha => ev_end fun k => by simp only [laws_toByteS.l0]; rw [if_neg (by omega)])
    (fun i acc x r ha hi hx ih => Ev.step (fun k => by
      simp only [laws_toByteS.l0]
      rw [if_pos (by omega), if_pos (by omega), if_pos (by omega), rd_at hx, w64_succ (by omega)]
      simp) ih)
  rw [List.map_id'] at h0
  refine Ev.congr (fun k => ?_) h0
  simp only [laws_toByteS.f]
  rw [if_pos (by omega), if_pos (by simp; omega)]
  simp
theorem toFrame_ev (a b c : Int) (l : List Int) (h : l.length ≤ 4194304) : Ev (fun k => laws_toFrame.f k a b c l) (a, b, c, l) := by
  simp only [laws_toFrame.f]
  exact Ev.bind (toByteS_ev l h) (ev_some fun _ => rfl)
theorem eqByteS_ev (l : List Int) (h : l.length ≤ 4194304) : Ev (fun k => laws_eqByteS.f k l l) true := by
  have h0 := ev_list0 l (fun k i => laws_eqByteS.l0 k l l i) (fun _ => true)
    (ev_end fun k => by simp only [laws_eqByteS.l0]; rw [if_neg (by omega)])
    (fun i x t hi _ hx ih => Ev.step (fun k => by
      simp only [laws_eqByteS.l0]
      rw [if_pos (by omega), if_pos (by omega), if_pos (by omega), w64_succ (by omega)]
      try simp) ih)
  refine Ev.congr (fun k => ?_) h0
  simp [laws_eqByteS.f]
theorem eqFrame_ev (a b c : Int) (l : List Int) (h : l.length ≤ 4194304) : Ev (fun k => laws_eqFrame.f k a b c l a b c l) true := by
  simp only [laws_eqFrame.f, if_true]
  exact Ev.bind (eqByteS_ev l h) (ev_some fun _ => rfl)
def frameOk (a b c : Int) (l : List Int) : Bool := decide (0 ≤ a ∧ a ≤ 9 ∧ 1 ≤ b ∧ b ≤ 9 ∧ 0 ≤ c ∧ c ≤ 4 ∧ l.length ≤ 30)
theorem l1In_eq (x lo hi : Int) : spec_l1In.f x lo hi = some (decide (lo ≤ x ∧ x ≤ hi)) := by
  simp only [spec_l1In.f]
  by_cases h : lo ≤ x
  · rw [if_pos h]; simp [h]
  · rw [if_neg h]; simp [h]
theorem specFrameOk_eq (a b c : Int) (l : List Int) : spec_FrameOk.f a b c l = some (frameOk a b c l) := by
  simp only [spec_FrameOk.f, l1In_eq, Option.bind_some, frameOk]
  by_cases h1 : 0 ≤ a ∧ a ≤ 9 <;> by_cases h2 : 1 ≤ b ∧ b ≤ 9 <;> by_cases h3 : 0 ≤ c ∧ c ≤ 4 <;> by_cases h4 : l.length ≤ 30 <;> simp [h1, h2, h3, h4] <;> omega
theorem inRange_eq (x lo hi : Int) : impl_inRange.f x lo hi = some (decide (lo ≤ x ∧ x ≤ hi)) := by
  simp only [impl_inRange.f]
  by_cases h : lo ≤ x
  · rw [if_pos h]; simp [h]
  · rw [if_neg h]; simp [h]
theorem isAddr_eq (x : Int) : impl_isAddr.f x = some (decide (1 ≤ x ∧ x ≤ 9)) := by simp [impl_isAddr.f, inRange_eq]
theorem implFrameOk_eq (a b c : Int) (l : List Int) : impl_FrameOk.f a b c l = some (frameOk a b c l) := by
  simp only [impl_FrameOk.f, inRange_eq, isAddr_eq, Option.bind_some, frameOk]
  by_cases h1 : 0 ≤ a ∧ a ≤ 9 <;> by_cases h2 : 1 ≤ b ∧ b ≤ 9 <;> by_cases h3 : 0 ≤ c ∧ c ≤ 4 <;> by_cases h4 : l.length ≤ 30 <;> simp [h1, h2, h3, h4] <;> omega
theorem FnExactFrameOk : FnExactFrameOkPure := by
  intro a b c l _ _ _ hl
  have hsz := szFrame_eq a b c l 1048576 hl.1 (by omega) (by omega)
  by_cases hbig : ¬ ((l.length : Int) ≤ 1048576)
  · exact ⟨0, by simp [laws_FnExactFrameOk.f, hsz, hbig]⟩
  have hbig : (l.length : Int) ≤ 1048576 := by omega
  obtain ⟨K1, h1⟩ := toFrame_ev a b c l (by omega)
  obtain ⟨K2, h2⟩ := eqFrame_ev a b c l (by omega)
  refine ⟨K1 + K2, ?_⟩
  have e : ¬ ((1048576 : Int) - l.length < 0) := by omega
  simp (disch := omega) [laws_FnExactFrameOk.f, h1, h2, hsz, hbig, e, specFrameOk_eq, implFrameOk_eq]
end Go.Proofs.Ytahpnabiobemoaa.Pure

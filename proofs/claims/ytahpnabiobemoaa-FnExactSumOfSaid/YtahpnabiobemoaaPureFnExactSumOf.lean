/- The statement of laws.FnExactSumOf over numbers and lists alone: at every input it answers true. No condition but that the numbers are those of their kinds and that no slice is longer than a Go slice can be. -/
import Derived.Test.YtahpnabiobemoaaPFnExactSumOfx1
import Derived.Test.YtahpnabiobemoaaBase
set_option linter.unusedVariables false
set_option linter.unusedSimpArgs false
namespace Go.Proofs.Ytahpnabiobemoaa.Pure
open Go.RowKit Go.Proofs.Ytahpnabiobemoaa.PFnExactSumOf Go.Proofs.Ytahpnabiobemoaa.Base Go.Proofs.YtahpnabiobemoaaW.PrintWords Go.Proofs.YtahpnabiobemoaaW.PrintLast Go.Proofs.YtahpnabiobemoaaW.PrintMore
def FnExactSumOfPure : Prop := ∀ (l0 : List (Int)), (l0.length ≤ maxLen ∧ ∀ x ∈ l0, (Lit.int .u8 x).wf = true) → ∃ k, laws_FnExactSumOf.f k l0 = some true
/-- The two running sums. -/
def sumM (x y : Int) : List Int → Int
  | [] => y * 65536 + x
  | b :: t => sumM ((x + b) % 65521) ((y + (x + b) % 65521) % 65521) t
def sumOf (l : List Int) : Int := sumM 1 0 l
theorem specSumOf_ev (l : List Int) (h : l.length ≤ 4194304) (hb : ∀ x ∈ l, 0 ≤ x ∧ x < 256) : Ev (fun k => spec_SumOf.f k l) (sumOf l) := by
  have hh := ev_list l (fun k (s : Int × Int) i => spec_SumOf.l0 k l s.1 s.2 i) (fun s t => sumM s.1 s.2 t) (fun _ s => 0 ≤ s.1 ∧ s.1 < 65521 ∧ 0 ≤ s.2 ∧ s.2 < 65521)
    (fun s hI => by
      obtain ⟨x, y⟩ := s
      obtain ⟨a1, a2, a3, a4⟩ := hI
      dsimp only at a1 a2 a3 a4 ⊢
      refine ev_end fun k => ?_
      simp only [spec_SumOf.l0]
      rw [if_neg (by omega), w64 (x := y * 65536) (by omega) (by omega), w64 (by omega) (by omega)]
      rfl)
    (fun i s b t hI hi _ hx ih => by
      obtain ⟨x, y⟩ := s
      obtain ⟨a1, a2, a3, a4⟩ := hI
      dsimp only at a1 a2 a3 a4 ih ⊢
      have hbb := hb b (List.mem_of_getElem? hx)
      refine Ev.step (fun k => ?_) (ih ((x + b) % 65521, (y + (x + b) % 65521) % 65521) ⟨by dsimp only; omega, by dsimp only; omega, by dsimp only; omega, by dsimp only; omega⟩)
      simp only [spec_SumOf.l0]
      rw [if_pos (by omega), if_pos (by omega), rd_at hx, w64_succ (by omega), w64 (x := b) (by omega) (by omega), w64 (x := x + b) (by omega) (by omega), Int.tmod_eq_emod_of_nonneg (by omega), w64 (by omega) (by omega), Int.tmod_eq_emod_of_nonneg (by omega)])
    (1, 0) ⟨by simp, by simp, by simp, by simp⟩
  exact hh
theorem implSumOf_ev (l : List Int) (h : l.length ≤ 4194304) (hb : ∀ x ∈ l, 0 ≤ x ∧ x < 256) : Ev (fun k => impl_SumOf.f k l) (sumOf l) := by
  have hh := ev_list l (fun k (s : Int × Int) i => impl_SumOf.l0 k s.1 s.2 l (l.length : Int) i) (fun s t => sumM s.1 s.2 t) (fun _ s => 0 ≤ s.1 ∧ s.1 < 65521 ∧ 0 ≤ s.2 ∧ s.2 < 65521)
    (fun s hI => by
      obtain ⟨x, y⟩ := s
      obtain ⟨a1, a2, a3, a4⟩ := hI
      dsimp only at a1 a2 a3 a4 ⊢
      refine ev_end fun k => ?_
      simp only [impl_SumOf.l0]
      rw [if_neg (by omega), w64 (x := y * 65536) (by omega) (by omega), w64 (by omega) (by omega)]
      rfl)
    (fun i s b t hI hi _ hx ih => by
      obtain ⟨x, y⟩ := s
      obtain ⟨a1, a2, a3, a4⟩ := hI
      dsimp only at a1 a2 a3 a4 ih ⊢
      have hbb := hb b (List.mem_of_getElem? hx)
      refine Ev.step (fun k => ?_) (ih ((x + b) % 65521, (y + (x + b) % 65521) % 65521) ⟨by dsimp only; omega, by dsimp only; omega, by dsimp only; omega, by dsimp only; omega⟩)
      simp only [impl_SumOf.l0]
      rw [if_pos (by omega), if_pos (by omega), if_pos (by omega), rd_at hx, w64_succ (by omega), w64 (x := b) (by omega) (by omega), w64 (x := x + b) (by omega) (by omega), Int.tmod_eq_emod_of_nonneg (by omega), w64 (by omega) (by omega), Int.tmod_eq_emod_of_nonneg (by omega)])
    (1, 0) ⟨by simp, by simp, by simp, by simp⟩
  exact hh
theorem toByteS_ev (l : List Int) (h : l.length ≤ 4194304) : Ev (fun k => laws_toByteS.f k l) l := by
  have h0 := ev_copy l (0 : Int) (fun x => x) (fun k acc i => laws_toByteS.l0 k l acc i)
    (fun acc ha => ev_end fun k => by simp only [laws_toByteS.l0]; rw [if_neg (by omega)])
    (fun i acc x r ha hi hx ih => Ev.step (fun k => by
      simp only [laws_toByteS.l0]
      rw [if_pos (by omega), if_pos (by omega), if_pos (by omega), rd_at hx, w64_succ (by omega)]
      simp) ih)
  rw [List.map_id'] at h0
  refine Ev.congr (fun k => ?_) h0
  simp only [laws_toByteS.f]
  rw [if_pos (by omega), if_pos (by simp; omega)]
  simp
theorem eqByteS_ev (l : List Int) (h : l.length ≤ 4194304) : Ev (fun k => laws_eqByteS.f k l l) true := by
  have h0 := ev_list0 l (fun k i => laws_eqByteS.l0 k l l i) (fun _ => true)
    (ev_end fun k => by simp only [laws_eqByteS.l0]; rw [if_neg (by omega)])
    (fun i x t hi _ hx ih => Ev.step (fun k => by
      simp only [laws_eqByteS.l0]
      rw [if_pos (by omega), if_pos (by omega), if_pos (by omega), w64_succ (by omega)]
      try simp) ih)
  refine Ev.congr (fun k => ?_) h0
  simp [laws_eqByteS.f]
theorem FnExactSumOf : FnExactSumOfPure := by
  intro l hlw
  obtain ⟨_, hw⟩ := hlw
  by_cases hbig : (l.length : Int) > 1048576
  · exact ⟨0, by simp only [laws_FnExactSumOf.f]; rw [if_pos hbig]⟩
  have hl : l.length ≤ 4194304 := by omega
  obtain ⟨K1, h1⟩ := toByteS_ev l hl
  obtain ⟨K2, h2⟩ := specSumOf_ev l hl (fun x hx => wf8 (hw x hx))
  obtain ⟨K3, h3⟩ := implSumOf_ev l hl (fun x hx => wf8 (hw x hx))
  obtain ⟨K4, h4⟩ := eqByteS_ev l hl
  refine ⟨K1 + K2 + K3 + K4, ?_⟩
  simp (disch := omega) only [laws_FnExactSumOf.f, h1, h2, h3, h4, Option.bind_some, if_true]
  rw [if_neg hbig]
end Go.Proofs.Ytahpnabiobemoaa.Pure

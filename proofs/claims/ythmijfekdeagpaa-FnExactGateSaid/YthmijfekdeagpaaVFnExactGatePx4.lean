/- A part of the proof of laws.FnExactGate. No condition beyond what its theorems say. -/
import Derived.Test.YthmijfekdeagpaaVFnExactGatePx0
namespace Go.Proofs.Ythmijfekdeagpaa.PFnExactGate
open Go.RowKit Go.Proofs.YthmijfekdeagpaaW.PrintWords Go.Proofs.YthmijfekdeagpaaW.PrintLast Go.Proofs.YthmijfekdeagpaaW.PrintMore
set_option linter.unusedVariables false
set_option linter.unusedSimpArgs false

def spec_l5Copy.l0 : Nat → Int → List Bool → List (S63) → List (S138) → List Bool → List (S63) → List (S138) → Option (List Bool × (List (S63)) × (List (S138)))
 | 0, _, _, _, _, _, _, _ => none
 | k + 1, x4, aG, aA, aH, aD, aC, aE => if x4 < (aA.length : Int) then (if 0 ≤ x4 then ((some (([] : List Int) : List Int)).bind fun aI => (if aI.length + ((rd_T63 aA x4).f1).length < 17592186044416 then (if aC.length < 4398046511104 then (spec_l5Copy.l0 k (wrap64 (x4 + 1)) aG aA aH aD (aC ++ [(⟨(rd_T63 aA x4).f0, (aI ++ ((rd_T63 aA x4).f1))⟩ : S63)]) aE) else (none)) else (none))) else (none)) else (some (aD, aC, aE))
def spec_l5Copy.f (k : Nat) (aA : List Bool) (aG : List (S63)) (aC : List (S138)) : Option (List Bool × (List (S63)) × (List (S138))) := (some (([] : List Bool) : List Bool)).bind fun aD => (if aD.length + aA.length < 140737488355328 then ((some (([] : List (S138)) : List (S138))).bind fun aE => (if aE.length + aC.length < 4398046511104 then (spec_l5Copy.l0 k 0 aA aG aC (aD ++ aA) ([] : List (S63)) (aE ++ aC)) else (none))) else (none))
theorem spec_l5Copy.mono_l : ∀ k, (∀ y0 y1 y2 y3 y4 y5 y6, LeO (spec_l5Copy.l0 k y0 y1 y2 y3 y4 y5 y6) (spec_l5Copy.l0 (k + 1) y0 y1 y2 y3 y4 y5 y6))
 | 0 => fun _ _ _ _ _ _ _ r h => by simp [spec_l5Copy.l0] at h
 | k + 1 => by
  have ih0 := spec_l5Copy.mono_l k
  ·intro y0 y1 y2 y3 y4 y5 y6
   unfold spec_l5Copy.l0
   repeat' first|(with_reducible first|apply ih0|exact lR _|exact lN _|refine lI ?_ ?_|refine lB ?_ fun _ => ?_)|exact lN _|refine lI ?_ ?_|refine lB ?_ fun _ => ?_
theorem spec_l5Copy.mono : ∀ a0 a1 a2 k, LeO (spec_l5Copy.f k a0 a1 a2) (spec_l5Copy.f (k + 1) a0 a1 a2) := by
 intro a0 a1 a2 k
 have ih0 := spec_l5Copy.mono_l k
 unfold spec_l5Copy.f
 repeat' first|(with_reducible first|apply ih0|exact lR _|exact lN _|refine lI ?_ ?_|refine lB ?_ fun _ => ?_)|exact lN _|refine lI ?_ ?_|refine lB ?_ fun _ => ?_
def spec_l5Copy.T1 : Bool × List (List Nat × List Nat) := (true, [([], []), ([], []), ([1], [1]), ([0, 2], [0, 2]), ([], []), ([], []), ([5], [5]), ([4, 6, 3], [4, 6]), ([3, 7], [3, 7]), ([], []), ([9, 8, 7, 0, 1, 2, 3, 4, 5, 6, 7, 8, 9], [8, 9])])
def spec_l5Copy.B1 : List Nat := [0, 0, 2, 7, 0, 0, 32, 127, 255, 0, 1023]
theorem spec_l5Copy.tab1 : rtab .any (opsOf Try.f79 1) = spec_l5Copy.T1 := by kernel_rfl
theorem spec_l5Copy.bits1 : waitsOk spec_l5Copy.T1.2 spec_l5Copy.B1 = true := by kernel_rfl
def spec_l5Copy.T5 : Bool × List (List Nat × List Nat) := (true, [([], []), ([0], [0]), ([], []), ([2], [2]), ([], []), ([3, 4], [3, 4]), ([5], [5]), ([6], [6]), ([], []), ([], []), ([9], [9]), ([], []), ([10, 11], [10, 11]), ([12], [12]), ([13], [13]), ([8, 14], [8, 14]), ([7, 15], [7, 15]), ([16], [16]), ([1, 17, 15], [1, 17]), ([0, 1, 2, 3, 4, 5, 6, 7, 8, 9, 10, 11, 12, 13, 14, 15, 16, 17, 18], []), ([19, 18, 18, 0, 1, 2, 3, 4, 5, 6, 7, 8, 9, 10, 11, 12, 13, 14, 15, 16, 17, 18], [18, 19])])
def spec_l5Copy.B5 : List Nat := [0, 1, 0, 4, 0, 28, 60, 124, 0, 0, 512, 0, 3584, 7680, 15872, 32512, 65532, 131068, 262143, 524287, 1048575]
theorem spec_l5Copy.tab5 : rtab .any (opsOf Try.f79 5) = spec_l5Copy.T5 := by kernel_rfl
theorem spec_l5Copy.bits5 : waitsOk spec_l5Copy.T5.2 spec_l5Copy.B5 = true := by kernel_rfl
set_option maxHeartbeats 60000000 in
set_option maxRecDepth 100000 in
theorem spec_l5Copy.calls (k : Nat) (aX : Option Addr) (bA : Nat) (aT : List Bool) (bK : Option Addr) (bD : Nat) (aH : List (S63)) (bI : Option Addr) (bJ : Nat) (aV : List (S138)) (r1 : List Bool) (r2 : List (S63)) (r3 : List (S138)) (w : World) (hr0_0 : Kd.C Kd.bool w aX aT.length aT) (hc0_0 : aT.length ≤ bA) (hr0_1 : Kd.C k63 w bK aH.length aH) (hc0_1 : aH.length ≤ bD) (hr0_2 : Kd.C k138 w bI aV.length aV) (hc0_2 : aV.length ≤ bJ) (h : spec_l5Copy.f k aT aH aV = some (r1, r2, r3)) :
  Calls Try.prog 79 #[.agg #[.slice aX aT.length bA, .slice bK aH.length bD, .slice bI aV.length bJ]] w fun e w' => ∃ fX fY gA : Value, e = .returned (.agg #[fX, fY, gA]) ∧ Kd.R Kd.bool 4 w' w.heap.size (fun _ => True) fX r1 ∧ Kd.S k63 63 w' w.heap.size (fun _ => True) fY r2 ∧ Kd.R k138 138 w' w.heap.size (fun _ => True) gA r3 ∧ Below w.heap.size w w' := by
 have iI := Try.underlying43
 have iJ := Try.underlying63
 have dV := aM hr0_0
 have gS := aM hc0_0
 clear hr0_0 hc0_0
 have fA := aM hr0_1
 have gT := aM hc0_1
 clear hr0_1 hc0_1
 have fB := aM hr0_2
 have gU := aM hc0_2
 clear hr0_2 hc0_2
 have HB := aM (Below.refl w.heap.size w)
 have H : ((some (([] : List Bool) : List Bool)).bind fun cN => (if cN.length + aT.length < 140737488355328 then ((some (([] : List (S138)) : List (S138))).bind fun cK => (if cK.length + aV.length < 4398046511104 then (spec_l5Copy.l0 k 0 aT aH aV (cN ++ aT) ([] : List (S63)) (cK ++ aV)) else (none))) else (none))) = some (r1, r2, r3) := h
 clear h
 obtain ⟨cN, fC, H⟩ := hS H
 have dA := aM fC
 clear fC
 by_cases c2 : cN.length + aT.length < 140737488355328
 case neg =>
  rw [if_neg c2] at H
  exact absurd H (by simp)
 rw [if_pos c2] at H
 have LMc2 := aM c2
 clear c2
 obtain ⟨bW, dK⟩ : ∃ y_ : List Bool, y_ = (cN ++ aT) := ⟨_, rfl⟩
 replace H : ((some (([] : List (S138)) : List (S138))).bind fun cK => (if cK.length + aV.length < 4398046511104 then (spec_l5Copy.l0 k 0 aT aH aV bW ([] : List (S63)) (cK ++ aV)) else (none))) = some (r1, r2, r3) := by first | (rw [dK]; with_reducible exact H) | (have H2_ := (Option.bind_some _ _).symm.trans H; rw [dK]; with_reducible exact H2_) | (have H2_ := (Option.bind_some _ _).symm.trans H; with_reducible exact H2_) | with_reducible exact H | (rw [dK]; exact H) | exact H
 have dW := aM dK
 clear dK
 obtain ⟨cK, fD, H⟩ := hS H
 have cR := aM fD
 clear fD
 by_cases c3 : cK.length + aV.length < 4398046511104
 case neg =>
  rw [if_neg c3] at H
  exact absurd H (by simp)
 rw [if_pos c3] at H
 have LMc3 := aM c3
 clear c3
 obtain ⟨cL, dL⟩ : ∃ y_ : List (S138), y_ = (cK ++ aV) := ⟨_, rfl⟩
 replace H : (spec_l5Copy.l0 k 0 aT aH aV bW ([] : List (S63)) cL) = some (r1, r2, r3) := by first | (rw [dL]; with_reducible exact H) | (have H2_ := (Option.bind_some _ _).symm.trans H; rw [dL]; with_reducible exact H2_) | (have H2_ := (Option.bind_some _ _).symm.trans H; with_reducible exact H2_) | with_reducible exact H | (rw [dL]; exact H) | exact H
 have fE := aM dL
 clear dL
 have H' := aM H
 clear H
 go_enter Try.func79, Try.ntmps79
 try go_wp2_with (first | ((with_reducible refine gD (N := 1) rfl ?_); refine bE (N := 1) (cs := #[.slice aX aT.length bA, .slice bK aH.length bD, .slice bI aV.length bJ]) (t := 43) ?_; intro aC hg w4 hbox hb; have aA := aM (hbox); have gV := gF hg HB; have gW := gF hg HB; replace HB := rS HB hb; clear hb hbox hg) | ((with_reducible refine gD (N := 2) rfl ?_); refine bE (N := 2) (cs := #[.slice none 0 0, .slice none 0 0, .slice none 0 0]) (t := 43) ?_; intro aI hg w5 hbox hb; have aD := aM (hbox); have gX := gF hg HB; have gY := gF hg HB; have dR := nM hg aA; have dS := nH hg aA; replace aA := rB aA hb; replace HB := rS HB hb; clear hb hbox hg))
 replace aA := aM (blk_drew aA.out)
 replace aD := aM (blk_drew aD.out)
 replace HB := aM (below_drew1 HB.out)
 refine start_ (n := 11) (S := fun w' => cS3 w' aC (.slice aX aT.length bA) (.slice bK aH.length bD) (.slice bI aV.length bJ)) (ds := []) (dn 11 0) (by kernel_rfl) rfl rfl ⟨cI aA.out 0, cI aA.out 1, cI aA.out 2⟩ (fun hHeld => ?_); refine with_tabW spec_l5Copy.tab1 spec_l5Copy.bits1 (fun HT_ HW_ => ?_)
 generalize w5.drew = w6 at aA aD HB hHeld ⊢
 refine pZ 1 6 (bv 11 2) HT_ ?_
 refine pZ 5 10 (bv 11 34) HT_ ?_
 refine aZ 2 7 (bv 11 38) HT_ HW_ hHeld ?_
 refine aZ 6 11 (bv 11 102) HT_ HW_ hHeld ?_
 refine join_ (σ := Value × Value × Value × Value × Nat) 1 (bv 11 1023) (fun s_ => [(5, s_.1), (8, s_.2.1), (9, s_.2.2.1), (12, s_.2.2.2.1), (3, .pointer (some ⟨s_.2.2.2.2, 0, none⟩)), (13, .agg #[s_.2.1, .slice none 0 0, s_.2.2.2.1])]) (fun s_ w' => (w'.cell? ⟨aC, 0, none⟩ = some (.slice aX aT.length bA) ∧ w'.cell? ⟨aC, 1, none⟩ = some (.slice bK aH.length bD) ∧ w'.cell? ⟨aC, 2, none⟩ = some (.slice bI aV.length bJ)) ∧ (Kd.R Kd.bool 4 w' w.heap.size (fun _ => True) s_.2.1 bW) ∧ (Kd.R k138 138 w' w.heap.size (fun _ => True) s_.2.2.2.1 cL) ∧ (w'.heap[aC]? = some (.cells #[.slice aX aT.length bA, .slice bK aH.length bD, .slice bI aV.length bJ] 43 (0, 0))) ∧ (w'.heap[aI]? = some (.cells #[.slice none 0 0, .slice none 0 0, .slice none 0 0] 43 (0, 0))) ∧ (w'.heap[s_.2.2.2.2]? = some (.cells #[.slice none 0 0, .slice none 0 0, .slice none 0 0] 43 (0, 0))) ∧ (w.heap.size ≤ s_.2.2.2.2) ∧ (w.heap.size ≤ s_.2.2.2.2) ∧ (aC ≠ s_.2.2.2.2) ∧ (s_.2.2.2.2 ≠ aC) ∧ (aI ≠ s_.2.2.2.2) ∧ (s_.2.2.2.2 ≠ aI) ∧ (Below w.heap.size w w')) ?_ ?_
 rotate_left
 ·intro hJ0_3_4_7_9
  refine join_ (σ := Value × Value × Value × Value) 2 (bv 11 511) (fun s_ => [(5, s_.1), (8, s_.2.1), (9, s_.2.2.1), (12, s_.2.2.2), (13, .agg #[s_.2.1, .slice none 0 0, s_.2.2.2])]) (fun s_ w' => (w'.cell? ⟨aC, 0, none⟩ = some (.slice aX aT.length bA) ∧ w'.cell? ⟨aC, 1, none⟩ = some (.slice bK aH.length bD) ∧ w'.cell? ⟨aC, 2, none⟩ = some (.slice bI aV.length bJ)) ∧ (Kd.R Kd.bool 4 w' w.heap.size (fun _ => True) s_.2.1 bW) ∧ (Kd.R k138 138 w' w.heap.size (fun _ => True) s_.2.2.2 cL) ∧ (w'.heap[aC]? = some (.cells #[.slice aX aT.length bA, .slice bK aH.length bD, .slice bI aV.length bJ] 43 (0, 0))) ∧ (w'.heap[aI]? = some (.cells #[.slice none 0 0, .slice none 0 0, .slice none 0 0] 43 (0, 0))) ∧ (Below w.heap.size w w')) ?_ ?_
  rotate_left
  ·intro hJ0_3_4_7
   refine join_ (σ := Value × Value × Value × Nat) 3 (bv 11 639) (fun s_ => [(5, s_.1), (8, s_.2.1), (9, s_.2.2.1), (3, .pointer (some ⟨s_.2.2.2, 0, none⟩))]) (fun s_ w' => (w'.cell? ⟨aC, 0, none⟩ = some (.slice aX aT.length bA) ∧ w'.cell? ⟨aC, 1, none⟩ = some (.slice bK aH.length bD) ∧ w'.cell? ⟨aC, 2, none⟩ = some (.slice bI aV.length bJ)) ∧ (Kd.R Kd.bool 4 w' w.heap.size (fun _ => True) s_.2.1 bW) ∧ (Kd.R k138 138 w' w.heap.size (fun _ => True) s_.2.2.1 cK) ∧ (w'.heap[aC]? = some (.cells #[.slice aX aT.length bA, .slice bK aH.length bD, .slice bI aV.length bJ] 43 (0, 0))) ∧ (w'.heap[aI]? = some (.cells #[.slice none 0 0, .slice none 0 0, .slice none 0 0] 43 (0, 0))) ∧ (w'.heap[s_.2.2.2]? = some (.cells #[.slice none 0 0, .slice none 0 0, .slice none 0 0] 43 (0, 0))) ∧ (w.heap.size ≤ s_.2.2.2) ∧ (w.heap.size ≤ s_.2.2.2) ∧ (aC ≠ s_.2.2.2) ∧ (s_.2.2.2 ≠ aC) ∧ (aI ≠ s_.2.2.2) ∧ (s_.2.2.2 ≠ aI) ∧ (Below w.heap.size w w')) ?_ ?_
   rotate_left
   ·intro hJ0_3_4_9
    refine join_ (σ := Value × Value × Value) 4 (bv 11 127) (fun s_ => [(5, s_.1), (8, s_.2.1), (9, s_.2.2)]) (fun s_ w' => (w'.cell? ⟨aC, 0, none⟩ = some (.slice aX aT.length bA) ∧ w'.cell? ⟨aC, 1, none⟩ = some (.slice bK aH.length bD) ∧ w'.cell? ⟨aC, 2, none⟩ = some (.slice bI aV.length bJ)) ∧ (Kd.R Kd.bool 4 w' w.heap.size (fun _ => True) s_.2.1 bW) ∧ (Kd.R k138 138 w' w.heap.size (fun _ => True) s_.2.2 cK) ∧ (w'.heap[aC]? = some (.cells #[.slice aX aT.length bA, .slice bK aH.length bD, .slice bI aV.length bJ] 43 (0, 0))) ∧ (w'.heap[aI]? = some (.cells #[.slice none 0 0, .slice none 0 0, .slice none 0 0] 43 (0, 0))) ∧ (Below w.heap.size w w')) ?_ ?_
    rotate_left
    ·intro hJ0_3_4
     refine join_ (σ := Value × Value × Nat) 4 (bv 11 623) (fun s_ => [(5, s_.1), (8, s_.2.1), (3, .pointer (some ⟨s_.2.2, 0, none⟩))]) (fun s_ w' => (w'.cell? ⟨aC, 0, none⟩ = some (.slice aX aT.length bA) ∧ w'.cell? ⟨aC, 1, none⟩ = some (.slice bK aH.length bD) ∧ w'.cell? ⟨aC, 2, none⟩ = some (.slice bI aV.length bJ)) ∧ (Kd.R Kd.bool 4 w' w.heap.size (fun _ => True) s_.2.1 bW) ∧ (w'.heap[aC]? = some (.cells #[.slice aX aT.length bA, .slice bK aH.length bD, .slice bI aV.length bJ] 43 (0, 0))) ∧ (w'.heap[aI]? = some (.cells #[.slice none 0 0, .slice none 0 0, .slice none 0 0] 43 (0, 0))) ∧ (w'.heap[s_.2.2]? = some (.cells #[.slice none 0 0, .slice none 0 0, .slice none 0 0] 43 (0, 0))) ∧ (w.heap.size ≤ s_.2.2) ∧ (w.heap.size ≤ s_.2.2) ∧ (aC ≠ s_.2.2) ∧ (s_.2.2 ≠ aC) ∧ (aI ≠ s_.2.2) ∧ (s_.2.2 ≠ aI) ∧ (Below w.heap.size w w')) ?_ ?_
     rotate_left
     ·intro hJ0_3_9
      refine join_ (σ := Value × Value × Nat) 4 (bv 11 631) (fun s_ => [(5, s_.1), (9, s_.2.1), (3, .pointer (some ⟨s_.2.2, 0, none⟩))]) (fun s_ w' => (w'.cell? ⟨aC, 0, none⟩ = some (.slice aX aT.length bA) ∧ w'.cell? ⟨aC, 1, none⟩ = some (.slice bK aH.length bD) ∧ w'.cell? ⟨aC, 2, none⟩ = some (.slice bI aV.length bJ)) ∧ (Kd.R Kd.bool 4 w' w.heap.size (fun _ => True) s_.1 cN) ∧ (Kd.R k138 138 w' w.heap.size (fun _ => True) s_.2.1 cK) ∧ (w'.heap[aC]? = some (.cells #[.slice aX aT.length bA, .slice bK aH.length bD, .slice bI aV.length bJ] 43 (0, 0))) ∧ (w'.heap[aI]? = some (.cells #[.slice none 0 0, .slice none 0 0, .slice none 0 0] 43 (0, 0))) ∧ (w'.heap[s_.2.2]? = some (.cells #[.slice none 0 0, .slice none 0 0, .slice none 0 0] 43 (0, 0))) ∧ (w.heap.size ≤ s_.2.2) ∧ (w.heap.size ≤ s_.2.2) ∧ (aC ≠ s_.2.2) ∧ (s_.2.2 ≠ aC) ∧ (aI ≠ s_.2.2) ∧ (s_.2.2 ≠ aI) ∧ (Below w.heap.size w w')) ?_ ?_
      rotate_left
      ·intro hJ0_4_9
       refine join_ (σ := Value × Value) 5 (bv 11 111) (fun s_ => [(5, s_.1), (8, s_.2)]) (fun s_ w' => (w'.cell? ⟨aC, 0, none⟩ = some (.slice aX aT.length bA) ∧ w'.cell? ⟨aC, 1, none⟩ = some (.slice bK aH.length bD) ∧ w'.cell? ⟨aC, 2, none⟩ = some (.slice bI aV.length bJ)) ∧ (Kd.R Kd.bool 4 w' w.heap.size (fun _ => True) s_.2 bW) ∧ (w'.heap[aC]? = some (.cells #[.slice aX aT.length bA, .slice bK aH.length bD, .slice bI aV.length bJ] 43 (0, 0))) ∧ (w'.heap[aI]? = some (.cells #[.slice none 0 0, .slice none 0 0, .slice none 0 0] 43 (0, 0))) ∧ (Below w.heap.size w w')) ?_ ?_
       rotate_left
       ·intro hJ0_3
        refine join_ (σ := Value × Value) 5 (bv 11 119) (fun s_ => [(5, s_.1), (9, s_.2)]) (fun s_ w' => (w'.cell? ⟨aC, 0, none⟩ = some (.slice aX aT.length bA) ∧ w'.cell? ⟨aC, 1, none⟩ = some (.slice bK aH.length bD) ∧ w'.cell? ⟨aC, 2, none⟩ = some (.slice bI aV.length bJ)) ∧ (Kd.R Kd.bool 4 w' w.heap.size (fun _ => True) s_.1 cN) ∧ (Kd.R k138 138 w' w.heap.size (fun _ => True) s_.2 cK) ∧ (w'.heap[aC]? = some (.cells #[.slice aX aT.length bA, .slice bK aH.length bD, .slice bI aV.length bJ] 43 (0, 0))) ∧ (w'.heap[aI]? = some (.cells #[.slice none 0 0, .slice none 0 0, .slice none 0 0] 43 (0, 0))) ∧ (Below w.heap.size w w')) ?_ ?_
        rotate_left
        ·intro hJ0_4
         refine join_ (σ := Value × Nat) 5 (bv 11 615) (fun s_ => [(5, s_.1), (3, .pointer (some ⟨s_.2, 0, none⟩))]) (fun s_ w' => (w'.cell? ⟨aC, 0, none⟩ = some (.slice aX aT.length bA) ∧ w'.cell? ⟨aC, 1, none⟩ = some (.slice bK aH.length bD) ∧ w'.cell? ⟨aC, 2, none⟩ = some (.slice bI aV.length bJ)) ∧ (Kd.R Kd.bool 4 w' w.heap.size (fun _ => True) s_.1 cN) ∧ (w'.heap[aC]? = some (.cells #[.slice aX aT.length bA, .slice bK aH.length bD, .slice bI aV.length bJ] 43 (0, 0))) ∧ (w'.heap[aI]? = some (.cells #[.slice none 0 0, .slice none 0 0, .slice none 0 0] 43 (0, 0))) ∧ (w'.heap[s_.2]? = some (.cells #[.slice none 0 0, .slice none 0 0, .slice none 0 0] 43 (0, 0))) ∧ (w.heap.size ≤ s_.2) ∧ (w.heap.size ≤ s_.2) ∧ (aC ≠ s_.2) ∧ (s_.2 ≠ aC) ∧ (aI ≠ s_.2) ∧ (s_.2 ≠ aI) ∧ (Below w.heap.size w w')) ?_ ?_
         rotate_left
         ·intro hJ0_9
          refine join_ (σ := Value × Nat) 5 (bv 11 630) (fun s_ => [(9, s_.1), (3, .pointer (some ⟨s_.2, 0, none⟩))]) (fun s_ w' => (w'.cell? ⟨aC, 0, none⟩ = some (.slice aX aT.length bA) ∧ w'.cell? ⟨aC, 1, none⟩ = some (.slice bK aH.length bD) ∧ w'.cell? ⟨aC, 2, none⟩ = some (.slice bI aV.length bJ)) ∧ (Kd.R k138 138 w' w.heap.size (fun _ => True) s_.1 cK) ∧ (w'.heap[aC]? = some (.cells #[.slice aX aT.length bA, .slice bK aH.length bD, .slice bI aV.length bJ] 43 (0, 0))) ∧ (w'.heap[aI]? = some (.cells #[.slice none 0 0, .slice none 0 0, .slice none 0 0] 43 (0, 0))) ∧ (w'.heap[s_.2]? = some (.cells #[.slice none 0 0, .slice none 0 0, .slice none 0 0] 43 (0, 0))) ∧ (w.heap.size ≤ s_.2) ∧ (w.heap.size ≤ s_.2) ∧ (aC ≠ s_.2) ∧ (s_.2 ≠ aC) ∧ (aI ≠ s_.2) ∧ (s_.2 ≠ aI) ∧ (Below w.heap.size w w')) ?_ ?_
          rotate_left
          ·intro hJ4_9
           refine join_ (σ := Value) 6 (bv 11 103) (fun s_ => [(5, s_)]) (fun s_ w' => (w'.cell? ⟨aC, 0, none⟩ = some (.slice aX aT.length bA) ∧ w'.cell? ⟨aC, 1, none⟩ = some (.slice bK aH.length bD) ∧ w'.cell? ⟨aC, 2, none⟩ = some (.slice bI aV.length bJ)) ∧ (Kd.R Kd.bool 4 w' w.heap.size (fun _ => True) s_ cN) ∧ (w'.heap[aC]? = some (.cells #[.slice aX aT.length bA, .slice bK aH.length bD, .slice bI aV.length bJ] 43 (0, 0))) ∧ (w'.heap[aI]? = some (.cells #[.slice none 0 0, .slice none 0 0, .slice none 0 0] 43 (0, 0))) ∧ (Below w.heap.size w w')) ?_ ?_
           rotate_left
           ·intro hJ0
            refine join_ (σ := Value) 6 (bv 11 118) (fun s_ => [(9, s_)]) (fun s_ w' => (w'.cell? ⟨aC, 0, none⟩ = some (.slice aX aT.length bA) ∧ w'.cell? ⟨aC, 1, none⟩ = some (.slice bK aH.length bD) ∧ w'.cell? ⟨aC, 2, none⟩ = some (.slice bI aV.length bJ)) ∧ (Kd.R k138 138 w' w.heap.size (fun _ => True) s_ cK) ∧ (w'.heap[aC]? = some (.cells #[.slice aX aT.length bA, .slice bK aH.length bD, .slice bI aV.length bJ] 43 (0, 0))) ∧ (w'.heap[aI]? = some (.cells #[.slice none 0 0, .slice none 0 0, .slice none 0 0] 43 (0, 0))) ∧ (Below w.heap.size w w')) ?_ ?_
            rotate_left
            ·intro hJ4
             refine join_ (σ := Nat) 6 (bv 11 614) (fun s_ => [(3, .pointer (some ⟨s_, 0, none⟩))]) (fun s_ w' => (w'.cell? ⟨aC, 0, none⟩ = some (.slice aX aT.length bA) ∧ w'.cell? ⟨aC, 1, none⟩ = some (.slice bK aH.length bD) ∧ w'.cell? ⟨aC, 2, none⟩ = some (.slice bI aV.length bJ)) ∧ (w'.heap[aC]? = some (.cells #[.slice aX aT.length bA, .slice bK aH.length bD, .slice bI aV.length bJ] 43 (0, 0))) ∧ (w'.heap[aI]? = some (.cells #[.slice none 0 0, .slice none 0 0, .slice none 0 0] 43 (0, 0))) ∧ (w'.heap[s_]? = some (.cells #[.slice none 0 0, .slice none 0 0, .slice none 0 0] 43 (0, 0))) ∧ (w.heap.size ≤ s_) ∧ (w.heap.size ≤ s_) ∧ (aC ≠ s_) ∧ (s_ ≠ aC) ∧ (aI ≠ s_) ∧ (s_ ≠ aI) ∧ (Below w.heap.size w w')) ?_ ?_
             rotate_left
             ·intro hJ9
              refine three_ (i := 0) (j := 4) (k := 9) (Ni := some 5) (Nj := some 9) (Nk := some 3) (bv 11 103) (bv 11 118) (bv 11 614) rfl rfl rfl rfl rfl rfl (three_of HT_.out (by kernel_rfl)) (by decide) (by decide) (by decide) (fun K hK => ?_) (fun K hK => ?_) (fun K hK => ?_)
              ·skip
               refine Kd.R_lit_step Kd.bool _ 4 ?hg (N := 5) ?hd (xs := ([] : List Bool)) (inner := []) (ok := fun _ => True) (okp := fun _ => True) ?hr ?hp (fun _ hk => hk) trivial (Below.refl _ _) (Nat.le_refl _) (by simp) ?_; (case hd => rfl); (case hg => rfl); (case hr => first | (go_simp; done) | (go_simp; rfl)); (case hp => exact (Reps.none _ _))
               intro bO w7 ho8 hb hg_ hnew_
               clear hg_ hnew_
               (first | rw [← dA.out] at ho8 | (simp only [Int.reduceToNat] at ho8; rw [← dA.out] at ho8))
               have bL := aM (Kd.R_lower ho8 (below_size (bl HB.out)))
               replace aA := rB aA hb
               replace aD := rB aD hb
               replace HB := rS HB hb
               clear hb ho8
               refine hK.out _ _ ⟨cI aA.out 0, cI aA.out 1, cI aA.out 2⟩ (fun hHeld => ?_)
               clear hK K
               refine norm_ (a' := ?_) ?_ ?_
               rotate_left
               ·show Act.put _ (some 5) _ = _
                simp only [Act.put, sA, sZ, sS, i64_w, i32_w]
                rfl
               exact norm_ (by first | (simp only [putAll, Act.put, sA, sZ, sS]; done) | (simp only [putAll, Act.put, sA, sZ, sS]; rfl)) (hJ0 (bO) _ ⟨hHeld, (kr bL.out), (bk aA.out), (bk aD.out), (bl HB.out)⟩)
              ·skip
               refine Kd.R_lit_step k138 _ 138 ?hg (N := 9) ?hd (xs := ([] : List (S138))) (inner := []) (ok := fun _ => True) (okp := fun _ => True) ?hr ?hp (fun _ hk => hk) trivial (Below.refl _ _) (Nat.le_refl _) (by simp) ?_; (case hd => rfl); (case hg => rfl); (case hr => first | (go_simp; done) | (go_simp; rfl)); (case hp => exact (Reps.none _ _))
               intro bP w7 ho8 hb hg_ hnew_
               clear hg_ hnew_
               (first | rw [← cR.out] at ho8 | (simp only [Int.reduceToNat] at ho8; rw [← cR.out] at ho8))
               have aW := aM (Kd.R_lower ho8 (below_size (bl HB.out)))
               replace aA := rB aA hb
               replace aD := rB aD hb
               replace HB := rS HB hb
               clear hb ho8
               refine hK.out _ _ ⟨cI aA.out 0, cI aA.out 1, cI aA.out 2⟩ (fun hHeld => ?_)
               clear hK K
               refine norm_ (a' := ?_) ?_ ?_
               rotate_left
               ·show Act.put _ (some 9) _ = _
                simp only [Act.put, sA, sZ, sS, i64_w, i32_w]
                rfl
               exact norm_ (by first | (simp only [putAll, Act.put, sA, sZ, sS]; done) | (simp only [putAll, Act.put, sA, sZ, sS]; rfl)) (hJ4 (bP) _ ⟨hHeld, (kr aW.out), (bk aA.out), (bk aD.out), (bl HB.out)⟩)
              ·skip
               refine box_step ?hg (N := 3) ?hd (cs := #[.slice none 0 0, .slice none 0 0, .slice none 0 0]) (t := 43) ?hr ?_; (case hd => rfl); (case hg => rfl); (case hr => first | (go_simp; done) | (go_simp; rfl))
               intro aG hg w7 hbox hb
               have aE := aM (hbox)
               have bQ := gF hg HB
               have bU := gF hg HB
               have aJ := nM hg aA
               have aK := nH hg aA
               have aN := nM hg aD
               have aQ := nH hg aD
               replace aA := rB aA hb
               replace aD := rB aD hb
               replace HB := rS HB hb
               clear hb hbox hg
               refine hK.out _ _ ⟨cI aA.out 0, cI aA.out 1, cI aA.out 2⟩ (fun hHeld => ?_)
               clear hK K
               refine norm_ (a' := ?_) ?_ ?_
               rotate_left
               ·show Act.put _ (some 3) _ = _
                simp only [Act.put, sA, sZ, sS, i64_w, i32_w]
                rfl
               exact norm_ (by first | (simp only [putAll, Act.put, sA, sZ, sS]; done) | (simp only [putAll, Act.put, sA, sZ, sS]; rfl)) (hJ9 (aG) _ ⟨hHeld, (bk aA.out), (bk aD.out), (bk aE.out), bQ.out, bU.out, aJ.out, aK.out, aN.out, aQ.out, (bl HB.out)⟩)
             ·skip
              rintro aG w8 ⟨hS_, h0_, h1_, h2_, h3_, h4_, h5_, h6_, h7_, h8_, h9_⟩
              have aE : Aside0 (w8.heap[aG]? = some (.cells #[.slice none 0 0, .slice none 0 0, .slice none 0 0] 43 (0, 0))) := ⟨h2_⟩
              have bQ : Aside0 (w.heap.size ≤ aG) := ⟨h3_⟩
              have bU : Aside0 (w.heap.size ≤ aG) := ⟨h4_⟩
              have aJ : Aside0 (aC ≠ aG) := ⟨h5_⟩
              have aK : Aside0 (aG ≠ aC) := ⟨h6_⟩
              have aN : Aside0 (aI ≠ aG) := ⟨h7_⟩
              have aQ : Aside0 (aG ≠ aI) := ⟨h8_⟩
              replace aA : Aside0 (w8.heap[aC]? = some (.cells #[.slice aX aT.length bA, .slice bK aH.length bD, .slice bI aV.length bJ] 43 (0, 0))) := ⟨h0_⟩
              replace aD : Aside0 (w8.heap[aI]? = some (.cells #[.slice none 0 0, .slice none 0 0, .slice none 0 0] 43 (0, 0))) := ⟨h1_⟩
              replace HB : Aside0 (Below w.heap.size w w8) := ⟨h9_⟩
              clear h0_ h1_ h2_ h3_ h4_ h5_ h6_ h7_ h8_ h9_
              have hHeld : w8.cell? ⟨aC, 0, none⟩ = some (.slice aX aT.length bA) ∧ w8.cell? ⟨aC, 1, none⟩ = some (.slice bK aH.length bD) ∧ w8.cell? ⟨aC, 2, none⟩ = some (.slice bI aV.length bJ) := hS_
              refine norm_ (a' := ?_) ?_ ?_
              rotate_left
              ·simp only [putAll, Act.put, sA, sZ, sS]
               rfl
              refine two_ (i := 0) (j := 4) (Ni := some 5) (Nj := some 9) (bv 11 615) (bv 11 630) rfl rfl rfl rfl (two_of HT_.out (by kernel_rfl)) (by decide) (by decide) (fun K hK => ?_) (fun K hK => ?_)
              ·skip
               refine Kd.R_lit_step Kd.bool _ 4 ?hg (N := 5) ?hd (xs := ([] : List Bool)) (inner := []) (ok := fun _ => True) (okp := fun _ => True) ?hr ?hp (fun _ hk => hk) trivial (Below.refl _ _) (Nat.le_refl _) (by simp) ?_; (case hd => rfl); (case hg => rfl); (case hr => first | (go_simp; done) | (go_simp; rfl)); (case hp => exact (Reps.none _ _))
               intro bO w9 ho10 hb hg_ hnew_
               clear hg_ hnew_
               (first | rw [← dA.out] at ho10 | (simp only [Int.reduceToNat] at ho10; rw [← dA.out] at ho10))
               have bL := aM (Kd.R_lower ho10 (below_size (bl HB.out)))
               replace aA := rB aA hb
               replace aD := rB aD hb
               replace aE := rB aE hb
               replace HB := rS HB hb
               clear hb ho10
               refine hK.out _ _ ⟨cI aA.out 0, cI aA.out 1, cI aA.out 2⟩ (fun hHeld => ?_)
               clear hK K
               refine norm_ (a' := ?_) ?_ ?_
               rotate_left
               ·show Act.put _ (some 5) _ = _
                simp only [Act.put, sA, sZ, sS, i64_w, i32_w]
                rfl
               exact norm_ (by first | (simp only [putAll, Act.put, sA, sZ, sS]; done) | (simp only [putAll, Act.put, sA, sZ, sS]; rfl)) (hJ0_9 (bO, aG) _ ⟨hHeld, (kr bL.out), (bk aA.out), (bk aD.out), (bk aE.out), bQ.out, bU.out, aJ.out, aK.out, aN.out, aQ.out, (bl HB.out)⟩)
              ·skip
               refine Kd.R_lit_step k138 _ 138 ?hg (N := 9) ?hd (xs := ([] : List (S138))) (inner := []) (ok := fun _ => True) (okp := fun _ => True) ?hr ?hp (fun _ hk => hk) trivial (Below.refl _ _) (Nat.le_refl _) (by simp) ?_; (case hd => rfl); (case hg => rfl); (case hr => first | (go_simp; done) | (go_simp; rfl)); (case hp => exact (Reps.none _ _))
               intro bP w9 ho10 hb hg_ hnew_
               clear hg_ hnew_
               (first | rw [← cR.out] at ho10 | (simp only [Int.reduceToNat] at ho10; rw [← cR.out] at ho10))
               have aW := aM (Kd.R_lower ho10 (below_size (bl HB.out)))
               replace aA := rB aA hb
               replace aD := rB aD hb
               replace aE := rB aE hb
               replace HB := rS HB hb
               clear hb ho10
               refine hK.out _ _ ⟨cI aA.out 0, cI aA.out 1, cI aA.out 2⟩ (fun hHeld => ?_)
               clear hK K
               refine norm_ (a' := ?_) ?_ ?_
               rotate_left
               ·show Act.put _ (some 9) _ = _
                simp only [Act.put, sA, sZ, sS, i64_w, i32_w]
                rfl
               exact norm_ (by first | (simp only [putAll, Act.put, sA, sZ, sS]; done) | (simp only [putAll, Act.put, sA, sZ, sS]; rfl)) (hJ4_9 (bP, aG) _ ⟨hHeld, (kr aW.out), (bk aA.out), (bk aD.out), (bk aE.out), bQ.out, bU.out, aJ.out, aK.out, aN.out, aQ.out, (bl HB.out)⟩)
            ·skip
             rintro bP w9 ⟨hS_, h0_, h1_, h2_, h3_⟩
             have aW : Aside0 (Kd.R k138 138 w9 w.heap.size (fun _ => True) bP cK) := ⟨h0_⟩
             replace aA : Aside0 (w9.heap[aC]? = some (.cells #[.slice aX aT.length bA, .slice bK aH.length bD, .slice bI aV.length bJ] 43 (0, 0))) := ⟨h1_⟩
             replace aD : Aside0 (w9.heap[aI]? = some (.cells #[.slice none 0 0, .slice none 0 0, .slice none 0 0] 43 (0, 0))) := ⟨h2_⟩
             replace HB : Aside0 (Below w.heap.size w w9) := ⟨h3_⟩
             clear h0_ h1_ h2_ h3_
             have hHeld : w9.cell? ⟨aC, 0, none⟩ = some (.slice aX aT.length bA) ∧ w9.cell? ⟨aC, 1, none⟩ = some (.slice bK aH.length bD) ∧ w9.cell? ⟨aC, 2, none⟩ = some (.slice bI aV.length bJ) := hS_
             refine norm_ (a' := ?_) ?_ ?_
             rotate_left
             ·simp only [putAll, Act.put, sA, sZ, sS]
              rfl
             refine two_ (i := 0) (j := 9) (Ni := some 5) (Nj := some 3) (bv 11 119) (bv 11 630) rfl rfl rfl rfl (two_of HT_.out (by kernel_rfl)) (by decide) (by decide) (fun K hK => ?_) (fun K hK => ?_)
             ·skip
              refine Kd.R_lit_step Kd.bool _ 4 ?hg (N := 5) ?hd (xs := ([] : List Bool)) (inner := []) (ok := fun _ => True) (okp := fun _ => True) ?hr ?hp (fun _ hk => hk) trivial (Below.refl _ _) (Nat.le_refl _) (by simp) ?_; (case hd => rfl); (case hg => rfl); (case hr => first | (go_simp; done) | (go_simp; rfl)); (case hp => exact (Reps.none _ _))
              intro bO cH ho11 hb hg_ hnew_
              clear hg_ hnew_
              (first | rw [← dA.out] at ho11 | (simp only [Int.reduceToNat] at ho11; rw [← dA.out] at ho11))
              have bL := aM (Kd.R_lower ho11 (below_size (bl HB.out)))
              replace aW := rK aW hb
              replace aA := rB aA hb
              replace aD := rB aD hb
              replace HB := rS HB hb
              clear hb ho11
              refine hK.out _ _ ⟨cI aA.out 0, cI aA.out 1, cI aA.out 2⟩ (fun hHeld => ?_)
              clear hK K
              refine norm_ (a' := ?_) ?_ ?_
              rotate_left
              ·show Act.put _ (some 5) _ = _
               simp only [Act.put, sA, sZ, sS, i64_w, i32_w]
               rfl
              exact norm_ (by first | (simp only [putAll, Act.put, sA, sZ, sS]; done) | (simp only [putAll, Act.put, sA, sZ, sS]; rfl)) (hJ0_4 (bO, bP) _ ⟨hHeld, (kr bL.out), (kr aW.out), (bk aA.out), (bk aD.out), (bl HB.out)⟩)
             ·skip
              refine box_step ?hg (N := 3) ?hd (cs := #[.slice none 0 0, .slice none 0 0, .slice none 0 0]) (t := 43) ?hr ?_; (case hd => rfl); (case hg => rfl); (case hr => first | (go_simp; done) | (go_simp; rfl))
              intro aG hg cH hbox hb
              have aE := aM (hbox)
              have bQ := gF hg HB
              have bU := gF hg HB
              have aJ := nM hg aA
              have aK := nH hg aA
              have aN := nM hg aD
              have aQ := nH hg aD
              replace aW := rK aW hb
              replace aA := rB aA hb
              replace aD := rB aD hb
              replace HB := rS HB hb
              clear hb hbox hg
              refine hK.out _ _ ⟨cI aA.out 0, cI aA.out 1, cI aA.out 2⟩ (fun hHeld => ?_)
              clear hK K
              refine norm_ (a' := ?_) ?_ ?_
              rotate_left
              ·show Act.put _ (some 3) _ = _
               simp only [Act.put, sA, sZ, sS, i64_w, i32_w]
               rfl
              exact norm_ (by first | (simp only [putAll, Act.put, sA, sZ, sS]; done) | (simp only [putAll, Act.put, sA, sZ, sS]; rfl)) (hJ4_9 (bP, aG) _ ⟨hHeld, (kr aW.out), (bk aA.out), (bk aD.out), (bk aE.out), bQ.out, bU.out, aJ.out, aK.out, aN.out, aQ.out, (bl HB.out)⟩)
           ·skip
            rintro bO w9 ⟨hS_, h0_, h1_, h2_, h3_⟩
            have bL : Aside0 (Kd.R Kd.bool 4 w9 w.heap.size (fun _ => True) bO cN) := ⟨h0_⟩
            replace aA : Aside0 (w9.heap[aC]? = some (.cells #[.slice aX aT.length bA, .slice bK aH.length bD, .slice bI aV.length bJ] 43 (0, 0))) := ⟨h1_⟩
            replace aD : Aside0 (w9.heap[aI]? = some (.cells #[.slice none 0 0, .slice none 0 0, .slice none 0 0] 43 (0, 0))) := ⟨h2_⟩
            replace HB : Aside0 (Below w.heap.size w w9) := ⟨h3_⟩
            clear h0_ h1_ h2_ h3_
            have hHeld : w9.cell? ⟨aC, 0, none⟩ = some (.slice aX aT.length bA) ∧ w9.cell? ⟨aC, 1, none⟩ = some (.slice bK aH.length bD) ∧ w9.cell? ⟨aC, 2, none⟩ = some (.slice bI aV.length bJ) := hS_
            refine norm_ (a' := ?_) ?_ ?_
            rotate_left
            ·simp only [putAll, Act.put, sA, sZ, sS]
             rfl
            refine three_ (i := 3) (j := 4) (k := 9) (Ni := some 8) (Nj := some 9) (Nk := some 3) (bv 11 111) (bv 11 119) (bv 11 615) rfl rfl rfl rfl rfl rfl (three_of HT_.out (by kernel_rfl)) (by decide) (by decide) (by decide) (fun K hK => ?_) (fun K hK => ?_) (fun K hK => ?_)
            ·skip
             refine Kd.R_append_rows_step Kd.bool (w0 := w) w.heap.size (by rfl) (.tmp 5) (.tmp 7) 34 4 (.bool false) 1 rfl Try.underlying34 info4 rfl (by decide) (by omega) bO cN aT _ _ _ (fun _ => True) (fun _ => False) rfl rfl ?aO ?aR (fun _ _ h => h) (fun _ h => h.elim) ?aF ?aB ?aS ?aL ?_
             (case aR => repeat (first | exact (cB dV.out HB.out) | (with_reducible refine Kd.C_alloc ?_ _) | (with_reducible refine Kd.C_drewN ?_ _) | (with_reducible refine Kd.C_drew ?_)))
             (case aB => exact (bl HB.out))
             (case aF => exact (fun _ _ => trivial))
             (case aO => exact (kr bL.out))
             (case aS => exact (below_size (bl HB.out)))
             (case aL => have := LMc2.out; omega)
             intro cG cH ho hb hg hat
             rw [← dW.out] at ho
             have bM := aM (ho)
             replace aA := aM (blk_grown (bk aA.out) hg (Kd.R_ne bL.out aA.out (by decide)))
             replace aD := aM (blk_grown (bk aD.out) hg (Kd.R_ne bL.out aD.out (by decide)))
             replace HB := aM (hb)
             clear bL
             clear ho hb hg hat
             refine hK.out _ _ ⟨cI aA.out 0, cI aA.out 1, cI aA.out 2⟩ (fun hHeld => ?_)
             clear hK K
             refine norm_ (a' := ?_) ?_ ?_
             rotate_left
             ·show Act.put _ (some 8) _ = _
              simp only [Act.put, sA, sZ, sS, i64_w, i32_w]
              rfl
             exact norm_ (by first | (simp only [putAll, Act.put, sA, sZ, sS]; done) | (simp only [putAll, Act.put, sA, sZ, sS]; rfl)) (hJ0_3 (bO, cG) _ ⟨hHeld, (kr bM.out), (bk aA.out), (bk aD.out), (bl HB.out)⟩)
            ·skip
             refine Kd.R_lit_step k138 _ 138 ?hg (N := 9) ?hd (xs := ([] : List (S138))) (inner := []) (ok := fun _ => True) (okp := fun _ => True) ?hr ?hp (fun _ hk => hk) trivial (Below.refl _ _) (Nat.le_refl _) (by simp) ?_; (case hd => rfl); (case hg => rfl); (case hr => first | (go_simp; done) | (go_simp; rfl)); (case hp => exact (Reps.none _ _))
             intro bP cH ho11 hb hg_ hnew_
             clear hg_ hnew_
             (first | rw [← cR.out] at ho11 | (simp only [Int.reduceToNat] at ho11; rw [← cR.out] at ho11))
             have aW := aM (Kd.R_lower ho11 (below_size (bl HB.out)))
             replace bL := rK bL hb
             replace aA := rB aA hb
             replace aD := rB aD hb
             replace HB := rS HB hb
             clear hb ho11
             refine hK.out _ _ ⟨cI aA.out 0, cI aA.out 1, cI aA.out 2⟩ (fun hHeld => ?_)
             clear hK K
             refine norm_ (a' := ?_) ?_ ?_
             rotate_left
             ·show Act.put _ (some 9) _ = _
              simp only [Act.put, sA, sZ, sS, i64_w, i32_w]
              rfl
             exact norm_ (by first | (simp only [putAll, Act.put, sA, sZ, sS]; done) | (simp only [putAll, Act.put, sA, sZ, sS]; rfl)) (hJ0_4 (bO, bP) _ ⟨hHeld, (kr bL.out), (kr aW.out), (bk aA.out), (bk aD.out), (bl HB.out)⟩)
            ·skip
             refine box_step ?hg (N := 3) ?hd (cs := #[.slice none 0 0, .slice none 0 0, .slice none 0 0]) (t := 43) ?hr ?_; (case hd => rfl); (case hg => rfl); (case hr => first | (go_simp; done) | (go_simp; rfl))
             intro aG hg cH hbox hb
             have aE := aM (hbox)
             have bQ := gF hg HB
             have bU := gF hg HB
             have aJ := nM hg aA
             have aK := nH hg aA
             have aN := nM hg aD
             have aQ := nH hg aD
             replace bL := rK bL hb
             replace aA := rB aA hb
             replace aD := rB aD hb
             replace HB := rS HB hb
             clear hb hbox hg
             refine hK.out _ _ ⟨cI aA.out 0, cI aA.out 1, cI aA.out 2⟩ (fun hHeld => ?_)
             clear hK K
             refine norm_ (a' := ?_) ?_ ?_
             rotate_left
             ·show Act.put _ (some 3) _ = _
              simp only [Act.put, sA, sZ, sS, i64_w, i32_w]
              rfl
             exact norm_ (by first | (simp only [putAll, Act.put, sA, sZ, sS]; done) | (simp only [putAll, Act.put, sA, sZ, sS]; rfl)) (hJ0_9 (bO, aG) _ ⟨hHeld, (kr bL.out), (bk aA.out), (bk aD.out), (bk aE.out), bQ.out, bU.out, aJ.out, aK.out, aN.out, aQ.out, (bl HB.out)⟩)
          ·skip
           rintro ⟨bP, aG⟩ cH ⟨hS_, h0_, h1_, h2_, h3_, h4_, h5_, h6_, h7_, h8_, h9_, h10_⟩
           have aW : Aside0 (Kd.R k138 138 cH w.heap.size (fun _ => True) bP cK) := ⟨h0_⟩
           have aE : Aside0 (cH.heap[aG]? = some (.cells #[.slice none 0 0, .slice none 0 0, .slice none 0 0] 43 (0, 0))) := ⟨h3_⟩
           have bQ : Aside0 (w.heap.size ≤ aG) := ⟨h4_⟩
           have bU : Aside0 (w.heap.size ≤ aG) := ⟨h5_⟩
           have aJ : Aside0 (aC ≠ aG) := ⟨h6_⟩
           have aK : Aside0 (aG ≠ aC) := ⟨h7_⟩
           have aN : Aside0 (aI ≠ aG) := ⟨h8_⟩
           have aQ : Aside0 (aG ≠ aI) := ⟨h9_⟩
           replace aA : Aside0 (cH.heap[aC]? = some (.cells #[.slice aX aT.length bA, .slice bK aH.length bD, .slice bI aV.length bJ] 43 (0, 0))) := ⟨h1_⟩
           replace aD : Aside0 (cH.heap[aI]? = some (.cells #[.slice none 0 0, .slice none 0 0, .slice none 0 0] 43 (0, 0))) := ⟨h2_⟩
           replace HB : Aside0 (Below w.heap.size w cH) := ⟨h10_⟩
           clear h0_ h1_ h2_ h3_ h4_ h5_ h6_ h7_ h8_ h9_ h10_
           have hHeld : cH.cell? ⟨aC, 0, none⟩ = some (.slice aX aT.length bA) ∧ cH.cell? ⟨aC, 1, none⟩ = some (.slice bK aH.length bD) ∧ cH.cell? ⟨aC, 2, none⟩ = some (.slice bI aV.length bJ) := hS_
           refine norm_ (a' := ?_) ?_ ?_
           rotate_left
           ·simp only [putAll, Act.put, sA, sZ, sS]
            rfl
           refine one_ (i := 0) (N := some 5) (bv 11 631) rfl rfl (one_of HT_.out (by kernel_rfl)) (by decide) (fun K hK => ?_)
           refine Kd.R_lit_step Kd.bool _ 4 ?hg (N := 5) ?hd (xs := ([] : List Bool)) (inner := []) (ok := fun _ => True) (okp := fun _ => True) ?hr ?hp (fun _ hk => hk) trivial (Below.refl _ _) (Nat.le_refl _) (by simp) ?_; (case hd => rfl); (case hg => rfl); (case hr => first | (go_simp; done) | (go_simp; rfl)); (case hp => exact (Reps.none _ _))
           intro bO cP ho12 hb hg_ hnew_
           clear hg_ hnew_
           (first | rw [← dA.out] at ho12 | (simp only [Int.reduceToNat] at ho12; rw [← dA.out] at ho12))
           have bL := aM (Kd.R_lower ho12 (below_size (bl HB.out)))
           replace aW := rK aW hb
           replace aA := rB aA hb
           replace aD := rB aD hb
           replace aE := rB aE hb
           replace HB := rS HB hb
           clear hb ho12
           refine hK.out _ _ ⟨cI aA.out 0, cI aA.out 1, cI aA.out 2⟩ (fun hHeld => ?_)
           clear hK K
           refine norm_ (a' := ?_) ?_ ?_
           rotate_left
           ·show Act.put _ (some 5) _ = _
            simp only [Act.put, sA, sZ, sS, i64_w, i32_w]
            rfl
           exact norm_ (by first | (simp only [putAll, Act.put, sA, sZ, sS]; done) | (simp only [putAll, Act.put, sA, sZ, sS]; rfl)) (hJ0_4_9 (bO, bP, aG) _ ⟨hHeld, (kr bL.out), (kr aW.out), (bk aA.out), (bk aD.out), (bk aE.out), bQ.out, bU.out, aJ.out, aK.out, aN.out, aQ.out, (bl HB.out)⟩)
         ·skip
          rintro ⟨bO, aG⟩ cH ⟨hS_, h0_, h1_, h2_, h3_, h4_, h5_, h6_, h7_, h8_, h9_, h10_⟩
          have bL : Aside0 (Kd.R Kd.bool 4 cH w.heap.size (fun _ => True) bO cN) := ⟨h0_⟩
          have aE : Aside0 (cH.heap[aG]? = some (.cells #[.slice none 0 0, .slice none 0 0, .slice none 0 0] 43 (0, 0))) := ⟨h3_⟩
          have bQ : Aside0 (w.heap.size ≤ aG) := ⟨h4_⟩
          have bU : Aside0 (w.heap.size ≤ aG) := ⟨h5_⟩
          have aJ : Aside0 (aC ≠ aG) := ⟨h6_⟩
          have aK : Aside0 (aG ≠ aC) := ⟨h7_⟩
          have aN : Aside0 (aI ≠ aG) := ⟨h8_⟩
          have aQ : Aside0 (aG ≠ aI) := ⟨h9_⟩
          replace aA : Aside0 (cH.heap[aC]? = some (.cells #[.slice aX aT.length bA, .slice bK aH.length bD, .slice bI aV.length bJ] 43 (0, 0))) := ⟨h1_⟩
          replace aD : Aside0 (cH.heap[aI]? = some (.cells #[.slice none 0 0, .slice none 0 0, .slice none 0 0] 43 (0, 0))) := ⟨h2_⟩
          replace HB : Aside0 (Below w.heap.size w cH) := ⟨h10_⟩
          clear h0_ h1_ h2_ h3_ h4_ h5_ h6_ h7_ h8_ h9_ h10_
          have hHeld : cH.cell? ⟨aC, 0, none⟩ = some (.slice aX aT.length bA) ∧ cH.cell? ⟨aC, 1, none⟩ = some (.slice bK aH.length bD) ∧ cH.cell? ⟨aC, 2, none⟩ = some (.slice bI aV.length bJ) := hS_
          refine norm_ (a' := ?_) ?_ ?_
          rotate_left
          ·simp only [putAll, Act.put, sA, sZ, sS]
           rfl
          refine two_ (i := 3) (j := 4) (Ni := some 8) (Nj := some 9) (bv 11 623) (bv 11 631) rfl rfl rfl rfl (two_of HT_.out (by kernel_rfl)) (by decide) (by decide) (fun K hK => ?_) (fun K hK => ?_)
          ·skip
           refine Kd.R_append_rows_step Kd.bool (w0 := w) w.heap.size (by rfl) (.tmp 5) (.tmp 7) 34 4 (.bool false) 1 rfl Try.underlying34 info4 rfl (by decide) (by omega) bO cN aT _ _ _ (fun _ => True) (fun _ => False) rfl rfl ?aO ?aR (fun _ _ h => h) (fun _ h => h.elim) ?aF ?aB ?aS ?aL ?_
           (case aR => repeat (first | exact (cB dV.out HB.out) | (with_reducible refine Kd.C_alloc ?_ _) | (with_reducible refine Kd.C_drewN ?_ _) | (with_reducible refine Kd.C_drew ?_)))
           (case aB => exact (bl HB.out))
           (case aF => exact (fun _ _ => trivial))
           (case aO => exact (kr bL.out))
           (case aS => exact (below_size (bl HB.out)))
           (case aL => have := LMc2.out; omega)
           intro cG cP ho hb hg hat
           rw [← dW.out] at ho
           have bM := aM (ho)
           replace aA := aM (blk_grown (bk aA.out) hg (Kd.R_ne bL.out aA.out (by decide)))
           replace aD := aM (blk_grown (bk aD.out) hg (Kd.R_ne bL.out aD.out (by decide)))
           replace aE := aM (blk_grown (bk aE.out) hg (Kd.R_ne bL.out aE.out (by decide)))
           replace HB := aM (hb)
           clear bL
           clear ho hb hg hat
           refine hK.out _ _ ⟨cI aA.out 0, cI aA.out 1, cI aA.out 2⟩ (fun hHeld => ?_)
           clear hK K
           refine norm_ (a' := ?_) ?_ ?_
           rotate_left
           ·show Act.put _ (some 8) _ = _
            simp only [Act.put, sA, sZ, sS, i64_w, i32_w]
            rfl
           exact norm_ (by first | (simp only [putAll, Act.put, sA, sZ, sS]; done) | (simp only [putAll, Act.put, sA, sZ, sS]; rfl)) (hJ0_3_9 (bO, cG, aG) _ ⟨hHeld, (kr bM.out), (bk aA.out), (bk aD.out), (bk aE.out), bQ.out, bU.out, aJ.out, aK.out, aN.out, aQ.out, (bl HB.out)⟩)
          ·skip
           refine Kd.R_lit_step k138 _ 138 ?hg (N := 9) ?hd (xs := ([] : List (S138))) (inner := []) (ok := fun _ => True) (okp := fun _ => True) ?hr ?hp (fun _ hk => hk) trivial (Below.refl _ _) (Nat.le_refl _) (by simp) ?_; (case hd => rfl); (case hg => rfl); (case hr => first | (go_simp; done) | (go_simp; rfl)); (case hp => exact (Reps.none _ _))
           intro bP cP ho12 hb hg_ hnew_
           clear hg_ hnew_
           (first | rw [← cR.out] at ho12 | (simp only [Int.reduceToNat] at ho12; rw [← cR.out] at ho12))
           have aW := aM (Kd.R_lower ho12 (below_size (bl HB.out)))
           replace bL := rK bL hb
           replace aA := rB aA hb
           replace aD := rB aD hb
           replace aE := rB aE hb
           replace HB := rS HB hb
           clear hb ho12
           refine hK.out _ _ ⟨cI aA.out 0, cI aA.out 1, cI aA.out 2⟩ (fun hHeld => ?_)
           clear hK K
           refine norm_ (a' := ?_) ?_ ?_
           rotate_left
           ·show Act.put _ (some 9) _ = _
            simp only [Act.put, sA, sZ, sS, i64_w, i32_w]
            rfl
           exact norm_ (by first | (simp only [putAll, Act.put, sA, sZ, sS]; done) | (simp only [putAll, Act.put, sA, sZ, sS]; rfl)) (hJ0_4_9 (bO, bP, aG) _ ⟨hHeld, (kr bL.out), (kr aW.out), (bk aA.out), (bk aD.out), (bk aE.out), bQ.out, bU.out, aJ.out, aK.out, aN.out, aQ.out, (bl HB.out)⟩)
        ·skip
         rintro ⟨bO, bP⟩ cP ⟨hS_, h0_, h1_, h2_, h3_, h4_⟩
         have bL : Aside0 (Kd.R Kd.bool 4 cP w.heap.size (fun _ => True) bO cN) := ⟨h0_⟩
         have aW : Aside0 (Kd.R k138 138 cP w.heap.size (fun _ => True) bP cK) := ⟨h1_⟩
         replace aA : Aside0 (cP.heap[aC]? = some (.cells #[.slice aX aT.length bA, .slice bK aH.length bD, .slice bI aV.length bJ] 43 (0, 0))) := ⟨h2_⟩
         replace aD : Aside0 (cP.heap[aI]? = some (.cells #[.slice none 0 0, .slice none 0 0, .slice none 0 0] 43 (0, 0))) := ⟨h3_⟩
         replace HB : Aside0 (Below w.heap.size w cP) := ⟨h4_⟩
         clear h0_ h1_ h2_ h3_ h4_
         have hHeld : cP.cell? ⟨aC, 0, none⟩ = some (.slice aX aT.length bA) ∧ cP.cell? ⟨aC, 1, none⟩ = some (.slice bK aH.length bD) ∧ cP.cell? ⟨aC, 2, none⟩ = some (.slice bI aV.length bJ) := hS_
         refine norm_ (a' := ?_) ?_ ?_
         rotate_left
         ·simp only [putAll, Act.put, sA, sZ, sS]
          rfl
         refine two_ (i := 3) (j := 9) (Ni := some 8) (Nj := some 3) (bv 11 127) (bv 11 631) rfl rfl rfl rfl (two_of HT_.out (by kernel_rfl)) (by decide) (by decide) (fun K hK => ?_) (fun K hK => ?_)
         ·skip
          refine Kd.R_append_rows_step Kd.bool (w0 := w) w.heap.size (by rfl) (.tmp 5) (.tmp 7) 34 4 (.bool false) 1 rfl Try.underlying34 info4 rfl (by decide) (by omega) bO cN aT _ _ _ (fun _ => True) (fun _ => False) rfl rfl ?aO ?aR (fun _ _ h => h) (fun _ h => h.elim) ?aF ?aB ?aS ?aL ?_
          (case aR => repeat (first | exact (cB dV.out HB.out) | (with_reducible refine Kd.C_alloc ?_ _) | (with_reducible refine Kd.C_drewN ?_ _) | (with_reducible refine Kd.C_drew ?_)))
          (case aB => exact (bl HB.out))
          (case aF => exact (fun _ _ => trivial))
          (case aO => exact (kr bL.out))
          (case aS => exact (below_size (bl HB.out)))
          (case aL => have := LMc2.out; omega)
          intro cG cQ ho hb hg hat
          rw [← dW.out] at ho
          have bM := aM (ho)
          replace aA := aM (blk_grown (bk aA.out) hg (Kd.R_ne bL.out aA.out (by decide)))
          replace aD := aM (blk_grown (bk aD.out) hg (Kd.R_ne bL.out aD.out (by decide)))
          replace aW := aM (Kd.R_over' (kr aW.out) (Kd.R_typed (kr bL.out)) (by decide) hg)
          replace HB := aM (hb)
          clear bL
          clear ho hb hg hat
          refine hK.out _ _ ⟨cI aA.out 0, cI aA.out 1, cI aA.out 2⟩ (fun hHeld => ?_)
          clear hK K
          refine norm_ (a' := ?_) ?_ ?_
          rotate_left
          ·show Act.put _ (some 8) _ = _
           simp only [Act.put, sA, sZ, sS, i64_w, i32_w]
           rfl
          exact norm_ (by first | (simp only [putAll, Act.put, sA, sZ, sS]; done) | (simp only [putAll, Act.put, sA, sZ, sS]; rfl)) (hJ0_3_4 (bO, cG, bP) _ ⟨hHeld, (kr bM.out), (kr aW.out), (bk aA.out), (bk aD.out), (bl HB.out)⟩)
         ·skip
          refine box_step ?hg (N := 3) ?hd (cs := #[.slice none 0 0, .slice none 0 0, .slice none 0 0]) (t := 43) ?hr ?_; (case hd => rfl); (case hg => rfl); (case hr => first | (go_simp; done) | (go_simp; rfl))
          intro aG hg cQ hbox hb
          have aE := aM (hbox)
          have bQ := gF hg HB
          have bU := gF hg HB
          have aJ := nM hg aA
          have aK := nH hg aA
          have aN := nM hg aD
          have aQ := nH hg aD
          replace bL := rK bL hb
          replace aW := rK aW hb
          replace aA := rB aA hb
          replace aD := rB aD hb
          replace HB := rS HB hb
          clear hb hbox hg
          refine hK.out _ _ ⟨cI aA.out 0, cI aA.out 1, cI aA.out 2⟩ (fun hHeld => ?_)
          clear hK K
          refine norm_ (a' := ?_) ?_ ?_
          rotate_left
          ·show Act.put _ (some 3) _ = _
           simp only [Act.put, sA, sZ, sS, i64_w, i32_w]
           rfl
          exact norm_ (by first | (simp only [putAll, Act.put, sA, sZ, sS]; done) | (simp only [putAll, Act.put, sA, sZ, sS]; rfl)) (hJ0_4_9 (bO, bP, aG) _ ⟨hHeld, (kr bL.out), (kr aW.out), (bk aA.out), (bk aD.out), (bk aE.out), bQ.out, bU.out, aJ.out, aK.out, aN.out, aQ.out, (bl HB.out)⟩)
       ·skip
        rintro ⟨bO, cG⟩ cH ⟨hS_, h0_, h1_, h2_, h3_⟩
        have bM : Aside0 (Kd.R Kd.bool 4 cH w.heap.size (fun _ => True) cG bW) := ⟨h0_⟩
        replace aA : Aside0 (cH.heap[aC]? = some (.cells #[.slice aX aT.length bA, .slice bK aH.length bD, .slice bI aV.length bJ] 43 (0, 0))) := ⟨h1_⟩
        replace aD : Aside0 (cH.heap[aI]? = some (.cells #[.slice none 0 0, .slice none 0 0, .slice none 0 0] 43 (0, 0))) := ⟨h2_⟩
        replace HB : Aside0 (Below w.heap.size w cH) := ⟨h3_⟩
        clear h0_ h1_ h2_ h3_
        have hHeld : cH.cell? ⟨aC, 0, none⟩ = some (.slice aX aT.length bA) ∧ cH.cell? ⟨aC, 1, none⟩ = some (.slice bK aH.length bD) ∧ cH.cell? ⟨aC, 2, none⟩ = some (.slice bI aV.length bJ) := hS_
        refine norm_ (a' := ?_) ?_ ?_
        rotate_left
        ·simp only [putAll, Act.put, sA, sZ, sS]
         rfl
        refine two_ (i := 4) (j := 9) (Ni := some 9) (Nj := some 3) (bv 11 127) (bv 11 623) rfl rfl rfl rfl (two_of HT_.out (by kernel_rfl)) (by decide) (by decide) (fun K hK => ?_) (fun K hK => ?_)
        ·skip
         refine Kd.R_lit_step k138 _ 138 ?hg (N := 9) ?hd (xs := ([] : List (S138))) (inner := []) (ok := fun _ => True) (okp := fun _ => True) ?hr ?hp (fun _ hk => hk) trivial (Below.refl _ _) (Nat.le_refl _) (by simp) ?_; (case hd => rfl); (case hg => rfl); (case hr => first | (go_simp; done) | (go_simp; rfl)); (case hp => exact (Reps.none _ _))
         intro bP cP ho12 hb hg_ hnew_
         clear hg_ hnew_
         (first | rw [← cR.out] at ho12 | (simp only [Int.reduceToNat] at ho12; rw [← cR.out] at ho12))
         have aW := aM (Kd.R_lower ho12 (below_size (bl HB.out)))
         replace bM := rK bM hb
         replace aA := rB aA hb
         replace aD := rB aD hb
         replace HB := rS HB hb
         clear hb ho12
         refine hK.out _ _ ⟨cI aA.out 0, cI aA.out 1, cI aA.out 2⟩ (fun hHeld => ?_)
         clear hK K
         refine norm_ (a' := ?_) ?_ ?_
         rotate_left
         ·show Act.put _ (some 9) _ = _
          simp only [Act.put, sA, sZ, sS, i64_w, i32_w]
          rfl
         exact norm_ (by first | (simp only [putAll, Act.put, sA, sZ, sS]; done) | (simp only [putAll, Act.put, sA, sZ, sS]; rfl)) (hJ0_3_4 (bO, cG, bP) _ ⟨hHeld, (kr bM.out), (kr aW.out), (bk aA.out), (bk aD.out), (bl HB.out)⟩)
        ·skip
         refine box_step ?hg (N := 3) ?hd (cs := #[.slice none 0 0, .slice none 0 0, .slice none 0 0]) (t := 43) ?hr ?_; (case hd => rfl); (case hg => rfl); (case hr => first | (go_simp; done) | (go_simp; rfl))
         intro aG hg cP hbox hb
         have aE := aM (hbox)
         have bQ := gF hg HB
         have bU := gF hg HB
         have aJ := nM hg aA
         have aK := nH hg aA
         have aN := nM hg aD
         have aQ := nH hg aD
         replace bM := rK bM hb
         replace aA := rB aA hb
         replace aD := rB aD hb
         replace HB := rS HB hb
         clear hb hbox hg
         refine hK.out _ _ ⟨cI aA.out 0, cI aA.out 1, cI aA.out 2⟩ (fun hHeld => ?_)
         clear hK K
         refine norm_ (a' := ?_) ?_ ?_
         rotate_left
         ·show Act.put _ (some 3) _ = _
          simp only [Act.put, sA, sZ, sS, i64_w, i32_w]
          rfl
         exact norm_ (by first | (simp only [putAll, Act.put, sA, sZ, sS]; done) | (simp only [putAll, Act.put, sA, sZ, sS]; rfl)) (hJ0_3_9 (bO, cG, aG) _ ⟨hHeld, (kr bM.out), (bk aA.out), (bk aD.out), (bk aE.out), bQ.out, bU.out, aJ.out, aK.out, aN.out, aQ.out, (bl HB.out)⟩)
      ·skip
       rintro ⟨bO, bP, aG⟩ cQ ⟨hS_, h0_, h1_, h2_, h3_, h4_, h5_, h6_, h7_, h8_, h9_, h10_, h11_⟩
       have bL : Aside0 (Kd.R Kd.bool 4 cQ w.heap.size (fun _ => True) bO cN) := ⟨h0_⟩
       have aW : Aside0 (Kd.R k138 138 cQ w.heap.size (fun _ => True) bP cK) := ⟨h1_⟩
       have aE : Aside0 (cQ.heap[aG]? = some (.cells #[.slice none 0 0, .slice none 0 0, .slice none 0 0] 43 (0, 0))) := ⟨h4_⟩
       have bQ : Aside0 (w.heap.size ≤ aG) := ⟨h5_⟩
       have bU : Aside0 (w.heap.size ≤ aG) := ⟨h6_⟩
       have aJ : Aside0 (aC ≠ aG) := ⟨h7_⟩
       have aK : Aside0 (aG ≠ aC) := ⟨h8_⟩
       have aN : Aside0 (aI ≠ aG) := ⟨h9_⟩
       have aQ : Aside0 (aG ≠ aI) := ⟨h10_⟩
       replace aA : Aside0 (cQ.heap[aC]? = some (.cells #[.slice aX aT.length bA, .slice bK aH.length bD, .slice bI aV.length bJ] 43 (0, 0))) := ⟨h2_⟩
       replace aD : Aside0 (cQ.heap[aI]? = some (.cells #[.slice none 0 0, .slice none 0 0, .slice none 0 0] 43 (0, 0))) := ⟨h3_⟩
       replace HB : Aside0 (Below w.heap.size w cQ) := ⟨h11_⟩
       clear h0_ h1_ h2_ h3_ h4_ h5_ h6_ h7_ h8_ h9_ h10_ h11_
       have hHeld : cQ.cell? ⟨aC, 0, none⟩ = some (.slice aX aT.length bA) ∧ cQ.cell? ⟨aC, 1, none⟩ = some (.slice bK aH.length bD) ∧ cQ.cell? ⟨aC, 2, none⟩ = some (.slice bI aV.length bJ) := hS_
       refine norm_ (a' := ?_) ?_ ?_
       rotate_left
       ·simp only [putAll, Act.put, sA, sZ, sS]
        rfl
       refine one_ (i := 3) (N := some 8) (bv 11 639) rfl rfl (one_of HT_.out (by kernel_rfl)) (by decide) (fun K hK => ?_)
       refine Kd.R_append_rows_step Kd.bool (w0 := w) w.heap.size (by rfl) (.tmp 5) (.tmp 7) 34 4 (.bool false) 1 rfl Try.underlying34 info4 rfl (by decide) (by omega) bO cN aT _ _ _ (fun _ => True) (fun _ => False) rfl rfl ?aO ?aR (fun _ _ h => h) (fun _ h => h.elim) ?aF ?aB ?aS ?aL ?_
       (case aR => repeat (first | exact (cB dV.out HB.out) | (with_reducible refine Kd.C_alloc ?_ _) | (with_reducible refine Kd.C_drewN ?_ _) | (with_reducible refine Kd.C_drew ?_)))
       (case aB => exact (bl HB.out))
       (case aF => exact (fun _ _ => trivial))
       (case aO => exact (kr bL.out))
       (case aS => exact (below_size (bl HB.out)))
       (case aL => have := LMc2.out; omega)
       intro cG dH ho hb hg hat
       rw [← dW.out] at ho
       have bM := aM (ho)
       replace aA := aM (blk_grown (bk aA.out) hg (Kd.R_ne bL.out aA.out (by decide)))
       replace aD := aM (blk_grown (bk aD.out) hg (Kd.R_ne bL.out aD.out (by decide)))
       replace aW := aM (Kd.R_over' (kr aW.out) (Kd.R_typed (kr bL.out)) (by decide) hg)
       replace aE := aM (blk_grown (bk aE.out) hg (Kd.R_ne bL.out aE.out (by decide)))
       replace HB := aM (hb)
       clear bL
       clear ho hb hg hat
       refine hK.out _ _ ⟨cI aA.out 0, cI aA.out 1, cI aA.out 2⟩ (fun hHeld => ?_)
       clear hK K
       refine norm_ (a' := ?_) ?_ ?_
       rotate_left
       ·show Act.put _ (some 8) _ = _
        simp only [Act.put, sA, sZ, sS, i64_w, i32_w]
        rfl
       exact norm_ (by first | (simp only [putAll, Act.put, sA, sZ, sS]; done) | (simp only [putAll, Act.put, sA, sZ, sS]; rfl)) (hJ0_3_4_9 (bO, cG, bP, aG) _ ⟨hHeld, (kr bM.out), (kr aW.out), (bk aA.out), (bk aD.out), (bk aE.out), bQ.out, bU.out, aJ.out, aK.out, aN.out, aQ.out, (bl HB.out)⟩)
     ·skip
      rintro ⟨bO, cG, aG⟩ cP ⟨hS_, h0_, h1_, h2_, h3_, h4_, h5_, h6_, h7_, h8_, h9_, h10_⟩
      have bM : Aside0 (Kd.R Kd.bool 4 cP w.heap.size (fun _ => True) cG bW) := ⟨h0_⟩
      have aE : Aside0 (cP.heap[aG]? = some (.cells #[.slice none 0 0, .slice none 0 0, .slice none 0 0] 43 (0, 0))) := ⟨h3_⟩
      have bQ : Aside0 (w.heap.size ≤ aG) := ⟨h4_⟩
      have bU : Aside0 (w.heap.size ≤ aG) := ⟨h5_⟩
      have aJ : Aside0 (aC ≠ aG) := ⟨h6_⟩
      have aK : Aside0 (aG ≠ aC) := ⟨h7_⟩
      have aN : Aside0 (aI ≠ aG) := ⟨h8_⟩
      have aQ : Aside0 (aG ≠ aI) := ⟨h9_⟩
      replace aA : Aside0 (cP.heap[aC]? = some (.cells #[.slice aX aT.length bA, .slice bK aH.length bD, .slice bI aV.length bJ] 43 (0, 0))) := ⟨h1_⟩
      replace aD : Aside0 (cP.heap[aI]? = some (.cells #[.slice none 0 0, .slice none 0 0, .slice none 0 0] 43 (0, 0))) := ⟨h2_⟩
      replace HB : Aside0 (Below w.heap.size w cP) := ⟨h10_⟩
      clear h0_ h1_ h2_ h3_ h4_ h5_ h6_ h7_ h8_ h9_ h10_
      have hHeld : cP.cell? ⟨aC, 0, none⟩ = some (.slice aX aT.length bA) ∧ cP.cell? ⟨aC, 1, none⟩ = some (.slice bK aH.length bD) ∧ cP.cell? ⟨aC, 2, none⟩ = some (.slice bI aV.length bJ) := hS_
      refine norm_ (a' := ?_) ?_ ?_
      rotate_left
      ·simp only [putAll, Act.put, sA, sZ, sS]
       rfl
      refine one_ (i := 4) (N := some 9) (bv 11 639) rfl rfl (one_of HT_.out (by kernel_rfl)) (by decide) (fun K hK => ?_)
      refine Kd.R_lit_step k138 _ 138 ?hg (N := 9) ?hd (xs := ([] : List (S138))) (inner := []) (ok := fun _ => True) (okp := fun _ => True) ?hr ?hp (fun _ hk => hk) trivial (Below.refl _ _) (Nat.le_refl _) (by simp) ?_; (case hd => rfl); (case hg => rfl); (case hr => first | (go_simp; done) | (go_simp; rfl)); (case hp => exact (Reps.none _ _))
      intro bP cQ ho13 hb hg_ hnew_
      clear hg_ hnew_
      (first | rw [← cR.out] at ho13 | (simp only [Int.reduceToNat] at ho13; rw [← cR.out] at ho13))
      have aW := aM (Kd.R_lower ho13 (below_size (bl HB.out)))
      replace bM := rK bM hb
      replace aA := rB aA hb
      replace aD := rB aD hb
      replace aE := rB aE hb
      replace HB := rS HB hb
      clear hb ho13
      refine hK.out _ _ ⟨cI aA.out 0, cI aA.out 1, cI aA.out 2⟩ (fun hHeld => ?_)
      clear hK K
      refine norm_ (a' := ?_) ?_ ?_
      rotate_left
      ·show Act.put _ (some 9) _ = _
       simp only [Act.put, sA, sZ, sS, i64_w, i32_w]
       rfl
      exact norm_ (by first | (simp only [putAll, Act.put, sA, sZ, sS]; done) | (simp only [putAll, Act.put, sA, sZ, sS]; rfl)) (hJ0_3_4_9 (bO, cG, bP, aG) _ ⟨hHeld, (kr bM.out), (kr aW.out), (bk aA.out), (bk aD.out), (bk aE.out), bQ.out, bU.out, aJ.out, aK.out, aN.out, aQ.out, (bl HB.out)⟩)
    ·skip
     rintro ⟨bO, cG, bP⟩ cQ ⟨hS_, h0_, h1_, h2_, h3_, h4_⟩
     have bM : Aside0 (Kd.R Kd.bool 4 cQ w.heap.size (fun _ => True) cG bW) := ⟨h0_⟩
     have aW : Aside0 (Kd.R k138 138 cQ w.heap.size (fun _ => True) bP cK) := ⟨h1_⟩
     replace aA : Aside0 (cQ.heap[aC]? = some (.cells #[.slice aX aT.length bA, .slice bK aH.length bD, .slice bI aV.length bJ] 43 (0, 0))) := ⟨h2_⟩
     replace aD : Aside0 (cQ.heap[aI]? = some (.cells #[.slice none 0 0, .slice none 0 0, .slice none 0 0] 43 (0, 0))) := ⟨h3_⟩
     replace HB : Aside0 (Below w.heap.size w cQ) := ⟨h4_⟩
     clear h0_ h1_ h2_ h3_ h4_
     have hHeld : cQ.cell? ⟨aC, 0, none⟩ = some (.slice aX aT.length bA) ∧ cQ.cell? ⟨aC, 1, none⟩ = some (.slice bK aH.length bD) ∧ cQ.cell? ⟨aC, 2, none⟩ = some (.slice bI aV.length bJ) := hS_
     refine norm_ (a' := ?_) ?_ ?_
     rotate_left
     ·simp only [putAll, Act.put, sA, sZ, sS]
      rfl
     refine two_ (i := 7) (j := 9) (Ni := some 12) (Nj := some 3) (bv 11 255) (bv 11 639) rfl rfl rfl rfl (two_of HT_.out (by kernel_rfl)) (by decide) (by decide) (fun K hK => ?_) (fun K hK => ?_)
     ·skip
      refine Kd.R_append_rows_step k138 (w0 := w) w.heap.size (by rfl) (.tmp 9) (.tmp 11) 41 138 (.agg #[(.int .i64 0), (.int .i64 0), (.int .i64 0), (.int .i64 0)]) 32 rfl Try.underlying41 info138 rfl (by decide) (by omega) bP cK aV _ _ _ (fun _ => True) (fun _ => False) rfl rfl ?aO ?aR (fun _ _ h => h) (fun _ h => h.elim) ?aF ?aB ?aS ?aL ?_
      (case aR => repeat (first | exact (cB fB.out HB.out) | (with_reducible refine Kd.C_alloc ?_ _) | (with_reducible refine Kd.C_drewN ?_ _) | (with_reducible refine Kd.C_drew ?_)))
      (case aB => exact (bl HB.out))
      (case aF => exact (fun _ _ => trivial))
      (case aO => exact (kr aW.out))
      (case aS => exact (below_size (bl HB.out)))
      (case aL => have := LMc3.out; omega)
      intro dY dH ho hb hg hat
      rw [← fE.out] at ho
      have cO := aM (ho)
      replace aA := aM (blk_grown (bk aA.out) hg (Kd.R_ne aW.out aA.out (by decide)))
      replace aD := aM (blk_grown (bk aD.out) hg (Kd.R_ne aW.out aD.out (by decide)))
      replace bM := aM (Kd.R_over' (kr bM.out) (Kd.R_typed (kr aW.out)) (by decide) hg)
      replace HB := aM (hb)
      clear aW
      clear ho hb hg hat
      obtain ⟨gG, gH, fM⟩ := Kd.R_slice cO.out
      (first | subst fM | (injection fM with f1_ f2_ f3_; have f4_ := f1_.symm; have f5_ := f3_.symm; clear f1_ f2_ f3_; subst f4_; subst f5_))
      obtain ⟨eM, eN, dZ⟩ := Kd.R_slice bM.out
      (first | subst dZ | (injection dZ with f1_ f2_ f3_; have f4_ := f1_.symm; have f5_ := f3_.symm; clear f1_ f2_ f3_; subst f4_; subst f5_))
      refine hK.out _ _ ⟨cI aA.out 0, cI aA.out 1, cI aA.out 2⟩ (fun hHeld => ?_)
      clear hK K
      refine norm_ (a' := ?_) ?_ ?_
      rotate_left
      ·show Act.put _ (some 12) _ = _
       simp only [Act.put, sA, sZ, sS, i64_w, i32_w]
       rfl
      refine pZ 8 13 (bv 11 511) HT_ ?_
      exact norm_ (by first | (simp only [putAll, Act.put, sA, sZ, sS]; done) | (simp only [putAll, Act.put, sA, sZ, sS]; rfl)) (hJ0_3_4_7 (bO, .slice eM bW.length eN, bP, .slice gG cL.length gH) _ ⟨hHeld, (kr bM.out), (kr cO.out), (bk aA.out), (bk aD.out), (bl HB.out)⟩)
     ·skip
      refine box_step ?hg (N := 3) ?hd (cs := #[.slice none 0 0, .slice none 0 0, .slice none 0 0]) (t := 43) ?hr ?_; (case hd => rfl); (case hg => rfl); (case hr => first | (go_simp; done) | (go_simp; rfl))
      intro aG hg dH hbox hb
      have aE := aM (hbox)
      have bQ := gF hg HB
      have bU := gF hg HB
      have aJ := nM hg aA
      have aK := nH hg aA
      have aN := nM hg aD
      have aQ := nH hg aD
      replace bM := rK bM hb
      replace aW := rK aW hb
      replace aA := rB aA hb
      replace aD := rB aD hb
      replace HB := rS HB hb
      clear hb hbox hg
      refine hK.out _ _ ⟨cI aA.out 0, cI aA.out 1, cI aA.out 2⟩ (fun hHeld => ?_)
      clear hK K
      refine norm_ (a' := ?_) ?_ ?_
      rotate_left
      ·show Act.put _ (some 3) _ = _
       simp only [Act.put, sA, sZ, sS, i64_w, i32_w]
       rfl
      exact norm_ (by first | (simp only [putAll, Act.put, sA, sZ, sS]; done) | (simp only [putAll, Act.put, sA, sZ, sS]; rfl)) (hJ0_3_4_9 (bO, cG, bP, aG) _ ⟨hHeld, (kr bM.out), (kr aW.out), (bk aA.out), (bk aD.out), (bk aE.out), bQ.out, bU.out, aJ.out, aK.out, aN.out, aQ.out, (bl HB.out)⟩)
   ·skip
    rintro ⟨bO, cG, bP, aG⟩ dH ⟨hS_, h0_, h1_, h2_, h3_, h4_, h5_, h6_, h7_, h8_, h9_, h10_, h11_⟩
    have bM : Aside0 (Kd.R Kd.bool 4 dH w.heap.size (fun _ => True) cG bW) := ⟨h0_⟩
    have aW : Aside0 (Kd.R k138 138 dH w.heap.size (fun _ => True) bP cK) := ⟨h1_⟩
    have aE : Aside0 (dH.heap[aG]? = some (.cells #[.slice none 0 0, .slice none 0 0, .slice none 0 0] 43 (0, 0))) := ⟨h4_⟩
    have bQ : Aside0 (w.heap.size ≤ aG) := ⟨h5_⟩
    have bU : Aside0 (w.heap.size ≤ aG) := ⟨h6_⟩
    have aJ : Aside0 (aC ≠ aG) := ⟨h7_⟩
    have aK : Aside0 (aG ≠ aC) := ⟨h8_⟩
    have aN : Aside0 (aI ≠ aG) := ⟨h9_⟩
    have aQ : Aside0 (aG ≠ aI) := ⟨h10_⟩
    replace aA : Aside0 (dH.heap[aC]? = some (.cells #[.slice aX aT.length bA, .slice bK aH.length bD, .slice bI aV.length bJ] 43 (0, 0))) := ⟨h2_⟩
    replace aD : Aside0 (dH.heap[aI]? = some (.cells #[.slice none 0 0, .slice none 0 0, .slice none 0 0] 43 (0, 0))) := ⟨h3_⟩
    replace HB : Aside0 (Below w.heap.size w dH) := ⟨h11_⟩
    clear h0_ h1_ h2_ h3_ h4_ h5_ h6_ h7_ h8_ h9_ h10_ h11_
    have hHeld : dH.cell? ⟨aC, 0, none⟩ = some (.slice aX aT.length bA) ∧ dH.cell? ⟨aC, 1, none⟩ = some (.slice bK aH.length bD) ∧ dH.cell? ⟨aC, 2, none⟩ = some (.slice bI aV.length bJ) := hS_
    refine norm_ (a' := ?_) ?_ ?_
    rotate_left
    ·simp only [putAll, Act.put, sA, sZ, sS]
     rfl
    refine one_ (i := 7) (N := some 12) (bv 11 767) rfl rfl (one_of HT_.out (by kernel_rfl)) (by decide) (fun K hK => ?_)
    refine Kd.R_append_rows_step k138 (w0 := w) w.heap.size (by rfl) (.tmp 9) (.tmp 11) 41 138 (.agg #[(.int .i64 0), (.int .i64 0), (.int .i64 0), (.int .i64 0)]) 32 rfl Try.underlying41 info138 rfl (by decide) (by omega) bP cK aV _ _ _ (fun _ => True) (fun _ => False) rfl rfl ?aO ?aR (fun _ _ h => h) (fun _ h => h.elim) ?aF ?aB ?aS ?aL ?_
    (case aR => repeat (first | exact (cB fB.out HB.out) | (with_reducible refine Kd.C_alloc ?_ _) | (with_reducible refine Kd.C_drewN ?_ _) | (with_reducible refine Kd.C_drew ?_)))
    (case aB => exact (bl HB.out))
    (case aF => exact (fun _ _ => trivial))
    (case aO => exact (kr aW.out))
    (case aS => exact (below_size (bl HB.out)))
    (case aL => have := LMc3.out; omega)
    intro dY iQ ho hb hg hat
    rw [← fE.out] at ho
    have cO := aM (ho)
    replace aA := aM (blk_grown (bk aA.out) hg (Kd.R_ne aW.out aA.out (by decide)))
    replace aD := aM (blk_grown (bk aD.out) hg (Kd.R_ne aW.out aD.out (by decide)))
    replace bM := aM (Kd.R_over' (kr bM.out) (Kd.R_typed (kr aW.out)) (by decide) hg)
    replace aE := aM (blk_grown (bk aE.out) hg (Kd.R_ne aW.out aE.out (by decide)))
    replace HB := aM (hb)
    clear aW
    clear ho hb hg hat
    obtain ⟨eM, eN, dZ⟩ := Kd.R_slice cO.out
    (first | subst dZ | (injection dZ with f1_ f2_ f3_; have f4_ := f1_.symm; have f5_ := f3_.symm; clear f1_ f2_ f3_; subst f4_; subst f5_))
    obtain ⟨eO, eP, eA⟩ := Kd.R_slice bM.out
    (first | subst eA | (injection eA with f1_ f2_ f3_; have f4_ := f1_.symm; have f5_ := f3_.symm; clear f1_ f2_ f3_; subst f4_; subst f5_))
    refine hK.out _ _ ⟨cI aA.out 0, cI aA.out 1, cI aA.out 2⟩ (fun hHeld => ?_)
    clear hK K
    refine norm_ (a' := ?_) ?_ ?_
    rotate_left
    ·show Act.put _ (some 12) _ = _
     simp only [Act.put, sA, sZ, sS, i64_w, i32_w]
     rfl
    refine pZ 8 13 (bv 11 1023) HT_ ?_
    exact norm_ (by first | (simp only [putAll, Act.put, sA, sZ, sS]; done) | (simp only [putAll, Act.put, sA, sZ, sS]; rfl)) (hJ0_3_4_7_9 (bO, .slice eO bW.length eP, bP, .slice eM cL.length eN, aG) _ ⟨hHeld, (kr bM.out), (kr cO.out), (bk aA.out), (bk aD.out), (bk aE.out), bQ.out, bU.out, aJ.out, aK.out, aN.out, aQ.out, (bl HB.out)⟩)
  ·skip
   rintro ⟨bO, cG, bP, dY⟩ dU ⟨hS_, h0_, h1_, h2_, h3_, h4_⟩
   have bM : Aside0 (Kd.R Kd.bool 4 dU w.heap.size (fun _ => True) cG bW) := ⟨h0_⟩
   have cO : Aside0 (Kd.R k138 138 dU w.heap.size (fun _ => True) dY cL) := ⟨h1_⟩
   replace aA : Aside0 (dU.heap[aC]? = some (.cells #[.slice aX aT.length bA, .slice bK aH.length bD, .slice bI aV.length bJ] 43 (0, 0))) := ⟨h2_⟩
   replace aD : Aside0 (dU.heap[aI]? = some (.cells #[.slice none 0 0, .slice none 0 0, .slice none 0 0] 43 (0, 0))) := ⟨h3_⟩
   replace HB : Aside0 (Below w.heap.size w dU) := ⟨h4_⟩
   clear h0_ h1_ h2_ h3_ h4_
   have hHeld : dU.cell? ⟨aC, 0, none⟩ = some (.slice aX aT.length bA) ∧ dU.cell? ⟨aC, 1, none⟩ = some (.slice bK aH.length bD) ∧ dU.cell? ⟨aC, 2, none⟩ = some (.slice bI aV.length bJ) := hS_
   obtain ⟨eO, eP, eA⟩ := Kd.R_slice cO.out
   (first | subst eA | (injection eA with f1_ f2_ f3_; have f4_ := f1_.symm; have f5_ := f3_.symm; clear f1_ f2_ f3_; subst f4_; subst f5_))
   obtain ⟨cT, cU, eB⟩ := Kd.R_slice bM.out
   (first | subst eB | (injection eB with f1_ f2_ f3_; have f4_ := f1_.symm; have f5_ := f3_.symm; clear f1_ f2_ f3_; subst f4_; subst f5_))
   refine norm_ (a' := ?_) ?_ ?_
   rotate_left
   ·simp only [putAll, Act.put, sA, sZ, sS]
    rfl
   refine one_ (i := 9) (N := some 3) (bv 11 1023) rfl rfl (one_of HT_.out (by kernel_rfl)) (by decide) (fun K hK => ?_)
   refine box_step ?hg (N := 3) ?hd (cs := #[.slice none 0 0, .slice none 0 0, .slice none 0 0]) (t := 43) ?hr ?_; (case hd => rfl); (case hg => rfl); (case hr => first | (go_simp; done) | (go_simp; rfl))
   intro aG hg iR hbox hb
   have aE := aM (hbox)
   have bQ := gF hg HB
   have bU := gF hg HB
   have aJ := nM hg aA
   have aK := nH hg aA
   have aN := nM hg aD
   have aQ := nH hg aD
   replace bM := rK bM hb
   replace cO := rK cO hb
   replace aA := rB aA hb
   replace aD := rB aD hb
   replace HB := rS HB hb
   clear hb hbox hg
   refine hK.out _ _ ⟨cI aA.out 0, cI aA.out 1, cI aA.out 2⟩ (fun hHeld => ?_)
   clear hK K
   refine norm_ (a' := ?_) ?_ ?_
   rotate_left
   ·show Act.put _ (some 3) _ = _
    simp only [Act.put, sA, sZ, sS, i64_w, i32_w]
    rfl
   exact norm_ (by first | (simp only [putAll, Act.put, sA, sZ, sS]; done) | (simp only [putAll, Act.put, sA, sZ, sS]; rfl)) (hJ0_3_4_7_9 (bO, .slice cT bW.length cU, bP, .slice eO cL.length eP, aG) _ ⟨hHeld, (kr bM.out), (kr cO.out), (bk aA.out), (bk aD.out), (bk aE.out), bQ.out, bU.out, aJ.out, aK.out, aN.out, aQ.out, (bl HB.out)⟩)
 rintro ⟨bO, cG, bP, dY, aG⟩ dM ⟨hS_, h0_, h1_, h2_, h3_, h4_, h5_, h6_, h7_, h8_, h9_, h10_, h11_⟩
 have bM : Aside0 (Kd.R Kd.bool 4 dM w.heap.size (fun _ => True) cG bW) := ⟨h0_⟩
 have cO : Aside0 (Kd.R k138 138 dM w.heap.size (fun _ => True) dY cL) := ⟨h1_⟩
 have aE : Aside0 (dM.heap[aG]? = some (.cells #[.slice none 0 0, .slice none 0 0, .slice none 0 0] 43 (0, 0))) := ⟨h4_⟩
 have bQ : Aside0 (w.heap.size ≤ aG) := ⟨h5_⟩
 have bU : Aside0 (w.heap.size ≤ aG) := ⟨h6_⟩
 have aJ : Aside0 (aC ≠ aG) := ⟨h7_⟩
 have aK : Aside0 (aG ≠ aC) := ⟨h8_⟩
 have aN : Aside0 (aI ≠ aG) := ⟨h9_⟩
 have aQ : Aside0 (aG ≠ aI) := ⟨h10_⟩
 replace aA : Aside0 (dM.heap[aC]? = some (.cells #[.slice aX aT.length bA, .slice bK aH.length bD, .slice bI aV.length bJ] 43 (0, 0))) := ⟨h2_⟩
 replace aD : Aside0 (dM.heap[aI]? = some (.cells #[.slice none 0 0, .slice none 0 0, .slice none 0 0] 43 (0, 0))) := ⟨h3_⟩
 replace HB : Aside0 (Below w.heap.size w dM) := ⟨h11_⟩
 clear h0_ h1_ h2_ h3_ h4_ h5_ h6_ h7_ h8_ h9_ h10_ h11_
 have hHeld : dM.cell? ⟨aC, 0, none⟩ = some (.slice aX aT.length bA) ∧ dM.cell? ⟨aC, 1, none⟩ = some (.slice bK aH.length bD) ∧ dM.cell? ⟨aC, 2, none⟩ = some (.slice bI aV.length bJ) := hS_
 obtain ⟨cT, cU, eB⟩ := Kd.R_slice cO.out
 (first | subst eB | (injection eB with f1_ f2_ f3_; have f4_ := f1_.symm; have f5_ := f3_.symm; clear f1_ f2_ f3_; subst f4_; subst f5_))
 obtain ⟨dC, dD, fN⟩ := Kd.R_slice bM.out
 (first | subst fN | (injection fN with f1_ f2_ f3_; have f4_ := f1_.symm; have f5_ := f3_.symm; clear f1_ f2_ f3_; subst f4_; subst f5_))
 refine norm_ (a' := ?_) ?_ ?_
 rotate_left
 ·simp only [putAll, Act.put, sA, sZ, sS]
  rfl
 refine one_ (i := 10) (N := none) (bv 11 2047) rfl rfl (one_of HT_.out (by kernel_rfl)) (by decide) (fun K hK => ?_)
 have iK := cI aE.out 0
 have hfs19 := bF aE.out 0
 have hns19_0 := aJ.out
 have hns19_1 := aN.out
 have hms19_0 := aK.out
 have hms19_1 := aQ.out
 have iL := cI aE.out 1
 have hfs20 := bF aE.out 1
 have hns20_0 := aJ.out
 have hns20_1 := aN.out
 have hms20_0 := aK.out
 have hms20_1 := aQ.out
 have iM := cI aE.out 2
 have hfs21 := bF aE.out 2
 have hns21_0 := aJ.out
 have hns21_1 := aN.out
 have hms21_0 := aK.out
 have hms21_1 := aQ.out
 refine skip_ (w1 := ?_) (by rfl) rfl ?_ ?_
 rotate_left
 ·go_simp
  rfl
 refine hK.out _ _ ⟨(cm (hHeld.1)), (cm (hHeld.2.1)), (cm (hHeld.2.2))⟩ (fun hHeld => ?_)
 clear hK K
 refine done_ (done_of HT_.out (by kernel_rfl)) ?_
 try go_wp2
 go_loopg [4] k (fun kq v4 w' => ∃ (cA : Int) (cC : List (S63)) (cS : Value), v4 = .int .i64 cA ∧ Aside0 (spec_l5Copy.l0 kq cA aT aH aV bW cC cL = some (r1, r2, r3)) ∧ Aside0 (kq ≤ k) ∧ Aside0 (Kd.R Kd.bool 4 w' w.heap.size (fun _ => True) (.slice dC bW.length dD) bW) ∧ Aside0 (Kd.S k63 63 w' w.heap.size (fun _ => True) cS cC) ∧ Aside0 (Kd.R k138 138 w' w.heap.size (fun _ => True) (.slice cT cL.length cU) cL) ∧ Aside0 (w'.heap[aC]? = some (.cells #[(.slice aX aT.length bA), (.slice bK aH.length bD), (.slice bI aV.length bJ)] 43 (0, 0))) ∧ Aside0 (w'.heap[aI]? = some (.cells #[(.slice none 0 0), (.slice none 0 0), (.slice none 0 0)] 43 (0, 0))) ∧ Aside0 (w'.heap[aG]? = some (.cells #[(.slice dC bW.length dD), cS, (.slice cT cL.length cU)] 43 (0, 0))) ∧ Aside0 (Below w.heap.size w w'))
 case atStart => exact ⟨(0), (([] : List (S63))), (.slice none 0 0), xE, H', ⟨Nat.le_refl _⟩, ⟨kr (Kd.R_mono (kF (p := ⟨aG, 2, none⟩) (kF (p := ⟨aG, 1, none⟩) (kF (p := ⟨aG, 0, none⟩) (Kd.R_types bM.out aE.out (by decide)) (fun _ hk => hk.2) (.slice dC bW.length dD)) (fun _ hk => hk.2) (.slice none 0 0)) (fun _ hk => hk.2) (.slice cT cL.length cU)) (fun _ hk => trivial))⟩, ⟨by first | exact Kd.S_nil _ _ _ _ _ | exact Kd.N_nil _ _ _ _ _ | exact Kd.V_nil _ _ _ _ _ | exact Kd.Q_nil _ _ _ _ _ | exact Kd.R_nil _ _ _ _ _⟩, ⟨kr (Kd.R_mono (kF (p := ⟨aG, 2, none⟩) (kF (p := ⟨aG, 1, none⟩) (kF (p := ⟨aG, 0, none⟩) (Kd.R_types cO.out aE.out (by decide)) (fun _ hk => hk.2) (.slice dC bW.length dD)) (fun _ hk => hk.2) (.slice none 0 0)) (fun _ hk => hk.2) (.slice cT cL.length cU)) (fun _ hk => trivial))⟩, ⟨fm aA.out⟩, ⟨fm aD.out⟩, ⟨bm aE.out⟩, ⟨bl HB.out⟩⟩
 case round =>
  clear H'
  repeat first|clear c2|clear p2|clear c3
  obtain ⟨cA, cC, cS, rfl, HA, gB, cD, bN, cE, aA, aD, aE, HB⟩ := hrel
  cases gk with
  | zero => exact absurd HA.out (by simp [spec_l5Copy.l0])
  | succ k1 =>
   have H := HA.out
   clear HA
   simp only [spec_l5Copy.l0] at H
   by_cases eC : cA < (aH.length : Int)
   case neg =>
    rw [if_neg eC] at H
    have fT := decide_eq_false eC
    clear eC
    simp only [Option.some.injEq, Prod.mk.injEq] at H
    obtain ⟨rfl, rfl, rfl⟩ := H
    have gZ := dR.out
    have hJ := dS.out
    have hO := aJ.out
    have hU := aK.out
    have hX := cA3 aA.out
    have hY := aQ.out
    have hZ := aN.out
    have iA := cA3 aE.out
    have iB := cA3 aD.out
    obtain ⟨eE, eF, gJ⟩ := Kd.S_slice bN.out
    subst gJ
    go_wp2
    refine bodyPost_ret (results_cell_row rfl _ _ aI 43 #[.slice dC bW.length dD, .slice eE cC.length eF, .slice cT cL.length cU] (0, 0) _ rfl (bm aD.out) Try.underlying43 rfl (by kernel_rfl)) rfl ?_
    exact ⟨_, _, _, xW, by (with_reducible repeat (first | apply Kd.R_alloc | apply Kd.R_drewN | apply Kd.R_drew)); exact Kd.R_mono (kF (p := ⟨aI, 2, none⟩) (kF (p := ⟨aI, 1, none⟩) (kF (p := ⟨aI, 0, none⟩) (Kd.R_types cD.out aD.out (by decide)) (fun _ hk => hk.2) (.slice dC bW.length dD)) (fun _ hk => hk.2) (.slice eE cC.length eF)) (fun _ hk => hk.2) (.slice cT cL.length cU)) (fun _ hk => trivial), by (with_reducible repeat (first | apply Kd.S_alloc | apply Kd.S_drewN | apply Kd.S_drew)); exact Kd.S_mono (Kd.S_far (p := ⟨aI, 2, none⟩) (Kd.S_far (p := ⟨aI, 1, none⟩) (Kd.S_far (p := ⟨aI, 0, none⟩) (Kd.S_types bN.out aD.out (by decide)) (fun _ hk => hk.2) (.slice dC bW.length dD)) (fun _ hk => hk.2) (.slice eE cC.length eF)) (fun _ hk => hk.2) (.slice cT cL.length cU)) (fun _ hk => trivial), by (with_reducible repeat (first | apply Kd.R_alloc | apply Kd.R_drewN | apply Kd.R_drew)); exact Kd.R_mono (kF (p := ⟨aI, 2, none⟩) (kF (p := ⟨aI, 1, none⟩) (kF (p := ⟨aI, 0, none⟩) (Kd.R_types cE.out aD.out (by decide)) (fun _ hk => hk.2) (.slice dC bW.length dD)) (fun _ hk => hk.2) (.slice eE cC.length eF)) (fun _ hk => hk.2) (.slice cT cL.length cU)) (fun _ hk => trivial), bl HB.out⟩
   rw [if_pos eC] at H
   have fT := decide_eq_true eC
   clear eC
   obtain ⟨iC, H⟩ := gI H
   obtain ⟨eQ, fF, H⟩ := hS H
   have fG := aM fF
   clear fF
   by_cases fH : eQ.length + ((rd_T63 aH cA).f1).length < 17592186044416
   case neg =>
    rw [if_neg fH] at H
    exact absurd H (by simp)
   rw [if_pos fH] at H
   have LMc24 := aM fH
   clear fH
   obtain ⟨dP, dN⟩ : ∃ y_ : List Int, y_ = (eQ ++ ((rd_T63 aH cA).f1)) := ⟨_, rfl⟩
   replace H : (if cC.length < 4398046511104 then (spec_l5Copy.l0 k1 (wS cA) aT aH aV bW (cC ++ [(⟨(rd_T63 aH cA).f0, dP⟩ : S63)]) cL) else (none)) = some (r1, r2, r3) := by first | (rw [dN]; with_reducible exact H) | (have H2_ := (Option.bind_some _ _).symm.trans H; rw [dN]; with_reducible exact H2_) | (have H2_ := (Option.bind_some _ _).symm.trans H; with_reducible exact H2_) | with_reducible exact H | (rw [dN]; exact H) | exact H
   have fU := aM dN
   clear dN
   by_cases fI : cC.length < 4398046511104
   case neg =>
    rw [if_neg fI] at H
    exact absurd H (by simp)
   rw [if_pos fI] at H
   have LMc25 := aM fI
   clear fI
   obtain ⟨dQ, dO⟩ : ∃ y_ : List (S63), y_ = (cC ++ [(⟨(rd_T63 aH cA).f0, dP⟩ : S63)]) := ⟨_, rfl⟩
   replace H : (spec_l5Copy.l0 k1 (wS cA) aT aH aV bW dQ cL) = some (r1, r2, r3) := by first | (rw [dO]; with_reducible exact H) | (have H2_ := (Option.bind_some _ _).symm.trans H; rw [dO]; with_reducible exact H2_) | (have H2_ := (Option.bind_some _ _).symm.trans H; with_reducible exact H2_) | with_reducible exact H | (rw [dO]; exact H) | exact H
   have fV := aM dO
   clear dO
   have H' := aM H
   clear H
   have iD := dR.out
   have iE := dS.out
   have iF := aJ.out
   have iG := aK.out
   have iH := cA3 aA.out
   try go_wp2
   replace cD := aM (Kd.R_drew cD.out)
   replace bN := aM (Kd.S_drew bN.out)
   replace cE := aM (Kd.R_drew cE.out)
   replace aA := aM (blk_drew aA.out)
   replace aD := aM (blk_drew aD.out)
   replace aE := aM (blk_drew aE.out)
   replace HB := aM (below_drew1 HB.out)
   have eR : 0 ≤ (cA : Int) := dT
   have eS : cA < (aH.length : Int) := dT
   obtain ⟨dB, eK, eL, gK, dI, dE, hl147_1, hi147_1⟩ := at_T63 fA.out cA eR eS
   have cV := dE
   have cW := dI
   cases gK
   replace dI := xB HB dI
   replace dE := xB HB dE
   have fL := aM hi147_1
   have gO := aM hl147_1
   clear hi147_1 hl147_1
   replace eR := eq_true eR
   replace eS := eq_true eS
   have eU : 0 ≤ (cA : Int) := dT
   have eW : cA < (aH.length : Int) := dT
   obtain ⟨fW, gQ, gR, gM, dJ, dF, hl151_1, hi151_1⟩ := at_T63 fA.out cA eU eW
   have cX := dF
   have cY := dJ
   obtain rfl : dB = fW := (by injection gM)
   replace dJ := xB HB dJ
   replace dF := xB HB dF
   have eD := aM hi151_1
   have gP := aM hl151_1
   clear hi151_1 hl151_1
   replace eU := eq_true eU
   replace eW := eq_true eW
   have ea_ := Option.some.inj (dE.symm.trans dF)
   injection ea_ with ea_ en_ ec_
   subst ea_
   subst ec_
   clear en_
   refine start_ (n := 21) (S := fun w' => cT3 w' aG (.slice dC bW.length dD) (cS) (.slice cT cL.length cU) (cT3 w' aC (.slice aX aT.length bA) (.slice (some dB) aH.length bD) (.slice bI aV.length bJ) (w'.cell? (dB.add ((cA).toNat * 2)) = some ((rd_T63 aH cA).f0) ∧ w'.cell? ⟨(dB.add ((cA).toNat * 2)).block, (dB.add ((cA).toNat * 2)).off + 1, none⟩ = some (.slice eK ((rd_T63 aH cA).f1).length eL) ∧ w'.cell? (dB.add ((cA).toNat * 2)) = some ((rd_T63 aH cA).f0) ∧ w'.cell? ⟨(dB.add ((cA).toNat * 2)).block, (dB.add ((cA).toNat * 2)).off + 1, none⟩ = some (.slice eK ((rd_T63 aH cA).f1).length eL)))) (ds := [20]) (dn 21 0) (by kernel_rfl) rfl rfl ⟨cI aE.out 0, cI aE.out 1, cI aE.out 2, cI aA.out 0, cI aA.out 1, cI aA.out 2, (xB HB cW :), (xB HB cV :), (xB HB cY :), (xB HB cX :)⟩ (fun hHeld => ?_); refine with_tabW spec_l5Copy.tab5 spec_l5Copy.bits5 (fun HT_ HW_ => ?_)
   generalize wr.drew = iS at cD bN cE aA aD aE HB fL eD dI dE dJ dF hHeld ⊢
   refine nY (N := some 21) HT_ ?_
   refine pZ 2 23 (bv 21 5) HT_ ?_
   refine pZ 4 25 (bv 21 21) HT_ ?_
   refine pZ 9 30 (bv 21 533) HT_ ?_
   refine pZ 11 32 (bv 21 2581) HT_ ?_
   refine aZ 1 22 (bv 21 2583) HT_ HW_ hHeld ?_
   refine aZ 3 24 (bv 21 2591) HT_ HW_ hHeld ?_
   refine pZ 5 26 (bv 21 2623) HT_ ?_
   refine pZ 6 27 (bv 21 2687) HT_ ?_
   refine aZ 7 28 (bv 21 2815) HT_ HW_ hHeld ?_
   refine aZ 10 31 (bv 21 3839) HT_ HW_ hHeld ?_
   refine pZ 12 33 (bv 21 7935) HT_ ?_
   refine pZ 13 34 (bv 21 16127) HT_ ?_
   refine aZ 14 35 (bv 21 32511) HT_ HW_ hHeld ?_
   refine one_ (i := 8) (N := some 29) (bv 21 32767) rfl rfl (one_of HT_.out (by kernel_rfl)) (by decide) (fun K hK => ?_)
   refine Kd.R_lit_step (Kd.int .i64) _ 3 ?hg (N := 29) ?hd (xs := ([] : List Int)) (inner := []) (ok := fun _ => True) (okp := fun _ => True) ?hr ?hp (fun _ hk => hk) trivial (Below.refl _ _) (Nat.le_refl _) (by simp) ?_; (case hd => rfl); (case hg => rfl); (case hr => first | (go_simp; done) | (go_simp; rfl)); (case hp => exact (Reps.none _ _))
   intro gN iT ho31 hb hg_ hnew_
   clear hg_ hnew_
   (first | rw [← fG.out] at ho31 | (simp only [Int.reduceToNat] at ho31; rw [← fG.out] at ho31))
   have dG := aM (Kd.R_lower ho31 (below_size (bl HB.out)))
   replace cD := rK cD hb
   replace bN := aM (Kd.S_elder' (by (with_reducible repeat (first | apply Kd.S_alloc | apply Kd.S_drewN | apply Kd.S_drew)); exact bN.out) (Kd.R_base ho31) hb)
   replace cE := rK cE hb
   replace aA := rB aA hb
   replace aD := rB aD hb
   replace aE := rB aE hb
   replace HB := rS HB hb
   clear hb ho31
   refine hK.out _ _ ⟨cI aE.out 0, cI aE.out 1, cI aE.out 2, cI aA.out 0, cI aA.out 1, cI aA.out 2, (xB HB cW :), (xB HB cV :), (xB HB cY :), (xB HB cX :)⟩ (fun hHeld => ?_)
   clear hK K
   refine norm_ (a' := ?_) ?_ ?_
   rotate_left
   ·show Act.put _ (some 29) _ = _
    simp only [Act.put, sA, sZ, sS, i64_w, i32_w]
    rfl
   refine one_ (i := 15) (N := some 36) (bv 21 65535) rfl rfl (one_of HT_.out (by kernel_rfl)) (by decide) (fun K hK => ?_)
   refine Kd.R_append_rows_step (Kd.int .i64) (w0 := w) w.heap.size (by rfl) (.tmp 29) (.tmp 35) 61 3 (.int .i64 0) 8 rfl Try.underlying61 info3 rfl (by decide) (by omega) gN eQ ((rd_T63 aH cA).f1) _ _ _ (fun _ => True) (fun _ => False) rfl rfl ?aO ?aR (fun _ _ h => h) (fun _ h => h.elim) ?aF ?aB ?aS ?aL ?_
   (case aR => repeat (first | exact (cB eD.out HB.out) | (with_reducible refine Kd.C_alloc ?_ _) | (with_reducible refine Kd.C_drewN ?_ _) | (with_reducible refine Kd.C_drew ?_)))
   (case aB => exact (bl HB.out))
   (case aF => exact (fun _ _ => trivial))
   (case aO => exact (kr dG.out))
   (case aS => exact (below_size (bl HB.out)))
   (case aL => have := LMc24.out; omega)
   intro iN iU ho hb hg hat
   rw [← fU.out] at ho
   have dX := aM (ho)
   replace cD := aM (Kd.R_over' (kr cD.out) (Kd.R_typed (kr dG.out)) (by decide) hg)
   replace bN := aM (Kd.S_after (ok := (fun _ => True)) (by (with_reducible repeat (first | apply Kd.S_alloc | apply Kd.S_drewN | apply Kd.S_drew)); exact bN.out) hg hat)
   replace cE := aM (Kd.R_over' (kr cE.out) (Kd.R_typed (kr dG.out)) (by decide) hg)
   replace aA := aM (blk_grown (bk aA.out) hg (Kd.R_ne dG.out aA.out (by decide)))
   replace aD := aM (blk_grown (bk aD.out) hg (Kd.R_ne dG.out aD.out (by decide)))
   replace aE := aM (blk_grown (bk aE.out) hg (Kd.R_ne dG.out aE.out (by decide)))
   replace HB := aM (hb)
   clear dG
   clear ho hb hg hat
   obtain ⟨fO, fP, fQ⟩ := Kd.R_slice dX.out
   (first | subst fQ | (injection fQ with f1_ f2_ f3_; have f4_ := f1_.symm; have f5_ := f3_.symm; clear f1_ f2_ f3_; subst f4_; subst f5_))
   refine hK.out _ _ ⟨cI aE.out 0, cI aE.out 1, cI aE.out 2, cI aA.out 0, cI aA.out 1, cI aA.out 2, (xB HB cW :), (xB HB cV :), (xB HB cY :), (xB HB cX :)⟩ (fun hHeld => ?_)
   clear hK K
   refine norm_ (a' := ?_) ?_ ?_
   rotate_left
   ·show Act.put _ (some 36) _ = _
    simp only [Act.put, sA, sZ, sS, i64_w, i32_w]
    rfl
   refine pZ 16 37 (bv 21 131071) HT_ ?_
   refine one_ (i := 17) (N := some 38) (bv 21 262143) rfl rfl (one_of HT_.out (by kernel_rfl)) (by decide) (fun K hK => ?_)
   refine value_ (w1 := ?_) (v := ?_) (by rfl) rfl ?_ ?_
   rotate_left 2
   ·go_simp
    constructor
    ·rfl
    ·rfl
   refine hK.out _ _ ⟨(bC (blk_alloc aE.out _) 0).trans rfl, (bC (blk_alloc aE.out _) 1).trans rfl, (bC (blk_alloc aE.out _) 2).trans rfl, (bC (blk_alloc aA.out _) 0).trans rfl, (bC (blk_alloc aA.out _) 1).trans rfl, (bC (blk_alloc aA.out _) 2).trans rfl, (World.cell?_alloc_lt _ _ _ (World.block_lt_of_cell? _ _ ((xB HB cW :)))).trans ((xB HB cW :)), (World.cell?_alloc_lt _ _ _ (World.block_lt_of_cell? _ _ ((xB HB cV :)))).trans ((xB HB cV :)), (World.cell?_alloc_lt _ _ _ (World.block_lt_of_cell? _ _ ((xB HB cY :)))).trans ((xB HB cY :)), (World.cell?_alloc_lt _ _ _ (World.block_lt_of_cell? _ _ ((xB HB cX :)))).trans ((xB HB cX :))⟩ (fun hHeld => ?_)
   clear hK K
   refine norm_ (a' := ?_) ?_ ?_
   rotate_left
   ·show Act.put _ (some 38) _ = _
    simp only [Act.put, sA, sZ, sS, i64_w, i32_w]
    rfl
   refine one_ (i := 18) (N := some 39) (bv 21 524287) rfl rfl (one_of HT_.out (by kernel_rfl)) (by decide) (fun K hK => ?_)
   refine Kd.S_append_step k63 (w0 := w) w.heap.size (by rfl) (.tmp 22) (.tmp 38) 40 63 (.agg #[(.int .i64 0), (.slice none 0 0)]) 32 rfl Try.underlying40 info63 rfl (by decide) (by omega) cS cC (⟨(rd_T63 aH cA).f0, dP⟩ : S63) [.int .i64 ((rd_T63 aH cA).f0), .slice fO dP.length fP] (fun _ => True) (fun k_ => some k_ = (.slice fO dP.length fP : Value).ownBlock) rfl rfl ?aP (fun k_ hk_ => ((Kd.R_mono (ok' := fun k_ => ((fun _ => True)) k_ ∧ some k_ ≠ (cS : Value).ownBlock) (Kd.R_apart' (dX.out) (Kd.S_typed bN.out) (by decide)) (fun k_ hk => ⟨trivial, hk.2⟩))).1 k_ hk_.symm) ?aF ?aO ?aB ?aS ?aL ?_
   (case aP => exact k63_mkM _ _ _ (⟨(rd_T63 aH cA).f0, dP⟩ : S63) (Kd.R_mono (Kd.R_tight rfl (Kd.R_mono (ok' := fun k_ => ((fun _ => True)) k_ ∧ some k_ ≠ (cS : Value).ownBlock) (Kd.R_apart' (dX.out) (Kd.S_typed bN.out) (by decide)) (fun k_ hk => ⟨trivial, hk.2⟩))) (fun _ h_ => h_)))
   (case aB => exact (bl HB.out))
   (case aF => exact (fun _ _ => trivial))
   (case aO => exact (by (with_reducible repeat (first | apply Kd.S_alloc | apply Kd.S_drewN | apply Kd.S_drew)); exact Kd.S_mono bN.out (fun k_ hk => ⟨trivial, fun e_ => hk.2 e_⟩)))
   (case aS => exact (below_size (bl HB.out)))
   (case aL => have := LMc25.out; omega)
   intro iO iV ho hb hg hat
   rw [← fV.out] at ho
   have fK := aM (ho)
   replace cD := aM (Kd.R_over' (kr cD.out) (Kd.S_typed (by (with_reducible repeat (first | apply Kd.S_alloc | apply Kd.S_drewN | apply Kd.S_drew)); exact bN.out)) (by decide) hg)
   replace cE := aM (Kd.R_over' (kr cE.out) (Kd.S_typed (by (with_reducible repeat (first | apply Kd.S_alloc | apply Kd.S_drewN | apply Kd.S_drew)); exact bN.out)) (by decide) hg)
   replace aA := aM (blk_grown (bk aA.out) hg (Kd.S_ne bN.out aA.out (by decide)))
   replace aD := aM (blk_grown (bk aD.out) hg (Kd.S_ne bN.out aD.out (by decide)))
   replace aE := aM (blk_grown (bk aE.out) hg (Kd.S_ne bN.out aE.out (by decide)))
   replace HB := aM (hb)
   clear bN dX
   clear ho hb hg hat
   obtain ⟨eI, eJ, fS⟩ := Kd.S_slice fK.out
   (first | subst fS | (injection fS with f1_ f2_ f3_; have f4_ := f1_.symm; have f5_ := f3_.symm; clear f1_ f2_ f3_; subst f4_; subst f5_))
   refine hK.out _ _ ⟨cI aE.out 0, cI aE.out 1, cI aE.out 2, cI aA.out 0, cI aA.out 1, cI aA.out 2, (xB HB cW :), (xB HB cV :), (xB HB cY :), (xB HB cX :)⟩ (fun hHeld => ?_)
   clear hK K
   refine norm_ (a' := ?_) ?_ ?_
   rotate_left
   ·show Act.put _ (some 39) _ = _
    simp only [Act.put, sA, sZ, sS, i64_w, i32_w]
    rfl
   refine pZ 19 40 (bv 21 1048575) HT_ ?_
   refine last_ (i := 20) (N := none) (bv 21 2097151) rfl rfl (one_of HT_.out (by kernel_rfl)) (by decide) (fun K hK => ?_)
   have iP := cI aE.out 1
   have hfs36 := bF aE.out 1
   have hns36_0 := aJ.out
   have hns36_1 := aN.out
   have hms36_0 := aK.out
   have hms36_1 := aQ.out
   refine skip_ (w1 := ?_) (by rfl) rfl ?_ ?_
   rotate_left
   ·go_simp
    rfl
   refine hK.out _ _ ?_
   clear hK K
   refine done_ (done_of HT_.out (by kernel_rfl)) ?_
   try go_wp2
   go_roundg k1
   case measure => have := gB.out; omega
   case rel => exact ⟨(wS cA), (dQ), (.slice eI dQ.length eJ), xE, H', ⟨by have := gB.out; omega⟩, ⟨kr (Kd.R_mono (kF (p := ⟨aG, 1, none⟩) (Kd.R_types cD.out aE.out (by decide)) (fun _ hk => hk.2) (.slice eI dQ.length eJ)) (fun _ hk => trivial))⟩, ⟨by (with_reducible repeat (first | apply Kd.S_alloc | apply Kd.S_drewN | apply Kd.S_drew)); exact Kd.S_mono (Kd.S_far (p := ⟨aG, 1, none⟩) (Kd.S_types fK.out aE.out (by decide)) (fun _ hk => hk.2) (.slice eI dQ.length eJ)) (fun _ hk => trivial)⟩, ⟨kr (Kd.R_mono (kF (p := ⟨aG, 1, none⟩) (Kd.R_types cE.out aE.out (by decide)) (fun _ hk => hk.2) (.slice eI dQ.length eJ)) (fun _ hk => trivial))⟩, ⟨fm aA.out⟩, ⟨fm aD.out⟩, ⟨by (with_reducible repeat (first | refine blk_drewN ?_ _ | refine blk_drew ?_ | refine blk_alloc ?_ _)); refine blk_put (cs := #[.slice dC bW.length dD, cS, .slice cT cL.length cU]) ?_ 1 _ rfl; (with_reducible repeat (first | refine blk_drewN ?_ _ | refine blk_drew ?_ | refine blk_alloc ?_ _)); exact aE.out⟩, ⟨bl HB.out⟩⟩

end Go.Proofs.Ythmijfekdeagpaa.PFnExactGate

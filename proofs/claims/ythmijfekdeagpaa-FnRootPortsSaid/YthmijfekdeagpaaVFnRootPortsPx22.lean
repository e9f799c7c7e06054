/- Of the proof of laws.FnRootPorts: a part. No condition beyond what its theorems say. -/
import Derived.Test.YthmijfekdeagpaaVFnRootPortsPx10
import Derived.Test.YthmijfekdeagpaaVFnRootPortsPx19
import Derived.Test.YthmijfekdeagpaaVFnRootPortsPx21
namespace Go.Proofs.Ythmijfekdeagpaa.PFnRootPorts
open Go.RowKit Go.Proofs.YthmijfekdeagpaaW.PrintWords Go.Proofs.YthmijfekdeagpaaW.PrintLast Go.Proofs.YthmijfekdeagpaaW.PrintMore
attribute [local go_sem] max2_int min2_int max_two min_two max_three min_three max_four min_four   -- for this text's walks alone
set_option linter.unusedVariables false
set_option linter.unusedSimpArgs false

mutual
def spec_l8In.j1 : Nat → Int → List (S79) → Option (Int × (List (S79)))
 | 0, _, _ => none
 | k + 1, aC, aD => (spec_Decide.f k aC aD).bind fun aA => (some (aA.1, aA.2))
def spec_l8In.l0 : Nat → Int → Int → List (S79) → Option (Int × (List (S79)))
 | 0, _, _, _ => none
 | k + 1, x5, aD, aA => if x5 < (aA.length : Int) then (if 0 ≤ x5 then ((spec_l8Tick.f k ((rd_T79 aA x5).f0) ((rd_T79 aA x5).f1) ((rd_T79 aA x5).f2.f0) ((rd_T79 aA x5).f2.f1) ((rd_T79 aA x5).f2.f2) ((rd_T79 aA x5).f2.f3) ((rd_T79 aA x5).f3) ((rd_T79 aA x5).f4) ((rd_T79 aA x5).f5) ((rd_T79 aA x5).f6) ((rd_T79 aA x5).f7)).bind fun aC => (spec_l8In.l0 k (wrap64 (x5 + 1)) aD (aA.set (x5 : Int).toNat (⟨aC.1, aC.2.1, (⟨aC.2.2.1, aC.2.2.2.1, aC.2.2.2.2.1, aC.2.2.2.2.2.1⟩ : S73), aC.2.2.2.2.2.2.1, aC.2.2.2.2.2.2.2.1, aC.2.2.2.2.2.2.2.2.1, aC.2.2.2.2.2.2.2.2.2.1, aC.2.2.2.2.2.2.2.2.2.2⟩ : S79)))) else (none)) else (spec_l8In.j1 k aD aA)
end
def spec_l8In.f (k : Nat) (aE : Int) (aA : List (S79)) (aG : Int) (aC : Int) (aJ : Int) (aK : Int) (aN : Int) (aQ : Int) (aT : Int) (aH : Bool) : Option (Int × (List (S79))) := if aG = 1 then (if 0 ≤ aC then (if aC < (aA.length : Int) then ((spec_Claim.f k ((rd_T79 aA aC).f0) ((rd_T79 aA aC).f1) ((rd_T79 aA aC).f2.f0) ((rd_T79 aA aC).f2.f1) ((rd_T79 aA aC).f2.f2) ((rd_T79 aA aC).f2.f3) ((rd_T79 aA aC).f3) ((rd_T79 aA aC).f4) ((rd_T79 aA aC).f5) ((rd_T79 aA aC).f6) ((rd_T79 aA aC).f7) aJ aK aN aQ aT).bind fun aD => (spec_l8In.j1 k aE (aA.set (aC : Int).toNat (⟨aD.1, aD.2.1, (⟨aD.2.2.1, aD.2.2.2.1, aD.2.2.2.2.1, aD.2.2.2.2.2.1⟩ : S73), aD.2.2.2.2.2.2.1, aD.2.2.2.2.2.2.2.1, aD.2.2.2.2.2.2.2.2.1, aD.2.2.2.2.2.2.2.2.2.1, aD.2.2.2.2.2.2.2.2.2.2⟩ : S79)))) else (none)) else (none)) else (if aG = 2 then (spec_l8In.l0 k 0 aE aA) else (if aG = 3 then (if 0 ≤ aC then (if aC < (aA.length : Int) then (if (((rd_T79 aA aC).f0) == aH) = true then (some (aE, aA)) else ((some (aA.set (aC : Int).toNat (⟨false, false, (⟨0, 0, 0, 0⟩ : S73), 0, 0, 0, 0, false⟩ : S79) : List (S79))).bind fun aI => (if aH = true then (spec_l8In.j1 k aE (aI.set (aC : Int).toNat (⟨true, false, (⟨0, 0, 0, 0⟩ : S73), 0, 0, 3, 0, false⟩ : S79))) else (spec_l8In.j1 k aE aI)))) else (none)) else (none)) else (spec_l8In.j1 k aE aA)))
theorem spec_l8In.mono_l : ∀ k, (∀ y0 y1, LeO (spec_l8In.j1 k y0 y1) (spec_l8In.j1 (k + 1) y0 y1)) ∧ (∀ y0 y1 y2, LeO (spec_l8In.l0 k y0 y1 y2) (spec_l8In.l0 (k + 1) y0 y1 y2))
 | 0 => ⟨fun _ _ r h => by simp [spec_l8In.j1] at h, fun _ _ _ r h => by simp [spec_l8In.l0] at h⟩
 | k + 1 => by
  obtain ⟨ih0, ih1⟩ := spec_l8In.mono_l k
  refine ⟨?_, ?_⟩
  ·intro y0 y1
   unfold spec_l8In.j1
   repeat' first|(with_reducible first|apply ih0|apply ih1|apply spec_Claim.mono|apply spec_Decide.mono|apply spec_l8Tick.mono|exact LeO.refl _|exact LeO.none _|refine LeO.ite ?_ ?_|refine LeO.bind ?_ (fun _ => ?_))|exact LeO.none _|refine LeO.ite ?_ ?_|refine LeO.bind ?_ (fun _ => ?_)
  ·intro y0 y1 y2
   unfold spec_l8In.l0
   repeat' first|(with_reducible first|apply ih0|apply ih1|apply spec_Claim.mono|apply spec_Decide.mono|apply spec_l8Tick.mono|exact LeO.refl _|exact LeO.none _|refine LeO.ite ?_ ?_|refine LeO.bind ?_ (fun _ => ?_))|exact LeO.none _|refine LeO.ite ?_ ?_|refine LeO.bind ?_ (fun _ => ?_)
theorem spec_l8In.mono : ∀ a0 a1 a2 a3 a4 a5 a6 a7 a8 a9 k, LeO (spec_l8In.f k a0 a1 a2 a3 a4 a5 a6 a7 a8 a9) (spec_l8In.f (k + 1) a0 a1 a2 a3 a4 a5 a6 a7 a8 a9) := by
 intro a0 a1 a2 a3 a4 a5 a6 a7 a8 a9 k
 obtain ⟨ih0, ih1⟩ := spec_l8In.mono_l k
 unfold spec_l8In.f
 repeat' first|(with_reducible first|apply ih0|apply ih1|apply spec_Claim.mono|apply spec_Decide.mono|apply spec_l8Tick.mono|exact LeO.refl _|exact LeO.none _|refine LeO.ite ?_ ?_|refine LeO.bind ?_ (fun _ => ?_))|exact LeO.none _|refine LeO.ite ?_ ?_|refine LeO.bind ?_ (fun _ => ?_)
def spec_l8In.T3 : Bool × List (List Nat × List Nat) := (true, [([], []), ([0], [0]), ([], []), ([2], [2]), ([], []), ([4], [4]), ([], []), ([6], [6]), ([5, 7], [5, 7]), ([8], [8]), ([], []), ([10], [10]), ([], []), ([12], [12]), ([9, 11, 13], [9, 11, 13]), ([1, 3, 0, 1, 2, 3, 4, 5, 6, 7, 8, 9, 10, 11, 12, 13, 14], [1, 3]), ([15, 14, 14, 0, 1, 2, 3, 4, 5, 6, 7, 8, 9, 10, 11, 12, 13, 14], [14, 15])])
def spec_l8In.B3 : List Nat := [0, 1, 0, 4, 0, 16, 0, 64, 240, 496, 0, 1024, 0, 4096, 16368, 32767, 65535]
theorem spec_l8In.tab3 : rtab .any (opsOf Try.f133 3) = spec_l8In.T3 := by kernel_rfl
theorem spec_l8In.bits3 : waitsOk spec_l8In.T3.2 spec_l8In.B3 = true := by kernel_rfl
def spec_l8In.T8 : Bool × List (List Nat × List Nat) := (true, [([], []), ([0], [0]), ([], []), ([], []), ([3], [3]), ([], []), ([4, 5], [4, 5]), ([6], [6]), ([7], [7]), ([1, 2, 0, 1, 2, 3, 4, 5, 6, 7, 8], [1, 2]), ([9, 8, 8, 0, 1, 2, 3, 4, 5, 6, 7, 8], [8, 9])])
def spec_l8In.B8 : List Nat := [0, 1, 0, 0, 8, 0, 56, 120, 248, 511, 1023]
theorem spec_l8In.tab8 : rtab .any (opsOf Try.f133 8) = spec_l8In.T8 := by kernel_rfl
theorem spec_l8In.bits8 : waitsOk spec_l8In.T8.2 spec_l8In.B8 = true := by kernel_rfl
def spec_l8In.T10 : Bool × List (List Nat × List Nat) := (true, [([], []), ([0], [0]), ([], []), ([2], [2]), ([1, 3], [1, 3]), ([4], [4]), ([5], [5]), ([], []), ([7], [7]), ([6, 8], [6, 8])])
def spec_l8In.B10 : List Nat := [0, 1, 0, 4, 15, 31, 63, 0, 128, 511]
theorem spec_l8In.tab10 : rtab .any (opsOf Try.f133 10) = spec_l8In.T10 := by kernel_rfl
theorem spec_l8In.bits10 : waitsOk spec_l8In.T10.2 spec_l8In.B10 = true := by kernel_rfl
set_option maxHeartbeats 60000000 in
set_option maxRecDepth 100000 in
theorem spec_l8In.calls (k : Nat) (aZ : Int) (P0_1_ : Nat → Prop) (eK : Value) (aC : List (S79)) (aX : Int) (aA : Int) (cL : Int) (cN : Int) (cO : Int) (cP : Int) (cQ : Int) (bP : Bool) (r1 : Int) (r2 : List (S79)) (w0 w : World) (hB : Below w0.heap.size w0 w) (ho0_1 : Kd.R k79 79 w w0.heap.size P0_1_ eK aC) (h : spec_l8In.f k aZ aC aX aA cL cN cO cP cQ bP = some (r1, r2)) :
  Calls Try.prog 133 #[.agg #[aZ, eK], .agg #[aX, aA, cL, cN, cO, cP, cQ, bP]] w fun e w' => ∃ oB : Value, e = .returned (.agg #[r1, oB]) ∧ Kd.R k79 79 w' w0.heap.size (fun k_ => (P0_1_ k_ ∨ w.heap.size ≤ k_)) oB r2 ∧ Below w0.heap.size w0 w' ∧ Kept w w' (fun k_ => P0_1_ k_) := by
 have vS := Try.underlying28
 have vT := Try.underlying89
 have vU := Try.underlying79
 have vV := Try.underlying73
 have aG := aM (show Kd.R k79 79 w w0.heap.size (fun k_ => (P0_1_ k_ ∨ w.heap.size ≤ k_)) eK aC from Kd.R_mono ho0_1 (fun k_ hk => (.inl hk)))
 have HK := aM (Kept.refl w (fun k_ => P0_1_ k_))
 have HW0 := aM hB.size
 have HB := aM hB
 clear hB
 have H : (if aX = 1 then (if 0 ≤ aA then (if aA < (aC.length : Int) then ((spec_Claim.f k ((rd_T79 aC aA).f0) ((rd_T79 aC aA).f1) ((rd_T79 aC aA).f2.f0) ((rd_T79 aC aA).f2.f1) ((rd_T79 aC aA).f2.f2) ((rd_T79 aC aA).f2.f3) ((rd_T79 aC aA).f3) ((rd_T79 aC aA).f4) ((rd_T79 aC aA).f5) ((rd_T79 aC aA).f6) ((rd_T79 aC aA).f7) cL cN cO cP cQ).bind fun cC => (spec_l8In.j1 k aZ (aC.set (aA : Int).toNat (⟨cC.1, cC.2.1, (⟨cC.2.2.1, cC.2.2.2.1, cC.2.2.2.2.1, cC.2.2.2.2.2.1⟩ : S73), cC.2.2.2.2.2.2.1, cC.2.2.2.2.2.2.2.1, cC.2.2.2.2.2.2.2.2.1, cC.2.2.2.2.2.2.2.2.2.1, cC.2.2.2.2.2.2.2.2.2.2⟩ : S79)))) else (none)) else (none)) else (if aX = 2 then (spec_l8In.l0 k 0 aZ aC) else (if aX = 3 then (if 0 ≤ aA then (if aA < (aC.length : Int) then (if (((rd_T79 aC aA).f0) == bP) = true then (some (aZ, aC)) else ((some (aC.set (aA : Int).toNat (⟨false, false, (⟨0, 0, 0, 0⟩ : S73), 0, 0, 0, 0, false⟩ : S79) : List (S79))).bind fun cW => (if bP = true then (spec_l8In.j1 k aZ (cW.set (aA : Int).toNat (⟨true, false, (⟨0, 0, 0, 0⟩ : S73), 0, 0, 3, 0, false⟩ : S79))) else (spec_l8In.j1 k aZ cW)))) else (none)) else (none)) else (spec_l8In.j1 k aZ aC)))) = some (r1, r2) := h
 clear h
 have jH := aM H
 clear H
 obtain ⟨jI, cD, qX⟩ := Kd.R_slice aG.out
 subst qX
 go_enter Try.func133, Try.ntmps133
 go_upto_block 0 with (first | ((with_reducible refine gD (N := 2) rfl ?_); refine box_event ?hg (N := 2) ?hd (cs := #[aZ, .slice jI aC.length cD]) (t := 28) ?hr ?_; (case hd => rfl); (case hg => rfl); (case hr => first | (go_simp; done) | (go_simp; rfl) | (obtain ⟨A_, c_, e_⟩ := Kd.R_slice aG.out; subst e_; (first | (go_simp; done) | (go_simp; rfl))) | (obtain ⟨A_, c_, e_⟩ := Kd.S_slice aG.out; subst e_; (first | (go_simp; done) | (go_simp; rfl)))); intro cX hg w5 hbox hb; have aI := aM (hbox); have hX := gE hg (kk HK.out).1; have hY := gF hg HB; replace aG := aM (kB (kr aG.out) hb); replace HK := aM (Kept.below (S := (fun k_ => P0_1_ k_)) (kk HK.out) hb); replace HB := rS HB hb; clear hb hbox hg) | ((with_reducible refine gD (N := 3) rfl ?_); refine box_event ?hg (N := 3) ?hd (cs := #[aX, aA, cL, cN, cO, cP, cQ, bP]) (t := 89) ?hr ?_; (case hd => rfl); (case hg => rfl); (case hr => first | (go_simp; done) | (go_simp; rfl) | (obtain ⟨A_, c_, e_⟩ := Kd.R_slice aG.out; subst e_; (first | (go_simp; done) | (go_simp; rfl))) | (obtain ⟨A_, c_, e_⟩ := Kd.S_slice aG.out; subst e_; (first | (go_simp; done) | (go_simp; rfl)))); intro dB hg w6 hbox hb; have aD := aM (hbox); have hZ := gE hg (kk HK.out).1; have iA := gF hg HB; have bQ := nM hg aI; have bR := nH hg aI; replace aG := aM (kB (kr aG.out) hb); replace aI := rB aI hb; replace HK := aM (Kept.below (S := (fun k_ => P0_1_ k_)) (kk HK.out) hb); replace HB := rS HB hb; clear hb hbox hg) | ((with_reducible refine gD (N := 4) rfl ?_); refine box_event ?hg (N := 4) ?hd (cs := #[.int .i64 0, .slice none 0 0]) (t := 28) ?hr ?_; (case hd => rfl); (case hg => rfl); (case hr => first | (go_simp; done) | (go_simp; rfl) | (obtain ⟨A_, c_, e_⟩ := Kd.R_slice aG.out; subst e_; (first | (go_simp; done) | (go_simp; rfl))) | (obtain ⟨A_, c_, e_⟩ := Kd.S_slice aG.out; subst e_; (first | (go_simp; done) | (go_simp; rfl)))); intro cV hg w7 hbox hb; have aN := aM (hbox); have iB := gE hg (kk HK.out).1; have iC := gF hg HB; have bZ := nM hg aI; have cA := nH hg aI; have cG := nM hg aD; have cH := nH hg aD; replace aG := aM (kB (kr aG.out) hb); replace aI := rB aI hb; replace aD := rB aD hb; replace HK := aM (Kept.below (S := (fun k_ => P0_1_ k_)) (kk HK.out) hb); replace HB := rS HB hb; clear hb hbox hg; have vW := bR.out; have vX := bQ.out; have vY := cG.out; have vZ := cH.out; have mZ := cA8 aD.out))
 (try simp only [Act.put, sA, sZ, sS])
 go_cut [] (fun wc => ∃ (kq : Nat) (cK : List (S79)) (eG : Int) (cE : Value), Aside0 (spec_l8In.j1 kq aZ cK = some (r1, r2)) ∧ Aside0 (kq ≤ k) ∧ Aside0 (Kd.R k79 79 wc w0.heap.size (fun k_ => (P0_1_ k_ ∨ w.heap.size ≤ k_)) cE cK) ∧ Aside0 (wc.heap[cX]? = some (.cells #[aZ, cE] 28 (0, 0))) ∧ Aside0 (wc.heap[dB]? = some (.cells #[aX, aA, cL, cN, cO, cP, cQ, bP] 89 (0, 0))) ∧ Aside0 (wc.heap[cV]? = some (.cells #[eG, (.slice none 0 0)] 28 (0, 0))) ∧ Aside0 (Kept w wc (fun k_ => P0_1_ k_)) ∧ Aside0 (Below w0.heap.size w0 wc))
 case first =>
  have H := jH.out
  clear jH
  by_cases eH : aX = 1
  case pos =>
   rw [if_pos eH] at H
   have dC : (aX == 1) = true := beq_iff_eq.mpr eH
   have iD : (aX != 1) = false := bne_eq_false_iff_eq.mpr eH
   clear eH
   (first | rw [dC] | (simp only [i64_w, i32_w]; rw [dC]) | skip)
   obtain ⟨nA, H⟩ := gI H
   obtain ⟨nB, H⟩ := gI H
   obtain ⟨⟨eL, eM, eN, eO, eP, eQ, eR, eS, eT, eU, eV⟩, jJ, H⟩ := hB H
   try dsimp only at H
   have qY := aM jJ
   clear jJ
   obtain ⟨jK, dO⟩ : ∃ y_ : List (S79), y_ = (aC.set (aA : Int).toNat (⟨eL, eM, (⟨eN, eO, eP, eQ⟩ : S73), eR, eS, eT, eU, eV⟩ : S79)) := ⟨_, rfl⟩
   replace H : (spec_l8In.j1 k aZ jK) = some (r1, r2) := by first | (rw [dO]; with_reducible exact H) | (have H2_ := (Option.bind_some _ _).symm.trans H; rw [dO]; with_reducible exact H2_) | (have H2_ := (Option.bind_some _ _).symm.trans H; with_reducible exact H2_) | with_reducible exact H | (rw [dO]; exact H) | exact H
   have nC := aM dO
   clear dO
   have H' := aM H
   clear H
   try go_wp2
   replace aG := aM (Kd.R_drew aG.out)
   replace aI := aM (blk_drew aI.out)
   replace aD := aM (blk_drew aD.out)
   replace aN := aM (blk_drew aN.out)
   replace HK := aM (Kept.drew HK.out)
   replace HB := aM (below_drew1 HB.out)
   have fQ : 0 ≤ (aA : Int) := dT
   have fS : aA < (aC.length : Int) := dT
   obtain ⟨aV, oC, dD, dE, dF, dG, dH, dI, dJ, dK, dL, dM, cY⟩ := at_T79 (Kd.R_reads' aG.out).2.2 aA fQ fS
   cases oC
   replace fQ := eq_true fQ
   replace fS := eq_true fS
   refine start_ (n := 17) (S := fun w' => cT2 w' cX (.int .i64 aZ) (.slice (some aV) aC.length cD) (cT8 w' dB (.int .i64 aX) (.int .i64 aA) (.int .i64 cL) (.int .i64 cN) (.int .i64 cO) (.int .i64 cP) (.int .i64 cQ) (.bool bP) (w'.cell? (aV.add ((aA).toNat * 11)) = some ((rd_T79 aC aA).f0) ∧ w'.cell? ⟨(aV.add ((aA).toNat * 11)).block, (aV.add ((aA).toNat * 11)).off + 1, none⟩ = some ((rd_T79 aC aA).f1) ∧ w'.cell? ⟨(aV.add ((aA).toNat * 11)).block, (aV.add ((aA).toNat * 11)).off + 2, none⟩ = some ((rd_T79 aC aA).f2.f0) ∧ w'.cell? ⟨(aV.add ((aA).toNat * 11)).block, (aV.add ((aA).toNat * 11)).off + 3, none⟩ = some ((rd_T79 aC aA).f2.f1) ∧ w'.cell? ⟨(aV.add ((aA).toNat * 11)).block, (aV.add ((aA).toNat * 11)).off + 4, none⟩ = some ((rd_T79 aC aA).f2.f2) ∧ w'.cell? ⟨(aV.add ((aA).toNat * 11)).block, (aV.add ((aA).toNat * 11)).off + 5, none⟩ = some ((rd_T79 aC aA).f2.f3) ∧ w'.cell? ⟨(aV.add ((aA).toNat * 11)).block, (aV.add ((aA).toNat * 11)).off + 6, none⟩ = some ((rd_T79 aC aA).f3) ∧ w'.cell? ⟨(aV.add ((aA).toNat * 11)).block, (aV.add ((aA).toNat * 11)).off + 7, none⟩ = some ((rd_T79 aC aA).f4) ∧ w'.cell? ⟨(aV.add ((aA).toNat * 11)).block, (aV.add ((aA).toNat * 11)).off + 8, none⟩ = some ((rd_T79 aC aA).f5) ∧ w'.cell? ⟨(aV.add ((aA).toNat * 11)).block, (aV.add ((aA).toNat * 11)).off + 9, none⟩ = some ((rd_T79 aC aA).f6) ∧ w'.cell? ⟨(aV.add ((aA).toNat * 11)).block, (aV.add ((aA).toNat * 11)).off + 10, none⟩ = some ((rd_T79 aC aA).f7)))) (ds := [16]) (dn 17 0) (by kernel_rfl) rfl rfl ⟨cI aI.out 0, cI aI.out 1, cI aD.out 0, cI aD.out 1, cI aD.out 2, cI aD.out 3, cI aD.out 4, cI aD.out 5, cI aD.out 6, cI aD.out 7, dD, dE, dF, dG, dH, dI, dJ, dK, dL, dM, cY⟩ (fun hHeld => ?_); refine with_tabW spec_l8In.tab3 spec_l8In.bits3 (fun HT_ HW_ => ?_)
   generalize w7.drew = xF at aG aI aD aN HK HB dD dE cY dF dG dH dI dJ dK dL dM hHeld ⊢
   refine nY (N := some 10) HT_ ?_
   refine pY (i := 2) (N := some 12) #[Y,U,Y,U,U,U,U,U,U,U,U,U,U,U,U,U,U] HT_ ?_
   refine pY (i := 4) (N := some 14) #[Y,U,Y,U,Y,U,U,U,U,U,U,U,U,U,U,U,U] HT_ ?_
   refine pY (i := 6) (N := some 16) #[Y,U,Y,U,Y,U,Y,U,U,U,U,U,U,U,U,U,U] HT_ ?_
   refine pY (i := 10) (N := some 20) #[Y,U,Y,U,Y,U,Y,U,U,U,Y,U,U,U,U,U,U] HT_ ?_
   refine pY (i := 12) (N := some 22) #[Y,U,Y,U,Y,U,Y,U,U,U,Y,U,Y,U,U,U,U] HT_ ?_
   refine aY (i := 1) (N := some 11) #[Y,Y,Y,U,Y,U,Y,U,U,U,Y,U,Y,U,U,U,U] HT_ HW_ hHeld ?_
   refine aY (i := 3) (N := some 13) #[Y,Y,Y,Y,Y,U,Y,U,U,U,Y,U,Y,U,U,U,U] HT_ HW_ hHeld ?_
   refine aY (i := 5) (N := some 15) #[Y,Y,Y,Y,Y,Y,Y,U,U,U,Y,U,Y,U,U,U,U] HT_ HW_ hHeld ?_
   refine aY (i := 7) (N := some 17) #[Y,Y,Y,Y,Y,Y,Y,Y,U,U,Y,U,Y,U,U,U,U] HT_ HW_ hHeld ?_
   refine pY (i := 8) (N := some 18) #[Y,Y,Y,Y,Y,Y,Y,Y,Y,U,Y,U,Y,U,U,U,U] HT_ ?_
   refine aY (i := 9) (N := some 19) #[Y,Y,Y,Y,Y,Y,Y,Y,Y,Y,Y,U,Y,U,U,U,U] HT_ HW_ hHeld ?_
   refine aY (i := 11) (N := some 21) #[Y,Y,Y,Y,Y,Y,Y,Y,Y,Y,Y,Y,Y,U,U,U,U] HT_ HW_ hHeld ?_
   refine aY (i := 13) (N := some 23) #[Y,Y,Y,Y,Y,Y,Y,Y,Y,Y,Y,Y,Y,Y,U,U,U] HT_ HW_ hHeld ?_
   refine one_ (i := 14) (N := some 24) #[Y,Y,Y,Y,Y,Y,Y,Y,Y,Y,Y,Y,Y,Y,Y,U,U] rfl rfl (one_of HT_.out (by kernel_rfl)) (by decide) (fun K hK => ?_)
   refine goes_ Try.func175 (by kernel_rfl) rfl #[.agg #[((rd_T79 aC aA).f0), ((rd_T79 aC aA).f1), ((rd_T79 aC aA).f2.f0), ((rd_T79 aC aA).f2.f1), ((rd_T79 aC aA).f2.f2), ((rd_T79 aC aA).f2.f3), ((rd_T79 aC aA).f3), ((rd_T79 aC aA).f4), ((rd_T79 aC aA).f5), ((rd_T79 aC aA).f6), ((rd_T79 aC aA).f7)], .agg #[cL, cN, cO, cP], cQ] (by rfl) rfl rfl xR ?_
   with_reducible refine (spec_Claim.calls k ((rd_T79 aC aA).f0) ((rd_T79 aC aA).f1) ((rd_T79 aC aA).f2.f0) ((rd_T79 aC aA).f2.f1) ((rd_T79 aC aA).f2.f2) ((rd_T79 aC aA).f2.f3) ((rd_T79 aC aA).f3) ((rd_T79 aC aA).f4) ((rd_T79 aC aA).f5) ((rd_T79 aC aA).f6) ((rd_T79 aC aA).f7) cL cN cO cP cQ eL eM eN eO eP eQ eR eS eT eU eV _ qY.out).mono ?_
   rintro e xG ⟨rfl, hb⟩
   have HS10_ := (hb.cell (World.block_lt_of_cell? _ _ (hHeld.2.2.2.2.2.2.2.2.2.2.1))).trans (hHeld.2.2.2.2.2.2.2.2.2.2.1)
   have HS11_ := (hb.cell (World.block_lt_of_cell? _ _ (hHeld.2.2.2.2.2.2.2.2.2.2.2.1))).trans (hHeld.2.2.2.2.2.2.2.2.2.2.2.1)
   have HS12_ := (hb.cell (World.block_lt_of_cell? _ _ (hHeld.2.2.2.2.2.2.2.2.2.2.2.2.1))).trans (hHeld.2.2.2.2.2.2.2.2.2.2.2.2.1)
   have HS13_ := (hb.cell (World.block_lt_of_cell? _ _ (hHeld.2.2.2.2.2.2.2.2.2.2.2.2.2.1))).trans (hHeld.2.2.2.2.2.2.2.2.2.2.2.2.2.1)
   have HS14_ := (hb.cell (World.block_lt_of_cell? _ _ (hHeld.2.2.2.2.2.2.2.2.2.2.2.2.2.2.1))).trans (hHeld.2.2.2.2.2.2.2.2.2.2.2.2.2.2.1)
   have HS15_ := (hb.cell (World.block_lt_of_cell? _ _ (hHeld.2.2.2.2.2.2.2.2.2.2.2.2.2.2.2.1))).trans (hHeld.2.2.2.2.2.2.2.2.2.2.2.2.2.2.2.1)
   have HS16_ := (hb.cell (World.block_lt_of_cell? _ _ (hHeld.2.2.2.2.2.2.2.2.2.2.2.2.2.2.2.2.1))).trans (hHeld.2.2.2.2.2.2.2.2.2.2.2.2.2.2.2.2.1)
   have HS17_ := (hb.cell (World.block_lt_of_cell? _ _ (hHeld.2.2.2.2.2.2.2.2.2.2.2.2.2.2.2.2.2.1))).trans (hHeld.2.2.2.2.2.2.2.2.2.2.2.2.2.2.2.2.2.1)
   have HS18_ := (hb.cell (World.block_lt_of_cell? _ _ (hHeld.2.2.2.2.2.2.2.2.2.2.2.2.2.2.2.2.2.2.1))).trans (hHeld.2.2.2.2.2.2.2.2.2.2.2.2.2.2.2.2.2.2.1)
   have HS19_ := (hb.cell (World.block_lt_of_cell? _ _ (hHeld.2.2.2.2.2.2.2.2.2.2.2.2.2.2.2.2.2.2.2.1))).trans (hHeld.2.2.2.2.2.2.2.2.2.2.2.2.2.2.2.2.2.2.2.1)
   have HS20_ := (hb.cell (World.block_lt_of_cell? _ _ (hHeld.2.2.2.2.2.2.2.2.2.2.2.2.2.2.2.2.2.2.2.2))).trans (hHeld.2.2.2.2.2.2.2.2.2.2.2.2.2.2.2.2.2.2.2.2)
   refine ⟨_, rfl, ?_⟩
   replace aG := aM (kB (kr aG.out) hb)
   replace aI := rB aI hb
   replace aD := rB aD hb
   replace aN := rB aN hb
   replace HK := aM (Kept.below (S := (fun k_ => P0_1_ k_)) (kk HK.out) hb)
   replace HB := rS HB hb
   (try clear hb)
   (try clear hb2)
   (try clear hk)
   (try clear hi)
   have fU : 0 ≤ (aA : Int) := dT
   have fV : (aA : Int) < ((aC.length : Int) : Int) := dT
   obtain ⟨gQ, wA, jL, jM, oD, wB, jN⟩ := Kd.R_form aG.out (by omega)
   (first | cases jL | (injection jL with ea_ en_ ec_; (first | subst ea_ | (injection ea_ with ea_; subst ea_)); subst ec_; clear en_))
   have cT := aM jM
   have wC := aM jN
   clear jM oD jN
   have HMgo15 := aM (show (P0_1_ gQ ∨ w.heap.size ≤ gQ) from (aG.out.1 _ rfl))
   (first | simp only [add_plain] at dD | skip)
   (first | simp only [add_plain] at dE | skip)
   (first | simp only [add_plain] at dF | skip)
   (first | simp only [add_plain] at dG | skip)
   (first | simp only [add_plain] at dH | skip)
   (first | simp only [add_plain] at dI | skip)
   (first | simp only [add_plain] at dJ | skip)
   (first | simp only [add_plain] at dK | skip)
   (first | simp only [add_plain] at dL | skip)
   (first | simp only [add_plain] at dM | skip)
   (first | simp only [add_plain] at cY | skip)
   obtain ⟨wD, nD, jO, iE, iF⟩ := Kd.R_elem aG.out z79 (aA : Int) fU fV
   obtain rfl := k79_openM jO
   obtain ⟨jP, jQ, jR, jS, jT, jU, jV, jW, jX, jY, jB, qZ, rA, rC, rD, rE, rF, rG, rH, rI, rJ, oT⟩ := eS79 (rd_T79 aC aA) iE iF
   clear nD iE iF jO
   replace fU := eq_true fU
   replace fV := eq_true fV
   obtain ⟨wE, iG, jZ, iH, nE⟩ := Kd.R_elem aG.out z79 (aA : Int) (dT) (by have h_ : (aA : Int) < ((aC.length : Int) : Int) := dT; first | exact h_ | (have e_ := (Kd.R_reads' aG.out).1; omega) | simpa using h_)
   obtain rfl := k79_openM jZ
   have gR := (Kd.R_seg aG.out (aA : Int) (dT) (by have h_ : (aA : Int) < ((aC.length : Int) : Int) := dT; first | exact h_ | (have e_ := (Kd.R_reads' aG.out).1; omega) | simpa using h_) (seg := [.bool eL, .bool eM, .int .i64 eN, .int .i64 eO, .int .i64 eP, .int .i64 eQ, .int .i64 eR, .int .i64 eS, .int .i64 eT, .int .i64 eU, .bool eV]) (j := 0) iG iH (show 11 ≤ 11 from by decide) (x' := (⟨eL, eM, (⟨eN, eO, eP, eQ⟩ : S73), eR, eS, eT, eU, eV⟩ : S79)) (k79_mkM _ _ _ (⟨eL, eM, (⟨eN, eO, eP, eQ⟩ : S73), eR, eS, eT, eU, eV⟩ : S79) ) (fun _ hk => hk)).1
   rw [← nC.out] at gR
   have HQ18 := aM gR
   clear iG iH nE jZ gR
   refine hK.out _ _ ⟨cI aI.out 0, cI aI.out 1, cI aD.out 0, cI aD.out 1, cI aD.out 2, cI aD.out 3, cI aD.out 4, cI aD.out 5, cI aD.out 6, cI aD.out 7, HS10_, HS11_, HS12_, HS13_, HS14_, HS15_, HS16_, HS17_, HS18_, HS19_, HS20_⟩ (fun hHeld => ?_)
   clear hK K
   refine norm_ (a' := ?_) ?_ ?_
   rotate_left
   ·show Act.put _ (some 24) _ = _
    simp only [Act.put, sA, sZ, sS, i64_w, i32_w]
    rfl
   refine pY (i := 15) (N := some 25) #[Y,Y,Y,Y,Y,Y,Y,Y,Y,Y,Y,Y,Y,Y,Y,Y,U] HT_ ?_
   refine last_ (i := 16) (N := none) #[Y,Y,Y,Y,Y,Y,Y,Y,Y,Y,Y,Y,Y,Y,Y,Y,Y] rfl rfl (one_of HT_.out (by kernel_rfl)) (by decide) (fun K hK => ?_)
   refine skip_ (w1 := ?_) (by rfl) rfl ?_ ?_
   rotate_left
   ·go_simp
    rfl
   refine hK.out _ _ ?_
   clear hK K
   refine done_ (done_of HT_.out (by kernel_rfl)) ?_
   try go_wp2
   go_meet
   case rel => exact ⟨_, (jK), (0), (.slice (some ⟨gQ, 0, none⟩) aC.length cD), H', ⟨by first | omega | exact Nat.le_refl _⟩, ⟨kr HQ18.out⟩, ⟨fR aG.out aI.out⟩, ⟨fR aG.out aD.out⟩, ⟨fR aG.out aN.out⟩, ⟨by repeat (first | (with_reducible first | exact HK.out | apply Kept.alloc | apply Kept.drewN | apply Kept.drew | refine Kept.setCell ?_ HMgo15.out _ | refine Kept.setCell ?_ HMgo15.out _ | refine Kept.setCell ?_ HMgo15.out _ | refine Kept.setCell ?_ HMgo15.out _ | refine Kept.setCell ?_ HMgo15.out _ | refine Kept.setCell ?_ HMgo15.out _ | refine Kept.setCell ?_ HMgo15.out _ | refine Kept.setCell ?_ HMgo15.out _ | refine Kept.setCell ?_ HMgo15.out _ | refine Kept.setCell ?_ HMgo15.out _ | refine Kept.setCell ?_ HMgo15.out _ | refine Kept.setCell ?_ (.inr hX.out) _ | refine Kept.setCell ?_ (.inr hZ.out) _ | refine Kept.setCell ?_ (.inr iB.out) _) | exact HK.out)⟩, ⟨by repeat (first | (with_reducible first | exact HB.out | apply below_alloc | apply pw_below_drewN | apply below_drew1 | refine below_set ?_ cT.out | refine below_set ?_ cT.out | refine below_set ?_ cT.out | refine below_set ?_ cT.out | refine below_set ?_ cT.out | refine below_set ?_ cT.out | refine below_set ?_ cT.out | refine below_set ?_ cT.out | refine below_set ?_ cT.out | refine below_set ?_ cT.out | refine below_set ?_ cT.out | refine below_set ?_ hY.out | refine below_set ?_ iA.out | refine below_set ?_ iC.out) | exact HB.out)⟩⟩
  rw [if_neg eH] at H
  have dC : (aX == 1) = false := beq_eq_false_iff_ne.mpr eH
  have iD : (aX != 1) = true := bne_iff_ne.mpr eH
  (first | rw [dC] | (simp only [i64_w, i32_w]; rw [dC]) | skip)
  by_cases eI : aX = 2
  case pos =>
   rw [if_pos eI] at H
   have iI : (aX == 2) = true := beq_iff_eq.mpr eI
   have iJ : (aX != 2) = false := bne_eq_false_iff_eq.mpr eI
   clear eI
   have H' := aM H
   clear H
   go_wp2
   go_loopg [5] k (fun kq v5 w' => ∃ (aJ : Int) (aE : List (S79)) (cE : Value), v5 = .int .i64 aJ ∧ Aside0 (spec_l8In.l0 kq aJ aZ aE = some (r1, r2)) ∧ Aside0 (kq ≤ k) ∧ Aside0 (Kd.R k79 79 w' w0.heap.size (fun k_ => (P0_1_ k_ ∨ w.heap.size ≤ k_)) cE aE) ∧ Aside0 (w'.heap[cX]? = some (.cells #[aZ, cE] 28 (0, 0))) ∧ Aside0 (w'.heap[dB]? = some (.cells #[aX, aA, cL, cN, cO, cP, cQ, bP] 89 (0, 0))) ∧ Aside0 (w'.heap[cV]? = some (.cells #[.int .i64 0, (.slice none 0 0)] 28 (0, 0))) ∧ Aside0 (Kept w w' (fun k_ => P0_1_ k_)) ∧ Aside0 (Below w0.heap.size w0 w'))
   case atStart => exact ⟨(0), (aC), (.slice jI aC.length cD), xE, H', ⟨Nat.le_refl _⟩, ⟨kr aG.out⟩, ⟨bk aI.out⟩, ⟨bk aD.out⟩, ⟨bk aN.out⟩, ⟨kk HK.out⟩, ⟨bl HB.out⟩⟩
   case round =>
    clear H'
    repeat first|clear c1|clear p1|clear q1|clear xH|clear p2|clear p4|clear q4|clear rK|clear c8|clear c9|clear eH|clear dC|clear iD|clear xI|clear nA|clear xJ|clear nB|clear xK|clear fU|clear fV|clear wF|clear wG|clear xL|clear xM|clear eI|clear iI|clear iJ|clear mZ|clear jP|clear jQ|clear jB|clear jR|clear jS|clear jT|clear jU|clear jV|clear jW|clear jX|clear jY|clear dD|clear dE|clear cY|clear dF|clear dG|clear dH|clear dI|clear dJ|clear dK|clear dL|clear dM|clear fU|clear fQ|clear fV|clear fS
    obtain ⟨aJ, aE, cE, rfl, HA, kA, aK, aI, aD, aN, HK, HB⟩ := hrel
    cases gk with
    | zero => exact absurd HA.out (by simp [spec_l8In.l0])
    | succ k1 =>
     have H := HA.out
     clear HA
     simp only [spec_l8In.l0] at H
     by_cases fN : aJ < (aE.length : Int)
     case neg =>
      rw [if_neg fN] at H
      have nF := decide_eq_false fN
      clear fN
      have H' := aM H
      clear H
      have uE := bQ.out
      have uF := bR.out
      have uG := bZ.out
      have uH := cA.out
      have uI := cA2 aI.out
      obtain ⟨oE, oF, oG⟩ := Kd.R_slice aK.out
      subst oG
      go_wp2
      go_meet
      case rel => exact ⟨_, (aE), (0), (.slice oE aE.length oF), H', ⟨by have := kA.out; first | omega | exact Nat.le_refl _⟩, ⟨kr aK.out⟩, ⟨bk aI.out⟩, ⟨bk aD.out⟩, ⟨bk aN.out⟩, ⟨kk HK.out⟩, ⟨bl HB.out⟩⟩
     rw [if_pos fN] at H
     have nF := decide_eq_true fN
     clear fN
     obtain ⟨uJ, H⟩ := gI H
     obtain ⟨⟨eW, eX, eY, eZ, fA, fB, fC, fD, fE, fF, fG⟩, kC, H⟩ := hB H
     try dsimp only at H
     have rL := aM kC
     clear kC
     obtain ⟨kD, dP⟩ : ∃ y_ : List (S79), y_ = (aE.set (aJ : Int).toNat (⟨eW, eX, (⟨eY, eZ, fA, fB⟩ : S73), fC, fD, fE, fF, fG⟩ : S79)) := ⟨_, rfl⟩
     replace H : (spec_l8In.l0 k1 (wrap64 (aJ + 1)) aZ kD) = some (r1, r2) := by first | (rw [dP]; with_reducible exact H) | (have H2_ := (Option.bind_some _ _).symm.trans H; rw [dP]; with_reducible exact H2_) | (have H2_ := (Option.bind_some _ _).symm.trans H; with_reducible exact H2_) | with_reducible exact H | (rw [dP]; exact H) | exact H
     have nI := aM dP
     clear dP
     have H' := aM H
     clear H
     have uK := bQ.out
     have uL := bR.out
     have uM := bZ.out
     have uN := cA.out
     have uO := cA2 aI.out
     obtain ⟨wH, kE, oH⟩ := Kd.R_slice aK.out
     subst oH
     try go_wp2
     replace aK := aM (Kd.R_drew aK.out)
     replace aI := aM (blk_drew aI.out)
     replace aD := aM (blk_drew aD.out)
     replace aN := aM (blk_drew aN.out)
     replace HK := aM (Kept.drew HK.out)
     replace HB := aM (below_drew1 HB.out)
     have gS : 0 ≤ (aJ : Int) := dT
     have gT : aJ < (aE.length : Int) := dT
     obtain ⟨aW, oI, dW, dX, dY, dZ, eA, eB, eC, eD, eE, eF, dN⟩ := at_T79 (Kd.R_reads' aK.out).2.2 aJ gS gT
     cases oI
     replace gS := eq_true gS
     replace gT := eq_true gT
     refine start_ (n := 11) (S := fun w' => cT2 w' cX (.int .i64 aZ) (.slice (some aW) aE.length kE) (w'.cell? (aW.add ((aJ).toNat * 11)) = some ((rd_T79 aE aJ).f0) ∧ w'.cell? ⟨(aW.add ((aJ).toNat * 11)).block, (aW.add ((aJ).toNat * 11)).off + 1, none⟩ = some ((rd_T79 aE aJ).f1) ∧ w'.cell? ⟨(aW.add ((aJ).toNat * 11)).block, (aW.add ((aJ).toNat * 11)).off + 2, none⟩ = some ((rd_T79 aE aJ).f2.f0) ∧ w'.cell? ⟨(aW.add ((aJ).toNat * 11)).block, (aW.add ((aJ).toNat * 11)).off + 3, none⟩ = some ((rd_T79 aE aJ).f2.f1) ∧ w'.cell? ⟨(aW.add ((aJ).toNat * 11)).block, (aW.add ((aJ).toNat * 11)).off + 4, none⟩ = some ((rd_T79 aE aJ).f2.f2) ∧ w'.cell? ⟨(aW.add ((aJ).toNat * 11)).block, (aW.add ((aJ).toNat * 11)).off + 5, none⟩ = some ((rd_T79 aE aJ).f2.f3) ∧ w'.cell? ⟨(aW.add ((aJ).toNat * 11)).block, (aW.add ((aJ).toNat * 11)).off + 6, none⟩ = some ((rd_T79 aE aJ).f3) ∧ w'.cell? ⟨(aW.add ((aJ).toNat * 11)).block, (aW.add ((aJ).toNat * 11)).off + 7, none⟩ = some ((rd_T79 aE aJ).f4) ∧ w'.cell? ⟨(aW.add ((aJ).toNat * 11)).block, (aW.add ((aJ).toNat * 11)).off + 8, none⟩ = some ((rd_T79 aE aJ).f5) ∧ w'.cell? ⟨(aW.add ((aJ).toNat * 11)).block, (aW.add ((aJ).toNat * 11)).off + 9, none⟩ = some ((rd_T79 aE aJ).f6) ∧ w'.cell? ⟨(aW.add ((aJ).toNat * 11)).block, (aW.add ((aJ).toNat * 11)).off + 10, none⟩ = some ((rd_T79 aE aJ).f7))) (ds := [10]) (dn 11 0) (by kernel_rfl) rfl rfl ⟨cI aI.out 0, cI aI.out 1, dW, dX, dY, dZ, eA, eB, eC, eD, eE, eF, dN⟩ (fun hHeld => ?_); refine with_tabW spec_l8In.tab8 spec_l8In.bits8 (fun HT_ HW_ => ?_)
     generalize wr.drew = xN at aK aI aD aN HK HB dW dX dN dY dZ eA eB eC eD eE eF hHeld ⊢
     refine nY (N := some 35) HT_ ?_
     refine pY (i := 2) (N := some 37) #[Y,U,Y,U,U,U,U,U,U,U,U] HT_ ?_
     refine pY (i := 3) (N := some 38) #[Y,U,Y,Y,U,U,U,U,U,U,U] HT_ ?_
     refine pY (i := 5) (N := some 40) #[Y,U,Y,Y,U,Y,U,U,U,U,U] HT_ ?_
     refine aY (i := 1) (N := some 36) #[Y,Y,Y,Y,U,Y,U,U,U,U,U] HT_ HW_ hHeld ?_
     refine aY (i := 4) (N := some 39) #[Y,Y,Y,Y,Y,Y,U,U,U,U,U] HT_ HW_ hHeld ?_
     refine pY (i := 6) (N := some 41) #[Y,Y,Y,Y,Y,Y,Y,U,U,U,U] HT_ ?_
     refine aY (i := 7) (N := some 42) #[Y,Y,Y,Y,Y,Y,Y,Y,U,U,U] HT_ HW_ hHeld ?_
     refine one_ (i := 8) (N := some 43) #[Y,Y,Y,Y,Y,Y,Y,Y,Y,U,U] rfl rfl (one_of HT_.out (by kernel_rfl)) (by decide) (fun K hK => ?_)
     refine goes_ Try.func185 (by kernel_rfl) rfl #[.agg #[((rd_T79 aE aJ).f0), ((rd_T79 aE aJ).f1), ((rd_T79 aE aJ).f2.f0), ((rd_T79 aE aJ).f2.f1), ((rd_T79 aE aJ).f2.f2), ((rd_T79 aE aJ).f2.f3), ((rd_T79 aE aJ).f3), ((rd_T79 aE aJ).f4), ((rd_T79 aE aJ).f5), ((rd_T79 aE aJ).f6), ((rd_T79 aE aJ).f7)]] (by rfl) rfl rfl xR ?_
     with_reducible refine (spec_l8Tick.calls k1 ((rd_T79 aE aJ).f0) ((rd_T79 aE aJ).f1) ((rd_T79 aE aJ).f2.f0) ((rd_T79 aE aJ).f2.f1) ((rd_T79 aE aJ).f2.f2) ((rd_T79 aE aJ).f2.f3) ((rd_T79 aE aJ).f3) ((rd_T79 aE aJ).f4) ((rd_T79 aE aJ).f5) ((rd_T79 aE aJ).f6) ((rd_T79 aE aJ).f7) eW eX eY eZ fA fB fC fD fE fF fG _ rL.out).mono ?_
     rintro e xO ⟨rfl, hb⟩
     have HS2_ := (hb.cell (World.block_lt_of_cell? _ _ (hHeld.2.2.1))).trans (hHeld.2.2.1)
     have HS3_ := (hb.cell (World.block_lt_of_cell? _ _ (hHeld.2.2.2.1))).trans (hHeld.2.2.2.1)
     have HS4_ := (hb.cell (World.block_lt_of_cell? _ _ (hHeld.2.2.2.2.1))).trans (hHeld.2.2.2.2.1)
     have HS5_ := (hb.cell (World.block_lt_of_cell? _ _ (hHeld.2.2.2.2.2.1))).trans (hHeld.2.2.2.2.2.1)
     have HS6_ := (hb.cell (World.block_lt_of_cell? _ _ (hHeld.2.2.2.2.2.2.1))).trans (hHeld.2.2.2.2.2.2.1)
     have HS7_ := (hb.cell (World.block_lt_of_cell? _ _ (hHeld.2.2.2.2.2.2.2.1))).trans (hHeld.2.2.2.2.2.2.2.1)
     have HS8_ := (hb.cell (World.block_lt_of_cell? _ _ (hHeld.2.2.2.2.2.2.2.2.1))).trans (hHeld.2.2.2.2.2.2.2.2.1)
     have HS9_ := (hb.cell (World.block_lt_of_cell? _ _ (hHeld.2.2.2.2.2.2.2.2.2.1))).trans (hHeld.2.2.2.2.2.2.2.2.2.1)
     have HS10_ := (hb.cell (World.block_lt_of_cell? _ _ (hHeld.2.2.2.2.2.2.2.2.2.2.1))).trans (hHeld.2.2.2.2.2.2.2.2.2.2.1)
     have HS11_ := (hb.cell (World.block_lt_of_cell? _ _ (hHeld.2.2.2.2.2.2.2.2.2.2.2.1))).trans (hHeld.2.2.2.2.2.2.2.2.2.2.2.1)
     have HS12_ := (hb.cell (World.block_lt_of_cell? _ _ (hHeld.2.2.2.2.2.2.2.2.2.2.2.2))).trans (hHeld.2.2.2.2.2.2.2.2.2.2.2.2)
     refine ⟨_, rfl, ?_⟩
     replace aK := aM (kB (kr aK.out) hb)
     replace aI := rB aI hb
     replace aD := rB aD hb
     replace aN := rB aN hb
     replace HK := aM (Kept.below (S := (fun k_ => P0_1_ k_)) (kk HK.out) hb)
     replace HB := rS HB hb
     (try clear hb)
     (try clear hb2)
     (try clear hk)
     (try clear hi)
     have kG : 0 ≤ (aJ : Int) := dT
     have kH : (aJ : Int) < ((aE.length : Int) : Int) := dT
     obtain ⟨gU, wI, kI, kJ, oJ, wJ, kK⟩ := Kd.R_form aK.out (by omega)
     (first | cases kI | (injection kI with ea_ en_ ec_; (first | subst ea_ | (injection ea_ with ea_; subst ea_)); subst ec_; clear en_))
     have cU := aM kJ
     have wK := aM kK
     clear kJ oJ kK
     have HMgo23 := aM (show (P0_1_ gU ∨ w.heap.size ≤ gU) from (aK.out.1 _ rfl))
     (first | simp only [add_plain] at dW | skip)
     (first | simp only [add_plain] at dX | skip)
     (first | simp only [add_plain] at dY | skip)
     (first | simp only [add_plain] at dZ | skip)
     (first | simp only [add_plain] at eA | skip)
     (first | simp only [add_plain] at eB | skip)
     (first | simp only [add_plain] at eC | skip)
     (first | simp only [add_plain] at eD | skip)
     (first | simp only [add_plain] at eE | skip)
     (first | simp only [add_plain] at eF | skip)
     (first | simp only [add_plain] at dN | skip)
     obtain ⟨wL, nJ, kL, iK, iL⟩ := Kd.R_elem aK.out z79 (aJ : Int) kG kH
     obtain rfl := k79_openM kL
     obtain ⟨rM, rN, rO, rQ, rR, rT, rV, rW, rX, rY, oU, rZ, sB, sC, sD, sE, sF, sG, sH, sI, sJ, oV⟩ := eS79 (rd_T79 aE aJ) iK iL
     clear nJ iK iL kL
     replace kG := eq_true kG
     replace kH := eq_true kH
     obtain ⟨wM, iM, kM, iN, nK⟩ := Kd.R_elem aK.out z79 (aJ : Int) (dT) (by have h_ : (aJ : Int) < ((aE.length : Int) : Int) := dT; first | exact h_ | (have e_ := (Kd.R_reads' aK.out).1; omega) | simpa using h_)
     obtain rfl := k79_openM kM
     have gV := (Kd.R_seg aK.out (aJ : Int) (dT) (by have h_ : (aJ : Int) < ((aE.length : Int) : Int) := dT; first | exact h_ | (have e_ := (Kd.R_reads' aK.out).1; omega) | simpa using h_) (seg := [.bool eW, .bool eX, .int .i64 eY, .int .i64 eZ, .int .i64 fA, .int .i64 fB, .int .i64 fC, .int .i64 fD, .int .i64 fE, .int .i64 fF, .bool fG]) (j := 0) iM iN (show 11 ≤ 11 from by decide) (x' := (⟨eW, eX, (⟨eY, eZ, fA, fB⟩ : S73), fC, fD, fE, fF, fG⟩ : S79)) (k79_mkM _ _ _ (⟨eW, eX, (⟨eY, eZ, fA, fB⟩ : S73), fC, fD, fE, fF, fG⟩ : S79) ) (fun _ hk => hk)).1
     rw [← nI.out] at gV
     have HQ30 := aM gV
     clear iM iN nK kM gV
     refine hK.out _ _ ⟨cI aI.out 0, cI aI.out 1, HS2_, HS3_, HS4_, HS5_, HS6_, HS7_, HS8_, HS9_, HS10_, HS11_, HS12_⟩ (fun hHeld => ?_)
     clear hK K
     refine norm_ (a' := ?_) ?_ ?_
     rotate_left
     ·show Act.put _ (some 43) _ = _
      simp only [Act.put, sA, sZ, sS, i64_w, i32_w]
      rfl
     refine pY (i := 9) (N := some 44) #[Y,Y,Y,Y,Y,Y,Y,Y,Y,Y,U] HT_ ?_
     refine last_ (i := 10) (N := none) #[Y,Y,Y,Y,Y,Y,Y,Y,Y,Y,Y] rfl rfl (one_of HT_.out (by kernel_rfl)) (by decide) (fun K hK => ?_)
     refine skip_ (w1 := ?_) (by rfl) rfl ?_ ?_
     rotate_left
     ·go_simp
      rfl
     refine hK.out _ _ ?_
     clear hK K
     refine done_ (done_of HT_.out (by kernel_rfl)) ?_
     try go_wp2
     go_roundg k1
     case measure => have := kA.out; omega
     case rel => exact ⟨(wrap64 (aJ + 1)), (kD), (.slice (some ⟨gU, 0, none⟩) aE.length kE), xE, H', ⟨by have := kA.out; omega⟩, ⟨kr HQ30.out⟩, ⟨fR aK.out aI.out⟩, ⟨fR aK.out aD.out⟩, ⟨fR aK.out aN.out⟩, ⟨by repeat (first | (with_reducible first | exact HK.out | apply Kept.alloc | apply Kept.drewN | apply Kept.drew | refine Kept.setCell ?_ HMgo23.out _ | refine Kept.setCell ?_ HMgo23.out _ | refine Kept.setCell ?_ HMgo23.out _ | refine Kept.setCell ?_ HMgo23.out _ | refine Kept.setCell ?_ HMgo23.out _ | refine Kept.setCell ?_ HMgo23.out _ | refine Kept.setCell ?_ HMgo23.out _ | refine Kept.setCell ?_ HMgo23.out _ | refine Kept.setCell ?_ HMgo23.out _ | refine Kept.setCell ?_ HMgo23.out _ | refine Kept.setCell ?_ HMgo23.out _ | refine Kept.setCell ?_ (.inr hX.out) _ | refine Kept.setCell ?_ (.inr hZ.out) _ | refine Kept.setCell ?_ (.inr iB.out) _) | exact HK.out)⟩, ⟨by repeat (first | (with_reducible first | exact HB.out | apply below_alloc | apply pw_below_drewN | apply below_drew1 | refine below_set ?_ cU.out | refine below_set ?_ cU.out | refine below_set ?_ cU.out | refine below_set ?_ cU.out | refine below_set ?_ cU.out | refine below_set ?_ cU.out | refine below_set ?_ cU.out | refine below_set ?_ cU.out | refine below_set ?_ cU.out | refine below_set ?_ cU.out | refine below_set ?_ cU.out | refine below_set ?_ hY.out | refine below_set ?_ iA.out | refine below_set ?_ iC.out) | exact HB.out)⟩⟩
  rw [if_neg eI] at H
  have iI : (aX == 2) = false := beq_eq_false_iff_ne.mpr eI
  have iJ : (aX != 2) = true := bne_iff_ne.mpr eI
  by_cases eJ : aX = 3
  case neg =>
   rw [if_neg eJ] at H
   have iO : (aX == 3) = false := beq_eq_false_iff_ne.mpr eJ
   have iP : (aX != 3) = true := bne_iff_ne.mpr eJ
   have H' := aM H
   clear H
   go_wp2
   go_meet
   case rel => exact ⟨_, (aC), (0), (.slice jI aC.length cD), H', ⟨by first | omega | exact Nat.le_refl _⟩, ⟨kr aG.out⟩, ⟨bk aI.out⟩, ⟨bk aD.out⟩, ⟨bk aN.out⟩, ⟨kk HK.out⟩, ⟨bl HB.out⟩⟩
  rw [if_pos eJ] at H
  have iO : (aX == 3) = true := beq_iff_eq.mpr eJ
  have iP : (aX != 3) = false := bne_eq_false_iff_eq.mpr eJ
  clear eJ
  obtain ⟨uP, H⟩ := gI H
  obtain ⟨uQ, H⟩ := gI H
  by_cases dA : (((rd_T79 aC aA).f0) == bP) = true
  case pos =>
   rw [if_pos dA] at H
   have iQ : (((rd_T79 aC aA).f0) == bP) = true := dA
   (try (have iR : decide (((rd_T79 aC aA).f0) = bP) = true := by simpa using dA))
   (try (have iS : (((rd_T79 aC aA).f0) == bP) = true := by simpa using dA))
   clear dA
   simp only [Option.some.injEq, Prod.mk.injEq] at H
   obtain ⟨rfl, rfl⟩ := H
   try go_wp2
   replace aG := aM (Kd.R_drew aG.out)
   replace aI := aM (blk_drew aI.out)
   replace aD := aM (blk_drew aD.out)
   replace aN := aM (blk_drew aN.out)
   replace HK := aM (Kept.drew HK.out)
   replace HB := aM (below_drew1 HB.out)
   have cR : 0 ≤ (aA : Int) := dT
   have cS : aA < (aC.length : Int) := dT
   obtain ⟨aH, fH, bD, bG, bH, bI, bJ, bK, bL, bM, bN, bO, bA⟩ := at_T79 (Kd.R_reads' aG.out).2.2 aA cR cS
   cases fH
   replace cR := eq_true cR
   replace cS := eq_true cS
   refine start_ (n := 10) (S := fun w' => cT2 w' cX (.int .i64 aZ) (.slice (some aH) aC.length cD) (cT8 w' dB (.int .i64 aX) (.int .i64 aA) (.int .i64 cL) (.int .i64 cN) (.int .i64 cO) (.int .i64 cP) (.int .i64 cQ) (.bool bP) (w'.cell? (aH.add ((aA).toNat * 11)) = some ((rd_T79 aC aA).f0) ∧ w'.cell? ⟨(aH.add ((aA).toNat * 11)).block, (aH.add ((aA).toNat * 11)).off + 1, none⟩ = some ((rd_T79 aC aA).f1) ∧ w'.cell? ⟨(aH.add ((aA).toNat * 11)).block, (aH.add ((aA).toNat * 11)).off + 2, none⟩ = some ((rd_T79 aC aA).f2.f0) ∧ w'.cell? ⟨(aH.add ((aA).toNat * 11)).block, (aH.add ((aA).toNat * 11)).off + 3, none⟩ = some ((rd_T79 aC aA).f2.f1) ∧ w'.cell? ⟨(aH.add ((aA).toNat * 11)).block, (aH.add ((aA).toNat * 11)).off + 4, none⟩ = some ((rd_T79 aC aA).f2.f2) ∧ w'.cell? ⟨(aH.add ((aA).toNat * 11)).block, (aH.add ((aA).toNat * 11)).off + 5, none⟩ = some ((rd_T79 aC aA).f2.f3) ∧ w'.cell? ⟨(aH.add ((aA).toNat * 11)).block, (aH.add ((aA).toNat * 11)).off + 6, none⟩ = some ((rd_T79 aC aA).f3) ∧ w'.cell? ⟨(aH.add ((aA).toNat * 11)).block, (aH.add ((aA).toNat * 11)).off + 7, none⟩ = some ((rd_T79 aC aA).f4) ∧ w'.cell? ⟨(aH.add ((aA).toNat * 11)).block, (aH.add ((aA).toNat * 11)).off + 8, none⟩ = some ((rd_T79 aC aA).f5) ∧ w'.cell? ⟨(aH.add ((aA).toNat * 11)).block, (aH.add ((aA).toNat * 11)).off + 9, none⟩ = some ((rd_T79 aC aA).f6) ∧ w'.cell? ⟨(aH.add ((aA).toNat * 11)).block, (aH.add ((aA).toNat * 11)).off + 10, none⟩ = some ((rd_T79 aC aA).f7)))) (ds := []) (dn 10 0) (by kernel_rfl) rfl rfl ⟨cI aI.out 0, cI aI.out 1, cI aD.out 0, cI aD.out 1, cI aD.out 2, cI aD.out 3, cI aD.out 4, cI aD.out 5, cI aD.out 6, cI aD.out 7, bD, bG, bH, bI, bJ, bK, bL, bM, bN, bO, bA⟩ (fun hHeld => ?_); refine with_tabW spec_l8In.tab10 spec_l8In.bits10 (fun HT_ HW_ => ?_)
   generalize w7.drew = xQ at aG aI aD aN HK HB bD bG bA bH bI bJ bK bL bM bN bO hHeld ⊢
   refine nY (N := some 47) HT_ ?_
   refine pY (i := 2) (N := some 49) #[Y,U,Y,U,U,U,U,U,U,U] HT_ ?_
   refine pY (i := 7) (N := some 54) #[Y,U,Y,U,U,U,U,Y,U,U] HT_ ?_
   refine aY (i := 1) (N := some 48) #[Y,Y,Y,U,U,U,U,Y,U,U] HT_ HW_ hHeld ?_
   refine aY (i := 3) (N := some 50) #[Y,Y,Y,Y,U,U,U,Y,U,U] HT_ HW_ hHeld ?_
   refine pY (i := 4) (N := some 51) #[Y,Y,Y,Y,Y,U,U,Y,U,U] HT_ ?_
   refine pY (i := 5) (N := some 52) #[Y,Y,Y,Y,Y,Y,U,Y,U,U] HT_ ?_
   refine aY (i := 6) (N := some 53) #[Y,Y,Y,Y,Y,Y,Y,Y,U,U] HT_ HW_ hHeld ?_
   refine aY (i := 8) (N := some 55) #[Y,Y,Y,Y,Y,Y,Y,Y,Y,U] HT_ HW_ hHeld ?_
   refine pY (i := 9) (N := some 56) #[Y,Y,Y,Y,Y,Y,Y,Y,Y,Y] HT_ ?_
   refine done_ (done_of HT_.out (by kernel_rfl)) ?_
   have uR := bQ.out
   have uS := bR.out
   have uT := bZ.out
   have uU := cA.out
   have nN := cA2 aI.out
   have uV := cH.out
   have uW := cG.out
   have nO := cA2 aN.out
   try go_wp2
   refine bodyPost_ret (results_cell_row rfl _ _ cV 28 #[aZ, .slice (some aH) aC.length cD] (0, 0) _ rfl (bm aN.out) Try.underlying28 rfl (by kernel_rfl)) rfl ?_
   exact ⟨_, xW, by (with_reducible repeat (first | apply Kd.R_alloc | apply Kd.R_drewN | apply Kd.R_drew)); exact Kd.R_mono (kF (p := ⟨cV, 1, none⟩) (kF (p := ⟨cV, 0, none⟩) (Kd.R_types aG.out aN.out (by decide)) (fun _ hk => hk.2) (.int .i64 aZ)) (fun _ hk => hk.2) (.slice (some aH) aC.length cD)) (fun _ hk => hk.1), bl HB.out, kk HK.out⟩
  rw [if_neg dA] at H
  have iQ : (((rd_T79 aC aA).f0) == bP) = false := by simpa using dA
  (try (have iR : decide (((rd_T79 aC aA).f0) = bP) = false := by simpa using dA))
  (try (have iS : (((rd_T79 aC aA).f0) == bP) = false := by simpa using dA))
  (try (have uX : ¬ (((rd_T79 aC aA).f0) = bP) := by simpa using dA))
  clear dA
  obtain ⟨cW, iT, H⟩ := hS H
  have iU := aM iT
  clear iT
  by_cases fW : bP = true
  case neg =>
   replace fW := Bool.eq_false_iff.mpr fW
   subst fW
   replace H := hF H
   have H' := aM H
   clear H
   try go_wp2
   replace aG := aM (Kd.R_drew aG.out)
   replace aI := aM (blk_drew aI.out)
   replace aD := aM (blk_drew aD.out)
   replace aN := aM (blk_drew aN.out)
   replace HK := aM (Kept.drew HK.out)
   replace HB := aM (below_drew1 HB.out)
   have cR : 0 ≤ (aA : Int) := dT
   have cS : aA < (aC.length : Int) := dT
   obtain ⟨aH, fH, bD, bG, bH, bI, bJ, bK, bL, bM, bN, bO, bA⟩ := at_T79 (Kd.R_reads' aG.out).2.2 aA cR cS
   cases fH
   replace cR := eq_true cR
   replace cS := eq_true cS
   refine start_ (n := 10) (S := fun w' => cT2 w' cX (.int .i64 aZ) (.slice (some aH) aC.length cD) (cT8 w' dB (.int .i64 aX) (.int .i64 aA) (.int .i64 cL) (.int .i64 cN) (.int .i64 cO) (.int .i64 cP) (.int .i64 cQ) (.bool false) (w'.cell? (aH.add ((aA).toNat * 11)) = some ((rd_T79 aC aA).f0) ∧ w'.cell? ⟨(aH.add ((aA).toNat * 11)).block, (aH.add ((aA).toNat * 11)).off + 1, none⟩ = some ((rd_T79 aC aA).f1) ∧ w'.cell? ⟨(aH.add ((aA).toNat * 11)).block, (aH.add ((aA).toNat * 11)).off + 2, none⟩ = some ((rd_T79 aC aA).f2.f0) ∧ w'.cell? ⟨(aH.add ((aA).toNat * 11)).block, (aH.add ((aA).toNat * 11)).off + 3, none⟩ = some ((rd_T79 aC aA).f2.f1) ∧ w'.cell? ⟨(aH.add ((aA).toNat * 11)).block, (aH.add ((aA).toNat * 11)).off + 4, none⟩ = some ((rd_T79 aC aA).f2.f2) ∧ w'.cell? ⟨(aH.add ((aA).toNat * 11)).block, (aH.add ((aA).toNat * 11)).off + 5, none⟩ = some ((rd_T79 aC aA).f2.f3) ∧ w'.cell? ⟨(aH.add ((aA).toNat * 11)).block, (aH.add ((aA).toNat * 11)).off + 6, none⟩ = some ((rd_T79 aC aA).f3) ∧ w'.cell? ⟨(aH.add ((aA).toNat * 11)).block, (aH.add ((aA).toNat * 11)).off + 7, none⟩ = some ((rd_T79 aC aA).f4) ∧ w'.cell? ⟨(aH.add ((aA).toNat * 11)).block, (aH.add ((aA).toNat * 11)).off + 8, none⟩ = some ((rd_T79 aC aA).f5) ∧ w'.cell? ⟨(aH.add ((aA).toNat * 11)).block, (aH.add ((aA).toNat * 11)).off + 9, none⟩ = some ((rd_T79 aC aA).f6) ∧ w'.cell? ⟨(aH.add ((aA).toNat * 11)).block, (aH.add ((aA).toNat * 11)).off + 10, none⟩ = some ((rd_T79 aC aA).f7)))) (ds := []) (dn 10 0) (by kernel_rfl) rfl rfl ⟨cI aI.out 0, cI aI.out 1, cI aD.out 0, cI aD.out 1, cI aD.out 2, cI aD.out 3, cI aD.out 4, cI aD.out 5, cI aD.out 6, cI aD.out 7, bD, bG, bH, bI, bJ, bK, bL, bM, bN, bO, bA⟩ (fun hHeld => ?_); refine with_tabW spec_l8In.tab10 spec_l8In.bits10 (fun HT_ HW_ => ?_)
   generalize w7.drew = kN at aG aI aD aN HK HB bD bG bA bH bI bJ bK bL bM bN bO hHeld ⊢
   refine nY (N := some 47) HT_ ?_
   refine pY (i := 2) (N := some 49) #[Y,U,Y,U,U,U,U,U,U,U] HT_ ?_
   refine pY (i := 7) (N := some 54) #[Y,U,Y,U,U,U,U,Y,U,U] HT_ ?_
   refine aY (i := 1) (N := some 48) #[Y,Y,Y,U,U,U,U,Y,U,U] HT_ HW_ hHeld ?_
   refine aY (i := 3) (N := some 50) #[Y,Y,Y,Y,U,U,U,Y,U,U] HT_ HW_ hHeld ?_
   refine pY (i := 4) (N := some 51) #[Y,Y,Y,Y,Y,U,U,Y,U,U] HT_ ?_
   refine pY (i := 5) (N := some 52) #[Y,Y,Y,Y,Y,Y,U,Y,U,U] HT_ ?_
   refine aY (i := 6) (N := some 53) #[Y,Y,Y,Y,Y,Y,Y,Y,U,U] HT_ HW_ hHeld ?_
   refine aY (i := 8) (N := some 55) #[Y,Y,Y,Y,Y,Y,Y,Y,Y,U] HT_ HW_ hHeld ?_
   refine pY (i := 9) (N := some 56) #[Y,Y,Y,Y,Y,Y,Y,Y,Y,Y] HT_ ?_
   refine done_ (done_of HT_.out (by kernel_rfl)) ?_
   have uY := bQ.out
   have uZ := bR.out
   have vA := bZ.out
   have vB := cA.out
   have nP := cA2 aI.out
   have vC := cG.out
   have vD := cH.out
   have nQ := cA8 aD.out
   have dQ : 0 ≤ (aA : Int) := dT
   have dR : (aA : Int) < ((aC.length : Int) : Int) := dT
   obtain ⟨aQ, oK, fI, fK, gW, oL, fL⟩ := Kd.R_form aG.out (by omega)
   (first | cases fI | (injection fI with ea_ en_ ec_; (first | subst ea_ | (injection ea_ with ea_; subst ea_)); subst ec_; clear en_))
   have aT := aM fK
   have oM := aM fL
   clear fK gW fL
   have HMgo45 := aM (show (P0_1_ aQ ∨ w.heap.size ≤ aQ) from (aG.out.1 _ rfl))
   (first | simp only [add_plain] at bD | skip)
   (first | simp only [add_plain] at bG | skip)
   (first | simp only [add_plain] at bH | skip)
   (first | simp only [add_plain] at bI | skip)
   (first | simp only [add_plain] at bJ | skip)
   (first | simp only [add_plain] at bK | skip)
   (first | simp only [add_plain] at bL | skip)
   (first | simp only [add_plain] at bM | skip)
   (first | simp only [add_plain] at bN | skip)
   (first | simp only [add_plain] at bO | skip)
   (first | simp only [add_plain] at bA | skip)
   obtain ⟨oO, fT, fM, dS, dU⟩ := Kd.R_elem aG.out z79 (aA : Int) dQ dR
   obtain rfl := k79_openM fM
   obtain ⟨fX, fY, gA, gB, gG, gH, gJ, gK, gM, gN, fO, kO, kP, kQ, kR, kS, kT, kU, kV, kW, kX, jC⟩ := eS79 (rd_T79 aC aA) dS dU
   clear fT dS dU fM
   replace dQ := eq_true dQ
   replace dR := eq_true dR
   have kY := aM (show Kd.R k79 79 kN w0.heap.size (fun k_ => (P0_1_ k_ ∨ w.heap.size ≤ k_)) (.slice (some ⟨aQ, 0, none⟩) aC.length cD) aC from (kr aG.out))
   obtain ⟨wN, iV, kZ, bT, bW⟩ := Kd.R_elem kY.out z79 (aA : Int) (dT) (by have h_ : (aA : Int) < ((aC.length : Int) : Int) := dT; first | exact h_ | (have e_ := (Kd.R_reads' aG.out).1; omega) | simpa using h_)
   obtain rfl := k79_openM kZ
   have gX := Kd.R_seg kY.out (aA : Int) (dT) (by have h_ : (aA : Int) < ((aC.length : Int) : Int) := dT; first | exact h_ | (have e_ := (Kd.R_reads' aG.out).1; omega) | simpa using h_) (seg := [.bool false, .bool false, .int .i64 0, .int .i64 0, .int .i64 0, .int .i64 0, .int .i64 0, .int .i64 0, .int .i64 0, .int .i64 0, .bool false]) (j := 0) iV bT (show 11 ≤ 11 from by decide) (x' := (⟨false, false, (⟨0, 0, 0, 0⟩ : S73), 0, 0, 0, 0, false⟩ : S79)) (k79_mkM _ _ _ (⟨false, false, (⟨0, 0, 0, 0⟩ : S73), 0, 0, 0, 0, false⟩ : S79) ) (fun _ hk => hk)
   have lA := cZ 11 (bT 0 _ rfl)
   have sK := fZ 11 (bW 0)
   have lB := cJ 11 (bT 1 _ rfl)
   have sL := fJ 11 (bW 1)
   have lC := cJ 11 (bT 2 _ rfl)
   have sM := fJ 11 (bW 2)
   have lD := cJ 11 (bT 3 _ rfl)
   have sN := fJ 11 (bW 3)
   have lE := cJ 11 (bT 4 _ rfl)
   have sO := fJ 11 (bW 4)
   have lF := cJ 11 (bT 5 _ rfl)
   have sP := fJ 11 (bW 5)
   have lG := cJ 11 (bT 6 _ rfl)
   have sQ := fJ 11 (bW 6)
   have lH := cJ 11 (bT 7 _ rfl)
   have sR := fJ 11 (bW 7)
   have lI := cJ 11 (bT 8 _ rfl)
   have sT := fJ 11 (bW 8)
   have lJ := cJ 11 (bT 9 _ rfl)
   have sU := fJ 11 (bW 9)
   have jD := cJ 11 (bT 10 _ rfl)
   have oW := fJ 11 (bW 10)
   clear iV bT bW kZ
   try go_wp2_with (first | ((with_reducible refine gate_store (t := 79) (p := 63) rfl ?_); refine store_event (t := 79) (p := 63) (v := ?vo_w67) (w1 := (((((((((((kN.setCell ⟨aQ, (aA : Int).toNat * 11, none⟩ (.bool false)).setCell ⟨aQ, (aA : Int).toNat * 11 + 1, none⟩ (.bool false)).setCell ⟨aQ, (aA : Int).toNat * 11 + 2, none⟩ (.int .i64 0)).setCell ⟨aQ, (aA : Int).toNat * 11 + 3, none⟩ (.int .i64 0)).setCell ⟨aQ, (aA : Int).toNat * 11 + 4, none⟩ (.int .i64 0)).setCell ⟨aQ, (aA : Int).toNat * 11 + 5, none⟩ (.int .i64 0)).setCell ⟨aQ, (aA : Int).toNat * 11 + 6, none⟩ (.int .i64 0)).setCell ⟨aQ, (aA : Int).toNat * 11 + 7, none⟩ (.int .i64 0)).setCell ⟨aQ, (aA : Int).toNat * 11 + 8, none⟩ (.int .i64 0)).setCell ⟨aQ, (aA : Int).toNat * 11 + 9, none⟩ (.int .i64 0)).setCell ⟨aQ, (aA : Int).toNat * 11 + 10, none⟩ (.bool false))) ?hg ?ho ?hn ?hr ?_; (case ho => rfl); (case hg => rfl); (case hn => rfl); (case hr => first | (go_simp; done) | (go_simp; rfl) | (obtain ⟨A_, c_, e_⟩ := Kd.R_slice aG.out; subst e_; (first | (go_simp; done) | (go_simp; rfl))) | (obtain ⟨A_, c_, e_⟩ := Kd.S_slice aG.out; subst e_; (first | (go_simp; done) | (go_simp; rfl)))); intro lK hw; have hg : kN.grownBy lK (some aQ) := (by rw [hw]; exact gX.2); have hp_ : Kd.R k79 79 lK w0.heap.size (fun k_ => (P0_1_ k_ ∨ w.heap.size ≤ k_)) (.slice (some ⟨aQ, 0, none⟩) aC.length cD) cW := (by rw [hw, iU.out]; exact gX.1); clear gX; replace aI := aM (blk_grown (bk aI.out) hg (Kd.R_ne aG.out aI.out (by decide))); replace aD := aM (blk_grown (bk aD.out) hg (Kd.R_ne aG.out aD.out (by decide))); replace aN := aM (blk_grown (bk aN.out) hg (Kd.R_ne aG.out aN.out (by decide))); replace HB := aM ((by rw [hw]; exact below_set (below_set (below_set (below_set (below_set (below_set (below_set (below_set (below_set (below_set (below_set (HB.out) aT.out) aT.out) aT.out) aT.out) aT.out) aT.out) aT.out) aT.out) aT.out) aT.out) aT.out : Below w0.heap.size w0 lK)); replace HK := aM (Kept.of_grown (S := (fun k_ => P0_1_ k_)) hg (kk HK.out) (fun k_ e_ => (aG.out.1 k_ e_))); replace aG := aM (hp_); clear hg hw hp_; have nR := cA8 aD.out))
   go_meet
   case rel => exact ⟨_, (cW), (0), (.slice (some ⟨aQ, 0, none⟩) aC.length cD), H', ⟨by first | omega | exact Nat.le_refl _⟩, ⟨kr aG.out⟩, ⟨bk aI.out⟩, ⟨bk aD.out⟩, ⟨bk aN.out⟩, ⟨kk HK.out⟩, ⟨bl HB.out⟩⟩
  subst fW
  replace H := hP H rfl
  obtain ⟨gY, dV⟩ : ∃ y_ : List (S79), y_ = (cW.set (aA : Int).toNat (⟨true, false, (⟨0, 0, 0, 0⟩ : S73), 0, 0, 3, 0, false⟩ : S79)) := ⟨_, rfl⟩
  replace H : (spec_l8In.j1 k aZ gY) = some (r1, r2) := by first | (rw [dV]; with_reducible exact H) | (have H2_ := (Option.bind_some _ _).symm.trans H; rw [dV]; with_reducible exact H2_) | (have H2_ := (Option.bind_some _ _).symm.trans H; with_reducible exact H2_) | with_reducible exact H | (rw [dV]; exact H) | exact H
  have nS := aM dV
  clear dV
  have H' := aM H
  clear H
  try go_wp2
  replace aG := aM (Kd.R_drew aG.out)
  replace aI := aM (blk_drew aI.out)
  replace aD := aM (blk_drew aD.out)
  replace aN := aM (blk_drew aN.out)
  replace HK := aM (Kept.drew HK.out)
  replace HB := aM (below_drew1 HB.out)
  have cR : 0 ≤ (aA : Int) := dT
  have cS : aA < (aC.length : Int) := dT
  obtain ⟨aH, fH, bD, bG, bH, bI, bJ, bK, bL, bM, bN, bO, bA⟩ := at_T79 (Kd.R_reads' aG.out).2.2 aA cR cS
  cases fH
  replace cR := eq_true cR
  replace cS := eq_true cS
  refine start_ (n := 10) (S := fun w' => cT2 w' cX (.int .i64 aZ) (.slice (some aH) aC.length cD) (cT8 w' dB (.int .i64 aX) (.int .i64 aA) (.int .i64 cL) (.int .i64 cN) (.int .i64 cO) (.int .i64 cP) (.int .i64 cQ) (.bool true) (w'.cell? (aH.add ((aA).toNat * 11)) = some ((rd_T79 aC aA).f0) ∧ w'.cell? ⟨(aH.add ((aA).toNat * 11)).block, (aH.add ((aA).toNat * 11)).off + 1, none⟩ = some ((rd_T79 aC aA).f1) ∧ w'.cell? ⟨(aH.add ((aA).toNat * 11)).block, (aH.add ((aA).toNat * 11)).off + 2, none⟩ = some ((rd_T79 aC aA).f2.f0) ∧ w'.cell? ⟨(aH.add ((aA).toNat * 11)).block, (aH.add ((aA).toNat * 11)).off + 3, none⟩ = some ((rd_T79 aC aA).f2.f1) ∧ w'.cell? ⟨(aH.add ((aA).toNat * 11)).block, (aH.add ((aA).toNat * 11)).off + 4, none⟩ = some ((rd_T79 aC aA).f2.f2) ∧ w'.cell? ⟨(aH.add ((aA).toNat * 11)).block, (aH.add ((aA).toNat * 11)).off + 5, none⟩ = some ((rd_T79 aC aA).f2.f3) ∧ w'.cell? ⟨(aH.add ((aA).toNat * 11)).block, (aH.add ((aA).toNat * 11)).off + 6, none⟩ = some ((rd_T79 aC aA).f3) ∧ w'.cell? ⟨(aH.add ((aA).toNat * 11)).block, (aH.add ((aA).toNat * 11)).off + 7, none⟩ = some ((rd_T79 aC aA).f4) ∧ w'.cell? ⟨(aH.add ((aA).toNat * 11)).block, (aH.add ((aA).toNat * 11)).off + 8, none⟩ = some ((rd_T79 aC aA).f5) ∧ w'.cell? ⟨(aH.add ((aA).toNat * 11)).block, (aH.add ((aA).toNat * 11)).off + 9, none⟩ = some ((rd_T79 aC aA).f6) ∧ w'.cell? ⟨(aH.add ((aA).toNat * 11)).block, (aH.add ((aA).toNat * 11)).off + 10, none⟩ = some ((rd_T79 aC aA).f7)))) (ds := []) (dn 10 0) (by kernel_rfl) rfl rfl ⟨cI aI.out 0, cI aI.out 1, cI aD.out 0, cI aD.out 1, cI aD.out 2, cI aD.out 3, cI aD.out 4, cI aD.out 5, cI aD.out 6, cI aD.out 7, bD, bG, bH, bI, bJ, bK, bL, bM, bN, bO, bA⟩ (fun hHeld => ?_); refine with_tabW spec_l8In.tab10 spec_l8In.bits10 (fun HT_ HW_ => ?_)
  generalize w7.drew = lL at aG aI aD aN HK HB bD bG bA bH bI bJ bK bL bM bN bO hHeld ⊢
  refine nY (N := some 47) HT_ ?_
  refine pY (i := 2) (N := some 49) #[Y,U,Y,U,U,U,U,U,U,U] HT_ ?_
  refine pY (i := 7) (N := some 54) #[Y,U,Y,U,U,U,U,Y,U,U] HT_ ?_
  refine aY (i := 1) (N := some 48) #[Y,Y,Y,U,U,U,U,Y,U,U] HT_ HW_ hHeld ?_
  refine aY (i := 3) (N := some 50) #[Y,Y,Y,Y,U,U,U,Y,U,U] HT_ HW_ hHeld ?_
  refine pY (i := 4) (N := some 51) #[Y,Y,Y,Y,Y,U,U,Y,U,U] HT_ ?_
  refine pY (i := 5) (N := some 52) #[Y,Y,Y,Y,Y,Y,U,Y,U,U] HT_ ?_
  refine aY (i := 6) (N := some 53) #[Y,Y,Y,Y,Y,Y,Y,Y,U,U] HT_ HW_ hHeld ?_
  refine aY (i := 8) (N := some 55) #[Y,Y,Y,Y,Y,Y,Y,Y,Y,U] HT_ HW_ hHeld ?_
  refine pY (i := 9) (N := some 56) #[Y,Y,Y,Y,Y,Y,Y,Y,Y,Y] HT_ ?_
  refine done_ (done_of HT_.out (by kernel_rfl)) ?_
  have vE := bQ.out
  have vF := bR.out
  have vG := bZ.out
  have vH := cA.out
  have nT := cA2 aI.out
  have vI := cG.out
  have vJ := cH.out
  have nV := cA8 aD.out
  have dQ : 0 ≤ (aA : Int) := dT
  have dR : (aA : Int) < ((aC.length : Int) : Int) := dT
  obtain ⟨aQ, oK, fI, fK, gW, oL, fL⟩ := Kd.R_form aG.out (by omega)
  (first | cases fI | (injection fI with ea_ en_ ec_; (first | subst ea_ | (injection ea_ with ea_; subst ea_)); subst ec_; clear en_))
  have aT := aM fK
  have oM := aM fL
  clear fK gW fL
  have HMgo45 := aM (show (P0_1_ aQ ∨ w.heap.size ≤ aQ) from (aG.out.1 _ rfl))
  (first | simp only [add_plain] at bD | skip)
  (first | simp only [add_plain] at bG | skip)
  (first | simp only [add_plain] at bH | skip)
  (first | simp only [add_plain] at bI | skip)
  (first | simp only [add_plain] at bJ | skip)
  (first | simp only [add_plain] at bK | skip)
  (first | simp only [add_plain] at bL | skip)
  (first | simp only [add_plain] at bM | skip)
  (first | simp only [add_plain] at bN | skip)
  (first | simp only [add_plain] at bO | skip)
  (first | simp only [add_plain] at bA | skip)
  obtain ⟨oO, fT, fM, dS, dU⟩ := Kd.R_elem aG.out z79 (aA : Int) dQ dR
  obtain rfl := k79_openM fM
  obtain ⟨fX, fY, gA, gB, gG, gH, gJ, gK, gM, gN, fO, kO, kP, kQ, kR, kS, kT, kU, kV, kW, kX, jC⟩ := eS79 (rd_T79 aC aA) dS dU
  clear fT dS dU fM
  replace dQ := eq_true dQ
  replace dR := eq_true dR
  have lM := aM (show Kd.R k79 79 lL w0.heap.size (fun k_ => (P0_1_ k_ ∨ w.heap.size ≤ k_)) (.slice (some ⟨aQ, 0, none⟩) aC.length cD) aC from (kr aG.out))
  obtain ⟨wO, iW, lN, bU, bX⟩ := Kd.R_elem lM.out z79 (aA : Int) (dT) (by have h_ : (aA : Int) < ((aC.length : Int) : Int) := dT; first | exact h_ | (have e_ := (Kd.R_reads' aG.out).1; omega) | simpa using h_)
  obtain rfl := k79_openM lN
  have gZ := Kd.R_seg lM.out (aA : Int) (dT) (by have h_ : (aA : Int) < ((aC.length : Int) : Int) := dT; first | exact h_ | (have e_ := (Kd.R_reads' aG.out).1; omega) | simpa using h_) (seg := [.bool false, .bool false, .int .i64 0, .int .i64 0, .int .i64 0, .int .i64 0, .int .i64 0, .int .i64 0, .int .i64 0, .int .i64 0, .bool false]) (j := 0) iW bU (show 11 ≤ 11 from by decide) (x' := (⟨false, false, (⟨0, 0, 0, 0⟩ : S73), 0, 0, 0, 0, false⟩ : S79)) (k79_mkM _ _ _ (⟨false, false, (⟨0, 0, 0, 0⟩ : S73), 0, 0, 0, 0, false⟩ : S79) ) (fun _ hk => hk)
  have lO := cZ 11 (bU 0 _ rfl)
  have sV := fZ 11 (bX 0)
  have lP := cJ 11 (bU 1 _ rfl)
  have sW := fJ 11 (bX 1)
  have lQ := cJ 11 (bU 2 _ rfl)
  have sX := fJ 11 (bX 2)
  have lR := cJ 11 (bU 3 _ rfl)
  have sY := fJ 11 (bX 3)
  have lS := cJ 11 (bU 4 _ rfl)
  have tA := fJ 11 (bX 4)
  have lT := cJ 11 (bU 5 _ rfl)
  have tB := fJ 11 (bX 5)
  have lU := cJ 11 (bU 6 _ rfl)
  have tC := fJ 11 (bX 6)
  have lV := cJ 11 (bU 7 _ rfl)
  have tD := fJ 11 (bX 7)
  have lW := cJ 11 (bU 8 _ rfl)
  have tE := fJ 11 (bX 8)
  have lX := cJ 11 (bU 9 _ rfl)
  have tF := fJ 11 (bX 9)
  have jE := cJ 11 (bU 10 _ rfl)
  have oX := fJ 11 (bX 10)
  clear iW bU bX lN
  try go_wp2_with (first | ((with_reducible refine gate_store (t := 79) (p := 63) rfl ?_); refine store_event (t := 79) (p := 63) (v := ?vo_w55) (w1 := (((((((((((lL.setCell ⟨aQ, (aA : Int).toNat * 11, none⟩ (.bool false)).setCell ⟨aQ, (aA : Int).toNat * 11 + 1, none⟩ (.bool false)).setCell ⟨aQ, (aA : Int).toNat * 11 + 2, none⟩ (.int .i64 0)).setCell ⟨aQ, (aA : Int).toNat * 11 + 3, none⟩ (.int .i64 0)).setCell ⟨aQ, (aA : Int).toNat * 11 + 4, none⟩ (.int .i64 0)).setCell ⟨aQ, (aA : Int).toNat * 11 + 5, none⟩ (.int .i64 0)).setCell ⟨aQ, (aA : Int).toNat * 11 + 6, none⟩ (.int .i64 0)).setCell ⟨aQ, (aA : Int).toNat * 11 + 7, none⟩ (.int .i64 0)).setCell ⟨aQ, (aA : Int).toNat * 11 + 8, none⟩ (.int .i64 0)).setCell ⟨aQ, (aA : Int).toNat * 11 + 9, none⟩ (.int .i64 0)).setCell ⟨aQ, (aA : Int).toNat * 11 + 10, none⟩ (.bool false))) ?hg ?ho ?hn ?hr ?_; (case ho => rfl); (case hg => rfl); (case hn => rfl); (case hr => first | (go_simp; done) | (go_simp; rfl) | (obtain ⟨A_, c_, e_⟩ := Kd.R_slice aG.out; subst e_; (first | (go_simp; done) | (go_simp; rfl))) | (obtain ⟨A_, c_, e_⟩ := Kd.S_slice aG.out; subst e_; (first | (go_simp; done) | (go_simp; rfl)))); intro fP hw; have hg : lL.grownBy fP (some aQ) := (by rw [hw]; exact gZ.2); have hp_ : Kd.R k79 79 fP w0.heap.size (fun k_ => (P0_1_ k_ ∨ w.heap.size ≤ k_)) (.slice (some ⟨aQ, 0, none⟩) aC.length cD) cW := (by rw [hw, iU.out]; exact gZ.1); clear gZ; replace aI := aM (blk_grown (bk aI.out) hg (Kd.R_ne aG.out aI.out (by decide))); replace aD := aM (blk_grown (bk aD.out) hg (Kd.R_ne aG.out aD.out (by decide))); replace aN := aM (blk_grown (bk aN.out) hg (Kd.R_ne aG.out aN.out (by decide))); replace HB := aM ((by rw [hw]; exact below_set (below_set (below_set (below_set (below_set (below_set (below_set (below_set (below_set (below_set (below_set (HB.out) aT.out) aT.out) aT.out) aT.out) aT.out) aT.out) aT.out) aT.out) aT.out) aT.out) aT.out : Below w0.heap.size w0 fP)); replace HK := aM (Kept.of_grown (S := (fun k_ => P0_1_ k_)) hg (kk HK.out) (fun k_ e_ => (aG.out.1 k_ e_))); replace aG := aM (hp_); clear hg hw hp_; have nX := cA8 aD.out; have nZ := cA2 aI.out; have gO : 0 ≤ (aA : Int) := dT; have gP : (aA : Int) < ((aC.length : Int) : Int) := dT; obtain ⟨wP, oA, lY, iX, iY⟩ := Kd.R_elem aG.out z79 (aA : Int) gO gP; obtain rfl := k79_openM lY; obtain ⟨lZ, mA, mB, mC, mD, mE, mF, mG, mH, mI, jF, tG, tH, tI, tJ, tK, tL, tM, tN, tO, tP, oY⟩ := eS79 (rd_T79 cW aA) iX iY; clear oA iX iY lY; replace gO := eq_true gO; replace gP := eq_true gP; have mJ := aM (show Kd.R k79 79 fP w0.heap.size (fun k_ => (P0_1_ k_ ∨ w.heap.size ≤ k_)) (.slice (some ⟨aQ, 0, none⟩) aC.length cD) cW from (kr aG.out)); obtain ⟨wQ, iZ, mK, bV, bY⟩ := Kd.R_elem mJ.out z79 (aA : Int) (dT) (by have h_ : (aA : Int) < ((aC.length : Int) : Int) := dT; first | exact h_ | (have e_ := (Kd.R_reads' aG.out).1; omega) | simpa using h_); obtain rfl := k79_openM mK; have hJ := Kd.R_seg mJ.out (aA : Int) (dT) (by have h_ : (aA : Int) < ((aC.length : Int) : Int) := dT; first | exact h_ | (have e_ := (Kd.R_reads' aG.out).1; omega) | simpa using h_) (seg := [.bool true, .bool false, .int .i64 0, .int .i64 0, .int .i64 0, .int .i64 0, .int .i64 0, .int .i64 0, .int .i64 3, .int .i64 0, .bool false]) (j := 0) iZ bV (show 11 ≤ 11 from by decide) (x' := (⟨true, false, (⟨0, 0, 0, 0⟩ : S73), 0, 0, 3, 0, false⟩ : S79)) (k79_mkM _ _ _ (⟨true, false, (⟨0, 0, 0, 0⟩ : S73), 0, 0, 3, 0, false⟩ : S79) ) (fun _ hk => hk); have mL := cZ 11 (bV 0 _ rfl); have tQ := fZ 11 (bY 0); have mM := cJ 11 (bV 1 _ rfl); have tR := fJ 11 (bY 1); have mN := cJ 11 (bV 2 _ rfl); have tS := fJ 11 (bY 2); have mO := cJ 11 (bV 3 _ rfl); have tT := fJ 11 (bY 3); have mP := cJ 11 (bV 4 _ rfl); have tV := fJ 11 (bY 4); have mQ := cJ 11 (bV 5 _ rfl); have tW := fJ 11 (bY 5); have mR := cJ 11 (bV 6 _ rfl); have tX := fJ 11 (bY 6); have mS := cJ 11 (bV 7 _ rfl); have tZ := fJ 11 (bY 7); have mT := cJ 11 (bV 8 _ rfl); have uA := fJ 11 (bY 8); have mU := cJ 11 (bV 9 _ rfl); have uB := fJ 11 (bY 9); have jG := cJ 11 (bV 10 _ rfl); have oZ := fJ 11 (bY 10); clear iZ bV bY mK) | ((with_reducible refine gate_store (t := 79) (p := 71) rfl ?_); refine store_event (t := 79) (p := 71) (v := ?vo_w59) (w1 := (((((((((((fP.setCell ⟨aQ, (aA : Int).toNat * 11, none⟩ (.bool true)).setCell ⟨aQ, (aA : Int).toNat * 11 + 1, none⟩ (.bool false)).setCell ⟨aQ, (aA : Int).toNat * 11 + 2, none⟩ (.int .i64 0)).setCell ⟨aQ, (aA : Int).toNat * 11 + 3, none⟩ (.int .i64 0)).setCell ⟨aQ, (aA : Int).toNat * 11 + 4, none⟩ (.int .i64 0)).setCell ⟨aQ, (aA : Int).toNat * 11 + 5, none⟩ (.int .i64 0)).setCell ⟨aQ, (aA : Int).toNat * 11 + 6, none⟩ (.int .i64 0)).setCell ⟨aQ, (aA : Int).toNat * 11 + 7, none⟩ (.int .i64 0)).setCell ⟨aQ, (aA : Int).toNat * 11 + 8, none⟩ (.int .i64 3)).setCell ⟨aQ, (aA : Int).toNat * 11 + 9, none⟩ (.int .i64 0)).setCell ⟨aQ, (aA : Int).toNat * 11 + 10, none⟩ (.bool false))) ?hg ?ho ?hn ?hr ?_; (case ho => rfl); (case hg => rfl); (case hn => rfl); (case hr => first | (go_simp; done) | (go_simp; rfl) | (obtain ⟨A_, c_, e_⟩ := Kd.R_slice aG.out; subst e_; (first | (go_simp; done) | (go_simp; rfl))) | (obtain ⟨A_, c_, e_⟩ := Kd.S_slice aG.out; subst e_; (first | (go_simp; done) | (go_simp; rfl)))); intro mV hw; have hg : fP.grownBy mV (some aQ) := (by rw [hw]; exact hJ.2); have hp_ : Kd.R k79 79 mV w0.heap.size (fun k_ => (P0_1_ k_ ∨ w.heap.size ≤ k_)) (.slice (some ⟨aQ, 0, none⟩) aC.length cD) gY := (by rw [hw, nS.out]; exact hJ.1); clear hJ; replace aI := aM (blk_grown (bk aI.out) hg (Kd.R_ne aG.out aI.out (by decide))); replace aD := aM (blk_grown (bk aD.out) hg (Kd.R_ne aG.out aD.out (by decide))); replace aN := aM (blk_grown (bk aN.out) hg (Kd.R_ne aG.out aN.out (by decide))); replace HB := aM ((by rw [hw]; exact below_set (below_set (below_set (below_set (below_set (below_set (below_set (below_set (below_set (below_set (below_set (HB.out) aT.out) aT.out) aT.out) aT.out) aT.out) aT.out) aT.out) aT.out) aT.out) aT.out) aT.out : Below w0.heap.size w0 mV)); replace HK := aM (Kept.of_grown (S := (fun k_ => P0_1_ k_)) hg (kk HK.out) (fun k_ e_ => (aG.out.1 k_ e_))); replace aG := aM (hp_); clear hg hw hp_))
  go_meet
  case rel => exact ⟨_, (gY), (0), (.slice (some ⟨aQ, 0, none⟩) aC.length cD), H', ⟨by first | omega | exact Nat.le_refl _⟩, ⟨kr aG.out⟩, ⟨bk aI.out⟩, ⟨bk aD.out⟩, ⟨bk aN.out⟩, ⟨kk HK.out⟩, ⟨bl HB.out⟩⟩
 case rest =>
  clear jH
  repeat first|clear p2|clear c3|clear c4|clear p4|clear q4|clear rK|clear xS|clear c5|clear xT|clear xU|clear c6|clear xV|clear xX|clear eJ|clear iO|clear iP|clear xY|clear xZ|clear dA|clear iQ|clear iR|clear iS|clear yA|clear yB|clear yC|clear yD|clear dQ|clear dR|clear wR|clear wS|clear fW|clear yE|clear yF|clear wT|clear yG|clear gO|clear gP|clear wU|clear wV|clear yH|clear yI|clear yJ|clear yK|clear wW|clear wX|clear yL|clear wY|clear wZ|clear yM|clear yN|clear yO|clear yP|clear xA|clear xC|clear nN|clear pA|clear nO|clear pB|clear nT|clear pC|clear nV|clear pD|clear pE|clear pF|clear pG|clear pH|clear pI|clear pJ|clear nX|clear nZ|clear nP|clear pK|clear nQ|clear pL|clear pM|clear pN|clear pO|clear pP|clear pQ|clear pR|clear nR|clear pS|clear pT|clear pV|clear pW|clear pX|clear pZ|clear qA|clear qC|clear qD|clear qE|clear qF|clear qG|clear qH|clear qI|clear qJ|clear qM|clear qN|clear qO|clear qP|clear qQ|clear qS|clear qT|clear qV|clear qW|clear fX|clear fY|clear fO|clear gA|clear gB|clear gG|clear gH|clear gJ|clear gK|clear gM|clear gN|clear bD|clear bG|clear bA|clear bH|clear bI|clear bJ|clear bK|clear bL|clear bM|clear bN|clear bO|clear lZ|clear mA|clear jF|clear mB|clear mC|clear mD|clear mE|clear mF|clear mG|clear mH|clear mI|clear lO|clear lP|clear jE|clear lQ|clear lR|clear lS|clear lT|clear lU|clear lV|clear lW|clear lX|clear mL|clear mM|clear jG|clear mN|clear mO|clear mP|clear mQ|clear mR|clear mS|clear mT|clear mU|clear lA|clear lB|clear jD|clear lC|clear lD|clear lE|clear lF|clear lG|clear lH|clear lI|clear lJ|clear dQ|clear cR|clear gO|clear dR|clear cS|clear gP
  obtain ⟨kq, cK, eG, cE, HA, HJ2, aK, aI, aD, aN, HK, HB⟩ := hcut
  cases kq with
  | zero => exact absurd HA.out (by simp [spec_l8In.j1])
  | succ uC =>
   have H := HA.out
   clear HA
   simp only [spec_l8In.j1] at H
   obtain ⟨⟨hO, hU⟩, mW, H⟩ := hB H
   try dsimp only at H
   have uD := aM mW
   clear mW
   simp only [Option.some.injEq, Prod.mk.injEq] at H
   obtain ⟨rfl, rfl⟩ := H
   have vK := bQ.out
   have vL := bR.out
   have vM := bZ.out
   have vN := cA.out
   have vO := cA2 aI.out
   obtain ⟨oP, oQ, oR⟩ := Kd.R_slice aK.out
   subst oR
   go_wp2_with (first | ((with_reducible refine gC (f := 13) rfl ?_); refine gL (some 73) Try.func13 #[.agg #[aZ, .slice oP cK.length oQ]] ?_; (with_reducible refine (spec_Decide.calls uC aZ _ _ cK hO hU _ ?side1 ?side2 uD.out).mono ?_); (case side1 => repeat (first | exact (Kd.R_reads' aK.out).2.2 | (with_reducible refine Kd.C_alloc ?_ _) | (with_reducible refine Kd.C_drewN ?_ _) | (with_reducible refine Kd.C_drew ?_))); (case side2 => exact (Kd.R_reads' aK.out).2.1); rintro e yQ ⟨xD, rfl, ho0, hb⟩; refine ⟨_, rfl, ?_⟩; have jA := aM (Kd.R_lower (Kd.R_new' (Kd.R_newM (M := fun k_ => (P0_1_ k_ ∨ w.heap.size ≤ k_)) ho0 (kk HK.out).1 (fun k_ h_ => .inr h_)) (Kd.R_lt (kr aK.out))) (below_size (bl HB.out))); replace aK := aM (Kd.R_elder' (kr aK.out) (Kd.R_base ho0) hb); replace aI := rB aI hb; replace aD := rB aD hb; replace aN := rB aN hb; replace HK := aM (Kept.below (S := (fun k_ => P0_1_ k_)) (kk HK.out) hb); replace HB := rS HB hb; (repeat first|clear hb|clear ho0); have vP := cH.out; have vQ := cG.out; have vR := cA2 aN.out; obtain ⟨mX, mY, oS⟩ := Kd.R_slice jA.out; subst oS))
   refine bodyPost_ret (results_cell_row rfl _ _ cV 28 #[hO, .slice mX hU.length mY] (0, 0) _ rfl (bm aN.out) Try.underlying28 rfl (by kernel_rfl)) rfl ?_
   exact ⟨_, xW, by (with_reducible repeat (first | apply Kd.R_alloc | apply Kd.R_drewN | apply Kd.R_drew)); exact Kd.R_mono (kF (p := ⟨cV, 1, none⟩) (kF (p := ⟨cV, 0, none⟩) (Kd.R_types jA.out aN.out (by decide)) (fun _ hk => hk.2) (.int .i64 hO)) (fun _ hk => hk.2) (.slice mX hU.length mY)) (fun _ hk => hk.1.1.1), bl HB.out, kk HK.out⟩

end Go.Proofs.Ythmijfekdeagpaa.PFnRootPorts

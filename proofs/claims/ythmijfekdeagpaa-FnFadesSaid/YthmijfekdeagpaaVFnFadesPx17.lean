/- A part of the proof of laws.FnFades. No condition beyond what its theorems say. -/
import Derived.Test.YthmijfekdeagpaaVFnFadesPx13
import Derived.Test.YthmijfekdeagpaaVFnFadesPx14
import Derived.Test.YthmijfekdeagpaaVFnFadesPx16
namespace Go.Proofs.Ythmijfekdeagpaa.PFnFades
open Go.RowKit Go.Proofs.YthmijfekdeagpaaW.PrintWords Go.Proofs.YthmijfekdeagpaaW.PrintLast Go.Proofs.YthmijfekdeagpaaW.PrintMore
set_option linter.unusedVariables false
set_option linter.unusedSimpArgs false

mutual
def spec_l8In.j1 : Nat → Int → List (S79) → Option (Int × (List (S79)))
 | 0, _, _ => none
 | k + 1, aC, aD => (spec_Decide.f k aC aD).bind fun aA => (some (aA.1, aA.2))
def spec_l8In.l0 : Nat → Int → Int → List (S79) → Option (Int × (List (S79)))
 | 0, _, _, _ => none
 | k + 1, x5, aD, aA => if x5 < (aA.length : Int) then (if 0 ≤ x5 then ((spec_l8Tick.f k ((rd_T79 aA x5).f0) ((rd_T79 aA x5).f1) ((rd_T79 aA x5).f2.f0) ((rd_T79 aA x5).f2.f1) ((rd_T79 aA x5).f2.f2) ((rd_T79 aA x5).f2.f3) ((rd_T79 aA x5).f3) ((rd_T79 aA x5).f4) ((rd_T79 aA x5).f5) ((rd_T79 aA x5).f6) ((rd_T79 aA x5).f7)).bind fun aC => (spec_l8In.l0 k (wrap64 (x5 + 1)) aD (aA.set (x5 : Int).toNat (⟨aC.1, aC.2.1, (⟨aC.2.2.1, aC.2.2.2.1, aC.2.2.2.2.1, aC.2.2.2.2.2.1⟩ : S73), aC.2.2.2.2.2.2.1, aC.2.2.2.2.2.2.2.1, aC.2.2.2.2.2.2.2.2.1, aC.2.2.2.2.2.2.2.2.2.1, aC.2.2.2.2.2.2.2.2.2.2⟩ : S79)))) else (none)) else (spec_l8In.j1 k aD aA)
end
def spec_l8In.f (k : Nat) (aE : Int) (aA : List (S79)) (aG aC aJ aK aN aQ aT : Int) (aH : Bool) : Option (Int × (List (S79))) := if aG = 1 then (if 0 ≤ aC then (if aC < (aA.length : Int) then ((spec_Claim.f k ((rd_T79 aA aC).f0) ((rd_T79 aA aC).f1) ((rd_T79 aA aC).f2.f0) ((rd_T79 aA aC).f2.f1) ((rd_T79 aA aC).f2.f2) ((rd_T79 aA aC).f2.f3) ((rd_T79 aA aC).f3) ((rd_T79 aA aC).f4) ((rd_T79 aA aC).f5) ((rd_T79 aA aC).f6) ((rd_T79 aA aC).f7) aJ aK aN aQ aT).bind fun aD => (spec_l8In.j1 k aE (aA.set (aC : Int).toNat (⟨aD.1, aD.2.1, (⟨aD.2.2.1, aD.2.2.2.1, aD.2.2.2.2.1, aD.2.2.2.2.2.1⟩ : S73), aD.2.2.2.2.2.2.1, aD.2.2.2.2.2.2.2.1, aD.2.2.2.2.2.2.2.2.1, aD.2.2.2.2.2.2.2.2.2.1, aD.2.2.2.2.2.2.2.2.2.2⟩ : S79)))) else (none)) else (none)) else (if aG = 2 then (spec_l8In.l0 k 0 aE aA) else (if aG = 3 then (if 0 ≤ aC then (if aC < (aA.length : Int) then (if (((rd_T79 aA aC).f0) == aH) = true then (some (aE, aA)) else ((some (aA.set (aC : Int).toNat (⟨false, false, (⟨0, 0, 0, 0⟩ : S73), 0, 0, 0, 0, false⟩ : S79) : List (S79))).bind fun aI => (if aH = true then (spec_l8In.j1 k aE (aI.set (aC : Int).toNat (⟨true, false, (⟨0, 0, 0, 0⟩ : S73), 0, 0, 3, 0, false⟩ : S79))) else (spec_l8In.j1 k aE aI)))) else (none)) else (none)) else (spec_l8In.j1 k aE aA)))
theorem spec_l8In.mono_l : ∀ k, (∀ y0 y1, LeO (spec_l8In.j1 k y0 y1) (spec_l8In.j1 (k + 1) y0 y1)) ∧ (∀ y0 y1 y2, LeO (spec_l8In.l0 k y0 y1 y2) (spec_l8In.l0 (k + 1) y0 y1 y2))
 | 0 => by refine ⟨?_, ?_⟩ <;> intros <;> intro r h <;> simp [spec_l8In.j1, spec_l8In.l0] at h
 | k + 1 => by
  obtain ⟨ih0, ih1⟩ := spec_l8In.mono_l k
  refine ⟨?_, ?_⟩
  ·intro y0 y1
   unfold spec_l8In.j1
   repeat' first|(with_reducible first|apply ih0|apply ih1|apply spec_Claim.mono|apply spec_Decide.mono|apply spec_l8Tick.mono|exact lR _|exact lN _|refine lI ?_ ?_|refine lB ?_ fun _ => ?_)|exact lN _|refine lI ?_ ?_|refine lB ?_ fun _ => ?_
  ·intro y0 y1 y2
   unfold spec_l8In.l0
   repeat' first|(with_reducible first|apply ih0|apply ih1|apply spec_Claim.mono|apply spec_Decide.mono|apply spec_l8Tick.mono|exact lR _|exact lN _|refine lI ?_ ?_|refine lB ?_ fun _ => ?_)|exact lN _|refine lI ?_ ?_|refine lB ?_ fun _ => ?_
theorem spec_l8In.mono : ∀ a0 a1 a2 a3 a4 a5 a6 a7 a8 a9 k, LeO (spec_l8In.f k a0 a1 a2 a3 a4 a5 a6 a7 a8 a9) (spec_l8In.f (k + 1) a0 a1 a2 a3 a4 a5 a6 a7 a8 a9) := by
 intro a0 a1 a2 a3 a4 a5 a6 a7 a8 a9 k
 obtain ⟨ih0, ih1⟩ := spec_l8In.mono_l k
 unfold spec_l8In.f
 repeat' first|(with_reducible first|apply ih0|apply ih1|apply spec_Claim.mono|apply spec_Decide.mono|apply spec_l8Tick.mono|exact lR _|exact lN _|refine lI ?_ ?_|refine lB ?_ fun _ => ?_)|exact lN _|refine lI ?_ ?_|refine lB ?_ fun _ => ?_
def spec_l8In.T3 : Bool × List (List Nat × List Nat) := (true, [([], []), ([0], [0]), ([], []), ([2], [2]), ([], []), ([4], [4]), ([], []), ([6], [6]), ([5, 7], [5, 7]), ([8], [8]), ([], []), ([10], [10]), ([], []), ([12], [12]), ([9, 11, 13], [9, 11, 13]), ([1, 3, 0, 1, 2, 3, 4, 5, 6, 7, 8, 9, 10, 11, 12, 13, 14], [1, 3]), ([15, 14, 14, 0, 1, 2, 3, 4, 5, 6, 7, 8, 9, 10, 11, 12, 13, 14], [14, 15])])
def spec_l8In.B3 : List Nat := [0, 1, 0, 4, 0, 16, 0, 64, 240, 496, 0, 1024, 0, 4096, 16368, 32767, 65535]
theorem spec_l8In.tab3 : rtab .any (opsOf Try.f133 3) = spec_l8In.T3 := by kernel_rfl
theorem spec_l8In.bits3 : waitsOk spec_l8In.T3.2 spec_l8In.B3 = true := by kernel_rfl
def spec_l8In.T8 : Bool × List (List Nat × List Nat) := (true, [([], []), ([0], [0]), ([], []), ([], []), ([3], [3]), ([], []), ([4, 5], [4, 5]), ([6], [6]), ([7], [7]), ([1, 2, 0, 1, 2, 3, 4, 5, 6, 7, 8], [1, 2]), ([9, 8, 8, 0, 1, 2, 3, 4, 5, 6, 7, 8], [8, 9])])
def spec_l8In.B8 : List Nat := [0, 1, 0, 0, 8, 0, 56, 120, 248, 511, 1023]
theorem spec_l8In.tab8 : rtab .any (opsOf Try.f133 8) = spec_l8In.T8 := by kernel_rfl
theorem spec_l8In.bits8 : waitsOk spec_l8In.T8.2 spec_l8In.B8 = true := by kernel_rfl
def spec_l8In.T10 : Bool × List (List Nat × List Nat) := (true, [([], []), ([0], [0]), ([], []), ([2], [2]), ([1, 3], [1, 3]), ([4], [4]), ([5], [5]), ([], []), ([7], [7]), ([6, 8], [6, 8])])
def spec_l8In.B10 : List Nat := [0, 1, 0, 4, 15, 31, 63, 0, 128, 511]
theorem spec_l8In.tab10 : rtab .any (opsOf Try.f133 10) = spec_l8In.T10 := by kernel_rfl
theorem spec_l8In.bits10 : waitsOk spec_l8In.T10.2 spec_l8In.B10 = true := by kernel_rfl
set_option maxHeartbeats 60000000 in
set_option maxRecDepth 100000 in
theorem spec_l8In.calls (k : Nat) (aV : Int) (P0_1_ : Nat → Prop) (eI : Value) (aE : List (S79)) (aT aA cL cN cO cP cQ : Int) (bN : Bool) (r1 : Int) (r2 : List (S79)) (w0 w : World) (hB : Below w0.heap.size w0 w) (ho0_1 : Kd.R k79 79 w w0.heap.size P0_1_ eI aE) (h : spec_l8In.f k aV aE aT aA cL cN cO cP cQ bN = some (r1, r2)) :
  Calls Try.prog 133 #[.agg #[aV, eI], .agg #[aT, aA, cL, cN, cO, cP, cQ, bN]] w fun e w' => ∃ lD : Value, e = .returned (.agg #[r1, lD]) ∧ Kd.R k79 79 w' w0.heap.size (fun k_ => (P0_1_ k_ ∨ w.heap.size ≤ k_)) lD r2 ∧ Below w0.heap.size w0 w' ∧ Kept w w' (fun k_ => P0_1_ k_) := by
 have uG := Try.underlying28
 have uH := Try.underlying89
 have uI := Try.underlying79
 have uJ := Try.underlying73
 have aD := aM (show Kd.R k79 79 w w0.heap.size (fun k_ => (P0_1_ k_ ∨ w.heap.size ≤ k_)) eI aE from Kd.R_mono ho0_1 (fun k_ hk => (.inl hk)))
 have HK := aM (Kept.refl w (fun k_ => P0_1_ k_))
 have HW0 := aM hB.size
 have HB := aM hB
 clear hB
 have H : (if aT = 1 then (if 0 ≤ aA then (if aA < (aE.length : Int) then ((spec_Claim.f k ((rd_T79 aE aA).f0) ((rd_T79 aE aA).f1) ((rd_T79 aE aA).f2.f0) ((rd_T79 aE aA).f2.f1) ((rd_T79 aE aA).f2.f2) ((rd_T79 aE aA).f2.f3) ((rd_T79 aE aA).f3) ((rd_T79 aE aA).f4) ((rd_T79 aE aA).f5) ((rd_T79 aE aA).f6) ((rd_T79 aE aA).f7) cL cN cO cP cQ).bind fun cA => (spec_l8In.j1 k aV (aE.set (aA : Int).toNat (⟨cA.1, cA.2.1, (⟨cA.2.2.1, cA.2.2.2.1, cA.2.2.2.2.1, cA.2.2.2.2.2.1⟩ : S73), cA.2.2.2.2.2.2.1, cA.2.2.2.2.2.2.2.1, cA.2.2.2.2.2.2.2.2.1, cA.2.2.2.2.2.2.2.2.2.1, cA.2.2.2.2.2.2.2.2.2.2⟩ : S79)))) else (none)) else (none)) else (if aT = 2 then (spec_l8In.l0 k 0 aV aE) else (if aT = 3 then (if 0 ≤ aA then (if aA < (aE.length : Int) then (if (((rd_T79 aE aA).f0) == bN) = true then (some (aV, aE)) else ((some (aE.set (aA : Int).toNat (⟨false, false, (⟨0, 0, 0, 0⟩ : S73), 0, 0, 0, 0, false⟩ : S79) : List (S79))).bind fun cU => (if bN = true then (spec_l8In.j1 k aV (cU.set (aA : Int).toNat (⟨true, false, (⟨0, 0, 0, 0⟩ : S73), 0, 0, 3, 0, false⟩ : S79))) else (spec_l8In.j1 k aV cU)))) else (none)) else (none)) else (spec_l8In.j1 k aV aE)))) = some (r1, r2) := h
 clear h
 have iN := aM H
 clear H
 obtain ⟨iO, cC, mJ⟩ := Kd.R_slice aD.out
 subst mJ
 go_enter Try.func133, Try.ntmps133
 go_upto_block 0 with (first | ((with_reducible refine gD (N := 2) rfl ?_); refine bR aD (N := 2) (cs := #[aV, .slice iO aE.length cC]) (t := 28) ?_; intro cV hg w5 hbox hb; have aG := aM (hbox); have gQ := gE hg (kk HK.out).1; have sB := gF hg HB; replace aD := rK aD hb; replace HK := aM (Kept.below (S := (fun k_ => P0_1_ k_)) (kk HK.out) hb); replace HB := rS HB hb; clear hb hbox hg) | ((with_reducible refine gD (N := 3) rfl ?_); refine bR aD (N := 3) (cs := #[aT, aA, cL, cN, cO, cP, cQ, bN]) (t := 89) ?_; intro cX hg w6 hbox hb; have aC := aM (hbox); have gR := gE hg (kk HK.out).1; have sC := gF hg HB; have bO := nM hg aG; have bP := nH hg aG; replace aD := rK aD hb; replace aG := rB aG hb; replace HK := aM (Kept.below (S := (fun k_ => P0_1_ k_)) (kk HK.out) hb); replace HB := rS HB hb; clear hb hbox hg) | ((with_reducible refine gD (N := 4) rfl ?_); refine bR aD (N := 4) (cs := #[.int .i64 0, .slice none 0 0]) (t := 28) ?_; intro cT hg w7 hbox hb; have aI := aM (hbox); have gS := gE hg (kk HK.out).1; have sD := gF hg HB; have bY := nM hg aG; have bZ := nH hg aG; have cG := nM hg aC; have cH := nH hg aC; replace aD := rK aD hb; replace aG := rB aG hb; replace aC := rB aC hb; replace HK := aM (Kept.below (S := (fun k_ => P0_1_ k_)) (kk HK.out) hb); replace HB := rS HB hb; clear hb hbox hg; have uK := bP.out; have uL := bO.out; have uM := cG.out; have uN := cH.out; have sE := cA8 aC.out))
 (try simp only [Act.put, sA, sZ, sS])
 go_cut [] (fun wc => ∃ (kq : Nat) (cK : List (S79)) (eE : Int) (cD : Value), Aside0 (spec_l8In.j1 kq aV cK = some (r1, r2)) ∧ Aside0 (kq ≤ k) ∧ Aside0 (Kd.R k79 79 wc w0.heap.size (fun k_ => (P0_1_ k_ ∨ w.heap.size ≤ k_)) cD cK) ∧ Aside0 (wc.heap[cV]? = some (.cells #[aV, cD] 28 (0, 0))) ∧ Aside0 (wc.heap[cX]? = some (.cells #[aT, aA, cL, cN, cO, cP, cQ, bN] 89 (0, 0))) ∧ Aside0 (wc.heap[cT]? = some (.cells #[eE, (.slice none 0 0)] 28 (0, 0))) ∧ Aside0 (Kept w wc (fun k_ => P0_1_ k_)) ∧ Aside0 (Below w0.heap.size w0 wc))
 case first =>
  have H := iN.out
  clear iN
  by_cases eF : aT = 1
  case pos =>
   rw [if_pos eF] at H
   have cY : (aT == 1) = true := beq_iff_eq.mpr eF
   have gT : (aT != 1) = false := bne_eq_false_iff_eq.mpr eF
   clear eF
   (first | rw [cY] | (simp only [i64_w, i32_w]; rw [cY]) | skip)
   obtain ⟨kR, H⟩ := gI H
   obtain ⟨kS, H⟩ := gI H
   obtain ⟨⟨eQ, eR, eS, eT, eU, eV, eW, eX, eY, eZ, fA⟩, iP, H⟩ := hB H
   try dsimp only at H
   have mK := aM iP
   clear iP
   obtain ⟨iQ, dC⟩ : ∃ y_ : List (S79), y_ = (aE.set (aA : Int).toNat (⟨eQ, eR, (⟨eS, eT, eU, eV⟩ : S73), eW, eX, eY, eZ, fA⟩ : S79)) := ⟨_, rfl⟩
   replace H : (spec_l8In.j1 k aV iQ) = some (r1, r2) := by first | (rw [dC]; with_reducible exact H) | (have H2_ := (Option.bind_some _ _).symm.trans H; rw [dC]; with_reducible exact H2_) | (have H2_ := (Option.bind_some _ _).symm.trans H; with_reducible exact H2_) | with_reducible exact H | (rw [dC]; exact H) | exact H
   have kT := aM dC
   clear dC
   have H' := aM H
   clear H
   try go_wp2
   replace aD := aM (Kd.R_drew aD.out)
   replace aG := aM (blk_drew aG.out)
   replace aC := aM (blk_drew aC.out)
   replace aI := aM (blk_drew aI.out)
   replace HK := aM (Kept.drew HK.out)
   replace HB := aM (below_drew1 HB.out)
   have fB : 0 ≤ (aA : Int) := dT
   have fC : aA < (aE.length : Int) := dT
   obtain ⟨gU, lE, dJ, dK, dL, dM, dN, dO, dP, dQ, dR, dS, dA⟩ := at_T79 (Kd.R_reads' aD.out).2.2 aA fB fC
   cases lE
   replace fB := eq_true fB
   replace fC := eq_true fC
   refine start_ (n := 17) (S := fun w' => cT2 w' cV (.int .i64 aV) (.slice (some gU) aE.length cC) (cT8 w' cX (.int .i64 aT) (.int .i64 aA) (.int .i64 cL) (.int .i64 cN) (.int .i64 cO) (.int .i64 cP) (.int .i64 cQ) (.bool bN) (cE79 w' gU (aA).toNat (rd_T79 aE aA)))) (ds := [16]) (dn 17 0) (by kernel_rfl) rfl rfl ⟨cI aG.out 0, cI aG.out 1, cI aC.out 0, cI aC.out 1, cI aC.out 2, cI aC.out 3, cI aC.out 4, cI aC.out 5, cI aC.out 6, cI aC.out 7, dJ, dK, dL, dM, dN, dO, dP, dQ, dR, dS, dA⟩ (fun hHeld => ?_); refine with_tabW spec_l8In.tab3 spec_l8In.bits3 (fun HT_ HW_ => ?_)
   generalize w7.drew = vG at aD aG aC aI HK HB dJ dK dA dL dM dN dO dP dQ dR dS hHeld ⊢
   refine nY (N := some 10) HT_ ?_
   refine pZ 2 12 (bv 17 5) HT_ ?_
   refine pZ 4 14 (bv 17 21) HT_ ?_
   refine pZ 6 16 (bv 17 85) HT_ ?_
   refine pZ 10 20 (bv 17 1109) HT_ ?_
   refine pZ 12 22 (bv 17 5205) HT_ ?_
   refine aZ 1 11 (bv 17 5207) HT_ HW_ hHeld ?_
   refine aZ 3 13 (bv 17 5215) HT_ HW_ hHeld ?_
   refine aZ 5 15 (bv 17 5247) HT_ HW_ hHeld ?_
   refine aZ 7 17 (bv 17 5375) HT_ HW_ hHeld ?_
   refine pZ 8 18 (bv 17 5631) HT_ ?_
   refine aZ 9 19 (bv 17 6143) HT_ HW_ hHeld ?_
   refine aZ 11 21 (bv 17 8191) HT_ HW_ hHeld ?_
   refine aZ 13 23 (bv 17 16383) HT_ HW_ hHeld ?_
   refine one_ (i := 14) (N := some 24) (bv 17 32767) rfl rfl (one_of HT_.out (by kernel_rfl)) (by decide) (fun K hK => ?_)
   refine goes_ Try.func175 (by kernel_rfl) rfl #[.agg #[((rd_T79 aE aA).f0), ((rd_T79 aE aA).f1), ((rd_T79 aE aA).f2.f0), ((rd_T79 aE aA).f2.f1), ((rd_T79 aE aA).f2.f2), ((rd_T79 aE aA).f2.f3), ((rd_T79 aE aA).f3), ((rd_T79 aE aA).f4), ((rd_T79 aE aA).f5), ((rd_T79 aE aA).f6), ((rd_T79 aE aA).f7)], .agg #[cL, cN, cO, cP], cQ] (by rfl) rfl rfl xR ?_
   with_reducible refine (spec_Claim.calls k ((rd_T79 aE aA).f0) ((rd_T79 aE aA).f1) ((rd_T79 aE aA).f2.f0) ((rd_T79 aE aA).f2.f1) ((rd_T79 aE aA).f2.f2) ((rd_T79 aE aA).f2.f3) ((rd_T79 aE aA).f3) ((rd_T79 aE aA).f4) ((rd_T79 aE aA).f5) ((rd_T79 aE aA).f6) ((rd_T79 aE aA).f7) cL cN cO cP cQ eQ eR eS eT eU eV eW eX eY eZ fA _ mK.out).mono ?_
   rintro e vH ⟨rfl, hb⟩
   have HS10_ := (hb.cell (World.block_lt_of_cell? _ _ (hHeld.2.2.2.2.2.2.2.2.2.2.1))).trans (hHeld.2.2.2.2.2.2.2.2.2.2.1)
   have HS11_ := (hb.cell (World.block_lt_of_cell? _ _ (hHeld.2.2.2.2.2.2.2.2.2.2.2.1))).trans (hHeld.2.2.2.2.2.2.2.2.2.2.2.1)
   have HS12_ := (hb.cell (World.block_lt_of_cell? _ _ (hHeld.2.2.2.2.2.2.2.2.2.2.2.2.1))).trans (hHeld.2.2.2.2.2.2.2.2.2.2.2.2.1)
   have HS13_ := (hb.cell (World.block_lt_of_cell? _ _ (hHeld.2.2.2.2.2.2.2.2.2.2.2.2.2.1))).trans (hHeld.2.2.2.2.2.2.2.2.2.2.2.2.2.1)
   have HS14_ := (hb.cell (World.block_lt_of_cell? _ _ (hHeld.2.2.2.2.2.2.2.2.2.2.2.2.2.2.1))).trans (hHeld.2.2.2.2.2.2.2.2.2.2.2.2.2.2.1)
   have HS15_ := (hb.cell (World.block_lt_of_cell? _ _ (hHeld.2.2.2.2.2.2.2.2.2.2.2.2.2.2.2.1))).trans (hHeld.2.2.2.2.2.2.2.2.2.2.2.2.2.2.2.1)
   have HS16_ := (hb.cell (World.block_lt_of_cell? _ _ (hHeld.2.2.2.2.2.2.2.2.2.2.2.2.2.2.2.2.1))).trans (hHeld.2.2.2.2.2.2.2.2.2.2.2.2.2.2.2.2.1)
   have HS17_ := (hb.cell (World.block_lt_of_cell? _ _ (hHeld.2.2.2.2.2.2.2.2.2.2.2.2.2.2.2.2.2.1))).trans (hHeld.2.2.2.2.2.2.2.2.2.2.2.2.2.2.2.2.2.1)
   have HS18_ := (hb.cell (World.block_lt_of_cell? _ _ (hHeld.2.2.2.2.2.2.2.2.2.2.2.2.2.2.2.2.2.2.1))).trans (hHeld.2.2.2.2.2.2.2.2.2.2.2.2.2.2.2.2.2.2.1)
   have HS19_ := (hb.cell (World.block_lt_of_cell? _ _ (hHeld.2.2.2.2.2.2.2.2.2.2.2.2.2.2.2.2.2.2.2.1))).trans (hHeld.2.2.2.2.2.2.2.2.2.2.2.2.2.2.2.2.2.2.2.1)
   have HS20_ := (hb.cell (World.block_lt_of_cell? _ _ (hHeld.2.2.2.2.2.2.2.2.2.2.2.2.2.2.2.2.2.2.2.2))).trans (hHeld.2.2.2.2.2.2.2.2.2.2.2.2.2.2.2.2.2.2.2.2)
   refine ⟨_, rfl, ?_⟩
   replace aD := rK aD hb
   replace aG := rB aG hb
   replace aC := rB aC hb
   replace aI := rB aI hb
   replace HK := aM (Kept.below (S := (fun k_ => P0_1_ k_)) (kk HK.out) hb)
   replace HB := rS HB hb
   (try clear hb)
   (try clear hb2)
   (try clear hk)
   (try clear hi)
   have fQ : 0 ≤ (aA : Int) := dT
   have fS : (aA : Int) < ((aE.length : Int) : Int) := dT
   obtain ⟨fW, uO, iR, iS, lF, uP, iT⟩ := Kd.R_form aD.out (by omega)
   (first | cases iR | (injection iR with ea_ en_ ec_; (first | subst ea_ | (injection ea_ with ea_; subst ea_)); subst ec_; clear en_))
   have uQ := aM iS
   have uR := aM iT
   clear iS lF iT
   have HMgo15 := aM (show (P0_1_ fW ∨ w.heap.size ≤ fW) from (aD.out.1 _ rfl))
   (first | simp only [add_plain] at dJ | skip)
   (first | simp only [add_plain] at dK | skip)
   (first | simp only [add_plain] at dL | skip)
   (first | simp only [add_plain] at dM | skip)
   (first | simp only [add_plain] at dN | skip)
   (first | simp only [add_plain] at dO | skip)
   (first | simp only [add_plain] at dP | skip)
   (first | simp only [add_plain] at dQ | skip)
   (first | simp only [add_plain] at dR | skip)
   (first | simp only [add_plain] at dS | skip)
   (first | simp only [add_plain] at dA | skip)
   obtain ⟨uS, kU, iU, gV, gW⟩ := Kd.R_elem aD.out z79 (aA : Int) fQ fS
   obtain rfl := k79_openM iU
   obtain ⟨mL, mM, mN, mO, mP, mQ, mR, mS, mT, mU, lX, mV, mW, mX, mY, mZ, nA, nB, nC, nD, nE, lY⟩ := eS79 (rd_T79 aE aA) gV gW
   clear kU gV gW iU
   replace fQ := eq_true fQ
   replace fS := eq_true fS
   obtain ⟨uT, gX, iV, gY, kV⟩ := Kd.R_elem aD.out z79 (aA : Int) (dT) dT
   obtain rfl := k79_openM iV
   have fX := (Kd.R_seg aD.out (aA : Int) (dT) dT (seg := [.bool eQ, .bool eR, .int .i64 eS, .int .i64 eT, .int .i64 eU, .int .i64 eV, .int .i64 eW, .int .i64 eX, .int .i64 eY, .int .i64 eZ, .bool fA]) (j := 0) gX gY (show 11 ≤ 11 from by decide) (x' := (⟨eQ, eR, (⟨eS, eT, eU, eV⟩ : S73), eW, eX, eY, eZ, fA⟩ : S79)) (k79_mkM _ _ _ _) (fun _ hk => hk)).1
   rw [← kT.out] at fX
   have HQ18 := aM fX
   clear gX gY kV iV fX
   refine hK.out _ _ ⟨cI aG.out 0, cI aG.out 1, cI aC.out 0, cI aC.out 1, cI aC.out 2, cI aC.out 3, cI aC.out 4, cI aC.out 5, cI aC.out 6, cI aC.out 7, HS10_, HS11_, HS12_, HS13_, HS14_, HS15_, HS16_, HS17_, HS18_, HS19_, HS20_⟩ (fun hHeld => ?_)
   clear hK K
   refine norm_ (a' := ?_) ?_ ?_
   rotate_left
   ·show Act.put _ (some 24) _ = _
    simp only [Act.put, sA, sZ, sS, i64_w, i32_w]
    rfl
   refine pZ 15 25 (bv 17 65535) HT_ ?_
   refine last_ (i := 16) (N := none) (bv 17 131071) rfl rfl (one_of HT_.out (by kernel_rfl)) (by decide) (fun K hK => ?_)
   refine skip_ (w1 := ?_) (by rfl) rfl ?_ ?_
   rotate_left
   ·go_simp
    rfl
   refine hK.out _ _ ?_
   clear hK K
   refine done_ (done_of HT_.out (by kernel_rfl)) ?_
   try go_wp2
   go_meet
   case rel => exact ⟨_, (iQ), (0), (.slice (some ⟨fW, 0, none⟩) aE.length cC), H', ⟨by first | omega | exact Nat.le_refl _⟩, ⟨kr HQ18.out⟩, ⟨fR aD.out aG.out⟩, ⟨fR aD.out aC.out⟩, ⟨fR aD.out aI.out⟩, ⟨by repeat (first | (with_reducible first | exact HK.out | apply Kept.alloc | apply Kept.drewN | apply Kept.drew | refine Kept.setCell ?_ HMgo15.out _ | refine Kept.setCell ?_ HMgo15.out _ | refine Kept.setCell ?_ HMgo15.out _ | refine Kept.setCell ?_ HMgo15.out _ | refine Kept.setCell ?_ HMgo15.out _ | refine Kept.setCell ?_ HMgo15.out _ | refine Kept.setCell ?_ HMgo15.out _ | refine Kept.setCell ?_ HMgo15.out _ | refine Kept.setCell ?_ HMgo15.out _ | refine Kept.setCell ?_ HMgo15.out _ | refine Kept.setCell ?_ HMgo15.out _ | refine Kept.setCell ?_ (.inr gQ.out) _ | refine Kept.setCell ?_ (.inr gR.out) _ | refine Kept.setCell ?_ (.inr gS.out) _) | exact HK.out)⟩, ⟨bl HB.out⟩⟩
  rw [if_neg eF] at H
  have cY : (aT == 1) = false := beq_eq_false_iff_ne.mpr eF
  have gT : (aT != 1) = true := bne_iff_ne.mpr eF
  (first | rw [cY] | (simp only [i64_w, i32_w]; rw [cY]) | skip)
  by_cases eG : aT = 2
  case pos =>
   rw [if_pos eG] at H
   have gZ : (aT == 2) = true := beq_iff_eq.mpr eG
   have hD : (aT != 2) = false := bne_eq_false_iff_eq.mpr eG
   clear eG
   have H' := aM H
   clear H
   go_wp2
   go_loopg [5] k (fun kq v5 w' => ∃ (aN : Int) (aH : List (S79)) (cD : Value), v5 = .int .i64 aN ∧ Aside0 (spec_l8In.l0 kq aN aV aH = some (r1, r2)) ∧ Aside0 (kq ≤ k) ∧ Aside0 (Kd.R k79 79 w' w0.heap.size (fun k_ => (P0_1_ k_ ∨ w.heap.size ≤ k_)) cD aH) ∧ Aside0 (w'.heap[cV]? = some (.cells #[aV, cD] 28 (0, 0))) ∧ Aside0 (w'.heap[cX]? = some (.cells #[aT, aA, cL, cN, cO, cP, cQ, bN] 89 (0, 0))) ∧ Aside0 (w'.heap[cT]? = some (.cells #[.int .i64 0, (.slice none 0 0)] 28 (0, 0))) ∧ Aside0 (Kept w w' (fun k_ => P0_1_ k_)) ∧ Aside0 (Below w0.heap.size w0 w'))
   case atStart => exact ⟨(0), (aE), (.slice iO aE.length cC), xE, H', ⟨Nat.le_refl _⟩, ⟨kr aD.out⟩, ⟨bk aG.out⟩, ⟨bk aC.out⟩, ⟨bk aI.out⟩, ⟨kk HK.out⟩, ⟨bl HB.out⟩⟩
   case round =>
    clear H'
    repeat first|clear c1|clear p1|clear q1|clear p2|clear p3|clear q3|clear c8|clear c9|clear eF|clear cY|clear gT|clear vI|clear kR|clear vJ|clear kS|clear vK|clear fQ|clear fS|clear vL|clear vM|clear eG|clear gZ|clear hD|clear fQ|clear fB|clear fS|clear fC
    obtain ⟨aN, aH, cD, rfl, HA, iW, aJ, aG, aC, aI, HK, HB⟩ := hrel
    cases gk with
    | zero => exact absurd HA.out (by simp [spec_l8In.l0])
    | succ k1 =>
     have H := HA.out
     clear HA
     simp only [spec_l8In.l0] at H
     by_cases eO : aN < (aH.length : Int)
     case neg =>
      rw [if_neg eO] at H
      have kW := decide_eq_false eO
      clear eO
      have H' := aM H
      clear H
      have sF := bO.out
      have sG := bP.out
      have sH := bY.out
      have sI := bZ.out
      have sJ := cA2 aG.out
      obtain ⟨lG, lH, lJ⟩ := Kd.R_slice aJ.out
      subst lJ
      go_wp2
      go_meet
      case rel => exact ⟨_, (aH), (0), (.slice lG aH.length lH), H', ⟨by have := iW.out; first | omega | exact Nat.le_refl _⟩, ⟨kr aJ.out⟩, ⟨bk aG.out⟩, ⟨bk aC.out⟩, ⟨bk aI.out⟩, ⟨kk HK.out⟩, ⟨bl HB.out⟩⟩
     rw [if_pos eO] at H
     have kW := decide_eq_true eO
     clear eO
     obtain ⟨sK, H⟩ := gI H
     obtain ⟨⟨fD, fE, fF, fG, fH, fI, fK, fL, fM, fN, fO⟩, iX, H⟩ := hB H
     try dsimp only at H
     have nF := aM iX
     clear iX
     obtain ⟨iY, dD⟩ : ∃ y_ : List (S79), y_ = (aH.set (aN : Int).toNat (⟨fD, fE, (⟨fF, fG, fH, fI⟩ : S73), fK, fL, fM, fN, fO⟩ : S79)) := ⟨_, rfl⟩
     replace H : (spec_l8In.l0 k1 (wS aN) aV iY) = some (r1, r2) := by first | (rw [dD]; with_reducible exact H) | (have H2_ := (Option.bind_some _ _).symm.trans H; rw [dD]; with_reducible exact H2_) | (have H2_ := (Option.bind_some _ _).symm.trans H; with_reducible exact H2_) | with_reducible exact H | (rw [dD]; exact H) | exact H
     have kX := aM dD
     clear dD
     have H' := aM H
     clear H
     have sL := bO.out
     have sM := bP.out
     have sN := bY.out
     have sO := bZ.out
     have sP := cA2 aG.out
     obtain ⟨uU, iZ, lK⟩ := Kd.R_slice aJ.out
     subst lK
     try go_wp2
     replace aJ := aM (Kd.R_drew aJ.out)
     replace aG := aM (blk_drew aG.out)
     replace aC := aM (blk_drew aC.out)
     replace aI := aM (blk_drew aI.out)
     replace HK := aM (Kept.drew HK.out)
     replace HB := aM (below_drew1 HB.out)
     have fY : 0 ≤ (aN : Int) := dT
     have gA : aN < (aH.length : Int) := dT
     obtain ⟨hH, lL, dU, dV, dW, dX, dY, dZ, eA, eB, eC, eD, dB⟩ := at_T79 (Kd.R_reads' aJ.out).2.2 aN fY gA
     cases lL
     replace fY := eq_true fY
     replace gA := eq_true gA
     refine start_ (n := 11) (S := fun w' => cT2 w' cV (.int .i64 aV) (.slice (some hH) aH.length iZ) (cE79 w' hH (aN).toNat (rd_T79 aH aN))) (ds := [10]) (dn 11 0) (by kernel_rfl) rfl rfl ⟨cI aG.out 0, cI aG.out 1, dU, dV, dW, dX, dY, dZ, eA, eB, eC, eD, dB⟩ (fun hHeld => ?_); refine with_tabW spec_l8In.tab8 spec_l8In.bits8 (fun HT_ HW_ => ?_)
     generalize wr.drew = vN at aJ aG aC aI HK HB dU dV dB dW dX dY dZ eA eB eC eD hHeld ⊢
     refine nY (N := some 35) HT_ ?_
     refine pZ 2 37 (bv 11 5) HT_ ?_
     refine pZ 3 38 (bv 11 13) HT_ ?_
     refine pZ 5 40 (bv 11 45) HT_ ?_
     refine aZ 1 36 (bv 11 47) HT_ HW_ hHeld ?_
     refine aZ 4 39 (bv 11 63) HT_ HW_ hHeld ?_
     refine pZ 6 41 (bv 11 127) HT_ ?_
     refine aZ 7 42 (bv 11 255) HT_ HW_ hHeld ?_
     refine one_ (i := 8) (N := some 43) (bv 11 511) rfl rfl (one_of HT_.out (by kernel_rfl)) (by decide) (fun K hK => ?_)
     refine goes_ Try.func185 (by kernel_rfl) rfl #[.agg #[((rd_T79 aH aN).f0), ((rd_T79 aH aN).f1), ((rd_T79 aH aN).f2.f0), ((rd_T79 aH aN).f2.f1), ((rd_T79 aH aN).f2.f2), ((rd_T79 aH aN).f2.f3), ((rd_T79 aH aN).f3), ((rd_T79 aH aN).f4), ((rd_T79 aH aN).f5), ((rd_T79 aH aN).f6), ((rd_T79 aH aN).f7)]] (by rfl) rfl rfl xR ?_
     with_reducible refine (spec_l8Tick.calls k1 ((rd_T79 aH aN).f0) ((rd_T79 aH aN).f1) ((rd_T79 aH aN).f2.f0) ((rd_T79 aH aN).f2.f1) ((rd_T79 aH aN).f2.f2) ((rd_T79 aH aN).f2.f3) ((rd_T79 aH aN).f3) ((rd_T79 aH aN).f4) ((rd_T79 aH aN).f5) ((rd_T79 aH aN).f6) ((rd_T79 aH aN).f7) fD fE fF fG fH fI fK fL fM fN fO _ nF.out).mono ?_
     rintro e vO ⟨rfl, hb⟩
     have HS2_ := (hb.cell (World.block_lt_of_cell? _ _ (hHeld.2.2.1))).trans (hHeld.2.2.1)
     have HS3_ := (hb.cell (World.block_lt_of_cell? _ _ (hHeld.2.2.2.1))).trans (hHeld.2.2.2.1)
     have HS4_ := (hb.cell (World.block_lt_of_cell? _ _ (hHeld.2.2.2.2.1))).trans (hHeld.2.2.2.2.1)
     have HS5_ := (hb.cell (World.block_lt_of_cell? _ _ (hHeld.2.2.2.2.2.1))).trans (hHeld.2.2.2.2.2.1)
     have HS6_ := (hb.cell (World.block_lt_of_cell? _ _ (hHeld.2.2.2.2.2.2.1))).trans (hHeld.2.2.2.2.2.2.1)
     have HS7_ := (hb.cell (World.block_lt_of_cell? _ _ (hHeld.2.2.2.2.2.2.2.1))).trans (hHeld.2.2.2.2.2.2.2.1)
     have HS8_ := (hb.cell (World.block_lt_of_cell? _ _ (hHeld.2.2.2.2.2.2.2.2.1))).trans (hHeld.2.2.2.2.2.2.2.2.1)
     have HS9_ := (hb.cell (World.block_lt_of_cell? _ _ (hHeld.2.2.2.2.2.2.2.2.2.1))).trans (hHeld.2.2.2.2.2.2.2.2.2.1)
     have HS10_ := (hb.cell (World.block_lt_of_cell? _ _ (hHeld.2.2.2.2.2.2.2.2.2.2.1))).trans (hHeld.2.2.2.2.2.2.2.2.2.2.1)
     have HS11_ := (hb.cell (World.block_lt_of_cell? _ _ (hHeld.2.2.2.2.2.2.2.2.2.2.2.1))).trans (hHeld.2.2.2.2.2.2.2.2.2.2.2.1)
     have HS12_ := (hb.cell (World.block_lt_of_cell? _ _ (hHeld.2.2.2.2.2.2.2.2.2.2.2.2))).trans (hHeld.2.2.2.2.2.2.2.2.2.2.2.2)
     refine ⟨_, rfl, ?_⟩
     replace aJ := rK aJ hb
     replace aG := rB aG hb
     replace aC := rB aC hb
     replace aI := rB aI hb
     replace HK := aM (Kept.below (S := (fun k_ => P0_1_ k_)) (kk HK.out) hb)
     replace HB := rS HB hb
     (try clear hb)
     (try clear hb2)
     (try clear hk)
     (try clear hi)
     have jA : 0 ≤ (aN : Int) := dT
     have jB : (aN : Int) < ((aH.length : Int) : Int) := dT
     obtain ⟨gB, uV, jC, jD, lM, uW, jE⟩ := Kd.R_form aJ.out (by omega)
     (first | cases jC | (injection jC with ea_ en_ ec_; (first | subst ea_ | (injection ea_ with ea_; subst ea_)); subst ec_; clear en_))
     have uX := aM jD
     have uY := aM jE
     clear jD lM jE
     have HMgo23 := aM (show (P0_1_ gB ∨ w.heap.size ≤ gB) from (aJ.out.1 _ rfl))
     (first | simp only [add_plain] at dU | skip)
     (first | simp only [add_plain] at dV | skip)
     (first | simp only [add_plain] at dW | skip)
     (first | simp only [add_plain] at dX | skip)
     (first | simp only [add_plain] at dY | skip)
     (first | simp only [add_plain] at dZ | skip)
     (first | simp only [add_plain] at eA | skip)
     (first | simp only [add_plain] at eB | skip)
     (first | simp only [add_plain] at eC | skip)
     (first | simp only [add_plain] at eD | skip)
     (first | simp only [add_plain] at dB | skip)
     obtain ⟨uZ, kY, jF, hJ, hO⟩ := Kd.R_elem aJ.out z79 (aN : Int) jA jB
     obtain rfl := k79_openM jF
     obtain ⟨nI, nJ, nK, nN, nO, nP, nQ, nR, nS, nT, lZ, nV, nZ, oA, oB, oC, oD, oE, oF, oG, oH, mA⟩ := eS79 (rd_T79 aH aN) hJ hO
     clear kY hJ hO jF
     replace jA := eq_true jA
     replace jB := eq_true jB
     obtain ⟨vA, hU, jG, hX, kZ⟩ := Kd.R_elem aJ.out z79 (aN : Int) (dT) dT
     obtain rfl := k79_openM jG
     have gG := (Kd.R_seg aJ.out (aN : Int) (dT) dT (seg := [.bool fD, .bool fE, .int .i64 fF, .int .i64 fG, .int .i64 fH, .int .i64 fI, .int .i64 fK, .int .i64 fL, .int .i64 fM, .int .i64 fN, .bool fO]) (j := 0) hU hX (show 11 ≤ 11 from by decide) (x' := (⟨fD, fE, (⟨fF, fG, fH, fI⟩ : S73), fK, fL, fM, fN, fO⟩ : S79)) (k79_mkM _ _ _ _) (fun _ hk => hk)).1
     rw [← kX.out] at gG
     have HQ30 := aM gG
     clear hU hX kZ jG gG
     refine hK.out _ _ ⟨cI aG.out 0, cI aG.out 1, HS2_, HS3_, HS4_, HS5_, HS6_, HS7_, HS8_, HS9_, HS10_, HS11_, HS12_⟩ (fun hHeld => ?_)
     clear hK K
     refine norm_ (a' := ?_) ?_ ?_
     rotate_left
     ·show Act.put _ (some 43) _ = _
      simp only [Act.put, sA, sZ, sS, i64_w, i32_w]
      rfl
     refine pZ 9 44 (bv 11 1023) HT_ ?_
     refine last_ (i := 10) (N := none) (bv 11 2047) rfl rfl (one_of HT_.out (by kernel_rfl)) (by decide) (fun K hK => ?_)
     refine skip_ (w1 := ?_) (by rfl) rfl ?_ ?_
     rotate_left
     ·go_simp
      rfl
     refine hK.out _ _ ?_
     clear hK K
     refine done_ (done_of HT_.out (by kernel_rfl)) ?_
     try go_wp2
     go_roundg k1
     case measure => have := iW.out; omega
     case rel => exact ⟨(wS aN), (iY), (.slice (some ⟨gB, 0, none⟩) aH.length iZ), xE, H', ⟨by have := iW.out; omega⟩, ⟨kr HQ30.out⟩, ⟨fR aJ.out aG.out⟩, ⟨fR aJ.out aC.out⟩, ⟨fR aJ.out aI.out⟩, ⟨by repeat (first | (with_reducible first | exact HK.out | apply Kept.alloc | apply Kept.drewN | apply Kept.drew | refine Kept.setCell ?_ HMgo23.out _ | refine Kept.setCell ?_ HMgo23.out _ | refine Kept.setCell ?_ HMgo23.out _ | refine Kept.setCell ?_ HMgo23.out _ | refine Kept.setCell ?_ HMgo23.out _ | refine Kept.setCell ?_ HMgo23.out _ | refine Kept.setCell ?_ HMgo23.out _ | refine Kept.setCell ?_ HMgo23.out _ | refine Kept.setCell ?_ HMgo23.out _ | refine Kept.setCell ?_ HMgo23.out _ | refine Kept.setCell ?_ HMgo23.out _ | refine Kept.setCell ?_ (.inr gQ.out) _ | refine Kept.setCell ?_ (.inr gR.out) _ | refine Kept.setCell ?_ (.inr gS.out) _) | exact HK.out)⟩, ⟨bl HB.out⟩⟩
  rw [if_neg eG] at H
  have gZ : (aT == 2) = false := beq_eq_false_iff_ne.mpr eG
  have hD : (aT != 2) = true := bne_iff_ne.mpr eG
  by_cases eH : aT = 3
  case neg =>
   rw [if_neg eH] at H
   have hY : (aT == 3) = false := beq_eq_false_iff_ne.mpr eH
   have hZ : (aT != 3) = true := bne_iff_ne.mpr eH
   have H' := aM H
   clear H
   go_wp2
   go_meet
   case rel => exact ⟨_, (aE), (0), (.slice iO aE.length cC), H', ⟨by first | omega | exact Nat.le_refl _⟩, ⟨kr aD.out⟩, ⟨bk aG.out⟩, ⟨bk aC.out⟩, ⟨bk aI.out⟩, ⟨kk HK.out⟩, ⟨bl HB.out⟩⟩
  rw [if_pos eH] at H
  have hY : (aT == 3) = true := beq_iff_eq.mpr eH
  have hZ : (aT != 3) = false := bne_eq_false_iff_eq.mpr eH
  clear eH
  obtain ⟨sQ, H⟩ := gI H
  obtain ⟨sR, H⟩ := gI H
  by_cases cW : (((rd_T79 aE aA).f0) == bN) = true
  case pos =>
   rw [if_pos cW] at H
   have iA : (((rd_T79 aE aA).f0) == bN) = true := cW
   (try (have iB : decide (((rd_T79 aE aA).f0) = bN) = true := by simpa using cW))
   (try (have iC : (((rd_T79 aE aA).f0) == bN) = true := by simpa using cW))
   clear cW
   simp only [Option.some.injEq, Prod.mk.injEq] at H
   obtain ⟨rfl, rfl⟩ := H
   try go_wp2
   replace aD := aM (Kd.R_drew aD.out)
   replace aG := aM (blk_drew aG.out)
   replace aC := aM (blk_drew aC.out)
   replace aI := aM (blk_drew aI.out)
   replace HK := aM (Kept.drew HK.out)
   replace HB := aM (below_drew1 HB.out)
   have cR : 0 ≤ (aA : Int) := dT
   have cS : aA < (aE.length : Int) := dT
   obtain ⟨cE, eJ, aX, bA, bD, bG, bH, bI, bJ, bK, bL, bM, aW⟩ := at_T79 (Kd.R_reads' aD.out).2.2 aA cR cS
   cases eJ
   replace cR := eq_true cR
   replace cS := eq_true cS
   refine start_ (n := 10) (S := fun w' => cT2 w' cV (.int .i64 aV) (.slice (some cE) aE.length cC) (cT8 w' cX (.int .i64 aT) (.int .i64 aA) (.int .i64 cL) (.int .i64 cN) (.int .i64 cO) (.int .i64 cP) (.int .i64 cQ) (.bool bN) (cE79 w' cE (aA).toNat (rd_T79 aE aA)))) (ds := []) (dn 10 0) (by kernel_rfl) rfl rfl ⟨cI aG.out 0, cI aG.out 1, cI aC.out 0, cI aC.out 1, cI aC.out 2, cI aC.out 3, cI aC.out 4, cI aC.out 5, cI aC.out 6, cI aC.out 7, aX, bA, bD, bG, bH, bI, bJ, bK, bL, bM, aW⟩ (fun hHeld => ?_); refine with_tabW spec_l8In.tab10 spec_l8In.bits10 (fun HT_ HW_ => ?_)
   generalize w7.drew = vP at aD aG aC aI HK HB aX bA aW bD bG bH bI bJ bK bL bM hHeld ⊢
   refine nY (N := some 47) HT_ ?_
   refine pZ 2 49 (bv 10 5) HT_ ?_
   refine pZ 7 54 (bv 10 133) HT_ ?_
   refine aZ 1 48 (bv 10 135) HT_ HW_ hHeld ?_
   refine aZ 3 50 (bv 10 143) HT_ HW_ hHeld ?_
   refine pZ 4 51 (bv 10 159) HT_ ?_
   refine pZ 5 52 (bv 10 191) HT_ ?_
   refine aZ 6 53 (bv 10 255) HT_ HW_ hHeld ?_
   refine aZ 8 55 (bv 10 511) HT_ HW_ hHeld ?_
   refine pZ 9 56 (bv 10 1023) HT_ ?_
   refine done_ (done_of HT_.out (by kernel_rfl)) ?_
   have sT := bO.out
   have sU := bP.out
   have sV := bY.out
   have sW := bZ.out
   have sX := cA2 aG.out
   have sY := cH.out
   have tA := cG.out
   have tB := cA2 aI.out
   try go_wp2
   refine bodyPost_ret (results_cell_row rfl _ _ cT 28 #[aV, .slice (some cE) aE.length cC] (0, 0) _ rfl (bm aI.out) Try.underlying28 rfl (by kernel_rfl)) rfl ?_
   exact ⟨_, xW, by (with_reducible repeat (first | apply Kd.R_alloc | apply Kd.R_drewN | apply Kd.R_drew)); exact Kd.R_mono (kF (p := ⟨cT, 1, none⟩) (kF (p := ⟨cT, 0, none⟩) (Kd.R_types aD.out aI.out (by decide)) (fun _ hk => hk.2) (.int .i64 aV)) (fun _ hk => hk.2) (.slice (some cE) aE.length cC)) (fun _ hk => hk.1), bl HB.out, kk HK.out⟩
  rw [if_neg cW] at H
  have iA : (((rd_T79 aE aA).f0) == bN) = false := by simpa using cW
  (try (have iB : decide (((rd_T79 aE aA).f0) = bN) = false := by simpa using cW))
  (try (have iC : (((rd_T79 aE aA).f0) == bN) = false := by simpa using cW))
  (try (have tC : ¬ (((rd_T79 aE aA).f0) = bN) := by simpa using cW))
  clear cW
  obtain ⟨cU, iD, H⟩ := hS H
  have iE := aM iD
  clear iD
  by_cases fT : bN = true
  case neg =>
   replace fT := Bool.eq_false_iff.mpr fT
   subst fT
   replace H := hF H
   have H' := aM H
   clear H
   try go_wp2
   replace aD := aM (Kd.R_drew aD.out)
   replace aG := aM (blk_drew aG.out)
   replace aC := aM (blk_drew aC.out)
   replace aI := aM (blk_drew aI.out)
   replace HK := aM (Kept.drew HK.out)
   replace HB := aM (below_drew1 HB.out)
   have cR : 0 ≤ (aA : Int) := dT
   have cS : aA < (aE.length : Int) := dT
   obtain ⟨cE, eJ, aX, bA, bD, bG, bH, bI, bJ, bK, bL, bM, aW⟩ := at_T79 (Kd.R_reads' aD.out).2.2 aA cR cS
   cases eJ
   replace cR := eq_true cR
   replace cS := eq_true cS
   refine start_ (n := 10) (S := fun w' => cT2 w' cV (.int .i64 aV) (.slice (some cE) aE.length cC) (cT8 w' cX (.int .i64 aT) (.int .i64 aA) (.int .i64 cL) (.int .i64 cN) (.int .i64 cO) (.int .i64 cP) (.int .i64 cQ) (.bool false) (cE79 w' cE (aA).toNat (rd_T79 aE aA)))) (ds := []) (dn 10 0) (by kernel_rfl) rfl rfl ⟨cI aG.out 0, cI aG.out 1, cI aC.out 0, cI aC.out 1, cI aC.out 2, cI aC.out 3, cI aC.out 4, cI aC.out 5, cI aC.out 6, cI aC.out 7, aX, bA, bD, bG, bH, bI, bJ, bK, bL, bM, aW⟩ (fun hHeld => ?_); refine with_tabW spec_l8In.tab10 spec_l8In.bits10 (fun HT_ HW_ => ?_)
   generalize w7.drew = jH at aD aG aC aI HK HB aX bA aW bD bG bH bI bJ bK bL bM hHeld ⊢
   refine nY (N := some 47) HT_ ?_
   refine pZ 2 49 (bv 10 5) HT_ ?_
   refine pZ 7 54 (bv 10 133) HT_ ?_
   refine aZ 1 48 (bv 10 135) HT_ HW_ hHeld ?_
   refine aZ 3 50 (bv 10 143) HT_ HW_ hHeld ?_
   refine pZ 4 51 (bv 10 159) HT_ ?_
   refine pZ 5 52 (bv 10 191) HT_ ?_
   refine aZ 6 53 (bv 10 255) HT_ HW_ hHeld ?_
   refine aZ 8 55 (bv 10 511) HT_ HW_ hHeld ?_
   refine pZ 9 56 (bv 10 1023) HT_ ?_
   refine done_ (done_of HT_.out (by kernel_rfl)) ?_
   have tD := bO.out
   have tE := bP.out
   have tF := bY.out
   have tG := bZ.out
   have tH := cA2 aG.out
   have tI := cG.out
   have tJ := cH.out
   have tK := cA8 aC.out
   have dE : 0 ≤ (aA : Int) := dT
   have dF : (aA : Int) < ((aE.length : Int) : Int) := dT
   obtain ⟨aK, lO, eK, eL, gH, lP, eM⟩ := Kd.R_form aD.out (by omega)
   (first | cases eK | (injection eK with ea_ en_ ec_; (first | subst ea_ | (injection ea_ with ea_; subst ea_)); subst ec_; clear en_))
   have aQ := aM eL
   have lQ := aM eM
   clear eL gH eM
   have HMgo45 := aM (show (P0_1_ aK ∨ w.heap.size ≤ aK) from (aD.out.1 _ rfl))
   (first | simp only [add_plain] at aX | skip)
   (first | simp only [add_plain] at bA | skip)
   (first | simp only [add_plain] at bD | skip)
   (first | simp only [add_plain] at bG | skip)
   (first | simp only [add_plain] at bH | skip)
   (first | simp only [add_plain] at bI | skip)
   (first | simp only [add_plain] at bJ | skip)
   (first | simp only [add_plain] at bK | skip)
   (first | simp only [add_plain] at bL | skip)
   (first | simp only [add_plain] at bM | skip)
   (first | simp only [add_plain] at aW | skip)
   obtain ⟨lS, fP, eN, dG, dH⟩ := Kd.R_elem aD.out z79 (aA : Int) dE dF
   obtain rfl := k79_openM eN
   obtain ⟨jI, jJ, jK, jL, jM, jN, jO, jP, jQ, jR, iL, jS, jT, jU, jV, jW, jX, jY, jZ, kA, kC, iM⟩ := eS79 (rd_T79 aE aA) dG dH
   clear fP dG dH eN
   replace dE := eq_true dE
   replace dF := eq_true dF
   have kD := aM (show Kd.R k79 79 jH w0.heap.size (fun k_ => (P0_1_ k_ ∨ w.heap.size ≤ k_)) (.slice (some ⟨aK, 0, none⟩) aE.length cC) aE from (kr aD.out))
   obtain ⟨vB, iF, kE, bQ, bV⟩ := Kd.R_elem kD.out z79 (aA : Int) (dT) dT
   obtain rfl := k79_openM kE
   have gJ := Kd.R_seg kD.out (aA : Int) (dT) dT (seg := [.bool false, .bool false, .int .i64 0, .int .i64 0, .int .i64 0, .int .i64 0, .int .i64 0, .int .i64 0, .int .i64 0, .int .i64 0, .bool false]) (j := 0) iF bQ (show 11 ≤ 11 from by decide) (x' := (⟨false, false, (⟨0, 0, 0, 0⟩ : S73), 0, 0, 0, 0, false⟩ : S79)) (k79_mkM _ _ _ _) (fun _ hk => hk)
   have oI := cZ 11 (bQ 0 _ rfl)
   have oJ := fZ 11 (bV 0)
   have oK := cJ 11 (bQ 1 _ rfl)
   have oL := fJ 11 (bV 1)
   have oM := cJ 11 (bQ 2 _ rfl)
   have oO := fJ 11 (bV 2)
   have oP := cJ 11 (bQ 3 _ rfl)
   have oQ := fJ 11 (bV 3)
   have oR := cJ 11 (bQ 4 _ rfl)
   have oS := fJ 11 (bV 4)
   have oT := cJ 11 (bQ 5 _ rfl)
   have oU := fJ 11 (bV 5)
   have oV := cJ 11 (bQ 6 _ rfl)
   have oW := fJ 11 (bV 6)
   have oX := cJ 11 (bQ 7 _ rfl)
   have oY := fJ 11 (bV 7)
   have oZ := cJ 11 (bQ 8 _ rfl)
   have pA := fJ 11 (bV 8)
   have pB := cJ 11 (bQ 9 _ rfl)
   have pC := fJ 11 (bV 9)
   have mB := cJ 11 (bQ 10 _ rfl)
   have mC := fJ 11 (bV 10)
   clear iF bQ bV kE
   try go_wp2_with (first | ((with_reducible refine gate_store (t := 79) (p := 63) rfl ?_); refine store_event (t := 79) (p := 63) (v := ?vo_w67) (w1 := (((((((((((jH.setCell ⟨aK, (aA : Int).toNat * 11, none⟩ (.bool false)).setCell ⟨aK, (aA : Int).toNat * 11 + 1, none⟩ (.bool false)).setCell ⟨aK, (aA : Int).toNat * 11 + 2, none⟩ (.int .i64 0)).setCell ⟨aK, (aA : Int).toNat * 11 + 3, none⟩ (.int .i64 0)).setCell ⟨aK, (aA : Int).toNat * 11 + 4, none⟩ (.int .i64 0)).setCell ⟨aK, (aA : Int).toNat * 11 + 5, none⟩ (.int .i64 0)).setCell ⟨aK, (aA : Int).toNat * 11 + 6, none⟩ (.int .i64 0)).setCell ⟨aK, (aA : Int).toNat * 11 + 7, none⟩ (.int .i64 0)).setCell ⟨aK, (aA : Int).toNat * 11 + 8, none⟩ (.int .i64 0)).setCell ⟨aK, (aA : Int).toNat * 11 + 9, none⟩ (.int .i64 0)).setCell ⟨aK, (aA : Int).toNat * 11 + 10, none⟩ (.bool false))) ?hg ?ho ?hn ?hr ?_; (case ho => rfl); (case hg => rfl); (case hn => rfl); (case hr => first | (go_simp; done) | (go_simp; rfl) | (obtain ⟨A_, c_, e_⟩ := Kd.R_slice aD.out; subst e_; (first | (go_simp; done) | (go_simp; rfl))) | (obtain ⟨A_, c_, e_⟩ := Kd.S_slice aD.out; subst e_; (first | (go_simp; done) | (go_simp; rfl)))); intro kG hw; have hg : jH.grownBy kG (some aK) := (by rw [hw]; exact gJ.2); have hp_ : Kd.R k79 79 kG w0.heap.size (fun k_ => (P0_1_ k_ ∨ w.heap.size ≤ k_)) (.slice (some ⟨aK, 0, none⟩) aE.length cC) cU := (by rw [hw, iE.out]; exact gJ.1); clear gJ; replace aG := aM (blk_grown (bk aG.out) hg (Kd.R_ne aD.out aG.out (by decide))); replace aC := aM (blk_grown (bk aC.out) hg (Kd.R_ne aD.out aC.out (by decide))); replace aI := aM (blk_grown (bk aI.out) hg (Kd.R_ne aD.out aI.out (by decide))); replace HB := aM ((by rw [hw]; exact below_set (below_set (below_set (below_set (below_set (below_set (below_set (below_set (below_set (below_set (below_set (HB.out) aQ.out) aQ.out) aQ.out) aQ.out) aQ.out) aQ.out) aQ.out) aQ.out) aQ.out) aQ.out) aQ.out : Below w0.heap.size w0 kG)); replace HK := aM (Kept.of_grown (S := (fun k_ => P0_1_ k_)) hg (kk HK.out) (fun k_ e_ => (aD.out.1 k_ e_))); replace aD := aM (hp_); clear hg hw hp_; have tL := cA8 aC.out))
   go_meet
   case rel => exact ⟨_, (cU), (0), (.slice (some ⟨aK, 0, none⟩) aE.length cC), H', ⟨by first | omega | exact Nat.le_refl _⟩, ⟨kr aD.out⟩, ⟨bk aG.out⟩, ⟨bk aC.out⟩, ⟨bk aI.out⟩, ⟨kk HK.out⟩, ⟨bl HB.out⟩⟩
  subst fT
  replace H := hP H rfl
  obtain ⟨gK, dI⟩ : ∃ y_ : List (S79), y_ = (cU.set (aA : Int).toNat (⟨true, false, (⟨0, 0, 0, 0⟩ : S73), 0, 0, 3, 0, false⟩ : S79)) := ⟨_, rfl⟩
  replace H : (spec_l8In.j1 k aV gK) = some (r1, r2) := by first | (rw [dI]; with_reducible exact H) | (have H2_ := (Option.bind_some _ _).symm.trans H; rw [dI]; with_reducible exact H2_) | (have H2_ := (Option.bind_some _ _).symm.trans H; with_reducible exact H2_) | with_reducible exact H | (rw [dI]; exact H) | exact H
  have lA := aM dI
  clear dI
  have H' := aM H
  clear H
  try go_wp2
  replace aD := aM (Kd.R_drew aD.out)
  replace aG := aM (blk_drew aG.out)
  replace aC := aM (blk_drew aC.out)
  replace aI := aM (blk_drew aI.out)
  replace HK := aM (Kept.drew HK.out)
  replace HB := aM (below_drew1 HB.out)
  have cR : 0 ≤ (aA : Int) := dT
  have cS : aA < (aE.length : Int) := dT
  obtain ⟨cE, eJ, aX, bA, bD, bG, bH, bI, bJ, bK, bL, bM, aW⟩ := at_T79 (Kd.R_reads' aD.out).2.2 aA cR cS
  cases eJ
  replace cR := eq_true cR
  replace cS := eq_true cS
  refine start_ (n := 10) (S := fun w' => cT2 w' cV (.int .i64 aV) (.slice (some cE) aE.length cC) (cT8 w' cX (.int .i64 aT) (.int .i64 aA) (.int .i64 cL) (.int .i64 cN) (.int .i64 cO) (.int .i64 cP) (.int .i64 cQ) (.bool true) (cE79 w' cE (aA).toNat (rd_T79 aE aA)))) (ds := []) (dn 10 0) (by kernel_rfl) rfl rfl ⟨cI aG.out 0, cI aG.out 1, cI aC.out 0, cI aC.out 1, cI aC.out 2, cI aC.out 3, cI aC.out 4, cI aC.out 5, cI aC.out 6, cI aC.out 7, aX, bA, bD, bG, bH, bI, bJ, bK, bL, bM, aW⟩ (fun hHeld => ?_); refine with_tabW spec_l8In.tab10 spec_l8In.bits10 (fun HT_ HW_ => ?_)
  generalize w7.drew = kH at aD aG aC aI HK HB aX bA aW bD bG bH bI bJ bK bL bM hHeld ⊢
  refine nY (N := some 47) HT_ ?_
  refine pZ 2 49 (bv 10 5) HT_ ?_
  refine pZ 7 54 (bv 10 133) HT_ ?_
  refine aZ 1 48 (bv 10 135) HT_ HW_ hHeld ?_
  refine aZ 3 50 (bv 10 143) HT_ HW_ hHeld ?_
  refine pZ 4 51 (bv 10 159) HT_ ?_
  refine pZ 5 52 (bv 10 191) HT_ ?_
  refine aZ 6 53 (bv 10 255) HT_ HW_ hHeld ?_
  refine aZ 8 55 (bv 10 511) HT_ HW_ hHeld ?_
  refine pZ 9 56 (bv 10 1023) HT_ ?_
  refine done_ (done_of HT_.out (by kernel_rfl)) ?_
  have tM := bO.out
  have tN := bP.out
  have tO := bY.out
  have tP := bZ.out
  have tQ := cA2 aG.out
  have tR := cG.out
  have tS := cH.out
  have tT := cA8 aC.out
  have dE : 0 ≤ (aA : Int) := dT
  have dF : (aA : Int) < ((aE.length : Int) : Int) := dT
  obtain ⟨aK, lO, eK, eL, gH, lP, eM⟩ := Kd.R_form aD.out (by omega)
  (first | cases eK | (injection eK with ea_ en_ ec_; (first | subst ea_ | (injection ea_ with ea_; subst ea_)); subst ec_; clear en_))
  have aQ := aM eL
  have lQ := aM eM
  clear eL gH eM
  have HMgo45 := aM (show (P0_1_ aK ∨ w.heap.size ≤ aK) from (aD.out.1 _ rfl))
  (first | simp only [add_plain] at aX | skip)
  (first | simp only [add_plain] at bA | skip)
  (first | simp only [add_plain] at bD | skip)
  (first | simp only [add_plain] at bG | skip)
  (first | simp only [add_plain] at bH | skip)
  (first | simp only [add_plain] at bI | skip)
  (first | simp only [add_plain] at bJ | skip)
  (first | simp only [add_plain] at bK | skip)
  (first | simp only [add_plain] at bL | skip)
  (first | simp only [add_plain] at bM | skip)
  (first | simp only [add_plain] at aW | skip)
  obtain ⟨lS, fP, eN, dG, dH⟩ := Kd.R_elem aD.out z79 (aA : Int) dE dF
  obtain rfl := k79_openM eN
  obtain ⟨jI, jJ, jK, jL, jM, jN, jO, jP, jQ, jR, iL, jS, jT, jU, jV, jW, jX, jY, jZ, kA, kC, iM⟩ := eS79 (rd_T79 aE aA) dG dH
  clear fP dG dH eN
  replace dE := eq_true dE
  replace dF := eq_true dF
  have kI := aM (show Kd.R k79 79 kH w0.heap.size (fun k_ => (P0_1_ k_ ∨ w.heap.size ≤ k_)) (.slice (some ⟨aK, 0, none⟩) aE.length cC) aE from (kr aD.out))
  obtain ⟨vC, iG, kJ, bT, bW⟩ := Kd.R_elem kI.out z79 (aA : Int) (dT) dT
  obtain rfl := k79_openM kJ
  have gM := Kd.R_seg kI.out (aA : Int) (dT) dT (seg := [.bool false, .bool false, .int .i64 0, .int .i64 0, .int .i64 0, .int .i64 0, .int .i64 0, .int .i64 0, .int .i64 0, .int .i64 0, .bool false]) (j := 0) iG bT (show 11 ≤ 11 from by decide) (x' := (⟨false, false, (⟨0, 0, 0, 0⟩ : S73), 0, 0, 0, 0, false⟩ : S79)) (k79_mkM _ _ _ _) (fun _ hk => hk)
  have pD := cZ 11 (bT 0 _ rfl)
  have pE := fZ 11 (bW 0)
  have pF := cJ 11 (bT 1 _ rfl)
  have pG := fJ 11 (bW 1)
  have pH := cJ 11 (bT 2 _ rfl)
  have pI := fJ 11 (bW 2)
  have pJ := cJ 11 (bT 3 _ rfl)
  have pK := fJ 11 (bW 3)
  have pL := cJ 11 (bT 4 _ rfl)
  have pM := fJ 11 (bW 4)
  have pN := cJ 11 (bT 5 _ rfl)
  have pO := fJ 11 (bW 5)
  have pP := cJ 11 (bT 6 _ rfl)
  have pQ := fJ 11 (bW 6)
  have pR := cJ 11 (bT 7 _ rfl)
  have pS := fJ 11 (bW 7)
  have pT := cJ 11 (bT 8 _ rfl)
  have pV := fJ 11 (bW 8)
  have pW := cJ 11 (bT 9 _ rfl)
  have pX := fJ 11 (bW 9)
  have mD := cJ 11 (bT 10 _ rfl)
  have mE := fJ 11 (bW 10)
  clear iG bT bW kJ
  try go_wp2_with (first | ((with_reducible refine gate_store (t := 79) (p := 63) rfl ?_); refine store_event (t := 79) (p := 63) (v := ?vo_w55) (w1 := (((((((((((kH.setCell ⟨aK, (aA : Int).toNat * 11, none⟩ (.bool false)).setCell ⟨aK, (aA : Int).toNat * 11 + 1, none⟩ (.bool false)).setCell ⟨aK, (aA : Int).toNat * 11 + 2, none⟩ (.int .i64 0)).setCell ⟨aK, (aA : Int).toNat * 11 + 3, none⟩ (.int .i64 0)).setCell ⟨aK, (aA : Int).toNat * 11 + 4, none⟩ (.int .i64 0)).setCell ⟨aK, (aA : Int).toNat * 11 + 5, none⟩ (.int .i64 0)).setCell ⟨aK, (aA : Int).toNat * 11 + 6, none⟩ (.int .i64 0)).setCell ⟨aK, (aA : Int).toNat * 11 + 7, none⟩ (.int .i64 0)).setCell ⟨aK, (aA : Int).toNat * 11 + 8, none⟩ (.int .i64 0)).setCell ⟨aK, (aA : Int).toNat * 11 + 9, none⟩ (.int .i64 0)).setCell ⟨aK, (aA : Int).toNat * 11 + 10, none⟩ (.bool false))) ?hg ?ho ?hn ?hr ?_; (case ho => rfl); (case hg => rfl); (case hn => rfl); (case hr => first | (go_simp; done) | (go_simp; rfl) | (obtain ⟨A_, c_, e_⟩ := Kd.R_slice aD.out; subst e_; (first | (go_simp; done) | (go_simp; rfl))) | (obtain ⟨A_, c_, e_⟩ := Kd.S_slice aD.out; subst e_; (first | (go_simp; done) | (go_simp; rfl)))); intro eP hw; have hg : kH.grownBy eP (some aK) := (by rw [hw]; exact gM.2); have hp_ : Kd.R k79 79 eP w0.heap.size (fun k_ => (P0_1_ k_ ∨ w.heap.size ≤ k_)) (.slice (some ⟨aK, 0, none⟩) aE.length cC) cU := (by rw [hw, iE.out]; exact gM.1); clear gM; replace aG := aM (blk_grown (bk aG.out) hg (Kd.R_ne aD.out aG.out (by decide))); replace aC := aM (blk_grown (bk aC.out) hg (Kd.R_ne aD.out aC.out (by decide))); replace aI := aM (blk_grown (bk aI.out) hg (Kd.R_ne aD.out aI.out (by decide))); replace HB := aM ((by rw [hw]; exact below_set (below_set (below_set (below_set (below_set (below_set (below_set (below_set (below_set (below_set (below_set (HB.out) aQ.out) aQ.out) aQ.out) aQ.out) aQ.out) aQ.out) aQ.out) aQ.out) aQ.out) aQ.out) aQ.out : Below w0.heap.size w0 eP)); replace HK := aM (Kept.of_grown (S := (fun k_ => P0_1_ k_)) hg (kk HK.out) (fun k_ e_ => (aD.out.1 k_ e_))); replace aD := aM (hp_); clear hg hw hp_; have tV := cA8 aC.out; have tW := cA2 aG.out; have fU : 0 ≤ (aA : Int) := dT; have fV : (aA : Int) < ((aE.length : Int) : Int) := dT; obtain ⟨vD, lC, kK, iH, iI⟩ := Kd.R_elem aD.out z79 (aA : Int) fU fV; obtain rfl := k79_openM kK; obtain ⟨qA, qC, qD, qE, qF, qG, qH, qI, qJ, qM, mF, qN, qO, qP, qQ, qS, qT, qV, qW, qX, qY, mG⟩ := eS79 (rd_T79 cU aA) iH iI; clear lC iH iI kK; replace fU := eq_true fU; replace fV := eq_true fV; have kL := aM (show Kd.R k79 79 eP w0.heap.size (fun k_ => (P0_1_ k_ ∨ w.heap.size ≤ k_)) (.slice (some ⟨aK, 0, none⟩) aE.length cC) cU from (kr aD.out)); obtain ⟨vE, iJ, kM, bU, bX⟩ := Kd.R_elem kL.out z79 (aA : Int) (dT) dT; obtain rfl := k79_openM kM; have gN := Kd.R_seg kL.out (aA : Int) (dT) dT (seg := [.bool true, .bool false, .int .i64 0, .int .i64 0, .int .i64 0, .int .i64 0, .int .i64 0, .int .i64 0, .int .i64 3, .int .i64 0, .bool false]) (j := 0) iJ bU (show 11 ≤ 11 from by decide) (x' := (⟨true, false, (⟨0, 0, 0, 0⟩ : S73), 0, 0, 3, 0, false⟩ : S79)) (k79_mkM _ _ _ _) (fun _ hk => hk); have qZ := cZ 11 (bU 0 _ rfl); have rA := fZ 11 (bX 0); have rC := cJ 11 (bU 1 _ rfl); have rD := fJ 11 (bX 1); have rE := cJ 11 (bU 2 _ rfl); have rF := fJ 11 (bX 2); have rG := cJ 11 (bU 3 _ rfl); have rH := fJ 11 (bX 3); have rI := cJ 11 (bU 4 _ rfl); have rJ := fJ 11 (bX 4); have rL := cJ 11 (bU 5 _ rfl); have rM := fJ 11 (bX 5); have rN := cJ 11 (bU 6 _ rfl); have rO := fJ 11 (bX 6); have rQ := cJ 11 (bU 7 _ rfl); have rR := fJ 11 (bX 7); have rT := cJ 11 (bU 8 _ rfl); have rV := fJ 11 (bX 8); have rW := cJ 11 (bU 9 _ rfl); have rX := fJ 11 (bX 9); have mH := cJ 11 (bU 10 _ rfl); have mI := fJ 11 (bX 10); clear iJ bU bX kM) | ((with_reducible refine gate_store (t := 79) (p := 71) rfl ?_); refine store_event (t := 79) (p := 71) (v := ?vo_w59) (w1 := (((((((((((eP.setCell ⟨aK, (aA : Int).toNat * 11, none⟩ (.bool true)).setCell ⟨aK, (aA : Int).toNat * 11 + 1, none⟩ (.bool false)).setCell ⟨aK, (aA : Int).toNat * 11 + 2, none⟩ (.int .i64 0)).setCell ⟨aK, (aA : Int).toNat * 11 + 3, none⟩ (.int .i64 0)).setCell ⟨aK, (aA : Int).toNat * 11 + 4, none⟩ (.int .i64 0)).setCell ⟨aK, (aA : Int).toNat * 11 + 5, none⟩ (.int .i64 0)).setCell ⟨aK, (aA : Int).toNat * 11 + 6, none⟩ (.int .i64 0)).setCell ⟨aK, (aA : Int).toNat * 11 + 7, none⟩ (.int .i64 0)).setCell ⟨aK, (aA : Int).toNat * 11 + 8, none⟩ (.int .i64 3)).setCell ⟨aK, (aA : Int).toNat * 11 + 9, none⟩ (.int .i64 0)).setCell ⟨aK, (aA : Int).toNat * 11 + 10, none⟩ (.bool false))) ?hg ?ho ?hn ?hr ?_; (case ho => rfl); (case hg => rfl); (case hn => rfl); (case hr => first | (go_simp; done) | (go_simp; rfl) | (obtain ⟨A_, c_, e_⟩ := Kd.R_slice aD.out; subst e_; (first | (go_simp; done) | (go_simp; rfl))) | (obtain ⟨A_, c_, e_⟩ := Kd.S_slice aD.out; subst e_; (first | (go_simp; done) | (go_simp; rfl)))); intro kN hw; have hg : eP.grownBy kN (some aK) := (by rw [hw]; exact gN.2); have hp_ : Kd.R k79 79 kN w0.heap.size (fun k_ => (P0_1_ k_ ∨ w.heap.size ≤ k_)) (.slice (some ⟨aK, 0, none⟩) aE.length cC) gK := (by rw [hw, lA.out]; exact gN.1); clear gN; replace aG := aM (blk_grown (bk aG.out) hg (Kd.R_ne aD.out aG.out (by decide))); replace aC := aM (blk_grown (bk aC.out) hg (Kd.R_ne aD.out aC.out (by decide))); replace aI := aM (blk_grown (bk aI.out) hg (Kd.R_ne aD.out aI.out (by decide))); replace HB := aM ((by rw [hw]; exact below_set (below_set (below_set (below_set (below_set (below_set (below_set (below_set (below_set (below_set (below_set (HB.out) aQ.out) aQ.out) aQ.out) aQ.out) aQ.out) aQ.out) aQ.out) aQ.out) aQ.out) aQ.out) aQ.out : Below w0.heap.size w0 kN)); replace HK := aM (Kept.of_grown (S := (fun k_ => P0_1_ k_)) hg (kk HK.out) (fun k_ e_ => (aD.out.1 k_ e_))); replace aD := aM (hp_); clear hg hw hp_))
  go_meet
  case rel => exact ⟨_, (gK), (0), (.slice (some ⟨aK, 0, none⟩) aE.length cC), H', ⟨by first | omega | exact Nat.le_refl _⟩, ⟨kr aD.out⟩, ⟨bk aG.out⟩, ⟨bk aC.out⟩, ⟨bk aI.out⟩, ⟨kk HK.out⟩, ⟨bl HB.out⟩⟩
 case rest =>
  clear iN
  repeat first|clear p2|clear c3|clear p3|clear q3|clear c4|clear p4|clear q4|clear c5|clear c6|clear eH|clear hY|clear hZ|clear vQ|clear vR|clear cW|clear iA|clear iB|clear iC|clear vS|clear vT|clear vU|clear vV|clear vW|clear vX|clear dE|clear dF|clear fT|clear vY|clear fU|clear fV|clear vZ|clear wA|clear wB|clear wC|clear wD|clear wE|clear wF|clear wG|clear wH|clear cR|clear dE|clear fU|clear cS|clear dF|clear fV
  obtain ⟨kq, cK, eE, cD, HA, HJ2, aJ, aG, aC, aI, HK, HB⟩ := hcut
  cases kq with
  | zero => exact absurd HA.out (by simp [spec_l8In.j1])
  | succ rY =>
   have H := HA.out
   clear HA
   simp only [spec_l8In.j1] at H
   obtain ⟨⟨gO, gP⟩, kO, H⟩ := hB H
   try dsimp only at H
   have rZ := aM kO
   clear kO
   simp only [Option.some.injEq, Prod.mk.injEq] at H
   obtain ⟨rfl, rfl⟩ := H
   have tX := bO.out
   have tZ := bP.out
   have uA := bY.out
   have uB := bZ.out
   have uC := cA2 aG.out
   obtain ⟨lT, lU, lV⟩ := Kd.R_slice aJ.out
   subst lV
   go_wp2_with (first | ((with_reducible refine gC (f := 13) rfl ?_); refine gL (some 73) Try.func13 #[.agg #[aV, .slice lT cK.length lU]] ?_; (with_reducible refine (spec_Decide.calls rY aV _ _ cK gO gP _ ?side1 ?side2 rZ.out).mono ?_); (case side1 => exact cM ((Kd.R_reads' aJ.out).2.2)); (case side2 => exact (Kd.R_reads' aJ.out).2.1); rintro e wI ⟨vF, rfl, ho0, hb⟩; refine ⟨_, rfl, ?_⟩; have iK := aM (Kd.R_lower (Kd.R_new' (Kd.R_newM (M := fun k_ => (P0_1_ k_ ∨ w.heap.size ≤ k_)) ho0 (kk HK.out).1 (fun k_ h_ => .inr h_)) (Kd.R_lt (kr aJ.out))) (below_size (bl HB.out))); replace aJ := aM (Kd.R_elder' (kr aJ.out) (Kd.R_base ho0) hb); replace aG := rB aG hb; replace aC := rB aC hb; replace aI := rB aI hb; replace HK := aM (Kept.below (S := (fun k_ => P0_1_ k_)) (kk HK.out) hb); replace HB := rS HB hb; (repeat first|clear hb|clear ho0); have uD := cH.out; have uE := cG.out; have uF := cA2 aI.out; obtain ⟨kP, kQ, lW⟩ := Kd.R_slice iK.out; subst lW))
   refine bodyPost_ret (results_cell_row rfl _ _ cT 28 #[gO, .slice kP gP.length kQ] (0, 0) _ rfl (bm aI.out) Try.underlying28 rfl (by kernel_rfl)) rfl ?_
   exact ⟨_, xW, by (with_reducible repeat (first | apply Kd.R_alloc | apply Kd.R_drewN | apply Kd.R_drew)); exact Kd.R_mono (kF (p := ⟨cT, 1, none⟩) (kF (p := ⟨cT, 0, none⟩) (Kd.R_types iK.out aI.out (by decide)) (fun _ hk => hk.2) (.int .i64 gO)) (fun _ hk => hk.2) (.slice kP gP.length kQ)) (fun _ hk => hk.1.1.1), bl HB.out, kk HK.out⟩

end Go.Proofs.Ythmijfekdeagpaa.PFnFades

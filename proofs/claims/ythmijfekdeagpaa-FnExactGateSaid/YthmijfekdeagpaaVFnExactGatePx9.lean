/- A part of the proof of laws.FnExactGate. No condition beyond what its theorems say. -/
import Derived.Test.YthmijfekdeagpaaVFnExactGatePx8
namespace Go.Proofs.Ythmijfekdeagpaa.PFnExactGate
open Go.RowKit Go.Proofs.YthmijfekdeagpaaW.PrintWords Go.Proofs.YthmijfekdeagpaaW.PrintLast Go.Proofs.YthmijfekdeagpaaW.PrintMore
set_option linter.unusedVariables false
set_option linter.unusedSimpArgs false

def impl_copyCard.l0 : Nat → List (S63) → Int → Int → List Bool → List (S63) → List (S138) → Option (List Bool × (List (S63)) × (List (S138)))
 | 0, _, _, _, _, _, _ => none
 | k + 1, aG, aH, aC, aD, aA, aE => if aC < aH then (if 0 ≤ aC then (if aC < (aG.length : Int) then ((slices_Clone_int_int.f ((rd_T63 aG aC).f1)).bind fun aI => (if aA.length < 4398046511104 then (impl_copyCard.l0 k aG aH (wrap64 (aC + 1)) aD (aA ++ [(⟨(rd_T63 aG aC).f0, aI⟩ : S63)]) aE) else (none))) else (none)) else (none)) else (some (aD, aA, aE))
def impl_copyCard.f (k : Nat) (aC : List Bool) (aA : List (S63)) (aD : List (S138)) : Option (List Bool × (List (S63)) × (List (S138))) := (slices_Clone_bool_bool.f aC).bind fun aE => ((impl_Heard.f aD).bind fun aG => (impl_copyCard.l0 k aA (aA.length : Int) 0 aE ([] : List (S63)) aG))
theorem impl_copyCard.mono_l : ∀ k, (∀ y0 y1 y2 y3 y4 y5, LeO (impl_copyCard.l0 k y0 y1 y2 y3 y4 y5) (impl_copyCard.l0 (k + 1) y0 y1 y2 y3 y4 y5))
 | 0 => fun _ _ _ _ _ _ r h => by simp [impl_copyCard.l0] at h
 | k + 1 => by
  have ih0 := impl_copyCard.mono_l k
  ·intro y0 y1 y2 y3 y4 y5
   unfold impl_copyCard.l0
   repeat' first|(with_reducible first|apply ih0|exact lR _|exact lN _|refine lI ?_ ?_|refine lB ?_ fun _ => ?_)|exact lN _|refine lI ?_ ?_|refine lB ?_ fun _ => ?_
theorem impl_copyCard.mono : ∀ a0 a1 a2 k, LeO (impl_copyCard.f k a0 a1 a2) (impl_copyCard.f (k + 1) a0 a1 a2) := by
 intro a0 a1 a2 k
 have ih0 := impl_copyCard.mono_l k
 unfold impl_copyCard.f
 repeat' first|(with_reducible first|apply ih0|exact lR _|exact lN _|refine lI ?_ ?_|refine lB ?_ fun _ => ?_)|exact lN _|refine lI ?_ ?_|refine lB ?_ fun _ => ?_
def impl_copyCard.T1 : Bool × List (List Nat × List Nat) := (true, [([], []), ([0], [0]), ([1], [1]), ([], []), ([3], [3]), ([4, 2], [4]), ([2, 5], [2, 5]), ([], []), ([7, 6, 5, 0, 1, 2, 3, 4, 5, 6, 7], [6, 7])])
def impl_copyCard.B1 : List Nat := [0, 1, 3, 0, 8, 31, 63, 0, 255]
theorem impl_copyCard.tab1 : rtab .any (opsOf Try.f85 1) = impl_copyCard.T1 := by kernel_rfl
theorem impl_copyCard.bits1 : waitsOk impl_copyCard.T1.2 impl_copyCard.B1 = true := by kernel_rfl
def impl_copyCard.T5 : Bool × List (List Nat × List Nat) := (true, [([], []), ([0], [0]), ([], []), ([2], [2]), ([], []), ([4], [4]), ([5], [5]), ([3, 6], [3, 6]), ([7], [7]), ([1, 8, 6], [1, 8]), ([0, 1, 2, 3, 4, 5, 6, 7, 8, 9], []), ([10, 9, 9, 0, 1, 2, 3, 4, 5, 6, 7, 8, 9], [9, 10])])
def impl_copyCard.B5 : List Nat := [0, 1, 0, 4, 0, 16, 48, 124, 252, 511, 1023, 2047]
theorem impl_copyCard.tab5 : rtab .any (opsOf Try.f85 5) = impl_copyCard.T5 := by kernel_rfl
theorem impl_copyCard.bits5 : waitsOk impl_copyCard.T5.2 impl_copyCard.B5 = true := by kernel_rfl
set_option maxHeartbeats 60000000 in
set_option maxRecDepth 100000 in
theorem impl_copyCard.calls (k : Nat) (bW : Option Addr) (cA : Nat) (bO : List Bool) (cN : Option Addr) (cL : Nat) (aG : List (S63)) (bQ : Option Addr) (bU : Nat) (bK : List (S138)) (r1 : List Bool) (r2 : List (S63)) (r3 : List (S138)) (w : World) (hr0_0 : Kd.C Kd.bool w bW bO.length bO) (hc0_0 : bO.length ≤ cA) (hr0_1 : Kd.C k63 w cN aG.length aG) (hc0_1 : aG.length ≤ cL) (hr0_2 : Kd.C k138 w bQ bK.length bK) (hc0_2 : bK.length ≤ bU) (h : impl_copyCard.f k bO aG bK = some (r1, r2, r3)) :
  Calls Try.prog 85 #[.agg #[.slice bW bO.length cA, .slice cN aG.length cL, .slice bQ bK.length bU]] w fun e w' => ∃ eR eS eU : Value, e = .returned (.agg #[eR, eS, eU]) ∧ Kd.R Kd.bool 4 w' w.heap.size (fun _ => True) eR r1 ∧ Kd.S k63 63 w' w.heap.size (fun _ => True) eS r2 ∧ Kd.R k138 138 w' w.heap.size (fun _ => True) eU r3 ∧ Below w.heap.size w w' := by
 have gW := Try.underlying43
 have gX := Try.underlying63
 have dY := aM hr0_0
 have dZ := aM hc0_0
 clear hr0_0 hc0_0
 have eN := aM hr0_1
 have fL := aM hc0_1
 clear hr0_1 hc0_1
 have dH := aM hr0_2
 have dI := aM hc0_2
 clear hr0_2 hc0_2
 have HB := aM (Below.refl w.heap.size w)
 have H : ((slices_Clone_bool_bool.f bO).bind fun bI => ((impl_Heard.f bK).bind fun aV => (impl_copyCard.l0 k aG (aG.length : Int) 0 bI ([] : List (S63)) aV))) = some (r1, r2, r3) := h
 clear h
 obtain ⟨bI, eW, H⟩ := hB H
 have A2 := aM eW
 clear eW
 obtain ⟨aV, fA, H⟩ := hB H
 have A3 := aM fA
 clear fA
 have H' := aM H
 clear H
 go_enter Try.func85, Try.ntmps85
 try go_wp2_with (first | ((with_reducible refine gD (N := 1) rfl ?_); refine bE (N := 1) (cs := #[.slice bW bO.length cA, .slice cN aG.length cL, .slice bQ bK.length bU]) (t := 43) ?_; intro bL hg w4 hbox hb; have aA := aM (hbox); have fM := gF hg HB; have fN := gF hg HB; replace HB := rS HB hb; clear hb hbox hg) | ((with_reducible refine gD (N := 2) rfl ?_); refine bE (N := 2) (cs := #[.slice none 0 0, .slice none 0 0, .slice none 0 0]) (t := 43) ?_; intro bJ hg w5 hbox hb; have aD := aM (hbox); have fO := gF hg HB; have fP := gF hg HB; have cV := nM hg aA; have cW := nH hg aA; replace aA := rB aA hb; replace HB := rS HB hb; clear hb hbox hg))
 replace aA := aM (blk_drew aA.out)
 replace aD := aM (blk_drew aD.out)
 replace HB := aM (below_drew1 HB.out)
 refine start_ (n := 9) (S := fun w' => cS3 w' bL (.slice bW bO.length cA) (.slice cN aG.length cL) (.slice bQ bK.length bU)) (ds := []) (dn 9 0) (by kernel_rfl) rfl rfl ⟨cI aA.out 0, cI aA.out 1, cI aA.out 2⟩ (fun hHeld => ?_); refine with_tabW impl_copyCard.tab1 impl_copyCard.bits1 (fun HT_ HW_ => ?_)
 generalize w5.drew = w6 at aA aD HB hHeld ⊢
 refine nY (N := some 6) HT_ ?_
 refine pZ 3 9 (bv 9 9) HT_ ?_
 refine aZ 1 7 (bv 9 11) HT_ HW_ hHeld ?_
 refine aZ 4 10 (bv 9 27) HT_ HW_ hHeld ?_
 refine join_ (σ := Value × Value × Nat) 1 (bv 9 255) (fun s_ => [(8, s_.1), (11, s_.2.1), (3, .pointer (some ⟨s_.2.2, 0, none⟩)), (12, .agg #[s_.1, .slice none 0 0, s_.2.1])]) (fun s_ w' => (w'.cell? ⟨bL, 0, none⟩ = some (.slice bW bO.length cA) ∧ w'.cell? ⟨bL, 1, none⟩ = some (.slice cN aG.length cL) ∧ w'.cell? ⟨bL, 2, none⟩ = some (.slice bQ bK.length bU)) ∧ (Kd.R Kd.bool 4 w' w.heap.size (fun _ => True) s_.1 bI) ∧ (Kd.R k138 138 w' w.heap.size (fun _ => True) s_.2.1 aV) ∧ (w'.heap[bL]? = some (.cells #[.slice bW bO.length cA, .slice cN aG.length cL, .slice bQ bK.length bU] 43 (0, 0))) ∧ (w'.heap[bJ]? = some (.cells #[.slice none 0 0, .slice none 0 0, .slice none 0 0] 43 (0, 0))) ∧ (w'.heap[s_.2.2]? = some (.cells #[.slice none 0 0, .slice none 0 0, .slice none 0 0] 43 (0, 0))) ∧ (w.heap.size ≤ s_.2.2) ∧ (w.heap.size ≤ s_.2.2) ∧ (bL ≠ s_.2.2) ∧ (s_.2.2 ≠ bL) ∧ (bJ ≠ s_.2.2) ∧ (s_.2.2 ≠ bJ) ∧ (Below w.heap.size w w')) ?_ ?_
 rotate_left
 ·intro hCont
  refine two_ (i := 2) (j := 7) (Ni := some 8) (Nj := some 3) (bv 9 31) (bv 9 155) rfl rfl rfl rfl (two_of HT_.out (by kernel_rfl)) (by decide) (by decide) (fun K hK => ?_) (fun K hK => ?_)
  ·skip
   refine goes_ Try.func150 (by kernel_rfl) rfl #[.slice bW bO.length cA] (by rfl) rfl rfl xR ?_
   with_reducible refine (slices_Clone_bool_bool.calls _ _ bO bI _ ?side1 ?side2 A2.out).mono ?_
   (case side1 => exact cM (cB dY.out HB.out))
   (case side2 => exact dZ.out)
   rintro e w7 ⟨dS, rfl, ho0, hb⟩
   refine ⟨_, rfl, ?_⟩
   have bD := aM (Kd.R_lower ho0 (below_size (bl HB.out)))
   replace aA := rB aA hb
   replace aD := rB aD hb
   replace HB := rS HB hb
   (try clear hb)
   (try clear hb2)
   (try clear hk)
   (try clear hi)
   (try clear ho0)
   refine hK.out _ _ ⟨cI aA.out 0, cI aA.out 1, cI aA.out 2⟩ (fun hHeld => ?_)
   clear hK K
   refine norm_ (a' := ?_) ?_ ?_
   rotate_left
   ·show Act.put _ (some 8) _ = _
    simp only [Act.put, sA, sZ, sS, i64_w, i32_w]
    rfl
   refine two_ (i := 5) (j := 7) (Ni := some 11) (Nj := some 3) (bv 9 63) (bv 9 159) rfl rfl rfl rfl (two_of HT_.out (by kernel_rfl)) (by decide) (by decide) (fun K hK => ?_) (fun K hK => ?_)
   ·skip
    refine goes_ Try.func151 (by kernel_rfl) rfl #[.slice bQ bK.length bU] (by rfl) rfl rfl xR ?_
    with_reducible refine (impl_Heard.calls _ _ bK aV _ ?side1 ?side2 A3.out).mono ?_
    (case side1 => exact cM (cB dH.out HB.out))
    (case side2 => exact dI.out)
    rintro e w8 ⟨dJ, rfl, ho0, hb⟩
    refine ⟨_, rfl, ?_⟩
    have bP := aM (Kd.R_lower ho0 (below_size (bl HB.out)))
    replace bD := rK bD hb
    replace aA := rB aA hb
    replace aD := rB aD hb
    replace HB := rS HB hb
    (try clear hb)
    (try clear hb2)
    (try clear hk)
    (try clear hi)
    (try clear ho0)
    obtain ⟨fF, fG, fB⟩ := Kd.R_slice bP.out
    (first | subst fB | (injection fB with f1_ f2_ f3_; have f4_ := f1_.symm; have f5_ := f3_.symm; clear f1_ f2_ f3_; subst f4_; subst f5_))
    obtain ⟨dB, dC, cO⟩ := Kd.R_slice bD.out
    (first | subst cO | (injection cO with f1_ f2_ f3_; have f4_ := f1_.symm; have f5_ := f3_.symm; clear f1_ f2_ f3_; subst f4_; subst f5_))
    refine hK.out _ _ ⟨cI aA.out 0, cI aA.out 1, cI aA.out 2⟩ (fun hHeld => ?_)
    clear hK K
    refine norm_ (a' := ?_) ?_ ?_
    rotate_left
    ·show Act.put _ (some 11) _ = _
     simp only [Act.put, sA, sZ, sS, i64_w, i32_w]
     rfl
    refine pZ 6 12 (bv 9 127) HT_ ?_
    refine one_ (i := 7) (N := some 3) (bv 9 255) rfl rfl (one_of HT_.out (by kernel_rfl)) (by decide) (fun K hK => ?_)
    refine box_step ?hg (N := 3) ?hd (cs := #[.slice none 0 0, .slice none 0 0, .slice none 0 0]) (t := 43) ?hr ?_; (case hd => rfl); (case hg => rfl); (case hr => first | (go_simp; done) | (go_simp; rfl))
    intro aK hg hY hbox hb
    have aC := aM (hbox)
    have cP := gF hg HB
    have cQ := gF hg HB
    have aQ := nM hg aA
    have aT := nH hg aA
    have aW := nM hg aD
    have aX := nH hg aD
    replace bD := rK bD hb
    replace bP := rK bP hb
    replace aA := rB aA hb
    replace aD := rB aD hb
    replace HB := rS HB hb
    clear hb hbox hg
    refine hK.out _ _ ⟨cI aA.out 0, cI aA.out 1, cI aA.out 2⟩ (fun hHeld => ?_)
    clear hK K
    refine norm_ (a' := ?_) ?_ ?_
    rotate_left
    ·show Act.put _ (some 3) _ = _
     simp only [Act.put, sA, sZ, sS, i64_w, i32_w]
     rfl
    exact norm_ (by simp only [putAll, Act.put, sA, sZ, sS]) (hCont (.slice dB bI.length dC, .slice fF aV.length fG, aK) _ ⟨hHeld, (kr bD.out), (kr bP.out), (bk aA.out), (bk aD.out), (bk aC.out), cP.out, cQ.out, aQ.out, aT.out, aW.out, aX.out, (bl HB.out)⟩)
   ·skip
    refine box_step ?hg (N := 3) ?hd (cs := #[.slice none 0 0, .slice none 0 0, .slice none 0 0]) (t := 43) ?hr ?_; (case hd => rfl); (case hg => rfl); (case hr => first | (go_simp; done) | (go_simp; rfl))
    intro aK hg w8 hbox hb
    have aC := aM (hbox)
    have cP := gF hg HB
    have cQ := gF hg HB
    have aQ := nM hg aA
    have aT := nH hg aA
    have aW := nM hg aD
    have aX := nH hg aD
    replace bD := rK bD hb
    replace aA := rB aA hb
    replace aD := rB aD hb
    replace HB := rS HB hb
    clear hb hbox hg
    refine hK.out _ _ ⟨cI aA.out 0, cI aA.out 1, cI aA.out 2⟩ (fun hHeld => ?_)
    clear hK K
    refine norm_ (a' := ?_) ?_ ?_
    rotate_left
    ·show Act.put _ (some 3) _ = _
     simp only [Act.put, sA, sZ, sS, i64_w, i32_w]
     rfl
    refine one_ (i := 5) (N := some 11) (bv 9 191) rfl rfl (one_of HT_.out (by kernel_rfl)) (by decide) (fun K hK => ?_)
    refine goes_ Try.func151 (by kernel_rfl) rfl #[.slice bQ bK.length bU] (by rfl) rfl rfl xR ?_
    with_reducible refine (impl_Heard.calls _ _ bK aV _ ?side1 ?side2 A3.out).mono ?_
    (case side1 => exact cM (cB dH.out HB.out))
    (case side2 => exact dI.out)
    rintro e w9 ⟨dJ, rfl, ho0, hb⟩
    refine ⟨_, rfl, ?_⟩
    have bP := aM (Kd.R_lower ho0 (below_size (bl HB.out)))
    replace bD := rK bD hb
    replace aA := rB aA hb
    replace aD := rB aD hb
    replace aC := rB aC hb
    replace HB := rS HB hb
    (try clear hb)
    (try clear hb2)
    (try clear hk)
    (try clear hi)
    (try clear ho0)
    obtain ⟨dB, dC, cO⟩ := Kd.R_slice bP.out
    (first | subst cO | (injection cO with f1_ f2_ f3_; have f4_ := f1_.symm; have f5_ := f3_.symm; clear f1_ f2_ f3_; subst f4_; subst f5_))
    obtain ⟨dU, dV, dD⟩ := Kd.R_slice bD.out
    (first | subst dD | (injection dD with f1_ f2_ f3_; have f4_ := f1_.symm; have f5_ := f3_.symm; clear f1_ f2_ f3_; subst f4_; subst f5_))
    refine hK.out _ _ ⟨cI aA.out 0, cI aA.out 1, cI aA.out 2⟩ (fun hHeld => ?_)
    clear hK K
    refine norm_ (a' := ?_) ?_ ?_
    rotate_left
    ·show Act.put _ (some 11) _ = _
     simp only [Act.put, sA, sZ, sS, i64_w, i32_w]
     rfl
    refine pZ 6 12 (bv 9 255) HT_ ?_
    exact norm_ (by simp only [putAll, Act.put, sA, sZ, sS]) (hCont (.slice dU bI.length dV, .slice dB aV.length dC, aK) _ ⟨hHeld, (kr bD.out), (kr bP.out), (bk aA.out), (bk aD.out), (bk aC.out), cP.out, cQ.out, aQ.out, aT.out, aW.out, aX.out, (bl HB.out)⟩)
  ·skip
   refine box_step ?hg (N := 3) ?hd (cs := #[.slice none 0 0, .slice none 0 0, .slice none 0 0]) (t := 43) ?hr ?_; (case hd => rfl); (case hg => rfl); (case hr => first | (go_simp; done) | (go_simp; rfl))
   intro aK hg w7 hbox hb
   have aC := aM (hbox)
   have cP := gF hg HB
   have cQ := gF hg HB
   have aQ := nM hg aA
   have aT := nH hg aA
   have aW := nM hg aD
   have aX := nH hg aD
   replace aA := rB aA hb
   replace aD := rB aD hb
   replace HB := rS HB hb
   clear hb hbox hg
   refine hK.out _ _ ⟨cI aA.out 0, cI aA.out 1, cI aA.out 2⟩ (fun hHeld => ?_)
   clear hK K
   refine norm_ (a' := ?_) ?_ ?_
   rotate_left
   ·show Act.put _ (some 3) _ = _
    simp only [Act.put, sA, sZ, sS, i64_w, i32_w]
    rfl
   refine one_ (i := 2) (N := some 8) (bv 9 159) rfl rfl (one_of HT_.out (by kernel_rfl)) (by decide) (fun K hK => ?_)
   refine goes_ Try.func150 (by kernel_rfl) rfl #[.slice bW bO.length cA] (by rfl) rfl rfl xR ?_
   with_reducible refine (slices_Clone_bool_bool.calls _ _ bO bI _ ?side1 ?side2 A2.out).mono ?_
   (case side1 => exact cM (cB dY.out HB.out))
   (case side2 => exact dZ.out)
   rintro e w8 ⟨dS, rfl, ho0, hb⟩
   refine ⟨_, rfl, ?_⟩
   have bD := aM (Kd.R_lower ho0 (below_size (bl HB.out)))
   replace aA := rB aA hb
   replace aD := rB aD hb
   replace aC := rB aC hb
   replace HB := rS HB hb
   (try clear hb)
   (try clear hb2)
   (try clear hk)
   (try clear hi)
   (try clear ho0)
   refine hK.out _ _ ⟨cI aA.out 0, cI aA.out 1, cI aA.out 2⟩ (fun hHeld => ?_)
   clear hK K
   refine norm_ (a' := ?_) ?_ ?_
   rotate_left
   ·show Act.put _ (some 8) _ = _
    simp only [Act.put, sA, sZ, sS, i64_w, i32_w]
    rfl
   refine one_ (i := 5) (N := some 11) (bv 9 191) rfl rfl (one_of HT_.out (by kernel_rfl)) (by decide) (fun K hK => ?_)
   refine goes_ Try.func151 (by kernel_rfl) rfl #[.slice bQ bK.length bU] (by rfl) rfl rfl xR ?_
   with_reducible refine (impl_Heard.calls _ _ bK aV _ ?side1 ?side2 A3.out).mono ?_
   (case side1 => exact cM (cB dH.out HB.out))
   (case side2 => exact dI.out)
   rintro e w9 ⟨dJ, rfl, ho0, hb⟩
   refine ⟨_, rfl, ?_⟩
   have bP := aM (Kd.R_lower ho0 (below_size (bl HB.out)))
   replace bD := rK bD hb
   replace aA := rB aA hb
   replace aD := rB aD hb
   replace aC := rB aC hb
   replace HB := rS HB hb
   (try clear hb)
   (try clear hb2)
   (try clear hk)
   (try clear hi)
   (try clear ho0)
   obtain ⟨dB, dC, cO⟩ := Kd.R_slice bP.out
   (first | subst cO | (injection cO with f1_ f2_ f3_; have f4_ := f1_.symm; have f5_ := f3_.symm; clear f1_ f2_ f3_; subst f4_; subst f5_))
   obtain ⟨dU, dV, dD⟩ := Kd.R_slice bD.out
   (first | subst dD | (injection dD with f1_ f2_ f3_; have f4_ := f1_.symm; have f5_ := f3_.symm; clear f1_ f2_ f3_; subst f4_; subst f5_))
   refine hK.out _ _ ⟨cI aA.out 0, cI aA.out 1, cI aA.out 2⟩ (fun hHeld => ?_)
   clear hK K
   refine norm_ (a' := ?_) ?_ ?_
   rotate_left
   ·show Act.put _ (some 11) _ = _
    simp only [Act.put, sA, sZ, sS, i64_w, i32_w]
    rfl
   refine pZ 6 12 (bv 9 255) HT_ ?_
   exact norm_ (by simp only [putAll, Act.put, sA, sZ, sS]) (hCont (.slice dU bI.length dV, .slice dB aV.length dC, aK) _ ⟨hHeld, (kr bD.out), (kr bP.out), (bk aA.out), (bk aD.out), (bk aC.out), cP.out, cQ.out, aQ.out, aT.out, aW.out, aX.out, (bl HB.out)⟩)
 rintro ⟨dS, dJ, aK⟩ cR ⟨hS_, h0_, h1_, h2_, h3_, h4_, h5_, h6_, h7_, h8_, h9_, h10_, h11_⟩
 have bD : Aside0 (Kd.R Kd.bool 4 cR w.heap.size (fun _ => True) dS bI) := ⟨h0_⟩
 have bP : Aside0 (Kd.R k138 138 cR w.heap.size (fun _ => True) dJ aV) := ⟨h1_⟩
 have aC : Aside0 (cR.heap[aK]? = some (.cells #[.slice none 0 0, .slice none 0 0, .slice none 0 0] 43 (0, 0))) := ⟨h4_⟩
 have cP : Aside0 (w.heap.size ≤ aK) := ⟨h5_⟩
 have cQ : Aside0 (w.heap.size ≤ aK) := ⟨h6_⟩
 have aQ : Aside0 (bL ≠ aK) := ⟨h7_⟩
 have aT : Aside0 (aK ≠ bL) := ⟨h8_⟩
 have aW : Aside0 (bJ ≠ aK) := ⟨h9_⟩
 have aX : Aside0 (aK ≠ bJ) := ⟨h10_⟩
 replace aA : Aside0 (cR.heap[bL]? = some (.cells #[.slice bW bO.length cA, .slice cN aG.length cL, .slice bQ bK.length bU] 43 (0, 0))) := ⟨h2_⟩
 replace aD : Aside0 (cR.heap[bJ]? = some (.cells #[.slice none 0 0, .slice none 0 0, .slice none 0 0] 43 (0, 0))) := ⟨h3_⟩
 replace HB : Aside0 (Below w.heap.size w cR) := ⟨h11_⟩
 clear h0_ h1_ h2_ h3_ h4_ h5_ h6_ h7_ h8_ h9_ h10_ h11_
 have hHeld : cR.cell? ⟨bL, 0, none⟩ = some (.slice bW bO.length cA) ∧ cR.cell? ⟨bL, 1, none⟩ = some (.slice cN aG.length cL) ∧ cR.cell? ⟨bL, 2, none⟩ = some (.slice bQ bK.length bU) := hS_
 obtain ⟨cC, cD, eE⟩ := Kd.R_slice bP.out
 (first | subst eE | (injection eE with f1_ f2_ f3_; have f4_ := f1_.symm; have f5_ := f3_.symm; clear f1_ f2_ f3_; subst f4_; subst f5_))
 obtain ⟨cE, cG, eF⟩ := Kd.R_slice bD.out
 (first | subst eF | (injection eF with f1_ f2_ f3_; have f4_ := f1_.symm; have f5_ := f3_.symm; clear f1_ f2_ f3_; subst f4_; subst f5_))
 refine norm_ (a' := ?_) ?_ ?_
 rotate_left
 ·simp only [putAll, Act.put, sA, sZ, sS]
  rfl
 refine one_ (i := 8) (N := none) (bv 9 511) rfl rfl (one_of HT_.out (by kernel_rfl)) (by decide) (fun K hK => ?_)
 have gY := cI aC.out 0
 have hfs15 := bF aC.out 0
 have hns15_0 := aQ.out
 have hns15_1 := aW.out
 have hms15_0 := aT.out
 have hms15_1 := aX.out
 have gZ := cI aC.out 1
 have hfs16 := bF aC.out 1
 have hns16_0 := aQ.out
 have hns16_1 := aW.out
 have hms16_0 := aT.out
 have hms16_1 := aX.out
 have hJ := cI aC.out 2
 have hfs17 := bF aC.out 2
 have hns17_0 := aQ.out
 have hns17_1 := aW.out
 have hms17_0 := aT.out
 have hms17_1 := aX.out
 refine skip_ (w1 := ?_) (by rfl) rfl ?_ ?_
 rotate_left
 ·go_simp
  rfl
 refine hK.out _ _ ⟨(cm (hHeld.1)), (cm (hHeld.2.1)), (cm (hHeld.2.2))⟩ (fun hHeld => ?_)
 clear hK K
 refine done_ (done_of HT_.out (by kernel_rfl)) ?_
 have fQ := cV.out
 have fS := cW.out
 have fT := aQ.out
 have fU := aT.out
 have fV := cA3 aA.out
 try go_wp2
 go_loopg [16] k (fun kq fH w' => ∃ (aJ : Int) (bA : List (S63)) (bN : Value), fH = .int .i64 aJ ∧ Aside0 (impl_copyCard.l0 kq aG (aG.length : Int) aJ bI bA aV = some (r1, r2, r3)) ∧ Aside0 (kq ≤ k) ∧ Aside0 (Kd.R Kd.bool 4 w' w.heap.size (fun _ => True) (.slice cE bI.length cG) bI) ∧ Aside0 (Kd.S k63 63 w' w.heap.size (fun _ => True) bN bA) ∧ Aside0 (Kd.R k138 138 w' w.heap.size (fun _ => True) (.slice cC aV.length cD) aV) ∧ Aside0 (w'.heap[bL]? = some (.cells #[(.slice bW bO.length cA), (.slice cN aG.length cL), (.slice bQ bK.length bU)] 43 (0, 0))) ∧ Aside0 (w'.heap[bJ]? = some (.cells #[(.slice none 0 0), (.slice none 0 0), (.slice none 0 0)] 43 (0, 0))) ∧ Aside0 (w'.heap[aK]? = some (.cells #[(.slice cE bI.length cG), bN, (.slice cC aV.length cD)] 43 (0, 0))) ∧ Aside0 (Below w.heap.size w w'))
 case atStart => exact ⟨(0), (([] : List (S63))), (.slice none 0 0), xE, H', ⟨Nat.le_refl _⟩, ⟨kr (Kd.R_mono (kF (p := ⟨aK, 2, none⟩) (kF (p := ⟨aK, 1, none⟩) (kF (p := ⟨aK, 0, none⟩) (Kd.R_types bD.out aC.out (by decide)) (fun _ hk => hk.2) (.slice cE bI.length cG)) (fun _ hk => hk.2) (.slice none 0 0)) (fun _ hk => hk.2) (.slice cC aV.length cD)) (fun _ hk => trivial))⟩, ⟨by first | exact Kd.S_nil _ _ _ _ _ | exact Kd.N_nil _ _ _ _ _ | exact Kd.V_nil _ _ _ _ _ | exact Kd.Q_nil _ _ _ _ _ | exact Kd.R_nil _ _ _ _ _⟩, ⟨kr (Kd.R_mono (kF (p := ⟨aK, 2, none⟩) (kF (p := ⟨aK, 1, none⟩) (kF (p := ⟨aK, 0, none⟩) (Kd.R_types bP.out aC.out (by decide)) (fun _ hk => hk.2) (.slice cE bI.length cG)) (fun _ hk => hk.2) (.slice none 0 0)) (fun _ hk => hk.2) (.slice cC aV.length cD)) (fun _ hk => trivial))⟩, ⟨fm aA.out⟩, ⟨fm aD.out⟩, ⟨bm aC.out⟩, ⟨bl HB.out⟩⟩
 case round =>
  clear H'
  repeat first|clear c1|clear p2|clear c8|clear hZ|clear iA|clear iB
  obtain ⟨aJ, bA, bN, rfl, HA, fC, aH, aE, aI, aA, aD, aC, HB⟩ := hrel
  cases gk with
  | zero => exact absurd HA.out (by simp [impl_copyCard.l0])
  | succ k1 =>
   have H := HA.out
   clear HA
   simp only [impl_copyCard.l0] at H
   by_cases dE : aJ < (aG.length : Int)
   case neg =>
    rw [if_neg dE] at H
    have eO := decide_eq_false dE
    clear dE
    simp only [Option.some.injEq, Prod.mk.injEq] at H
    obtain ⟨rfl, rfl, rfl⟩ := H
    have fW := aT.out
    have fX := aQ.out
    have fY := aX.out
    have gA := aW.out
    have gB := cA3 aC.out
    have gG := cW.out
    have gH := cV.out
    have gJ := cA3 aD.out
    obtain ⟨dK, dL, fD⟩ := Kd.S_slice aE.out
    subst fD
    go_wp2
    refine bodyPost_ret (results_cell_row rfl _ _ bJ 43 #[.slice cE bI.length cG, .slice dK bA.length dL, .slice cC aV.length cD] (0, 0) _ rfl (bm aD.out) Try.underlying43 rfl (by kernel_rfl)) rfl ?_
    exact ⟨_, _, _, xW, by (with_reducible repeat (first | apply Kd.R_alloc | apply Kd.R_drewN | apply Kd.R_drew)); exact Kd.R_mono (kF (p := ⟨bJ, 2, none⟩) (kF (p := ⟨bJ, 1, none⟩) (kF (p := ⟨bJ, 0, none⟩) (Kd.R_types aH.out aD.out (by decide)) (fun _ hk => hk.2) (.slice cE bI.length cG)) (fun _ hk => hk.2) (.slice dK bA.length dL)) (fun _ hk => hk.2) (.slice cC aV.length cD)) (fun _ hk => trivial), by (with_reducible repeat (first | apply Kd.S_alloc | apply Kd.S_drewN | apply Kd.S_drew)); exact Kd.S_mono (Kd.S_far (p := ⟨bJ, 2, none⟩) (Kd.S_far (p := ⟨bJ, 1, none⟩) (Kd.S_far (p := ⟨bJ, 0, none⟩) (Kd.S_types aE.out aD.out (by decide)) (fun _ hk => hk.2) (.slice cE bI.length cG)) (fun _ hk => hk.2) (.slice dK bA.length dL)) (fun _ hk => hk.2) (.slice cC aV.length cD)) (fun _ hk => trivial), by (with_reducible repeat (first | apply Kd.R_alloc | apply Kd.R_drewN | apply Kd.R_drew)); exact Kd.R_mono (kF (p := ⟨bJ, 2, none⟩) (kF (p := ⟨bJ, 1, none⟩) (kF (p := ⟨bJ, 0, none⟩) (Kd.R_types aI.out aD.out (by decide)) (fun _ hk => hk.2) (.slice cE bI.length cG)) (fun _ hk => hk.2) (.slice dK bA.length dL)) (fun _ hk => hk.2) (.slice cC aV.length cD)) (fun _ hk => trivial), bl HB.out⟩
   rw [if_pos dE] at H
   have eO := decide_eq_true dE
   clear dE
   obtain ⟨gK, H⟩ := gI H
   obtain ⟨gM, H⟩ := gI H
   obtain ⟨cT, eI, H⟩ := hB H
   have fI := aM eI
   clear eI
   by_cases eA : bA.length < 4398046511104
   case neg =>
    rw [if_neg eA] at H
    exact absurd H (by simp)
   rw [if_pos eA] at H
   have LMc25 := aM eA
   clear eA
   obtain ⟨cU, cS⟩ : ∃ y_ : List (S63), y_ = (bA ++ [(⟨(rd_T63 aG aJ).f0, cT⟩ : S63)]) := ⟨_, rfl⟩
   replace H : (impl_copyCard.l0 k1 aG (aG.length : Int) (wS aJ) bI cU aV) = some (r1, r2, r3) := by first | (rw [cS]; with_reducible exact H) | (have H2_ := (Option.bind_some _ _).symm.trans H; rw [cS]; with_reducible exact H2_) | (have H2_ := (Option.bind_some _ _).symm.trans H; with_reducible exact H2_) | with_reducible exact H | (rw [cS]; exact H) | exact H
   have eP := aM cS
   clear cS
   have H' := aM H
   clear H
   have dW : 0 ≤ (aJ : Int) := dT
   have dX : aJ < (aG.length : Int) := dT
   obtain ⟨eQ, cH, cK, fE, dF, dG, hl288_1, hi288_1⟩ := at_T63 eN.out aJ dW dX
   cases fE
   replace dF := xB HB dF
   replace dG := xB HB dG
   have eC := aM hi288_1
   have eD := aM hl288_1
   clear hi288_1 hl288_1
   replace dW := eq_true dW
   replace dX := eq_true dX
   try go_wp2_with (first | ((with_reducible refine gD (N := 5) rfl ?_); refine box_event ?hg (N := 5) ?hd (cs := #[.int .i64 0, .slice none 0 0]) (t := 63) ?hr ?_; (case hd => rfl); (case hg => rfl); (case hr => first | (go_simp; done) | (go_simp; rfl) | (obtain ⟨A_, c_, e_⟩ := Kd.R_slice aH.out; subst e_; (first | (go_simp; done) | (go_simp; rfl))) | (obtain ⟨A_, c_, e_⟩ := Kd.S_slice aH.out; subst e_; (first | (go_simp; done) | (go_simp; rfl))) | (obtain ⟨A_, c_, e_⟩ := Kd.R_slice aE.out; subst e_; (first | (go_simp; done) | (go_simp; rfl))) | (obtain ⟨A_, c_, e_⟩ := Kd.S_slice aE.out; subst e_; (first | (go_simp; done) | (go_simp; rfl))) | (obtain ⟨A_, c_, e_⟩ := Kd.R_slice aI.out; subst e_; (first | (go_simp; done) | (go_simp; rfl))) | (obtain ⟨A_, c_, e_⟩ := Kd.S_slice aI.out; subst e_; (first | (go_simp; done) | (go_simp; rfl)))); intro bM hg iC hbox hb; have aN := aM (hbox); have gN := gF hg HB; have gO := gF hg HB; have dO := nM hg aA; have dP := nH hg aA; have dQ := nM hg aD; have dR := nH hg aD; have cX := nM hg aC; have cY := nH hg aC; replace aH := rK aH hb; replace aE := aM (Kd.S_below (Kd.S_elderB (by (with_reducible repeat (first | apply Kd.S_alloc | apply Kd.S_drewN | apply Kd.S_drew)); exact aE.out) bM (Nat.le_of_eq hg.symm)) hb); replace aI := rK aI hb; replace aA := rB aA hb; replace aD := rB aD hb; replace aC := rB aC hb; replace HB := rS HB hb; clear hb hbox hg; have gP := dP.out; have gQ := dO.out; have gR := dR.out; have gS := dQ.out; have gT := cY.out; have gU := cX.out; have gV := cA2 aN.out))
   refine nW (fun W => Aside0 (Kd.R Kd.bool 4 W w.heap.size (fun _ => True) (.slice cE bI.length cG) bI) ∧ Aside0 (Kd.S k63 63 W w.heap.size (fun k_ => k_ ≠ bM) bN bA) ∧ Aside0 (Kd.R k138 138 W w.heap.size (fun _ => True) (.slice cC aV.length cD) aV) ∧ Aside0 (W.heap[bL]? = some (.cells #[.slice bW bO.length cA, .slice (some eQ) aG.length cL, .slice bQ bK.length bU] 43 (0, 0))) ∧ Aside0 (W.heap[bJ]? = some (.cells #[.slice none 0 0, .slice none 0 0, .slice none 0 0] 43 (0, 0))) ∧ Aside0 (W.heap[aK]? = some (.cells #[.slice cE bI.length cG, bN, .slice cC aV.length cD] 43 (0, 0))) ∧ Aside0 (W.heap[bM]? = some (.cells #[((rd_T63 aG aJ).f0), .slice cH ((rd_T63 aG aJ).f1).length cK] 63 (0, 0))) ∧ Aside0 (Below w.heap.size w W)) ⟨⟨kr (Kd.R_mono (kF (p := ⟨bM, 1, none⟩) (kF (p := ⟨bM, 0, none⟩) (Kd.R_types aH.out aN.out (by decide)) (fun _ hk => hk.2) (.int .i64 ((rd_T63 aG aJ).f0))) (fun _ hk => hk.2) (.slice cH ((rd_T63 aG aJ).f1).length cK)) (fun _ hk => trivial))⟩, ⟨by (with_reducible repeat (first | apply Kd.S_alloc | apply Kd.S_drewN | apply Kd.S_drew)); exact Kd.S_mono (Kd.S_far (p := ⟨bM, 1, none⟩) (Kd.S_far (p := ⟨bM, 0, none⟩) (Kd.S_mono aE.out (fun k_ hk => (⟨hk, hk.2⟩ : _ ∧ k_ ≠ bM))) (fun _ hk => hk.2) (.int .i64 ((rd_T63 aG aJ).f0))) (fun _ hk => hk.2) (.slice cH ((rd_T63 aG aJ).f1).length cK)) (fun _ hk => hk.1.2)⟩, ⟨kr (Kd.R_mono (kF (p := ⟨bM, 1, none⟩) (kF (p := ⟨bM, 0, none⟩) (Kd.R_types aI.out aN.out (by decide)) (fun _ hk => hk.2) (.int .i64 ((rd_T63 aG aJ).f0))) (fun _ hk => hk.2) (.slice cH ((rd_T63 aG aJ).f1).length cK)) (fun _ hk => trivial))⟩, ⟨fm aA.out⟩, ⟨fm aD.out⟩, ⟨fm aC.out⟩, ⟨bm aN.out⟩, ⟨bl HB.out⟩⟩ ?_
   intro fK nn_
   replace aH := nn_.1
   replace aE := nn_.2.1
   replace aI := nn_.2.2.1
   replace aA := nn_.2.2.2.1
   replace aD := nn_.2.2.2.2.1
   replace aC := nn_.2.2.2.2.2.1
   replace aN := nn_.2.2.2.2.2.2.1
   replace HB := nn_.2.2.2.2.2.2.2
   clear nn_
   replace aH := aM (Kd.R_drew aH.out)
   replace aE := aM (Kd.S_drew aE.out)
   replace aI := aM (Kd.R_drew aI.out)
   replace aA := aM (blk_drew aA.out)
   replace aD := aM (blk_drew aD.out)
   replace aC := aM (blk_drew aC.out)
   replace aN := aM (blk_drew aN.out)
   replace HB := aM (below_drew1 HB.out)
   refine start_ (n := 12) (S := fun w' => cT3 w' aK (.slice cE bI.length cG) (bN) (.slice cC aV.length cD) (cS2 w' bM (.int .i64 ((rd_T63 aG aJ).f0)) (.slice cH ((rd_T63 aG aJ).f1).length cK))) (ds := [11]) (dn 12 0) (by kernel_rfl) rfl rfl ⟨cI aC.out 0, cI aC.out 1, cI aC.out 2, cI aN.out 0, cI aN.out 1⟩ (fun hHeld => ?_); refine with_tabW impl_copyCard.tab5 impl_copyCard.bits5 (fun HT_ HW_ => ?_)
   generalize fK.drew = iD at aH aE aI aA aD aC aN HB hHeld ⊢
   refine nY (N := some 20) HT_ ?_
   refine pZ 2 22 (bv 12 5) HT_ ?_
   refine pZ 4 24 (bv 12 21) HT_ ?_
   refine aZ 1 21 (bv 12 23) HT_ HW_ hHeld ?_
   refine aZ 3 23 (bv 12 31) HT_ HW_ hHeld ?_
   refine aZ 5 25 (bv 12 63) HT_ HW_ hHeld ?_
   refine one_ (i := 6) (N := some 26) (bv 12 127) rfl rfl (one_of HT_.out (by kernel_rfl)) (by decide) (fun K hK => ?_)
   refine goes_ Try.func152 (by kernel_rfl) rfl #[.slice cH ((rd_T63 aG aJ).f1).length cK] (by rfl) rfl rfl xR ?_
   with_reducible refine (slices_Clone_int_int.calls _ _ ((rd_T63 aG aJ).f1) cT _ ?side1 ?side2 fI.out).mono ?_
   (case side1 => exact cM (cB eC.out HB.out))
   (case side2 => exact eD.out)
   rintro e iE ⟨hO, rfl, ho0, hb⟩
   refine ⟨_, rfl, ?_⟩
   have dA := aM (Kd.R_lower ho0 (below_size (bl HB.out)))
   replace aH := rK aH hb
   replace aE := aM (Kd.S_elder' (by (with_reducible repeat (first | apply Kd.S_alloc | apply Kd.S_drewN | apply Kd.S_drew)); exact aE.out) (Kd.R_base ho0) hb)
   replace aI := rK aI hb
   replace aA := rB aA hb
   replace aD := rB aD hb
   replace aC := rB aC hb
   replace aN := rB aN hb
   replace HB := rS HB hb
   (try clear hb)
   (try clear hb2)
   (try clear hk)
   (try clear hi)
   (try clear ho0)
   obtain ⟨eJ, eK, eL⟩ := Kd.R_slice dA.out
   (first | subst eL | (injection eL with f1_ f2_ f3_; have f4_ := f1_.symm; have f5_ := f3_.symm; clear f1_ f2_ f3_; subst f4_; subst f5_))
   refine hK.out _ _ ⟨cI aC.out 0, cI aC.out 1, cI aC.out 2, cI aN.out 0, cI aN.out 1⟩ (fun hHeld => ?_)
   clear hK K
   refine norm_ (a' := ?_) ?_ ?_
   rotate_left
   ·show Act.put _ (some 26) _ = _
    simp only [Act.put, sA, sZ, sS, i64_w, i32_w]
    rfl
   refine pZ 7 27 (bv 12 255) HT_ ?_
   refine one_ (i := 8) (N := some 28) (bv 12 511) rfl rfl (one_of HT_.out (by kernel_rfl)) (by decide) (fun K hK => ?_)
   refine value_ (w1 := ?_) (v := ?_) (by rfl) rfl ?_ ?_
   rotate_left 2
   ·go_simp
    constructor
    ·rfl
    ·rfl
   refine hK.out _ _ ⟨(bC (blk_alloc aC.out _) 0).trans rfl, (bC (blk_alloc aC.out _) 1).trans rfl, (bC (blk_alloc aC.out _) 2).trans rfl, (bC (blk_alloc aN.out _) 0).trans rfl, (bC (blk_alloc aN.out _) 1).trans rfl⟩ (fun hHeld => ?_)
   clear hK K
   refine norm_ (a' := ?_) ?_ ?_
   rotate_left
   ·show Act.put _ (some 28) _ = _
    simp only [Act.put, sA, sZ, sS, i64_w, i32_w]
    rfl
   refine one_ (i := 9) (N := some 29) (bv 12 1023) rfl rfl (one_of HT_.out (by kernel_rfl)) (by decide) (fun K hK => ?_)
   refine Kd.S_append_step k63 (w0 := w) w.heap.size (by rfl) (.tmp 21) (.tmp 28) 40 63 (.agg #[(.int .i64 0), (.slice none 0 0)]) 32 rfl Try.underlying40 info63 rfl (by decide) (by omega) bN bA (⟨(rd_T63 aG aJ).f0, cT⟩ : S63) [.int .i64 ((rd_T63 aG aJ).f0), .slice eJ cT.length eK] (fun k_ => k_ ≠ bM) (fun k_ => some k_ = (.slice eJ cT.length eK : Value).ownBlock) rfl rfl ?aP (fun k_ hk_ => ((Kd.R_mono (ok' := fun k_ => ((fun k_ => k_ ≠ bM)) k_ ∧ some k_ ≠ (bN : Value).ownBlock) (Kd.R_types (Kd.R_apart' (dA.out) (Kd.S_typed aE.out) (by decide)) aN.out (by decide)) (fun k_ hk => ⟨hk.2, hk.1.2⟩))).1 k_ hk_.symm) ?aF ?aO ?aB ?aS ?aL ?_
   (case aP => exact k63_mkM _ _ _ (⟨(rd_T63 aG aJ).f0, cT⟩ : S63) (Kd.R_mono (Kd.R_tight rfl (Kd.R_mono (ok' := fun k_ => ((fun k_ => k_ ≠ bM)) k_ ∧ some k_ ≠ (bN : Value).ownBlock) (Kd.R_types (Kd.R_apart' (dA.out) (Kd.S_typed aE.out) (by decide)) aN.out (by decide)) (fun k_ hk => ⟨hk.2, hk.1.2⟩))) (fun _ h_ => h_)))
   (case aB => exact (bl HB.out))
   (case aF => exact (fun k_ hk => Kd.freshB (g := bM) (o := .cells #[((rd_T63 aG aJ).f0), .slice cH ((rd_T63 aG aJ).f1).length cK] 63 (0, 0)) (bk aN.out) k_ hk))
   (case aO => exact (by (with_reducible repeat (first | apply Kd.S_alloc | apply Kd.S_drewN | apply Kd.S_drew)); exact Kd.S_mono aE.out (fun k_ hk => ⟨hk.1, fun e_ => hk.2 e_⟩)))
   (case aS => exact (below_size (bl HB.out)))
   (case aL => have := LMc25.out; omega)
   intro hU iF ho hb hg hat
   rw [← eP.out] at ho
   have eB := aM (ho)
   replace aH := aM (Kd.R_over' (kr aH.out) (Kd.S_typed (by (with_reducible repeat (first | apply Kd.S_alloc | apply Kd.S_drewN | apply Kd.S_drew)); exact aE.out)) (by decide) hg)
   replace aI := aM (Kd.R_over' (kr aI.out) (Kd.S_typed (by (with_reducible repeat (first | apply Kd.S_alloc | apply Kd.S_drewN | apply Kd.S_drew)); exact aE.out)) (by decide) hg)
   replace aA := aM (blk_grown (bk aA.out) hg (Kd.S_ne aE.out aA.out (by decide)))
   replace aD := aM (blk_grown (bk aD.out) hg (Kd.S_ne aE.out aD.out (by decide)))
   replace aC := aM (blk_grown (bk aC.out) hg (Kd.S_ne aE.out aC.out (by decide)))
   replace aN := aM (blk_grown (bk aN.out) hg (Kd.S_away aE.out (fun _ hk => hk.1)))
   replace HB := aM (hb)
   clear aE dA
   clear ho hb hg hat
   obtain ⟨dM, dN, eM⟩ := Kd.S_slice eB.out
   (first | subst eM | (injection eM with f1_ f2_ f3_; have f4_ := f1_.symm; have f5_ := f3_.symm; clear f1_ f2_ f3_; subst f4_; subst f5_))
   refine hK.out _ _ ⟨cI aC.out 0, cI aC.out 1, cI aC.out 2, cI aN.out 0, cI aN.out 1⟩ (fun hHeld => ?_)
   clear hK K
   refine norm_ (a' := ?_) ?_ ?_
   rotate_left
   ·show Act.put _ (some 29) _ = _
    simp only [Act.put, sA, sZ, sS, i64_w, i32_w]
    rfl
   refine pZ 10 30 (bv 12 2047) HT_ ?_
   refine last_ (i := 11) (N := none) (bv 12 4095) rfl rfl (one_of HT_.out (by kernel_rfl)) (by decide) (fun K hK => ?_)
   have hX := cI aC.out 1
   have hfs37 := bF aC.out 1
   have hns37_0 := aQ.out
   have hns37_1 := aW.out
   have hns37_3 := cY.out
   have hms37_0 := aT.out
   have hms37_1 := aX.out
   have hms37_3 := cX.out
   refine skip_ (w1 := ?_) (by rfl) rfl ?_ ?_
   rotate_left
   ·go_simp
    rfl
   refine hK.out _ _ ?_
   clear hK K
   refine done_ (done_of HT_.out (by kernel_rfl)) ?_
   try go_wp2
   go_roundg k1
   case measure => have := fC.out; omega
   case rel => exact ⟨(wS aJ), (cU), (.slice dM cU.length dN), xE, H', ⟨by have := fC.out; omega⟩, ⟨kr (Kd.R_mono (kF (p := ⟨aK, 1, none⟩) (Kd.R_types aH.out aC.out (by decide)) (fun _ hk => hk.2) (.slice dM cU.length dN)) (fun _ hk => trivial))⟩, ⟨by (with_reducible repeat (first | apply Kd.S_alloc | apply Kd.S_drewN | apply Kd.S_drew)); exact Kd.S_mono (Kd.S_far (p := ⟨aK, 1, none⟩) (Kd.S_types eB.out aC.out (by decide)) (fun _ hk => hk.2) (.slice dM cU.length dN)) (fun _ hk => trivial)⟩, ⟨kr (Kd.R_mono (kF (p := ⟨aK, 1, none⟩) (Kd.R_types aI.out aC.out (by decide)) (fun _ hk => hk.2) (.slice dM cU.length dN)) (fun _ hk => trivial))⟩, ⟨fm aA.out⟩, ⟨fm aD.out⟩, ⟨by (with_reducible repeat (first | refine blk_drewN ?_ _ | refine blk_drew ?_ | refine blk_alloc ?_ _)); refine blk_put (cs := #[.slice cE bI.length cG, bN, .slice cC aV.length cD]) ?_ 1 _ rfl; (with_reducible repeat (first | refine blk_drewN ?_ _ | refine blk_drew ?_ | refine blk_alloc ?_ _)); exact aC.out⟩, ⟨bl HB.out⟩⟩

end Go.Proofs.Ythmijfekdeagpaa.PFnExactGate

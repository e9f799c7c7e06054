/- A part of the proof of laws.FnFrames. No condition beyond what its theorems say. -/
import Derived.Test.YtaoipjdmmamkmaaVFnFramesPx4
namespace Go.Proofs.Ytaoipjdmmamkmaa.PFnFrames
open Go.RowKit Go.Proofs.YtaoipjdmmamkmaaW.PrintWords Go.Proofs.YtaoipjdmmamkmaaW.PrintLast Go.Proofs.YtaoipjdmmamkmaaW.PrintMore
set_option linter.unusedVariables false
set_option linter.unusedSimpArgs false

def spec_l1Once.f (aC : List Int) (aD aE a1 : Int) : Option (Bool × Int × Int) := (spec_l1Below.f aC aD aE a1).bind fun aA => (some ((aA.1 == 0), aA.2.1, aA.2.2))
set_option maxHeartbeats 60000000 in
set_option maxRecDepth 100000 in
theorem spec_l1Once.calls (g : Nat) (aA : List Int) (aC aD a1 : Int) (r1 : Bool) (r2 r3 : Int) (w0 w : World) (hI : IsS91 w0 w g aA aC aD) (hB : Below w0.heap.size w0 w) (h : spec_l1Once.f aA aC aD a1 = some (r1, r2, r3)) :
  Calls Try.prog 50 #[.pointer (some ⟨g, 0, none⟩), a1] w fun e w' => e = .returned (.bool r1) ∧ IsS91 w0 w' g aA r2 r3 ∧ Below w0.heap.size w0 w' ∧ KeepBut w w' g none := by
 have aG := aM hI
 have HK := aM (KeepBut.refl w g none)
 have HL := aM hB.size
 clear hI
 have HW0 := aM hB.size
 have HB := aM hB
 clear hB
 have H : ((spec_l1Below.f aA aC aD a1).bind fun aE => (some ((aE.1 == 0), aE.2.1, aE.2.2))) = some (r1, r2, r3) := h
 clear h
 obtain ⟨⟨aI, aJ, aK⟩, aH, H⟩ := hB H
 try dsimp only at H
 have A3 := aM aH
 clear aH
 simp only [Option.some.injEq, Prod.mk.injEq] at H
 obtain ⟨rfl, rfl, rfl⟩ := H
 go_enter Try.func50, Try.ntmps50
 go_wp2_with (first | ((with_reducible refine gC (f := 64) rfl ?_); refine gL (some 7) Try.func64 #[.pointer (some ⟨g, 0, none⟩), a1] ?_; (with_reducible refine (spec_l1Below.calls g aA aC aD a1 aI aJ aK w0 _ ?side1 ?side2 A3.out).mono ?_); (case side1 => exact IsS91.mv aG.out); (case side2 => exact IsS91.bl HB.out); rintro e w4 ⟨rfl, hi, hb, hk⟩; refine ⟨_, rfl, ?_⟩; replace HK := aM (KeepBut.trans (km HK.out) hk (.inl rfl)); replace HB := aM (hb); replace aG := aM (hi); (repeat first|clear hb|clear hk|clear hi)))
 go_ret
 exact ⟨xW, IsS91.mv aG.out, IsS91.bl HB.out, km HK.out⟩

def spec_l2Copy.f (aD aE aG : Int) (aA : List Int) : Option (Int × Int × Int × List Int) := (some (([] : List Int) : List Int)).bind fun aC => (if aC.length + aA.length < 140737488355328 then (some (aD, aE, aG, (aC ++ aA))) else (none))
set_option maxHeartbeats 60000000 in
set_option maxRecDepth 100000 in
theorem spec_l2Copy.calls (aG aH aI : Int) (aW : Option Addr) (aX : Nat) (aC : List Int) (r1 r2 r3 : Int) (r4 : List Int) (w : World) (hr0_3 : Kd.C (Kd.int .u8) w aW aC.length aC) (hc0_3 : aC.length ≤ aX) (h : spec_l2Copy.f aG aH aI aC = some (r1, r2, r3, r4)) :
  Calls Try.prog 51 #[.agg #[aG, aH, aI, .slice aW aC.length aX]] w fun e w' => ∃ bM : Value, e = .returned (.agg #[r1, r2, r3, bM]) ∧ Kd.R (Kd.int .u8) 5 w' w.heap.size (fun _ => True) bM r4 ∧ Below w.heap.size w w' := by
 have bY := Try.underlying25
 have bJ := aM hr0_3
 have bP := aM hc0_3
 clear hr0_3 hc0_3
 have HB := aM (Below.refl w.heap.size w)
 have H : ((some (([] : List Int) : List Int)).bind fun aN => (if aN.length + aC.length < 140737488355328 then (some (aG, aH, aI, (aN ++ aC))) else (none))) = some (r1, r2, r3, r4) := h
 clear h
 obtain ⟨aN, bG, H⟩ := hS H
 have bH := aM bG
 clear bG
 by_cases c2 : aN.length + aC.length < 140737488355328
 case neg =>
  rw [if_neg c2] at H
  exact absurd H (by simp)
 rw [if_pos c2] at H
 have LMc2 := aM c2
 clear c2
 obtain ⟨aQ, aJ⟩ : ∃ y_ : List Int, y_ = (aN ++ aC) := ⟨_, rfl⟩
 replace H : (some (aG, aH, aI, aQ)) = some (r1, r2, r3, r4) := by first | (rw [aJ]; with_reducible exact H) | (have H2_ := (Option.bind_some _ _).symm.trans H; rw [aJ]; with_reducible exact H2_) | (have H2_ := (Option.bind_some _ _).symm.trans H; with_reducible exact H2_) | with_reducible exact H | (rw [aJ]; exact H) | exact H
 have bK := aM aJ
 clear aJ
 simp only [Option.some.injEq, Prod.mk.injEq] at H
 obtain ⟨rfl, rfl, rfl, rfl⟩ := H
 go_enter Try.func51, Try.ntmps51
 go_wp2_with (first | ((with_reducible refine gD (N := 1) rfl ?_); refine bE (N := 1) (cs := #[aG, aH, aI, .slice aW aC.length aX]) (t := 25) ?_; intro bL hg w3 hbox hb; have aA := aM (hbox); have bQ := gF hg HB; have bT := gF hg HB; replace HB := rS HB hb; clear hb hbox hg) | ((with_reducible refine gD (N := 2) rfl ?_); refine bE (N := 2) (cs := #[.int .i64 0, .int .i64 0, .int .i64 0, .slice none 0 0]) (t := 25) ?_; intro aK hg w4 hbox hb; have aD := aM (hbox); have bU := gF hg HB; have bV := gF hg HB; have aT := nM hg aA; have aV := nH hg aA; replace aA := rB aA hb; replace HB := rS HB hb; clear hb hbox hg) | ((with_reducible refine gD (N := 3) rfl ?_); refine Kd.R_lit (Kd.int .u8) _ 5 ?hg (N := 3) ?hd (xs := ([] : List Int)) (inner := []) (ok := fun _ => True) (okp := fun _ => True) ?hr ?hp (fun _ hk => hk) trivial (Below.refl _ _) (Nat.le_refl _) (by simp) ?_; (case hd => rfl); (case hg => rfl); (case hr => first | (go_simp; done) | (go_simp; rfl) | (obtain ⟨A_, c_, e_⟩ := Kd.R_slice aE.out; subst e_; (first | (go_simp; done) | (go_simp; rfl))) | (obtain ⟨A_, c_, e_⟩ := Kd.S_slice aE.out; subst e_; (first | (go_simp; done) | (go_simp; rfl)))); (case hp => exact (Reps.none _ _)); intro bN w5 ho6 hb hg_ hnew_; clear hg_ hnew_; (first | rw [← bH.out] at ho6 | (simp only [Int.reduceToNat] at ho6; rw [← bH.out] at ho6)); have aE := aM (Kd.R_lower ho6 (below_size (bl HB.out))); replace aA := rB aA hb; replace aD := rB aD hb; replace HB := rS HB hb; clear hb ho6; have bZ := aT.out; have cA := aV.out; have cC := cA4 aA.out) | ((with_reducible refine gate_builtin (b := .append) (xs := #[.tmp 3, .tmp 5]) rfl ?_); at_builtin; refine Kd.R_append_rows (Kd.int .u8) (w0 := w) w.heap.size rfl (.tmp 3) (.tmp 5) 22 5 (.int .u8 0) 1 rfl Try.underlying22 info5 rfl (by decide) (by omega) bN aN aC _ _ _ (fun _ => True) (fun _ => False) rfl rfl ?aO ?aR (fun _ _ h => h) (fun _ h => h.elim) ?aF ?aB ?aS ?aL ?_; (case aR => repeat (first | exact (cB bJ.out HB.out) | (with_reducible refine Kd.C_alloc ?_ _) | (with_reducible refine Kd.C_drewN ?_ _) | (with_reducible refine Kd.C_drew ?_))); (case aB => exact (bl HB.out)); (case aF => exact (fun _ _ => trivial)); (case aO => exact (kr aE.out)); (case aS => exact (below_size (bl HB.out))); (case aL => have := LMc2.out; omega); intro cD w9 ho hb hg hat; rw [← bK.out] at ho; have bI := aM (ho); replace aA := aM (blk_grown (bk aA.out) hg (Kd.R_ne aE.out aA.out (by decide))); replace aD := aM (blk_grown (bk aD.out) hg (Kd.R_ne aE.out aD.out (by decide))); replace HB := aM (hb); clear aE; clear ho hb hg hat; obtain ⟨bA, bD, bO⟩ := Kd.R_slice bI.out; subst bO; have bW := cA4 aA.out; have bX := cA4 aD.out))
 refine bodyPost_ret (results_cell_row rfl _ _ aK 25 #[aG, aH, aI, .slice bA aQ.length bD] (0, 0) _ rfl (bm aD.out) Try.underlying25 rfl (by kernel_rfl)) rfl ?_
 exact ⟨_, xW, by (with_reducible repeat (first | apply Kd.R_alloc | apply Kd.R_drewN | apply Kd.R_drew)); exact Kd.R_mono (kF (p := ⟨aK, 3, none⟩) (kF (p := ⟨aK, 2, none⟩) (kF (p := ⟨aK, 1, none⟩) (kF (p := ⟨aK, 0, none⟩) (kF (p := ⟨bL, 3, none⟩) (Kd.R_types (Kd.R_types bI.out aA.out (by decide)) aD.out (by decide)) (fun _ hk => hk.1.2) (.slice bA aQ.length bD)) (fun _ hk => hk.2) (.int .i64 aG)) (fun _ hk => hk.2) (.int .i64 aH)) (fun _ hk => hk.2) (.int .i64 aI)) (fun _ hk => hk.2) (.slice bA aQ.length bD)) (fun _ hk => trivial), bl HB.out⟩

def spec_DrawFrameSame.f (k : Nat) (l0 : List Int) : Option (Int × Int × Int × List Int × Int × Int × Int × List Int) := (spec_l1New.f k l0).bind fun aC => ((spec_l2Draw.f k aC.1 aC.2.1 aC.2.2).bind fun aA => ((spec_l1Once.f aC.1 aA.2.2.2.2.1 aA.2.2.2.2.2 2).bind fun aG => (if aG.1 = true then ((spec_l2Copy.f aA.1 aA.2.1 aA.2.2.1 aA.2.2.2.1).bind fun aD => (some (aA.1, aA.2.1, aA.2.2.1, aA.2.2.2.1, aD.1, aD.2.1, aD.2.2.1, aD.2.2.2))) else ((spec_l2Draw.f k aC.1 aG.2.1 aG.2.2).bind fun aE => (some (aA.1, aA.2.1, aA.2.2.1, aA.2.2.2.1, aE.1, aE.2.1, aE.2.2.1, aE.2.2.2.1))))))
theorem spec_DrawFrameSame.mono : ∀ a0 k, LeO (spec_DrawFrameSame.f k a0) (spec_DrawFrameSame.f (k + 1) a0) := by
 intro a0 k
 unfold spec_DrawFrameSame.f
 repeat' first|(with_reducible first|apply spec_l1New.mono|apply spec_l2Draw.mono|exact lR _|exact lN _|refine lI ?_ ?_|refine lB ?_ fun _ => ?_)|exact lN _|refine lI ?_ ?_|refine lB ?_ fun _ => ?_
set_option maxHeartbeats 60000000 in
set_option maxRecDepth 100000 in
theorem spec_DrawFrameSame.calls (k : Nat) (A0 : Option Addr) (c0 : Nat) (l0 : List Int) (r1 r2 r3 : Int) (r4 : List Int) (r5 r6 r7 : Int) (r8 : List Int) (w : World) (hr0 : Kd.C (Kd.int .u8) w A0 l0.length l0) (hc0 : l0.length ≤ c0) (h : spec_DrawFrameSame.f k l0 = some (r1, r2, r3, r4, r5, r6, r7, r8)) :
  Calls Try.prog 12 #[.slice A0 l0.length c0] w fun e w' => ∃ cY dA : Value, e = .returned (.tuple #[.agg #[r1, r2, r3, cY], .agg #[r5, r6, r7, dA]]) ∧ Kd.R (Kd.int .u8) 5 w' w.heap.size (fun k_ => some k_ ≠ (dA : Value).ownBlock) cY r4 ∧ Kd.R (Kd.int .u8) 5 w' w.heap.size (fun k_ => some k_ ≠ (cY : Value).ownBlock) dA r8 ∧ Below w.heap.size w w' := by
 have eO := Try.underlying25
 have dK := aM hr0
 have dL := aM hc0
 clear hr0 hc0
 have HB := aM (Below.refl w.heap.size w)
 have H : ((spec_l1New.f k l0).bind fun bT => ((spec_l2Draw.f k bT.1 bT.2.1 bT.2.2).bind fun aW => ((spec_l1Once.f bT.1 aW.2.2.2.2.1 aW.2.2.2.2.2 2).bind fun bY => (if bY.1 = true then ((spec_l2Copy.f aW.1 aW.2.1 aW.2.2.1 aW.2.2.2.1).bind fun bW => (some (aW.1, aW.2.1, aW.2.2.1, aW.2.2.2.1, bW.1, bW.2.1, bW.2.2.1, bW.2.2.2))) else ((spec_l2Draw.f k bT.1 bY.2.1 bY.2.2).bind fun bX => (some (aW.1, aW.2.1, aW.2.2.1, aW.2.2.2.1, bX.1, bX.2.1, bX.2.2.1, bX.2.2.2.1))))))) = some (r1, r2, r3, r4, r5, r6, r7, r8) := h
 clear h
 obtain ⟨⟨bL, bZ, cA⟩, dM, H⟩ := hB H
 try dsimp only at H
 have A2 := aM dM
 clear dM
 obtain ⟨⟨bA, bD, bG, bH, bM, bN⟩, dN, H⟩ := hB H
 try dsimp only at H
 have A3 := aM dN
 clear dN
 obtain ⟨⟨dQ, cC, cD⟩, dO, H⟩ := hB H
 try dsimp only at H
 have A4 := aM dO
 clear dO
 by_cases c5 : dQ = true
 case pos =>
  subst c5
  replace H := hP H rfl
  obtain ⟨⟨cE, cG, cH, cK⟩, dP, H⟩ := hB H
  try dsimp only at H
  have A6 := aM dP
  clear dP
  simp only [Option.some.injEq, Prod.mk.injEq] at H
  obtain ⟨rfl, rfl, rfl, rfl, rfl, rfl, rfl, rfl⟩ := H
  go_enter Try.func12, Try.ntmps12
  try go_wp2_with (first | ((with_reducible refine gD (N := 2) rfl ?_); refine bE (N := 2) (cs := #[.int .i64 0, .int .i64 0, .int .i64 0, .slice none 0 0]) (t := 25) ?_; intro aT hg w7 hbox hb; have aA := aM (hbox); have dE := gF hg HB; have dF := gF hg HB; replace HB := rS HB hb; clear hb hbox hg) | ((with_reducible refine gD (N := 3) rfl ?_); refine bE (N := 3) (cs := #[.int .i64 0, .int .i64 0, .int .i64 0, .slice none 0 0]) (t := 25) ?_; intro aV hg w8 hbox hb; have aC := aM (hbox); have dG := gF hg HB; have dH := gF hg HB; have aE := nM hg aA; have aG := nH hg aA; replace aA := rB aA hb; replace HB := rS HB hb; clear hb hbox hg) | ((with_reducible refine gC (f := 40) rfl ?_); refine gL (some 7) Try.func40 #[.slice A0 l0.length c0] ?_; (with_reducible refine (spec_l1New.calls k _ _ l0 bL bZ cA w _ ?side1 ?side2 ?side3 A2.out).mono ?_); (case side1 => exact bl HB.out); (case side2 => exact dK.out); (case side3 => exact dL.out); rintro e w9 ⟨g382, rfl, hi, hb, hb2⟩; refine ⟨_, rfl, ?_⟩; have aH := aM (hi); have cQ := aM (IsS91.ne_blk hi (bB (bk aA.out) hb2) (by decide)); have bI := aM (Ne.symm (IsS91.ne_blk hi (bB (bk aA.out) hb2) (by decide))); have cR := aM (IsS91.ne_blk hi (bB (bk aC.out) hb2) (by decide)); have bJ := aM (Ne.symm (IsS91.ne_blk hi (bB (bk aC.out) hb2) (by decide))); replace aA := aM (bB (bk aA.out) hb2); replace aC := aM (bB (bk aC.out) hb2); replace HB := aM (hb); (repeat first|clear hb|clear hb2|clear hi)) | ((with_reducible refine gC (f := 39) rfl ?_); refine gL (some 9) Try.func39 #[.pointer (some ⟨g382, 0, none⟩)] ?_; (with_reducible refine (spec_l2Draw.calls k g382 bL bZ cA bA bD bG bH bM bN w _ ?side1 ?side2 A3.out).mono ?_); (case side1 => exact IsS91.mv aH.out); (case side2 => exact IsS91.bl HB.out); rintro e fH ⟨dR, rfl, ho0, hi, hb, hk⟩; refine ⟨_, rfl, ?_⟩; have aI := aM (Kd.R_lower ho0 (below_size (IsS91.bl HB.out))); replace aA := rP hk aA bI; replace aC := rP hk aC bJ; replace HB := aM (hb); replace aH := aM (hi); (repeat first|clear hb|clear hk|clear hi|clear ho0)) | ((with_reducible refine gD (N := 5) rfl ?_); refine bR aI (N := 5) (cs := #[.int .i64 0, .int .i64 0, .int .i64 0, .slice none 0 0]) (t := 25) ?_; intro aX hg fI hbox hb; have aD := aM (hbox); have dI := gE hg (below_size (IsS91.bl HB.out)); have dJ := gE hg (below_size (IsS91.bl HB.out)); have aJ := nM hg aA; have aK := nH hg aA; have aN := nM hg aC; have aQ := nH hg aC; have bO := nL hg (IsS91.lt (show IsS91 w _ g382 bL bM bN from IsS91.mv aH.out)); have bK := nG hg (IsS91.lt (show IsS91 w _ g382 bL bM bN from IsS91.mv aH.out)); replace aI := rK aI hb; replace aA := rB aA hb; replace aC := rB aC hb; replace aH := aM (IsS91.below (IsS91.mv aH.out) hb); replace HB := aM (bS (IsS91.bl HB.out) hb); clear hb hbox hg; have eA := aK.out; have eB := aJ.out; have eC := aQ.out; have eD := aN.out; have eE := bK.out; have eF := bO.out; have eG := cA4 aD.out; obtain ⟨bP, bQ, dS⟩ := Kd.R_slice aI.out; subst dS) | ((with_reducible refine gC (f := 50) rfl ?_); refine gL (some 11) Try.func50 #[.pointer (some ⟨g382, 0, none⟩), .int .i64 2] ?_; (with_reducible refine (spec_l1Once.calls g382 bL bM bN 2 true cC cD w _ ?side1 ?side2 A4.out).mono ?_); (case side1 => exact IsS91.mv aH.out); (case side2 => exact IsS91.bl HB.out); rintro e dX ⟨rfl, hi, hb, hk⟩; refine ⟨_, rfl, ?_⟩; replace aA := aM (KeepBut.blk hk (fm aA.out) bI.out (by simp)); replace aC := aM (KeepBut.blk hk (fm aC.out) bJ.out (by simp)); replace aI := aM (Kd.R_mono (Kd.R_keep (IsS91.apart (show IsS91 w _ g382 bL bM bN from IsS91.mv aH.out) (kr (Kd.R_mono (kF (p := ⟨aX, 3, none⟩) (kF (p := ⟨aX, 2, none⟩) (kF (p := ⟨aX, 1, none⟩) (kF (p := ⟨aX, 0, none⟩) (Kd.R_types aI.out aD.out (by decide)) (fun _ hk => hk.2) (.int .i64 bA)) (fun _ hk => hk.2) (.int .i64 bD)) (fun _ hk => hk.2) (.int .i64 bG)) (fun _ hk => hk.2) (.slice bP bH.length bQ)) (fun _ h_ => h_.1))) (by decide)) hk (fun _ h => h.2)) (fun _ h => h.1)); replace aD := aM (KeepBut.blk hk (g' := aX) (o := .cells #[bA, bD, bG, .slice bP bH.length bQ] 25 (0, 0)) (bm aD.out) bK.out (by simp)); replace HB := aM (hb); replace aH := aM (hi); (repeat first|clear hb|clear hk|clear hi)))
  replace aI := aM (Kd.R_drew aI.out)
  replace aA := aM (blk_drew aA.out)
  replace aC := aM (blk_drew aC.out)
  replace aD := aM (blk_drew aD.out)
  replace aH := aM (IsS91.drew aH.out)
  replace HB := aM (below_drew1 HB.out)
  refine start_ (n := 5) (S := fun w' => cS4 w' aX (.int .i64 bA) (.int .i64 bD) (.int .i64 bG) (.slice bP bH.length bQ)) (ds := []) (dn 5 0) (by kernel_rfl) rfl rfl ⟨cI aD.out 0, cI aD.out 1, cI aD.out 2, cI aD.out 3⟩ (fun hHeld => ?_)
  generalize dX.drew = fK at aI aA aC aD aH HB hHeld ⊢
  refine take_ (i := 0) (N := some 12) (v := ?_) (a' := ?_) (bv 5 1) rfl rfl (by kernel_rfl) (fun _ _ _ h => h) (Or.inl ⟨by rfl, ?_⟩) hHeld ?_ ?_
  rotate_left
  ·rintro w' ⟨s0, s1, s2, s3⟩
   go_simp
   with_reducible rfl
  rotate_left
  ·simp only [Act.put, sA, sZ, sS, i64_w, i32_w]
   rfl
  refine take_ (i := 1) (N := some 13) (v := ?_) (a' := ?_) (bv 5 3) rfl rfl (by kernel_rfl) (fun _ _ _ h => h) (Or.inl ⟨by rfl, ?_⟩) hHeld ?_ ?_
  rotate_left
  ·rintro w' ⟨s0, s1, s2, s3⟩
   go_simp
   with_reducible rfl
  rotate_left
  ·simp only [Act.put, sA, sZ, sS, i64_w, i32_w]
   rfl
  refine one_ (i := 2) (N := some 14) (bv 5 7) rfl rfl (by kernel_rfl) (by decide) (fun K hK => ?_)
  refine goes_ Try.func51 (by kernel_rfl) rfl #[.agg #[bA, bD, bG, .slice bP bH.length bQ]] (by rfl) rfl rfl xR ?_
  with_reducible refine (spec_l2Copy.calls bA bD bG _ _ bH cE cG cH cK _ ?side1 ?side2 A6.out).mono ?_
  (case side1 => exact cM ((Kd.R_reads' aI.out).2.2))
  (case side2 => exact (Kd.R_reads' aI.out).2.1)
  rintro e fL ⟨eP, rfl, ho0, hb⟩
  refine ⟨_, rfl, ?_⟩
  have cW := aM (Kd.R_lower (Kd.R_new' ho0 (Kd.R_lt (kr aI.out))) (below_size (IsS91.bl HB.out)))
  replace aI := aM (Kd.R_elder' (kr aI.out) (Kd.R_base ho0) hb)
  replace aA := rB aA hb
  replace aC := rB aC hb
  replace aH := aM (IsS91.below (IsS91.mv aH.out) hb)
  replace aD := rB aD hb
  replace HB := aM (bS (IsS91.bl HB.out) hb)
  (try clear hb)
  (try clear hb2)
  (try clear hk)
  (try clear hi)
  (try clear ho0)
  obtain ⟨cS, cT, dB⟩ := Kd.R_slice cW.out
  (first | subst dB | (injection dB with f1_ f2_ f3_; have f4_ := f1_.symm; have f5_ := f3_.symm; clear f1_ f2_ f3_; subst f4_; subst f5_))
  refine hK.out _ _ ⟨cI aD.out 0, cI aD.out 1, cI aD.out 2, cI aD.out 3⟩ (fun hHeld => ?_)
  clear hK K
  refine norm_ (a' := ?_) ?_ ?_
  rotate_left
  ·show Act.put _ (some 14) _ = _
   simp only [Act.put, sA, sZ, sS, i64_w, i32_w]
   rfl
  refine one_ (i := 3) (N := none) (bv 5 15) rfl rfl (by kernel_rfl) (by decide) (fun K hK => ?_)
  have eQ := cI aA.out 0
  have hfs20 := bF aA.out 0
  have hns20_1 := aG.out
  have hns20_2 := aK.out
  have hms20_1 := aE.out
  have hms20_2 := aJ.out
  have eR := cI aA.out 1
  have hfs21 := bF aA.out 1
  have hns21_1 := aG.out
  have hns21_2 := aK.out
  have hms21_1 := aE.out
  have hms21_2 := aJ.out
  have eS := cI aA.out 2
  have hfs22 := bF aA.out 2
  have hns22_1 := aG.out
  have hns22_2 := aK.out
  have hms22_1 := aE.out
  have hms22_2 := aJ.out
  have eT := cI aA.out 3
  have hfs23 := bF aA.out 3
  have hns23_1 := aG.out
  have hns23_2 := aK.out
  have hms23_1 := aE.out
  have hms23_2 := aJ.out
  refine skip_ (w1 := ?_) (by rfl) rfl ?_ ?_
  rotate_left
  ·go_simp
   rfl
  refine hK.out _ _ ⟨(cm (hHeld.1)), (cm (hHeld.2.1)), (cm (hHeld.2.2.1)), (cm (hHeld.2.2.2))⟩ (fun hHeld => ?_)
  clear hK K
  refine one_ (i := 4) (N := none) (bv 5 31) rfl rfl (by kernel_rfl) (by decide) (fun K hK => ?_)
  have eU := cI aC.out 0
  have hfs24 := bF aC.out 0
  have hns24_0 := aE.out
  have hns24_2 := aQ.out
  have hms24_0 := aG.out
  have hms24_2 := aN.out
  have eV := cI aC.out 1
  have hfs25 := bF aC.out 1
  have hns25_0 := aE.out
  have hns25_2 := aQ.out
  have hms25_0 := aG.out
  have hms25_2 := aN.out
  have eW := cI aC.out 2
  have hfs26 := bF aC.out 2
  have hns26_0 := aE.out
  have hns26_2 := aQ.out
  have hms26_0 := aG.out
  have hms26_2 := aN.out
  have eX := cI aC.out 3
  have hfs28 := bF aC.out 3
  have hns28_0 := aE.out
  have hns28_2 := aQ.out
  have hms28_0 := aG.out
  have hms28_2 := aN.out
  refine skip_ (w1 := ?_) (by rfl) rfl ?_ ?_
  rotate_left
  ·go_simp
   rfl
  refine hK.out _ _ ⟨(cm (hHeld.1)), (cm (hHeld.2.1)), (cm (hHeld.2.2.1)), (cm (hHeld.2.2.2))⟩ (fun hHeld => ?_)
  clear hK K
  refine done_ (by kernel_rfl) ?_
  try go_wp2
  refine bodyPost_ret (results_cc rfl _ _ aT aV 25 25 #[bA, bD, bG, .slice bP bH.length bQ] #[cE, cG, cH, .slice cS cK.length cT] (0, 0) (0, 0) _ _ rfl (bm aA.out) Try.underlying25 rfl (by kernel_rfl) rfl (bm aC.out) Try.underlying25 rfl (by kernel_rfl)) rfl ?_
  exact ⟨_, _, xW, by (with_reducible repeat (first | apply Kd.R_alloc | apply Kd.R_drewN | apply Kd.R_drew)); exact Kd.R_mono (kF (p := ⟨aV, 3, none⟩) (kF (p := ⟨aV, 2, none⟩) (kF (p := ⟨aV, 1, none⟩) (kF (p := ⟨aV, 0, none⟩) (kF (p := ⟨aT, 3, none⟩) (kF (p := ⟨aT, 2, none⟩) (kF (p := ⟨aT, 1, none⟩) (kF (p := ⟨aT, 0, none⟩) (Kd.R_types (Kd.R_types aI.out aA.out (by decide)) aC.out (by decide)) (fun _ hk => hk.1.2) (.int .i64 bA)) (fun _ hk => hk.1.2) (.int .i64 bD)) (fun _ hk => hk.1.2) (.int .i64 bG)) (fun _ hk => hk.1.2) (.slice bP bH.length bQ)) (fun _ hk => hk.2) (.int .i64 cE)) (fun _ hk => hk.2) (.int .i64 cG)) (fun _ hk => hk.2) (.int .i64 cH)) (fun _ hk => hk.2) (.slice cS cK.length cT)) (fun _ hk => hk.1.1.2), by (with_reducible repeat (first | apply Kd.R_alloc | apply Kd.R_drewN | apply Kd.R_drew)); exact Kd.R_mono (kF (p := ⟨aV, 3, none⟩) (kF (p := ⟨aV, 2, none⟩) (kF (p := ⟨aV, 1, none⟩) (kF (p := ⟨aV, 0, none⟩) (kF (p := ⟨aT, 3, none⟩) (kF (p := ⟨aT, 2, none⟩) (kF (p := ⟨aT, 1, none⟩) (kF (p := ⟨aT, 0, none⟩) (Kd.R_types (Kd.R_types cW.out aA.out (by decide)) aC.out (by decide)) (fun _ hk => hk.1.2) (.int .i64 bA)) (fun _ hk => hk.1.2) (.int .i64 bD)) (fun _ hk => hk.1.2) (.int .i64 bG)) (fun _ hk => hk.1.2) (.slice bP bH.length bQ)) (fun _ hk => hk.2) (.int .i64 cE)) (fun _ hk => hk.2) (.int .i64 cG)) (fun _ hk => hk.2) (.int .i64 cH)) (fun _ hk => hk.2) (.slice cS cK.length cT)) (fun _ hk => hk.1.1.2), IsS91.bl HB.out⟩
 replace c5 := Bool.eq_false_iff.mpr c5
 subst c5
 replace H := hF H
 obtain ⟨⟨cL, cN, cO, cP, dU, dV⟩, dC, H⟩ := hB H
 try dsimp only at H
 have dY := aM dC
 clear dC
 simp only [Option.some.injEq, Prod.mk.injEq] at H
 obtain ⟨rfl, rfl, rfl, rfl, rfl, rfl, rfl, rfl⟩ := H
 go_enter Try.func12, Try.ntmps12
 try go_wp2_with (first | ((with_reducible refine gD (N := 2) rfl ?_); refine bE (N := 2) (cs := #[.int .i64 0, .int .i64 0, .int .i64 0, .slice none 0 0]) (t := 25) ?_; intro aT hg fM hbox hb; have aA := aM (hbox); have dE := gF hg HB; have dF := gF hg HB; replace HB := rS HB hb; clear hb hbox hg) | ((with_reducible refine gD (N := 3) rfl ?_); refine bE (N := 3) (cs := #[.int .i64 0, .int .i64 0, .int .i64 0, .slice none 0 0]) (t := 25) ?_; intro aV hg fN hbox hb; have aC := aM (hbox); have dG := gF hg HB; have dH := gF hg HB; have aE := nM hg aA; have aG := nH hg aA; replace aA := rB aA hb; replace HB := rS HB hb; clear hb hbox hg) | ((with_reducible refine gC (f := 40) rfl ?_); refine gL (some 7) Try.func40 #[.slice A0 l0.length c0] ?_; (with_reducible refine (spec_l1New.calls k _ _ l0 bL bZ cA w _ ?side1 ?side2 ?side3 A2.out).mono ?_); (case side1 => exact bl HB.out); (case side2 => exact dK.out); (case side3 => exact dL.out); rintro e fO ⟨g382, rfl, hi, hb, hb2⟩; refine ⟨_, rfl, ?_⟩; have aH := aM (hi); have cQ := aM (IsS91.ne_blk hi (bB (bk aA.out) hb2) (by decide)); have bI := aM (Ne.symm (IsS91.ne_blk hi (bB (bk aA.out) hb2) (by decide))); have cR := aM (IsS91.ne_blk hi (bB (bk aC.out) hb2) (by decide)); have bJ := aM (Ne.symm (IsS91.ne_blk hi (bB (bk aC.out) hb2) (by decide))); replace aA := aM (bB (bk aA.out) hb2); replace aC := aM (bB (bk aC.out) hb2); replace HB := aM (hb); (repeat first|clear hb|clear hb2|clear hi)) | ((with_reducible refine gC (f := 39) rfl ?_); refine gL (some 9) Try.func39 #[.pointer (some ⟨g382, 0, none⟩)] ?_; (with_reducible refine (spec_l2Draw.calls k g382 bL bZ cA bA bD bG bH bM bN w _ ?side1 ?side2 A3.out).mono ?_); (case side1 => exact IsS91.mv aH.out); (case side2 => exact IsS91.bl HB.out); rintro e fP ⟨dR, rfl, ho0, hi, hb, hk⟩; refine ⟨_, rfl, ?_⟩; have aI := aM (Kd.R_lower ho0 (below_size (IsS91.bl HB.out))); replace aA := rP hk aA bI; replace aC := rP hk aC bJ; replace HB := aM (hb); replace aH := aM (hi); (repeat first|clear hb|clear hk|clear hi|clear ho0)) | ((with_reducible refine gD (N := 5) rfl ?_); refine bR aI (N := 5) (cs := #[.int .i64 0, .int .i64 0, .int .i64 0, .slice none 0 0]) (t := 25) ?_; intro aX hg fQ hbox hb; have aD := aM (hbox); have dI := gE hg (below_size (IsS91.bl HB.out)); have dJ := gE hg (below_size (IsS91.bl HB.out)); have aJ := nM hg aA; have aK := nH hg aA; have aN := nM hg aC; have aQ := nH hg aC; have bO := nL hg (IsS91.lt (show IsS91 w _ g382 bL bM bN from IsS91.mv aH.out)); have bK := nG hg (IsS91.lt (show IsS91 w _ g382 bL bM bN from IsS91.mv aH.out)); replace aI := rK aI hb; replace aA := rB aA hb; replace aC := rB aC hb; replace aH := aM (IsS91.below (IsS91.mv aH.out) hb); replace HB := aM (bS (IsS91.bl HB.out) hb); clear hb hbox hg; have eH := aK.out; have eI := aJ.out; have eJ := aQ.out; have eK := aN.out; have eL := bK.out; have eM := bO.out; have eN := cA4 aD.out; obtain ⟨bU, bV, dW⟩ := Kd.R_slice aI.out; subst dW) | ((with_reducible refine gC (f := 50) rfl ?_); refine gL (some 11) Try.func50 #[.pointer (some ⟨g382, 0, none⟩), .int .i64 2] ?_; (with_reducible refine (spec_l1Once.calls g382 bL bM bN 2 false cC cD w _ ?side1 ?side2 A4.out).mono ?_); (case side1 => exact IsS91.mv aH.out); (case side2 => exact IsS91.bl HB.out); rintro e dZ ⟨rfl, hi, hb, hk⟩; refine ⟨_, rfl, ?_⟩; replace aA := aM (KeepBut.blk hk (fm aA.out) bI.out (by simp)); replace aC := aM (KeepBut.blk hk (fm aC.out) bJ.out (by simp)); replace aI := aM (Kd.R_mono (Kd.R_keep (IsS91.apart (show IsS91 w _ g382 bL bM bN from IsS91.mv aH.out) (kr (Kd.R_mono (kF (p := ⟨aX, 3, none⟩) (kF (p := ⟨aX, 2, none⟩) (kF (p := ⟨aX, 1, none⟩) (kF (p := ⟨aX, 0, none⟩) (Kd.R_types aI.out aD.out (by decide)) (fun _ hk => hk.2) (.int .i64 bA)) (fun _ hk => hk.2) (.int .i64 bD)) (fun _ hk => hk.2) (.int .i64 bG)) (fun _ hk => hk.2) (.slice bU bH.length bV)) (fun _ h_ => h_.1))) (by decide)) hk (fun _ h => h.2)) (fun _ h => h.1)); replace aD := aM (KeepBut.blk hk (g' := aX) (o := .cells #[bA, bD, bG, .slice bU bH.length bV] 25 (0, 0)) (bm aD.out) bK.out (by simp)); replace HB := aM (hb); replace aH := aM (hi); (repeat first|clear hb|clear hk|clear hi)))
 replace aI := aM (Kd.R_drew aI.out)
 replace aA := aM (blk_drew aA.out)
 replace aC := aM (blk_drew aC.out)
 replace aD := aM (blk_drew aD.out)
 replace aH := aM (IsS91.drew aH.out)
 replace HB := aM (below_drew1 HB.out)
 refine start_ (n := 5) (S := fun w' => cS4 w' aX (.int .i64 bA) (.int .i64 bD) (.int .i64 bG) (.slice bU bH.length bV)) (ds := []) (dn 5 0) (by kernel_rfl) rfl rfl ⟨cI aD.out 0, cI aD.out 1, cI aD.out 2, cI aD.out 3⟩ (fun hHeld => ?_)
 generalize dZ.drew = fS at aI aA aC aD aH HB hHeld ⊢
 refine pure_ (i := 1) (N := some 16) (v := ?_) (a' := ?_) (bv 5 2) rfl rfl (by kernel_rfl) (fun _ _ _ h => h) (Or.inl ⟨by rfl, ?_⟩) ?_ ?_
 rotate_left
 ·intro w'
  go_simp
  with_reducible rfl
 rotate_left
 ·simp only [Act.put, sA, sZ, sS, i64_w, i32_w]
  rfl
 refine take_ (i := 0) (N := some 15) (v := ?_) (a' := ?_) (bv 5 3) rfl rfl (by kernel_rfl) (fun _ _ _ h => h) (Or.inl ⟨by rfl, ?_⟩) hHeld ?_ ?_
 rotate_left
 ·rintro w' ⟨s0, s1, s2, s3⟩
  go_simp
  with_reducible rfl
 rotate_left
 ·simp only [Act.put, sA, sZ, sS, i64_w, i32_w]
  rfl
 refine one_ (i := 2) (N := some 17) (bv 5 7) rfl rfl (by kernel_rfl) (by decide) (fun K hK => ?_)
 refine goes_ Try.func39 (by kernel_rfl) rfl #[.pointer (some ⟨g382, 0, none⟩)] (by rfl) rfl rfl xR ?_
 with_reducible refine (spec_l2Draw.calls k g382 bL cC cD cL cN cO cP dU dV w _ ?side1 ?side2 dY.out).mono ?_
 (case side1 => exact IsS91.mv aH.out)
 (case side2 => exact IsS91.bl HB.out)
 rintro e fT ⟨eY, rfl, ho0, hi, hb, hk⟩
 refine ⟨_, rfl, ?_⟩
 have cX := aM (Kd.R_lower (Kd.R_new' ho0 (Kd.R_lt (kr aI.out))) (below_size (IsS91.bl HB.out)))
 replace aA := rP hk aA bI
 replace aC := rP hk aC bJ
 replace aI := aM (Kd.R_mono (Kd.R_told (Kd.R_oldK (IsS91.apart (show IsS91 w _ g382 bL cC cD from IsS91.mv aH.out) (kr aI.out) (by decide)) hk) (Kd.R_base ho0)) (fun _ h_ => h_.1))
 replace aD := rP hk aD bK
 replace HB := aM (hb)
 replace aH := aM (hi)
 (try clear hb)
 (try clear hb2)
 (try clear hk)
 (try clear hi)
 (try clear ho0)
 obtain ⟨cU, cV, dD⟩ := Kd.R_slice cX.out
 (first | subst dD | (injection dD with f1_ f2_ f3_; have f4_ := f1_.symm; have f5_ := f3_.symm; clear f1_ f2_ f3_; subst f4_; subst f5_))
 refine hK.out _ _ ⟨cI aD.out 0, cI aD.out 1, cI aD.out 2, cI aD.out 3⟩ (fun hHeld => ?_)
 clear hK K
 refine norm_ (a' := ?_) ?_ ?_
 rotate_left
 ·show Act.put _ (some 17) _ = _
  simp only [Act.put, sA, sZ, sS, i64_w, i32_w]
  rfl
 refine one_ (i := 3) (N := none) (bv 5 15) rfl rfl (by kernel_rfl) (by decide) (fun K hK => ?_)
 have eZ := cI aA.out 0
 have hfs43 := bF aA.out 0
 have hns43_1 := aG.out
 have hns43_2 := aK.out
 have hms43_1 := aE.out
 have hms43_2 := aJ.out
 have fA := cI aA.out 1
 have hfs44 := bF aA.out 1
 have hns44_1 := aG.out
 have hns44_2 := aK.out
 have hms44_1 := aE.out
 have hms44_2 := aJ.out
 have fB := cI aA.out 2
 have hfs45 := bF aA.out 2
 have hns45_1 := aG.out
 have hns45_2 := aK.out
 have hms45_1 := aE.out
 have hms45_2 := aJ.out
 have fC := cI aA.out 3
 have hfs46 := bF aA.out 3
 have hns46_1 := aG.out
 have hns46_2 := aK.out
 have hms46_1 := aE.out
 have hms46_2 := aJ.out
 refine skip_ (w1 := ?_) (by rfl) rfl ?_ ?_
 rotate_left
 ·go_simp
  rfl
 refine hK.out _ _ ⟨(cm (hHeld.1)), (cm (hHeld.2.1)), (cm (hHeld.2.2.1)), (cm (hHeld.2.2.2))⟩ (fun hHeld => ?_)
 clear hK K
 refine one_ (i := 4) (N := none) (bv 5 31) rfl rfl (by kernel_rfl) (by decide) (fun K hK => ?_)
 have fD := cI aC.out 0
 have hfs47 := bF aC.out 0
 have hns47_0 := aE.out
 have hns47_2 := aQ.out
 have hms47_0 := aG.out
 have hms47_2 := aN.out
 have fE := cI aC.out 1
 have hfs48 := bF aC.out 1
 have hns48_0 := aE.out
 have hns48_2 := aQ.out
 have hms48_0 := aG.out
 have hms48_2 := aN.out
 have fF := cI aC.out 2
 have hfs49 := bF aC.out 2
 have hns49_0 := aE.out
 have hns49_2 := aQ.out
 have hms49_0 := aG.out
 have hms49_2 := aN.out
 have fG := cI aC.out 3
 have hfs51 := bF aC.out 3
 have hns51_0 := aE.out
 have hns51_2 := aQ.out
 have hms51_0 := aG.out
 have hms51_2 := aN.out
 refine skip_ (w1 := ?_) (by rfl) rfl ?_ ?_
 rotate_left
 ·go_simp
  rfl
 refine hK.out _ _ ⟨(cm (hHeld.1)), (cm (hHeld.2.1)), (cm (hHeld.2.2.1)), (cm (hHeld.2.2.2))⟩ (fun hHeld => ?_)
 clear hK K
 refine done_ (by kernel_rfl) ?_
 try go_wp2
 refine bodyPost_ret (results_cc rfl _ _ aT aV 25 25 #[bA, bD, bG, .slice bU bH.length bV] #[cL, cN, cO, .slice cU cP.length cV] (0, 0) (0, 0) _ _ rfl (bm aA.out) Try.underlying25 rfl (by kernel_rfl) rfl (bm aC.out) Try.underlying25 rfl (by kernel_rfl)) rfl ?_
 exact ⟨_, _, xW, by (with_reducible repeat (first | apply Kd.R_alloc | apply Kd.R_drewN | apply Kd.R_drew)); exact Kd.R_mono (kF (p := ⟨aV, 3, none⟩) (kF (p := ⟨aV, 2, none⟩) (kF (p := ⟨aV, 1, none⟩) (kF (p := ⟨aV, 0, none⟩) (kF (p := ⟨aT, 3, none⟩) (kF (p := ⟨aT, 2, none⟩) (kF (p := ⟨aT, 1, none⟩) (kF (p := ⟨aT, 0, none⟩) (Kd.R_types (Kd.R_types aI.out aA.out (by decide)) aC.out (by decide)) (fun _ hk => hk.1.2) (.int .i64 bA)) (fun _ hk => hk.1.2) (.int .i64 bD)) (fun _ hk => hk.1.2) (.int .i64 bG)) (fun _ hk => hk.1.2) (.slice bU bH.length bV)) (fun _ hk => hk.2) (.int .i64 cL)) (fun _ hk => hk.2) (.int .i64 cN)) (fun _ hk => hk.2) (.int .i64 cO)) (fun _ hk => hk.2) (.slice cU cP.length cV)) (fun _ hk => hk.1.1.2), by (with_reducible repeat (first | apply Kd.R_alloc | apply Kd.R_drewN | apply Kd.R_drew)); exact Kd.R_mono (kF (p := ⟨aV, 3, none⟩) (kF (p := ⟨aV, 2, none⟩) (kF (p := ⟨aV, 1, none⟩) (kF (p := ⟨aV, 0, none⟩) (kF (p := ⟨aT, 3, none⟩) (kF (p := ⟨aT, 2, none⟩) (kF (p := ⟨aT, 1, none⟩) (kF (p := ⟨aT, 0, none⟩) (Kd.R_types (Kd.R_types cX.out aA.out (by decide)) aC.out (by decide)) (fun _ hk => hk.1.2) (.int .i64 bA)) (fun _ hk => hk.1.2) (.int .i64 bD)) (fun _ hk => hk.1.2) (.int .i64 bG)) (fun _ hk => hk.1.2) (.slice bU bH.length bV)) (fun _ hk => hk.2) (.int .i64 cL)) (fun _ hk => hk.2) (.int .i64 cN)) (fun _ hk => hk.2) (.int .i64 cO)) (fun _ hk => hk.2) (.slice cU cP.length cV)) (fun _ hk => hk.1.1.2), IsS91.bl HB.out⟩

def impl_FrameSame.f (aA aC aD : Int) (aE : List Int) (aG aH aI : Int) (aJ : List Int) : Option (Bool) := if aA = aG then (if aC = aH then (if aD = aI then ((bytes_Equal.f aE aJ).bind fun aK => (some aK)) else (some false)) else (some false)) else (some false)
set_option maxHeartbeats 60000000 in
set_option maxRecDepth 100000 in
theorem impl_FrameSame.calls (aE aG aH : Int) (aV : Option Addr) (aW : Nat) (aN : List Int) (aI aJ aK : Int) (aX : Option Addr) (bA : Nat) (aQ : List Int) (r : Bool) (w : World) (hr0_3 : Kd.C (Kd.int .u8) w aV aN.length aN) (hc0_3 : aN.length ≤ aW) (hr1_3 : Kd.C (Kd.int .u8) w aX aQ.length aQ) (hc1_3 : aQ.length ≤ bA) (h : impl_FrameSame.f aE aG aH aN aI aJ aK aQ = some r) :
  Calls Try.prog 14 #[.agg #[aE, aG, aH, .slice aV aN.length aW], .agg #[aI, aJ, aK, .slice aX aQ.length bA]] w fun e w' => e = .returned (.bool r) ∧ Below w.heap.size w w' := by
 have cS := Try.underlying25
 have bM := aM hr0_3
 have bN := aM hc0_3
 clear hr0_3 hc0_3
 have bO := aM hr1_3
 have bP := aM hc1_3
 clear hr1_3 hc1_3
 have HB := aM (Below.refl w.heap.size w)
 have H : (if aE = aI then (if aG = aJ then (if aH = aK then ((bytes_Equal.f aN aQ).bind fun bL => (some bL)) else (some false)) else (some false)) else (some false)) = some r := h
 clear h
 by_cases c3 : aE = aI
 case neg =>
  rw [if_neg c3] at H
  have bT : (aE == aI) = false := beq_eq_false_iff_ne.mpr c3
  have bU : (aE != aI) = true := bne_iff_ne.mpr c3
  obtain rfl := Option.some.inj H
  go_enter Try.func14, Try.ntmps14
  go_wp2_with (first | ((with_reducible refine gD (N := 2) rfl ?_); refine bE (N := 2) (cs := #[aE, aG, aH, .slice aV aN.length aW]) (t := 25) ?_; intro bD hg cV hbox hb; have aA := aM (hbox); have bG := gF hg HB; have bH := gF hg HB; replace HB := rS HB hb; clear hb hbox hg) | ((with_reducible refine gD (N := 3) rfl ?_); refine bE (N := 3) (cs := #[aI, aJ, aK, .slice aX aQ.length bA]) (t := 25) ?_; intro bI hg cW hbox hb; have aT := aM (hbox); have bJ := gF hg HB; have bK := gF hg HB; have aC := nM hg aA; have aD := nH hg aA; replace aA := rB aA hb; replace HB := rS HB hb; clear hb hbox hg; have bZ := aC.out; have cA := aD.out; have cC := cA4 aA.out; have cD := cA4 aT.out))
  go_ret
  exact ⟨xW, bl HB.out⟩
 rw [if_pos c3] at H
 have bT : (aE == aI) = true := beq_iff_eq.mpr c3
 have bU : (aE != aI) = false := bne_eq_false_iff_eq.mpr c3
 clear c3
 by_cases c4 : aG = aJ
 case neg =>
  rw [if_neg c4] at H
  have bV : (aG == aJ) = false := beq_eq_false_iff_ne.mpr c4
  have bW : (aG != aJ) = true := bne_iff_ne.mpr c4
  obtain rfl := Option.some.inj H
  go_enter Try.func14, Try.ntmps14
  go_wp2_with (first | ((with_reducible refine gD (N := 2) rfl ?_); refine bE (N := 2) (cs := #[aE, aG, aH, .slice aV aN.length aW]) (t := 25) ?_; intro bD hg cX hbox hb; have aA := aM (hbox); have bG := gF hg HB; have bH := gF hg HB; replace HB := rS HB hb; clear hb hbox hg) | ((with_reducible refine gD (N := 3) rfl ?_); refine bE (N := 3) (cs := #[aI, aJ, aK, .slice aX aQ.length bA]) (t := 25) ?_; intro bI hg cY hbox hb; have aT := aM (hbox); have bJ := gF hg HB; have bK := gF hg HB; have aC := nM hg aA; have aD := nH hg aA; replace aA := rB aA hb; replace HB := rS HB hb; clear hb hbox hg; have cE := aC.out; have cG := aD.out; have cH := cA4 aA.out; have cK := cA4 aT.out))
  go_ret
  exact ⟨xW, bl HB.out⟩
 rw [if_pos c4] at H
 have bV : (aG == aJ) = true := beq_iff_eq.mpr c4
 have bW : (aG != aJ) = false := bne_eq_false_iff_eq.mpr c4
 clear c4
 by_cases c5 : aH = aK
 case neg =>
  rw [if_neg c5] at H
  have bX : (aH == aK) = false := beq_eq_false_iff_ne.mpr c5
  have bY : (aH != aK) = true := bne_iff_ne.mpr c5
  obtain rfl := Option.some.inj H
  go_enter Try.func14, Try.ntmps14
  go_wp2_with (first | ((with_reducible refine gD (N := 2) rfl ?_); refine bE (N := 2) (cs := #[aE, aG, aH, .slice aV aN.length aW]) (t := 25) ?_; intro bD hg dA hbox hb; have aA := aM (hbox); have bG := gF hg HB; have bH := gF hg HB; replace HB := rS HB hb; clear hb hbox hg) | ((with_reducible refine gD (N := 3) rfl ?_); refine bE (N := 3) (cs := #[aI, aJ, aK, .slice aX aQ.length bA]) (t := 25) ?_; intro bI hg dB hbox hb; have aT := aM (hbox); have bJ := gF hg HB; have bK := gF hg HB; have aC := nM hg aA; have aD := nH hg aA; replace aA := rB aA hb; replace HB := rS HB hb; clear hb hbox hg; have cL := aC.out; have cN := aD.out; have cO := cA4 aA.out; have cP := cA4 aT.out))
  go_ret
  exact ⟨xW, bl HB.out⟩
 rw [if_pos c5] at H
 have bX : (aH == aK) = true := beq_iff_eq.mpr c5
 have bY : (aH != aK) = false := bne_eq_false_iff_eq.mpr c5
 clear c5
 obtain ⟨bL, bQ, H⟩ := hB H
 have A6 := aM bQ
 clear bQ
 obtain rfl := Option.some.inj H
 go_enter Try.func14, Try.ntmps14
 go_wp2_with (first | ((with_reducible refine gD (N := 2) rfl ?_); refine bE (N := 2) (cs := #[aE, aG, aH, .slice aV aN.length aW]) (t := 25) ?_; intro bD hg w7 hbox hb; have aA := aM (hbox); have bG := gF hg HB; have bH := gF hg HB; replace HB := rS HB hb; clear hb hbox hg) | ((with_reducible refine gD (N := 3) rfl ?_); refine bE (N := 3) (cs := #[aI, aJ, aK, .slice aX aQ.length bA]) (t := 25) ?_; intro bI hg w8 hbox hb; have aT := aM (hbox); have bJ := gF hg HB; have bK := gF hg HB; have aC := nM hg aA; have aD := nH hg aA; replace aA := rB aA hb; replace HB := rS HB hb; clear hb hbox hg; have cT := aC.out; have cU := aD.out; have cQ := cA4 aA.out; have cR := cA4 aT.out) | (go_at_call 48; (with_reducible refine (bytes_Equal.calls _ _ aN _ _ aQ bL _ ?side1 ?side2 ?side3 ?side4 A6.out).mono ?_); (case side1 => exact cM (cB bM.out HB.out)); (case side2 => exact bN.out); (case side3 => exact cM (cB bO.out HB.out)); (case side4 => exact bP.out); rintro e w' ⟨rfl, ⟨nd, rfl⟩⟩))
 go_ret
 exact ⟨xW, bl HB.out⟩

def spec_FrameSame.f (aA aC aD : Int) (aE : List Int) (aG aH aI : Int) (aJ : List Int) : Option (Bool) := if aA = aG then (if aC = aH then (if aD = aI then (some ((strOfNums aE).toList == (strOfNums aJ).toList)) else (some false)) else (some false)) else (some false)
set_option maxHeartbeats 60000000 in
set_option maxRecDepth 100000 in
theorem spec_FrameSame.calls (aE aG aH : Int) (aV : Option Addr) (aW : Nat) (aN : List Int) (aI aJ aK : Int) (aX : Option Addr) (bA : Nat) (aQ : List Int) (r : Bool) (w : World) (hr0_3 : Kd.C (Kd.int .u8) w aV aN.length aN) (hc0_3 : aN.length ≤ aW) (hr1_3 : Kd.C (Kd.int .u8) w aX aQ.length aQ) (hc1_3 : aQ.length ≤ bA) (h : spec_FrameSame.f aE aG aH aN aI aJ aK aQ = some r) :
  Calls Try.prog 15 #[.agg #[aE, aG, aH, .slice aV aN.length aW], .agg #[aI, aJ, aK, .slice aX aQ.length bA]] w fun e w' => e = .returned (.bool r) ∧ Below w.heap.size w w' := by
 have cP := Try.underlying25
 have bL := aM hr0_3
 have bV := aM hc0_3
 clear hr0_3 hc0_3
 have bM := aM hr1_3
 have bW := aM hc1_3
 clear hr1_3 hc1_3
 have HB := aM (Below.refl w.heap.size w)
 have H : (if aE = aI then (if aG = aJ then (if aH = aK then (some ((strOfNums aN).toList == (strOfNums aQ).toList)) else (some false)) else (some false)) else (some false)) = some r := h
 clear h
 by_cases c3 : aE = aI
 case neg =>
  rw [if_neg c3] at H
  have bN : (aE == aI) = false := beq_eq_false_iff_ne.mpr c3
  have bO : (aE != aI) = true := bne_iff_ne.mpr c3
  obtain rfl := Option.some.inj H
  go_enter Try.func15, Try.ntmps15
  go_wp2_with (first | ((with_reducible refine gD (N := 2) rfl ?_); refine bE (N := 2) (cs := #[aE, aG, aH, .slice aV aN.length aW]) (t := 25) ?_; intro bD hg cT hbox hb; have aA := aM (hbox); have bG := gF hg HB; have bH := gF hg HB; replace HB := rS HB hb; clear hb hbox hg) | ((with_reducible refine gD (N := 3) rfl ?_); refine bE (N := 3) (cs := #[aI, aJ, aK, .slice aX aQ.length bA]) (t := 25) ?_; intro bI hg cU hbox hb; have aT := aM (hbox); have bJ := gF hg HB; have bK := gF hg HB; have aC := nM hg aA; have aD := nH hg aA; replace aA := rB aA hb; replace HB := rS HB hb; clear hb hbox hg; have bX := aC.out; have bY := aD.out; have bZ := cA4 aA.out; have cA := cA4 aT.out))
  go_ret
  exact ⟨xW, bl HB.out⟩
 rw [if_pos c3] at H
 have bN : (aE == aI) = true := beq_iff_eq.mpr c3
 have bO : (aE != aI) = false := bne_eq_false_iff_eq.mpr c3
 clear c3
 by_cases c4 : aG = aJ
 case neg =>
  rw [if_neg c4] at H
  have bP : (aG == aJ) = false := beq_eq_false_iff_ne.mpr c4
  have bQ : (aG != aJ) = true := bne_iff_ne.mpr c4
  obtain rfl := Option.some.inj H
  go_enter Try.func15, Try.ntmps15
  go_wp2_with (first | ((with_reducible refine gD (N := 2) rfl ?_); refine bE (N := 2) (cs := #[aE, aG, aH, .slice aV aN.length aW]) (t := 25) ?_; intro bD hg cV hbox hb; have aA := aM (hbox); have bG := gF hg HB; have bH := gF hg HB; replace HB := rS HB hb; clear hb hbox hg) | ((with_reducible refine gD (N := 3) rfl ?_); refine bE (N := 3) (cs := #[aI, aJ, aK, .slice aX aQ.length bA]) (t := 25) ?_; intro bI hg cW hbox hb; have aT := aM (hbox); have bJ := gF hg HB; have bK := gF hg HB; have aC := nM hg aA; have aD := nH hg aA; replace aA := rB aA hb; replace HB := rS HB hb; clear hb hbox hg; have cC := aC.out; have cD := aD.out; have cE := cA4 aA.out; have cG := cA4 aT.out))
  go_ret
  exact ⟨xW, bl HB.out⟩
 rw [if_pos c4] at H
 have bP : (aG == aJ) = true := beq_iff_eq.mpr c4
 have bQ : (aG != aJ) = false := bne_eq_false_iff_eq.mpr c4
 clear c4
 by_cases c5 : aH = aK
 case neg =>
  rw [if_neg c5] at H
  have bT : (aH == aK) = false := beq_eq_false_iff_ne.mpr c5
  have bU : (aH != aK) = true := bne_iff_ne.mpr c5
  obtain rfl := Option.some.inj H
  go_enter Try.func15, Try.ntmps15
  go_wp2_with (first | ((with_reducible refine gD (N := 2) rfl ?_); refine bE (N := 2) (cs := #[aE, aG, aH, .slice aV aN.length aW]) (t := 25) ?_; intro bD hg cX hbox hb; have aA := aM (hbox); have bG := gF hg HB; have bH := gF hg HB; replace HB := rS HB hb; clear hb hbox hg) | ((with_reducible refine gD (N := 3) rfl ?_); refine bE (N := 3) (cs := #[aI, aJ, aK, .slice aX aQ.length bA]) (t := 25) ?_; intro bI hg cY hbox hb; have aT := aM (hbox); have bJ := gF hg HB; have bK := gF hg HB; have aC := nM hg aA; have aD := nH hg aA; replace aA := rB aA hb; replace HB := rS HB hb; clear hb hbox hg; have cH := aC.out; have cK := aD.out; have cL := cA4 aA.out; have cN := cA4 aT.out))
  go_ret
  exact ⟨xW, bl HB.out⟩
 rw [if_pos c5] at H
 have bT : (aH == aK) = true := beq_iff_eq.mpr c5
 have bU : (aH != aK) = false := bne_eq_false_iff_eq.mpr c5
 clear c5
 obtain rfl := Option.some.inj H
 go_enter Try.func15, Try.ntmps15
 go_wp2_with (first | ((with_reducible refine gD (N := 2) rfl ?_); refine bE (N := 2) (cs := #[aE, aG, aH, .slice aV aN.length aW]) (t := 25) ?_; intro bD hg w6 hbox hb; have aA := aM (hbox); have bG := gF hg HB; have bH := gF hg HB; replace HB := rS HB hb; clear hb hbox hg) | ((with_reducible refine gD (N := 3) rfl ?_); refine bE (N := 3) (cs := #[aI, aJ, aK, .slice aX aQ.length bA]) (t := 25) ?_; intro bI hg w7 hbox hb; have aT := aM (hbox); have bJ := gF hg HB; have bK := gF hg HB; have aC := nM hg aA; have aD := nH hg aA; replace aA := rB aA hb; replace HB := rS HB hb; clear hb hbox hg; have cQ := aC.out; have cR := aD.out; have cS := cA4 aA.out; have cO := cA4 aT.out; have hcv11 := Kd.C_string (P := Try.prog) (A := aV) (c := aW) Try.underlying22 Try.underlying5 Try.underlying9 (cB bL.out HB.out); have hcv12 := Kd.C_string (P := Try.prog) (A := aX) (c := bA) Try.underlying22 Try.underlying5 Try.underlying9 (cB bM.out HB.out)))
 go_ret
 exact ⟨xW, bl HB.out⟩

-- NOT PRINTED: function 3 (laws_FnFrames)

end Go.Proofs.Ytaoipjdmmamkmaa.PFnFrames

/- Of the proof of laws.FnRootPorts: a part. No condition beyond what its theorems say. -/
import Derived.Test.YthmijfekdeagpaaVFnRootPortsPx9
namespace Go.Proofs.Ythmijfekdeagpaa.PFnRootPorts
open Go.RowKit Go.Proofs.YthmijfekdeagpaaW.PrintWords Go.Proofs.YthmijfekdeagpaaW.PrintLast Go.Proofs.YthmijfekdeagpaaW.PrintMore
attribute [local go_sem] max2_int min2_int max_two min_two max_three min_three max_four min_four   -- for this text's walks alone
set_option linter.unusedVariables false
set_option linter.unusedSimpArgs false

mutual
def spec_Decide.l0 : Nat → Int → Int → Int → List (S79) → Int → List (S79) → Option (Int × (List (S79)))
 | 0, _, _, _, _, _, _ => none
 | k + 1, x4, x6, aE, aA, aG, aD => if x6 < (aA.length : Int) then (if 0 ≤ x6 then (if x6 = x4 then (if (rd_T79 aA x6).f0 = true then ((spec_Turn.f k ((rd_T79 aA x6).f0) ((rd_T79 aA x6).f1) ((rd_T79 aA x6).f2.f0) ((rd_T79 aA x6).f2.f1) ((rd_T79 aA x6).f2.f2) ((rd_T79 aA x6).f2.f3) ((rd_T79 aA x6).f3) ((rd_T79 aA x6).f4) ((rd_T79 aA x6).f5) ((rd_T79 aA x6).f6) ((rd_T79 aA x6).f7) 1).bind fun aC => (if x6 < (aD.length : Int) then (spec_Decide.l0 k x4 (wrap64 (x6 + 1)) aE aA aG (aD.set (x6 : Int).toNat (⟨aC.1, aC.2.1, (⟨aC.2.2.1, aC.2.2.2.1, aC.2.2.2.2.1, aC.2.2.2.2.2.1⟩ : S73), aC.2.2.2.2.2.2.1, aC.2.2.2.2.2.2.2.1, aC.2.2.2.2.2.2.2.2.1, aC.2.2.2.2.2.2.2.2.2.1, aC.2.2.2.2.2.2.2.2.2.2⟩ : S79))) else (none))) else (spec_Decide.l0 k x4 (wrap64 (x6 + 1)) aE aA aG aD)) else (if (rd_T79 aA x6).f1 = true then ((spec_Own.f k aE aA x6).bind fun aH => ((spec_Better.f ((rd_T79 aA x6).f2.f0) ((rd_T79 aA x6).f2.f1) ((rd_T79 aA x6).f2.f2) ((rd_T79 aA x6).f2.f3) aH.1 aH.2.1 aH.2.2.1 aH.2.2.2).bind fun aI => (spec_Decide.j1 k x4 x6 2 aI aE aA aG aD ((rd_T79 aA x6).f0) ((rd_T79 aA x6).f1) ((rd_T79 aA x6).f2.f0) ((rd_T79 aA x6).f2.f1) ((rd_T79 aA x6).f2.f2) ((rd_T79 aA x6).f2.f3) ((rd_T79 aA x6).f3) ((rd_T79 aA x6).f4) ((rd_T79 aA x6).f5) ((rd_T79 aA x6).f6) ((rd_T79 aA x6).f7)))) else (spec_Decide.j1 k x4 x6 2 false aE aA aG aD ((rd_T79 aA x6).f0) ((rd_T79 aA x6).f1) ((rd_T79 aA x6).f2.f0) ((rd_T79 aA x6).f2.f1) ((rd_T79 aA x6).f2.f2) ((rd_T79 aA x6).f2.f3) ((rd_T79 aA x6).f3) ((rd_T79 aA x6).f4) ((rd_T79 aA x6).f5) ((rd_T79 aA x6).f6) ((rd_T79 aA x6).f7)))) else (none)) else (some (aG, aD))
def spec_Decide.j1 : Nat → Int → Int → Int → Bool → Int → List (S79) → Int → List (S79) → Bool → Bool → Int → Int → Int → Int → Int → Int → Int → Int → Bool → Option (Int × (List (S79)))
 | 0, _, _, _, _, _, _, _, _, _, _, _, _, _, _, _, _, _, _, _ => none
 | k + 1, x4, x6, x8, bD, aE, aG, aH, aD, aI, aJ, aK, aN, aQ, aT, aV, aW, aX, aZ, bA => if bD = true then (if aI = true then ((spec_Turn.f k aI aJ aK aN aQ aT aV aW aX aZ bA 3).bind fun aA => (if 0 ≤ x6 then (if x6 < (aD.length : Int) then (spec_Decide.l0 k x4 (wrap64 (x6 + 1)) aE aG aH (aD.set (x6 : Int).toNat (⟨aA.1, aA.2.1, (⟨aA.2.2.1, aA.2.2.2.1, aA.2.2.2.2.1, aA.2.2.2.2.2.1⟩ : S73), aA.2.2.2.2.2.2.1, aA.2.2.2.2.2.2.2.1, aA.2.2.2.2.2.2.2.2.1, aA.2.2.2.2.2.2.2.2.2.1, aA.2.2.2.2.2.2.2.2.2.2⟩ : S79))) else (none)) else (none))) else (spec_Decide.l0 k x4 (wrap64 (x6 + 1)) aE aG aH aD)) else (if aI = true then ((spec_Turn.f k aI aJ aK aN aQ aT aV aW aX aZ bA x8).bind fun aC => (if 0 ≤ x6 then (if x6 < (aD.length : Int) then (spec_Decide.l0 k x4 (wrap64 (x6 + 1)) aE aG aH (aD.set (x6 : Int).toNat (⟨aC.1, aC.2.1, (⟨aC.2.2.1, aC.2.2.2.1, aC.2.2.2.2.1, aC.2.2.2.2.2.1⟩ : S73), aC.2.2.2.2.2.2.1, aC.2.2.2.2.2.2.2.1, aC.2.2.2.2.2.2.2.2.1, aC.2.2.2.2.2.2.2.2.2.1, aC.2.2.2.2.2.2.2.2.2.2⟩ : S79))) else (none)) else (none))) else (spec_Decide.l0 k x4 (wrap64 (x6 + 1)) aE aG aH aD))
end
def spec_Decide.f (k : Nat) (aC : Int) (aD : List (S79)) : Option (Int × (List (S79))) := (spec_l8Copy.f aC aD).bind fun aA => ((spec_BridgeOk.f k aC aD).bind fun aG => (if aG = true then ((spec_RootPort.f k aC aD).bind fun aE => (spec_Decide.l0 k aE.1 0 aC aD aA.1 aA.2)) else (some (aA.1, aA.2))))
theorem spec_Decide.mono_l : ∀ k, (∀ y0 y1 y2 y3 y4 y5, LeO (spec_Decide.l0 k y0 y1 y2 y3 y4 y5) (spec_Decide.l0 (k + 1) y0 y1 y2 y3 y4 y5)) ∧ (∀ y0 y1 y2 y3 y4 y5 y6 y7 y8 y9 aA aC aD aE aG aH aI aJ aK, LeO (spec_Decide.j1 k y0 y1 y2 y3 y4 y5 y6 y7 y8 y9 aA aC aD aE aG aH aI aJ aK) (spec_Decide.j1 (k + 1) y0 y1 y2 y3 y4 y5 y6 y7 y8 y9 aA aC aD aE aG aH aI aJ aK))
 | 0 => ⟨fun _ _ _ _ _ _ r h => by simp [spec_Decide.l0] at h, fun _ _ _ _ _ _ _ _ _ _ _ _ _ _ _ _ _ _ _ r h => by simp [spec_Decide.j1] at h⟩
 | k + 1 => by
  obtain ⟨ih0, ih1⟩ := spec_Decide.mono_l k
  refine ⟨?_, ?_⟩
  ·intro y0 y1 y2 y3 y4 y5
   unfold spec_Decide.l0
   repeat' first|(with_reducible first|apply ih0|apply ih1|apply spec_BridgeOk.mono|apply spec_Own.mono|apply spec_RootPort.mono|apply spec_Turn.mono|exact LeO.refl _|exact LeO.none _|refine LeO.ite ?_ ?_|refine LeO.bind ?_ (fun _ => ?_))|exact LeO.none _|refine LeO.ite ?_ ?_|refine LeO.bind ?_ (fun _ => ?_)
  ·intro y0 y1 y2 y3 y4 y5 y6 y7 y8 y9 aA aC aD aE aG aH aI aJ aK
   unfold spec_Decide.j1
   repeat' first|(with_reducible first|apply ih0|apply ih1|apply spec_BridgeOk.mono|apply spec_Own.mono|apply spec_RootPort.mono|apply spec_Turn.mono|exact LeO.refl _|exact LeO.none _|refine LeO.ite ?_ ?_|refine LeO.bind ?_ (fun _ => ?_))|exact LeO.none _|refine LeO.ite ?_ ?_|refine LeO.bind ?_ (fun _ => ?_)
theorem spec_Decide.mono : ∀ a0 a1 k, LeO (spec_Decide.f k a0 a1) (spec_Decide.f (k + 1) a0 a1) := by
 intro a0 a1 k
 obtain ⟨ih0, ih1⟩ := spec_Decide.mono_l k
 unfold spec_Decide.f
 repeat' first|(with_reducible first|apply ih0|apply ih1|apply spec_BridgeOk.mono|apply spec_Own.mono|apply spec_RootPort.mono|apply spec_Turn.mono|exact LeO.refl _|exact LeO.none _|refine LeO.ite ?_ ?_|refine LeO.bind ?_ (fun _ => ?_))|exact LeO.none _|refine LeO.ite ?_ ?_|refine LeO.bind ?_ (fun _ => ?_)
def spec_Decide.T12 : Bool × List (List Nat × List Nat) := (true, [([], []), ([0], [0]), ([1], [1]), ([2], [2]), ([3, 2], [2, 3]), ([2], [2]), ([2], [2]), ([5, 6, 2, 2], [2, 5, 6]), ([4, 7, 7, 2], [2, 4, 7]), ([2, 8], [2, 8])])
def spec_Decide.B12 : List Nat := [0, 1, 3, 7, 15, 7, 7, 103, 255, 511]
theorem spec_Decide.tab12 : rtab .any (opsOf Try.f13 12) = spec_Decide.T12 := by kernel_rfl
theorem spec_Decide.bits12 : waitsOk spec_Decide.T12.2 spec_Decide.B12 = true := by kernel_rfl
def spec_Decide.T15 : Bool × List (List Nat × List Nat) := (true, [([], []), ([0], [0]), ([], []), ([], []), ([], []), ([3, 4], [3, 4]), ([1, 2, 0, 1, 2, 3, 4, 5], [1, 2]), ([6, 5, 5, 0, 1, 2, 3, 4, 5], [5, 6])])
def spec_Decide.B15 : List Nat := [0, 1, 0, 0, 0, 24, 63, 127]
theorem spec_Decide.tab15 : rtab .any (opsOf Try.f13 15) = spec_Decide.T15 := by kernel_rfl
theorem spec_Decide.bits15 : waitsOk spec_Decide.T15.2 spec_Decide.B15 = true := by kernel_rfl
set_option maxHeartbeats 60000000 in
set_option maxRecDepth 100000 in
theorem spec_Decide.calls (k : Nat) (aN : Int) (cT : Option Addr) (bZ : Nat) (aC : List (S79)) (r1 : Int) (r2 : List (S79)) (w : World) (hr0_1 : Kd.C k79 w cT aC.length aC) (hc0_1 : aC.length ≤ bZ) (h : spec_Decide.f k aN aC = some (r1, r2)) :
  Calls Try.prog 13 #[.agg #[aN, .slice cT aC.length bZ]] w fun e w' => ∃ jY : Value, e = .returned (.agg #[r1, jY]) ∧ Kd.R k79 79 w' w.heap.size (fun _ => True) jY r2 ∧ Below w.heap.size w w' := by
 have vA := Try.underlying28
 have vB := Try.underlying79
 have vC := Try.underlying73
 have cH := aM hr0_1
 have cX := aM hc0_1
 clear hr0_1 hc0_1
 have HB := aM (Below.refl w.heap.size w)
 have H : ((spec_l8Copy.f aN aC).bind fun dF => ((spec_BridgeOk.f k aN aC).bind fun fE => (if fE = true then ((spec_RootPort.f k aN aC).bind fun iZ => (spec_Decide.l0 k iZ.1 0 aN aC dF.1 dF.2)) else (some (dF.1, dF.2))))) = some (r1, r2) := h
 clear h
 obtain ⟨⟨aV, cU⟩, jZ, H⟩ := hB H
 try dsimp only at H
 have A2 := aM jZ
 clear jZ
 obtain ⟨fE, kA, H⟩ := hB H
 have A3 := aM kA
 clear kA
 by_cases c4 : fE = true
 case neg =>
  replace c4 := Bool.eq_false_iff.mpr c4
  subst c4
  replace H := hF H
  simp only [Option.some.injEq, Prod.mk.injEq] at H
  obtain ⟨rfl, rfl⟩ := H
  go_enter Try.func13, Try.ntmps13
  go_wp2_with (first | ((with_reducible refine gD (N := 1) rfl ?_); refine box_event ?hg (N := 1) ?hd (cs := #[aN, .slice cT aC.length bZ]) (t := 28) ?hr ?_; (case hd => rfl); (case hg => rfl); (case hr => first | (go_simp; done) | (go_simp; rfl) | (obtain ⟨A_, c_, e_⟩ := Kd.R_slice aQ.out; subst e_; (first | (go_simp; done) | (go_simp; rfl))) | (obtain ⟨A_, c_, e_⟩ := Kd.S_slice aQ.out; subst e_; (first | (go_simp; done) | (go_simp; rfl)))); intro cV hg vD hbox hb; have aH := aM (hbox); have jA := gF hg HB; have dG := gF hg HB; replace HB := rS HB hb; clear hb hbox hg) | ((with_reducible refine gD (N := 2) rfl ?_); refine box_event ?hg (N := 2) ?hd (cs := #[.int .i64 0, .slice none 0 0]) (t := 28) ?hr ?_; (case hd => rfl); (case hg => rfl); (case hr => first | (go_simp; done) | (go_simp; rfl) | (obtain ⟨A_, c_, e_⟩ := Kd.R_slice aQ.out; subst e_; (first | (go_simp; done) | (go_simp; rfl))) | (obtain ⟨A_, c_, e_⟩ := Kd.S_slice aQ.out; subst e_; (first | (go_simp; done) | (go_simp; rfl)))); intro cA hg vE hbox hb; have aI := aM (hbox); have jB := gF hg HB; have dH := gF hg HB; have bM := nM hg aH; have bN := nH hg aH; replace aH := rB aH hb; replace HB := rS HB hb; clear hb hbox hg; have oX := bM.out; have oY := bN.out; have oZ := cA2 aH.out) | ((with_reducible refine gC (f := 67) rfl ?_); refine gL (some 10) Try.func67 #[.agg #[aN, .slice cT aC.length bZ]] ?_; (with_reducible refine (spec_l8Copy.calls aN _ _ aC aV cU _ ?side1 ?side2 A2.out).mono ?_); (case side1 => exact cM (cB cH.out HB.out)); (case side2 => exact cX.out); rintro e vF ⟨kD, rfl, ho0, hb⟩; refine ⟨_, rfl, ?_⟩; have aQ := aM (Kd.R_lower ho0 (below_size (bl HB.out))); replace aH := rB aH hb; replace aI := rB aI hb; replace HB := rS HB hb; (repeat first|clear hb|clear ho0)) | ((with_reducible refine gD (N := 3) rfl ?_); refine box_event ?hg (N := 3) ?hd (cs := #[.int .i64 0, .slice none 0 0]) (t := 28) ?hr ?_; (case hd => rfl); (case hg => rfl); (case hr => first | (go_simp; done) | (go_simp; rfl) | (obtain ⟨A_, c_, e_⟩ := Kd.R_slice aQ.out; subst e_; (first | (go_simp; done) | (go_simp; rfl))) | (obtain ⟨A_, c_, e_⟩ := Kd.S_slice aQ.out; subst e_; (first | (go_simp; done) | (go_simp; rfl)))); intro bK hg vG hbox hb; have aJ := aM (hbox); have jC := gF hg HB; have dI := gF hg HB; have bO := nM hg aH; have bP := nH hg aH; have cP := nM hg aI; have cQ := nH hg aI; replace aQ := aM (kB (kr aQ.out) hb); replace aH := rB aH hb; replace aI := rB aI hb; replace HB := rS HB hb; clear hb hbox hg; have pA := bP.out; have pB := bO.out; have pC := cQ.out; have pD := cP.out; have pE := cA2 aJ.out; obtain ⟨dJ, dK, jD⟩ := Kd.R_slice aQ.out; subst jD; have pF := cA2 aH.out) | ((with_reducible refine gC (f := 46) rfl ?_); refine gL (some 12) Try.func46 #[.agg #[aN, .slice cT aC.length bZ]] ?_; (with_reducible refine (spec_BridgeOk.calls k aN _ _ aC false _ ?side1 ?side2 A3.out).mono ?_); (case side1 => exact cB cH.out (bl HB.out)); (case side2 => exact cX.out); rintro e vH ⟨rfl, hb⟩; refine ⟨_, rfl, ?_⟩; replace aQ := aM (kB (kr (Kd.R_mono (kF (p := ⟨bK, 1, none⟩) (kF (p := ⟨bK, 0, none⟩) (Kd.R_types aQ.out aJ.out (by decide)) (fun _ hk => hk.2) (.int .i64 aV)) (fun _ hk => hk.2) (.slice dJ cU.length dK)) (fun _ h_ => h_.1))) hb); replace aH := aM (bB (fm aH.out) hb); replace aI := aM (bB (fm aI.out) hb); replace aJ := aM (bB (g := bK) (o := .cells #[aV, .slice dJ cU.length dK] 28 (0, 0)) (bm aJ.out) hb); replace HB := rS HB hb; (try clear hb); have pG := cA2 aJ.out; have pH := cA2 aI.out))
  refine bodyPost_ret (results_cell_row rfl _ _ cA 28 #[aV, .slice dJ cU.length dK] (0, 0) _ rfl (bm aI.out) Try.underlying28 rfl (by kernel_rfl)) rfl ?_
  exact ⟨_, xW, by (with_reducible repeat (first | apply Kd.R_alloc | apply Kd.R_drewN | apply Kd.R_drew)); exact Kd.R_mono (kF (p := ⟨cA, 1, none⟩) (kF (p := ⟨cA, 0, none⟩) (Kd.R_types aQ.out aI.out (by decide)) (fun _ hk => hk.2) (.int .i64 aV)) (fun _ hk => hk.2) (.slice dJ cU.length dK)) (fun _ hk => trivial), bl HB.out⟩
 subst c4
 replace H := hP H rfl
 obtain ⟨⟨cC, kE⟩, kC, H⟩ := hB H
 try dsimp only at H
 have A5 := aM kC
 clear kC
 have H' := aM H
 clear H
 go_enter Try.func13, Try.ntmps13
 go_wp2_with (first | ((with_reducible refine gD (N := 1) rfl ?_); refine box_event ?hg (N := 1) ?hd (cs := #[aN, .slice cT aC.length bZ]) (t := 28) ?hr ?_; (case hd => rfl); (case hg => rfl); (case hr => first | (go_simp; done) | (go_simp; rfl) | (obtain ⟨A_, c_, e_⟩ := Kd.R_slice aQ.out; subst e_; (first | (go_simp; done) | (go_simp; rfl))) | (obtain ⟨A_, c_, e_⟩ := Kd.S_slice aQ.out; subst e_; (first | (go_simp; done) | (go_simp; rfl)))); intro cV hg w6 hbox hb; have aH := aM (hbox); have jA := gF hg HB; have dG := gF hg HB; replace HB := rS HB hb; clear hb hbox hg) | ((with_reducible refine gD (N := 2) rfl ?_); refine box_event ?hg (N := 2) ?hd (cs := #[.int .i64 0, .slice none 0 0]) (t := 28) ?hr ?_; (case hd => rfl); (case hg => rfl); (case hr => first | (go_simp; done) | (go_simp; rfl) | (obtain ⟨A_, c_, e_⟩ := Kd.R_slice aQ.out; subst e_; (first | (go_simp; done) | (go_simp; rfl))) | (obtain ⟨A_, c_, e_⟩ := Kd.S_slice aQ.out; subst e_; (first | (go_simp; done) | (go_simp; rfl)))); intro cA hg w7 hbox hb; have aI := aM (hbox); have jB := gF hg HB; have dH := gF hg HB; have bM := nM hg aH; have bN := nH hg aH; replace aH := rB aH hb; replace HB := rS HB hb; clear hb hbox hg; have vI := bM.out; have vJ := bN.out; have kG := cA2 aH.out) | ((with_reducible refine gC (f := 67) rfl ?_); refine gL (some 10) Try.func67 #[.agg #[aN, .slice cT aC.length bZ]] ?_; (with_reducible refine (spec_l8Copy.calls aN _ _ aC aV cU _ ?side1 ?side2 A2.out).mono ?_); (case side1 => exact cM (cB cH.out HB.out)); (case side2 => exact cX.out); rintro e vZ ⟨kD, rfl, ho0, hb⟩; refine ⟨_, rfl, ?_⟩; have aQ := aM (Kd.R_lower ho0 (below_size (bl HB.out))); replace aH := rB aH hb; replace aI := rB aI hb; replace HB := rS HB hb; (repeat first|clear hb|clear ho0)) | ((with_reducible refine gD (N := 3) rfl ?_); refine box_event ?hg (N := 3) ?hd (cs := #[.int .i64 0, .slice none 0 0]) (t := 28) ?hr ?_; (case hd => rfl); (case hg => rfl); (case hr => first | (go_simp; done) | (go_simp; rfl) | (obtain ⟨A_, c_, e_⟩ := Kd.R_slice aQ.out; subst e_; (first | (go_simp; done) | (go_simp; rfl))) | (obtain ⟨A_, c_, e_⟩ := Kd.S_slice aQ.out; subst e_; (first | (go_simp; done) | (go_simp; rfl)))); intro bK hg wA hbox hb; have aJ := aM (hbox); have jC := gF hg HB; have dI := gF hg HB; have bO := nM hg aH; have bP := nH hg aH; have cP := nM hg aI; have cQ := nH hg aI; replace aQ := aM (kB (kr aQ.out) hb); replace aH := rB aH hb; replace aI := rB aI hb; replace HB := rS HB hb; clear hb hbox hg; have sK := bP.out; have sL := bO.out; have sM := cQ.out; have sN := cP.out; have jE := cA2 aJ.out; obtain ⟨fF, fG, kH⟩ := Kd.R_slice aQ.out; subst kH; have jF := cA2 aH.out) | ((with_reducible refine gC (f := 46) rfl ?_); refine gL (some 12) Try.func46 #[.agg #[aN, .slice cT aC.length bZ]] ?_; (with_reducible refine (spec_BridgeOk.calls k aN _ _ aC true _ ?side1 ?side2 A3.out).mono ?_); (case side1 => exact cB cH.out (bl HB.out)); (case side2 => exact cX.out); rintro e wB ⟨rfl, hb⟩; refine ⟨_, rfl, ?_⟩; replace aQ := aM (kB (kr (Kd.R_mono (kF (p := ⟨bK, 1, none⟩) (kF (p := ⟨bK, 0, none⟩) (Kd.R_types aQ.out aJ.out (by decide)) (fun _ hk => hk.2) (.int .i64 aV)) (fun _ hk => hk.2) (.slice fF cU.length fG)) (fun _ h_ => h_.1))) hb); replace aH := aM (bB (fm aH.out) hb); replace aI := aM (bB (fm aI.out) hb); replace aJ := aM (bB (g := bK) (o := .cells #[aV, .slice fF cU.length fG] 28 (0, 0)) (bm aJ.out) hb); replace HB := rS HB hb; (try clear hb); have jG := cA2 aH.out) | ((with_reducible refine gC (f := 36) rfl ?_); refine gL (some 17) Try.func36 #[.agg #[aN, .slice cT aC.length bZ]] ?_; (with_reducible refine (spec_RootPort.calls k aN _ _ aC cC kE _ ?side1 ?side2 A5.out).mono ?_); (case side1 => exact cM (cB cH.out HB.out)); (case side2 => exact cX.out); rintro e wC ⟨rfl, hb⟩; refine ⟨_, rfl, ?_⟩; replace aQ := aM (kB (kr aQ.out) hb); replace aH := rB aH hb; replace aI := rB aI hb; replace aJ := rB aJ hb; replace HB := rS HB hb; (try clear hb)))
 go_loopg [6] k (fun kq v6 w' => ∃ (aA : Int) (aK : List (S79)) (aT : Value), v6 = .int .i64 aA ∧ Aside0 (spec_Decide.l0 kq cC aA aN aC aV aK = some (r1, r2)) ∧ Aside0 (kq ≤ k) ∧ Aside0 (Kd.R k79 79 w' w.heap.size (fun _ => True) aT aK) ∧ Aside0 (w'.heap[cV]? = some (.cells #[aN, (.slice cT aC.length bZ)] 28 (0, 0))) ∧ Aside0 (w'.heap[cA]? = some (.cells #[.int .i64 0, (.slice none 0 0)] 28 (0, 0))) ∧ Aside0 (w'.heap[bK]? = some (.cells #[aV, aT] 28 (0, 0))) ∧ Aside0 (Below w.heap.size w w'))
 case atStart => exact ⟨(0), (cU), (.slice fF cU.length fG), xE, H', ⟨Nat.le_refl _⟩, ⟨kr aQ.out⟩, ⟨bk aH.out⟩, ⟨bk aI.out⟩, ⟨bk aJ.out⟩, ⟨bl HB.out⟩⟩
 case round =>
  clear H'
  repeat first|clear c1|clear p2|clear c3|clear c4|clear c6|clear c8|clear wD|clear wE|clear jE|clear jF|clear jG|clear kG
  obtain ⟨aA, aK, aT, rfl, HA, cR, aE, aH, aI, aJ, HB⟩ := hrel
  cases gk with
  | zero => exact absurd HA.out (by simp [spec_Decide.l0])
  | succ k1 =>
   have H := HA.out
   clear HA
   simp only [spec_Decide.l0] at H
   by_cases eV : aA < (aC.length : Int)
   case neg =>
    rw [if_neg eV] at H
    have jH := decide_eq_false eV
    clear eV
    simp only [Option.some.injEq, Prod.mk.injEq] at H
    obtain ⟨rfl, rfl⟩ := H
    have pI := bM.out
    have pJ := bN.out
    have pK := bO.out
    have pL := bP.out
    have pM := cA2 aH.out
    have pN := cQ.out
    have pO := cP.out
    have pP := cA2 aJ.out
    have pQ := cA2 aI.out
    obtain ⟨fS, fT, jI⟩ := Kd.R_slice aE.out
    subst jI
    go_wp2
    refine bodyPost_ret (results_cell_row rfl _ _ cA 28 #[aV, .slice fS aK.length fT] (0, 0) _ rfl (bm aI.out) Try.underlying28 rfl (by kernel_rfl)) rfl ?_
    exact ⟨_, xW, by (with_reducible repeat (first | apply Kd.R_alloc | apply Kd.R_drewN | apply Kd.R_drew)); exact Kd.R_mono (kF (p := ⟨cA, 1, none⟩) (kF (p := ⟨cA, 0, none⟩) (Kd.R_types aE.out aI.out (by decide)) (fun _ hk => hk.2) (.int .i64 aV)) (fun _ hk => hk.2) (.slice fS aK.length fT)) (fun _ hk => trivial), bl HB.out⟩
   rw [if_pos eV] at H
   have jH := decide_eq_true eV
   clear eV
   obtain ⟨sO, H⟩ := gI H
   by_cases dE : aA = cC
   case pos =>
    rw [if_pos dE] at H
    have fU : (aA == cC) = true := beq_iff_eq.mpr dE
    have fV : (aA != cC) = false := bne_eq_false_iff_eq.mpr dE
    clear dE
    obtain ⟨fH, hbq23⟩ : ∃ b_ : Bool, b_ = ((rd_T79 aC aA).f0) := ⟨_, rfl⟩
    replace H : (if fH = true then ((spec_Turn.f k1 (fH) ((rd_T79 aC aA).f1) ((rd_T79 aC aA).f2.f0) ((rd_T79 aC aA).f2.f1) ((rd_T79 aC aA).f2.f2) ((rd_T79 aC aA).f2.f3) ((rd_T79 aC aA).f3) ((rd_T79 aC aA).f4) ((rd_T79 aC aA).f5) ((rd_T79 aC aA).f6) ((rd_T79 aC aA).f7) 1).bind fun cD => (if aA < (aK.length : Int) then (spec_Decide.l0 k1 cC (wrap64 (aA + 1)) aN aC aV (aK.set (aA : Int).toNat (⟨cD.1, cD.2.1, (⟨cD.2.2.1, cD.2.2.2.1, cD.2.2.2.2.1, cD.2.2.2.2.2.1⟩ : S73), cD.2.2.2.2.2.2.1, cD.2.2.2.2.2.2.2.1, cD.2.2.2.2.2.2.2.2.1, cD.2.2.2.2.2.2.2.2.2.1, cD.2.2.2.2.2.2.2.2.2.2⟩ : S79))) else (none))) else (spec_Decide.l0 k1 cC (wrap64 (aA + 1)) aN aC aV aK)) = some (r1, r2) := by rw [← hbq23] at H; exact H
    have bL := aM hbq23
    clear hbq23
    by_cases fA : fH = true
    case neg =>
     replace fA := Bool.eq_false_iff.mpr fA
     subst fA
     replace H := hF H
     have H' := aM H
     clear H
     have sP := bM.out
     have sQ := bN.out
     have sR := bO.out
     have sT := bP.out
     have jJ := cA2 aH.out
     have cE : 0 ≤ (aA : Int) := dT
     have cG : aA < (aC.length : Int) := dT
     obtain ⟨cS, dM, bI, bJ, bQ, bR, bT, bU, bV, bW, bX, bY, aW⟩ := at_T79 cH.out aA cE cG
     (try rw [← bL.out] at bI)
     (try rw [← bL.out] at bJ)
     (try rw [← bL.out] at aW)
     cases dM
     replace bI := xB HB bI
     replace bJ := xB HB bJ
     replace bQ := xB HB bQ
     replace bR := xB HB bR
     replace bT := xB HB bT
     replace bU := xB HB bU
     replace bV := xB HB bV
     replace bW := xB HB bW
     replace bX := xB HB bX
     replace bY := xB HB bY
     replace aW := xB HB aW
     replace cE := eq_true cE
     replace cG := eq_true cG
     go_wp2_with (first | ((with_reducible refine gD (N := 7) rfl ?_); refine box_event ?hg (N := 7) ?hd (cs := #[.bool false, .bool false, .int .i64 0, .int .i64 0, .int .i64 0, .int .i64 0, .int .i64 0, .int .i64 0, .int .i64 0, .int .i64 0, .bool false]) (t := 79) ?hr ?_; (case hd => rfl); (case hg => rfl); (case hr => first | (go_simp; done) | (go_simp; rfl) | (obtain ⟨A_, c_, e_⟩ := Kd.R_slice aE.out; subst e_; (first | (go_simp; done) | (go_simp; rfl))) | (obtain ⟨A_, c_, e_⟩ := Kd.S_slice aE.out; subst e_; (first | (go_simp; done) | (go_simp; rfl)))); intro aG hg wF hbox hb; have aD := aM (hbox); have fW := gF hg HB; have cY := gF hg HB; have aX := nM hg aH; have aZ := nH hg aH; have bA := nM hg aI; have bD := nH hg aI; have bG := nM hg aJ; have bH := nH hg aJ; replace aE := aM (kB (Kd.R_elderB (kr aE.out) aG (Nat.le_of_eq hg.symm)) hb); replace aH := rB aH hb; replace aI := rB aI hb; replace aJ := rB aJ hb; replace HB := rS HB hb; clear hb hbox hg; have sU := aZ.out; have sV := aX.out; have sW := bD.out; have sX := bA.out; have sY := bH.out; have tA := bG.out; have jK := cA11 aD.out))
     go_roundg k1
     case measure => have := cR.out; omega
     case rel => (try rw [← bL.out]); (try rw [← cK.out]); exact ⟨(wrap64 (aA + 1)), (aK), (aT), xE, H', ⟨by have := cR.out; omega⟩, ⟨kr (Kd.R_mono (kF (p := ⟨aG, 10, none⟩) (kF (p := ⟨aG, 9, none⟩) (kF (p := ⟨aG, 8, none⟩) (kF (p := ⟨aG, 7, none⟩) (kF (p := ⟨aG, 6, none⟩) (kF (p := ⟨aG, 5, none⟩) (kF (p := ⟨aG, 4, none⟩) (kF (p := ⟨aG, 3, none⟩) (kF (p := ⟨aG, 2, none⟩) (kF (p := ⟨aG, 1, none⟩) (kF (p := ⟨aG, 0, none⟩) (Kd.R_mono aE.out (fun k_ hk => (⟨hk, hk.2⟩ : _ ∧ k_ ≠ aG))) (fun _ hk => hk.2) (.bool false)) (fun _ hk => hk.2) (.bool ((rd_T79 aC aA).f1))) (fun _ hk => hk.2) (.int .i64 ((rd_T79 aC aA).f2.f0))) (fun _ hk => hk.2) (.int .i64 ((rd_T79 aC aA).f2.f1))) (fun _ hk => hk.2) (.int .i64 ((rd_T79 aC aA).f2.f2))) (fun _ hk => hk.2) (.int .i64 ((rd_T79 aC aA).f2.f3))) (fun _ hk => hk.2) (.int .i64 ((rd_T79 aC aA).f3))) (fun _ hk => hk.2) (.int .i64 ((rd_T79 aC aA).f4))) (fun _ hk => hk.2) (.int .i64 ((rd_T79 aC aA).f5))) (fun _ hk => hk.2) (.int .i64 ((rd_T79 aC aA).f6))) (fun _ hk => hk.2) (.bool ((rd_T79 aC aA).f7))) (fun _ hk => trivial))⟩, ⟨fm aH.out⟩, ⟨fm aI.out⟩, ⟨fm aJ.out⟩, ⟨bl HB.out⟩⟩
    subst fA
    replace H := hP H rfl
    obtain ⟨⟨dN, dO, dP, dQ, dR, dS, dU, dV, dW, dX, dY⟩, gU, H⟩ := hB H
    try dsimp only at H
    have pR := aM gU
    clear gU
    obtain ⟨tB, H⟩ := gI H
    obtain ⟨gV, dA⟩ : ∃ y_ : List (S79), y_ = (aK.set (aA : Int).toNat (⟨dN, dO, (⟨dP, dQ, dR, dS⟩ : S73), dU, dV, dW, dX, dY⟩ : S79)) := ⟨_, rfl⟩
    replace H : (spec_Decide.l0 k1 cC (wrap64 (aA + 1)) aN aC aV gV) = some (r1, r2) := by first | (rw [dA]; with_reducible exact H) | (have H2_ := (Option.bind_some _ _).symm.trans H; rw [dA]; with_reducible exact H2_) | (have H2_ := (Option.bind_some _ _).symm.trans H; with_reducible exact H2_) | with_reducible exact H | (rw [dA]; exact H) | exact H
    have jL := aM dA
    clear dA
    have H' := aM H
    clear H
    have tC := bM.out
    have tD := bN.out
    have tE := bO.out
    have tF := bP.out
    have jM := cA2 aH.out
    have cE : 0 ≤ (aA : Int) := dT
    have cG : aA < (aC.length : Int) := dT
    obtain ⟨cS, dM, bI, bJ, bQ, bR, bT, bU, bV, bW, bX, bY, aW⟩ := at_T79 cH.out aA cE cG
    (try rw [← bL.out] at bI)
    (try rw [← bL.out] at bJ)
    (try rw [← bL.out] at aW)
    cases dM
    replace bI := xB HB bI
    replace bJ := xB HB bJ
    replace bQ := xB HB bQ
    replace bR := xB HB bR
    replace bT := xB HB bT
    replace bU := xB HB bU
    replace bV := xB HB bV
    replace bW := xB HB bW
    replace bX := xB HB bX
    replace bY := xB HB bY
    replace aW := xB HB aW
    replace cE := eq_true cE
    replace cG := eq_true cG
    try go_wp2_with (first | ((with_reducible refine gD (N := 7) rfl ?_); refine box_event ?hg (N := 7) ?hd (cs := #[.bool false, .bool false, .int .i64 0, .int .i64 0, .int .i64 0, .int .i64 0, .int .i64 0, .int .i64 0, .int .i64 0, .int .i64 0, .bool false]) (t := 79) ?hr ?_; (case hd => rfl); (case hg => rfl); (case hr => first | (go_simp; done) | (go_simp; rfl) | (obtain ⟨A_, c_, e_⟩ := Kd.R_slice aE.out; subst e_; (first | (go_simp; done) | (go_simp; rfl))) | (obtain ⟨A_, c_, e_⟩ := Kd.S_slice aE.out; subst e_; (first | (go_simp; done) | (go_simp; rfl)))); intro aG hg wG hbox hb; have aD := aM (hbox); have fW := gF hg HB; have cY := gF hg HB; have aX := nM hg aH; have aZ := nH hg aH; have bA := nM hg aI; have bD := nH hg aI; have bG := nM hg aJ; have bH := nH hg aJ; replace aE := aM (kB (Kd.R_elderB (kr aE.out) aG (Nat.le_of_eq hg.symm)) hb); replace aH := rB aH hb; replace aI := rB aI hb; replace aJ := rB aJ hb; replace HB := rS HB hb; clear hb hbox hg; have tG := aZ.out; have tH := aX.out; have tI := bD.out; have tJ := bA.out; have tK := bH.out; have tL := bG.out; have jN := cA11 aD.out))
    refine nW (fun W => Aside0 (Kd.R k79 79 W w.heap.size (fun k_ => k_ ≠ aG) aT aK) ∧ Aside0 (W.heap[cV]? = some (.cells #[aN, .slice (some cS) aC.length bZ] 28 (0, 0))) ∧ Aside0 (W.heap[cA]? = some (.cells #[.int .i64 0, .slice none 0 0] 28 (0, 0))) ∧ Aside0 (W.heap[bK]? = some (.cells #[aV, aT] 28 (0, 0))) ∧ Aside0 (W.heap[aG]? = some (.cells #[.bool true, ((rd_T79 aC aA).f1), ((rd_T79 aC aA).f2.f0), ((rd_T79 aC aA).f2.f1), ((rd_T79 aC aA).f2.f2), ((rd_T79 aC aA).f2.f3), ((rd_T79 aC aA).f3), ((rd_T79 aC aA).f4), ((rd_T79 aC aA).f5), ((rd_T79 aC aA).f6), ((rd_T79 aC aA).f7)] 79 (0, 0))) ∧ Aside0 (Below w.heap.size w W)) ⟨⟨kr (Kd.R_mono (kF (p := ⟨aG, 10, none⟩) (kF (p := ⟨aG, 9, none⟩) (kF (p := ⟨aG, 8, none⟩) (kF (p := ⟨aG, 7, none⟩) (kF (p := ⟨aG, 6, none⟩) (kF (p := ⟨aG, 5, none⟩) (kF (p := ⟨aG, 4, none⟩) (kF (p := ⟨aG, 3, none⟩) (kF (p := ⟨aG, 2, none⟩) (kF (p := ⟨aG, 1, none⟩) (kF (p := ⟨aG, 0, none⟩) (Kd.R_mono aE.out (fun k_ hk => (⟨hk, hk.2⟩ : _ ∧ k_ ≠ aG))) (fun _ hk => hk.2) (.bool true)) (fun _ hk => hk.2) (.bool ((rd_T79 aC aA).f1))) (fun _ hk => hk.2) (.int .i64 ((rd_T79 aC aA).f2.f0))) (fun _ hk => hk.2) (.int .i64 ((rd_T79 aC aA).f2.f1))) (fun _ hk => hk.2) (.int .i64 ((rd_T79 aC aA).f2.f2))) (fun _ hk => hk.2) (.int .i64 ((rd_T79 aC aA).f2.f3))) (fun _ hk => hk.2) (.int .i64 ((rd_T79 aC aA).f3))) (fun _ hk => hk.2) (.int .i64 ((rd_T79 aC aA).f4))) (fun _ hk => hk.2) (.int .i64 ((rd_T79 aC aA).f5))) (fun _ hk => hk.2) (.int .i64 ((rd_T79 aC aA).f6))) (fun _ hk => hk.2) (.bool ((rd_T79 aC aA).f7))) (fun _ hk => hk.1.2))⟩, ⟨fm aH.out⟩, ⟨fm aI.out⟩, ⟨fm aJ.out⟩, ⟨bm aD.out⟩, ⟨bl HB.out⟩⟩ ?_
    intro pS nn_
    replace aE := nn_.1
    replace aH := nn_.2.1
    replace aI := nn_.2.2.1
    replace aJ := nn_.2.2.2.1
    replace aD := nn_.2.2.2.2.1
    replace HB := nn_.2.2.2.2.2
    clear nn_
    replace aE := aM (Kd.R_drew aE.out)
    replace aH := aM (blk_drew aH.out)
    replace aI := aM (blk_drew aI.out)
    replace aJ := aM (blk_drew aJ.out)
    replace aD := aM (blk_drew aD.out)
    replace HB := aM (below_drew1 HB.out)
    refine start_ (n := 8) (S := fun w' => cT2 w' bK (.int .i64 aV) (aT) (cS11 w' aG (.bool true) (.bool ((rd_T79 aC aA).f1)) (.int .i64 ((rd_T79 aC aA).f2.f0)) (.int .i64 ((rd_T79 aC aA).f2.f1)) (.int .i64 ((rd_T79 aC aA).f2.f2)) (.int .i64 ((rd_T79 aC aA).f2.f3)) (.int .i64 ((rd_T79 aC aA).f3)) (.int .i64 ((rd_T79 aC aA).f4)) (.int .i64 ((rd_T79 aC aA).f5)) (.int .i64 ((rd_T79 aC aA).f6)) (.bool ((rd_T79 aC aA).f7)))) (ds := [7]) (dn 8 0) (by kernel_rfl) rfl rfl ⟨cI aJ.out 0, cI aJ.out 1, cI aD.out 0, cI aD.out 1, cI aD.out 2, cI aD.out 3, cI aD.out 4, cI aD.out 5, cI aD.out 6, cI aD.out 7, cI aD.out 8, cI aD.out 9, cI aD.out 10⟩ (fun hHeld => ?_); refine with_tabW spec_Decide.tab15 spec_Decide.bits15 (fun HT_ HW_ => ?_)
    generalize pS.drew = wH at aE aH aI aJ aD HB hHeld ⊢
    refine nY (N := some 47) HT_ ?_
    refine pY (i := 2) (N := some 49) #[Y,U,Y,U,U,U,U,U] HT_ ?_
    refine pY (i := 4) (N := some 51) #[Y,U,Y,U,Y,U,U,U] HT_ ?_
    refine aY (i := 1) (N := some 48) #[Y,Y,Y,U,Y,U,U,U] HT_ HW_ hHeld ?_
    refine aY (i := 3) (N := some 50) #[Y,Y,Y,Y,Y,U,U,U] HT_ HW_ hHeld ?_
    refine one_ (i := 5) (N := some 52) #[Y,Y,Y,Y,Y,Y,U,U] rfl rfl (one_of HT_.out (by kernel_rfl)) (by decide) (fun K hK => ?_)
    refine goes_ Try.func69 (by kernel_rfl) rfl #[.agg #[.bool true, ((rd_T79 aC aA).f1), ((rd_T79 aC aA).f2.f0), ((rd_T79 aC aA).f2.f1), ((rd_T79 aC aA).f2.f2), ((rd_T79 aC aA).f2.f3), ((rd_T79 aC aA).f3), ((rd_T79 aC aA).f4), ((rd_T79 aC aA).f5), ((rd_T79 aC aA).f6), ((rd_T79 aC aA).f7)], .int .i64 1] (by rfl) rfl rfl xR ?_
    with_reducible refine (spec_Turn.calls k1 true ((rd_T79 aC aA).f1) ((rd_T79 aC aA).f2.f0) ((rd_T79 aC aA).f2.f1) ((rd_T79 aC aA).f2.f2) ((rd_T79 aC aA).f2.f3) ((rd_T79 aC aA).f3) ((rd_T79 aC aA).f4) ((rd_T79 aC aA).f5) ((rd_T79 aC aA).f6) ((rd_T79 aC aA).f7) 1 dN dO dP dQ dR dS dU dV dW dX dY _ pR.out).mono ?_
    rintro e wI ⟨rfl, hb⟩
    refine ⟨_, rfl, ?_⟩
    replace aE := aM (kB (kr aE.out) hb)
    replace aH := rB aH hb
    replace aI := rB aI hb
    replace aJ := rB aJ hb
    replace aD := rB aD hb
    replace HB := rS HB hb
    (try clear hb)
    (try clear hb2)
    (try clear hk)
    (try clear hi)
    have fB : 0 ≤ (aA : Int) := dT
    have fC : (aA : Int) < ((aK.length : Int) : Int) := dT
    obtain ⟨kI, kJ, gW, gX, kK, vK, gY⟩ := Kd.R_form aE.out (by omega)
    (first | cases gW | (injection gW with ea_ en_ ec_; (first | subst ea_ | (injection ea_ with ea_; subst ea_)); subst ec_; clear en_))
    have cL := aM gX
    have vL := aM gY
    clear gX kK gY
    obtain ⟨vM, jO, gZ, fX, fY⟩ := Kd.R_elem aE.out z79 (aA : Int) fB fC
    obtain rfl := k79_openM gZ
    obtain ⟨hJ, hO, hU, hX, hY, hZ, iA, iB, iC, iD, gT, pT, pV, pW, pX, pZ, qA, qC, qD, qE, qF, kZ⟩ := eS79 (rd_T79 aK aA) fX fY
    clear jO fX fY gZ
    replace fB := eq_true fB
    replace fC := eq_true fC
    obtain ⟨vN, gA, iE, gB, jP⟩ := Kd.R_elem aE.out z79 (aA : Int) (dT) (by have h_ : (aA : Int) < ((aK.length : Int) : Int) := dT; first | exact h_ | (have e_ := (Kd.R_reads' aE.out).1; omega) | simpa using h_)
    obtain rfl := k79_openM iE
    have fI := (Kd.R_seg aE.out (aA : Int) (dT) (by have h_ : (aA : Int) < ((aK.length : Int) : Int) := dT; first | exact h_ | (have e_ := (Kd.R_reads' aE.out).1; omega) | simpa using h_) (seg := [.bool dN, .bool dO, .int .i64 dP, .int .i64 dQ, .int .i64 dR, .int .i64 dS, .int .i64 dU, .int .i64 dV, .int .i64 dW, .int .i64 dX, .bool dY]) (j := 0) gA gB (show 11 ≤ 11 from by decide) (x' := (⟨dN, dO, (⟨dP, dQ, dR, dS⟩ : S73), dU, dV, dW, dX, dY⟩ : S79)) (k79_mkM _ _ _ (⟨dN, dO, (⟨dP, dQ, dR, dS⟩ : S73), dU, dV, dW, dX, dY⟩ : S79) ) (fun _ hk => hk)).1
    rw [← jL.out] at fI
    have HQ39 := aM fI
    clear gA gB jP iE fI
    refine hK.out _ _ ⟨cI aJ.out 0, cI aJ.out 1, cI aD.out 0, cI aD.out 1, cI aD.out 2, cI aD.out 3, cI aD.out 4, cI aD.out 5, cI aD.out 6, cI aD.out 7, cI aD.out 8, cI aD.out 9, cI aD.out 10⟩ (fun hHeld => ?_)
    clear hK K
    refine norm_ (a' := ?_) ?_ ?_
    rotate_left
    ·show Act.put _ (some 52) _ = _
     simp only [Act.put, sA, sZ, sS, i64_w, i32_w]
     rfl
    refine pY (i := 6) (N := some 53) #[Y,Y,Y,Y,Y,Y,Y,U] HT_ ?_
    refine last_ (i := 7) (N := none) #[Y,Y,Y,Y,Y,Y,Y,Y] rfl rfl (one_of HT_.out (by kernel_rfl)) (by decide) (fun K hK => ?_)
    refine skip_ (w1 := ?_) (by rfl) rfl ?_ ?_
    rotate_left
    ·go_simp
     rfl
    refine hK.out _ _ ?_
    clear hK K
    refine done_ (done_of HT_.out (by kernel_rfl)) ?_
    try go_wp2
    go_roundg k1
    case measure => have := cR.out; omega
    case rel => (try rw [← bL.out]); (try rw [← cK.out]); exact ⟨(wrap64 (aA + 1)), (gV), (.slice (some ⟨kI, 0, none⟩) aK.length kJ), xE, H', ⟨by have := cR.out; omega⟩, ⟨kr (Kd.R_mono HQ39.out (fun _ hk => trivial))⟩, ⟨fR aE.out aH.out⟩, ⟨fR aE.out aI.out⟩, ⟨fR aE.out aJ.out⟩, ⟨by repeat (first | (with_reducible first | exact HB.out | apply below_alloc | apply pw_below_drewN | apply below_drew1 | refine below_set ?_ cL.out | refine below_set ?_ cL.out | refine below_set ?_ cL.out | refine below_set ?_ cL.out | refine below_set ?_ cL.out | refine below_set ?_ cL.out | refine below_set ?_ cL.out | refine below_set ?_ cL.out | refine below_set ?_ cL.out | refine below_set ?_ cL.out | refine below_set ?_ cL.out | refine below_set ?_ dG.out | refine below_set ?_ dH.out | refine below_set ?_ dI.out | refine below_set ?_ cY.out) | exact HB.out)⟩⟩
   rw [if_neg dE] at H
   have fU : (aA == cC) = false := beq_eq_false_iff_ne.mpr dE
   have fV : (aA != cC) = true := bne_iff_ne.mpr dE
   have fK := aM H
   clear H
   have tM := bM.out
   have tN := bN.out
   have tO := bO.out
   have tP := bP.out
   have jQ := cA2 aH.out
   have cE : 0 ≤ (aA : Int) := dT
   have cG : aA < (aC.length : Int) := dT
   obtain ⟨cS, dM, bI, bJ, bQ, bR, bT, bU, bV, bW, bX, bY, aW⟩ := at_T79 cH.out aA cE cG
   cases dM
   replace bI := xB HB bI
   replace bJ := xB HB bJ
   replace bQ := xB HB bQ
   replace bR := xB HB bR
   replace bT := xB HB bT
   replace bU := xB HB bU
   replace bV := xB HB bV
   replace bW := xB HB bW
   replace bX := xB HB bX
   replace bY := xB HB bY
   replace aW := xB HB aW
   replace cE := eq_true cE
   replace cG := eq_true cG
   go_upto_region 12 with (first | ((with_reducible refine gD (N := 7) rfl ?_); refine box_event ?hg (N := 7) ?hd (cs := #[.bool false, .bool false, .int .i64 0, .int .i64 0, .int .i64 0, .int .i64 0, .int .i64 0, .int .i64 0, .int .i64 0, .int .i64 0, .bool false]) (t := 79) ?hr ?_; (case hd => rfl); (case hg => rfl); (case hr => first | (go_simp; done) | (go_simp; rfl) | (obtain ⟨A_, c_, e_⟩ := Kd.R_slice aE.out; subst e_; (first | (go_simp; done) | (go_simp; rfl))) | (obtain ⟨A_, c_, e_⟩ := Kd.S_slice aE.out; subst e_; (first | (go_simp; done) | (go_simp; rfl)))); intro aG hg wJ hbox hb; have aD := aM (hbox); have fW := gF hg HB; have cY := gF hg HB; have aX := nM hg aH; have aZ := nH hg aH; have bA := nM hg aI; have bD := nH hg aI; have bG := nM hg aJ; have bH := nH hg aJ; replace aE := aM (kB (Kd.R_elderB (kr aE.out) aG (Nat.le_of_eq hg.symm)) hb); replace aH := rB aH hb; replace aI := rB aI hb; replace aJ := rB aJ hb; replace HB := rS HB hb; clear hb hbox hg; have tQ := aZ.out; have tR := aX.out; have tS := bD.out; have tT := bA.out; have tV := bH.out; have tW := bG.out; have jR := cA11 aD.out))
   (try simp only [Act.put, sA, sZ, sS])
   go_cut [44] (fun qG wc => ∃ (kq : Nat) (dB : Bool), qG = .bool dB ∧ Aside0 (spec_Decide.j1 kq cC aA 2 dB aN aC aV aK ((rd_T79 aC aA).f0) ((rd_T79 aC aA).f1) ((rd_T79 aC aA).f2.f0) ((rd_T79 aC aA).f2.f1) ((rd_T79 aC aA).f2.f2) ((rd_T79 aC aA).f2.f3) ((rd_T79 aC aA).f3) ((rd_T79 aC aA).f4) ((rd_T79 aC aA).f5) ((rd_T79 aC aA).f6) ((rd_T79 aC aA).f7) = some (r1, r2)) ∧ Aside0 (kq ≤ k1) ∧ Aside0 (Kd.R k79 79 wc w.heap.size (fun k_ => k_ ≠ aG) aT aK) ∧ Aside0 (wc.heap[cV]? = some (.cells #[aN, (.slice (some cS) aC.length bZ)] 28 (0, 0))) ∧ Aside0 (wc.heap[cA]? = some (.cells #[.int .i64 0, (.slice none 0 0)] 28 (0, 0))) ∧ Aside0 (wc.heap[bK]? = some (.cells #[aV, aT] 28 (0, 0))) ∧ Aside0 (wc.heap[aG]? = some (.cells #[((rd_T79 aC aA).f0), ((rd_T79 aC aA).f1), ((rd_T79 aC aA).f2.f0), ((rd_T79 aC aA).f2.f1), ((rd_T79 aC aA).f2.f2), ((rd_T79 aC aA).f2.f3), ((rd_T79 aC aA).f3), ((rd_T79 aC aA).f4), ((rd_T79 aC aA).f5), ((rd_T79 aC aA).f6), ((rd_T79 aC aA).f7)] 79 (0, 0))) ∧ Aside0 (Below w.heap.size w wc))
   case first =>
    have H := fK.out
    clear fK
    obtain ⟨eY, hbq57⟩ : ∃ b_ : Bool, b_ = ((rd_T79 aC aA).f1) := ⟨_, rfl⟩
    replace H : (if eY = true then ((spec_Own.f k1 aN aC aA).bind fun dL => ((spec_Better.f ((rd_T79 aC aA).f2.f0) ((rd_T79 aC aA).f2.f1) ((rd_T79 aC aA).f2.f2) ((rd_T79 aC aA).f2.f3) dL.1 dL.2.1 dL.2.2.1 dL.2.2.2).bind fun eZ => (spec_Decide.j1 k1 cC aA 2 eZ aN aC aV aK ((rd_T79 aC aA).f0) eY ((rd_T79 aC aA).f2.f0) ((rd_T79 aC aA).f2.f1) ((rd_T79 aC aA).f2.f2) ((rd_T79 aC aA).f2.f3) ((rd_T79 aC aA).f3) ((rd_T79 aC aA).f4) ((rd_T79 aC aA).f5) ((rd_T79 aC aA).f6) ((rd_T79 aC aA).f7)))) else (spec_Decide.j1 k1 cC aA 2 false aN aC aV aK ((rd_T79 aC aA).f0) eY ((rd_T79 aC aA).f2.f0) ((rd_T79 aC aA).f2.f1) ((rd_T79 aC aA).f2.f2) ((rd_T79 aC aA).f2.f3) ((rd_T79 aC aA).f3) ((rd_T79 aC aA).f4) ((rd_T79 aC aA).f5) ((rd_T79 aC aA).f6) ((rd_T79 aC aA).f7))) = some (r1, r2) := by rw [← hbq57] at H; exact H
    have cK := aM hbq57
    clear hbq57
    (try rw [← cK.out])
    by_cases fD : eY = true
    case neg =>
     replace fD := Bool.eq_false_iff.mpr fD
     subst fD
     replace H := hF H
     have H' := aM H
     clear H
     try go_wp2
     refine nW (fun W => Aside0 (Kd.R k79 79 W w.heap.size (fun k_ => k_ ≠ aG) aT aK) ∧ Aside0 (W.heap[cV]? = some (.cells #[aN, .slice (some cS) aC.length bZ] 28 (0, 0))) ∧ Aside0 (W.heap[cA]? = some (.cells #[.int .i64 0, .slice none 0 0] 28 (0, 0))) ∧ Aside0 (W.heap[bK]? = some (.cells #[aV, aT] 28 (0, 0))) ∧ Aside0 (W.heap[aG]? = some (.cells #[((rd_T79 aC aA).f0), .bool false, ((rd_T79 aC aA).f2.f0), ((rd_T79 aC aA).f2.f1), ((rd_T79 aC aA).f2.f2), ((rd_T79 aC aA).f2.f3), ((rd_T79 aC aA).f3), ((rd_T79 aC aA).f4), ((rd_T79 aC aA).f5), ((rd_T79 aC aA).f6), ((rd_T79 aC aA).f7)] 79 (0, 0))) ∧ Aside0 (Below w.heap.size w W)) ⟨⟨kr (Kd.R_mono (kF (p := ⟨aG, 10, none⟩) (kF (p := ⟨aG, 9, none⟩) (kF (p := ⟨aG, 8, none⟩) (kF (p := ⟨aG, 7, none⟩) (kF (p := ⟨aG, 6, none⟩) (kF (p := ⟨aG, 5, none⟩) (kF (p := ⟨aG, 4, none⟩) (kF (p := ⟨aG, 3, none⟩) (kF (p := ⟨aG, 2, none⟩) (kF (p := ⟨aG, 1, none⟩) (kF (p := ⟨aG, 0, none⟩) (Kd.R_mono aE.out (fun k_ hk => (⟨hk, hk.2⟩ : _ ∧ k_ ≠ aG))) (fun _ hk => hk.2) (.bool ((rd_T79 aC aA).f0))) (fun _ hk => hk.2) (.bool (false))) (fun _ hk => hk.2) (.int .i64 ((rd_T79 aC aA).f2.f0))) (fun _ hk => hk.2) (.int .i64 ((rd_T79 aC aA).f2.f1))) (fun _ hk => hk.2) (.int .i64 ((rd_T79 aC aA).f2.f2))) (fun _ hk => hk.2) (.int .i64 ((rd_T79 aC aA).f2.f3))) (fun _ hk => hk.2) (.int .i64 ((rd_T79 aC aA).f3))) (fun _ hk => hk.2) (.int .i64 ((rd_T79 aC aA).f4))) (fun _ hk => hk.2) (.int .i64 ((rd_T79 aC aA).f5))) (fun _ hk => hk.2) (.int .i64 ((rd_T79 aC aA).f6))) (fun _ hk => hk.2) (.bool ((rd_T79 aC aA).f7))) (fun _ hk => hk.1.2))⟩, ⟨fm aH.out⟩, ⟨fm aI.out⟩, ⟨fm aJ.out⟩, ⟨bm aD.out⟩, ⟨bl HB.out⟩⟩ ?_
     intro qH nn_
     replace aE := nn_.1
     replace aH := nn_.2.1
     replace aI := nn_.2.2.1
     replace aJ := nn_.2.2.2.1
     replace aD := nn_.2.2.2.2.1
     replace HB := nn_.2.2.2.2.2
     clear nn_
     replace aE := aM (Kd.R_drew aE.out)
     replace aH := aM (blk_drew aH.out)
     replace aI := aM (blk_drew aI.out)
     replace aJ := aM (blk_drew aJ.out)
     replace aD := aM (blk_drew aD.out)
     replace HB := aM (below_drew1 HB.out)
     refine start_ (n := 10) (S := fun w' => cS11 w' aG (.bool ((rd_T79 aC aA).f0)) (.bool false) (.int .i64 ((rd_T79 aC aA).f2.f0)) (.int .i64 ((rd_T79 aC aA).f2.f1)) (.int .i64 ((rd_T79 aC aA).f2.f2)) (.int .i64 ((rd_T79 aC aA).f2.f3)) (.int .i64 ((rd_T79 aC aA).f3)) (.int .i64 ((rd_T79 aC aA).f4)) (.int .i64 ((rd_T79 aC aA).f5)) (.int .i64 ((rd_T79 aC aA).f6)) (.bool ((rd_T79 aC aA).f7))) (ds := []) (dn 10 0) (by kernel_rfl) rfl rfl ⟨cI aD.out 0, cI aD.out 1, cI aD.out 2, cI aD.out 3, cI aD.out 4, cI aD.out 5, cI aD.out 6, cI aD.out 7, cI aD.out 8, cI aD.out 9, cI aD.out 10⟩ (fun hHeld => ?_); refine with_tabW spec_Decide.tab12 spec_Decide.bits12 (fun HT_ HW_ => ?_)
     generalize qH.drew = wK at aE aH aI aJ aD HB hHeld ⊢
     refine nY (N := some 35) HT_ ?_
     refine tY (N := some 36) HT_ HW_ hHeld ?_
     refine nY (N := some 37) HT_ ?_
     refine nU (N := some 38) HT_ ?_
     refine nU (N := some 39) HT_ ?_
     refine nU (N := some 40) HT_ ?_
     refine nU (N := some 41) HT_ ?_
     refine nU (N := some 42) HT_ ?_
     refine nU (N := some 43) HT_ ?_
     refine nY (N := some 44) HT_ ?_
     refine done_ (done_of HT_.out (by kernel_rfl)) ?_
     try go_wp2
     go_meet
     case rel => (try rw [← bL.out]); (try rw [← cK.out]); exact ⟨_, (false), xE, H', ⟨by have := cR.out; first | omega | exact Nat.le_refl _⟩, ⟨kr aE.out⟩, ⟨bk aH.out⟩, ⟨bk aI.out⟩, ⟨bk aJ.out⟩, ⟨bk aD.out⟩, ⟨bl HB.out⟩⟩
    subst fD
    replace H := hP H rfl
    obtain ⟨⟨fL, fM, fN, fO⟩, iF, H⟩ := hB H
    try dsimp only at H
    have qI := aM iF
    clear iF
    obtain ⟨eZ, iG, H⟩ := hB H
    have qJ := aM iG
    clear iG
    have H' := aM H
    clear H
    try go_wp2
    refine nW (fun W => Aside0 (Kd.R k79 79 W w.heap.size (fun k_ => k_ ≠ aG) aT aK) ∧ Aside0 (W.heap[cV]? = some (.cells #[aN, .slice (some cS) aC.length bZ] 28 (0, 0))) ∧ Aside0 (W.heap[cA]? = some (.cells #[.int .i64 0, .slice none 0 0] 28 (0, 0))) ∧ Aside0 (W.heap[bK]? = some (.cells #[aV, aT] 28 (0, 0))) ∧ Aside0 (W.heap[aG]? = some (.cells #[((rd_T79 aC aA).f0), .bool true, ((rd_T79 aC aA).f2.f0), ((rd_T79 aC aA).f2.f1), ((rd_T79 aC aA).f2.f2), ((rd_T79 aC aA).f2.f3), ((rd_T79 aC aA).f3), ((rd_T79 aC aA).f4), ((rd_T79 aC aA).f5), ((rd_T79 aC aA).f6), ((rd_T79 aC aA).f7)] 79 (0, 0))) ∧ Aside0 (Below w.heap.size w W)) ⟨⟨kr (Kd.R_mono (kF (p := ⟨aG, 10, none⟩) (kF (p := ⟨aG, 9, none⟩) (kF (p := ⟨aG, 8, none⟩) (kF (p := ⟨aG, 7, none⟩) (kF (p := ⟨aG, 6, none⟩) (kF (p := ⟨aG, 5, none⟩) (kF (p := ⟨aG, 4, none⟩) (kF (p := ⟨aG, 3, none⟩) (kF (p := ⟨aG, 2, none⟩) (kF (p := ⟨aG, 1, none⟩) (kF (p := ⟨aG, 0, none⟩) (Kd.R_mono aE.out (fun k_ hk => (⟨hk, hk.2⟩ : _ ∧ k_ ≠ aG))) (fun _ hk => hk.2) (.bool ((rd_T79 aC aA).f0))) (fun _ hk => hk.2) (.bool (true))) (fun _ hk => hk.2) (.int .i64 ((rd_T79 aC aA).f2.f0))) (fun _ hk => hk.2) (.int .i64 ((rd_T79 aC aA).f2.f1))) (fun _ hk => hk.2) (.int .i64 ((rd_T79 aC aA).f2.f2))) (fun _ hk => hk.2) (.int .i64 ((rd_T79 aC aA).f2.f3))) (fun _ hk => hk.2) (.int .i64 ((rd_T79 aC aA).f3))) (fun _ hk => hk.2) (.int .i64 ((rd_T79 aC aA).f4))) (fun _ hk => hk.2) (.int .i64 ((rd_T79 aC aA).f5))) (fun _ hk => hk.2) (.int .i64 ((rd_T79 aC aA).f6))) (fun _ hk => hk.2) (.bool ((rd_T79 aC aA).f7))) (fun _ hk => hk.1.2))⟩, ⟨fm aH.out⟩, ⟨fm aI.out⟩, ⟨fm aJ.out⟩, ⟨bm aD.out⟩, ⟨bl HB.out⟩⟩ ?_
    intro qM nn_
    replace aE := nn_.1
    replace aH := nn_.2.1
    replace aI := nn_.2.2.1
    replace aJ := nn_.2.2.2.1
    replace aD := nn_.2.2.2.2.1
    replace HB := nn_.2.2.2.2.2
    clear nn_
    replace aE := aM (Kd.R_drew aE.out)
    replace aH := aM (blk_drew aH.out)
    replace aI := aM (blk_drew aI.out)
    replace aJ := aM (blk_drew aJ.out)
    replace aD := aM (blk_drew aD.out)
    replace HB := aM (below_drew1 HB.out)
    refine start_ (n := 10) (S := fun w' => cT11 w' aG (.bool ((rd_T79 aC aA).f0)) (.bool true) (.int .i64 ((rd_T79 aC aA).f2.f0)) (.int .i64 ((rd_T79 aC aA).f2.f1)) (.int .i64 ((rd_T79 aC aA).f2.f2)) (.int .i64 ((rd_T79 aC aA).f2.f3)) (.int .i64 ((rd_T79 aC aA).f3)) (.int .i64 ((rd_T79 aC aA).f4)) (.int .i64 ((rd_T79 aC aA).f5)) (.int .i64 ((rd_T79 aC aA).f6)) (.bool ((rd_T79 aC aA).f7)) (cS2 w' cV (.int .i64 aN) (.slice (some cS) aC.length bZ))) (ds := []) (dn 10 0) (by kernel_rfl) rfl rfl ⟨cI aD.out 0, cI aD.out 1, cI aD.out 2, cI aD.out 3, cI aD.out 4, cI aD.out 5, cI aD.out 6, cI aD.out 7, cI aD.out 8, cI aD.out 9, cI aD.out 10, cI aH.out 0, cI aH.out 1⟩ (fun hHeld => ?_); refine with_tabW spec_Decide.tab12 spec_Decide.bits12 (fun HT_ HW_ => ?_)
    generalize qM.drew = wL at aE aH aI aJ aD HB hHeld ⊢
    refine nY (N := some 35) HT_ ?_
    refine tY (N := some 36) HT_ HW_ hHeld ?_
    refine nY (N := some 37) HT_ ?_
    refine nY (N := some 38) HT_ ?_
    refine pY (i := 6) (N := some 41) #[Y,Y,Y,Y,U,U,Y,U,U,U] HT_ ?_
    refine aY (i := 4) (N := some 39) #[Y,Y,Y,Y,Y,U,Y,U,U,U] HT_ HW_ hHeld ?_
    refine aY (i := 5) (N := some 40) #[Y,Y,Y,Y,Y,Y,Y,U,U,U] HT_ HW_ hHeld ?_
    refine one_ (i := 7) (N := some 42) #[Y,Y,Y,Y,Y,Y,Y,Y,U,U] rfl rfl (one_of HT_.out (by kernel_rfl)) (by decide) (fun K hK => ?_)
    refine goes_ Try.func41 (by kernel_rfl) rfl #[.agg #[aN, .slice (some cS) aC.length bZ], aA] (by rfl) rfl rfl xR ?_
    with_reducible refine (spec_Own.calls k1 aN _ _ aC aA fL fM fN fO _ ?side1 ?side2 qI.out).mono ?_
    (case side1 => exact cM (cB cH.out HB.out))
    (case side2 => exact cX.out)
    rintro e wM ⟨rfl, hb⟩
    refine ⟨_, rfl, ?_⟩
    replace aE := aM (kB (kr aE.out) hb)
    replace aH := rB aH hb
    replace aI := rB aI hb
    replace aJ := rB aJ hb
    replace aD := rB aD hb
    replace HB := rS HB hb
    (try clear hb)
    (try clear hb2)
    (try clear hk)
    (try clear hi)
    refine hK.out _ _ ⟨cI aD.out 0, cI aD.out 1, cI aD.out 2, cI aD.out 3, cI aD.out 4, cI aD.out 5, cI aD.out 6, cI aD.out 7, cI aD.out 8, cI aD.out 9, cI aD.out 10, cI aH.out 0, cI aH.out 1⟩ (fun hHeld => ?_)
    clear hK K
    refine norm_ (a' := ?_) ?_ ?_
    rotate_left
    ·show Act.put _ (some 42) _ = _
     simp only [Act.put, sA, sZ, sS, i64_w, i32_w]
     rfl
    refine one_ (i := 8) (N := some 43) #[Y,Y,Y,Y,Y,Y,Y,Y,Y,U] rfl rfl (one_of HT_.out (by kernel_rfl)) (by decide) (fun K hK => ?_)
    refine goes_ Try.func68 (by kernel_rfl) rfl #[.agg #[((rd_T79 aC aA).f2.f0), ((rd_T79 aC aA).f2.f1), ((rd_T79 aC aA).f2.f2), ((rd_T79 aC aA).f2.f3)], .agg #[fL, fM, fN, fO]] (by rfl) rfl rfl xR ?_
    with_reducible refine (spec_Better.calls ((rd_T79 aC aA).f2.f0) ((rd_T79 aC aA).f2.f1) ((rd_T79 aC aA).f2.f2) ((rd_T79 aC aA).f2.f3) fL fM fN fO eZ _ qJ.out).mono ?_
    rintro e wN ⟨rfl, hb⟩
    refine ⟨_, rfl, ?_⟩
    replace aE := aM (kB (kr aE.out) hb)
    replace aH := rB aH hb
    replace aI := rB aI hb
    replace aJ := rB aJ hb
    replace aD := rB aD hb
    replace HB := rS HB hb
    (try clear hb)
    (try clear hb2)
    (try clear hk)
    (try clear hi)
    refine hK.out _ _ ⟨cI aD.out 0, cI aD.out 1, cI aD.out 2, cI aD.out 3, cI aD.out 4, cI aD.out 5, cI aD.out 6, cI aD.out 7, cI aD.out 8, cI aD.out 9, cI aD.out 10, cI aH.out 0, cI aH.out 1⟩ (fun hHeld => ?_)
    clear hK K
    refine norm_ (a' := ?_) ?_ ?_
    rotate_left
    ·show Act.put _ (some 43) _ = _
     simp only [Act.put, sA, sZ, sS, i64_w, i32_w]
     rfl
    refine pY (i := 9) (N := some 44) #[Y,Y,Y,Y,Y,Y,Y,Y,Y,Y] HT_ ?_
    refine done_ (done_of HT_.out (by kernel_rfl)) ?_
    try go_wp2
    go_meet
    case rel => (try rw [← bL.out]); (try rw [← cK.out]); exact ⟨_, (eZ), xE, H', ⟨by have := cR.out; first | omega | exact Nat.le_refl _⟩, ⟨kr aE.out⟩, ⟨bk aH.out⟩, ⟨bk aI.out⟩, ⟨bk aJ.out⟩, ⟨bk aD.out⟩, ⟨bl HB.out⟩⟩
   case rest =>
    clear fK
    repeat first|clear c2|clear p2|clear q2|clear wO|clear wP|clear c3|clear c4|clear c5|clear q5|clear c6|clear p6|clear wQ|clear wR|clear vO|clear dE|clear fU|clear fV|clear wS|clear fA|clear wT|clear wU|clear fB|clear fC|clear vP|clear vQ|clear wV|clear wW|clear wX|clear wY|clear wZ|clear xA|clear xC|clear xD|clear xF|clear xG|clear xH|clear xI|clear xJ|clear xK|clear xL|clear xM|clear xN|clear fD|clear xO|clear jM|clear lA|clear jN|clear jJ|clear lB|clear jK|clear jQ|clear lC|clear jR|clear lD|clear lE|clear lF|clear lG|clear lH|clear lI|clear bI|clear bJ|clear aW|clear bQ|clear bR|clear bT|clear bU|clear bV|clear bW|clear bX|clear bY|clear hJ|clear hO|clear gT|clear hU|clear hX|clear hY|clear hZ|clear iA|clear iB|clear iC|clear iD|clear cE|clear fB|clear cG|clear fC
    obtain ⟨kq, dB, rfl, HA, HJ47, aE, aH, aI, aJ, aD, HB⟩ := hcut
    cases kq with
    | zero => exact absurd HA.out (by simp [spec_Decide.j1])
    | succ cW =>
     have H := HA.out
     clear HA
     simp only [spec_Decide.j1] at H
     by_cases gG : dB = true
     case pos =>
      subst gG
      replace H := hP H rfl
      by_cases eW : ((rd_T79 aC aA).f0) = true
      case neg =>
       rw [if_neg eW] at H
       have gH : ((rd_T79 aC aA).f0) = false := by simpa using eW
       clear eW
       have H' := aM H
       clear H
       have tX := aZ.out
       have tZ := aX.out
       have uA := bD.out
       have uB := bA.out
       have uC := bH.out
       have uD := bG.out
       have lJ : wc.cell? ⟨aG, 0, none⟩ = some ((rd_T79 aC aA).f0) := cI aD.out 0
       have lK : wc.cell? ⟨aG, 1, none⟩ = some ((rd_T79 aC aA).f1) := cI aD.out 1
       have lL : wc.cell? ⟨aG, 2, none⟩ = some ((rd_T79 aC aA).f2.f0) := cI aD.out 2
       have lM : wc.cell? ⟨aG, 3, none⟩ = some ((rd_T79 aC aA).f2.f1) := cI aD.out 3
       have lN : wc.cell? ⟨aG, 4, none⟩ = some ((rd_T79 aC aA).f2.f2) := cI aD.out 4
       have lO : wc.cell? ⟨aG, 5, none⟩ = some ((rd_T79 aC aA).f2.f3) := cI aD.out 5
       have lP : wc.cell? ⟨aG, 6, none⟩ = some ((rd_T79 aC aA).f3) := cI aD.out 6
       have lQ : wc.cell? ⟨aG, 7, none⟩ = some ((rd_T79 aC aA).f4) := cI aD.out 7
       have lR : wc.cell? ⟨aG, 8, none⟩ = some ((rd_T79 aC aA).f5) := cI aD.out 8
       have lS : wc.cell? ⟨aG, 9, none⟩ = some ((rd_T79 aC aA).f6) := cI aD.out 9
       have kL : wc.cell? ⟨aG, 10, none⟩ = some ((rd_T79 aC aA).f7) := cI aD.out 10
       have lT := bF aD.out 0
       have lU := bF aD.out 1
       have lV := bF aD.out 2
       have lW := bF aD.out 3
       have lX := bF aD.out 4
       have lY := bF aD.out 5
       have lZ := bF aD.out 6
       have mA := bF aD.out 7
       have mB := bF aD.out 8
       have mC := bF aD.out 9
       have kM := bF aD.out 10
       go_wp2
       go_roundg cW
       case measure => have := cR.out; have := HJ47.out; omega
       case rel => (try rw [← bL.out]); (try rw [← cK.out]); exact ⟨(wrap64 (aA + 1)), (aK), (aT), xE, H', ⟨by have := cR.out; have := HJ47.out; omega⟩, ⟨kr (Kd.R_mono aE.out (fun _ hk => trivial))⟩, ⟨bk aH.out⟩, ⟨bk aI.out⟩, ⟨bk aJ.out⟩, ⟨bl HB.out⟩⟩
      rw [if_pos eW] at H
      have gH : ((rd_T79 aC aA).f0) = true := eW
      clear eW
      obtain ⟨⟨dZ, eA, eB, eC, eD, eE, eF, eG, eH, eI, eJ⟩, iH, H⟩ := hB H
      try dsimp only at H
      have qN := aM iH
      clear iH
      obtain ⟨uE, H⟩ := gI H
      obtain ⟨uF, H⟩ := gI H
      obtain ⟨iI, dC⟩ : ∃ y_ : List (S79), y_ = (aK.set (aA : Int).toNat (⟨dZ, eA, (⟨eB, eC, eD, eE⟩ : S73), eF, eG, eH, eI, eJ⟩ : S79)) := ⟨_, rfl⟩
      replace H : (spec_Decide.l0 cW cC (wrap64 (aA + 1)) aN aC aV iI) = some (r1, r2) := by first | (rw [dC]; with_reducible exact H) | (have H2_ := (Option.bind_some _ _).symm.trans H; rw [dC]; with_reducible exact H2_) | (have H2_ := (Option.bind_some _ _).symm.trans H; with_reducible exact H2_) | with_reducible exact H | (rw [dC]; exact H) | exact H
      have jS := aM dC
      clear dC
      have H' := aM H
      clear H
      have uG := aZ.out
      have uH := aX.out
      have uI := bD.out
      have uJ := bA.out
      have uK := bH.out
      have uL := bG.out
      have mD : wc.cell? ⟨aG, 0, none⟩ = some ((rd_T79 aC aA).f0) := cI aD.out 0
      have mE : wc.cell? ⟨aG, 1, none⟩ = some ((rd_T79 aC aA).f1) := cI aD.out 1
      have mF : wc.cell? ⟨aG, 2, none⟩ = some ((rd_T79 aC aA).f2.f0) := cI aD.out 2
      have mG : wc.cell? ⟨aG, 3, none⟩ = some ((rd_T79 aC aA).f2.f1) := cI aD.out 3
      have mH : wc.cell? ⟨aG, 4, none⟩ = some ((rd_T79 aC aA).f2.f2) := cI aD.out 4
      have mI : wc.cell? ⟨aG, 5, none⟩ = some ((rd_T79 aC aA).f2.f3) := cI aD.out 5
      have mJ : wc.cell? ⟨aG, 6, none⟩ = some ((rd_T79 aC aA).f3) := cI aD.out 6
      have mK : wc.cell? ⟨aG, 7, none⟩ = some ((rd_T79 aC aA).f4) := cI aD.out 7
      have mL : wc.cell? ⟨aG, 8, none⟩ = some ((rd_T79 aC aA).f5) := cI aD.out 8
      have mM : wc.cell? ⟨aG, 9, none⟩ = some ((rd_T79 aC aA).f6) := cI aD.out 9
      have kN : wc.cell? ⟨aG, 10, none⟩ = some ((rd_T79 aC aA).f7) := cI aD.out 10
      have mN := bF aD.out 0
      have mO := bF aD.out 1
      have mP := bF aD.out 2
      have mQ := bF aD.out 3
      have mR := bF aD.out 4
      have mS := bF aD.out 5
      have mT := bF aD.out 6
      have mU := bF aD.out 7
      have mV := bF aD.out 8
      have mW := bF aD.out 9
      have kO := bF aD.out 10
      try go_wp2
      replace aE := aM (Kd.R_drew aE.out)
      replace aH := aM (blk_drew aH.out)
      replace aI := aM (blk_drew aI.out)
      replace aJ := aM (blk_drew aJ.out)
      replace aD := aM (blk_drew aD.out)
      replace HB := aM (below_drew1 HB.out)
      refine start_ (n := 8) (S := fun w' => cT2 w' bK (.int .i64 aV) (aT) (cS11 w' aG (.bool ((rd_T79 aC aA).f0)) (.bool ((rd_T79 aC aA).f1)) (.int .i64 ((rd_T79 aC aA).f2.f0)) (.int .i64 ((rd_T79 aC aA).f2.f1)) (.int .i64 ((rd_T79 aC aA).f2.f2)) (.int .i64 ((rd_T79 aC aA).f2.f3)) (.int .i64 ((rd_T79 aC aA).f3)) (.int .i64 ((rd_T79 aC aA).f4)) (.int .i64 ((rd_T79 aC aA).f5)) (.int .i64 ((rd_T79 aC aA).f6)) (.bool ((rd_T79 aC aA).f7)))) (ds := [7]) (dn 8 0) (by kernel_rfl) rfl rfl ⟨cI aJ.out 0, cI aJ.out 1, cI aD.out 0, cI aD.out 1, cI aD.out 2, cI aD.out 3, cI aD.out 4, cI aD.out 5, cI aD.out 6, cI aD.out 7, cI aD.out 8, cI aD.out 9, cI aD.out 10⟩ (fun hHeld => ?_); refine with_tabW spec_Decide.tab15 spec_Decide.bits15 (fun HT_ HW_ => ?_)
      generalize wc.drew = xQ at aE aH aI aJ aD HB hHeld ⊢
      refine nY (N := some 47) HT_ ?_
      refine pY (i := 2) (N := some 49) #[Y,U,Y,U,U,U,U,U] HT_ ?_
      refine pY (i := 4) (N := some 51) #[Y,U,Y,U,Y,U,U,U] HT_ ?_
      refine aY (i := 1) (N := some 48) #[Y,Y,Y,U,Y,U,U,U] HT_ HW_ hHeld ?_
      refine aY (i := 3) (N := some 50) #[Y,Y,Y,Y,Y,U,U,U] HT_ HW_ hHeld ?_
      refine one_ (i := 5) (N := some 52) #[Y,Y,Y,Y,Y,Y,U,U] rfl rfl (one_of HT_.out (by kernel_rfl)) (by decide) (fun K hK => ?_)
      refine goes_ Try.func69 (by kernel_rfl) rfl #[.agg #[((rd_T79 aC aA).f0), ((rd_T79 aC aA).f1), ((rd_T79 aC aA).f2.f0), ((rd_T79 aC aA).f2.f1), ((rd_T79 aC aA).f2.f2), ((rd_T79 aC aA).f2.f3), ((rd_T79 aC aA).f3), ((rd_T79 aC aA).f4), ((rd_T79 aC aA).f5), ((rd_T79 aC aA).f6), ((rd_T79 aC aA).f7)], .int .i64 3] (by rfl) rfl rfl (by (try simp only [List.map_toArray, List.map_cons, List.map_nil]); first | done | rfl | (simp only [gH]; rfl) | (simp only [List.length_drop, List.length_take]; rfl)) ?_
      with_reducible refine (spec_Turn.calls cW ((rd_T79 aC aA).f0) ((rd_T79 aC aA).f1) ((rd_T79 aC aA).f2.f0) ((rd_T79 aC aA).f2.f1) ((rd_T79 aC aA).f2.f2) ((rd_T79 aC aA).f2.f3) ((rd_T79 aC aA).f3) ((rd_T79 aC aA).f4) ((rd_T79 aC aA).f5) ((rd_T79 aC aA).f6) ((rd_T79 aC aA).f7) 3 dZ eA eB eC eD eE eF eG eH eI eJ _ qN.out).mono ?_
      rintro e xS ⟨rfl, hb⟩
      refine ⟨_, rfl, ?_⟩
      replace aE := aM (kB (kr aE.out) hb)
      replace aH := rB aH hb
      replace aI := rB aI hb
      replace aJ := rB aJ hb
      replace aD := rB aD hb
      replace HB := rS HB hb
      (try clear hb)
      (try clear hb2)
      (try clear hk)
      (try clear hi)
      have iJ : 0 ≤ (aA : Int) := dT
      have iK : (aA : Int) < ((aK.length : Int) : Int) := dT
      obtain ⟨kP, kQ, iL, iM, kR, vR, iN⟩ := Kd.R_form aE.out (by omega)
      (first | cases iL | (injection iL with ea_ en_ ec_; (first | subst ea_ | (injection ea_ with ea_; subst ea_)); subst ec_; clear en_))
      have cN := aM iM
      have vS := aM iN
      clear iM kR iN
      obtain ⟨vT, jT, iO, gJ, gK⟩ := Kd.R_elem aE.out z79 (aA : Int) iJ iK
      obtain rfl := k79_openM iO
      obtain ⟨qO, qP, qQ, qS, qT, qV, qW, qX, qY, qZ, mX, rA, rC, rD, rE, rF, rG, rH, rI, rJ, rK, mY⟩ := eS79 (rd_T79 aK aA) gJ gK
      clear jT gJ gK iO
      replace iJ := eq_true iJ
      replace iK := eq_true iK
      obtain ⟨vU, gM, iP, gN, jU⟩ := Kd.R_elem aE.out z79 (aA : Int) (dT) (by have h_ : (aA : Int) < ((aK.length : Int) : Int) := dT; first | exact h_ | (have e_ := (Kd.R_reads' aE.out).1; omega) | simpa using h_)
      obtain rfl := k79_openM iP
      have fP := (Kd.R_seg aE.out (aA : Int) (dT) (by have h_ : (aA : Int) < ((aK.length : Int) : Int) := dT; first | exact h_ | (have e_ := (Kd.R_reads' aE.out).1; omega) | simpa using h_) (seg := [.bool dZ, .bool eA, .int .i64 eB, .int .i64 eC, .int .i64 eD, .int .i64 eE, .int .i64 eF, .int .i64 eG, .int .i64 eH, .int .i64 eI, .bool eJ]) (j := 0) gM gN (show 11 ≤ 11 from by decide) (x' := (⟨dZ, eA, (⟨eB, eC, eD, eE⟩ : S73), eF, eG, eH, eI, eJ⟩ : S79)) (k79_mkM _ _ _ (⟨dZ, eA, (⟨eB, eC, eD, eE⟩ : S73), eF, eG, eH, eI, eJ⟩ : S79) ) (fun _ hk => hk)).1
      rw [← jS.out] at fP
      have HQ79 := aM fP
      clear gM gN jU iP fP
      refine hK.out _ _ ⟨cI aJ.out 0, cI aJ.out 1, cI aD.out 0, cI aD.out 1, cI aD.out 2, cI aD.out 3, cI aD.out 4, cI aD.out 5, cI aD.out 6, cI aD.out 7, cI aD.out 8, cI aD.out 9, cI aD.out 10⟩ (fun hHeld => ?_)
      clear hK K
      refine norm_ (a' := ?_) ?_ ?_
      rotate_left
      ·show Act.put _ (some 52) _ = _
       simp only [Act.put, sA, sZ, sS, i64_w, i32_w]
       rfl
      refine pY (i := 6) (N := some 53) #[Y,Y,Y,Y,Y,Y,Y,U] HT_ ?_
      refine last_ (i := 7) (N := none) #[Y,Y,Y,Y,Y,Y,Y,Y] rfl rfl (one_of HT_.out (by kernel_rfl)) (by decide) (fun K hK => ?_)
      refine skip_ (w1 := ?_) (by rfl) rfl ?_ ?_
      rotate_left
      ·go_simp
       rfl
      refine hK.out _ _ ?_
      clear hK K
      refine done_ (done_of HT_.out (by kernel_rfl)) ?_
      try go_wp2
      go_roundg cW
      case measure => have := cR.out; have := HJ47.out; omega
      case rel => (try rw [← bL.out]); (try rw [← cK.out]); exact ⟨(wrap64 (aA + 1)), (iI), (.slice (some ⟨kP, 0, none⟩) aK.length kQ), xE, H', ⟨by have := cR.out; have := HJ47.out; omega⟩, ⟨kr (Kd.R_mono HQ79.out (fun _ hk => trivial))⟩, ⟨fR aE.out aH.out⟩, ⟨fR aE.out aI.out⟩, ⟨fR aE.out aJ.out⟩, ⟨by repeat (first | (with_reducible first | exact HB.out | apply below_alloc | apply pw_below_drewN | apply below_drew1 | refine below_set ?_ cN.out | refine below_set ?_ cN.out | refine below_set ?_ cN.out | refine below_set ?_ cN.out | refine below_set ?_ cN.out | refine below_set ?_ cN.out | refine below_set ?_ cN.out | refine below_set ?_ cN.out | refine below_set ?_ cN.out | refine below_set ?_ cN.out | refine below_set ?_ cN.out | refine below_set ?_ dG.out | refine below_set ?_ dH.out | refine below_set ?_ dI.out | refine below_set ?_ cY.out) | exact HB.out)⟩⟩
     replace gG := Bool.eq_false_iff.mpr gG
     subst gG
     replace H := hF H
     by_cases eX : ((rd_T79 aC aA).f0) = true
     case neg =>
      rw [if_neg eX] at H
      have gO : ((rd_T79 aC aA).f0) = false := by simpa using eX
      clear eX
      have H' := aM H
      clear H
      have uM := aZ.out
      have uN := aX.out
      have uO := bD.out
      have uP := bA.out
      have uQ := bH.out
      have uR := bG.out
      have mZ : wc.cell? ⟨aG, 0, none⟩ = some ((rd_T79 aC aA).f0) := cI aD.out 0
      have nA : wc.cell? ⟨aG, 1, none⟩ = some ((rd_T79 aC aA).f1) := cI aD.out 1
      have nB : wc.cell? ⟨aG, 2, none⟩ = some ((rd_T79 aC aA).f2.f0) := cI aD.out 2
      have nC : wc.cell? ⟨aG, 3, none⟩ = some ((rd_T79 aC aA).f2.f1) := cI aD.out 3
      have nD : wc.cell? ⟨aG, 4, none⟩ = some ((rd_T79 aC aA).f2.f2) := cI aD.out 4
      have nE : wc.cell? ⟨aG, 5, none⟩ = some ((rd_T79 aC aA).f2.f3) := cI aD.out 5
      have nF : wc.cell? ⟨aG, 6, none⟩ = some ((rd_T79 aC aA).f3) := cI aD.out 6
      have nI : wc.cell? ⟨aG, 7, none⟩ = some ((rd_T79 aC aA).f4) := cI aD.out 7
      have nJ : wc.cell? ⟨aG, 8, none⟩ = some ((rd_T79 aC aA).f5) := cI aD.out 8
      have nK : wc.cell? ⟨aG, 9, none⟩ = some ((rd_T79 aC aA).f6) := cI aD.out 9
      have kS : wc.cell? ⟨aG, 10, none⟩ = some ((rd_T79 aC aA).f7) := cI aD.out 10
      have nN := bF aD.out 0
      have nO := bF aD.out 1
      have nP := bF aD.out 2
      have nQ := bF aD.out 3
      have nR := bF aD.out 4
      have nS := bF aD.out 5
      have nT := bF aD.out 6
      have nV := bF aD.out 7
      have nX := bF aD.out 8
      have nZ := bF aD.out 9
      have kT := bF aD.out 10
      go_wp2
      go_roundg cW
      case measure => have := cR.out; have := HJ47.out; omega
      case rel => (try rw [← bL.out]); (try rw [← cK.out]); exact ⟨(wrap64 (aA + 1)), (aK), (aT), xE, H', ⟨by have := cR.out; have := HJ47.out; omega⟩, ⟨kr (Kd.R_mono aE.out (fun _ hk => trivial))⟩, ⟨bk aH.out⟩, ⟨bk aI.out⟩, ⟨bk aJ.out⟩, ⟨bl HB.out⟩⟩
     rw [if_pos eX] at H
     have gO : ((rd_T79 aC aA).f0) = true := eX
     clear eX
     obtain ⟨⟨eK, eL, eM, eN, eO, eP, eQ, eR, eS, eT, eU⟩, iQ, H⟩ := hB H
     try dsimp only at H
     have rL := aM iQ
     clear iQ
     obtain ⟨uS, H⟩ := gI H
     obtain ⟨uT, H⟩ := gI H
     obtain ⟨iR, dD⟩ : ∃ y_ : List (S79), y_ = (aK.set (aA : Int).toNat (⟨eK, eL, (⟨eM, eN, eO, eP⟩ : S73), eQ, eR, eS, eT, eU⟩ : S79)) := ⟨_, rfl⟩
     replace H : (spec_Decide.l0 cW cC (wrap64 (aA + 1)) aN aC aV iR) = some (r1, r2) := by first | (rw [dD]; with_reducible exact H) | (have H2_ := (Option.bind_some _ _).symm.trans H; rw [dD]; with_reducible exact H2_) | (have H2_ := (Option.bind_some _ _).symm.trans H; with_reducible exact H2_) | with_reducible exact H | (rw [dD]; exact H) | exact H
     have jV := aM dD
     clear dD
     have H' := aM H
     clear H
     have uU := aZ.out
     have uV := aX.out
     have uW := bD.out
     have uX := bA.out
     have uY := bH.out
     have uZ := bG.out
     have oA : wc.cell? ⟨aG, 0, none⟩ = some ((rd_T79 aC aA).f0) := cI aD.out 0
     have oB : wc.cell? ⟨aG, 1, none⟩ = some ((rd_T79 aC aA).f1) := cI aD.out 1
     have oC : wc.cell? ⟨aG, 2, none⟩ = some ((rd_T79 aC aA).f2.f0) := cI aD.out 2
     have oD : wc.cell? ⟨aG, 3, none⟩ = some ((rd_T79 aC aA).f2.f1) := cI aD.out 3
     have oE : wc.cell? ⟨aG, 4, none⟩ = some ((rd_T79 aC aA).f2.f2) := cI aD.out 4
     have oF : wc.cell? ⟨aG, 5, none⟩ = some ((rd_T79 aC aA).f2.f3) := cI aD.out 5
     have oG : wc.cell? ⟨aG, 6, none⟩ = some ((rd_T79 aC aA).f3) := cI aD.out 6
     have oH : wc.cell? ⟨aG, 7, none⟩ = some ((rd_T79 aC aA).f4) := cI aD.out 7
     have oI : wc.cell? ⟨aG, 8, none⟩ = some ((rd_T79 aC aA).f5) := cI aD.out 8
     have oJ : wc.cell? ⟨aG, 9, none⟩ = some ((rd_T79 aC aA).f6) := cI aD.out 9
     have kU : wc.cell? ⟨aG, 10, none⟩ = some ((rd_T79 aC aA).f7) := cI aD.out 10
     have oK := bF aD.out 0
     have oL := bF aD.out 1
     have oM := bF aD.out 2
     have oO := bF aD.out 3
     have oP := bF aD.out 4
     have oQ := bF aD.out 5
     have oR := bF aD.out 6
     have oS := bF aD.out 7
     have oT := bF aD.out 8
     have oU := bF aD.out 9
     have kV := bF aD.out 10
     try go_wp2
     replace aE := aM (Kd.R_drew aE.out)
     replace aH := aM (blk_drew aH.out)
     replace aI := aM (blk_drew aI.out)
     replace aJ := aM (blk_drew aJ.out)
     replace aD := aM (blk_drew aD.out)
     replace HB := aM (below_drew1 HB.out)
     refine start_ (n := 8) (S := fun w' => cT2 w' bK (.int .i64 aV) (aT) (cS11 w' aG (.bool ((rd_T79 aC aA).f0)) (.bool ((rd_T79 aC aA).f1)) (.int .i64 ((rd_T79 aC aA).f2.f0)) (.int .i64 ((rd_T79 aC aA).f2.f1)) (.int .i64 ((rd_T79 aC aA).f2.f2)) (.int .i64 ((rd_T79 aC aA).f2.f3)) (.int .i64 ((rd_T79 aC aA).f3)) (.int .i64 ((rd_T79 aC aA).f4)) (.int .i64 ((rd_T79 aC aA).f5)) (.int .i64 ((rd_T79 aC aA).f6)) (.bool ((rd_T79 aC aA).f7)))) (ds := [7]) (dn 8 0) (by kernel_rfl) rfl rfl ⟨cI aJ.out 0, cI aJ.out 1, cI aD.out 0, cI aD.out 1, cI aD.out 2, cI aD.out 3, cI aD.out 4, cI aD.out 5, cI aD.out 6, cI aD.out 7, cI aD.out 8, cI aD.out 9, cI aD.out 10⟩ (fun hHeld => ?_); refine with_tabW spec_Decide.tab15 spec_Decide.bits15 (fun HT_ HW_ => ?_)
     generalize wc.drew = xT at aE aH aI aJ aD HB hHeld ⊢
     refine nY (N := some 47) HT_ ?_
     refine pY (i := 2) (N := some 49) #[Y,U,Y,U,U,U,U,U] HT_ ?_
     refine pY (i := 4) (N := some 51) #[Y,U,Y,U,Y,U,U,U] HT_ ?_
     refine aY (i := 1) (N := some 48) #[Y,Y,Y,U,Y,U,U,U] HT_ HW_ hHeld ?_
     refine aY (i := 3) (N := some 50) #[Y,Y,Y,Y,Y,U,U,U] HT_ HW_ hHeld ?_
     refine one_ (i := 5) (N := some 52) #[Y,Y,Y,Y,Y,Y,U,U] rfl rfl (one_of HT_.out (by kernel_rfl)) (by decide) (fun K hK => ?_)
     refine goes_ Try.func69 (by kernel_rfl) rfl #[.agg #[((rd_T79 aC aA).f0), ((rd_T79 aC aA).f1), ((rd_T79 aC aA).f2.f0), ((rd_T79 aC aA).f2.f1), ((rd_T79 aC aA).f2.f2), ((rd_T79 aC aA).f2.f3), ((rd_T79 aC aA).f3), ((rd_T79 aC aA).f4), ((rd_T79 aC aA).f5), ((rd_T79 aC aA).f6), ((rd_T79 aC aA).f7)], .int .i64 2] (by rfl) rfl rfl (by (try simp only [List.map_toArray, List.map_cons, List.map_nil]); first | done | rfl | (simp only [gO]; rfl) | (simp only [List.length_drop, List.length_take]; rfl)) ?_
     with_reducible refine (spec_Turn.calls cW ((rd_T79 aC aA).f0) ((rd_T79 aC aA).f1) ((rd_T79 aC aA).f2.f0) ((rd_T79 aC aA).f2.f1) ((rd_T79 aC aA).f2.f2) ((rd_T79 aC aA).f2.f3) ((rd_T79 aC aA).f3) ((rd_T79 aC aA).f4) ((rd_T79 aC aA).f5) ((rd_T79 aC aA).f6) ((rd_T79 aC aA).f7) 2 eK eL eM eN eO eP eQ eR eS eT eU _ rL.out).mono ?_
     rintro e xU ⟨rfl, hb⟩
     refine ⟨_, rfl, ?_⟩
     replace aE := aM (kB (kr aE.out) hb)
     replace aH := rB aH hb
     replace aI := rB aI hb
     replace aJ := rB aJ hb
     replace aD := rB aD hb
     replace HB := rS HB hb
     (try clear hb)
     (try clear hb2)
     (try clear hk)
     (try clear hi)
     have iS : 0 ≤ (aA : Int) := dT
     have iT : (aA : Int) < ((aK.length : Int) : Int) := dT
     obtain ⟨kW, kX, iU, iV, kY, vV, iW⟩ := Kd.R_form aE.out (by omega)
     (first | cases iU | (injection iU with ea_ en_ ec_; (first | subst ea_ | (injection ea_ with ea_; subst ea_)); subst ec_; clear en_))
     have cO := aM iV
     have vW := aM iW
     clear iV kY iW
     obtain ⟨vX, jW, iX, gP, gQ⟩ := Kd.R_elem aE.out z79 (aA : Int) iS iT
     obtain rfl := k79_openM iX
     obtain ⟨rM, rN, rO, rQ, rR, rT, rV, rW, rX, rY, oV, rZ, sB, sC, sD, sE, sF, sG, sH, sI, sJ, oW⟩ := eS79 (rd_T79 aK aA) gP gQ
     clear jW gP gQ iX
     replace iS := eq_true iS
     replace iT := eq_true iT
     obtain ⟨vY, gR, iY, gS, jX⟩ := Kd.R_elem aE.out z79 (aA : Int) (dT) (by have h_ : (aA : Int) < ((aK.length : Int) : Int) := dT; first | exact h_ | (have e_ := (Kd.R_reads' aE.out).1; omega) | simpa using h_)
     obtain rfl := k79_openM iY
     have fQ := (Kd.R_seg aE.out (aA : Int) (dT) (by have h_ : (aA : Int) < ((aK.length : Int) : Int) := dT; first | exact h_ | (have e_ := (Kd.R_reads' aE.out).1; omega) | simpa using h_) (seg := [.bool eK, .bool eL, .int .i64 eM, .int .i64 eN, .int .i64 eO, .int .i64 eP, .int .i64 eQ, .int .i64 eR, .int .i64 eS, .int .i64 eT, .bool eU]) (j := 0) gR gS (show 11 ≤ 11 from by decide) (x' := (⟨eK, eL, (⟨eM, eN, eO, eP⟩ : S73), eQ, eR, eS, eT, eU⟩ : S79)) (k79_mkM _ _ _ (⟨eK, eL, (⟨eM, eN, eO, eP⟩ : S73), eQ, eR, eS, eT, eU⟩ : S79) ) (fun _ hk => hk)).1
     rw [← jV.out] at fQ
     have HQ95 := aM fQ
     clear gR gS jX iY fQ
     refine hK.out _ _ ⟨cI aJ.out 0, cI aJ.out 1, cI aD.out 0, cI aD.out 1, cI aD.out 2, cI aD.out 3, cI aD.out 4, cI aD.out 5, cI aD.out 6, cI aD.out 7, cI aD.out 8, cI aD.out 9, cI aD.out 10⟩ (fun hHeld => ?_)
     clear hK K
     refine norm_ (a' := ?_) ?_ ?_
     rotate_left
     ·show Act.put _ (some 52) _ = _
      simp only [Act.put, sA, sZ, sS, i64_w, i32_w]
      rfl
     refine pY (i := 6) (N := some 53) #[Y,Y,Y,Y,Y,Y,Y,U] HT_ ?_
     refine last_ (i := 7) (N := none) #[Y,Y,Y,Y,Y,Y,Y,Y] rfl rfl (one_of HT_.out (by kernel_rfl)) (by decide) (fun K hK => ?_)
     refine skip_ (w1 := ?_) (by rfl) rfl ?_ ?_
     rotate_left
     ·go_simp
      rfl
     refine hK.out _ _ ?_
     clear hK K
     refine done_ (done_of HT_.out (by kernel_rfl)) ?_
     try go_wp2
     go_roundg cW
     case measure => have := cR.out; have := HJ47.out; omega
     case rel => (try rw [← bL.out]); (try rw [← cK.out]); exact ⟨(wrap64 (aA + 1)), (iR), (.slice (some ⟨kW, 0, none⟩) aK.length kX), xE, H', ⟨by have := cR.out; have := HJ47.out; omega⟩, ⟨kr (Kd.R_mono HQ95.out (fun _ hk => trivial))⟩, ⟨fR aE.out aH.out⟩, ⟨fR aE.out aI.out⟩, ⟨fR aE.out aJ.out⟩, ⟨by repeat (first | (with_reducible first | exact HB.out | apply below_alloc | apply pw_below_drewN | apply below_drew1 | refine below_set ?_ cO.out | refine below_set ?_ cO.out | refine below_set ?_ cO.out | refine below_set ?_ cO.out | refine below_set ?_ cO.out | refine below_set ?_ cO.out | refine below_set ?_ cO.out | refine below_set ?_ cO.out | refine below_set ?_ cO.out | refine below_set ?_ cO.out | refine below_set ?_ cO.out | refine below_set ?_ dG.out | refine below_set ?_ dH.out | refine below_set ?_ dI.out | refine below_set ?_ cY.out) | exact HB.out)⟩⟩

end Go.Proofs.Ythmijfekdeagpaa.PFnRootPorts

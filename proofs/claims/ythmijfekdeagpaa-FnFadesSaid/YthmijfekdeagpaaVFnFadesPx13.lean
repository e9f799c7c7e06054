/- A part of the proof of laws.FnFades. No condition beyond what its theorems say. -/
import Derived.Test.YthmijfekdeagpaaVFnFadesPx12
namespace Go.Proofs.Ythmijfekdeagpaa.PFnFades
open Go.RowKit Go.Proofs.YthmijfekdeagpaaW.PrintWords Go.Proofs.YthmijfekdeagpaaW.PrintLast Go.Proofs.YthmijfekdeagpaaW.PrintMore
set_option linter.unusedVariables false
set_option linter.unusedSimpArgs false

mutual
def spec_Decide.l0 : Nat → Int → Int → Int → List (S79) → Int → List (S79) → Option (Int × (List (S79)))
 | 0, _, _, _, _, _, _ => none
 | k + 1, x4, x6, aE, aA, aG, aD => if x6 < (aA.length : Int) then (if 0 ≤ x6 then (if x6 = x4 then (if (rd_T79 aA x6).f0 = true then ((spec_Turn.f k ((rd_T79 aA x6).f0) ((rd_T79 aA x6).f1) ((rd_T79 aA x6).f2.f0) ((rd_T79 aA x6).f2.f1) ((rd_T79 aA x6).f2.f2) ((rd_T79 aA x6).f2.f3) ((rd_T79 aA x6).f3) ((rd_T79 aA x6).f4) ((rd_T79 aA x6).f5) ((rd_T79 aA x6).f6) ((rd_T79 aA x6).f7) 1).bind fun aC => (if x6 < (aD.length : Int) then (spec_Decide.l0 k x4 (wrap64 (x6 + 1)) aE aA aG (aD.set (x6 : Int).toNat (⟨aC.1, aC.2.1, (⟨aC.2.2.1, aC.2.2.2.1, aC.2.2.2.2.1, aC.2.2.2.2.2.1⟩ : S73), aC.2.2.2.2.2.2.1, aC.2.2.2.2.2.2.2.1, aC.2.2.2.2.2.2.2.2.1, aC.2.2.2.2.2.2.2.2.2.1, aC.2.2.2.2.2.2.2.2.2.2⟩ : S79))) else (none))) else (spec_Decide.l0 k x4 (wrap64 (x6 + 1)) aE aA aG aD)) else (if (rd_T79 aA x6).f1 = true then ((spec_Own.f k aE aA x6).bind fun aH => ((spec_Better.f ((rd_T79 aA x6).f2.f0) ((rd_T79 aA x6).f2.f1) ((rd_T79 aA x6).f2.f2) ((rd_T79 aA x6).f2.f3) aH.1 aH.2.1 aH.2.2.1 aH.2.2.2).bind fun aI => (spec_Decide.j1 k x4 x6 2 aI aE aA aG aD ((rd_T79 aA x6).f0) ((rd_T79 aA x6).f1) ((rd_T79 aA x6).f2.f0) ((rd_T79 aA x6).f2.f1) ((rd_T79 aA x6).f2.f2) ((rd_T79 aA x6).f2.f3) ((rd_T79 aA x6).f3) ((rd_T79 aA x6).f4) ((rd_T79 aA x6).f5) ((rd_T79 aA x6).f6) ((rd_T79 aA x6).f7)))) else (spec_Decide.j1 k x4 x6 2 false aE aA aG aD ((rd_T79 aA x6).f0) ((rd_T79 aA x6).f1) ((rd_T79 aA x6).f2.f0) ((rd_T79 aA x6).f2.f1) ((rd_T79 aA x6).f2.f2) ((rd_T79 aA x6).f2.f3) ((rd_T79 aA x6).f3) ((rd_T79 aA x6).f4) ((rd_T79 aA x6).f5) ((rd_T79 aA x6).f6) ((rd_T79 aA x6).f7)))) else (none)) else (some (aG, aD))
def spec_Decide.j1 : Nat → Int → Int → Int → Bool → Int → List (S79) → Int → List (S79) → Bool → Bool → Int → Int → Int → Int → Int → Int → Int → Int → Bool → Option (Int × (List (S79)))
 | 0, _, _, _, _, _, _, _, _, _, _, _, _, _, _, _, _, _, _, _ => none
 | k + 1, x4, x6, x8, bG, aE, aG, aH, aD, aI, aJ, aK, aN, aQ, aT, aV, aW, aX, bA, bD => if bG = true then (if aI = true then ((spec_Turn.f k aI aJ aK aN aQ aT aV aW aX bA bD 3).bind fun aA => (if 0 ≤ x6 then (if x6 < (aD.length : Int) then (spec_Decide.l0 k x4 (wrap64 (x6 + 1)) aE aG aH (aD.set (x6 : Int).toNat (⟨aA.1, aA.2.1, (⟨aA.2.2.1, aA.2.2.2.1, aA.2.2.2.2.1, aA.2.2.2.2.2.1⟩ : S73), aA.2.2.2.2.2.2.1, aA.2.2.2.2.2.2.2.1, aA.2.2.2.2.2.2.2.2.1, aA.2.2.2.2.2.2.2.2.2.1, aA.2.2.2.2.2.2.2.2.2.2⟩ : S79))) else (none)) else (none))) else (spec_Decide.l0 k x4 (wrap64 (x6 + 1)) aE aG aH aD)) else (if aI = true then ((spec_Turn.f k aI aJ aK aN aQ aT aV aW aX bA bD x8).bind fun aC => (if 0 ≤ x6 then (if x6 < (aD.length : Int) then (spec_Decide.l0 k x4 (wrap64 (x6 + 1)) aE aG aH (aD.set (x6 : Int).toNat (⟨aC.1, aC.2.1, (⟨aC.2.2.1, aC.2.2.2.1, aC.2.2.2.2.1, aC.2.2.2.2.2.1⟩ : S73), aC.2.2.2.2.2.2.1, aC.2.2.2.2.2.2.2.1, aC.2.2.2.2.2.2.2.2.1, aC.2.2.2.2.2.2.2.2.2.1, aC.2.2.2.2.2.2.2.2.2.2⟩ : S79))) else (none)) else (none))) else (spec_Decide.l0 k x4 (wrap64 (x6 + 1)) aE aG aH aD))
end
def spec_Decide.f (k : Nat) (aC : Int) (aD : List (S79)) : Option (Int × (List (S79))) := (spec_l8Copy.f aC aD).bind fun aA => ((spec_BridgeOk.f k aC aD).bind fun aG => (if aG = true then ((spec_RootPort.f k aC aD).bind fun aE => (spec_Decide.l0 k aE.1 0 aC aD aA.1 aA.2)) else (some (aA.1, aA.2))))
theorem spec_Decide.mono_l : ∀ k, (∀ y0 y1 y2 y3 y4 y5, LeO (spec_Decide.l0 k y0 y1 y2 y3 y4 y5) (spec_Decide.l0 (k + 1) y0 y1 y2 y3 y4 y5)) ∧ (∀ y0 y1 y2 y3 y4 y5 y6 y7 y8 y9 aA aC aD aE aG aH aI aJ aK, LeO (spec_Decide.j1 k y0 y1 y2 y3 y4 y5 y6 y7 y8 y9 aA aC aD aE aG aH aI aJ aK) (spec_Decide.j1 (k + 1) y0 y1 y2 y3 y4 y5 y6 y7 y8 y9 aA aC aD aE aG aH aI aJ aK))
 | 0 => by refine ⟨?_, ?_⟩ <;> intros <;> intro r h <;> simp [spec_Decide.l0, spec_Decide.j1] at h
 | k + 1 => by
  obtain ⟨ih0, ih1⟩ := spec_Decide.mono_l k
  refine ⟨?_, ?_⟩
  ·intro y0 y1 y2 y3 y4 y5
   unfold spec_Decide.l0
   repeat' first|(with_reducible first|apply ih0|apply ih1|apply spec_BridgeOk.mono|apply spec_Own.mono|apply spec_RootPort.mono|apply spec_Turn.mono|exact lR _|exact lN _|refine lI ?_ ?_|refine lB ?_ fun _ => ?_)|exact lN _|refine lI ?_ ?_|refine lB ?_ fun _ => ?_
  ·intro y0 y1 y2 y3 y4 y5 y6 y7 y8 y9 aA aC aD aE aG aH aI aJ aK
   unfold spec_Decide.j1
   repeat' first|(with_reducible first|apply ih0|apply ih1|apply spec_BridgeOk.mono|apply spec_Own.mono|apply spec_RootPort.mono|apply spec_Turn.mono|exact lR _|exact lN _|refine lI ?_ ?_|refine lB ?_ fun _ => ?_)|exact lN _|refine lI ?_ ?_|refine lB ?_ fun _ => ?_
theorem spec_Decide.mono : ∀ a0 a1 k, LeO (spec_Decide.f k a0 a1) (spec_Decide.f (k + 1) a0 a1) := by
 intro a0 a1 k
 obtain ⟨ih0, ih1⟩ := spec_Decide.mono_l k
 unfold spec_Decide.f
 repeat' first|(with_reducible first|apply ih0|apply ih1|apply spec_BridgeOk.mono|apply spec_Own.mono|apply spec_RootPort.mono|apply spec_Turn.mono|exact lR _|exact lN _|refine lI ?_ ?_|refine lB ?_ fun _ => ?_)|exact lN _|refine lI ?_ ?_|refine lB ?_ fun _ => ?_
def spec_Decide.T12 : Bool × List (List Nat × List Nat) := (true, [([], []), ([0], [0]), ([1], [1]), ([2], [2]), ([3, 2], [2, 3]), ([2], [2]), ([2], [2]), ([5, 6, 2, 2], [2, 5, 6]), ([4, 7, 7, 2], [2, 4, 7]), ([2, 8], [2, 8])])
def spec_Decide.B12 : List Nat := [0, 1, 3, 7, 15, 7, 7, 103, 255, 511]
theorem spec_Decide.tab12 : rtab .any (opsOf Try.f13 12) = spec_Decide.T12 := by kernel_rfl
theorem spec_Decide.bits12 : waitsOk spec_Decide.T12.2 spec_Decide.B12 = true := by kernel_rfl
def spec_Decide.T15 : Bool × List (List Nat × List Nat) := (true, [([], []), ([0], [0]), ([], []), ([], []), ([], []), ([3, 4], [3, 4]), ([1, 2, 0, 1, 2, 3, 4, 5], [1, 2]), ([6, 5, 5, 0, 1, 2, 3, 4, 5], [5, 6])])
def spec_Decide.B15 : List Nat := [0, 1, 0, 0, 0, 24, 63, 127]
theorem spec_Decide.tab15 : rtab .any (opsOf Try.f13 15) = spec_Decide.T15 := by kernel_rfl
theorem spec_Decide.bits15 : waitsOk spec_Decide.T15.2 spec_Decide.B15 = true := by kernel_rfl
set_option maxHeartbeats 60000000 in
set_option maxRecDepth 100000 in
theorem spec_Decide.calls (k : Nat) (aN : Int) (cS : Option Addr) (bT : Nat) (aC : List (S79)) (r1 : Int) (r2 : List (S79)) (w : World) (hr0_1 : Kd.C k79 w cS aC.length aC) (hc0_1 : aC.length ≤ bT) (h : spec_Decide.f k aN aC = some (r1, r2)) :
  Calls Try.prog 13 #[.agg #[aN, .slice cS aC.length bT]] w fun e w' => ∃ jB : Value, e = .returned (.agg #[r1, jB]) ∧ Kd.R k79 79 w' w.heap.size (fun _ => True) jB r2 ∧ Below w.heap.size w w' := by
 have uU := Try.underlying28
 have uV := Try.underlying79
 have uW := Try.underlying73
 have cL := aM hr0_1
 have cW := aM hc0_1
 clear hr0_1 hc0_1
 have HB := aM (Below.refl w.heap.size w)
 have H : ((spec_l8Copy.f aN aC).bind fun dD => ((spec_BridgeOk.f k aN aC).bind fun eZ => (if eZ = true then ((spec_RootPort.f k aN aC).bind fun iI => (spec_Decide.l0 k iI.1 0 aN aC dD.1 dD.2)) else (some (dD.1, dD.2))))) = some (r1, r2) := h
 clear h
 obtain ⟨⟨aT, cT⟩, jC, H⟩ := hB H
 try dsimp only at H
 have A2 := aM jC
 clear jC
 obtain ⟨eZ, jD, H⟩ := hB H
 have A3 := aM jD
 clear jD
 by_cases c4 : eZ = true
 case neg =>
  replace c4 := Bool.eq_false_iff.mpr c4
  subst c4
  replace H := hF H
  simp only [Option.some.injEq, Prod.mk.injEq] at H
  obtain ⟨rfl, rfl⟩ := H
  go_enter Try.func13, Try.ntmps13
  go_wp2_with (first | ((with_reducible refine gD (N := 1) rfl ?_); refine bE (N := 1) (cs := #[aN, .slice cS aC.length bT]) (t := 28) ?_; intro cU hg uX hbox hb; have aH := aM (hbox); have iJ := gF hg HB; have iK := gF hg HB; replace HB := rS HB hb; clear hb hbox hg) | ((with_reducible refine gD (N := 2) rfl ?_); refine bE (N := 2) (cs := #[.int .i64 0, .slice none 0 0]) (t := 28) ?_; intro bU hg uY hbox hb; have aI := aM (hbox); have iL := gF hg HB; have iM := gF hg HB; have bN := nM hg aH; have bO := nH hg aH; replace aH := rB aH hb; replace HB := rS HB hb; clear hb hbox hg; have nR := bN.out; have nS := bO.out; have nT := cA2 aH.out) | ((with_reducible refine gC (f := 67) rfl ?_); refine gL (some 10) Try.func67 #[.agg #[aN, .slice cS aC.length bT]] ?_; (with_reducible refine (spec_l8Copy.calls aN _ _ aC aT cT _ ?side1 ?side2 A2.out).mono ?_); (case side1 => exact cM (cB cL.out HB.out)); (case side2 => exact cW.out); rintro e uZ ⟨jF, rfl, ho0, hb⟩; refine ⟨_, rfl, ?_⟩; have aV := aM (Kd.R_lower ho0 (below_size (bl HB.out))); replace aH := rB aH hb; replace aI := rB aI hb; replace HB := rS HB hb; (repeat first|clear hb|clear ho0)) | ((with_reducible refine gD (N := 3) rfl ?_); refine bR aV (N := 3) (cs := #[.int .i64 0, .slice none 0 0]) (t := 28) ?_; intro bJ hg vA hbox hb; have aJ := aM (hbox); have iN := gF hg HB; have iO := gF hg HB; have bP := nM hg aH; have bQ := nH hg aH; have cO := nM hg aI; have cP := nH hg aI; replace aV := rK aV hb; replace aH := rB aH hb; replace aI := rB aI hb; replace HB := rS HB hb; clear hb hbox hg; have nV := bQ.out; have nZ := bP.out; have oA := cP.out; have oB := cO.out; have oC := cA2 aJ.out; obtain ⟨dE, dF, iP⟩ := Kd.R_slice aV.out; subst iP; have oD := cA2 aH.out) | ((with_reducible refine gC (f := 46) rfl ?_); refine gL (some 12) Try.func46 #[.agg #[aN, .slice cS aC.length bT]] ?_; (with_reducible refine (spec_BridgeOk.calls k aN _ _ aC false _ ?side1 ?side2 A3.out).mono ?_); (case side1 => exact cB cL.out (bl HB.out)); (case side2 => exact cW.out); rintro e vB ⟨rfl, hb⟩; refine ⟨_, rfl, ?_⟩; replace aV := aM (kB (kr (Kd.R_mono (kF (p := ⟨bJ, 1, none⟩) (kF (p := ⟨bJ, 0, none⟩) (Kd.R_types aV.out aJ.out (by decide)) (fun _ hk => hk.2) (.int .i64 aT)) (fun _ hk => hk.2) (.slice dE cT.length dF)) (fun _ h_ => h_.1))) hb); replace aH := aM (bB (fm aH.out) hb); replace aI := aM (bB (fm aI.out) hb); replace aJ := aM (bB (g := bJ) (o := .cells #[aT, .slice dE cT.length dF] 28 (0, 0)) (bm aJ.out) hb); replace HB := rS HB hb; (try clear hb); have oE := cA2 aJ.out; have oF := cA2 aI.out))
  refine bodyPost_ret (results_cell_row rfl _ _ bU 28 #[aT, .slice dE cT.length dF] (0, 0) _ rfl (bm aI.out) Try.underlying28 rfl (by kernel_rfl)) rfl ?_
  exact ⟨_, xW, by (with_reducible repeat (first | apply Kd.R_alloc | apply Kd.R_drewN | apply Kd.R_drew)); exact Kd.R_mono (kF (p := ⟨bU, 1, none⟩) (kF (p := ⟨bU, 0, none⟩) (Kd.R_types aV.out aI.out (by decide)) (fun _ hk => hk.2) (.int .i64 aT)) (fun _ hk => hk.2) (.slice dE cT.length dF)) (fun _ hk => trivial), bl HB.out⟩
 subst c4
 replace H := hP H rfl
 obtain ⟨⟨bV, jG⟩, jE, H⟩ := hB H
 try dsimp only at H
 have A5 := aM jE
 clear jE
 have H' := aM H
 clear H
 go_enter Try.func13, Try.ntmps13
 go_wp2_with (first | ((with_reducible refine gD (N := 1) rfl ?_); refine bE (N := 1) (cs := #[aN, .slice cS aC.length bT]) (t := 28) ?_; intro cU hg w6 hbox hb; have aH := aM (hbox); have iJ := gF hg HB; have iK := gF hg HB; replace HB := rS HB hb; clear hb hbox hg) | ((with_reducible refine gD (N := 2) rfl ?_); refine bE (N := 2) (cs := #[.int .i64 0, .slice none 0 0]) (t := 28) ?_; intro bU hg w7 hbox hb; have aI := aM (hbox); have iL := gF hg HB; have iM := gF hg HB; have bN := nM hg aH; have bO := nH hg aH; replace aH := rB aH hb; replace HB := rS HB hb; clear hb hbox hg; have vC := bN.out; have vD := bO.out; have vE := cA2 aH.out) | ((with_reducible refine gC (f := 67) rfl ?_); refine gL (some 10) Try.func67 #[.agg #[aN, .slice cS aC.length bT]] ?_; (with_reducible refine (spec_l8Copy.calls aN _ _ aC aT cT _ ?side1 ?side2 A2.out).mono ?_); (case side1 => exact cM (cB cL.out HB.out)); (case side2 => exact cW.out); rintro e vU ⟨jF, rfl, ho0, hb⟩; refine ⟨_, rfl, ?_⟩; have aV := aM (Kd.R_lower ho0 (below_size (bl HB.out))); replace aH := rB aH hb; replace aI := rB aI hb; replace HB := rS HB hb; (repeat first|clear hb|clear ho0)) | ((with_reducible refine gD (N := 3) rfl ?_); refine bR aV (N := 3) (cs := #[.int .i64 0, .slice none 0 0]) (t := 28) ?_; intro bJ hg vV hbox hb; have aJ := aM (hbox); have iN := gF hg HB; have iO := gF hg HB; have bP := nM hg aH; have bQ := nH hg aH; have cO := nM hg aI; have cP := nH hg aI; replace aV := rK aV hb; replace aH := rB aH hb; replace aI := rB aI hb; replace HB := rS HB hb; clear hb hbox hg; have rT := bQ.out; have rV := bP.out; have rW := cP.out; have rX := cO.out; have rY := cA2 aJ.out; obtain ⟨fA, fB, jH⟩ := Kd.R_slice aV.out; subst jH; have rZ := cA2 aH.out) | ((with_reducible refine gC (f := 46) rfl ?_); refine gL (some 12) Try.func46 #[.agg #[aN, .slice cS aC.length bT]] ?_; (with_reducible refine (spec_BridgeOk.calls k aN _ _ aC true _ ?side1 ?side2 A3.out).mono ?_); (case side1 => exact cB cL.out (bl HB.out)); (case side2 => exact cW.out); rintro e vW ⟨rfl, hb⟩; refine ⟨_, rfl, ?_⟩; replace aV := aM (kB (kr (Kd.R_mono (kF (p := ⟨bJ, 1, none⟩) (kF (p := ⟨bJ, 0, none⟩) (Kd.R_types aV.out aJ.out (by decide)) (fun _ hk => hk.2) (.int .i64 aT)) (fun _ hk => hk.2) (.slice fA cT.length fB)) (fun _ h_ => h_.1))) hb); replace aH := aM (bB (fm aH.out) hb); replace aI := aM (bB (fm aI.out) hb); replace aJ := aM (bB (g := bJ) (o := .cells #[aT, .slice fA cT.length fB] 28 (0, 0)) (bm aJ.out) hb); replace HB := rS HB hb; (try clear hb); have sB := cA2 aH.out) | ((with_reducible refine gC (f := 36) rfl ?_); refine gL (some 17) Try.func36 #[.agg #[aN, .slice cS aC.length bT]] ?_; (with_reducible refine (spec_RootPort.calls k aN _ _ aC bV jG _ ?side1 ?side2 A5.out).mono ?_); (case side1 => exact cM (cB cL.out HB.out)); (case side2 => exact cW.out); rintro e vX ⟨rfl, hb⟩; refine ⟨_, rfl, ?_⟩; replace aV := rK aV hb; replace aH := rB aH hb; replace aI := rB aI hb; replace aJ := rB aJ hb; replace HB := rS HB hb; (try clear hb)))
 go_loopg [6] k (fun kq v6 w' => ∃ (aA : Int) (aK : List (S79)) (aQ : Value), v6 = .int .i64 aA ∧ Aside0 (spec_Decide.l0 kq bV aA aN aC aT aK = some (r1, r2)) ∧ Aside0 (kq ≤ k) ∧ Aside0 (Kd.R k79 79 w' w.heap.size (fun _ => True) aQ aK) ∧ Aside0 (w'.heap[cU]? = some (.cells #[aN, (.slice cS aC.length bT)] 28 (0, 0))) ∧ Aside0 (w'.heap[bU]? = some (.cells #[.int .i64 0, (.slice none 0 0)] 28 (0, 0))) ∧ Aside0 (w'.heap[bJ]? = some (.cells #[aT, aQ] 28 (0, 0))) ∧ Aside0 (Below w.heap.size w w'))
 case atStart => exact ⟨(0), (cT), (.slice fA cT.length fB), xE, H', ⟨Nat.le_refl _⟩, ⟨kr aV.out⟩, ⟨bk aH.out⟩, ⟨bk aI.out⟩, ⟨bk aJ.out⟩, ⟨bl HB.out⟩⟩
 case round =>
  clear H'
  repeat first|clear c1|clear p2|clear c3|clear c4|clear c6|clear c8|clear vY|clear vZ
  obtain ⟨aA, aK, aQ, rfl, HA, cQ, aE, aH, aI, aJ, HB⟩ := hrel
  cases gk with
  | zero => exact absurd HA.out (by simp [spec_Decide.l0])
  | succ k1 =>
   have H := HA.out
   clear HA
   simp only [spec_Decide.l0] at H
   by_cases dI : aA < (aC.length : Int)
   case neg =>
    rw [if_neg dI] at H
    have iQ := decide_eq_false dI
    clear dI
    simp only [Option.some.injEq, Prod.mk.injEq] at H
    obtain ⟨rfl, rfl⟩ := H
    have oG := bN.out
    have oH := bO.out
    have oI := bP.out
    have oJ := bQ.out
    have oK := cA2 aH.out
    have oL := cP.out
    have oM := cO.out
    have oO := cA2 aJ.out
    have oP := cA2 aI.out
    obtain ⟨fM, fN, iR⟩ := Kd.R_slice aE.out
    subst iR
    go_wp2
    refine bodyPost_ret (results_cell_row rfl _ _ bU 28 #[aT, .slice fM aK.length fN] (0, 0) _ rfl (bm aI.out) Try.underlying28 rfl (by kernel_rfl)) rfl ?_
    exact ⟨_, xW, by (with_reducible repeat (first | apply Kd.R_alloc | apply Kd.R_drewN | apply Kd.R_drew)); exact Kd.R_mono (kF (p := ⟨bU, 1, none⟩) (kF (p := ⟨bU, 0, none⟩) (Kd.R_types aE.out aI.out (by decide)) (fun _ hk => hk.2) (.int .i64 aT)) (fun _ hk => hk.2) (.slice fM aK.length fN)) (fun _ hk => trivial), bl HB.out⟩
   rw [if_pos dI] at H
   have iQ := decide_eq_true dI
   clear dI
   obtain ⟨sC, H⟩ := gI H
   by_cases dC : aA = bV
   case pos =>
    rw [if_pos dC] at H
    have fO : (aA == bV) = true := beq_iff_eq.mpr dC
    have fP : (aA != bV) = false := bne_eq_false_iff_eq.mpr dC
    clear dC
    obtain ⟨fC, hbq23⟩ : ∃ b_ : Bool, b_ = ((rd_T79 aC aA).f0) := ⟨_, rfl⟩
    replace H : (if fC = true then ((spec_Turn.f k1 (fC) ((rd_T79 aC aA).f1) ((rd_T79 aC aA).f2.f0) ((rd_T79 aC aA).f2.f1) ((rd_T79 aC aA).f2.f2) ((rd_T79 aC aA).f2.f3) ((rd_T79 aC aA).f3) ((rd_T79 aC aA).f4) ((rd_T79 aC aA).f5) ((rd_T79 aC aA).f6) ((rd_T79 aC aA).f7) 1).bind fun cG => (if aA < (aK.length : Int) then (spec_Decide.l0 k1 bV (wS aA) aN aC aT (aK.set (aA : Int).toNat (⟨cG.1, cG.2.1, (⟨cG.2.2.1, cG.2.2.2.1, cG.2.2.2.2.1, cG.2.2.2.2.2.1⟩ : S73), cG.2.2.2.2.2.2.1, cG.2.2.2.2.2.2.2.1, cG.2.2.2.2.2.2.2.2.1, cG.2.2.2.2.2.2.2.2.2.1, cG.2.2.2.2.2.2.2.2.2.2⟩ : S79))) else (none))) else (spec_Decide.l0 k1 bV (wS aA) aN aC aT aK)) = some (r1, r2) := by rw [← hbq23] at H; exact H
    have bM := aM hbq23
    clear hbq23
    by_cases eV : fC = true
    case neg =>
     replace eV := Bool.eq_false_iff.mpr eV
     subst eV
     replace H := hF H
     have H' := aM H
     clear H
     have sD := bN.out
     have sE := bO.out
     have sF := bP.out
     have sG := bQ.out
     have sH := cA2 aH.out
     have cH : 0 ≤ (aA : Int) := dT
     have cK : aA < (aC.length : Int) := dT
     obtain ⟨cR, dH, bK, bL, bW, bX, bY, bZ, cA, cC, cD, cE, bI⟩ := at_T79 cL.out aA cH cK
     (try rw [← bM.out] at bK)
     (try rw [← bM.out] at bL)
     (try rw [← bM.out] at bI)
     cases dH
     replace bK := xB HB bK
     replace bL := xB HB bL
     replace bW := xB HB bW
     replace bX := xB HB bX
     replace bY := xB HB bY
     replace bZ := xB HB bZ
     replace cA := xB HB cA
     replace cC := xB HB cC
     replace cD := xB HB cD
     replace cE := xB HB cE
     replace bI := xB HB bI
     replace cH := eq_true cH
     replace cK := eq_true cK
     go_wp2_with (first | ((with_reducible refine gD (N := 7) rfl ?_); refine bR aE (N := 7) (cs := #[.bool false, .bool false, .int .i64 0, .int .i64 0, .int .i64 0, .int .i64 0, .int .i64 0, .int .i64 0, .int .i64 0, .int .i64 0, .bool false]) (t := 79) ?_; intro aG hg wA hbox hb; have aD := aM (hbox); have fQ := gF hg HB; have fS := gF hg HB; have aW := nM hg aH; have aX := nH hg aH; have bA := nM hg aI; have bD := nH hg aI; have bG := nM hg aJ; have bH := nH hg aJ; replace aE := aM (kB (Kd.R_elderB (kr aE.out) aG (Nat.le_of_eq hg.symm)) hb); replace aH := rB aH hb; replace aI := rB aI hb; replace aJ := rB aJ hb; replace HB := rS HB hb; clear hb hbox hg; have sI := aX.out; have sJ := aW.out; have sK := bD.out; have sL := bA.out; have sM := bH.out; have sN := bG.out; have sO := cA11 aD.out))
     go_roundg k1
     case measure => have := cQ.out; omega
     case rel => (try rw [← bM.out]); (try rw [← cN.out]); exact ⟨(wS aA), (aK), (aQ), xE, H', ⟨by have := cQ.out; omega⟩, ⟨kr (Kd.R_mono (kF (p := ⟨aG, 10, none⟩) (kF (p := ⟨aG, 9, none⟩) (kF (p := ⟨aG, 8, none⟩) (kF (p := ⟨aG, 7, none⟩) (kF (p := ⟨aG, 6, none⟩) (kF (p := ⟨aG, 5, none⟩) (kF (p := ⟨aG, 4, none⟩) (kF (p := ⟨aG, 3, none⟩) (kF (p := ⟨aG, 2, none⟩) (kF (p := ⟨aG, 1, none⟩) (kF (p := ⟨aG, 0, none⟩) (Kd.R_mono aE.out (fun k_ hk => (⟨hk, hk.2⟩ : _ ∧ k_ ≠ aG))) (fun _ hk => hk.2) (.bool false)) (fun _ hk => hk.2) (.bool ((rd_T79 aC aA).f1))) (fun _ hk => hk.2) (.int .i64 ((rd_T79 aC aA).f2.f0))) (fun _ hk => hk.2) (.int .i64 ((rd_T79 aC aA).f2.f1))) (fun _ hk => hk.2) (.int .i64 ((rd_T79 aC aA).f2.f2))) (fun _ hk => hk.2) (.int .i64 ((rd_T79 aC aA).f2.f3))) (fun _ hk => hk.2) (.int .i64 ((rd_T79 aC aA).f3))) (fun _ hk => hk.2) (.int .i64 ((rd_T79 aC aA).f4))) (fun _ hk => hk.2) (.int .i64 ((rd_T79 aC aA).f5))) (fun _ hk => hk.2) (.int .i64 ((rd_T79 aC aA).f6))) (fun _ hk => hk.2) (.bool ((rd_T79 aC aA).f7))) (fun _ hk => trivial))⟩, ⟨fm aH.out⟩, ⟨fm aI.out⟩, ⟨fm aJ.out⟩, ⟨bl HB.out⟩⟩
    subst eV
    replace H := hP H rfl
    obtain ⟨⟨dL, dM, dN, dO, dP, dQ, dR, dS, dU, dV, dW⟩, gP, H⟩ := hB H
    try dsimp only at H
    have oQ := aM gP
    clear gP
    obtain ⟨sP, H⟩ := gI H
    obtain ⟨gQ, cX⟩ : ∃ y_ : List (S79), y_ = (aK.set (aA : Int).toNat (⟨dL, dM, (⟨dN, dO, dP, dQ⟩ : S73), dR, dS, dU, dV, dW⟩ : S79)) := ⟨_, rfl⟩
    replace H : (spec_Decide.l0 k1 bV (wS aA) aN aC aT gQ) = some (r1, r2) := by first | (rw [cX]; with_reducible exact H) | (have H2_ := (Option.bind_some _ _).symm.trans H; rw [cX]; with_reducible exact H2_) | (have H2_ := (Option.bind_some _ _).symm.trans H; with_reducible exact H2_) | with_reducible exact H | (rw [cX]; exact H) | exact H
    have iS := aM cX
    clear cX
    have H' := aM H
    clear H
    have sQ := bN.out
    have sR := bO.out
    have sT := bP.out
    have sU := bQ.out
    have sV := cA2 aH.out
    have cH : 0 ≤ (aA : Int) := dT
    have cK : aA < (aC.length : Int) := dT
    obtain ⟨cR, dH, bK, bL, bW, bX, bY, bZ, cA, cC, cD, cE, bI⟩ := at_T79 cL.out aA cH cK
    (try rw [← bM.out] at bK)
    (try rw [← bM.out] at bL)
    (try rw [← bM.out] at bI)
    cases dH
    replace bK := xB HB bK
    replace bL := xB HB bL
    replace bW := xB HB bW
    replace bX := xB HB bX
    replace bY := xB HB bY
    replace bZ := xB HB bZ
    replace cA := xB HB cA
    replace cC := xB HB cC
    replace cD := xB HB cD
    replace cE := xB HB cE
    replace bI := xB HB bI
    replace cH := eq_true cH
    replace cK := eq_true cK
    try go_wp2_with (first | ((with_reducible refine gD (N := 7) rfl ?_); refine bR aE (N := 7) (cs := #[.bool false, .bool false, .int .i64 0, .int .i64 0, .int .i64 0, .int .i64 0, .int .i64 0, .int .i64 0, .int .i64 0, .int .i64 0, .bool false]) (t := 79) ?_; intro aG hg wB hbox hb; have aD := aM (hbox); have fQ := gF hg HB; have fS := gF hg HB; have aW := nM hg aH; have aX := nH hg aH; have bA := nM hg aI; have bD := nH hg aI; have bG := nM hg aJ; have bH := nH hg aJ; replace aE := aM (kB (Kd.R_elderB (kr aE.out) aG (Nat.le_of_eq hg.symm)) hb); replace aH := rB aH hb; replace aI := rB aI hb; replace aJ := rB aJ hb; replace HB := rS HB hb; clear hb hbox hg; have sW := aX.out; have sX := aW.out; have sY := bD.out; have tA := bA.out; have tB := bH.out; have tC := bG.out; have tD := cA11 aD.out))
    refine nW (fun W => Aside0 (Kd.R k79 79 W w.heap.size (fun k_ => k_ ≠ aG) aQ aK) ∧ Aside0 (W.heap[cU]? = some (.cells #[aN, .slice (some cR) aC.length bT] 28 (0, 0))) ∧ Aside0 (W.heap[bU]? = some (.cells #[.int .i64 0, .slice none 0 0] 28 (0, 0))) ∧ Aside0 (W.heap[bJ]? = some (.cells #[aT, aQ] 28 (0, 0))) ∧ Aside0 (W.heap[aG]? = some (.cells #[.bool true, ((rd_T79 aC aA).f1), ((rd_T79 aC aA).f2.f0), ((rd_T79 aC aA).f2.f1), ((rd_T79 aC aA).f2.f2), ((rd_T79 aC aA).f2.f3), ((rd_T79 aC aA).f3), ((rd_T79 aC aA).f4), ((rd_T79 aC aA).f5), ((rd_T79 aC aA).f6), ((rd_T79 aC aA).f7)] 79 (0, 0))) ∧ Aside0 (Below w.heap.size w W)) ⟨⟨kr (Kd.R_mono (kF (p := ⟨aG, 10, none⟩) (kF (p := ⟨aG, 9, none⟩) (kF (p := ⟨aG, 8, none⟩) (kF (p := ⟨aG, 7, none⟩) (kF (p := ⟨aG, 6, none⟩) (kF (p := ⟨aG, 5, none⟩) (kF (p := ⟨aG, 4, none⟩) (kF (p := ⟨aG, 3, none⟩) (kF (p := ⟨aG, 2, none⟩) (kF (p := ⟨aG, 1, none⟩) (kF (p := ⟨aG, 0, none⟩) (Kd.R_mono aE.out (fun k_ hk => (⟨hk, hk.2⟩ : _ ∧ k_ ≠ aG))) (fun _ hk => hk.2) (.bool true)) (fun _ hk => hk.2) (.bool ((rd_T79 aC aA).f1))) (fun _ hk => hk.2) (.int .i64 ((rd_T79 aC aA).f2.f0))) (fun _ hk => hk.2) (.int .i64 ((rd_T79 aC aA).f2.f1))) (fun _ hk => hk.2) (.int .i64 ((rd_T79 aC aA).f2.f2))) (fun _ hk => hk.2) (.int .i64 ((rd_T79 aC aA).f2.f3))) (fun _ hk => hk.2) (.int .i64 ((rd_T79 aC aA).f3))) (fun _ hk => hk.2) (.int .i64 ((rd_T79 aC aA).f4))) (fun _ hk => hk.2) (.int .i64 ((rd_T79 aC aA).f5))) (fun _ hk => hk.2) (.int .i64 ((rd_T79 aC aA).f6))) (fun _ hk => hk.2) (.bool ((rd_T79 aC aA).f7))) (fun _ hk => hk.1.2))⟩, ⟨fm aH.out⟩, ⟨fm aI.out⟩, ⟨fm aJ.out⟩, ⟨bm aD.out⟩, ⟨bl HB.out⟩⟩ ?_
    intro oR nn_
    replace aE := nn_.1
    replace aH := nn_.2.1
    replace aI := nn_.2.2.1
    replace aJ := nn_.2.2.2.1
    replace aD := nn_.2.2.2.2.1
    replace HB := nn_.2.2.2.2.2
    clear nn_
    replace aE := aM (Kd.R_drew aE.out)
    replace aH := aM (blk_drew aH.out)
    replace aI := aM (blk_drew aI.out)
    replace aJ := aM (blk_drew aJ.out)
    replace aD := aM (blk_drew aD.out)
    replace HB := aM (below_drew1 HB.out)
    refine start_ (n := 8) (S := fun w' => cT2 w' bJ (.int .i64 aT) (aQ) (cS11 w' aG (.bool true) (.bool ((rd_T79 aC aA).f1)) (.int .i64 ((rd_T79 aC aA).f2.f0)) (.int .i64 ((rd_T79 aC aA).f2.f1)) (.int .i64 ((rd_T79 aC aA).f2.f2)) (.int .i64 ((rd_T79 aC aA).f2.f3)) (.int .i64 ((rd_T79 aC aA).f3)) (.int .i64 ((rd_T79 aC aA).f4)) (.int .i64 ((rd_T79 aC aA).f5)) (.int .i64 ((rd_T79 aC aA).f6)) (.bool ((rd_T79 aC aA).f7)))) (ds := [7]) (dn 8 0) (by kernel_rfl) rfl rfl ⟨cI aJ.out 0, cI aJ.out 1, cI aD.out 0, cI aD.out 1, cI aD.out 2, cI aD.out 3, cI aD.out 4, cI aD.out 5, cI aD.out 6, cI aD.out 7, cI aD.out 8, cI aD.out 9, cI aD.out 10⟩ (fun hHeld => ?_); refine with_tabW spec_Decide.tab15 spec_Decide.bits15 (fun HT_ HW_ => ?_)
    generalize oR.drew = wC at aE aH aI aJ aD HB hHeld ⊢
    refine nY (N := some 47) HT_ ?_
    refine pZ 2 49 (bv 8 5) HT_ ?_
    refine pZ 4 51 (bv 8 21) HT_ ?_
    refine aZ 1 48 (bv 8 23) HT_ HW_ hHeld ?_
    refine aZ 3 50 (bv 8 31) HT_ HW_ hHeld ?_
    refine one_ (i := 5) (N := some 52) (bv 8 63) rfl rfl (one_of HT_.out (by kernel_rfl)) (by decide) (fun K hK => ?_)
    refine goes_ Try.func69 (by kernel_rfl) rfl #[.agg #[.bool true, ((rd_T79 aC aA).f1), ((rd_T79 aC aA).f2.f0), ((rd_T79 aC aA).f2.f1), ((rd_T79 aC aA).f2.f2), ((rd_T79 aC aA).f2.f3), ((rd_T79 aC aA).f3), ((rd_T79 aC aA).f4), ((rd_T79 aC aA).f5), ((rd_T79 aC aA).f6), ((rd_T79 aC aA).f7)], .int .i64 1] (by rfl) rfl rfl xR ?_
    with_reducible refine (spec_Turn.calls k1 true ((rd_T79 aC aA).f1) ((rd_T79 aC aA).f2.f0) ((rd_T79 aC aA).f2.f1) ((rd_T79 aC aA).f2.f2) ((rd_T79 aC aA).f2.f3) ((rd_T79 aC aA).f3) ((rd_T79 aC aA).f4) ((rd_T79 aC aA).f5) ((rd_T79 aC aA).f6) ((rd_T79 aC aA).f7) 1 dL dM dN dO dP dQ dR dS dU dV dW _ oQ.out).mono ?_
    rintro e wD ⟨rfl, hb⟩
    refine ⟨_, rfl, ?_⟩
    replace aE := rK aE hb
    replace aH := rB aH hb
    replace aI := rB aI hb
    replace aJ := rB aJ hb
    replace aD := rB aD hb
    replace HB := rS HB hb
    (try clear hb)
    (try clear hb2)
    (try clear hk)
    (try clear hi)
    have eW : 0 ≤ (aA : Int) := dT
    have eX : (aA : Int) < ((aK.length : Int) : Int) := dT
    obtain ⟨jI, jJ, gR, gS, jK, vF, gT⟩ := Kd.R_form aE.out (by omega)
    (first | cases gR | (injection gR with ea_ en_ ec_; (first | subst ea_ | (injection ea_ with ea_; subst ea_)); subst ec_; clear en_))
    have vG := aM gS
    have vH := aM gT
    clear gS jK gT
    obtain ⟨vI, iT, gU, fT, fU⟩ := Kd.R_elem aE.out z79 (aA : Int) eW eX
    obtain rfl := k79_openM gU
    obtain ⟨oS, oT, oU, oV, oW, oX, oY, oZ, pA, pB, jZ, pC, pD, pE, pF, pG, pH, pI, pJ, pK, pL, kA⟩ := eS79 (rd_T79 aK aA) fT fU
    clear iT fT fU gU
    replace eW := eq_true eW
    replace eX := eq_true eX
    obtain ⟨vJ, fV, gV, fW, iU⟩ := Kd.R_elem aE.out z79 (aA : Int) (dT) dT
    obtain rfl := k79_openM gV
    have fD := (Kd.R_seg aE.out (aA : Int) (dT) dT (seg := [.bool dL, .bool dM, .int .i64 dN, .int .i64 dO, .int .i64 dP, .int .i64 dQ, .int .i64 dR, .int .i64 dS, .int .i64 dU, .int .i64 dV, .bool dW]) (j := 0) fV fW (show 11 ≤ 11 from by decide) (x' := (⟨dL, dM, (⟨dN, dO, dP, dQ⟩ : S73), dR, dS, dU, dV, dW⟩ : S79)) (k79_mkM _ _ _ _) (fun _ hk => hk)).1
    rw [← iS.out] at fD
    have HQ39 := aM fD
    clear fV fW iU gV fD
    refine hK.out _ _ ⟨cI aJ.out 0, cI aJ.out 1, cI aD.out 0, cI aD.out 1, cI aD.out 2, cI aD.out 3, cI aD.out 4, cI aD.out 5, cI aD.out 6, cI aD.out 7, cI aD.out 8, cI aD.out 9, cI aD.out 10⟩ (fun hHeld => ?_)
    clear hK K
    refine norm_ (a' := ?_) ?_ ?_
    rotate_left
    ·show Act.put _ (some 52) _ = _
     simp only [Act.put, sA, sZ, sS, i64_w, i32_w]
     rfl
    refine pZ 6 53 (bv 8 127) HT_ ?_
    refine last_ (i := 7) (N := none) (bv 8 255) rfl rfl (one_of HT_.out (by kernel_rfl)) (by decide) (fun K hK => ?_)
    refine skip_ (w1 := ?_) (by rfl) rfl ?_ ?_
    rotate_left
    ·go_simp
     rfl
    refine hK.out _ _ ?_
    clear hK K
    refine done_ (done_of HT_.out (by kernel_rfl)) ?_
    try go_wp2
    go_roundg k1
    case measure => have := cQ.out; omega
    case rel => (try rw [← bM.out]); (try rw [← cN.out]); exact ⟨(wS aA), (gQ), (.slice (some ⟨jI, 0, none⟩) aK.length jJ), xE, H', ⟨by have := cQ.out; omega⟩, ⟨kr (Kd.R_mono HQ39.out (fun _ hk => trivial))⟩, ⟨fR aE.out aH.out⟩, ⟨fR aE.out aI.out⟩, ⟨fR aE.out aJ.out⟩, ⟨bl HB.out⟩⟩
   rw [if_neg dC] at H
   have fO : (aA == bV) = false := beq_eq_false_iff_ne.mpr dC
   have fP : (aA != bV) = true := bne_iff_ne.mpr dC
   have fE := aM H
   clear H
   have tE := bN.out
   have tF := bO.out
   have tG := bP.out
   have tH := bQ.out
   have tI := cA2 aH.out
   have cH : 0 ≤ (aA : Int) := dT
   have cK : aA < (aC.length : Int) := dT
   obtain ⟨cR, dH, bK, bL, bW, bX, bY, bZ, cA, cC, cD, cE, bI⟩ := at_T79 cL.out aA cH cK
   cases dH
   replace bK := xB HB bK
   replace bL := xB HB bL
   replace bW := xB HB bW
   replace bX := xB HB bX
   replace bY := xB HB bY
   replace bZ := xB HB bZ
   replace cA := xB HB cA
   replace cC := xB HB cC
   replace cD := xB HB cD
   replace cE := xB HB cE
   replace bI := xB HB bI
   replace cH := eq_true cH
   replace cK := eq_true cK
   go_upto_region 12 with (first | ((with_reducible refine gD (N := 7) rfl ?_); refine bR aE (N := 7) (cs := #[.bool false, .bool false, .int .i64 0, .int .i64 0, .int .i64 0, .int .i64 0, .int .i64 0, .int .i64 0, .int .i64 0, .int .i64 0, .bool false]) (t := 79) ?_; intro aG hg wE hbox hb; have aD := aM (hbox); have fQ := gF hg HB; have fS := gF hg HB; have aW := nM hg aH; have aX := nH hg aH; have bA := nM hg aI; have bD := nH hg aI; have bG := nM hg aJ; have bH := nH hg aJ; replace aE := aM (kB (Kd.R_elderB (kr aE.out) aG (Nat.le_of_eq hg.symm)) hb); replace aH := rB aH hb; replace aI := rB aI hb; replace aJ := rB aJ hb; replace HB := rS HB hb; clear hb hbox hg; have tJ := aX.out; have tK := aW.out; have tL := bD.out; have tM := bA.out; have tN := bH.out; have tO := bG.out; have tP := cA11 aD.out))
   (try simp only [Act.put, sA, sZ, sS])
   go_cut [44] (fun pM wc => ∃ (kq : Nat) (cY : Bool), pM = .bool cY ∧ Aside0 (spec_Decide.j1 kq bV aA 2 cY aN aC aT aK ((rd_T79 aC aA).f0) ((rd_T79 aC aA).f1) ((rd_T79 aC aA).f2.f0) ((rd_T79 aC aA).f2.f1) ((rd_T79 aC aA).f2.f2) ((rd_T79 aC aA).f2.f3) ((rd_T79 aC aA).f3) ((rd_T79 aC aA).f4) ((rd_T79 aC aA).f5) ((rd_T79 aC aA).f6) ((rd_T79 aC aA).f7) = some (r1, r2)) ∧ Aside0 (kq ≤ k1) ∧ Aside0 (Kd.R k79 79 wc w.heap.size (fun k_ => k_ ≠ aG) aQ aK) ∧ Aside0 (wc.heap[cU]? = some (.cells #[aN, (.slice (some cR) aC.length bT)] 28 (0, 0))) ∧ Aside0 (wc.heap[bU]? = some (.cells #[.int .i64 0, (.slice none 0 0)] 28 (0, 0))) ∧ Aside0 (wc.heap[bJ]? = some (.cells #[aT, aQ] 28 (0, 0))) ∧ Aside0 (wc.heap[aG]? = some (.cells #[((rd_T79 aC aA).f0), ((rd_T79 aC aA).f1), ((rd_T79 aC aA).f2.f0), ((rd_T79 aC aA).f2.f1), ((rd_T79 aC aA).f2.f2), ((rd_T79 aC aA).f2.f3), ((rd_T79 aC aA).f3), ((rd_T79 aC aA).f4), ((rd_T79 aC aA).f5), ((rd_T79 aC aA).f6), ((rd_T79 aC aA).f7)] 79 (0, 0))) ∧ Aside0 (Below w.heap.size w wc))
   case first =>
    have H := fE.out
    clear fE
    obtain ⟨dX, hbq57⟩ : ∃ b_ : Bool, b_ = ((rd_T79 aC aA).f1) := ⟨_, rfl⟩
    replace H : (if dX = true then ((spec_Own.f k1 aN aC aA).bind fun dG => ((spec_Better.f ((rd_T79 aC aA).f2.f0) ((rd_T79 aC aA).f2.f1) ((rd_T79 aC aA).f2.f2) ((rd_T79 aC aA).f2.f3) dG.1 dG.2.1 dG.2.2.1 dG.2.2.2).bind fun dY => (spec_Decide.j1 k1 bV aA 2 dY aN aC aT aK ((rd_T79 aC aA).f0) dX ((rd_T79 aC aA).f2.f0) ((rd_T79 aC aA).f2.f1) ((rd_T79 aC aA).f2.f2) ((rd_T79 aC aA).f2.f3) ((rd_T79 aC aA).f3) ((rd_T79 aC aA).f4) ((rd_T79 aC aA).f5) ((rd_T79 aC aA).f6) ((rd_T79 aC aA).f7)))) else (spec_Decide.j1 k1 bV aA 2 false aN aC aT aK ((rd_T79 aC aA).f0) dX ((rd_T79 aC aA).f2.f0) ((rd_T79 aC aA).f2.f1) ((rd_T79 aC aA).f2.f2) ((rd_T79 aC aA).f2.f3) ((rd_T79 aC aA).f3) ((rd_T79 aC aA).f4) ((rd_T79 aC aA).f5) ((rd_T79 aC aA).f6) ((rd_T79 aC aA).f7))) = some (r1, r2) := by rw [← hbq57] at H; exact H
    have cN := aM hbq57
    clear hbq57
    (try rw [← cN.out])
    by_cases eY : dX = true
    case neg =>
     replace eY := Bool.eq_false_iff.mpr eY
     subst eY
     replace H := hF H
     have H' := aM H
     clear H
     try go_wp2
     refine nW (fun W => Aside0 (Kd.R k79 79 W w.heap.size (fun k_ => k_ ≠ aG) aQ aK) ∧ Aside0 (W.heap[cU]? = some (.cells #[aN, .slice (some cR) aC.length bT] 28 (0, 0))) ∧ Aside0 (W.heap[bU]? = some (.cells #[.int .i64 0, .slice none 0 0] 28 (0, 0))) ∧ Aside0 (W.heap[bJ]? = some (.cells #[aT, aQ] 28 (0, 0))) ∧ Aside0 (W.heap[aG]? = some (.cells #[((rd_T79 aC aA).f0), .bool false, ((rd_T79 aC aA).f2.f0), ((rd_T79 aC aA).f2.f1), ((rd_T79 aC aA).f2.f2), ((rd_T79 aC aA).f2.f3), ((rd_T79 aC aA).f3), ((rd_T79 aC aA).f4), ((rd_T79 aC aA).f5), ((rd_T79 aC aA).f6), ((rd_T79 aC aA).f7)] 79 (0, 0))) ∧ Aside0 (Below w.heap.size w W)) ⟨⟨kr (Kd.R_mono (kF (p := ⟨aG, 10, none⟩) (kF (p := ⟨aG, 9, none⟩) (kF (p := ⟨aG, 8, none⟩) (kF (p := ⟨aG, 7, none⟩) (kF (p := ⟨aG, 6, none⟩) (kF (p := ⟨aG, 5, none⟩) (kF (p := ⟨aG, 4, none⟩) (kF (p := ⟨aG, 3, none⟩) (kF (p := ⟨aG, 2, none⟩) (kF (p := ⟨aG, 1, none⟩) (kF (p := ⟨aG, 0, none⟩) (Kd.R_mono aE.out (fun k_ hk => (⟨hk, hk.2⟩ : _ ∧ k_ ≠ aG))) (fun _ hk => hk.2) (.bool ((rd_T79 aC aA).f0))) (fun _ hk => hk.2) (.bool (false))) (fun _ hk => hk.2) (.int .i64 ((rd_T79 aC aA).f2.f0))) (fun _ hk => hk.2) (.int .i64 ((rd_T79 aC aA).f2.f1))) (fun _ hk => hk.2) (.int .i64 ((rd_T79 aC aA).f2.f2))) (fun _ hk => hk.2) (.int .i64 ((rd_T79 aC aA).f2.f3))) (fun _ hk => hk.2) (.int .i64 ((rd_T79 aC aA).f3))) (fun _ hk => hk.2) (.int .i64 ((rd_T79 aC aA).f4))) (fun _ hk => hk.2) (.int .i64 ((rd_T79 aC aA).f5))) (fun _ hk => hk.2) (.int .i64 ((rd_T79 aC aA).f6))) (fun _ hk => hk.2) (.bool ((rd_T79 aC aA).f7))) (fun _ hk => hk.1.2))⟩, ⟨fm aH.out⟩, ⟨fm aI.out⟩, ⟨fm aJ.out⟩, ⟨bm aD.out⟩, ⟨bl HB.out⟩⟩ ?_
     intro pN nn_
     replace aE := nn_.1
     replace aH := nn_.2.1
     replace aI := nn_.2.2.1
     replace aJ := nn_.2.2.2.1
     replace aD := nn_.2.2.2.2.1
     replace HB := nn_.2.2.2.2.2
     clear nn_
     replace aE := aM (Kd.R_drew aE.out)
     replace aH := aM (blk_drew aH.out)
     replace aI := aM (blk_drew aI.out)
     replace aJ := aM (blk_drew aJ.out)
     replace aD := aM (blk_drew aD.out)
     replace HB := aM (below_drew1 HB.out)
     refine start_ (n := 10) (S := fun w' => cS11 w' aG (.bool ((rd_T79 aC aA).f0)) (.bool false) (.int .i64 ((rd_T79 aC aA).f2.f0)) (.int .i64 ((rd_T79 aC aA).f2.f1)) (.int .i64 ((rd_T79 aC aA).f2.f2)) (.int .i64 ((rd_T79 aC aA).f2.f3)) (.int .i64 ((rd_T79 aC aA).f3)) (.int .i64 ((rd_T79 aC aA).f4)) (.int .i64 ((rd_T79 aC aA).f5)) (.int .i64 ((rd_T79 aC aA).f6)) (.bool ((rd_T79 aC aA).f7))) (ds := []) (dn 10 0) (by kernel_rfl) rfl rfl ⟨cI aD.out 0, cI aD.out 1, cI aD.out 2, cI aD.out 3, cI aD.out 4, cI aD.out 5, cI aD.out 6, cI aD.out 7, cI aD.out 8, cI aD.out 9, cI aD.out 10⟩ (fun hHeld => ?_); refine with_tabW spec_Decide.tab12 spec_Decide.bits12 (fun HT_ HW_ => ?_)
     generalize pN.drew = wF at aE aH aI aJ aD HB hHeld ⊢
     refine nY (N := some 35) HT_ ?_
     refine tY (N := some 36) HT_ HW_ hHeld ?_
     refine nY (N := some 37) HT_ ?_
     refine nU (N := some 38) HT_ ?_
     refine nU (N := some 39) HT_ ?_
     refine nU (N := some 40) HT_ ?_
     refine nU (N := some 41) HT_ ?_
     refine nU (N := some 42) HT_ ?_
     refine nU (N := some 43) HT_ ?_
     refine nY (N := some 44) HT_ ?_
     refine done_ (done_of HT_.out (by kernel_rfl)) ?_
     try go_wp2
     go_meet
     case rel => (try rw [← bM.out]); (try rw [← cN.out]); exact ⟨_, (false), xE, H', ⟨by have := cQ.out; first | omega | exact Nat.le_refl _⟩, ⟨kr aE.out⟩, ⟨bk aH.out⟩, ⟨bk aI.out⟩, ⟨bk aJ.out⟩, ⟨bk aD.out⟩, ⟨bl HB.out⟩⟩
    subst eY
    replace H := hP H rfl
    obtain ⟨⟨fF, fG, fH, fI⟩, gW, H⟩ := hB H
    try dsimp only at H
    have pO := aM gW
    clear gW
    obtain ⟨dY, gX, H⟩ := hB H
    have pP := aM gX
    clear gX
    have H' := aM H
    clear H
    try go_wp2
    refine nW (fun W => Aside0 (Kd.R k79 79 W w.heap.size (fun k_ => k_ ≠ aG) aQ aK) ∧ Aside0 (W.heap[cU]? = some (.cells #[aN, .slice (some cR) aC.length bT] 28 (0, 0))) ∧ Aside0 (W.heap[bU]? = some (.cells #[.int .i64 0, .slice none 0 0] 28 (0, 0))) ∧ Aside0 (W.heap[bJ]? = some (.cells #[aT, aQ] 28 (0, 0))) ∧ Aside0 (W.heap[aG]? = some (.cells #[((rd_T79 aC aA).f0), .bool true, ((rd_T79 aC aA).f2.f0), ((rd_T79 aC aA).f2.f1), ((rd_T79 aC aA).f2.f2), ((rd_T79 aC aA).f2.f3), ((rd_T79 aC aA).f3), ((rd_T79 aC aA).f4), ((rd_T79 aC aA).f5), ((rd_T79 aC aA).f6), ((rd_T79 aC aA).f7)] 79 (0, 0))) ∧ Aside0 (Below w.heap.size w W)) ⟨⟨kr (Kd.R_mono (kF (p := ⟨aG, 10, none⟩) (kF (p := ⟨aG, 9, none⟩) (kF (p := ⟨aG, 8, none⟩) (kF (p := ⟨aG, 7, none⟩) (kF (p := ⟨aG, 6, none⟩) (kF (p := ⟨aG, 5, none⟩) (kF (p := ⟨aG, 4, none⟩) (kF (p := ⟨aG, 3, none⟩) (kF (p := ⟨aG, 2, none⟩) (kF (p := ⟨aG, 1, none⟩) (kF (p := ⟨aG, 0, none⟩) (Kd.R_mono aE.out (fun k_ hk => (⟨hk, hk.2⟩ : _ ∧ k_ ≠ aG))) (fun _ hk => hk.2) (.bool ((rd_T79 aC aA).f0))) (fun _ hk => hk.2) (.bool (true))) (fun _ hk => hk.2) (.int .i64 ((rd_T79 aC aA).f2.f0))) (fun _ hk => hk.2) (.int .i64 ((rd_T79 aC aA).f2.f1))) (fun _ hk => hk.2) (.int .i64 ((rd_T79 aC aA).f2.f2))) (fun _ hk => hk.2) (.int .i64 ((rd_T79 aC aA).f2.f3))) (fun _ hk => hk.2) (.int .i64 ((rd_T79 aC aA).f3))) (fun _ hk => hk.2) (.int .i64 ((rd_T79 aC aA).f4))) (fun _ hk => hk.2) (.int .i64 ((rd_T79 aC aA).f5))) (fun _ hk => hk.2) (.int .i64 ((rd_T79 aC aA).f6))) (fun _ hk => hk.2) (.bool ((rd_T79 aC aA).f7))) (fun _ hk => hk.1.2))⟩, ⟨fm aH.out⟩, ⟨fm aI.out⟩, ⟨fm aJ.out⟩, ⟨bm aD.out⟩, ⟨bl HB.out⟩⟩ ?_
    intro pQ nn_
    replace aE := nn_.1
    replace aH := nn_.2.1
    replace aI := nn_.2.2.1
    replace aJ := nn_.2.2.2.1
    replace aD := nn_.2.2.2.2.1
    replace HB := nn_.2.2.2.2.2
    clear nn_
    replace aE := aM (Kd.R_drew aE.out)
    replace aH := aM (blk_drew aH.out)
    replace aI := aM (blk_drew aI.out)
    replace aJ := aM (blk_drew aJ.out)
    replace aD := aM (blk_drew aD.out)
    replace HB := aM (below_drew1 HB.out)
    refine start_ (n := 10) (S := fun w' => cT11 w' aG (.bool ((rd_T79 aC aA).f0)) (.bool true) (.int .i64 ((rd_T79 aC aA).f2.f0)) (.int .i64 ((rd_T79 aC aA).f2.f1)) (.int .i64 ((rd_T79 aC aA).f2.f2)) (.int .i64 ((rd_T79 aC aA).f2.f3)) (.int .i64 ((rd_T79 aC aA).f3)) (.int .i64 ((rd_T79 aC aA).f4)) (.int .i64 ((rd_T79 aC aA).f5)) (.int .i64 ((rd_T79 aC aA).f6)) (.bool ((rd_T79 aC aA).f7)) (cS2 w' cU (.int .i64 aN) (.slice (some cR) aC.length bT))) (ds := []) (dn 10 0) (by kernel_rfl) rfl rfl ⟨cI aD.out 0, cI aD.out 1, cI aD.out 2, cI aD.out 3, cI aD.out 4, cI aD.out 5, cI aD.out 6, cI aD.out 7, cI aD.out 8, cI aD.out 9, cI aD.out 10, cI aH.out 0, cI aH.out 1⟩ (fun hHeld => ?_); refine with_tabW spec_Decide.tab12 spec_Decide.bits12 (fun HT_ HW_ => ?_)
    generalize pQ.drew = wG at aE aH aI aJ aD HB hHeld ⊢
    refine nY (N := some 35) HT_ ?_
    refine tY (N := some 36) HT_ HW_ hHeld ?_
    refine nY (N := some 37) HT_ ?_
    refine nY (N := some 38) HT_ ?_
    refine pZ 6 41 (bv 10 79) HT_ ?_
    refine aZ 4 39 (bv 10 95) HT_ HW_ hHeld ?_
    refine aZ 5 40 (bv 10 127) HT_ HW_ hHeld ?_
    refine one_ (i := 7) (N := some 42) (bv 10 255) rfl rfl (one_of HT_.out (by kernel_rfl)) (by decide) (fun K hK => ?_)
    refine goes_ Try.func41 (by kernel_rfl) rfl #[.agg #[aN, .slice (some cR) aC.length bT], aA] (by rfl) rfl rfl xR ?_
    with_reducible refine (spec_Own.calls k1 aN _ _ aC aA fF fG fH fI _ ?side1 ?side2 pO.out).mono ?_
    (case side1 => exact cM (cB cL.out HB.out))
    (case side2 => exact cW.out)
    rintro e wH ⟨rfl, hb⟩
    refine ⟨_, rfl, ?_⟩
    replace aE := rK aE hb
    replace aH := rB aH hb
    replace aI := rB aI hb
    replace aJ := rB aJ hb
    replace aD := rB aD hb
    replace HB := rS HB hb
    (try clear hb)
    (try clear hb2)
    (try clear hk)
    (try clear hi)
    refine hK.out _ _ ⟨cI aD.out 0, cI aD.out 1, cI aD.out 2, cI aD.out 3, cI aD.out 4, cI aD.out 5, cI aD.out 6, cI aD.out 7, cI aD.out 8, cI aD.out 9, cI aD.out 10, cI aH.out 0, cI aH.out 1⟩ (fun hHeld => ?_)
    clear hK K
    refine norm_ (a' := ?_) ?_ ?_
    rotate_left
    ·show Act.put _ (some 42) _ = _
     simp only [Act.put, sA, sZ, sS, i64_w, i32_w]
     rfl
    refine one_ (i := 8) (N := some 43) (bv 10 511) rfl rfl (one_of HT_.out (by kernel_rfl)) (by decide) (fun K hK => ?_)
    refine goes_ Try.func68 (by kernel_rfl) rfl #[.agg #[((rd_T79 aC aA).f2.f0), ((rd_T79 aC aA).f2.f1), ((rd_T79 aC aA).f2.f2), ((rd_T79 aC aA).f2.f3)], .agg #[fF, fG, fH, fI]] (by rfl) rfl rfl xR ?_
    with_reducible refine (spec_Better.calls ((rd_T79 aC aA).f2.f0) ((rd_T79 aC aA).f2.f1) ((rd_T79 aC aA).f2.f2) ((rd_T79 aC aA).f2.f3) fF fG fH fI dY _ pP.out).mono ?_
    rintro e wI ⟨rfl, hb⟩
    refine ⟨_, rfl, ?_⟩
    replace aE := rK aE hb
    replace aH := rB aH hb
    replace aI := rB aI hb
    replace aJ := rB aJ hb
    replace aD := rB aD hb
    replace HB := rS HB hb
    (try clear hb)
    (try clear hb2)
    (try clear hk)
    (try clear hi)
    refine hK.out _ _ ⟨cI aD.out 0, cI aD.out 1, cI aD.out 2, cI aD.out 3, cI aD.out 4, cI aD.out 5, cI aD.out 6, cI aD.out 7, cI aD.out 8, cI aD.out 9, cI aD.out 10, cI aH.out 0, cI aH.out 1⟩ (fun hHeld => ?_)
    clear hK K
    refine norm_ (a' := ?_) ?_ ?_
    rotate_left
    ·show Act.put _ (some 43) _ = _
     simp only [Act.put, sA, sZ, sS, i64_w, i32_w]
     rfl
    refine pZ 9 44 (bv 10 1023) HT_ ?_
    refine done_ (done_of HT_.out (by kernel_rfl)) ?_
    try go_wp2
    go_meet
    case rel => (try rw [← bM.out]); (try rw [← cN.out]); exact ⟨_, (dY), xE, H', ⟨by have := cQ.out; first | omega | exact Nat.le_refl _⟩, ⟨kr aE.out⟩, ⟨bk aH.out⟩, ⟨bk aI.out⟩, ⟨bk aJ.out⟩, ⟨bk aD.out⟩, ⟨bl HB.out⟩⟩
   case rest =>
    clear fE
    repeat first|clear c2|clear p2|clear q2|clear c3|clear c4|clear c5|clear q5|clear c6|clear p6|clear dC|clear fO|clear fP|clear wJ|clear eV|clear wK|clear wL|clear eW|clear eX|clear wM|clear wN|clear wO|clear wP|clear wQ|clear wR|clear wT|clear wU|clear wV|clear wW|clear wX|clear wY|clear wZ|clear xA|clear xC|clear xD|clear xF|clear xG|clear xH|clear eY|clear xI|clear eW|clear cH|clear eX|clear cK
    obtain ⟨kq, cY, rfl, HA, HJ47, aE, aH, aI, aJ, aD, HB⟩ := hcut
    cases kq with
    | zero => exact absurd HA.out (by simp [spec_Decide.j1])
    | succ cV =>
     have H := HA.out
     clear HA
     simp only [spec_Decide.j1] at H
     by_cases fX : cY = true
     case pos =>
      subst fX
      replace H := hP H rfl
      by_cases dJ : ((rd_T79 aC aA).f0) = true
      case neg =>
       rw [if_neg dJ] at H
       have fY : ((rd_T79 aC aA).f0) = false := by simpa using dJ
       clear dJ
       have H' := aM H
       clear H
       have tQ := aX.out
       have tR := aW.out
       have tS := bD.out
       have tT := bA.out
       have tV := bH.out
       have tW := bG.out
       have kC : wc.cell? ⟨aG, 0, none⟩ = some ((rd_T79 aC aA).f0) := cI aD.out 0
       have kD : wc.cell? ⟨aG, 1, none⟩ = some ((rd_T79 aC aA).f1) := cI aD.out 1
       have kE : wc.cell? ⟨aG, 2, none⟩ = some ((rd_T79 aC aA).f2.f0) := cI aD.out 2
       have kG : wc.cell? ⟨aG, 3, none⟩ = some ((rd_T79 aC aA).f2.f1) := cI aD.out 3
       have kH : wc.cell? ⟨aG, 4, none⟩ = some ((rd_T79 aC aA).f2.f2) := cI aD.out 4
       have kI : wc.cell? ⟨aG, 5, none⟩ = some ((rd_T79 aC aA).f2.f3) := cI aD.out 5
       have kJ : wc.cell? ⟨aG, 6, none⟩ = some ((rd_T79 aC aA).f3) := cI aD.out 6
       have kK : wc.cell? ⟨aG, 7, none⟩ = some ((rd_T79 aC aA).f4) := cI aD.out 7
       have kL : wc.cell? ⟨aG, 8, none⟩ = some ((rd_T79 aC aA).f5) := cI aD.out 8
       have kM : wc.cell? ⟨aG, 9, none⟩ = some ((rd_T79 aC aA).f6) := cI aD.out 9
       have jL : wc.cell? ⟨aG, 10, none⟩ = some ((rd_T79 aC aA).f7) := cI aD.out 10
       have kN := bF aD.out 0
       have kO := bF aD.out 1
       have kP := bF aD.out 2
       have kQ := bF aD.out 3
       have kR := bF aD.out 4
       have kS := bF aD.out 5
       have kT := bF aD.out 6
       have kU := bF aD.out 7
       have kV := bF aD.out 8
       have kW := bF aD.out 9
       have jM := bF aD.out 10
       go_wp2
       go_roundg cV
       case measure => have := cQ.out; have := HJ47.out; omega
       case rel => (try rw [← bM.out]); (try rw [← cN.out]); exact ⟨(wS aA), (aK), (aQ), xE, H', ⟨by have := cQ.out; have := HJ47.out; omega⟩, ⟨kr (Kd.R_mono aE.out (fun _ hk => trivial))⟩, ⟨bk aH.out⟩, ⟨bk aI.out⟩, ⟨bk aJ.out⟩, ⟨bl HB.out⟩⟩
      rw [if_pos dJ] at H
      have fY : ((rd_T79 aC aA).f0) = true := dJ
      clear dJ
      obtain ⟨⟨dZ, eA, eB, eC, eD, eE, eF, eG, eH, eI, eJ⟩, gY, H⟩ := hB H
      try dsimp only at H
      have pR := aM gY
      clear gY
      obtain ⟨tX, H⟩ := gI H
      obtain ⟨tZ, H⟩ := gI H
      obtain ⟨gZ, dA⟩ : ∃ y_ : List (S79), y_ = (aK.set (aA : Int).toNat (⟨dZ, eA, (⟨eB, eC, eD, eE⟩ : S73), eF, eG, eH, eI, eJ⟩ : S79)) := ⟨_, rfl⟩
      replace H : (spec_Decide.l0 cV bV (wS aA) aN aC aT gZ) = some (r1, r2) := by first | (rw [dA]; with_reducible exact H) | (have H2_ := (Option.bind_some _ _).symm.trans H; rw [dA]; with_reducible exact H2_) | (have H2_ := (Option.bind_some _ _).symm.trans H; with_reducible exact H2_) | with_reducible exact H | (rw [dA]; exact H) | exact H
      have iV := aM dA
      clear dA
      have H' := aM H
      clear H
      have uA := aX.out
      have uB := aW.out
      have uC := bD.out
      have uD := bA.out
      have uE := bH.out
      have uF := bG.out
      have kX : wc.cell? ⟨aG, 0, none⟩ = some ((rd_T79 aC aA).f0) := cI aD.out 0
      have kY : wc.cell? ⟨aG, 1, none⟩ = some ((rd_T79 aC aA).f1) := cI aD.out 1
      have kZ : wc.cell? ⟨aG, 2, none⟩ = some ((rd_T79 aC aA).f2.f0) := cI aD.out 2
      have lA : wc.cell? ⟨aG, 3, none⟩ = some ((rd_T79 aC aA).f2.f1) := cI aD.out 3
      have lC : wc.cell? ⟨aG, 4, none⟩ = some ((rd_T79 aC aA).f2.f2) := cI aD.out 4
      have lD : wc.cell? ⟨aG, 5, none⟩ = some ((rd_T79 aC aA).f2.f3) := cI aD.out 5
      have lE : wc.cell? ⟨aG, 6, none⟩ = some ((rd_T79 aC aA).f3) := cI aD.out 6
      have lF : wc.cell? ⟨aG, 7, none⟩ = some ((rd_T79 aC aA).f4) := cI aD.out 7
      have lG : wc.cell? ⟨aG, 8, none⟩ = some ((rd_T79 aC aA).f5) := cI aD.out 8
      have lH : wc.cell? ⟨aG, 9, none⟩ = some ((rd_T79 aC aA).f6) := cI aD.out 9
      have jN : wc.cell? ⟨aG, 10, none⟩ = some ((rd_T79 aC aA).f7) := cI aD.out 10
      have lJ := bF aD.out 0
      have lK := bF aD.out 1
      have lL := bF aD.out 2
      have lM := bF aD.out 3
      have lO := bF aD.out 4
      have lP := bF aD.out 5
      have lQ := bF aD.out 6
      have lS := bF aD.out 7
      have lT := bF aD.out 8
      have lU := bF aD.out 9
      have jO := bF aD.out 10
      try go_wp2
      replace aE := aM (Kd.R_drew aE.out)
      replace aH := aM (blk_drew aH.out)
      replace aI := aM (blk_drew aI.out)
      replace aJ := aM (blk_drew aJ.out)
      replace aD := aM (blk_drew aD.out)
      replace HB := aM (below_drew1 HB.out)
      refine start_ (n := 8) (S := fun w' => cT2 w' bJ (.int .i64 aT) (aQ) (cS11 w' aG (.bool ((rd_T79 aC aA).f0)) (.bool ((rd_T79 aC aA).f1)) (.int .i64 ((rd_T79 aC aA).f2.f0)) (.int .i64 ((rd_T79 aC aA).f2.f1)) (.int .i64 ((rd_T79 aC aA).f2.f2)) (.int .i64 ((rd_T79 aC aA).f2.f3)) (.int .i64 ((rd_T79 aC aA).f3)) (.int .i64 ((rd_T79 aC aA).f4)) (.int .i64 ((rd_T79 aC aA).f5)) (.int .i64 ((rd_T79 aC aA).f6)) (.bool ((rd_T79 aC aA).f7)))) (ds := [7]) (dn 8 0) (by kernel_rfl) rfl rfl ⟨cI aJ.out 0, cI aJ.out 1, cI aD.out 0, cI aD.out 1, cI aD.out 2, cI aD.out 3, cI aD.out 4, cI aD.out 5, cI aD.out 6, cI aD.out 7, cI aD.out 8, cI aD.out 9, cI aD.out 10⟩ (fun hHeld => ?_); refine with_tabW spec_Decide.tab15 spec_Decide.bits15 (fun HT_ HW_ => ?_)
      generalize wc.drew = xJ at aE aH aI aJ aD HB hHeld ⊢
      refine nY (N := some 47) HT_ ?_
      refine pZ 2 49 (bv 8 5) HT_ ?_
      refine pZ 4 51 (bv 8 21) HT_ ?_
      refine aZ 1 48 (bv 8 23) HT_ HW_ hHeld ?_
      refine aZ 3 50 (bv 8 31) HT_ HW_ hHeld ?_
      refine one_ (i := 5) (N := some 52) (bv 8 63) rfl rfl (one_of HT_.out (by kernel_rfl)) (by decide) (fun K hK => ?_)
      refine goes_ Try.func69 (by kernel_rfl) rfl #[.agg #[((rd_T79 aC aA).f0), ((rd_T79 aC aA).f1), ((rd_T79 aC aA).f2.f0), ((rd_T79 aC aA).f2.f1), ((rd_T79 aC aA).f2.f2), ((rd_T79 aC aA).f2.f3), ((rd_T79 aC aA).f3), ((rd_T79 aC aA).f4), ((rd_T79 aC aA).f5), ((rd_T79 aC aA).f6), ((rd_T79 aC aA).f7)], .int .i64 3] (by rfl) rfl rfl (by (try simp only [List.map_toArray, List.map_cons, List.map_nil]); first | done | rfl | (simp only [fY]; rfl) | (simp only [List.length_drop, List.length_take]; rfl)) ?_
      with_reducible refine (spec_Turn.calls cV ((rd_T79 aC aA).f0) ((rd_T79 aC aA).f1) ((rd_T79 aC aA).f2.f0) ((rd_T79 aC aA).f2.f1) ((rd_T79 aC aA).f2.f2) ((rd_T79 aC aA).f2.f3) ((rd_T79 aC aA).f3) ((rd_T79 aC aA).f4) ((rd_T79 aC aA).f5) ((rd_T79 aC aA).f6) ((rd_T79 aC aA).f7) 3 dZ eA eB eC eD eE eF eG eH eI eJ _ pR.out).mono ?_
      rintro e xK ⟨rfl, hb⟩
      refine ⟨_, rfl, ?_⟩
      replace aE := rK aE hb
      replace aH := rB aH hb
      replace aI := rB aI hb
      replace aJ := rB aJ hb
      replace aD := rB aD hb
      replace HB := rS HB hb
      (try clear hb)
      (try clear hb2)
      (try clear hk)
      (try clear hi)
      have hD : 0 ≤ (aA : Int) := dT
      have hH : (aA : Int) < ((aK.length : Int) : Int) := dT
      obtain ⟨jP, jQ, hJ, hO, jR, vK, hU⟩ := Kd.R_form aE.out (by omega)
      (first | cases hJ | (injection hJ with ea_ en_ ec_; (first | subst ea_ | (injection ea_ with ea_; subst ea_)); subst ec_; clear en_))
      have vL := aM hO
      have vM := aM hU
      clear hO jR hU
      obtain ⟨vN, iW, hX, gA, gB⟩ := Kd.R_elem aE.out z79 (aA : Int) hD hH
      obtain rfl := k79_openM hX
      obtain ⟨pS, pT, pV, pW, pX, qA, qC, qD, qE, qF, lV, qG, qH, qI, qJ, qM, qN, qO, qP, qQ, qS, lW⟩ := eS79 (rd_T79 aK aA) gA gB
      clear iW gA gB hX
      replace hD := eq_true hD
      replace hH := eq_true hH
      obtain ⟨vO, gG, hY, gH, iX⟩ := Kd.R_elem aE.out z79 (aA : Int) (dT) dT
      obtain rfl := k79_openM hY
      have fK := (Kd.R_seg aE.out (aA : Int) (dT) dT (seg := [.bool dZ, .bool eA, .int .i64 eB, .int .i64 eC, .int .i64 eD, .int .i64 eE, .int .i64 eF, .int .i64 eG, .int .i64 eH, .int .i64 eI, .bool eJ]) (j := 0) gG gH (show 11 ≤ 11 from by decide) (x' := (⟨dZ, eA, (⟨eB, eC, eD, eE⟩ : S73), eF, eG, eH, eI, eJ⟩ : S79)) (k79_mkM _ _ _ _) (fun _ hk => hk)).1
      rw [← iV.out] at fK
      have HQ79 := aM fK
      clear gG gH iX hY fK
      refine hK.out _ _ ⟨cI aJ.out 0, cI aJ.out 1, cI aD.out 0, cI aD.out 1, cI aD.out 2, cI aD.out 3, cI aD.out 4, cI aD.out 5, cI aD.out 6, cI aD.out 7, cI aD.out 8, cI aD.out 9, cI aD.out 10⟩ (fun hHeld => ?_)
      clear hK K
      refine norm_ (a' := ?_) ?_ ?_
      rotate_left
      ·show Act.put _ (some 52) _ = _
       simp only [Act.put, sA, sZ, sS, i64_w, i32_w]
       rfl
      refine pZ 6 53 (bv 8 127) HT_ ?_
      refine last_ (i := 7) (N := none) (bv 8 255) rfl rfl (one_of HT_.out (by kernel_rfl)) (by decide) (fun K hK => ?_)
      refine skip_ (w1 := ?_) (by rfl) rfl ?_ ?_
      rotate_left
      ·go_simp
       rfl
      refine hK.out _ _ ?_
      clear hK K
      refine done_ (done_of HT_.out (by kernel_rfl)) ?_
      try go_wp2
      go_roundg cV
      case measure => have := cQ.out; have := HJ47.out; omega
      case rel => (try rw [← bM.out]); (try rw [← cN.out]); exact ⟨(wS aA), (gZ), (.slice (some ⟨jP, 0, none⟩) aK.length jQ), xE, H', ⟨by have := cQ.out; have := HJ47.out; omega⟩, ⟨kr (Kd.R_mono HQ79.out (fun _ hk => trivial))⟩, ⟨fR aE.out aH.out⟩, ⟨fR aE.out aI.out⟩, ⟨fR aE.out aJ.out⟩, ⟨bl HB.out⟩⟩
     replace fX := Bool.eq_false_iff.mpr fX
     subst fX
     replace H := hF H
     by_cases dK : ((rd_T79 aC aA).f0) = true
     case neg =>
      rw [if_neg dK] at H
      have gJ : ((rd_T79 aC aA).f0) = false := by simpa using dK
      clear dK
      have H' := aM H
      clear H
      have uG := aX.out
      have uH := aW.out
      have uI := bD.out
      have uJ := bA.out
      have uK := bH.out
      have uL := bG.out
      have lX : wc.cell? ⟨aG, 0, none⟩ = some ((rd_T79 aC aA).f0) := cI aD.out 0
      have lY : wc.cell? ⟨aG, 1, none⟩ = some ((rd_T79 aC aA).f1) := cI aD.out 1
      have lZ : wc.cell? ⟨aG, 2, none⟩ = some ((rd_T79 aC aA).f2.f0) := cI aD.out 2
      have mA : wc.cell? ⟨aG, 3, none⟩ = some ((rd_T79 aC aA).f2.f1) := cI aD.out 3
      have mB : wc.cell? ⟨aG, 4, none⟩ = some ((rd_T79 aC aA).f2.f2) := cI aD.out 4
      have mC : wc.cell? ⟨aG, 5, none⟩ = some ((rd_T79 aC aA).f2.f3) := cI aD.out 5
      have mD : wc.cell? ⟨aG, 6, none⟩ = some ((rd_T79 aC aA).f3) := cI aD.out 6
      have mE : wc.cell? ⟨aG, 7, none⟩ = some ((rd_T79 aC aA).f4) := cI aD.out 7
      have mF : wc.cell? ⟨aG, 8, none⟩ = some ((rd_T79 aC aA).f5) := cI aD.out 8
      have mG : wc.cell? ⟨aG, 9, none⟩ = some ((rd_T79 aC aA).f6) := cI aD.out 9
      have jS : wc.cell? ⟨aG, 10, none⟩ = some ((rd_T79 aC aA).f7) := cI aD.out 10
      have mH := bF aD.out 0
      have mI := bF aD.out 1
      have mJ := bF aD.out 2
      have mK := bF aD.out 3
      have mL := bF aD.out 4
      have mM := bF aD.out 5
      have mN := bF aD.out 6
      have mO := bF aD.out 7
      have mP := bF aD.out 8
      have mQ := bF aD.out 9
      have jT := bF aD.out 10
      go_wp2
      go_roundg cV
      case measure => have := cQ.out; have := HJ47.out; omega
      case rel => (try rw [← bM.out]); (try rw [← cN.out]); exact ⟨(wS aA), (aK), (aQ), xE, H', ⟨by have := cQ.out; have := HJ47.out; omega⟩, ⟨kr (Kd.R_mono aE.out (fun _ hk => trivial))⟩, ⟨bk aH.out⟩, ⟨bk aI.out⟩, ⟨bk aJ.out⟩, ⟨bl HB.out⟩⟩
     rw [if_pos dK] at H
     have gJ : ((rd_T79 aC aA).f0) = true := dK
     clear dK
     obtain ⟨⟨eK, eL, eM, eN, eO, eP, eQ, eR, eS, eT, eU⟩, hZ, H⟩ := hB H
     try dsimp only at H
     have qT := aM hZ
     clear hZ
     obtain ⟨uM, H⟩ := gI H
     obtain ⟨uN, H⟩ := gI H
     obtain ⟨iA, dB⟩ : ∃ y_ : List (S79), y_ = (aK.set (aA : Int).toNat (⟨eK, eL, (⟨eM, eN, eO, eP⟩ : S73), eQ, eR, eS, eT, eU⟩ : S79)) := ⟨_, rfl⟩
     replace H : (spec_Decide.l0 cV bV (wS aA) aN aC aT iA) = some (r1, r2) := by first | (rw [dB]; with_reducible exact H) | (have H2_ := (Option.bind_some _ _).symm.trans H; rw [dB]; with_reducible exact H2_) | (have H2_ := (Option.bind_some _ _).symm.trans H; with_reducible exact H2_) | with_reducible exact H | (rw [dB]; exact H) | exact H
     have iY := aM dB
     clear dB
     have H' := aM H
     clear H
     have uO := aX.out
     have uP := aW.out
     have uQ := bD.out
     have uR := bA.out
     have uS := bH.out
     have uT := bG.out
     have mR : wc.cell? ⟨aG, 0, none⟩ = some ((rd_T79 aC aA).f0) := cI aD.out 0
     have mS : wc.cell? ⟨aG, 1, none⟩ = some ((rd_T79 aC aA).f1) := cI aD.out 1
     have mT : wc.cell? ⟨aG, 2, none⟩ = some ((rd_T79 aC aA).f2.f0) := cI aD.out 2
     have mU : wc.cell? ⟨aG, 3, none⟩ = some ((rd_T79 aC aA).f2.f1) := cI aD.out 3
     have mV : wc.cell? ⟨aG, 4, none⟩ = some ((rd_T79 aC aA).f2.f2) := cI aD.out 4
     have mW : wc.cell? ⟨aG, 5, none⟩ = some ((rd_T79 aC aA).f2.f3) := cI aD.out 5
     have mX : wc.cell? ⟨aG, 6, none⟩ = some ((rd_T79 aC aA).f3) := cI aD.out 6
     have mY : wc.cell? ⟨aG, 7, none⟩ = some ((rd_T79 aC aA).f4) := cI aD.out 7
     have mZ : wc.cell? ⟨aG, 8, none⟩ = some ((rd_T79 aC aA).f5) := cI aD.out 8
     have nA : wc.cell? ⟨aG, 9, none⟩ = some ((rd_T79 aC aA).f6) := cI aD.out 9
     have jU : wc.cell? ⟨aG, 10, none⟩ = some ((rd_T79 aC aA).f7) := cI aD.out 10
     have nB := bF aD.out 0
     have nC := bF aD.out 1
     have nD := bF aD.out 2
     have nE := bF aD.out 3
     have nF := bF aD.out 4
     have nI := bF aD.out 5
     have nJ := bF aD.out 6
     have nK := bF aD.out 7
     have nN := bF aD.out 8
     have nO := bF aD.out 9
     have jV := bF aD.out 10
     try go_wp2
     replace aE := aM (Kd.R_drew aE.out)
     replace aH := aM (blk_drew aH.out)
     replace aI := aM (blk_drew aI.out)
     replace aJ := aM (blk_drew aJ.out)
     replace aD := aM (blk_drew aD.out)
     replace HB := aM (below_drew1 HB.out)
     refine start_ (n := 8) (S := fun w' => cT2 w' bJ (.int .i64 aT) (aQ) (cS11 w' aG (.bool ((rd_T79 aC aA).f0)) (.bool ((rd_T79 aC aA).f1)) (.int .i64 ((rd_T79 aC aA).f2.f0)) (.int .i64 ((rd_T79 aC aA).f2.f1)) (.int .i64 ((rd_T79 aC aA).f2.f2)) (.int .i64 ((rd_T79 aC aA).f2.f3)) (.int .i64 ((rd_T79 aC aA).f3)) (.int .i64 ((rd_T79 aC aA).f4)) (.int .i64 ((rd_T79 aC aA).f5)) (.int .i64 ((rd_T79 aC aA).f6)) (.bool ((rd_T79 aC aA).f7)))) (ds := [7]) (dn 8 0) (by kernel_rfl) rfl rfl ⟨cI aJ.out 0, cI aJ.out 1, cI aD.out 0, cI aD.out 1, cI aD.out 2, cI aD.out 3, cI aD.out 4, cI aD.out 5, cI aD.out 6, cI aD.out 7, cI aD.out 8, cI aD.out 9, cI aD.out 10⟩ (fun hHeld => ?_); refine with_tabW spec_Decide.tab15 spec_Decide.bits15 (fun HT_ HW_ => ?_)
     generalize wc.drew = xL at aE aH aI aJ aD HB hHeld ⊢
     refine nY (N := some 47) HT_ ?_
     refine pZ 2 49 (bv 8 5) HT_ ?_
     refine pZ 4 51 (bv 8 21) HT_ ?_
     refine aZ 1 48 (bv 8 23) HT_ HW_ hHeld ?_
     refine aZ 3 50 (bv 8 31) HT_ HW_ hHeld ?_
     refine one_ (i := 5) (N := some 52) (bv 8 63) rfl rfl (one_of HT_.out (by kernel_rfl)) (by decide) (fun K hK => ?_)
     refine goes_ Try.func69 (by kernel_rfl) rfl #[.agg #[((rd_T79 aC aA).f0), ((rd_T79 aC aA).f1), ((rd_T79 aC aA).f2.f0), ((rd_T79 aC aA).f2.f1), ((rd_T79 aC aA).f2.f2), ((rd_T79 aC aA).f2.f3), ((rd_T79 aC aA).f3), ((rd_T79 aC aA).f4), ((rd_T79 aC aA).f5), ((rd_T79 aC aA).f6), ((rd_T79 aC aA).f7)], .int .i64 2] (by rfl) rfl rfl (by (try simp only [List.map_toArray, List.map_cons, List.map_nil]); first | done | rfl | (simp only [gJ]; rfl) | (simp only [List.length_drop, List.length_take]; rfl)) ?_
     with_reducible refine (spec_Turn.calls cV ((rd_T79 aC aA).f0) ((rd_T79 aC aA).f1) ((rd_T79 aC aA).f2.f0) ((rd_T79 aC aA).f2.f1) ((rd_T79 aC aA).f2.f2) ((rd_T79 aC aA).f2.f3) ((rd_T79 aC aA).f3) ((rd_T79 aC aA).f4) ((rd_T79 aC aA).f5) ((rd_T79 aC aA).f6) ((rd_T79 aC aA).f7) 2 eK eL eM eN eO eP eQ eR eS eT eU _ qT.out).mono ?_
     rintro e xM ⟨rfl, hb⟩
     refine ⟨_, rfl, ?_⟩
     replace aE := rK aE hb
     replace aH := rB aH hb
     replace aI := rB aI hb
     replace aJ := rB aJ hb
     replace aD := rB aD hb
     replace HB := rS HB hb
     (try clear hb)
     (try clear hb2)
     (try clear hk)
     (try clear hi)
     have iB : 0 ≤ (aA : Int) := dT
     have iC : (aA : Int) < ((aK.length : Int) : Int) := dT
     obtain ⟨jW, jX, iD, iE, jY, vP, iF⟩ := Kd.R_form aE.out (by omega)
     (first | cases iD | (injection iD with ea_ en_ ec_; (first | subst ea_ | (injection ea_ with ea_; subst ea_)); subst ec_; clear en_))
     have vQ := aM iE
     have vR := aM iF
     clear iE jY iF
     obtain ⟨vS, iZ, iG, gK, gM⟩ := Kd.R_elem aE.out z79 (aA : Int) iB iC
     obtain rfl := k79_openM iG
     obtain ⟨qV, qW, qX, qY, qZ, rA, rC, rD, rE, rF, nP, rG, rH, rI, rJ, rL, rM, rN, rO, rQ, rR, nQ⟩ := eS79 (rd_T79 aK aA) gK gM
     clear iZ gK gM iG
     replace iB := eq_true iB
     replace iC := eq_true iC
     obtain ⟨vT, gN, iH, gO, jA⟩ := Kd.R_elem aE.out z79 (aA : Int) (dT) dT
     obtain rfl := k79_openM iH
     have fL := (Kd.R_seg aE.out (aA : Int) (dT) dT (seg := [.bool eK, .bool eL, .int .i64 eM, .int .i64 eN, .int .i64 eO, .int .i64 eP, .int .i64 eQ, .int .i64 eR, .int .i64 eS, .int .i64 eT, .bool eU]) (j := 0) gN gO (show 11 ≤ 11 from by decide) (x' := (⟨eK, eL, (⟨eM, eN, eO, eP⟩ : S73), eQ, eR, eS, eT, eU⟩ : S79)) (k79_mkM _ _ _ _) (fun _ hk => hk)).1
     rw [← iY.out] at fL
     have HQ95 := aM fL
     clear gN gO jA iH fL
     refine hK.out _ _ ⟨cI aJ.out 0, cI aJ.out 1, cI aD.out 0, cI aD.out 1, cI aD.out 2, cI aD.out 3, cI aD.out 4, cI aD.out 5, cI aD.out 6, cI aD.out 7, cI aD.out 8, cI aD.out 9, cI aD.out 10⟩ (fun hHeld => ?_)
     clear hK K
     refine norm_ (a' := ?_) ?_ ?_
     rotate_left
     ·show Act.put _ (some 52) _ = _
      simp only [Act.put, sA, sZ, sS, i64_w, i32_w]
      rfl
     refine pZ 6 53 (bv 8 127) HT_ ?_
     refine last_ (i := 7) (N := none) (bv 8 255) rfl rfl (one_of HT_.out (by kernel_rfl)) (by decide) (fun K hK => ?_)
     refine skip_ (w1 := ?_) (by rfl) rfl ?_ ?_
     rotate_left
     ·go_simp
      rfl
     refine hK.out _ _ ?_
     clear hK K
     refine done_ (done_of HT_.out (by kernel_rfl)) ?_
     try go_wp2
     go_roundg cV
     case measure => have := cQ.out; have := HJ47.out; omega
     case rel => (try rw [← bM.out]); (try rw [← cN.out]); exact ⟨(wS aA), (iA), (.slice (some ⟨jW, 0, none⟩) aK.length jX), xE, H', ⟨by have := cQ.out; have := HJ47.out; omega⟩, ⟨kr (Kd.R_mono HQ95.out (fun _ hk => trivial))⟩, ⟨fR aE.out aH.out⟩, ⟨fR aE.out aI.out⟩, ⟨fR aE.out aJ.out⟩, ⟨bl HB.out⟩⟩

end Go.Proofs.Ythmijfekdeagpaa.PFnFades

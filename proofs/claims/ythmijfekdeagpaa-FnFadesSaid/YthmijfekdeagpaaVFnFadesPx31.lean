/- A part of the proof of laws.FnFades. No condition beyond what its theorems say. -/
import Derived.Test.YthmijfekdeagpaaVFnFadesPx22
import Derived.Test.YthmijfekdeagpaaVFnFadesPx30
namespace Go.Proofs.Ythmijfekdeagpaa.PFnFades
open Go.RowKit Go.Proofs.YthmijfekdeagpaaW.PrintWords Go.Proofs.YthmijfekdeagpaaW.PrintLast Go.Proofs.YthmijfekdeagpaaW.PrintMore
set_option linter.unusedVariables false
set_option linter.unusedSimpArgs false

theorem fld73_0 (w : World) (x0 : Int) (x1 : Int) (x2 : Int) (x3 : Int) : (Instr.field 73 (.agg #[.int .i64 x0, .int .i64 x1, .int .i64 x2, .int .i64 x3]) 0).run Try.prog w = .ok (.int .i64 x0) w := by kernel_rfl
theorem fld73_1 (w : World) (x0 : Int) (x1 : Int) (x2 : Int) (x3 : Int) : (Instr.field 73 (.agg #[.int .i64 x0, .int .i64 x1, .int .i64 x2, .int .i64 x3]) 1).run Try.prog w = .ok (.int .i64 x1) w := by kernel_rfl
theorem fld73_2 (w : World) (x0 : Int) (x1 : Int) (x2 : Int) (x3 : Int) : (Instr.field 73 (.agg #[.int .i64 x0, .int .i64 x1, .int .i64 x2, .int .i64 x3]) 2).run Try.prog w = .ok (.int .i64 x2) w := by kernel_rfl
theorem fld73_3 (w : World) (x0 : Int) (x1 : Int) (x2 : Int) (x3 : Int) : (Instr.field 73 (.agg #[.int .i64 x0, .int .i64 x1, .int .i64 x2, .int .i64 x3]) 3).run Try.prog w = .ok (.int .i64 x3) w := by kernel_rfl
attribute [local go_sem high] fld73_0 fld73_1 fld73_2 fld73_3
def impl_React.f (k : Nat) (aG : Int) (aC : List (S79)) (aH aD aI aJ aK aN aQ : Int) (aT : Bool) : Option (Int × (List (S79)) × (List (S151))) := (impl_copyBridge.f aG aC).bind fun aA => ((impl_InOk.f aH aD aI aJ aK aN aQ aT).bind fun aV => (if aV = true then (if aD ≥ (aC.length : Int) then (some (aA.1, aA.2, ([] : List (S151)))) else ((impl_BridgeOk.f k aG aC).bind fun aW => (if aW = true then ((impl_Bridge_react.f k aA.1 aA.2 aH aD aI aJ aK aN aQ aT).bind fun aE => (some (aA.1, aE.2, aE.1))) else (some (aA.1, aA.2, ([] : List (S151))))))) else (some (aA.1, aA.2, ([] : List (S151))))))
theorem impl_React.mono : ∀ a0 a1 a2 a3 a4 a5 a6 a7 a8 a9 k, LeO (impl_React.f k a0 a1 a2 a3 a4 a5 a6 a7 a8 a9) (impl_React.f (k + 1) a0 a1 a2 a3 a4 a5 a6 a7 a8 a9) := by
 intro a0 a1 a2 a3 a4 a5 a6 a7 a8 a9 k
 unfold impl_React.f
 repeat' first|(with_reducible first|apply impl_BridgeOk.mono|apply impl_Bridge_react.mono|exact lR _|exact lN _|refine lI ?_ ?_|refine lB ?_ fun _ => ?_)|exact lN _|refine lI ?_ ?_|refine lB ?_ fun _ => ?_
set_option maxHeartbeats 60000000 in
set_option maxRecDepth 100000 in
theorem impl_React.calls (k : Nat) (aT : Int) (bX : Option Addr) (bY : Nat) (aI : List (S79)) (aV aQ aW aX bA bD bG : Int) (bH : Bool) (r1 : Int) (r2 : List (S79)) (r3 : List (S151)) (w : World) (hr0_1 : Kd.C k79 w bX aI.length aI) (hc0_1 : aI.length ≤ bY) (h : impl_React.f k aT aI aV aQ aW aX bA bD bG bH = some (r1, r2, r3)) :
  Calls Try.prog 53 #[.agg #[aT, .slice bX aI.length bY], .agg #[aV, aQ, aW, aX, bA, bD, bG, bH]] w fun e w' => ∃ dH dI : Value, e = .returned (.tuple #[.agg #[r1, dH], dI]) ∧ Kd.R k79 79 w' w.heap.size (fun _ => True) dH r2 ∧ Kd.R k151 151 w' w.heap.size (fun _ => True) dI r3 ∧ Below w.heap.size w w' := by
 have hO := Try.underlying28
 have hU := Try.underlying89
 have bZ := aM hr0_1
 have cA := aM hc0_1
 clear hr0_1 hc0_1
 have HB := aM (Below.refl w.heap.size w)
 have H : ((impl_copyBridge.f aT aI).bind fun bW => ((impl_InOk.f aV aQ aW aX bA bD bG bH).bind fun cY => (if cY = true then (if aQ ≥ (aI.length : Int) then (some (bW.1, bW.2, ([] : List (S151)))) else ((impl_BridgeOk.f k aT aI).bind fun dA => (if dA = true then ((impl_Bridge_react.f k bW.1 bW.2 aV aQ aW aX bA bD bG bH).bind fun dC => (some (bW.1, dC.2, dC.1))) else (some (bW.1, bW.2, ([] : List (S151))))))) else (some (bW.1, bW.2, ([] : List (S151))))))) = some (r1, r2, r3) := h
 clear h
 obtain ⟨⟨aJ, aH⟩, dJ, H⟩ := hB H
 try dsimp only at H
 have A3 := aM dJ
 clear dJ
 obtain ⟨cY, dK, H⟩ := hB H
 have A4 := aM dK
 clear dK
 by_cases c5 : cY = true
 case neg =>
  replace c5 := Bool.eq_false_iff.mpr c5
  subst c5
  replace H := hF H
  simp only [Option.some.injEq, Prod.mk.injEq] at H
  obtain ⟨rfl, rfl, rfl⟩ := H
  go_enter Try.func53, Try.ntmps53
  go_wp2_with (first | ((with_reducible refine gD (N := 2) rfl ?_); (try (refine gate_guard (by rfl) ?_; dsimp only)); refine bE (N := 2) (cs := #[aT, .slice bX aI.length bY]) (t := 28) ?_; intro cE hg hY hbox hb; have aA := aM (hbox); have cG := gF hg HB; have cH := gF hg HB; replace HB := rS HB hb; clear hb hbox hg) | ((with_reducible refine gD (N := 3) rfl ?_); (try (refine gate_guard (by rfl) ?_; dsimp only)); refine bE (N := 3) (cs := #[aV, aQ, aW, aX, bA, bD, bG, bH]) (t := 89) ?_; intro cK hg hZ hbox hb; have aC := aM (hbox); have cL := gF hg HB; have cN := gF hg HB; have bI := nM hg aA; have bJ := nH hg aA; replace aA := rB aA hb; replace HB := rS HB hb; clear hb hbox hg) | ((with_reducible refine gD (N := 4) rfl ?_); (try (refine gate_guard (by rfl) ?_; dsimp only)); refine bE (N := 4) (cs := #[.int .i64 0, .slice none 0 0]) (t := 28) ?_; intro aK hg iA hbox hb; have aD := aM (hbox); have cO := gF hg HB; have cP := gF hg HB; have bK := nM hg aA; have bL := nH hg aA; have bM := nM hg aC; have bN := nH hg aC; replace aA := rB aA hb; replace aC := rB aC hb; replace HB := rS HB hb; clear hb hbox hg; have dW := bI.out; have dX := bJ.out; have dY := bK.out; have dZ := bL.out; have eA := cA2 aA.out) | ((with_reducible refine gC (f := 71) rfl ?_); refine gL (some 9) Try.func71 #[.agg #[aT, .slice bX aI.length bY]] ?_; (with_reducible refine (impl_copyBridge.calls aT _ _ aI aJ aH _ ?side1 ?side2 A3.out).mono ?_); (case side1 => exact cM (cB bZ.out HB.out)); (case side2 => exact cA.out); rintro e iB ⟨dB, rfl, ho0, hb⟩; refine ⟨_, rfl, ?_⟩; have aE := aM (Kd.R_lower ho0 (below_size (bl HB.out))); replace aA := rB aA hb; replace aC := rB aC hb; replace aD := rB aD hb; replace HB := rS HB hb; (repeat first|clear hb|clear ho0)) | ((with_reducible refine gD (N := 6) rfl ?_); (try (refine gate_guard (by rfl) ?_; dsimp only)); refine bR aE (N := 6) (cs := #[.int .i64 0, .slice none 0 0]) (t := 28) ?_; intro aN hg iC hbox hb; have aG := aM (hbox); have cQ := gF hg HB; have cR := gF hg HB; have bO := nM hg aA; have bP := nH hg aA; have bQ := nM hg aC; have bT := nH hg aC; have bU := nM hg aD; have bV := nH hg aD; replace aE := rK aE hb; replace aA := rB aA hb; replace aC := rB aC hb; replace aD := rB aD hb; replace HB := rS HB hb; clear hb hbox hg; have eB := bP.out; have eC := bO.out; have eD := bT.out; have eE := bQ.out; have eF := bV.out; have eG := bU.out; have eH := cA2 aG.out; obtain ⟨cS, cT, dN⟩ := Kd.R_slice aE.out; subst dN; have eI := bM.out; have eJ := bN.out; have eK := cA8 aC.out) | ((with_reducible refine gC (f := 130) rfl ?_); refine gL (some 11) Try.func130 #[.agg #[aV, aQ, aW, aX, bA, bD, bG, bH]] ?_; (with_reducible refine (impl_InOk.calls aV aQ aW aX bA bD bG bH false _ A4.out).mono ?_); rintro e iD ⟨rfl, hb⟩; refine ⟨_, rfl, ?_⟩; replace aE := aM (kB (kr (Kd.R_mono (kF (p := ⟨aN, 1, none⟩) (kF (p := ⟨aN, 0, none⟩) (Kd.R_types aE.out aG.out (by decide)) (fun _ hk => hk.2) (.int .i64 aJ)) (fun _ hk => hk.2) (.slice cS aH.length cT)) (fun _ h_ => h_.1))) hb); replace aA := aM (bB (fm aA.out) hb); replace aC := aM (bB (fm aC.out) hb); replace aD := aM (bB (fm aD.out) hb); replace aG := aM (bB (g := aN) (o := .cells #[aJ, .slice cS aH.length cT] 28 (0, 0)) (bm aG.out) hb); replace HB := rS HB hb; (try clear hb); have eL := cA2 aG.out; have eM := cA2 aD.out))
  refine bodyPost_ret (results_ct rfl _ _ aK 28 #[aJ, .slice cS aH.length cT] (0, 0) _ rfl (bm aD.out) Try.underlying28 rfl (by kernel_rfl)) rfl ?_
  exact ⟨_, _, xW, by (with_reducible repeat (first | apply Kd.R_alloc | apply Kd.R_drewN | apply Kd.R_drew)); exact Kd.R_mono (kF (p := ⟨aK, 1, none⟩) (kF (p := ⟨aK, 0, none⟩) (Kd.R_types aE.out aD.out (by decide)) (fun _ hk => hk.2) (.int .i64 aJ)) (fun _ hk => hk.2) (.slice cS aH.length cT)) (fun _ hk => trivial), by first | exact Kd.R_nil _ _ _ _ _ | exact Kd.N_nil _ _ _ _ _ | exact Kd.V_nil _ _ _ _ _ | exact Kd.Q_nil _ _ _ _ _ | exact Kd.S_nil _ _ _ _ _, bl HB.out⟩
 subst c5
 replace H := hP H rfl
 by_cases c6 : aQ ≥ (aI.length : Int)
 case pos =>
  rw [if_pos c6] at H
  have dO := decide_eq_true c6
  clear c6
  simp only [Option.some.injEq, Prod.mk.injEq] at H
  obtain ⟨rfl, rfl, rfl⟩ := H
  go_enter Try.func53, Try.ntmps53
  go_wp2_with (first | ((with_reducible refine gD (N := 2) rfl ?_); (try (refine gate_guard (by rfl) ?_; dsimp only)); refine bE (N := 2) (cs := #[aT, .slice bX aI.length bY]) (t := 28) ?_; intro cE hg w7 hbox hb; have aA := aM (hbox); have cG := gF hg HB; have cH := gF hg HB; replace HB := rS HB hb; clear hb hbox hg) | ((with_reducible refine gD (N := 3) rfl ?_); (try (refine gate_guard (by rfl) ?_; dsimp only)); refine bE (N := 3) (cs := #[aV, aQ, aW, aX, bA, bD, bG, bH]) (t := 89) ?_; intro cK hg w8 hbox hb; have aC := aM (hbox); have cL := gF hg HB; have cN := gF hg HB; have bI := nM hg aA; have bJ := nH hg aA; replace aA := rB aA hb; replace HB := rS HB hb; clear hb hbox hg) | ((with_reducible refine gD (N := 4) rfl ?_); (try (refine gate_guard (by rfl) ?_; dsimp only)); refine bE (N := 4) (cs := #[.int .i64 0, .slice none 0 0]) (t := 28) ?_; intro aK hg w9 hbox hb; have aD := aM (hbox); have cO := gF hg HB; have cP := gF hg HB; have bK := nM hg aA; have bL := nH hg aA; have bM := nM hg aC; have bN := nH hg aC; replace aA := rB aA hb; replace aC := rB aC hb; replace HB := rS HB hb; clear hb hbox hg; have eN := bI.out; have eO := bJ.out; have eP := bK.out; have eQ := bL.out; have eR := cA2 aA.out) | ((with_reducible refine gC (f := 71) rfl ?_); refine gL (some 9) Try.func71 #[.agg #[aT, .slice bX aI.length bY]] ?_; (with_reducible refine (impl_copyBridge.calls aT _ _ aI aJ aH _ ?side1 ?side2 A3.out).mono ?_); (case side1 => exact cM (cB bZ.out HB.out)); (case side2 => exact cA.out); rintro e iE ⟨dB, rfl, ho0, hb⟩; refine ⟨_, rfl, ?_⟩; have aE := aM (Kd.R_lower ho0 (below_size (bl HB.out))); replace aA := rB aA hb; replace aC := rB aC hb; replace aD := rB aD hb; replace HB := rS HB hb; (repeat first|clear hb|clear ho0)) | ((with_reducible refine gD (N := 6) rfl ?_); (try (refine gate_guard (by rfl) ?_; dsimp only)); refine bR aE (N := 6) (cs := #[.int .i64 0, .slice none 0 0]) (t := 28) ?_; intro aN hg iF hbox hb; have aG := aM (hbox); have cQ := gF hg HB; have cR := gF hg HB; have bO := nM hg aA; have bP := nH hg aA; have bQ := nM hg aC; have bT := nH hg aC; have bU := nM hg aD; have bV := nH hg aD; replace aE := rK aE hb; replace aA := rB aA hb; replace aC := rB aC hb; replace aD := rB aD hb; replace HB := rS HB hb; clear hb hbox hg; have eS := bP.out; have eT := bO.out; have eU := bT.out; have eV := bQ.out; have eW := bV.out; have eX := bU.out; have eY := cA2 aG.out; obtain ⟨cU, cV, dP⟩ := Kd.R_slice aE.out; subst dP; have eZ := bM.out; have fA := bN.out; have fB := cA8 aC.out) | ((with_reducible refine gC (f := 130) rfl ?_); refine gL (some 11) Try.func130 #[.agg #[aV, aQ, aW, aX, bA, bD, bG, bH]] ?_; (with_reducible refine (impl_InOk.calls aV aQ aW aX bA bD bG bH true _ A4.out).mono ?_); rintro e iG ⟨rfl, hb⟩; refine ⟨_, rfl, ?_⟩; replace aE := aM (kB (kr (Kd.R_mono (kF (p := ⟨aN, 1, none⟩) (kF (p := ⟨aN, 0, none⟩) (Kd.R_types aE.out aG.out (by decide)) (fun _ hk => hk.2) (.int .i64 aJ)) (fun _ hk => hk.2) (.slice cU aH.length cV)) (fun _ h_ => h_.1))) hb); replace aA := aM (bB (fm aA.out) hb); replace aC := aM (bB (fm aC.out) hb); replace aD := aM (bB (fm aD.out) hb); replace aG := aM (bB (g := aN) (o := .cells #[aJ, .slice cU aH.length cV] 28 (0, 0)) (bm aG.out) hb); replace HB := rS HB hb; (try clear hb); have fC := cA8 aC.out; have fD := cA2 aA.out; have fE := cA2 aG.out; have fF := cA2 aD.out))
  refine bodyPost_ret (results_ct rfl _ _ aK 28 #[aJ, .slice cU aH.length cV] (0, 0) _ rfl (bm aD.out) Try.underlying28 rfl (by kernel_rfl)) rfl ?_
  exact ⟨_, _, xW, by (with_reducible repeat (first | apply Kd.R_alloc | apply Kd.R_drewN | apply Kd.R_drew)); exact Kd.R_mono (kF (p := ⟨aK, 1, none⟩) (kF (p := ⟨aK, 0, none⟩) (Kd.R_types aE.out aD.out (by decide)) (fun _ hk => hk.2) (.int .i64 aJ)) (fun _ hk => hk.2) (.slice cU aH.length cV)) (fun _ hk => trivial), by first | exact Kd.R_nil _ _ _ _ _ | exact Kd.N_nil _ _ _ _ _ | exact Kd.V_nil _ _ _ _ _ | exact Kd.Q_nil _ _ _ _ _ | exact Kd.S_nil _ _ _ _ _, bl HB.out⟩
 rw [if_neg c6] at H
 have dO := decide_eq_false c6
 clear c6
 obtain ⟨dA, dE, H⟩ := hB H
 have dL := aM dE
 clear dE
 by_cases dD : dA = true
 case neg =>
  replace dD := Bool.eq_false_iff.mpr dD
  subst dD
  replace H := hF H
  simp only [Option.some.injEq, Prod.mk.injEq] at H
  obtain ⟨rfl, rfl, rfl⟩ := H
  go_enter Try.func53, Try.ntmps53
  go_wp2_with (first | ((with_reducible refine gD (N := 2) rfl ?_); (try (refine gate_guard (by rfl) ?_; dsimp only)); refine bE (N := 2) (cs := #[aT, .slice bX aI.length bY]) (t := 28) ?_; intro cE hg iH hbox hb; have aA := aM (hbox); have cG := gF hg HB; have cH := gF hg HB; replace HB := rS HB hb; clear hb hbox hg) | ((with_reducible refine gD (N := 3) rfl ?_); (try (refine gate_guard (by rfl) ?_; dsimp only)); refine bE (N := 3) (cs := #[aV, aQ, aW, aX, bA, bD, bG, bH]) (t := 89) ?_; intro cK hg iI hbox hb; have aC := aM (hbox); have cL := gF hg HB; have cN := gF hg HB; have bI := nM hg aA; have bJ := nH hg aA; replace aA := rB aA hb; replace HB := rS HB hb; clear hb hbox hg) | ((with_reducible refine gD (N := 4) rfl ?_); (try (refine gate_guard (by rfl) ?_; dsimp only)); refine bE (N := 4) (cs := #[.int .i64 0, .slice none 0 0]) (t := 28) ?_; intro aK hg iJ hbox hb; have aD := aM (hbox); have cO := gF hg HB; have cP := gF hg HB; have bK := nM hg aA; have bL := nH hg aA; have bM := nM hg aC; have bN := nH hg aC; replace aA := rB aA hb; replace aC := rB aC hb; replace HB := rS HB hb; clear hb hbox hg; have fG := bI.out; have fH := bJ.out; have fI := bK.out; have fK := bL.out; have fL := cA2 aA.out) | ((with_reducible refine gC (f := 71) rfl ?_); refine gL (some 9) Try.func71 #[.agg #[aT, .slice bX aI.length bY]] ?_; (with_reducible refine (impl_copyBridge.calls aT _ _ aI aJ aH _ ?side1 ?side2 A3.out).mono ?_); (case side1 => exact cM (cB bZ.out HB.out)); (case side2 => exact cA.out); rintro e iK ⟨dB, rfl, ho0, hb⟩; refine ⟨_, rfl, ?_⟩; have aE := aM (Kd.R_lower ho0 (below_size (bl HB.out))); replace aA := rB aA hb; replace aC := rB aC hb; replace aD := rB aD hb; replace HB := rS HB hb; (repeat first|clear hb|clear ho0)) | ((with_reducible refine gD (N := 6) rfl ?_); (try (refine gate_guard (by rfl) ?_; dsimp only)); refine bR aE (N := 6) (cs := #[.int .i64 0, .slice none 0 0]) (t := 28) ?_; intro aN hg iL hbox hb; have aG := aM (hbox); have cQ := gF hg HB; have cR := gF hg HB; have bO := nM hg aA; have bP := nH hg aA; have bQ := nM hg aC; have bT := nH hg aC; have bU := nM hg aD; have bV := nH hg aD; replace aE := rK aE hb; replace aA := rB aA hb; replace aC := rB aC hb; replace aD := rB aD hb; replace HB := rS HB hb; clear hb hbox hg; have fM := bP.out; have fN := bO.out; have fO := bT.out; have fP := bQ.out; have fQ := bV.out; have fS := bU.out; have fT := cA2 aG.out; obtain ⟨cW, cX, dQ⟩ := Kd.R_slice aE.out; subst dQ; have fU := bM.out; have fV := bN.out; have fW := cA8 aC.out) | ((with_reducible refine gC (f := 130) rfl ?_); refine gL (some 11) Try.func130 #[.agg #[aV, aQ, aW, aX, bA, bD, bG, bH]] ?_; (with_reducible refine (impl_InOk.calls aV aQ aW aX bA bD bG bH true _ A4.out).mono ?_); rintro e iM ⟨rfl, hb⟩; refine ⟨_, rfl, ?_⟩; replace aE := aM (kB (kr (Kd.R_mono (kF (p := ⟨aN, 1, none⟩) (kF (p := ⟨aN, 0, none⟩) (Kd.R_types aE.out aG.out (by decide)) (fun _ hk => hk.2) (.int .i64 aJ)) (fun _ hk => hk.2) (.slice cW aH.length cX)) (fun _ h_ => h_.1))) hb); replace aA := aM (bB (fm aA.out) hb); replace aC := aM (bB (fm aC.out) hb); replace aD := aM (bB (fm aD.out) hb); replace aG := aM (bB (g := aN) (o := .cells #[aJ, .slice cW aH.length cX] 28 (0, 0)) (bm aG.out) hb); replace HB := rS HB hb; (try clear hb); have fX := cA8 aC.out; have fY := cA2 aA.out) | (go_at_call 45; (with_reducible refine (impl_BridgeOk.calls k aT _ _ aI false _ ?side1 ?side2 dL.out).mono ?_); (case side1 => exact cM (cB bZ.out HB.out)); (case side2 => exact cA.out); rintro e iN ⟨rfl, hb⟩; replace aE := rK aE hb; replace aA := rB aA hb; replace aC := rB aC hb; replace aD := rB aD hb; replace aG := rB aG hb; replace HB := rS HB hb; (try clear hb); have gA := cA2 aG.out; have gB := cA2 aD.out))
  refine bodyPost_ret (results_ct rfl _ _ aK 28 #[aJ, .slice cW aH.length cX] (0, 0) _ rfl (bm aD.out) Try.underlying28 rfl (by kernel_rfl)) rfl ?_
  exact ⟨_, _, xW, by (with_reducible repeat (first | apply Kd.R_alloc | apply Kd.R_drewN | apply Kd.R_drew)); exact Kd.R_mono (kF (p := ⟨aK, 1, none⟩) (kF (p := ⟨aK, 0, none⟩) (Kd.R_types aE.out aD.out (by decide)) (fun _ hk => hk.2) (.int .i64 aJ)) (fun _ hk => hk.2) (.slice cW aH.length cX)) (fun _ hk => trivial), by first | exact Kd.R_nil _ _ _ _ _ | exact Kd.N_nil _ _ _ _ _ | exact Kd.V_nil _ _ _ _ _ | exact Kd.Q_nil _ _ _ _ _ | exact Kd.S_nil _ _ _ _ _, bl HB.out⟩
 subst dD
 replace H := hP H rfl
 obtain ⟨⟨dR, dS⟩, dF, H⟩ := hB H
 try dsimp only at H
 have dV := aM dF
 clear dF
 simp only [Option.some.injEq, Prod.mk.injEq] at H
 obtain ⟨rfl, rfl, rfl⟩ := H
 go_enter Try.func53, Try.ntmps53
 go_wp2_with (first | ((with_reducible refine gD (N := 2) rfl ?_); (try (refine gate_guard (by rfl) ?_; dsimp only)); refine bE (N := 2) (cs := #[aT, .slice bX aI.length bY]) (t := 28) ?_; intro cE hg iO hbox hb; have aA := aM (hbox); have cG := gF hg HB; have cH := gF hg HB; replace HB := rS HB hb; clear hb hbox hg) | ((with_reducible refine gD (N := 3) rfl ?_); (try (refine gate_guard (by rfl) ?_; dsimp only)); refine bE (N := 3) (cs := #[aV, aQ, aW, aX, bA, bD, bG, bH]) (t := 89) ?_; intro cK hg iP hbox hb; have aC := aM (hbox); have cL := gF hg HB; have cN := gF hg HB; have bI := nM hg aA; have bJ := nH hg aA; replace aA := rB aA hb; replace HB := rS HB hb; clear hb hbox hg) | ((with_reducible refine gD (N := 4) rfl ?_); (try (refine gate_guard (by rfl) ?_; dsimp only)); refine bE (N := 4) (cs := #[.int .i64 0, .slice none 0 0]) (t := 28) ?_; intro aK hg iQ hbox hb; have aD := aM (hbox); have cO := gF hg HB; have cP := gF hg HB; have bK := nM hg aA; have bL := nH hg aA; have bM := nM hg aC; have bN := nH hg aC; replace aA := rB aA hb; replace aC := rB aC hb; replace HB := rS HB hb; clear hb hbox hg; have gG := bI.out; have gH := bJ.out; have gJ := bK.out; have gK := bL.out; have gM := cA2 aA.out) | ((with_reducible refine gC (f := 71) rfl ?_); refine gL (some 9) Try.func71 #[.agg #[aT, .slice bX aI.length bY]] ?_; (with_reducible refine (impl_copyBridge.calls aT _ _ aI aJ aH _ ?side1 ?side2 A3.out).mono ?_); (case side1 => exact cM (cB bZ.out HB.out)); (case side2 => exact cA.out); rintro e iR ⟨dB, rfl, ho0, hb⟩; refine ⟨_, rfl, ?_⟩; have aE := aM (Kd.R_lower ho0 (below_size (bl HB.out))); replace aA := rB aA hb; replace aC := rB aC hb; replace aD := rB aD hb; replace HB := rS HB hb; (repeat first|clear hb|clear ho0)) | ((with_reducible refine gD (N := 6) rfl ?_); (try (refine gate_guard (by rfl) ?_; dsimp only)); refine bR aE (N := 6) (cs := #[.int .i64 0, .slice none 0 0]) (t := 28) ?_; intro aN hg iS hbox hb; have aG := aM (hbox); have cQ := gF hg HB; have cR := gF hg HB; have bO := nM hg aA; have bP := nH hg aA; have bQ := nM hg aC; have bT := nH hg aC; have bU := nM hg aD; have bV := nH hg aD; replace aE := rK aE hb; replace aA := rB aA hb; replace aC := rB aC hb; replace aD := rB aD hb; replace HB := rS HB hb; clear hb hbox hg; have gN := bP.out; have gO := bO.out; have gP := bT.out; have gQ := bQ.out; have gR := bV.out; have gS := bU.out; have gT := cA2 aG.out; obtain ⟨cC, cD, dU⟩ := Kd.R_slice aE.out; subst dU; have gU := bM.out; have gV := bN.out; have gW := cA8 aC.out) | ((with_reducible refine gC (f := 130) rfl ?_); refine gL (some 11) Try.func130 #[.agg #[aV, aQ, aW, aX, bA, bD, bG, bH]] ?_; (with_reducible refine (impl_InOk.calls aV aQ aW aX bA bD bG bH true _ A4.out).mono ?_); rintro e iT ⟨rfl, hb⟩; refine ⟨_, rfl, ?_⟩; replace aE := aM (kB (kr (Kd.R_mono (kF (p := ⟨aN, 1, none⟩) (kF (p := ⟨aN, 0, none⟩) (Kd.R_types aE.out aG.out (by decide)) (fun _ hk => hk.2) (.int .i64 aJ)) (fun _ hk => hk.2) (.slice cC aH.length cD)) (fun _ h_ => h_.1))) hb); replace aA := aM (bB (fm aA.out) hb); replace aC := aM (bB (fm aC.out) hb); replace aD := aM (bB (fm aD.out) hb); replace aG := aM (bB (g := aN) (o := .cells #[aJ, .slice cC aH.length cD] 28 (0, 0)) (bm aG.out) hb); replace HB := rS HB hb; (try clear hb); have gX := cA8 aC.out; have gY := cA2 aA.out) | (go_at_call 45; (with_reducible refine (impl_BridgeOk.calls k aT _ _ aI true _ ?side1 ?side2 dL.out).mono ?_); (case side1 => exact cM (cB bZ.out HB.out)); (case side2 => exact cA.out); rintro e iU ⟨rfl, hb⟩; replace aE := rK aE hb; replace aA := rB aA hb; replace aC := rB aC hb; replace aD := rB aD hb; replace aG := rB aG hb; replace HB := rS HB hb; (try clear hb); have gZ := cA8 aC.out; have hD := cA2 aG.out) | ((with_reducible refine gC (f := 131) rfl ?_); refine gL (some 28) Try.func131 #[.pointer (some ⟨aN, 0, none⟩), .agg #[aV, aQ, aW, aX, bA, bD, bG, bH]] ?_; (with_reducible refine (impl_Bridge_react.calls (gb := aN) (hBK := (bk aG.out)) (hgb := ?hgb) k aJ (fun k_ => some k_ = (.slice cC aH.length cD : Value).ownBlock) (.slice cC aH.length cD) aH aV aQ aW aX bA bD bG bH dR dS w _ ?side1 ?side2 dV.out).mono ?_); (case hgb => exact (fun hs_ => (fun e_ => (Kd.R_ne aE.out aG.out (by decide)) e_) hs_)); (case side1 => exact bl HB.out); (case side2 => exact Kd.R_tight rfl aE.out); rintro e iV ⟨hX, rfl, ho0, dM, hb, hkp⟩; refine ⟨_, rfl, ?_⟩; have dG := aM (Kd.R_mono (ok' := fun k_ => True) ho0 (fun k_ hk_ => trivial)); replace aA := aM (blk_kept (bk aA.out) hkp (fun hs_ => (fun e_ => (Kd.R_ne aE.out aA.out (by decide)) e_) hs_)); replace aC := aM (blk_kept (bk aC.out) hkp (fun hs_ => (fun e_ => (Kd.R_ne aE.out aC.out (by decide)) e_) hs_)); replace aD := aM (blk_kept (bk aD.out) hkp (fun hs_ => (fun e_ => (Kd.R_ne aE.out aD.out (by decide)) e_) hs_)); replace aG := aM (blk_kept (bk aG.out) hkp (fun hs_ => (fun e_ => (Kd.R_ne aE.out aG.out (by decide)) e_) hs_)); replace aE := aM (Kd.R_reok rfl dM (fun k_ e_ => aE.out.1 k_ e_)); replace HB := aM (hb); (repeat first|clear hb|clear hkp|clear ho0|clear dM); have hH := cA2 aG.out; have hJ := cA2 aD.out))
 refine bodyPost_ret (results_ct rfl _ _ aK 28 #[aJ, .slice cC aH.length cD] (0, 0) _ rfl (bm aD.out) Try.underlying28 rfl (by kernel_rfl)) rfl ?_
 exact ⟨_, _, xW, by (with_reducible repeat (first | apply Kd.R_alloc | apply Kd.R_drewN | apply Kd.R_drew)); exact Kd.R_mono (kF (p := ⟨aK, 1, none⟩) (kF (p := ⟨aK, 0, none⟩) (Kd.R_types aE.out aD.out (by decide)) (fun _ hk => hk.2) (.int .i64 aJ)) (fun _ hk => hk.2) (.slice cC aH.length cD)) (fun _ hk => trivial), by (with_reducible repeat (first | apply Kd.R_alloc | apply Kd.R_drewN | apply Kd.R_drew)); exact Kd.R_mono (kF (p := ⟨aK, 1, none⟩) (kF (p := ⟨aK, 0, none⟩) (Kd.R_types dG.out aD.out (by decide)) (fun _ hk => hk.2) (.int .i64 aJ)) (fun _ hk => hk.2) (.slice cC aH.length cD)) (fun _ hk => trivial), bl HB.out⟩

mutual
def laws_FnFades.l0 : Nat → Int → Int → List (S79) → Option (Bool)
 | 0, _, _, _ => none
 | k + 1, x4, aA, aC => if x4 < 3 then ((impl_React.f k aA aC 2 0 0 0 0 0 0 false).bind fun aD => (laws_FnFades.l0 k (wrap64 (x4 + 1)) aD.1 aD.2.1)) else (laws_FnFades.l1 k 0 aA aC)
def laws_FnFades.l1 : Nat → Int → Int → List (S79) → Option (Bool)
 | 0, _, _, _ => none
 | k + 1, x5, aC, aA => if x5 < (aA.length : Int) then (if 0 ≤ x5 then (if (rd_T79 aA x5).f1 = true then (some false) else (laws_FnFades.l1 k (wrap64 (x5 + 1)) aC aA)) else (none)) else ((impl_RootPort.f k aC aA).bind fun aD => (if aD.2 = true then (some false) else ((impl_Own.f k aC aA 0).bind fun aE => (some (aE.1 == aC)))))
end
def laws_FnFades.f (k : Nat) (l0 : List Int) : Option (Bool) := (laws_big.f l0).bind fun aC => (if aC = true then (some true) else ((spec_DrawHops.f k l0).bind fun aA => ((impl_BridgeOk.f k aA.1 aA.2).bind fun aD => (if aD = true then (laws_FnFades.l0 k 0 aA.1 aA.2) else ((impl_BridgeOk.f k aA.1 aA.2).bind fun aE => ((spec_BridgeOk.f k aA.1 aA.2).bind fun aG => (some (aE == aG))))))))
theorem laws_FnFades.mono_l : ∀ k, (∀ y0 y1 y2, LeO (laws_FnFades.l0 k y0 y1 y2) (laws_FnFades.l0 (k + 1) y0 y1 y2)) ∧ (∀ y0 y1 y2, LeO (laws_FnFades.l1 k y0 y1 y2) (laws_FnFades.l1 (k + 1) y0 y1 y2))
 | 0 => by refine ⟨?_, ?_⟩ <;> intros <;> intro r h <;> simp [laws_FnFades.l0, laws_FnFades.l1] at h
 | k + 1 => by
  obtain ⟨ih0, ih1⟩ := laws_FnFades.mono_l k
  refine ⟨?_, ?_⟩
  ·intro y0 y1 y2
   unfold laws_FnFades.l0
   repeat' first|(with_reducible first|apply ih0|apply ih1|apply impl_BridgeOk.mono|apply impl_Own.mono|apply impl_React.mono|apply impl_RootPort.mono|apply spec_BridgeOk.mono|apply spec_DrawHops.mono|exact lR _|exact lN _|refine lI ?_ ?_|refine lB ?_ fun _ => ?_)|exact lN _|refine lI ?_ ?_|refine lB ?_ fun _ => ?_
  ·intro y0 y1 y2
   unfold laws_FnFades.l1
   repeat' first|(with_reducible first|apply ih0|apply ih1|apply impl_BridgeOk.mono|apply impl_Own.mono|apply impl_React.mono|apply impl_RootPort.mono|apply spec_BridgeOk.mono|apply spec_DrawHops.mono|exact lR _|exact lN _|refine lI ?_ ?_|refine lB ?_ fun _ => ?_)|exact lN _|refine lI ?_ ?_|refine lB ?_ fun _ => ?_
theorem laws_FnFades.mono : ∀ a0 k, LeO (laws_FnFades.f k a0) (laws_FnFades.f (k + 1) a0) := by
 intro a0 k
 obtain ⟨ih0, ih1⟩ := laws_FnFades.mono_l k
 unfold laws_FnFades.f
 repeat' first|(with_reducible first|apply ih0|apply ih1|apply impl_BridgeOk.mono|apply impl_Own.mono|apply impl_React.mono|apply impl_RootPort.mono|apply spec_BridgeOk.mono|apply spec_DrawHops.mono|exact lR _|exact lN _|refine lI ?_ ?_|refine lB ?_ fun _ => ?_)|exact lN _|refine lI ?_ ?_|refine lB ?_ fun _ => ?_
def laws_FnFades.T16 : Bool × List (List Nat × List Nat) := (true, [([], []), ([0], [0]), ([1], [1]), ([2], [2]), ([3, 2, 2], [2, 3]), ([4, 2], [2, 4]), ([2], [2]), ([6, 2], [2, 6]), ([5, 7, 2], [2, 5, 7]), ([2, 8], [2, 8]), ([9, 4, 0, 1, 2, 3, 4, 5, 6, 7, 8, 9], [9])])
def laws_FnFades.B16 : List Nat := [0, 1, 3, 7, 15, 31, 7, 71, 255, 511, 1023]
theorem laws_FnFades.tab16 : rtab .any (opsOf Try.f8 16) = laws_FnFades.T16 := by kernel_rfl
theorem laws_FnFades.bits16 : waitsOk laws_FnFades.T16.2 laws_FnFades.B16 = true := by kernel_rfl
set_option maxHeartbeats 60000000 in
set_option maxRecDepth 100000 in
theorem laws_FnFades.calls (k : Nat) (A0 : Option Addr) (c0 : Nat) (l0 : List Int) (r : Bool) (w : World) (hr0 : Kd.C (Kd.int .u8) w A0 l0.length l0) (hc0 : l0.length ≤ c0) (h : laws_FnFades.f k l0 = some r) :
  Calls Try.prog 8 #[.slice A0 l0.length c0] w fun e w' => e = .returned (.bool r) ∧ Below w.heap.size w w' := by
 have eU := Try.underlying28
 have eV := Try.underlying89
 have bO := aM hr0
 have bP := aM hc0
 clear hr0 hc0
 have HB := aM (Below.refl w.heap.size w)
 have H : ((laws_big.f l0).bind fun bQ => (if bQ = true then (some true) else ((spec_DrawHops.f k l0).bind fun aN => ((impl_BridgeOk.f k aN.1 aN.2).bind fun bT => (if bT = true then (laws_FnFades.l0 k 0 aN.1 aN.2) else ((impl_BridgeOk.f k aN.1 aN.2).bind fun bU => ((spec_BridgeOk.f k aN.1 aN.2).bind fun bV => (some (bU == bV))))))))) = some r := h
 clear h
 obtain ⟨bQ, dH, H⟩ := hB H
 have A2 := aM dH
 clear dH
 by_cases c3 : bQ = true
 case pos =>
  subst c3
  replace H := hP H rfl
  obtain rfl := Option.some.inj H
  go_enter Try.func8, Try.ntmps8
  go_wp2_with (first | ((with_reducible refine gC (f := 26) rfl ?_); refine gL (some 9) Try.func26 #[.slice A0 l0.length c0] ?_; (with_reducible refine (laws_big.calls _ _ l0 true _ ?side1 ?side2 A2.out).mono ?_); (case side1 => exact cM bO.out); (case side2 => exact bP.out); rintro e w' ⟨rfl, ⟨nd, rfl⟩⟩; refine ⟨_, rfl, ?_⟩))
  go_ret
  exact ⟨xW, bl HB.out⟩
 replace c3 := Bool.eq_false_iff.mpr c3
 subst c3
 replace H := hF H
 obtain ⟨⟨aJ, aI⟩, cA, H⟩ := hB H
 try dsimp only at H
 have A4 := aM cA
 clear cA
 obtain ⟨bT, dI, H⟩ := hB H
 have A5 := aM dI
 clear dI
 by_cases c6 : bT = true
 case neg =>
  replace c6 := Bool.eq_false_iff.mpr c6
  subst c6
  replace H := hF H
  obtain ⟨bU, cT, H⟩ := hB H
  have eF := aM cT
  clear cT
  obtain ⟨bV, cU, H⟩ := hB H
  have cA := aM cU
  clear cU
  obtain rfl := Option.some.inj H
  go_enter Try.func8, Try.ntmps8
  try go_wp2_with (first | ((with_reducible refine gC (f := 26) rfl ?_); refine gL (some 9) Try.func26 #[.slice A0 l0.length c0] ?_; (with_reducible refine (laws_big.calls _ _ l0 false _ ?side1 ?side2 A2.out).mono ?_); (case side1 => exact cM bO.out); (case side2 => exact bP.out); rintro e w' ⟨rfl, ⟨nd, rfl⟩⟩; refine ⟨_, rfl, ?_⟩) | ((with_reducible refine gC (f := 39) rfl ?_); refine gL (some 11) Try.func39 #[.slice A0 l0.length c0] ?_; (with_reducible refine (spec_DrawHops.calls k _ _ l0 aJ aI _ ?side1 ?side2 A4.out).mono ?_); (case side1 => exact cM bO.out); (case side2 => exact bP.out); rintro e fD ⟨dL, rfl, ho0, hb⟩; refine ⟨_, rfl, ?_⟩; have aE := aM (Kd.R_lower ho0 (below_size (bl HB.out))); replace HB := rS HB hb; (repeat first|clear hb|clear ho0)) | ((with_reducible refine gD (N := 3) rfl ?_); refine bR aE (N := 3) (cs := #[.int .i64 0, .slice none 0 0]) (t := 28) ?_; intro aH hg fE hbox hb; have aC := aM (hbox); have dD := gF hg HB; have dE := gF hg HB; replace aE := rK aE hb; replace HB := rS HB hb; clear hb hbox hg; have eL := cA2 aC.out; obtain ⟨aW, aV, dM⟩ := Kd.R_slice aE.out; subst dM) | ((with_reducible refine gC (f := 45) rfl ?_); refine gL (some 13) Try.func45 #[.agg #[aJ, .slice aW aI.length aV]] ?_; (with_reducible refine (impl_BridgeOk.calls k aJ _ _ aI false _ ?side1 ?side2 A5.out).mono ?_); (case side1 => refine (Kd.R_reads' (e := 79) (base := w.heap.size) (ok := fun k_ => True) (n := aI.length) (c := aV) ?_).2.2; exact (kr (Kd.R_mono (kF (p := ⟨aH, 1, none⟩) (kF (p := ⟨aH, 0, none⟩) (Kd.R_types aE.out aC.out (by decide)) (fun _ hk => hk.2) (.int .i64 aJ)) (fun _ hk => hk.2) (.slice aW aI.length aV)) (fun _ h_ => h_.1)))); (case side2 => exact (Kd.R_reads' aE.out).2.1); rintro e eG ⟨rfl, hb⟩; refine ⟨_, rfl, ?_⟩; replace aE := aM (kB (kr (Kd.R_mono (kF (p := ⟨aH, 1, none⟩) (kF (p := ⟨aH, 0, none⟩) (Kd.R_types aE.out aC.out (by decide)) (fun _ hk => hk.2) (.int .i64 aJ)) (fun _ hk => hk.2) (.slice aW aI.length aV)) (fun _ h_ => h_.1))) hb); replace aC := aM (bB (g := aH) (o := .cells #[aJ, .slice aW aI.length aV] 28 (0, 0)) (bm aC.out) hb); replace HB := rS HB hb; (try clear hb)))
  replace aE := aM (Kd.R_drew aE.out)
  replace aC := aM (blk_drew aC.out)
  replace HB := aM (below_drew1 HB.out)
  refine start_ (n := 6) (S := fun w' => cS2 w' aH (.int .i64 aJ) (.slice aW aI.length aV)) (ds := []) (dn 6 0) (by kernel_rfl) rfl rfl ⟨cI aC.out 0, cI aC.out 1⟩ (fun hHeld => ?_)
  generalize eG.drew = fF at aE aC HB hHeld ⊢
  refine take_ (i := 0) (N := some 15) (v := ?_) (a' := ?_) (bv 6 1) rfl rfl (by kernel_rfl) (fun _ _ _ h => h) (Or.inl ⟨by rfl, ?_⟩) hHeld ?_ ?_
  rotate_left
  ·rintro w' ⟨s0, s1⟩
   go_simp
   with_reducible rfl
  rotate_left
  ·simp only [Act.put, sA, sZ, sS, i64_w, i32_w]
   rfl
  refine take_ (i := 2) (N := some 17) (v := ?_) (a' := ?_) (bv 6 5) rfl rfl (by kernel_rfl) (fun _ _ _ h => h) (Or.inl ⟨by rfl, ?_⟩) hHeld ?_ ?_
  rotate_left
  ·rintro w' ⟨s0, s1⟩
   go_simp
   with_reducible rfl
  rotate_left
  ·simp only [Act.put, sA, sZ, sS, i64_w, i32_w]
   rfl
  refine one_ (i := 1) (N := some 16) (bv 6 7) rfl rfl (by kernel_rfl) (by decide) (fun K hK => ?_)
  refine goes_ Try.func45 (by kernel_rfl) rfl #[.agg #[aJ, .slice aW aI.length aV]] (by rfl) rfl rfl xR ?_
  with_reducible refine (impl_BridgeOk.calls k aJ _ _ aI bU _ ?side1 ?side2 eF.out).mono ?_
  (case side1 => exact cM ((Kd.R_reads' aE.out).2.2))
  (case side2 => exact (Kd.R_reads' aE.out).2.1)
  rintro e fG ⟨rfl, hb⟩
  refine ⟨_, rfl, ?_⟩
  replace aE := rK aE hb
  replace aC := rB aC hb
  replace HB := rS HB hb
  (try clear hb)
  (try clear hb2)
  (try clear hk)
  (try clear hi)
  refine hK.out _ _ ⟨cI aC.out 0, cI aC.out 1⟩ (fun hHeld => ?_)
  clear hK K
  refine norm_ (a' := ?_) ?_ ?_
  rotate_left
  ·show Act.put _ (some 16) _ = _
   simp only [Act.put, sA, sZ, sS, i64_w, i32_w]
   rfl
  refine one_ (i := 3) (N := some 18) (bv 6 15) rfl rfl (by kernel_rfl) (by decide) (fun K hK => ?_)
  refine goes_ Try.func46 (by kernel_rfl) rfl #[.agg #[aJ, .slice aW aI.length aV]] (by rfl) rfl rfl xR ?_
  with_reducible refine (spec_BridgeOk.calls k aJ _ _ aI bV _ ?side1 ?side2 cA.out).mono ?_
  (case side1 => exact cM ((Kd.R_reads' aE.out).2.2))
  (case side2 => exact (Kd.R_reads' aE.out).2.1)
  rintro e fH ⟨rfl, hb⟩
  refine ⟨_, rfl, ?_⟩
  replace aE := rK aE hb
  replace aC := rB aC hb
  replace HB := rS HB hb
  (try clear hb)
  (try clear hb2)
  (try clear hk)
  (try clear hi)
  refine hK.out _ _ ⟨cI aC.out 0, cI aC.out 1⟩ (fun hHeld => ?_)
  clear hK K
  refine norm_ (a' := ?_) ?_ ?_
  rotate_left
  ·show Act.put _ (some 18) _ = _
   simp only [Act.put, sA, sZ, sS, i64_w, i32_w]
   rfl
  refine pure_ (i := 4) (N := some 19) (v := ?_) (a' := ?_) (bv 6 31) rfl rfl (by kernel_rfl) (fun _ _ _ h => h) (Or.inl ⟨by rfl, ?_⟩) ?_ ?_
  rotate_left
  ·intro w'
   go_simp
   with_reducible rfl
  rotate_left
  ·simp only [Act.put, sA, sZ, sS, i64_w, i32_w]
   rfl
  refine pure_ (i := 5) (N := some 2) (v := ?_) (a' := ?_) (bv 6 63) rfl rfl (by kernel_rfl) (fun _ _ _ h => h) (Or.inl ⟨by rfl, ?_⟩) ?_ ?_
  rotate_left
  ·intro w'
   go_simp
   with_reducible rfl
  rotate_left
  ·simp only [Act.put, sA, sZ, sS, i64_w, i32_w]
   rfl
  refine done_ (by kernel_rfl) ?_
  try go_wp2
  go_ret
  exact ⟨xW, bl HB.out⟩
 subst c6
 replace H := hP H rfl
 have H' := aM H
 clear H
 go_enter Try.func8, Try.ntmps8
 go_wp2_with (first | ((with_reducible refine gC (f := 26) rfl ?_); refine gL (some 9) Try.func26 #[.slice A0 l0.length c0] ?_; (with_reducible refine (laws_big.calls _ _ l0 false _ ?side1 ?side2 A2.out).mono ?_); (case side1 => exact cM bO.out); (case side2 => exact bP.out); rintro e w' ⟨rfl, ⟨nd, rfl⟩⟩; refine ⟨_, rfl, ?_⟩) | ((with_reducible refine gC (f := 39) rfl ?_); refine gL (some 11) Try.func39 #[.slice A0 l0.length c0] ?_; (with_reducible refine (spec_DrawHops.calls k _ _ l0 aJ aI _ ?side1 ?side2 A4.out).mono ?_); (case side1 => exact cM bO.out); (case side2 => exact bP.out); rintro e w7 ⟨dL, rfl, ho0, hb⟩; refine ⟨_, rfl, ?_⟩; have aE := aM (Kd.R_lower ho0 (below_size (bl HB.out))); replace HB := rS HB hb; (repeat first|clear hb|clear ho0)) | ((with_reducible refine gD (N := 3) rfl ?_); refine bR aE (N := 3) (cs := #[.int .i64 0, .slice none 0 0]) (t := 28) ?_; intro aH hg w8 hbox hb; have aC := aM (hbox); have dD := gF hg HB; have dE := gF hg HB; replace aE := rK aE hb; replace HB := rS HB hb; clear hb hbox hg; have eW := cA2 aC.out; obtain ⟨bJ, bG, dN⟩ := Kd.R_slice aE.out; subst dN) | ((with_reducible refine gC (f := 45) rfl ?_); refine gL (some 13) Try.func45 #[.agg #[aJ, .slice bJ aI.length bG]] ?_; (with_reducible refine (impl_BridgeOk.calls k aJ _ _ aI true _ ?side1 ?side2 A5.out).mono ?_); (case side1 => refine (Kd.R_reads' (e := 79) (base := w.heap.size) (ok := fun k_ => True) (n := aI.length) (c := bG) ?_).2.2; exact (kr (Kd.R_mono (kF (p := ⟨aH, 1, none⟩) (kF (p := ⟨aH, 0, none⟩) (Kd.R_types aE.out aC.out (by decide)) (fun _ hk => hk.2) (.int .i64 aJ)) (fun _ hk => hk.2) (.slice bJ aI.length bG)) (fun _ h_ => h_.1)))); (case side2 => exact (Kd.R_reads' aE.out).2.1); rintro e fI ⟨rfl, hb⟩; refine ⟨_, rfl, ?_⟩; replace aE := aM (kB (kr (Kd.R_mono (kF (p := ⟨aH, 1, none⟩) (kF (p := ⟨aH, 0, none⟩) (Kd.R_types aE.out aC.out (by decide)) (fun _ hk => hk.2) (.int .i64 aJ)) (fun _ hk => hk.2) (.slice bJ aI.length bG)) (fun _ h_ => h_.1))) hb); replace aC := aM (bB (g := aH) (o := .cells #[aJ, .slice bJ aI.length bG] 28 (0, 0)) (bm aC.out) hb); replace HB := rS HB hb; (try clear hb)))
 go_loopg [4] k (fun kq v4 w' => ∃ (bK : Int) (aG : Int) (aD : List (S79)) (aT : Value), v4 = .int .i64 bK ∧ Aside0 (laws_FnFades.l0 kq bK aG aD = some r) ∧ Aside0 (kq ≤ k) ∧ Aside0 (Kd.R k79 79 w' w.heap.size (fun _ => True) aT aD) ∧ Aside0 (w'.heap[aH]? = some (.cells #[aG, aT] 28 (0, 0))) ∧ Aside0 (Below w.heap.size w w'))
 case atStart => exact ⟨(0), (aJ), (aI), (.slice bJ aI.length bG), xE, H', ⟨Nat.le_refl _⟩, ⟨kr aE.out⟩, ⟨bk aC.out⟩, ⟨bl HB.out⟩⟩
 case round =>
  clear H'
  repeat first|clear c2|clear p2|clear c3|clear c4|clear c6|clear c8
  obtain ⟨bK, aG, aD, aT, rfl, HA, cC, aA, aC, HB⟩ := hrel
  cases gk with
  | zero => exact absurd HA.out (by simp [laws_FnFades.l0])
  | succ k1 =>
   have H := HA.out
   clear HA
   simp only [laws_FnFades.l0] at H
   by_cases bL : bK < 3
   case pos =>
    rw [if_pos bL] at H
    have cD := decide_eq_true bL
    clear bL
    obtain ⟨⟨bW, bN, dO⟩, cV, H⟩ := hB H
    try dsimp only at H
    have eH := aM cV
    clear cV
    have H' := aM H
    clear H
    have eM := cA2 aC.out
    obtain ⟨dP, dQ, dR⟩ := Kd.R_slice aA.out
    subst dR
    go_wp2_with (first | ((with_reducible refine gC (f := 53) rfl ?_); refine gL (some 27) Try.func53 #[.agg #[aG, .slice dP aD.length dQ], .agg #[.int .i64 2, .int .i64 0, .int .i64 0, .int .i64 0, .int .i64 0, .int .i64 0, .int .i64 0, .bool false]] ?_; (with_reducible refine (impl_React.calls k1 aG _ _ aD 2 0 0 0 0 0 0 false bW bN dO _ ?side1 ?side2 eH.out).mono ?_); (case side1 => exact cM ((Kd.R_reads' aA.out).2.2)); (case side2 => exact (Kd.R_reads' aA.out).2.1); rintro e fK ⟨eX, eY, rfl, ho0, ho1, hb⟩; refine ⟨_, rfl, ?_⟩; have cE := aM (Kd.R_lower (Kd.R_new' ho0 (Kd.R_lt (kr aA.out))) (below_size (bl HB.out))); have eN := aM (Kd.R_lower ho1 (below_size (bl HB.out))); replace aA := aM (Kd.R_elder' (kr aA.out) (Kd.R_base ho0) hb); replace aC := rB aC hb; replace HB := rS HB hb; (repeat first|clear hb|clear ho0|clear ho1); have eO := cA2 aC.out; obtain ⟨cW, cX, dS⟩ := Kd.R_slice cE.out; subst dS))
    go_roundg k1
    case measure => have := cC.out; omega
    case rel => (try rw [← aQ.out]); exact ⟨(wS bK), (bW), (bN), (.slice cW bN.length cX), xE, H', ⟨by have := cC.out; omega⟩, ⟨kr (Kd.R_mono (kF (p := ⟨aH, 1, none⟩) (kF (p := ⟨aH, 0, none⟩) (Kd.R_types cE.out aC.out (by decide)) (fun _ hk => hk.2) (.int .i64 bW)) (fun _ hk => hk.2) (.slice cW bN.length cX)) (fun _ hk => trivial))⟩, ⟨bm aC.out⟩, ⟨bl HB.out⟩⟩
   rw [if_neg bL] at H
   have cD := decide_eq_false bL
   clear bL
   have H' := aM H
   clear H
   go_wp2
   go_loopg [5] k1 (fun kq v5 w' => ∃ (aK : Int), v5 = .int .i64 aK ∧ Aside0 (laws_FnFades.l1 kq aK aG aD = some r) ∧ Aside0 (kq ≤ k1) ∧ Aside0 (Kd.R k79 79 w' w.heap.size (fun _ => True) aT aD) ∧ Aside0 (w'.heap[aH]? = some (.cells #[aG, aT] 28 (0, 0))) ∧ Aside0 (Below w.heap.size w w'))
   case atStart => exact ⟨(0), xE, H', ⟨Nat.le_refl _⟩, ⟨kr aA.out⟩, ⟨bk aC.out⟩, ⟨bl HB.out⟩⟩
   case round =>
    clear H'
    repeat first|clear c1|clear c2|clear p2|clear c3|clear c4|clear c5|clear c6|clear p6|clear c8|clear bL|clear cD|clear p2
    obtain ⟨aK, rfl, HA, dJ, aA, aC, HB⟩ := hrel
    cases gk with
    | zero => exact absurd HA.out (by simp [laws_FnFades.l1])
    | succ k2 =>
     have H := HA.out
     clear HA
     simp only [laws_FnFades.l1] at H
     by_cases bM : aK < (aD.length : Int)
     case pos =>
      rw [if_pos bM] at H
      have dF := decide_eq_true bM
      clear bM
      obtain ⟨eP, H⟩ := gI H
      obtain ⟨cY, hbq21⟩ : ∃ b_ : Bool, b_ = ((rd_T79 aD aK).f1) := ⟨_, rfl⟩
      replace H : (if cY = true then (some false) else (laws_FnFades.l1 k2 (wS aK) aG aD)) = some r := by rw [← hbq21] at H; exact H
      have aQ := aM hbq21
      clear hbq21
      by_cases cG : cY = true
      case pos =>
       subst cG
       replace H := hP H rfl
       obtain rfl := Option.some.inj H
       have eQ := cA2 aC.out
       obtain ⟨eZ, fA, dU⟩ := Kd.R_slice aA.out
       subst dU
       have aX : 0 ≤ (aK : Int) := dT
       have bA : aK < (aD.length : Int) := dT
       obtain ⟨dG, bX, bH, bI, cK, cL, cN, cO, cP, cQ, cR, cS, bD⟩ := at_T79 (Kd.R_reads' aA.out).2.2 aK aX bA
       (try rw [← aQ.out] at bH)
       (try rw [← aQ.out] at bI)
       (try rw [← aQ.out] at bD)
       cases bX
       replace aX := eq_true aX
       replace bA := eq_true bA
       go_wp2
       go_ret
       exact ⟨xW, bl HB.out⟩
      replace cG := Bool.eq_false_iff.mpr cG
      subst cG
      replace H := hF H
      have H' := aM H
      clear H
      have eR := cA2 aC.out
      obtain ⟨fB, fC, dV⟩ := Kd.R_slice aA.out
      subst dV
      have aX : 0 ≤ (aK : Int) := dT
      have bA : aK < (aD.length : Int) := dT
      obtain ⟨dG, bX, bH, bI, cK, cL, cN, cO, cP, cQ, cR, cS, bD⟩ := at_T79 (Kd.R_reads' aA.out).2.2 aK aX bA
      (try rw [← aQ.out] at bH)
      (try rw [← aQ.out] at bI)
      (try rw [← aQ.out] at bD)
      cases bX
      replace aX := eq_true aX
      replace bA := eq_true bA
      go_wp2
      go_roundg k2
      case measure => have := cC.out; have := dJ.out; omega
      case rel => (try rw [← aQ.out]); exact ⟨(wS aK), xE, H', ⟨by have := cC.out; have := dJ.out; omega⟩, ⟨kr aA.out⟩, ⟨bk aC.out⟩, ⟨bl HB.out⟩⟩
     rw [if_neg bM] at H
     have dF := decide_eq_false bM
     clear bM
     obtain ⟨⟨dA, dW⟩, dB, H⟩ := hB H
     try dsimp only at H
     have dK := aM dB
     clear dB
     by_cases cH : dW = true
     case pos =>
      subst cH
      replace H := hP H rfl
      obtain rfl := Option.some.inj H
      have eS := cA2 aC.out
      obtain ⟨dX, dY, dZ⟩ := Kd.R_slice aA.out
      subst dZ
      try go_wp2_with (first | ((with_reducible refine gC (f := 35) rfl ?_); refine gL (some 45) Try.func35 #[.agg #[aG, .slice dX aD.length dY]] ?_; (with_reducible refine (impl_RootPort.calls k2 aG _ _ aD dA true _ ?side1 ?side2 dK.out).mono ?_); (case side1 => exact cM ((Kd.R_reads' aA.out).2.2)); (case side2 => exact (Kd.R_reads' aA.out).2.1); rintro e eI ⟨rfl, hb⟩; refine ⟨_, rfl, ?_⟩; replace aA := rK aA hb; replace aC := rB aC hb; replace HB := rS HB hb; (try clear hb)))
      replace aA := aM (Kd.R_drew aA.out)
      replace aC := aM (blk_drew aC.out)
      replace HB := aM (below_drew1 HB.out)
      refine start_ (n := 11) (S := fun w' => True) (ds := []) (dn 11 0) (by kernel_rfl) rfl rfl trivial (fun hHeld => ?_); refine with_tabW laws_FnFades.tab16 laws_FnFades.bits16 (fun HT_ HW_ => ?_)
      generalize eI.drew = fL at aA aC HB hHeld ⊢
      refine nY (N := some 48) HT_ ?_
      refine nY (N := some 49) HT_ ?_
      refine nY (N := some 50) HT_ ?_
      refine nU (N := some 51) HT_ ?_
      refine nU (N := some 52) HT_ ?_
      refine nU (N := some 53) HT_ ?_
      refine nU (N := some 54) HT_ ?_
      refine nU (N := some 55) HT_ ?_
      refine nU (N := some 56) HT_ ?_
      refine nY (N := some 57) HT_ ?_
      refine nY (N := some 2) HT_ ?_
      refine done_ (done_of HT_.out (by kernel_rfl)) ?_
      try go_wp2
      go_ret
      exact ⟨xW, bl HB.out⟩
     replace cH := Bool.eq_false_iff.mpr cH
     subst cH
     replace H := hF H
     obtain ⟨⟨eA, eB, eC, eD⟩, dC, H⟩ := hB H
     try dsimp only at H
     have eJ := aM dC
     clear dC
     obtain rfl := Option.some.inj H
     have eT := cA2 aC.out
     obtain ⟨bY, bZ, eE⟩ := Kd.R_slice aA.out
     subst eE
     try go_wp2_with (first | ((with_reducible refine gC (f := 35) rfl ?_); refine gL (some 45) Try.func35 #[.agg #[aG, .slice bY aD.length bZ]] ?_; (with_reducible refine (impl_RootPort.calls k2 aG _ _ aD dA false _ ?side1 ?side2 dK.out).mono ?_); (case side1 => exact cM ((Kd.R_reads' aA.out).2.2)); (case side2 => exact (Kd.R_reads' aA.out).2.1); rintro e eK ⟨rfl, hb⟩; refine ⟨_, rfl, ?_⟩; replace aA := rK aA hb; replace aC := rB aC hb; replace HB := rS HB hb; (try clear hb)))
     replace aA := aM (Kd.R_drew aA.out)
     replace aC := aM (blk_drew aC.out)
     replace HB := aM (below_drew1 HB.out)
     refine start_ (n := 11) (S := fun w' => cS2 w' aH (.int .i64 aG) (.slice bY aD.length bZ)) (ds := []) (dn 11 0) (by kernel_rfl) rfl rfl ⟨cI aC.out 0, cI aC.out 1⟩ (fun hHeld => ?_); refine with_tabW laws_FnFades.tab16 laws_FnFades.bits16 (fun HT_ HW_ => ?_)
     generalize eK.drew = fM at aA aC HB hHeld ⊢
     refine nY (N := some 48) HT_ ?_
     refine nY (N := some 49) HT_ ?_
     refine nY (N := some 50) HT_ ?_
     refine pZ 6 54 (bv 11 71) HT_ ?_
     refine aZ 3 51 (bv 11 79) HT_ HW_ hHeld ?_
     refine aZ 7 55 (bv 11 207) HT_ HW_ hHeld ?_
     refine one_ (i := 4) (N := some 52) (bv 11 223) rfl rfl (one_of HT_.out (by kernel_rfl)) (by decide) (fun K hK => ?_)
     refine goes_ Try.func40 (by kernel_rfl) rfl #[.agg #[aG, .slice bY aD.length bZ], .int .i64 0] (by rfl) rfl rfl xR ?_
     with_reducible refine (impl_Own.calls k2 aG _ _ aD 0 eA eB eC eD _ ?side1 ?side2 eJ.out).mono ?_
     (case side1 => exact cM ((Kd.R_reads' aA.out).2.2))
     (case side2 => exact (Kd.R_reads' aA.out).2.1)
     rintro e fN ⟨rfl, hb⟩
     refine ⟨_, rfl, ?_⟩
     replace aA := rK aA hb
     replace aC := rB aC hb
     replace HB := rS HB hb
     (try clear hb)
     (try clear hb2)
     (try clear hk)
     (try clear hi)
     refine hK.out _ _ ⟨cI aC.out 0, cI aC.out 1⟩ (fun hHeld => ?_)
     clear hK K
     refine norm_ (a' := ?_) ?_ ?_
     rotate_left
     ·show Act.put _ (some 52) _ = _
      simp only [Act.put, sA, sZ, sS, i64_w, i32_w]
      rfl
     refine pZ 5 53 (bv 11 255) HT_ ?_
     refine pZ 8 56 (bv 11 511) HT_ ?_
     refine pZ 9 57 (bv 11 1023) HT_ ?_
     refine pZ 10 2 (bv 11 2047) HT_ ?_
     refine done_ (done_of HT_.out (by kernel_rfl)) ?_
     try go_wp2
     go_ret
     exact ⟨xW, bl HB.out⟩

/-- THE ONE PURE STATEMENT of laws_FnFades: yours. -/
def laws_FnFades.Pure : Prop := ∀ (l0 : List Int), l0.length ≤ maxLen → l0.length * 1 ≤ 140737488351232 → (∀ x ∈ l0, (Lit.int .u8 x).wf = true) → ∃ k, laws_FnFades.f k l0 = some true
theorem laws_FnFades.walk (P : laws_FnFades.Pure) (a0 : Option Addr) (len0 cap0 : Nat) (z0 : List Int) (w : World) (w0 : (a0 = none ∧ len0 = 0 ∧ cap0 = 0 ∧ z0 = []) ∨ ∃ x, a0 = some x ∧ len0 ≤ cap0 ∧ cap0 ≤ maxLen ∧ z0.length = cap0 ∧ (∀ i, i < z0.length → w.cell? (x.add i) = some (.int .u8 (z0.getD i 0))) ∧ ∀ n ∈ z0, (Lit.int .u8 n).wf = true) (y0 : len0 * 1 ≤ 140737488351232) :
  Calls Try.prog 8 #[.slice a0 len0 cap0] w fun e w' => e = .returned (.bool true) ∧ Below w.heap.size w w' := by
 obtain ⟨l0, rfl, hr0, hm0, aA, hc0⟩ := ReadsInt.ofRowC w0
 obtain ⟨k, h⟩ := P l0 hm0 y0 aA
 refine (laws_FnFades.calls k _ _ l0 true w (Kd.C_of_reads (d := (0 : Int)) (h1 := fun _ => rfl) hr0) hc0 h).mono ?_
 rintro e w' ⟨rfl, hd⟩
 exact ⟨rfl, hd⟩

end Go.Proofs.Ythmijfekdeagpaa.PFnFades

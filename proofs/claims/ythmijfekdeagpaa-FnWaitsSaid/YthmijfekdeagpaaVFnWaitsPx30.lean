/- Of the proof of laws.FnWaits: a part. No condition beyond what its theorems say. -/
import Derived.Test.YthmijfekdeagpaaVFnWaitsPx29
namespace Go.Proofs.Ythmijfekdeagpaa.PFnWaits
open Go.RowKit Go.Proofs.YthmijfekdeagpaaW.PrintWords Go.Proofs.YthmijfekdeagpaaW.PrintLast Go.Proofs.YthmijfekdeagpaaW.PrintMore
attribute [local go_sem] max2_int min2_int max_two min_two max_three min_three max_four min_four   -- for this text's walks alone
set_option linter.unusedVariables false
set_option linter.unusedSimpArgs false

def impl_React.f (k : Nat) (aG : Int) (aC : List (S79)) (aH aD aI aJ aK aN aQ : Int) (aT : Bool) : Option (Int × (List (S79)) × (List (S151))) := (impl_copyBridge.f aG aC).bind fun aA => ((impl_InOk.f aH aD aI aJ aK aN aQ aT).bind fun aV => (if aV = true then (if aD ≥ (aC.length : Int) then (some (aA.1, aA.2, ([] : List (S151)))) else ((impl_BridgeOk.f k aG aC).bind fun aW => (if aW = true then ((impl_Bridge_react.f k aA.1 aA.2 aH aD aI aJ aK aN aQ aT).bind fun aE => (some (aA.1, aE.2, aE.1))) else (some (aA.1, aA.2, ([] : List (S151))))))) else (some (aA.1, aA.2, ([] : List (S151))))))
theorem impl_React.mono : ∀ a0 a1 a2 a3 a4 a5 a6 a7 a8 a9 k, LeO (impl_React.f k a0 a1 a2 a3 a4 a5 a6 a7 a8 a9) (impl_React.f (k + 1) a0 a1 a2 a3 a4 a5 a6 a7 a8 a9) := by
 intro a0 a1 a2 a3 a4 a5 a6 a7 a8 a9 k
 unfold impl_React.f
 repeat' first|(with_reducible first|apply impl_BridgeOk.mono|apply impl_Bridge_react.mono|exact lR _|exact lN _|refine lI ?_ ?_|refine lB ?_ fun _ => ?_)|exact lN _|refine lI ?_ ?_|refine lB ?_ fun _ => ?_
set_option maxHeartbeats 60000000 in
set_option maxRecDepth 100000 in
theorem impl_React.calls (k : Nat) (aT : Int) (bX : Option Addr) (bY : Nat) (aI : List (S79)) (aV aQ aW aX bA bD bG : Int) (bH : Bool) (r1 : Int) (r2 : List (S79)) (r3 : List (S151)) (w : World) (hr0_1 : Kd.C k79 w bX aI.length aI) (hc0_1 : aI.length ≤ bY) (h : impl_React.f k aT aI aV aQ aW aX bA bD bG bH = some (r1, r2, r3)) :
  Calls Try.prog 53 #[.agg #[aT, .slice bX aI.length bY], .agg #[aV, aQ, aW, aX, bA, bD, bG, bH]] w fun e w' => ∃ dH dI : Value, e = .returned (.tuple #[.agg #[r1, dH], dI]) ∧ Kd.R k79 79 w' w.heap.size (fun _ => True) dH r2 ∧ Kd.R k151 151 w' w.heap.size (fun _ => True) dI r3 ∧ Below w.heap.size w w' := by
 have hO := Try.underlying28
 have hU := Try.underlying89
 have bZ := aM hr0_1
 have cA := aM hc0_1
 clear hr0_1 hc0_1
 have HB := aM (Below.refl w.heap.size w)
 have H : ((impl_copyBridge.f aT aI).bind fun bW => ((impl_InOk.f aV aQ aW aX bA bD bG bH).bind fun cY => (if cY = true then (if aQ ≥ (aI.length : Int) then (some (bW.1, bW.2, ([] : List (S151)))) else ((impl_BridgeOk.f k aT aI).bind fun dA => (if dA = true then ((impl_Bridge_react.f k bW.1 bW.2 aV aQ aW aX bA bD bG bH).bind fun dC => (some (bW.1, dC.2, dC.1))) else (some (bW.1, bW.2, ([] : List (S151))))))) else (some (bW.1, bW.2, ([] : List (S151))))))) = some (r1, r2, r3) := h
 clear h
 obtain ⟨⟨aJ, aH⟩, dJ, H⟩ := hB H
 try dsimp only at H
 have A3 := aM dJ
 clear dJ
 obtain ⟨cY, dK, H⟩ := hB H
 have A4 := aM dK
 clear dK
 by_cases c5 : cY = true
 case neg =>
  replace c5 := Bool.eq_false_iff.mpr c5
  subst c5
  replace H := hF H
  simp only [Option.some.injEq, Prod.mk.injEq] at H
  obtain ⟨rfl, rfl, rfl⟩ := H
  go_enter Try.func53, Try.ntmps53
  go_wp2_with (first | ((with_reducible refine gD (N := 2) rfl ?_); (try (refine gate_guard (by rfl) ?_; dsimp only)); refine bE (N := 2) (cs := #[aT, .slice bX aI.length bY]) (t := 28) ?_; intro cE hg hY hbox hb; have aA := aM (hbox); have cG := gF hg HB; have cH := gF hg HB; replace HB := rS HB hb; clear hb hbox hg) | ((with_reducible refine gD (N := 3) rfl ?_); (try (refine gate_guard (by rfl) ?_; dsimp only)); refine bE (N := 3) (cs := #[aV, aQ, aW, aX, bA, bD, bG, bH]) (t := 89) ?_; intro cK hg hZ hbox hb; have aC := aM (hbox); have cL := gF hg HB; have cN := gF hg HB; have bI := nM hg aA; have bJ := nH hg aA; replace aA := rB aA hb; replace HB := rS HB hb; clear hb hbox hg) | ((with_reducible refine gD (N := 4) rfl ?_); (try (refine gate_guard (by rfl) ?_; dsimp only)); refine bE (N := 4) (cs := #[.int .i64 0, .slice none 0 0]) (t := 28) ?_; intro aK hg iA hbox hb; have aD := aM (hbox); have cO := gF hg HB; have cP := gF hg HB; have bK := nM hg aA; have bL := nH hg aA; have bM := nM hg aC; have bN := nH hg aC; replace aA := rB aA hb; replace aC := rB aC hb; replace HB := rS HB hb; clear hb hbox hg; have dW := bI.out; have dX := bJ.out; have dY := bK.out; have dZ := bL.out; have eA := cA2 aA.out) | ((with_reducible refine gC (f := 71) rfl ?_); refine gL (some 9) Try.func71 #[.agg #[aT, .slice bX aI.length bY]] ?_; (with_reducible refine (impl_copyBridge.calls aT _ _ aI aJ aH _ ?side1 ?side2 A3.out).mono ?_); (case side1 => exact cM (cB bZ.out HB.out)); (case side2 => exact cA.out); rintro e iB ⟨dB, rfl, ho0, hb⟩; refine ⟨_, rfl, ?_⟩; have aE := aM (Kd.R_lower ho0 (below_size (bl HB.out))); replace aA := rB aA hb; replace aC := rB aC hb; replace aD := rB aD hb; replace HB := rS HB hb; (repeat first|clear hb|clear ho0)) | ((with_reducible refine gD (N := 6) rfl ?_); (try (refine gate_guard (by rfl) ?_; dsimp only)); refine bR aE (N := 6) (cs := #[.int .i64 0, .slice none 0 0]) (t := 28) ?_; intro aN hg iC hbox hb; have aG := aM (hbox); have cQ := gF hg HB; have cR := gF hg HB; have bO := nM hg aA; have bP := nH hg aA; have bQ := nM hg aC; have bT := nH hg aC; have bU := nM hg aD; have bV := nH hg aD; replace aE := aM (kB (kr aE.out) hb); replace aA := rB aA hb; replace aC := rB aC hb; replace aD := rB aD hb; replace HB := rS HB hb; clear hb hbox hg; have eB := bP.out; have eC := bO.out; have eD := bT.out; have eE := bQ.out; have eF := bV.out; have eG := bU.out; have eH := cA2 aG.out; obtain ⟨cS, cT, dN⟩ := Kd.R_slice aE.out; subst dN; have eI := bM.out; have eJ := bN.out; have eK := cA8 aC.out) | ((with_reducible refine gC (f := 130) rfl ?_); refine gL (some 11) Try.func130 #[.agg #[aV, aQ, aW, aX, bA, bD, bG, bH]] ?_; (with_reducible refine (impl_InOk.calls aV aQ aW aX bA bD bG bH false _ A4.out).mono ?_); rintro e iD ⟨rfl, hb⟩; refine ⟨_, rfl, ?_⟩; replace aE := aM (kB (kr (Kd.R_mono (kF (p := ⟨aN, 1, none⟩) (kF (p := ⟨aN, 0, none⟩) (Kd.R_types aE.out aG.out (by decide)) (fun _ hk => hk.2) (.int .i64 aJ)) (fun _ hk => hk.2) (.slice cS aH.length cT)) (fun _ h_ => h_.1))) hb); replace aA := aM (bB (fm aA.out) hb); replace aC := aM (bB (fm aC.out) hb); replace aD := aM (bB (fm aD.out) hb); replace aG := aM (bB (g := aN) (o := .cells #[aJ, .slice cS aH.length cT] 28 (0, 0)) (bm aG.out) hb); replace HB := rS HB hb; (try clear hb); have eL := cA2 aG.out; have eM := cA2 aD.out))
  refine bodyPost_ret (results_ct rfl _ _ aK 28 #[aJ, .slice cS aH.length cT] (0, 0) _ rfl (bm aD.out) Try.underlying28 rfl (by kernel_rfl)) rfl ?_
  exact ⟨_, _, xW, by (with_reducible repeat (first | apply Kd.R_alloc | apply Kd.R_drewN | apply Kd.R_drew)); exact Kd.R_mono (kF (p := ⟨aK, 1, none⟩) (kF (p := ⟨aK, 0, none⟩) (Kd.R_types aE.out aD.out (by decide)) (fun _ hk => hk.2) (.int .i64 aJ)) (fun _ hk => hk.2) (.slice cS aH.length cT)) (fun _ hk => trivial), by first | exact Kd.R_nil _ _ _ _ _ | exact Kd.N_nil _ _ _ _ _ | exact Kd.V_nil _ _ _ _ _ | exact Kd.Q_nil _ _ _ _ _ | exact Kd.S_nil _ _ _ _ _, bl HB.out⟩
 subst c5
 replace H := hP H rfl
 by_cases c6 : aQ ≥ (aI.length : Int)
 case pos =>
  rw [if_pos c6] at H
  have dO := decide_eq_true c6
  clear c6
  simp only [Option.some.injEq, Prod.mk.injEq] at H
  obtain ⟨rfl, rfl, rfl⟩ := H
  go_enter Try.func53, Try.ntmps53
  go_wp2_with (first | ((with_reducible refine gD (N := 2) rfl ?_); (try (refine gate_guard (by rfl) ?_; dsimp only)); refine bE (N := 2) (cs := #[aT, .slice bX aI.length bY]) (t := 28) ?_; intro cE hg w7 hbox hb; have aA := aM (hbox); have cG := gF hg HB; have cH := gF hg HB; replace HB := rS HB hb; clear hb hbox hg) | ((with_reducible refine gD (N := 3) rfl ?_); (try (refine gate_guard (by rfl) ?_; dsimp only)); refine bE (N := 3) (cs := #[aV, aQ, aW, aX, bA, bD, bG, bH]) (t := 89) ?_; intro cK hg w8 hbox hb; have aC := aM (hbox); have cL := gF hg HB; have cN := gF hg HB; have bI := nM hg aA; have bJ := nH hg aA; replace aA := rB aA hb; replace HB := rS HB hb; clear hb hbox hg) | ((with_reducible refine gD (N := 4) rfl ?_); (try (refine gate_guard (by rfl) ?_; dsimp only)); refine bE (N := 4) (cs := #[.int .i64 0, .slice none 0 0]) (t := 28) ?_; intro aK hg w9 hbox hb; have aD := aM (hbox); have cO := gF hg HB; have cP := gF hg HB; have bK := nM hg aA; have bL := nH hg aA; have bM := nM hg aC; have bN := nH hg aC; replace aA := rB aA hb; replace aC := rB aC hb; replace HB := rS HB hb; clear hb hbox hg; have eN := bI.out; have eO := bJ.out; have eP := bK.out; have eQ := bL.out; have eR := cA2 aA.out) | ((with_reducible refine gC (f := 71) rfl ?_); refine gL (some 9) Try.func71 #[.agg #[aT, .slice bX aI.length bY]] ?_; (with_reducible refine (impl_copyBridge.calls aT _ _ aI aJ aH _ ?side1 ?side2 A3.out).mono ?_); (case side1 => exact cM (cB bZ.out HB.out)); (case side2 => exact cA.out); rintro e iE ⟨dB, rfl, ho0, hb⟩; refine ⟨_, rfl, ?_⟩; have aE := aM (Kd.R_lower ho0 (below_size (bl HB.out))); replace aA := rB aA hb; replace aC := rB aC hb; replace aD := rB aD hb; replace HB := rS HB hb; (repeat first|clear hb|clear ho0)) | ((with_reducible refine gD (N := 6) rfl ?_); (try (refine gate_guard (by rfl) ?_; dsimp only)); refine bR aE (N := 6) (cs := #[.int .i64 0, .slice none 0 0]) (t := 28) ?_; intro aN hg iF hbox hb; have aG := aM (hbox); have cQ := gF hg HB; have cR := gF hg HB; have bO := nM hg aA; have bP := nH hg aA; have bQ := nM hg aC; have bT := nH hg aC; have bU := nM hg aD; have bV := nH hg aD; replace aE := aM (kB (kr aE.out) hb); replace aA := rB aA hb; replace aC := rB aC hb; replace aD := rB aD hb; replace HB := rS HB hb; clear hb hbox hg; have eS := bP.out; have eT := bO.out; have eU := bT.out; have eV := bQ.out; have eW := bV.out; have eX := bU.out; have eY := cA2 aG.out; obtain ⟨cU, cV, dP⟩ := Kd.R_slice aE.out; subst dP; have eZ := bM.out; have fA := bN.out; have fB := cA8 aC.out) | ((with_reducible refine gC (f := 130) rfl ?_); refine gL (some 11) Try.func130 #[.agg #[aV, aQ, aW, aX, bA, bD, bG, bH]] ?_; (with_reducible refine (impl_InOk.calls aV aQ aW aX bA bD bG bH true _ A4.out).mono ?_); rintro e iG ⟨rfl, hb⟩; refine ⟨_, rfl, ?_⟩; replace aE := aM (kB (kr (Kd.R_mono (kF (p := ⟨aN, 1, none⟩) (kF (p := ⟨aN, 0, none⟩) (Kd.R_types aE.out aG.out (by decide)) (fun _ hk => hk.2) (.int .i64 aJ)) (fun _ hk => hk.2) (.slice cU aH.length cV)) (fun _ h_ => h_.1))) hb); replace aA := aM (bB (fm aA.out) hb); replace aC := aM (bB (fm aC.out) hb); replace aD := aM (bB (fm aD.out) hb); replace aG := aM (bB (g := aN) (o := .cells #[aJ, .slice cU aH.length cV] 28 (0, 0)) (bm aG.out) hb); replace HB := rS HB hb; (try clear hb); have fC := cA8 aC.out; have fD := cA2 aA.out; have fE := cA2 aG.out; have fF := cA2 aD.out))
  refine bodyPost_ret (results_ct rfl _ _ aK 28 #[aJ, .slice cU aH.length cV] (0, 0) _ rfl (bm aD.out) Try.underlying28 rfl (by kernel_rfl)) rfl ?_
  exact ⟨_, _, xW, by (with_reducible repeat (first | apply Kd.R_alloc | apply Kd.R_drewN | apply Kd.R_drew)); exact Kd.R_mono (kF (p := ⟨aK, 1, none⟩) (kF (p := ⟨aK, 0, none⟩) (Kd.R_types aE.out aD.out (by decide)) (fun _ hk => hk.2) (.int .i64 aJ)) (fun _ hk => hk.2) (.slice cU aH.length cV)) (fun _ hk => trivial), by first | exact Kd.R_nil _ _ _ _ _ | exact Kd.N_nil _ _ _ _ _ | exact Kd.V_nil _ _ _ _ _ | exact Kd.Q_nil _ _ _ _ _ | exact Kd.S_nil _ _ _ _ _, bl HB.out⟩
 rw [if_neg c6] at H
 have dO := decide_eq_false c6
 clear c6
 obtain ⟨dA, dE, H⟩ := hB H
 have dL := aM dE
 clear dE
 by_cases dD : dA = true
 case neg =>
  replace dD := Bool.eq_false_iff.mpr dD
  subst dD
  replace H := hF H
  simp only [Option.some.injEq, Prod.mk.injEq] at H
  obtain ⟨rfl, rfl, rfl⟩ := H
  go_enter Try.func53, Try.ntmps53
  go_wp2_with (first | ((with_reducible refine gD (N := 2) rfl ?_); (try (refine gate_guard (by rfl) ?_; dsimp only)); refine bE (N := 2) (cs := #[aT, .slice bX aI.length bY]) (t := 28) ?_; intro cE hg iH hbox hb; have aA := aM (hbox); have cG := gF hg HB; have cH := gF hg HB; replace HB := rS HB hb; clear hb hbox hg) | ((with_reducible refine gD (N := 3) rfl ?_); (try (refine gate_guard (by rfl) ?_; dsimp only)); refine bE (N := 3) (cs := #[aV, aQ, aW, aX, bA, bD, bG, bH]) (t := 89) ?_; intro cK hg iI hbox hb; have aC := aM (hbox); have cL := gF hg HB; have cN := gF hg HB; have bI := nM hg aA; have bJ := nH hg aA; replace aA := rB aA hb; replace HB := rS HB hb; clear hb hbox hg) | ((with_reducible refine gD (N := 4) rfl ?_); (try (refine gate_guard (by rfl) ?_; dsimp only)); refine bE (N := 4) (cs := #[.int .i64 0, .slice none 0 0]) (t := 28) ?_; intro aK hg iJ hbox hb; have aD := aM (hbox); have cO := gF hg HB; have cP := gF hg HB; have bK := nM hg aA; have bL := nH hg aA; have bM := nM hg aC; have bN := nH hg aC; replace aA := rB aA hb; replace aC := rB aC hb; replace HB := rS HB hb; clear hb hbox hg; have fG := bI.out; have fH := bJ.out; have fI := bK.out; have fK := bL.out; have fL := cA2 aA.out) | ((with_reducible refine gC (f := 71) rfl ?_); refine gL (some 9) Try.func71 #[.agg #[aT, .slice bX aI.length bY]] ?_; (with_reducible refine (impl_copyBridge.calls aT _ _ aI aJ aH _ ?side1 ?side2 A3.out).mono ?_); (case side1 => exact cM (cB bZ.out HB.out)); (case side2 => exact cA.out); rintro e iK ⟨dB, rfl, ho0, hb⟩; refine ⟨_, rfl, ?_⟩; have aE := aM (Kd.R_lower ho0 (below_size (bl HB.out))); replace aA := rB aA hb; replace aC := rB aC hb; replace aD := rB aD hb; replace HB := rS HB hb; (repeat first|clear hb|clear ho0)) | ((with_reducible refine gD (N := 6) rfl ?_); (try (refine gate_guard (by rfl) ?_; dsimp only)); refine bR aE (N := 6) (cs := #[.int .i64 0, .slice none 0 0]) (t := 28) ?_; intro aN hg iL hbox hb; have aG := aM (hbox); have cQ := gF hg HB; have cR := gF hg HB; have bO := nM hg aA; have bP := nH hg aA; have bQ := nM hg aC; have bT := nH hg aC; have bU := nM hg aD; have bV := nH hg aD; replace aE := aM (kB (kr aE.out) hb); replace aA := rB aA hb; replace aC := rB aC hb; replace aD := rB aD hb; replace HB := rS HB hb; clear hb hbox hg; have fM := bP.out; have fN := bO.out; have fO := bT.out; have fP := bQ.out; have fQ := bV.out; have fS := bU.out; have fT := cA2 aG.out; obtain ⟨cW, cX, dQ⟩ := Kd.R_slice aE.out; subst dQ; have fU := bM.out; have fV := bN.out; have fW := cA8 aC.out) | ((with_reducible refine gC (f := 130) rfl ?_); refine gL (some 11) Try.func130 #[.agg #[aV, aQ, aW, aX, bA, bD, bG, bH]] ?_; (with_reducible refine (impl_InOk.calls aV aQ aW aX bA bD bG bH true _ A4.out).mono ?_); rintro e iM ⟨rfl, hb⟩; refine ⟨_, rfl, ?_⟩; replace aE := aM (kB (kr (Kd.R_mono (kF (p := ⟨aN, 1, none⟩) (kF (p := ⟨aN, 0, none⟩) (Kd.R_types aE.out aG.out (by decide)) (fun _ hk => hk.2) (.int .i64 aJ)) (fun _ hk => hk.2) (.slice cW aH.length cX)) (fun _ h_ => h_.1))) hb); replace aA := aM (bB (fm aA.out) hb); replace aC := aM (bB (fm aC.out) hb); replace aD := aM (bB (fm aD.out) hb); replace aG := aM (bB (g := aN) (o := .cells #[aJ, .slice cW aH.length cX] 28 (0, 0)) (bm aG.out) hb); replace HB := rS HB hb; (try clear hb); have fX := cA8 aC.out; have fY := cA2 aA.out) | (go_at_call 45; (with_reducible refine (impl_BridgeOk.calls k aT _ _ aI false _ ?side1 ?side2 dL.out).mono ?_); (case side1 => exact cM (cB bZ.out HB.out)); (case side2 => exact cA.out); rintro e iN ⟨rfl, hb⟩; replace aE := aM (kB (kr aE.out) hb); replace aA := rB aA hb; replace aC := rB aC hb; replace aD := rB aD hb; replace aG := rB aG hb; replace HB := rS HB hb; (try clear hb); have gA := cA2 aG.out; have gB := cA2 aD.out))
  refine bodyPost_ret (results_ct rfl _ _ aK 28 #[aJ, .slice cW aH.length cX] (0, 0) _ rfl (bm aD.out) Try.underlying28 rfl (by kernel_rfl)) rfl ?_
  exact ⟨_, _, xW, by (with_reducible repeat (first | apply Kd.R_alloc | apply Kd.R_drewN | apply Kd.R_drew)); exact Kd.R_mono (kF (p := ⟨aK, 1, none⟩) (kF (p := ⟨aK, 0, none⟩) (Kd.R_types aE.out aD.out (by decide)) (fun _ hk => hk.2) (.int .i64 aJ)) (fun _ hk => hk.2) (.slice cW aH.length cX)) (fun _ hk => trivial), by first | exact Kd.R_nil _ _ _ _ _ | exact Kd.N_nil _ _ _ _ _ | exact Kd.V_nil _ _ _ _ _ | exact Kd.Q_nil _ _ _ _ _ | exact Kd.S_nil _ _ _ _ _, bl HB.out⟩
 subst dD
 replace H := hP H rfl
 obtain ⟨⟨dR, dS⟩, dF, H⟩ := hB H
 try dsimp only at H
 have dV := aM dF
 clear dF
 simp only [Option.some.injEq, Prod.mk.injEq] at H
 obtain ⟨rfl, rfl, rfl⟩ := H
 go_enter Try.func53, Try.ntmps53
 go_wp2_with (first | ((with_reducible refine gD (N := 2) rfl ?_); (try (refine gate_guard (by rfl) ?_; dsimp only)); refine bE (N := 2) (cs := #[aT, .slice bX aI.length bY]) (t := 28) ?_; intro cE hg iO hbox hb; have aA := aM (hbox); have cG := gF hg HB; have cH := gF hg HB; replace HB := rS HB hb; clear hb hbox hg) | ((with_reducible refine gD (N := 3) rfl ?_); (try (refine gate_guard (by rfl) ?_; dsimp only)); refine bE (N := 3) (cs := #[aV, aQ, aW, aX, bA, bD, bG, bH]) (t := 89) ?_; intro cK hg iP hbox hb; have aC := aM (hbox); have cL := gF hg HB; have cN := gF hg HB; have bI := nM hg aA; have bJ := nH hg aA; replace aA := rB aA hb; replace HB := rS HB hb; clear hb hbox hg) | ((with_reducible refine gD (N := 4) rfl ?_); (try (refine gate_guard (by rfl) ?_; dsimp only)); refine bE (N := 4) (cs := #[.int .i64 0, .slice none 0 0]) (t := 28) ?_; intro aK hg iQ hbox hb; have aD := aM (hbox); have cO := gF hg HB; have cP := gF hg HB; have bK := nM hg aA; have bL := nH hg aA; have bM := nM hg aC; have bN := nH hg aC; replace aA := rB aA hb; replace aC := rB aC hb; replace HB := rS HB hb; clear hb hbox hg; have gG := bI.out; have gH := bJ.out; have gJ := bK.out; have gK := bL.out; have gM := cA2 aA.out) | ((with_reducible refine gC (f := 71) rfl ?_); refine gL (some 9) Try.func71 #[.agg #[aT, .slice bX aI.length bY]] ?_; (with_reducible refine (impl_copyBridge.calls aT _ _ aI aJ aH _ ?side1 ?side2 A3.out).mono ?_); (case side1 => exact cM (cB bZ.out HB.out)); (case side2 => exact cA.out); rintro e iR ⟨dB, rfl, ho0, hb⟩; refine ⟨_, rfl, ?_⟩; have aE := aM (Kd.R_lower ho0 (below_size (bl HB.out))); replace aA := rB aA hb; replace aC := rB aC hb; replace aD := rB aD hb; replace HB := rS HB hb; (repeat first|clear hb|clear ho0)) | ((with_reducible refine gD (N := 6) rfl ?_); (try (refine gate_guard (by rfl) ?_; dsimp only)); refine bR aE (N := 6) (cs := #[.int .i64 0, .slice none 0 0]) (t := 28) ?_; intro aN hg iS hbox hb; have aG := aM (hbox); have cQ := gF hg HB; have cR := gF hg HB; have bO := nM hg aA; have bP := nH hg aA; have bQ := nM hg aC; have bT := nH hg aC; have bU := nM hg aD; have bV := nH hg aD; replace aE := aM (kB (kr aE.out) hb); replace aA := rB aA hb; replace aC := rB aC hb; replace aD := rB aD hb; replace HB := rS HB hb; clear hb hbox hg; have gN := bP.out; have gO := bO.out; have gP := bT.out; have gQ := bQ.out; have gR := bV.out; have gS := bU.out; have gT := cA2 aG.out; obtain ⟨cC, cD, dU⟩ := Kd.R_slice aE.out; subst dU; have gU := bM.out; have gV := bN.out; have gW := cA8 aC.out) | ((with_reducible refine gC (f := 130) rfl ?_); refine gL (some 11) Try.func130 #[.agg #[aV, aQ, aW, aX, bA, bD, bG, bH]] ?_; (with_reducible refine (impl_InOk.calls aV aQ aW aX bA bD bG bH true _ A4.out).mono ?_); rintro e iT ⟨rfl, hb⟩; refine ⟨_, rfl, ?_⟩; replace aE := aM (kB (kr (Kd.R_mono (kF (p := ⟨aN, 1, none⟩) (kF (p := ⟨aN, 0, none⟩) (Kd.R_types aE.out aG.out (by decide)) (fun _ hk => hk.2) (.int .i64 aJ)) (fun _ hk => hk.2) (.slice cC aH.length cD)) (fun _ h_ => h_.1))) hb); replace aA := aM (bB (fm aA.out) hb); replace aC := aM (bB (fm aC.out) hb); replace aD := aM (bB (fm aD.out) hb); replace aG := aM (bB (g := aN) (o := .cells #[aJ, .slice cC aH.length cD] 28 (0, 0)) (bm aG.out) hb); replace HB := rS HB hb; (try clear hb); have gX := cA8 aC.out; have gY := cA2 aA.out) | (go_at_call 45; (with_reducible refine (impl_BridgeOk.calls k aT _ _ aI true _ ?side1 ?side2 dL.out).mono ?_); (case side1 => exact cM (cB bZ.out HB.out)); (case side2 => exact cA.out); rintro e iU ⟨rfl, hb⟩; replace aE := aM (kB (kr aE.out) hb); replace aA := rB aA hb; replace aC := rB aC hb; replace aD := rB aD hb; replace aG := rB aG hb; replace HB := rS HB hb; (try clear hb); have gZ := cA8 aC.out; have hD := cA2 aG.out) | ((with_reducible refine gC (f := 131) rfl ?_); refine gL (some 28) Try.func131 #[.pointer (some ⟨aN, 0, none⟩), .agg #[aV, aQ, aW, aX, bA, bD, bG, bH]] ?_; (with_reducible refine (impl_Bridge_react.calls (gb := aN) (hBK := (bk aG.out)) (hgb := ?hgb) k aJ (fun k_ => some k_ = (.slice cC aH.length cD : Value).ownBlock) (.slice cC aH.length cD) aH aV aQ aW aX bA bD bG bH dR dS w _ ?side1 ?side2 dV.out).mono ?_); (case hgb => exact (fun hs_ => (fun e_ => (Kd.R_ne aE.out aG.out (by decide)) e_) hs_)); (case side1 => exact bl HB.out); (case side2 => exact Kd.R_tight rfl aE.out); rintro e iV ⟨hX, rfl, ho0, dM, hb, hkp⟩; refine ⟨_, rfl, ?_⟩; have dG := aM (Kd.R_mono (ok' := fun k_ => True) ho0 (fun k_ hk_ => trivial)); replace aA := aM (blk_kept (bk aA.out) hkp (fun hs_ => (fun e_ => (Kd.R_ne aE.out aA.out (by decide)) e_) hs_)); replace aC := aM (blk_kept (bk aC.out) hkp (fun hs_ => (fun e_ => (Kd.R_ne aE.out aC.out (by decide)) e_) hs_)); replace aD := aM (blk_kept (bk aD.out) hkp (fun hs_ => (fun e_ => (Kd.R_ne aE.out aD.out (by decide)) e_) hs_)); replace aG := aM (blk_kept (bk aG.out) hkp (fun hs_ => (fun e_ => (Kd.R_ne aE.out aG.out (by decide)) e_) hs_)); replace aE := aM (Kd.R_reok rfl dM (fun k_ e_ => aE.out.1 k_ e_)); replace HB := aM (hb); (repeat first|clear hb|clear hkp|clear ho0|clear dM); have hH := cA2 aG.out; have hJ := cA2 aD.out))
 refine bodyPost_ret (results_ct rfl _ _ aK 28 #[aJ, .slice cC aH.length cD] (0, 0) _ rfl (bm aD.out) Try.underlying28 rfl (by kernel_rfl)) rfl ?_
 exact ⟨_, _, xW, by (with_reducible repeat (first | apply Kd.R_alloc | apply Kd.R_drewN | apply Kd.R_drew)); exact Kd.R_mono (kF (p := ⟨aK, 1, none⟩) (kF (p := ⟨aK, 0, none⟩) (Kd.R_types aE.out aD.out (by decide)) (fun _ hk => hk.2) (.int .i64 aJ)) (fun _ hk => hk.2) (.slice cC aH.length cD)) (fun _ hk => trivial), by (with_reducible repeat (first | apply Kd.R_alloc | apply Kd.R_drewN | apply Kd.R_drew)); exact Kd.R_mono (kF (p := ⟨aK, 1, none⟩) (kF (p := ⟨aK, 0, none⟩) (Kd.R_types dG.out aD.out (by decide)) (fun _ hk => hk.2) (.int .i64 aJ)) (fun _ hk => hk.2) (.slice cC aH.length cD)) (fun _ hk => trivial), bl HB.out⟩

mutual
def laws_FnWaits.l0 : Nat → List Bool → Int → Int → List (S79) → Option (Bool)
 | 0, _, _, _, _ => none
 | k + 1, x5, x6, aC, aA => if x6 < (aA.length : Int) then (if 0 ≤ x6 then (if x5.length < 140737488355328 then (laws_FnWaits.l0 k (x5 ++ [(((rd_T79 aA x6).f5) == 3)]) (wrap64 (x6 + 1)) aC aA) else (none)) else (none)) else (laws_FnWaits.l1 k x5 1 aC aA)
def laws_FnWaits.l1 : Nat → List Bool → Int → Int → List (S79) → Option (Bool)
 | 0, _, _, _, _ => none
 | k + 1, x5, x7, aA, aC => if x7 ≤ 4 then (laws_FnWaits.l2 k x5 x7 0 aA aC) else (some true)
def laws_FnWaits.l2 : Nat → List Bool → Int → Int → Int → List (S79) → Option (Bool)
 | 0, _, _, _, _, _ => none
 | k + 1, x5, x7, x8, aC, aA => if x8 < (aA.length : Int) then (if 0 ≤ x8 then (if x8 < (x5.length : Int) then (if rdOf false x5 x8 = true then (if (rd_T79 aA x8).f7 = true then (some false) else (laws_FnWaits.l2 k x5 x7 (wrap64 (x8 + 1)) aC aA)) else (laws_FnWaits.l2 k x5 x7 (wrap64 (x8 + 1)) aC aA)) else (none)) else (none)) else ((impl_React.f k aC aA 2 0 0 0 0 0 0 false).bind fun aD => (laws_FnWaits.l1 k x5 (wrap64 (x7 + 1)) aD.1 aD.2.1))
end
def laws_FnWaits.f (k : Nat) (l0 : List Int) : Option (Bool) := (laws_big.f l0).bind fun aD => (if aD = true then (some true) else ((spec_DrawDecide.f k l0).bind fun aA => ((impl_Decide.f k aA.1 aA.2).bind fun aC => ((impl_BridgeOk.f k aA.1 aA.2).bind fun aE => (if aE = true then (laws_FnWaits.l0 k (([] : List Bool)) 0 aC.1 aC.2) else ((impl_BridgeOk.f k aA.1 aA.2).bind fun aG => ((spec_BridgeOk.f k aA.1 aA.2).bind fun aH => (some (aG == aH)))))))))
theorem laws_FnWaits.mono_l : ∀ k, (∀ y0 y1 y2 y3, LeO (laws_FnWaits.l0 k y0 y1 y2 y3) (laws_FnWaits.l0 (k + 1) y0 y1 y2 y3)) ∧ (∀ y0 y1 y2 y3, LeO (laws_FnWaits.l1 k y0 y1 y2 y3) (laws_FnWaits.l1 (k + 1) y0 y1 y2 y3)) ∧ (∀ y0 y1 y2 y3 y4, LeO (laws_FnWaits.l2 k y0 y1 y2 y3 y4) (laws_FnWaits.l2 (k + 1) y0 y1 y2 y3 y4))
 | 0 => by refine ⟨?_, ?_, ?_⟩ <;> intros <;> intro r h <;> simp [laws_FnWaits.l0, laws_FnWaits.l1, laws_FnWaits.l2] at h
 | k + 1 => by
  obtain ⟨ih0, ih1, ih2⟩ := laws_FnWaits.mono_l k
  refine ⟨?_, ?_, ?_⟩
  ·intro y0 y1 y2 y3
   unfold laws_FnWaits.l0
   repeat' first|(with_reducible first|apply ih0|apply ih1|apply ih2|apply impl_BridgeOk.mono|apply impl_Decide.mono|apply impl_React.mono|apply spec_BridgeOk.mono|apply spec_DrawDecide.mono|exact lR _|exact lN _|refine lI ?_ ?_|refine lB ?_ fun _ => ?_)|exact lN _|refine lI ?_ ?_|refine lB ?_ fun _ => ?_
  ·intro y0 y1 y2 y3
   unfold laws_FnWaits.l1
   repeat' first|(with_reducible first|apply ih0|apply ih1|apply ih2|apply impl_BridgeOk.mono|apply impl_Decide.mono|apply impl_React.mono|apply spec_BridgeOk.mono|apply spec_DrawDecide.mono|exact lR _|exact lN _|refine lI ?_ ?_|refine lB ?_ fun _ => ?_)|exact lN _|refine lI ?_ ?_|refine lB ?_ fun _ => ?_
  ·intro y0 y1 y2 y3 y4
   unfold laws_FnWaits.l2
   repeat' first|(with_reducible first|apply ih0|apply ih1|apply ih2|apply impl_BridgeOk.mono|apply impl_Decide.mono|apply impl_React.mono|apply spec_BridgeOk.mono|apply spec_DrawDecide.mono|exact lR _|exact lN _|refine lI ?_ ?_|refine lB ?_ fun _ => ?_)|exact lN _|refine lI ?_ ?_|refine lB ?_ fun _ => ?_
theorem laws_FnWaits.mono : ∀ a0 k, LeO (laws_FnWaits.f k a0) (laws_FnWaits.f (k + 1) a0) := by
 intro a0 k
 obtain ⟨ih0, ih1, ih2⟩ := laws_FnWaits.mono_l k
 unfold laws_FnWaits.f
 repeat' first|(with_reducible first|apply ih0|apply ih1|apply ih2|apply impl_BridgeOk.mono|apply impl_Decide.mono|apply impl_React.mono|apply spec_BridgeOk.mono|apply spec_DrawDecide.mono|exact lR _|exact lN _|refine lI ?_ ?_|refine lB ?_ fun _ => ?_)|exact lN _|refine lI ?_ ?_|refine lB ?_ fun _ => ?_
set_option maxHeartbeats 60000000 in
set_option maxRecDepth 100000 in
theorem laws_FnWaits.calls (k : Nat) (A0 : Option Addr) (c0 : Nat) (l0 : List Int) (r : Bool) (w : World) (hr0 : Kd.C (Kd.int .u8) w A0 l0.length l0) (hc0 : l0.length ≤ c0) (h : laws_FnWaits.f k l0 = some r) :
  Calls Try.prog 9 #[.slice A0 l0.length c0] w fun e w' => e = .returned (.bool r) ∧ Below w.heap.size w w' := by
 have iQ := Try.underlying28
 have iR := Try.underlying89
 have dD := aM hr0
 have dE := aM hc0
 clear hr0 hc0
 have HB := aM (Below.refl w.heap.size w)
 have H : ((laws_big.f l0).bind fun dF => (if dF = true then (some true) else ((spec_DrawDecide.f k l0).bind fun bV => ((impl_Decide.f k bV.1 bV.2).bind fun dK => ((impl_BridgeOk.f k bV.1 bV.2).bind fun dG => (if dG = true then (laws_FnWaits.l0 k (([] : List Bool)) 0 dK.1 dK.2) else ((impl_BridgeOk.f k bV.1 bV.2).bind fun dH => ((spec_BridgeOk.f k bV.1 bV.2).bind fun dI => (some (dH == dI)))))))))) = some r := h
 clear h
 obtain ⟨dF, eR, H⟩ := hB H
 have A2 := aM eR
 clear eR
 by_cases c3 : dF = true
 case pos =>
  subst c3
  replace H := hP H rfl
  obtain rfl := Option.some.inj H
  go_enter Try.func9, Try.ntmps9
  go_wp2_with (first | ((with_reducible refine gC (f := 26) rfl ?_); refine gL (some 10) Try.func26 #[.slice A0 l0.length c0] ?_; (with_reducible refine (laws_big.calls _ _ l0 true _ ?side1 ?side2 A2.out).mono ?_); (case side1 => repeat (first | exact dD.out | (with_reducible refine Kd.C_alloc ?_ _) | (with_reducible refine Kd.C_drewN ?_ _) | (with_reducible refine Kd.C_drew ?_))); (case side2 => exact dE.out); rintro e w' ⟨rfl, ⟨nd, rfl⟩⟩; refine ⟨_, rfl, ?_⟩))
  go_ret
  exact ⟨xW, bl HB.out⟩
 replace c3 := Bool.eq_false_iff.mpr c3
 subst c3
 replace H := hF H
 obtain ⟨⟨aQ, aG⟩, eS, H⟩ := hB H
 try dsimp only at H
 have A4 := aM eS
 clear eS
 obtain ⟨⟨bK, aT⟩, eT, H⟩ := hB H
 try dsimp only at H
 have A5 := aM eT
 clear eT
 obtain ⟨dG, eU, H⟩ := hB H
 have A6 := aM eU
 clear eU
 by_cases c7 : dG = true
 case neg =>
  replace c7 := Bool.eq_false_iff.mpr c7
  subst c7
  replace H := hF H
  obtain ⟨dH, eB, H⟩ := hB H
  have gH := aM eB
  clear eB
  obtain ⟨dI, eC, H⟩ := hB H
  have gJ := aM eC
  clear eC
  obtain rfl := Option.some.inj H
  go_enter Try.func9, Try.ntmps9
  try go_wp2_with (first | ((with_reducible refine gC (f := 26) rfl ?_); refine gL (some 10) Try.func26 #[.slice A0 l0.length c0] ?_; (with_reducible refine (laws_big.calls _ _ l0 false _ ?side1 ?side2 A2.out).mono ?_); (case side1 => repeat (first | exact dD.out | (with_reducible refine Kd.C_alloc ?_ _) | (with_reducible refine Kd.C_drewN ?_ _) | (with_reducible refine Kd.C_drew ?_))); (case side2 => exact dE.out); rintro e w' ⟨rfl, ⟨nd, rfl⟩⟩; refine ⟨_, rfl, ?_⟩) | ((with_reducible refine gC (f := 38) rfl ?_); refine gL (some 12) Try.func38 #[.slice A0 l0.length c0] ?_; (with_reducible refine (spec_DrawDecide.calls k _ _ l0 aQ aG _ ?side1 ?side2 A4.out).mono ?_); (case side1 => repeat (first | exact dD.out | (with_reducible refine Kd.C_alloc ?_ _) | (with_reducible refine Kd.C_drewN ?_ _) | (with_reducible refine Kd.C_drew ?_))); (case side2 => exact dE.out); rintro e jI ⟨eX, rfl, ho0, hb⟩; refine ⟨_, rfl, ?_⟩; have aC := aM (Kd.R_lower ho0 (below_size (bl HB.out))); replace HB := rS HB hb; (repeat first|clear hb|clear ho0)) | ((with_reducible refine gD (N := 3) rfl ?_); refine box_event ?hg (N := 3) ?hd (cs := #[.int .i64 0, .slice none 0 0]) (t := 28) ?hr ?_; (case hd => rfl); (case hg => rfl); (case hr => first | (go_simp; done) | (go_simp; rfl) | (obtain ⟨A_, c_, e_⟩ := Kd.R_slice aC.out; subst e_; (first | (go_simp; done) | (go_simp; rfl))) | (obtain ⟨A_, c_, e_⟩ := Kd.S_slice aC.out; subst e_; (first | (go_simp; done) | (go_simp; rfl))) | (obtain ⟨A_, c_, e_⟩ := Kd.R_slice aH.out; subst e_; (first | (go_simp; done) | (go_simp; rfl))) | (obtain ⟨A_, c_, e_⟩ := Kd.S_slice aH.out; subst e_; (first | (go_simp; done) | (go_simp; rfl)))); intro aV hg jJ hbox hb; have aA := aM (hbox); have eI := gF hg HB; have eJ := gF hg HB; replace aC := aM (kB (kr aC.out) hb); replace HB := rS HB hb; clear hb hbox hg; have gR := cA2 aA.out; obtain ⟨bY, bP, eY⟩ := Kd.R_slice aC.out; subst eY) | ((with_reducible refine gC (f := 15) rfl ?_); refine gL (some 14) Try.func15 #[.agg #[aQ, .slice bY aG.length bP]] ?_; (with_reducible refine (impl_Decide.calls k aQ _ _ aG bK aT _ ?side1 ?side2 A5.out).mono ?_); (case side1 => refine (Kd.R_reads' (e := 79) (base := w.heap.size) (ok := fun k_ => True) (n := aG.length) (c := bP) ?_).2.2; exact (kr (Kd.R_mono (kF (p := ⟨aV, 1, none⟩) (kF (p := ⟨aV, 0, none⟩) (Kd.R_types aC.out aA.out (by decide)) (fun _ hk => hk.2) (.int .i64 aQ)) (fun _ hk => hk.2) (.slice bY aG.length bP)) (fun _ h_ => h_.1)))); (case side2 => exact (Kd.R_reads' aC.out).2.1); rintro e jK ⟨eZ, rfl, ho0, hb⟩; refine ⟨_, rfl, ?_⟩; have aH := aM (Kd.R_lower (Kd.R_new' ho0 (Kd.R_lt (kr (Kd.R_mono (kF (p := ⟨aV, 1, none⟩) (kF (p := ⟨aV, 0, none⟩) (Kd.R_types aC.out aA.out (by decide)) (fun _ hk => hk.2) (.int .i64 aQ)) (fun _ hk => hk.2) (.slice bY aG.length bP)) (fun _ h_ => h_.1))))) (below_size (bl HB.out))); replace aC := aM (Kd.R_elder' (kr (Kd.R_mono (kF (p := ⟨aV, 1, none⟩) (kF (p := ⟨aV, 0, none⟩) (Kd.R_types aC.out aA.out (by decide)) (fun _ hk => hk.2) (.int .i64 aQ)) (fun _ hk => hk.2) (.slice bY aG.length bP)) (fun _ h_ => h_.1))) (Kd.R_base ho0) hb); replace aA := aM (bB (g := aV) (o := .cells #[aQ, .slice bY aG.length bP] 28 (0, 0)) (bm aA.out) hb); replace HB := rS HB hb; (repeat first|clear hb|clear ho0)) | ((with_reducible refine gD (N := 4) rfl ?_); refine box_event ?hg (N := 4) ?hd (cs := #[.int .i64 0, .slice none 0 0]) (t := 28) ?hr ?_; (case hd => rfl); (case hg => rfl); (case hr => first | (go_simp; done) | (go_simp; rfl) | (obtain ⟨A_, c_, e_⟩ := Kd.R_slice aC.out; subst e_; (first | (go_simp; done) | (go_simp; rfl))) | (obtain ⟨A_, c_, e_⟩ := Kd.S_slice aC.out; subst e_; (first | (go_simp; done) | (go_simp; rfl))) | (obtain ⟨A_, c_, e_⟩ := Kd.R_slice aH.out; subst e_; (first | (go_simp; done) | (go_simp; rfl))) | (obtain ⟨A_, c_, e_⟩ := Kd.S_slice aH.out; subst e_; (first | (go_simp; done) | (go_simp; rfl)))); intro aK hg jL hbox hb; have aD := aM (hbox); have eK := gF hg HB; have eL := gF hg HB; have aX := nM hg aA; have bA := nH hg aA; replace aC := aM (kB (kr aC.out) hb); replace aH := aM (kB (kr aH.out) hb); replace aA := rB aA hb; replace HB := rS HB hb; clear hb hbox hg; have gS := bA.out; have gT := aX.out; have gU := cA2 aD.out; obtain ⟨cO, cP, fA⟩ := Kd.R_slice aH.out; subst fA; have gV := cA2 aA.out) | ((with_reducible refine gC (f := 45) rfl ?_); refine gL (some 16) Try.func45 #[.agg #[aQ, .slice bY aG.length bP]] ?_; (with_reducible refine (impl_BridgeOk.calls k aQ _ _ aG false _ ?side1 ?side2 A6.out).mono ?_); (case side1 => refine (Kd.R_reads' (e := 79) (base := w.heap.size) (ok := fun k_ => (True ∧ some k_ ≠ (.slice cO aT.length cP : Value).ownBlock)) (n := aG.length) (c := bP) ?_).2.2; exact (kr (Kd.R_mono (kF (p := ⟨aK, 1, none⟩) (kF (p := ⟨aK, 0, none⟩) (Kd.R_types aC.out aD.out (by decide)) (fun _ hk => hk.2) (.int .i64 bK)) (fun _ hk => hk.2) (.slice cO aT.length cP)) (fun _ h_ => h_.1)))); (case side2 => exact (Kd.R_reads' aC.out).2.1); rintro e gK ⟨rfl, hb⟩; refine ⟨_, rfl, ?_⟩; replace aC := aM (kB (kr (Kd.R_mono (kF (p := ⟨aK, 1, none⟩) (kF (p := ⟨aK, 0, none⟩) (Kd.R_types aC.out aD.out (by decide)) (fun _ hk => hk.2) (.int .i64 bK)) (fun _ hk => hk.2) (.slice cO aT.length cP)) (fun _ h_ => h_.1))) hb); replace aH := aM (kB (kr (Kd.R_mono (kF (p := ⟨aK, 1, none⟩) (kF (p := ⟨aK, 0, none⟩) (Kd.R_types aH.out aD.out (by decide)) (fun _ hk => hk.2) (.int .i64 bK)) (fun _ hk => hk.2) (.slice cO aT.length cP)) (fun _ h_ => h_.1))) hb); replace aA := aM (bB (fm aA.out) hb); replace aD := aM (bB (g := aK) (o := .cells #[bK, .slice cO aT.length cP] 28 (0, 0)) (bm aD.out) hb); replace HB := rS HB hb; (try clear hb)))
  replace aC := aM (Kd.R_drew aC.out)
  replace aH := aM (Kd.R_drew aH.out)
  replace aA := aM (blk_drew aA.out)
  replace aD := aM (blk_drew aD.out)
  replace HB := aM (below_drew1 HB.out)
  refine start_ (n := 6) (S := fun w' => cS2 w' aV (.int .i64 aQ) (.slice bY aG.length bP)) (ds := []) (dn 6 0) (by kernel_rfl) rfl rfl ⟨cI aA.out 0, cI aA.out 1⟩ (fun hHeld => ?_)
  generalize gK.drew = jM at aC aH aA aD HB hHeld ⊢
  refine take_ (i := 0) (N := some 18) (v := ?_) (a' := ?_) (bv 6 1) rfl rfl (by kernel_rfl) (fun _ _ _ h => h) (Or.inl ⟨by rfl, ?_⟩) hHeld ?_ ?_
  rotate_left
  ·rintro w' ⟨s0, s1⟩
   go_simp
   with_reducible rfl
  rotate_left
  ·simp only [Act.put, sA, sZ, sS, i64_w, i32_w]
   rfl
  refine take_ (i := 2) (N := some 20) (v := ?_) (a' := ?_) (bv 6 5) rfl rfl (by kernel_rfl) (fun _ _ _ h => h) (Or.inl ⟨by rfl, ?_⟩) hHeld ?_ ?_
  rotate_left
  ·rintro w' ⟨s0, s1⟩
   go_simp
   with_reducible rfl
  rotate_left
  ·simp only [Act.put, sA, sZ, sS, i64_w, i32_w]
   rfl
  refine one_ (i := 1) (N := some 19) (bv 6 7) rfl rfl (by kernel_rfl) (by decide) (fun K hK => ?_)
  refine goes_ Try.func45 (by kernel_rfl) rfl #[.agg #[aQ, .slice bY aG.length bP]] (by rfl) rfl rfl xR ?_
  with_reducible refine (impl_BridgeOk.calls k aQ _ _ aG dH _ ?side1 ?side2 gH.out).mono ?_
  (case side1 => repeat (first | exact (Kd.R_reads' aC.out).2.2 | (with_reducible refine Kd.C_alloc ?_ _) | (with_reducible refine Kd.C_drewN ?_ _) | (with_reducible refine Kd.C_drew ?_)))
  (case side2 => exact (Kd.R_reads' aC.out).2.1)
  rintro e jN ⟨rfl, hb⟩
  refine ⟨_, rfl, ?_⟩
  replace aC := aM (kB (kr aC.out) hb)
  replace aH := aM (kB (kr aH.out) hb)
  replace aA := rB aA hb
  replace aD := rB aD hb
  replace HB := rS HB hb
  (try clear hb)
  (try clear hb2)
  (try clear hk)
  (try clear hi)
  refine hK.out _ _ ⟨cI aA.out 0, cI aA.out 1⟩ (fun hHeld => ?_)
  clear hK K
  refine norm_ (a' := ?_) ?_ ?_
  rotate_left
  ·show Act.put _ (some 19) _ = _
   simp only [Act.put, sA, sZ, sS, i64_w, i32_w]
   rfl
  refine one_ (i := 3) (N := some 21) (bv 6 15) rfl rfl (by kernel_rfl) (by decide) (fun K hK => ?_)
  refine goes_ Try.func46 (by kernel_rfl) rfl #[.agg #[aQ, .slice bY aG.length bP]] (by rfl) rfl rfl xR ?_
  with_reducible refine (spec_BridgeOk.calls k aQ _ _ aG dI _ ?side1 ?side2 gJ.out).mono ?_
  (case side1 => repeat (first | exact (Kd.R_reads' aC.out).2.2 | (with_reducible refine Kd.C_alloc ?_ _) | (with_reducible refine Kd.C_drewN ?_ _) | (with_reducible refine Kd.C_drew ?_)))
  (case side2 => exact (Kd.R_reads' aC.out).2.1)
  rintro e jO ⟨rfl, hb⟩
  refine ⟨_, rfl, ?_⟩
  replace aC := aM (kB (kr aC.out) hb)
  replace aH := aM (kB (kr aH.out) hb)
  replace aA := rB aA hb
  replace aD := rB aD hb
  replace HB := rS HB hb
  (try clear hb)
  (try clear hb2)
  (try clear hk)
  (try clear hi)
  refine hK.out _ _ ⟨cI aA.out 0, cI aA.out 1⟩ (fun hHeld => ?_)
  clear hK K
  refine norm_ (a' := ?_) ?_ ?_
  rotate_left
  ·show Act.put _ (some 21) _ = _
   simp only [Act.put, sA, sZ, sS, i64_w, i32_w]
   rfl
  refine pure_ (i := 4) (N := some 22) (v := ?_) (a' := ?_) (bv 6 31) rfl rfl (by kernel_rfl) (fun _ _ _ h => h) (Or.inl ⟨by rfl, ?_⟩) ?_ ?_
  rotate_left
  ·intro w'
   go_simp
   with_reducible rfl
  rotate_left
  ·simp only [Act.put, sA, sZ, sS, i64_w, i32_w]
   rfl
  refine pure_ (i := 5) (N := some 2) (v := ?_) (a' := ?_) (bv 6 63) rfl rfl (by kernel_rfl) (fun _ _ _ h => h) (Or.inl ⟨by rfl, ?_⟩) ?_ ?_
  rotate_left
  ·intro w'
   go_simp
   with_reducible rfl
  rotate_left
  ·simp only [Act.put, sA, sZ, sS, i64_w, i32_w]
   rfl
  refine done_ (by kernel_rfl) ?_
  try go_wp2
  go_ret
  exact ⟨xW, bl HB.out⟩
 subst c7
 replace H := hP H rfl
 obtain ⟨eD, cG⟩ : ∃ y_ : List Bool, y_ = (([] : List Bool)) := ⟨_, rfl⟩
 replace H : (laws_FnWaits.l0 k eD 0 bK aT) = some r := by first | (rw [cG]; with_reducible exact H) | (have H2_ := (Option.bind_some _ _).symm.trans H; rw [cG]; with_reducible exact H2_) | (have H2_ := (Option.bind_some _ _).symm.trans H; with_reducible exact H2_) | with_reducible exact H | (rw [cG]; exact H) | exact H
 have dL := aM cG
 clear cG
 have H' := aM H
 clear H
 go_enter Try.func9, Try.ntmps9
 go_wp2_with (first | ((with_reducible refine gC (f := 26) rfl ?_); refine gL (some 10) Try.func26 #[.slice A0 l0.length c0] ?_; (with_reducible refine (laws_big.calls _ _ l0 false _ ?side1 ?side2 A2.out).mono ?_); (case side1 => repeat (first | exact dD.out | (with_reducible refine Kd.C_alloc ?_ _) | (with_reducible refine Kd.C_drewN ?_ _) | (with_reducible refine Kd.C_drew ?_))); (case side2 => exact dE.out); rintro e w' ⟨rfl, ⟨nd, rfl⟩⟩; refine ⟨_, rfl, ?_⟩) | ((with_reducible refine gC (f := 38) rfl ?_); refine gL (some 12) Try.func38 #[.slice A0 l0.length c0] ?_; (with_reducible refine (spec_DrawDecide.calls k _ _ l0 aQ aG _ ?side1 ?side2 A4.out).mono ?_); (case side1 => repeat (first | exact dD.out | (with_reducible refine Kd.C_alloc ?_ _) | (with_reducible refine Kd.C_drewN ?_ _) | (with_reducible refine Kd.C_drew ?_))); (case side2 => exact dE.out); rintro e w8 ⟨eX, rfl, ho0, hb⟩; refine ⟨_, rfl, ?_⟩; have aC := aM (Kd.R_lower ho0 (below_size (bl HB.out))); replace HB := rS HB hb; (repeat first|clear hb|clear ho0)) | ((with_reducible refine gD (N := 3) rfl ?_); refine box_event ?hg (N := 3) ?hd (cs := #[.int .i64 0, .slice none 0 0]) (t := 28) ?hr ?_; (case hd => rfl); (case hg => rfl); (case hr => first | (go_simp; done) | (go_simp; rfl) | (obtain ⟨A_, c_, e_⟩ := Kd.R_slice aC.out; subst e_; (first | (go_simp; done) | (go_simp; rfl))) | (obtain ⟨A_, c_, e_⟩ := Kd.S_slice aC.out; subst e_; (first | (go_simp; done) | (go_simp; rfl))) | (obtain ⟨A_, c_, e_⟩ := Kd.R_slice aH.out; subst e_; (first | (go_simp; done) | (go_simp; rfl))) | (obtain ⟨A_, c_, e_⟩ := Kd.S_slice aH.out; subst e_; (first | (go_simp; done) | (go_simp; rfl)))); intro aV hg w9 hbox hb; have aA := aM (hbox); have eI := gF hg HB; have eJ := gF hg HB; replace aC := aM (kB (kr aC.out) hb); replace HB := rS HB hb; clear hb hbox hg; have gW := cA2 aA.out; obtain ⟨bL, bG, fB⟩ := Kd.R_slice aC.out; subst fB) | ((with_reducible refine gC (f := 15) rfl ?_); refine gL (some 14) Try.func15 #[.agg #[aQ, .slice bL aG.length bG]] ?_; (with_reducible refine (impl_Decide.calls k aQ _ _ aG bK aT _ ?side1 ?side2 A5.out).mono ?_); (case side1 => refine (Kd.R_reads' (e := 79) (base := w.heap.size) (ok := fun k_ => True) (n := aG.length) (c := bG) ?_).2.2; exact (kr (Kd.R_mono (kF (p := ⟨aV, 1, none⟩) (kF (p := ⟨aV, 0, none⟩) (Kd.R_types aC.out aA.out (by decide)) (fun _ hk => hk.2) (.int .i64 aQ)) (fun _ hk => hk.2) (.slice bL aG.length bG)) (fun _ h_ => h_.1)))); (case side2 => exact (Kd.R_reads' aC.out).2.1); rintro e jP ⟨eZ, rfl, ho0, hb⟩; refine ⟨_, rfl, ?_⟩; have aH := aM (Kd.R_lower (Kd.R_new' ho0 (Kd.R_lt (kr (Kd.R_mono (kF (p := ⟨aV, 1, none⟩) (kF (p := ⟨aV, 0, none⟩) (Kd.R_types aC.out aA.out (by decide)) (fun _ hk => hk.2) (.int .i64 aQ)) (fun _ hk => hk.2) (.slice bL aG.length bG)) (fun _ h_ => h_.1))))) (below_size (bl HB.out))); replace aC := aM (Kd.R_elder' (kr (Kd.R_mono (kF (p := ⟨aV, 1, none⟩) (kF (p := ⟨aV, 0, none⟩) (Kd.R_types aC.out aA.out (by decide)) (fun _ hk => hk.2) (.int .i64 aQ)) (fun _ hk => hk.2) (.slice bL aG.length bG)) (fun _ h_ => h_.1))) (Kd.R_base ho0) hb); replace aA := aM (bB (g := aV) (o := .cells #[aQ, .slice bL aG.length bG] 28 (0, 0)) (bm aA.out) hb); replace HB := rS HB hb; (repeat first|clear hb|clear ho0)) | ((with_reducible refine gD (N := 4) rfl ?_); refine box_event ?hg (N := 4) ?hd (cs := #[.int .i64 0, .slice none 0 0]) (t := 28) ?hr ?_; (case hd => rfl); (case hg => rfl); (case hr => first | (go_simp; done) | (go_simp; rfl) | (obtain ⟨A_, c_, e_⟩ := Kd.R_slice aC.out; subst e_; (first | (go_simp; done) | (go_simp; rfl))) | (obtain ⟨A_, c_, e_⟩ := Kd.S_slice aC.out; subst e_; (first | (go_simp; done) | (go_simp; rfl))) | (obtain ⟨A_, c_, e_⟩ := Kd.R_slice aH.out; subst e_; (first | (go_simp; done) | (go_simp; rfl))) | (obtain ⟨A_, c_, e_⟩ := Kd.S_slice aH.out; subst e_; (first | (go_simp; done) | (go_simp; rfl)))); intro aK hg jQ hbox hb; have aD := aM (hbox); have eK := gF hg HB; have eL := gF hg HB; have aX := nM hg aA; have bA := nH hg aA; replace aC := aM (kB (kr aC.out) hb); replace aH := aM (kB (kr aH.out) hb); replace aA := rB aA hb; replace HB := rS HB hb; clear hb hbox hg; have gX := bA.out; have gY := aX.out; have gZ := cA2 aD.out; obtain ⟨bZ, cA, fC⟩ := Kd.R_slice aH.out; subst fC; have hD := cA2 aA.out) | ((with_reducible refine gC (f := 45) rfl ?_); refine gL (some 16) Try.func45 #[.agg #[aQ, .slice bL aG.length bG]] ?_; (with_reducible refine (impl_BridgeOk.calls k aQ _ _ aG true _ ?side1 ?side2 A6.out).mono ?_); (case side1 => refine (Kd.R_reads' (e := 79) (base := w.heap.size) (ok := fun k_ => (True ∧ some k_ ≠ (.slice bZ aT.length cA : Value).ownBlock)) (n := aG.length) (c := bG) ?_).2.2; exact (kr (Kd.R_mono (kF (p := ⟨aK, 1, none⟩) (kF (p := ⟨aK, 0, none⟩) (Kd.R_types aC.out aD.out (by decide)) (fun _ hk => hk.2) (.int .i64 bK)) (fun _ hk => hk.2) (.slice bZ aT.length cA)) (fun _ h_ => h_.1)))); (case side2 => exact (Kd.R_reads' aC.out).2.1); rintro e jR ⟨rfl, hb⟩; refine ⟨_, rfl, ?_⟩; replace aC := aM (kB (kr (Kd.R_mono (kF (p := ⟨aK, 1, none⟩) (kF (p := ⟨aK, 0, none⟩) (Kd.R_types aC.out aD.out (by decide)) (fun _ hk => hk.2) (.int .i64 bK)) (fun _ hk => hk.2) (.slice bZ aT.length cA)) (fun _ h_ => h_.1))) hb); replace aH := aM (kB (kr (Kd.R_mono (kF (p := ⟨aK, 1, none⟩) (kF (p := ⟨aK, 0, none⟩) (Kd.R_types aH.out aD.out (by decide)) (fun _ hk => hk.2) (.int .i64 bK)) (fun _ hk => hk.2) (.slice bZ aT.length cA)) (fun _ h_ => h_.1))) hb); replace aA := aM (bB (fm aA.out) hb); replace aD := aM (bB (g := aK) (o := .cells #[bK, .slice bZ aT.length cA] 28 (0, 0)) (bm aD.out) hb); replace HB := rS HB hb; (try clear hb)) | ((with_reducible refine gD (N := 23) rfl ?_); refine Kd.R_lit Kd.bool _ 4 ?hg (N := 23) ?hd (xs := ([] : List Bool)) (inner := []) (ok := fun _ => True) (okp := fun _ => True) ?hr ?hp (fun _ hk => hk) trivial (Below.refl _ _) (Nat.le_refl _) (by simp) ?_; (case hd => rfl); (case hg => rfl); (case hr => first | (go_simp; done) | (go_simp; rfl) | (obtain ⟨A_, c_, e_⟩ := Kd.R_slice aC.out; subst e_; (first | (go_simp; done) | (go_simp; rfl))) | (obtain ⟨A_, c_, e_⟩ := Kd.S_slice aC.out; subst e_; (first | (go_simp; done) | (go_simp; rfl))) | (obtain ⟨A_, c_, e_⟩ := Kd.R_slice aH.out; subst e_; (first | (go_simp; done) | (go_simp; rfl))) | (obtain ⟨A_, c_, e_⟩ := Kd.S_slice aH.out; subst e_; (first | (go_simp; done) | (go_simp; rfl)))); (case hp => exact (Reps.none _ _)); intro iS jS ho20 hb hg_ hnew_; clear hg_ hnew_; (first | rw [← dL.out] at ho20 | (simp only [Int.reduceToNat] at ho20; rw [← dL.out] at ho20)); have eM := aM (Kd.R_lower ho20 (below_size (bl HB.out))); replace aC := aM (kB (kr aC.out) hb); replace aH := aM (kB (kr aH.out) hb); replace aA := rB aA hb; replace aD := rB aD hb; replace HB := rS HB hb; clear hb ho20))
 go_loopg [5, 6] k (fun kq v5 v6 w' => ∃ (bH : List Bool) (bO : Int), v6 = .int .i64 bO ∧ Aside0 (laws_FnWaits.l0 kq bH bO bK aT = some r) ∧ Aside0 (kq ≤ k) ∧ Aside0 (Kd.R Kd.bool 4 w' w.heap.size (fun _ => True) v5 bH) ∧ Aside0 (Kd.R k79 79 w' w.heap.size (fun k_ => some k_ ≠ ((.slice bZ aT.length cA) : Value).ownBlock) (.slice bL aG.length bG) aG) ∧ Aside0 (Kd.R k79 79 w' w.heap.size (fun k_ => some k_ ≠ ((.slice bL aG.length bG) : Value).ownBlock) (.slice bZ aT.length cA) aT) ∧ Aside0 (w'.heap[aV]? = some (.cells #[aQ, (.slice bL aG.length bG)] 28 (0, 0))) ∧ Aside0 (w'.heap[aK]? = some (.cells #[bK, (.slice bZ aT.length cA)] 28 (0, 0))) ∧ Aside0 (Below w.heap.size w w'))
 case atStart => exact ⟨(eD), (0), xE, H', ⟨Nat.le_refl _⟩, ⟨kr eM.out⟩, ⟨kr (Kd.R_mono aC.out (fun _ hk => hk.2))⟩, ⟨kr (Kd.R_mono aH.out (fun _ hk => hk.2))⟩, ⟨bk aA.out⟩, ⟨bk aD.out⟩, ⟨bl HB.out⟩⟩
 case round =>
  clear H'
  repeat first|clear c1|clear c2|clear p2|clear c3|clear c4|clear c7|clear c9|clear eV|clear eW
  obtain ⟨bH, bO, rfl, HA, cL, bD, aJ, aE, aA, aD, HB⟩ := hrel
  cases gk with
  | zero => exact absurd HA.out (by simp [laws_FnWaits.l0])
  | succ k1 =>
   have H := HA.out
   clear HA
   simp only [laws_FnWaits.l0] at H
   by_cases cN : bO < (aT.length : Int)
   case pos =>
    rw [if_pos cN] at H
    have dA := decide_eq_true cN
    clear cN
    obtain ⟨dM, H⟩ := gI H
    by_cases cV : bH.length < 140737488355328
    case neg =>
     rw [if_neg cV] at H
     exact absurd H (by simp)
    rw [if_pos cV] at H
    have LMc23 := aM cV
    clear cV
    obtain ⟨eE, cH⟩ : ∃ y_ : List Bool, y_ = (bH ++ [(((rd_T79 aT bO).f5) == 3)]) := ⟨_, rfl⟩
    replace H : (laws_FnWaits.l0 k1 eE (wrap64 (bO + 1)) bK aT) = some r := by first | (rw [cH]; with_reducible exact H) | (have H2_ := (Option.bind_some _ _).symm.trans H; rw [cH]; with_reducible exact H2_) | (have H2_ := (Option.bind_some _ _).symm.trans H; with_reducible exact H2_) | with_reducible exact H | (rw [cH]; exact H) | exact H
    have eN := aM cH
    clear cH
    have H' := aM H
    clear H
    have hH := bA.out
    have hJ := aX.out
    have hO := cA2 aD.out
    have cQ : 0 ≤ (bO : Int) := dT
    have cR : bO < (aT.length : Int) := dT
    obtain ⟨hU, fD, fS, fT, fU, fV, fW, fX, fY, gA, gB, gG, fE⟩ := at_T79 (Kd.R_reads' aE.out).2.2 bO cQ cR
    cases fD
    replace cQ := eq_true cQ
    replace cR := eq_true cR
    go_wp2_with (first | ((with_reducible refine gate_builtin (b := .append) (xs := #[.tmp 31, .tmp 39]) rfl ?_); at_builtin; refine Kd.R_append Kd.bool (w0 := w) w.heap.size rfl (.tmp 31) (.tmp 39) 34 4 (.bool false) 1 rfl Try.underlying34 info4 rfl (by decide) (by omega) u5 bH (((rd_T79 aT bO).f5) == 3) [.bool (((rd_T79 aT bO).f5) == 3)] (fun _ => True) (fun _ => False) rfl rfl ?aP (fun _ hk => hk.elim) ?aF ?aO ?aB ?aS ?aL ?_; (case aP => exact rfl); (case aB => exact (bl HB.out)); (case aF => exact (fun _ _ => trivial)); (case aO => exact (kr bD.out)); (case aS => exact (below_size (bl HB.out))); (case aL => have := LMc23.out; omega); intro iT jT ho hb hg hat; rw [← eN.out] at ho; have eO := aM (ho); replace aJ := aM (Kd.R_over' (kr aJ.out) (Kd.R_typed (kr bD.out)) (by decide) hg); replace aE := aM (Kd.R_over' (kr aE.out) (Kd.R_typed (kr bD.out)) (by decide) hg); replace aA := aM (blk_grown (bk aA.out) hg (Kd.R_ne bD.out aA.out (by decide))); replace aD := aM (blk_grown (bk aD.out) hg (Kd.R_ne bD.out aD.out (by decide))); replace HB := aM (hb); clear bD; clear ho hb hg hat))
    go_roundg k1
    case measure => have := cL.out; omega
    case rel => (try rw [← bI.out]); (try rw [← bJ.out]); exact ⟨(eE), (wrap64 (bO + 1)), xE, H', ⟨by have := cL.out; omega⟩, ⟨kr eO.out⟩, ⟨kr aJ.out⟩, ⟨kr aE.out⟩, ⟨bk aA.out⟩, ⟨bk aD.out⟩, ⟨bl HB.out⟩⟩
   rw [if_neg cN] at H
   have dA := decide_eq_false cN
   clear cN
   have H' := aM H
   clear H
   have hX := bA.out
   have hY := aX.out
   have hZ := cA2 aD.out
   go_wp2
   go_loopg [7] k1 (fun kq v7 w' => ∃ (cC : Int) (aW : Int) (aI : List (S79)) (bM : Value), v7 = .int .i64 cC ∧ Aside0 (laws_FnWaits.l1 kq bH cC aW aI = some r) ∧ Aside0 (kq ≤ k1) ∧ Aside0 (Kd.R Kd.bool 4 w' w.heap.size (fun _ => True) u5 bH) ∧ Aside0 (Kd.R k79 79 w' w.heap.size (fun k_ => some k_ ≠ (bM : Value).ownBlock) (.slice bL aG.length bG) aG) ∧ Aside0 (Kd.R k79 79 w' w.heap.size (fun k_ => some k_ ≠ ((.slice bL aG.length bG) : Value).ownBlock) bM aI) ∧ Aside0 (w'.heap[aV]? = some (.cells #[aQ, (.slice bL aG.length bG)] 28 (0, 0))) ∧ Aside0 (w'.heap[aK]? = some (.cells #[aW, bM] 28 (0, 0))) ∧ Aside0 (Below w.heap.size w w'))
   case atStart => exact ⟨(1), (bK), (aT), (.slice bZ aT.length cA), xE, H', ⟨Nat.le_refl _⟩, ⟨kr bD.out⟩, ⟨kr aJ.out⟩, ⟨kr aE.out⟩, ⟨bk aA.out⟩, ⟨bk aD.out⟩, ⟨bl HB.out⟩⟩
   case round =>
    clear H'
    repeat first|clear c1|clear c2|clear p2|clear c3|clear c4|clear p6|clear c7|clear c9|clear p9|clear q9|clear eV|clear eW|clear cN|clear dA|clear gM|clear dM|clear cV|clear gN|clear gO|clear gP|clear p2|clear cQ|clear cR
    obtain ⟨cC, aW, aI, bM, rfl, HA, cW, bD, aJ, aE, aA, aD, HB⟩ := hrel
    cases gk with
    | zero => exact absurd HA.out (by simp [laws_FnWaits.l1])
    | succ k2 =>
     have H := HA.out
     clear HA
     simp only [laws_FnWaits.l1] at H
     by_cases cS : cC ≤ 4
     case neg =>
      rw [if_neg cS] at H
      have dN := decide_eq_false cS
      clear cS
      obtain rfl := Option.some.inj H
      go_wp2
      go_ret
      exact ⟨xW, bl HB.out⟩
     rw [if_pos cS] at H
     have dN := decide_eq_true cS
     clear cS
     have H' := aM H
     clear H
     go_wp2
     go_loopg [8] k2 (fun kq v8 w' => ∃ (aN : Int), v8 = .int .i64 aN ∧ Aside0 (laws_FnWaits.l2 kq bH cC aN aW aI = some r) ∧ Aside0 (kq ≤ k2) ∧ Aside0 (Kd.R Kd.bool 4 w' w.heap.size (fun _ => True) u5 bH) ∧ Aside0 (Kd.R k79 79 w' w.heap.size (fun k_ => some k_ ≠ (bM : Value).ownBlock) (.slice bL aG.length bG) aG) ∧ Aside0 (Kd.R k79 79 w' w.heap.size (fun k_ => some k_ ≠ ((.slice bL aG.length bG) : Value).ownBlock) bM aI) ∧ Aside0 (w'.heap[aV]? = some (.cells #[aQ, (.slice bL aG.length bG)] 28 (0, 0))) ∧ Aside0 (w'.heap[aK]? = some (.cells #[aW, bM] 28 (0, 0))) ∧ Aside0 (Below w.heap.size w w'))
     case atStart => exact ⟨(0), xE, H', ⟨Nat.le_refl _⟩, ⟨kr bD.out⟩, ⟨kr aJ.out⟩, ⟨kr aE.out⟩, ⟨bk aA.out⟩, ⟨bk aD.out⟩, ⟨bl HB.out⟩⟩
     case round =>
      clear H'
      repeat first|clear c1|clear c2|clear p2|clear c3|clear c4|clear p6|clear c7|clear c9|clear p9|clear q9|clear eV|clear eW|clear cN|clear dA|clear gM|clear dM|clear cV|clear gN|clear gO|clear gP|clear cS|clear dN|clear p2|clear p6|clear p9|clear cQ|clear q9|clear cR
      obtain ⟨aN, rfl, HA, cX, bD, aJ, aE, aA, aD, HB⟩ := hrel
      cases gk with
      | zero => exact absurd HA.out (by simp [laws_FnWaits.l2])
      | succ k3 =>
       have H := HA.out
       clear HA
       simp only [laws_FnWaits.l2] at H
       by_cases cY : aN < (aI.length : Int)
       case neg =>
        rw [if_neg cY] at H
        have eP := decide_eq_false cY
        clear cY
        obtain ⟨⟨cT, cK, fF⟩, eF, H⟩ := hB H
        try dsimp only at H
        have gQ := aM eF
        clear eF
        have H' := aM H
        clear H
        have iA := bA.out
        have iB := aX.out
        have iC := cA2 aD.out
        obtain ⟨fG, fH, fI⟩ := Kd.R_slice aE.out
        subst fI
        go_wp2_with (first | ((with_reducible refine gC (f := 53) rfl ?_); refine gL (some 67) Try.func53 #[.agg #[aW, .slice fG aI.length fH], .agg #[.int .i64 2, .int .i64 0, .int .i64 0, .int .i64 0, .int .i64 0, .int .i64 0, .int .i64 0, .bool false]] ?_; (with_reducible refine (impl_React.calls k3 aW _ _ aI 2 0 0 0 0 0 0 false cT cK fF _ ?side1 ?side2 gQ.out).mono ?_); (case side1 => repeat (first | exact (Kd.R_reads' aE.out).2.2 | (with_reducible refine Kd.C_alloc ?_ _) | (with_reducible refine Kd.C_drewN ?_ _) | (with_reducible refine Kd.C_drew ?_))); (case side2 => exact (Kd.R_reads' aE.out).2.1); rintro e jU ⟨iU, iV, rfl, ho0, ho1, hb⟩; refine ⟨_, rfl, ?_⟩; have dO := aM (Kd.R_lower (Kd.R_new' (Kd.R_new' ho0 (Kd.R_lt (kr aJ.out))) (Kd.R_lt (kr aE.out))) (below_size (bl HB.out))); have iD := aM (Kd.R_lower ho1 (below_size (bl HB.out))); replace bD := aM (kB (kr bD.out) hb); replace aJ := aM (Kd.R_elder' (kr aJ.out) (Kd.R_base ho0) hb); replace aE := aM (Kd.R_elder' (kr aE.out) (Kd.R_base ho0) hb); replace aA := rB aA hb; replace aD := rB aD hb; replace HB := rS HB hb; (repeat first|clear hb|clear ho0|clear ho1); have iE := cA2 aD.out; obtain ⟨dB, dC, fK⟩ := Kd.R_slice dO.out; subst fK))
        go_roundg k3
        case measure => have := cL.out; have := cW.out; have := cX.out; omega
        case rel => (try rw [← bI.out]); (try rw [← bJ.out]); exact ⟨(wrap64 (cC + 1)), (cT), (cK), (.slice dB cK.length dC), xE, H', ⟨by have := cL.out; have := cW.out; have := cX.out; omega⟩, ⟨kr (Kd.R_mono (kF (p := ⟨aK, 1, none⟩) (kF (p := ⟨aK, 0, none⟩) (Kd.R_types bD.out aD.out (by decide)) (fun _ hk => hk.2) (.int .i64 cT)) (fun _ hk => hk.2) (.slice dB cK.length dC)) (fun _ hk => trivial))⟩, ⟨kr (Kd.R_mono (kF (p := ⟨aK, 1, none⟩) (kF (p := ⟨aK, 0, none⟩) (Kd.R_types aJ.out aD.out (by decide)) (fun _ hk => hk.2) (.int .i64 cT)) (fun _ hk => hk.2) (.slice dB cK.length dC)) (fun _ hk => hk.1.2))⟩, ⟨kr (Kd.R_mono (kF (p := ⟨aK, 1, none⟩) (kF (p := ⟨aK, 0, none⟩) (Kd.R_types dO.out aD.out (by decide)) (fun _ hk => hk.2) (.int .i64 cT)) (fun _ hk => hk.2) (.slice dB cK.length dC)) (fun _ hk => hk.1.1.2))⟩, ⟨fm aA.out⟩, ⟨bm aD.out⟩, ⟨bl HB.out⟩⟩
       rw [if_pos cY] at H
       have eP := decide_eq_true cY
       clear cY
       obtain ⟨iF, H⟩ := gI H
       obtain ⟨iG, H⟩ := gI H
       obtain ⟨eG, hbq33⟩ : ∃ b_ : Bool, b_ = (rdOf false bH aN) := ⟨_, rfl⟩
       replace H : (if eG = true then (if (rd_T79 aI aN).f7 = true then (some false) else (laws_FnWaits.l2 k3 bH cC (wrap64 (aN + 1)) aW aI)) else (laws_FnWaits.l2 k3 bH cC (wrap64 (aN + 1)) aW aI)) = some r := by rw [← hbq33] at H; exact H
       have bI := aM hbq33
       clear hbq33
       by_cases dP : eG = true
       case neg =>
        replace dP := Bool.eq_false_iff.mpr dP
        subst dP
        replace H := hF H
        have H' := aM H
        clear H
        have iH := bA.out
        have iI := aX.out
        have iJ := cA2 aD.out
        obtain ⟨iW, iX, fL⟩ := Kd.R_slice aE.out
        subst fL
        obtain ⟨iY, iZ, fM⟩ := Kd.R_slice bD.out
        subst fM
        have bQ : 0 ≤ (aN : Int) := dT
        have bT : aN < (bH.length : Int) := dT
        obtain ⟨dQ, cU, bN⟩ := Kd.at_bool (Kd.R_reads' bD.out).2.2 aN bQ bT
        (try rw [← bI.out] at bN)
        cases cU
        replace bQ := eq_true bQ
        replace bT := eq_true bT
        go_wp2
        go_roundg k3
        case measure => have := cL.out; have := cW.out; have := cX.out; omega
        case rel => (try rw [← bI.out]); (try rw [← bJ.out]); exact ⟨(wrap64 (aN + 1)), xE, H', ⟨by have := cL.out; have := cW.out; have := cX.out; omega⟩, ⟨kr bD.out⟩, ⟨kr aJ.out⟩, ⟨kr aE.out⟩, ⟨bk aA.out⟩, ⟨bk aD.out⟩, ⟨bl HB.out⟩⟩
       subst dP
       replace H := hP H rfl
       obtain ⟨eH, hbq35⟩ : ∃ b_ : Bool, b_ = ((rd_T79 aI aN).f7) := ⟨_, rfl⟩
       replace H : (if eH = true then (some false) else (laws_FnWaits.l2 k3 bH cC (wrap64 (aN + 1)) aW aI)) = some r := by rw [← hbq35] at H; exact H
       have bJ := aM hbq35
       clear hbq35
       by_cases dR : eH = true
       case pos =>
        subst dR
        replace H := hP H rfl
        obtain rfl := Option.some.inj H
        have iK := bA.out
        have iL := aX.out
        have iM := cA2 aD.out
        obtain ⟨jA, jB, fN⟩ := Kd.R_slice aE.out
        subst fN
        obtain ⟨jC, jD, fO⟩ := Kd.R_slice bD.out
        subst fO
        have bQ : 0 ≤ (aN : Int) := dT
        have bT : aN < (bH.length : Int) := dT
        obtain ⟨dQ, cU, bN⟩ := Kd.at_bool (Kd.R_reads' bD.out).2.2 aN bQ bT
        (try rw [← bI.out] at bN)
        (try rw [← bJ.out] at bN)
        cases cU
        replace bQ := eq_true bQ
        replace bT := eq_true bT
        have cD : 0 ≤ (aN : Int) := dT
        have cE : aN < (aI.length : Int) := dT
        obtain ⟨eQ, dJ, bW, bX, dS, dU, dV, dW, dX, dY, dZ, eA, bU⟩ := at_T79 (Kd.R_reads' aE.out).2.2 aN cD cE
        (try rw [← bI.out] at bW)
        (try rw [← bJ.out] at bW)
        (try rw [← bI.out] at bX)
        (try rw [← bJ.out] at bX)
        (try rw [← bI.out] at bU)
        (try rw [← bJ.out] at bU)
        cases dJ
        replace cD := eq_true cD
        replace cE := eq_true cE
        go_wp2
        go_ret
        exact ⟨xW, bl HB.out⟩
       replace dR := Bool.eq_false_iff.mpr dR
       subst dR
       replace H := hF H
       have H' := aM H
       clear H
       have iN := bA.out
       have iO := aX.out
       have iP := cA2 aD.out
       obtain ⟨jE, jF, fP⟩ := Kd.R_slice aE.out
       subst fP
       obtain ⟨jG, jH, fQ⟩ := Kd.R_slice bD.out
       subst fQ
       have bQ : 0 ≤ (aN : Int) := dT
       have bT : aN < (bH.length : Int) := dT
       obtain ⟨dQ, cU, bN⟩ := Kd.at_bool (Kd.R_reads' bD.out).2.2 aN bQ bT
       (try rw [← bI.out] at bN)
       (try rw [← bJ.out] at bN)
       cases cU
       replace bQ := eq_true bQ
       replace bT := eq_true bT
       have cD : 0 ≤ (aN : Int) := dT
       have cE : aN < (aI.length : Int) := dT
       obtain ⟨eQ, dJ, bW, bX, dS, dU, dV, dW, dX, dY, dZ, eA, bU⟩ := at_T79 (Kd.R_reads' aE.out).2.2 aN cD cE
       (try rw [← bI.out] at bW)
       (try rw [← bJ.out] at bW)
       (try rw [← bI.out] at bX)
       (try rw [← bJ.out] at bX)
       (try rw [← bI.out] at bU)
       (try rw [← bJ.out] at bU)
       cases dJ
       replace cD := eq_true cD
       replace cE := eq_true cE
       go_wp2
       go_roundg k3
       case measure => have := cL.out; have := cW.out; have := cX.out; omega
       case rel => (try rw [← bI.out]); (try rw [← bJ.out]); exact ⟨(wrap64 (aN + 1)), xE, H', ⟨by have := cL.out; have := cW.out; have := cX.out; omega⟩, ⟨kr bD.out⟩, ⟨kr aJ.out⟩, ⟨kr aE.out⟩, ⟨bk aA.out⟩, ⟨bk aD.out⟩, ⟨bl HB.out⟩⟩

/-- THE ONE PURE STATEMENT of laws_FnWaits: yours. -/
def laws_FnWaits.Pure : Prop := ∀ (l0 : List Int), l0.length ≤ maxLen → l0.length * 1 ≤ 140737488351232 → (∀ x ∈ l0, (Lit.int .u8 x).wf = true) → ∃ k, laws_FnWaits.f k l0 = some true
theorem laws_FnWaits.walk (P : laws_FnWaits.Pure) (a0 : Option Addr) (len0 cap0 : Nat) (z0 : List Int) (w : World) (w0 : (a0 = none ∧ len0 = 0 ∧ cap0 = 0 ∧ z0 = []) ∨ ∃ x, a0 = some x ∧ len0 ≤ cap0 ∧ cap0 ≤ maxLen ∧ z0.length = cap0 ∧ (∀ i, i < z0.length → w.cell? (x.add i) = some (.int .u8 (z0.getD i 0))) ∧ ∀ n ∈ z0, (Lit.int .u8 n).wf = true) (y0 : len0 * 1 ≤ 140737488351232) :
  Calls Try.prog 9 #[.slice a0 len0 cap0] w fun e w' => e = .returned (.bool true) ∧ Below w.heap.size w w' := by
 obtain ⟨l0, rfl, hr0, hm0, aA, hc0⟩ := ReadsInt.ofRowC w0
 obtain ⟨k, h⟩ := P l0 hm0 y0 aA
 refine (laws_FnWaits.calls k _ _ l0 true w (Kd.C_of_reads (d := (0 : Int)) (h1 := fun _ => rfl) hr0) hc0 h).mono ?_
 rintro e w' ⟨rfl, hd⟩
 exact ⟨rfl, hd⟩

end Go.Proofs.Ythmijfekdeagpaa.PFnWaits

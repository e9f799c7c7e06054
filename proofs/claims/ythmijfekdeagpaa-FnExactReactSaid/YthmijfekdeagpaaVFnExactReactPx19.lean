/- A part of the proof of laws.FnExactReact. No condition beyond what its theorems say. -/
import Derived.Test.YthmijfekdeagpaaVFnExactReactPx18
namespace Go.Proofs.Ythmijfekdeagpaa.PFnExactReact
open Go.RowKit Go.Proofs.YthmijfekdeagpaaW.PrintWords Go.Proofs.YthmijfekdeagpaaW.PrintLast Go.Proofs.YthmijfekdeagpaaW.PrintMore
set_option linter.unusedVariables false
set_option linter.unusedSimpArgs false

def Z35.f (k : Nat) (aG : Int) (aC : List (S79)) (aH aD aI aJ aK aN aQ : Int) (aT : Bool) : Option (Int × (List (S79)) × (List (S151))) := (Z54.f aG aC).bind fun aA => ((Z55.f aH aD aI aJ aK aN aQ aT).bind fun aV => (if aV = true then (if aD ≥ (aC.length : Int) then (some (aA.1, aA.2, ([] : List (S151)))) else ((Z29.f k aG aC).bind fun aW => (if aW = true then ((Z0.f k aA.1 aA.2 aH aD aI aJ aK aN aQ aT).bind fun aE => (some (aA.1, aE.2, aE.1))) else (some (aA.1, aA.2, ([] : List (S151))))))) else (some (aA.1, aA.2, ([] : List (S151))))))
theorem Z35.mono : ∀ a0 a1 a2 a3 a4 a5 a6 a7 a8 a9 k, LeO (Z35.f k a0 a1 a2 a3 a4 a5 a6 a7 a8 a9) (Z35.f (k + 1) a0 a1 a2 a3 a4 a5 a6 a7 a8 a9) := by
 intro a0 a1 a2 a3 a4 a5 a6 a7 a8 a9 k
 unfold Z35.f
 repeat' first|(with_reducible first|apply Z29.mono|apply Z0.mono|exact lR _|exact lN _|refine lI ?_ ?_|refine lB ?_ fun _ => ?_)|exact lN _|refine lI ?_ ?_|refine lB ?_ fun _ => ?_
set_option maxHeartbeats 60000000 in
set_option maxRecDepth 100000 in
theorem Z35.calls (k : Nat) (aT : Int) (bX : Option Addr) (bY : Nat) (aI : List (S79)) (aV aQ aW aX bA bD bG : Int) (bH : Bool) (r1 : Int) (r2 : List (S79)) (r3 : List (S151)) (w : World) (hr0_1 : Kd.C k79 w bX aI.length aI) (hc0_1 : aI.length ≤ bY) (h : Z35.f k aT aI aV aQ aW aX bA bD bG bH = some (r1, r2, r3)) :
  Calls Try.prog 53 #[.agg #[aT, .slice bX aI.length bY], .agg #[aV, aQ, aW, aX, bA, bD, bG, bH]] w fun e w' => ∃ dH dI : Value, e = .returned (.tuple #[.agg #[r1, dH], dI]) ∧ Kd.R k79 79 w' w.heap.size (fun _ => True) dH r2 ∧ Kd.R k151 151 w' w.heap.size (fun _ => True) dI r3 ∧ Below w.heap.size w w' := by
 have hO := Try.underlying28
 have hU := Try.underlying89
 have bZ := aM hr0_1
 have cA := aM hc0_1
 clear hr0_1 hc0_1
 have HB := aM (Below.refl w.heap.size w)
 have H : ((Z54.f aT aI).bind fun bW => ((Z55.f aV aQ aW aX bA bD bG bH).bind fun cY => (if cY = true then (if aQ ≥ (aI.length : Int) then (some (bW.1, bW.2, ([] : List (S151)))) else ((Z29.f k aT aI).bind fun dA => (if dA = true then ((Z0.f k bW.1 bW.2 aV aQ aW aX bA bD bG bH).bind fun dC => (some (bW.1, dC.2, dC.1))) else (some (bW.1, bW.2, ([] : List (S151))))))) else (some (bW.1, bW.2, ([] : List (S151))))))) = some (r1, r2, r3) := h
 clear h
 obtain ⟨⟨aJ, aH⟩, dJ, H⟩ := hB H
 try dsimp only at H
 have A3 := aM dJ
 clear dJ
 obtain ⟨cY, dK, H⟩ := hB H
 have A4 := aM dK
 clear dK
 by_cases c5 : cY = true
 case neg =>
  replace c5 := Bool.eq_false_iff.mpr c5
  subst c5
  replace H := hF H
  simp only [Option.some.injEq, Prod.mk.injEq] at H
  obtain ⟨rfl, rfl, rfl⟩ := H
  go_enter Try.func53, Try.ntmps53
  go_wp2_with (first | ((with_reducible refine gD (N := 2) rfl ?_); (try (refine gate_guard (by rfl) ?_; dsimp only)); refine bE (N := 2) (cs := #[aT, .slice bX aI.length bY]) (t := 28) ?_; intro cE hg hY hbox hb; have aA := aM (hbox); have cG := gF hg HB; have cH := gF hg HB; replace HB := rS HB hb; clear hb hbox hg) | ((with_reducible refine gD (N := 3) rfl ?_); (try (refine gate_guard (by rfl) ?_; dsimp only)); refine bE (N := 3) (cs := #[aV, aQ, aW, aX, bA, bD, bG, bH]) (t := 89) ?_; intro cK hg hZ hbox hb; have aC := aM (hbox); have cL := gF hg HB; have cN := gF hg HB; have bI := nM hg aA; have bJ := nH hg aA; replace aA := rB aA hb; replace HB := rS HB hb; clear hb hbox hg) | ((with_reducible refine gD (N := 4) rfl ?_); (try (refine gate_guard (by rfl) ?_; dsimp only)); refine bE (N := 4) (cs := #[.int .i64 0, .slice none 0 0]) (t := 28) ?_; intro aK hg iA hbox hb; have aD := aM (hbox); have cO := gF hg HB; have cP := gF hg HB; have bK := nM hg aA; have bL := nH hg aA; have bM := nM hg aC; have bN := nH hg aC; replace aA := rB aA hb; replace aC := rB aC hb; replace HB := rS HB hb; clear hb hbox hg; have dW := bI.out; have dX := bJ.out; have dY := bK.out; have dZ := bL.out; have eA := cA2 aA.out) | ((with_reducible refine gC (f := 71) rfl ?_); refine gL (some 9) Try.func71 #[.agg #[aT, .slice bX aI.length bY]] ?_; (with_reducible refine (Z54.calls aT _ _ aI aJ aH _ ?side1 ?side2 A3.out).mono ?_); (case side1 => exact cM (cB bZ.out HB.out)); (case side2 => exact cA.out); rintro e iB ⟨dB, rfl, ho0, hb⟩; refine ⟨_, rfl, ?_⟩; have aE := aM (Kd.R_lower ho0 (below_size (bl HB.out))); replace aA := rB aA hb; replace aC := rB aC hb; replace aD := rB aD hb; replace HB := rS HB hb; (repeat first|clear hb|clear ho0)) | ((with_reducible refine gD (N := 6) rfl ?_); (try (refine gate_guard (by rfl) ?_; dsimp only)); refine bR aE (N := 6) (cs := #[.int .i64 0, .slice none 0 0]) (t := 28) ?_; intro aN hg iC hbox hb; have aG := aM (hbox); have cQ := gF hg HB; have cR := gF hg HB; have bO := nM hg aA; have bP := nH hg aA; have bQ := nM hg aC; have bT := nH hg aC; have bU := nM hg aD; have bV := nH hg aD; replace aE := rK aE hb; replace aA := rB aA hb; replace aC := rB aC hb; replace aD := rB aD hb; replace HB := rS HB hb; clear hb hbox hg; have eB := bP.out; have eC := bO.out; have eD := bT.out; have eE := bQ.out; have eF := bV.out; have eG := bU.out; have eH := cA2 aG.out; obtain ⟨cS, cT, dN⟩ := Kd.R_slice aE.out; subst dN; have eI := bM.out; have eJ := bN.out; have eK := cA8 aC.out) | ((with_reducible refine gC (f := 130) rfl ?_); refine gL (some 11) Try.func130 #[.agg #[aV, aQ, aW, aX, bA, bD, bG, bH]] ?_; (with_reducible refine (Z55.calls aV aQ aW aX bA bD bG bH false _ A4.out).mono ?_); rintro e iD ⟨rfl, hb⟩; refine ⟨_, rfl, ?_⟩; replace aE := aM (kB (kr (Kd.R_mono (kF (p := ⟨aN, 1, none⟩) (kF (p := ⟨aN, 0, none⟩) (Kd.R_types aE.out aG.out (by decide)) (fun _ hk => hk.2) (.int .i64 aJ)) (fun _ hk => hk.2) (.slice cS aH.length cT)) (fun _ h_ => h_.1))) hb); replace aA := aM (bB (fm aA.out) hb); replace aC := aM (bB (fm aC.out) hb); replace aD := aM (bB (fm aD.out) hb); replace aG := aM (bB (g := aN) (o := .cells #[aJ, .slice cS aH.length cT] 28 (0, 0)) (bm aG.out) hb); replace HB := rS HB hb; (try clear hb); have eL := cA2 aG.out; have eM := cA2 aD.out))
  refine bodyPost_ret (results_ct rfl _ _ aK 28 #[aJ, .slice cS aH.length cT] (0, 0) _ rfl (bm aD.out) Try.underlying28 rfl (by kernel_rfl)) rfl ?_
  exact ⟨_, _, xW, by (with_reducible repeat (first | apply Kd.R_alloc | apply Kd.R_drewN | apply Kd.R_drew)); exact Kd.R_mono (kF (p := ⟨aK, 1, none⟩) (kF (p := ⟨aK, 0, none⟩) (Kd.R_types aE.out aD.out (by decide)) (fun _ hk => hk.2) (.int .i64 aJ)) (fun _ hk => hk.2) (.slice cS aH.length cT)) (fun _ hk => trivial), by first | exact Kd.R_nil _ _ _ _ _ | exact Kd.N_nil _ _ _ _ _ | exact Kd.V_nil _ _ _ _ _ | exact Kd.Q_nil _ _ _ _ _ | exact Kd.S_nil _ _ _ _ _, bl HB.out⟩
 subst c5
 replace H := hP H rfl
 by_cases c6 : aQ ≥ (aI.length : Int)
 case pos =>
  rw [if_pos c6] at H
  have dO := decide_eq_true c6
  clear c6
  simp only [Option.some.injEq, Prod.mk.injEq] at H
  obtain ⟨rfl, rfl, rfl⟩ := H
  go_enter Try.func53, Try.ntmps53
  go_wp2_with (first | ((with_reducible refine gD (N := 2) rfl ?_); (try (refine gate_guard (by rfl) ?_; dsimp only)); refine bE (N := 2) (cs := #[aT, .slice bX aI.length bY]) (t := 28) ?_; intro cE hg w7 hbox hb; have aA := aM (hbox); have cG := gF hg HB; have cH := gF hg HB; replace HB := rS HB hb; clear hb hbox hg) | ((with_reducible refine gD (N := 3) rfl ?_); (try (refine gate_guard (by rfl) ?_; dsimp only)); refine bE (N := 3) (cs := #[aV, aQ, aW, aX, bA, bD, bG, bH]) (t := 89) ?_; intro cK hg w8 hbox hb; have aC := aM (hbox); have cL := gF hg HB; have cN := gF hg HB; have bI := nM hg aA; have bJ := nH hg aA; replace aA := rB aA hb; replace HB := rS HB hb; clear hb hbox hg) | ((with_reducible refine gD (N := 4) rfl ?_); (try (refine gate_guard (by rfl) ?_; dsimp only)); refine bE (N := 4) (cs := #[.int .i64 0, .slice none 0 0]) (t := 28) ?_; intro aK hg w9 hbox hb; have aD := aM (hbox); have cO := gF hg HB; have cP := gF hg HB; have bK := nM hg aA; have bL := nH hg aA; have bM := nM hg aC; have bN := nH hg aC; replace aA := rB aA hb; replace aC := rB aC hb; replace HB := rS HB hb; clear hb hbox hg; have eN := bI.out; have eO := bJ.out; have eP := bK.out; have eQ := bL.out; have eR := cA2 aA.out) | ((with_reducible refine gC (f := 71) rfl ?_); refine gL (some 9) Try.func71 #[.agg #[aT, .slice bX aI.length bY]] ?_; (with_reducible refine (Z54.calls aT _ _ aI aJ aH _ ?side1 ?side2 A3.out).mono ?_); (case side1 => exact cM (cB bZ.out HB.out)); (case side2 => exact cA.out); rintro e iE ⟨dB, rfl, ho0, hb⟩; refine ⟨_, rfl, ?_⟩; have aE := aM (Kd.R_lower ho0 (below_size (bl HB.out))); replace aA := rB aA hb; replace aC := rB aC hb; replace aD := rB aD hb; replace HB := rS HB hb; (repeat first|clear hb|clear ho0)) | ((with_reducible refine gD (N := 6) rfl ?_); (try (refine gate_guard (by rfl) ?_; dsimp only)); refine bR aE (N := 6) (cs := #[.int .i64 0, .slice none 0 0]) (t := 28) ?_; intro aN hg iF hbox hb; have aG := aM (hbox); have cQ := gF hg HB; have cR := gF hg HB; have bO := nM hg aA; have bP := nH hg aA; have bQ := nM hg aC; have bT := nH hg aC; have bU := nM hg aD; have bV := nH hg aD; replace aE := rK aE hb; replace aA := rB aA hb; replace aC := rB aC hb; replace aD := rB aD hb; replace HB := rS HB hb; clear hb hbox hg; have eS := bP.out; have eT := bO.out; have eU := bT.out; have eV := bQ.out; have eW := bV.out; have eX := bU.out; have eY := cA2 aG.out; obtain ⟨cU, cV, dP⟩ := Kd.R_slice aE.out; subst dP; have eZ := bM.out; have fA := bN.out; have fB := cA8 aC.out) | ((with_reducible refine gC (f := 130) rfl ?_); refine gL (some 11) Try.func130 #[.agg #[aV, aQ, aW, aX, bA, bD, bG, bH]] ?_; (with_reducible refine (Z55.calls aV aQ aW aX bA bD bG bH true _ A4.out).mono ?_); rintro e iG ⟨rfl, hb⟩; refine ⟨_, rfl, ?_⟩; replace aE := aM (kB (kr (Kd.R_mono (kF (p := ⟨aN, 1, none⟩) (kF (p := ⟨aN, 0, none⟩) (Kd.R_types aE.out aG.out (by decide)) (fun _ hk => hk.2) (.int .i64 aJ)) (fun _ hk => hk.2) (.slice cU aH.length cV)) (fun _ h_ => h_.1))) hb); replace aA := aM (bB (fm aA.out) hb); replace aC := aM (bB (fm aC.out) hb); replace aD := aM (bB (fm aD.out) hb); replace aG := aM (bB (g := aN) (o := .cells #[aJ, .slice cU aH.length cV] 28 (0, 0)) (bm aG.out) hb); replace HB := rS HB hb; (try clear hb); have fC := cA8 aC.out; have fD := cA2 aA.out; have fE := cA2 aG.out; have fF := cA2 aD.out))
  refine bodyPost_ret (results_ct rfl _ _ aK 28 #[aJ, .slice cU aH.length cV] (0, 0) _ rfl (bm aD.out) Try.underlying28 rfl (by kernel_rfl)) rfl ?_
  exact ⟨_, _, xW, by (with_reducible repeat (first | apply Kd.R_alloc | apply Kd.R_drewN | apply Kd.R_drew)); exact Kd.R_mono (kF (p := ⟨aK, 1, none⟩) (kF (p := ⟨aK, 0, none⟩) (Kd.R_types aE.out aD.out (by decide)) (fun _ hk => hk.2) (.int .i64 aJ)) (fun _ hk => hk.2) (.slice cU aH.length cV)) (fun _ hk => trivial), by first | exact Kd.R_nil _ _ _ _ _ | exact Kd.N_nil _ _ _ _ _ | exact Kd.V_nil _ _ _ _ _ | exact Kd.Q_nil _ _ _ _ _ | exact Kd.S_nil _ _ _ _ _, bl HB.out⟩
 rw [if_neg c6] at H
 have dO := decide_eq_false c6
 clear c6
 obtain ⟨dA, dE, H⟩ := hB H
 have dL := aM dE
 clear dE
 by_cases dD : dA = true
 case neg =>
  replace dD := Bool.eq_false_iff.mpr dD
  subst dD
  replace H := hF H
  simp only [Option.some.injEq, Prod.mk.injEq] at H
  obtain ⟨rfl, rfl, rfl⟩ := H
  go_enter Try.func53, Try.ntmps53
  go_wp2_with (first | ((with_reducible refine gD (N := 2) rfl ?_); (try (refine gate_guard (by rfl) ?_; dsimp only)); refine bE (N := 2) (cs := #[aT, .slice bX aI.length bY]) (t := 28) ?_; intro cE hg iH hbox hb; have aA := aM (hbox); have cG := gF hg HB; have cH := gF hg HB; replace HB := rS HB hb; clear hb hbox hg) | ((with_reducible refine gD (N := 3) rfl ?_); (try (refine gate_guard (by rfl) ?_; dsimp only)); refine bE (N := 3) (cs := #[aV, aQ, aW, aX, bA, bD, bG, bH]) (t := 89) ?_; intro cK hg iI hbox hb; have aC := aM (hbox); have cL := gF hg HB; have cN := gF hg HB; have bI := nM hg aA; have bJ := nH hg aA; replace aA := rB aA hb; replace HB := rS HB hb; clear hb hbox hg) | ((with_reducible refine gD (N := 4) rfl ?_); (try (refine gate_guard (by rfl) ?_; dsimp only)); refine bE (N := 4) (cs := #[.int .i64 0, .slice none 0 0]) (t := 28) ?_; intro aK hg iJ hbox hb; have aD := aM (hbox); have cO := gF hg HB; have cP := gF hg HB; have bK := nM hg aA; have bL := nH hg aA; have bM := nM hg aC; have bN := nH hg aC; replace aA := rB aA hb; replace aC := rB aC hb; replace HB := rS HB hb; clear hb hbox hg; have fG := bI.out; have fH := bJ.out; have fI := bK.out; have fK := bL.out; have fL := cA2 aA.out) | ((with_reducible refine gC (f := 71) rfl ?_); refine gL (some 9) Try.func71 #[.agg #[aT, .slice bX aI.length bY]] ?_; (with_reducible refine (Z54.calls aT _ _ aI aJ aH _ ?side1 ?side2 A3.out).mono ?_); (case side1 => exact cM (cB bZ.out HB.out)); (case side2 => exact cA.out); rintro e iK ⟨dB, rfl, ho0, hb⟩; refine ⟨_, rfl, ?_⟩; have aE := aM (Kd.R_lower ho0 (below_size (bl HB.out))); replace aA := rB aA hb; replace aC := rB aC hb; replace aD := rB aD hb; replace HB := rS HB hb; (repeat first|clear hb|clear ho0)) | ((with_reducible refine gD (N := 6) rfl ?_); (try (refine gate_guard (by rfl) ?_; dsimp only)); refine bR aE (N := 6) (cs := #[.int .i64 0, .slice none 0 0]) (t := 28) ?_; intro aN hg iL hbox hb; have aG := aM (hbox); have cQ := gF hg HB; have cR := gF hg HB; have bO := nM hg aA; have bP := nH hg aA; have bQ := nM hg aC; have bT := nH hg aC; have bU := nM hg aD; have bV := nH hg aD; replace aE := rK aE hb; replace aA := rB aA hb; replace aC := rB aC hb; replace aD := rB aD hb; replace HB := rS HB hb; clear hb hbox hg; have fM := bP.out; have fN := bO.out; have fO := bT.out; have fP := bQ.out; have fQ := bV.out; have fS := bU.out; have fT := cA2 aG.out; obtain ⟨cW, cX, dQ⟩ := Kd.R_slice aE.out; subst dQ; have fU := bM.out; have fV := bN.out; have fW := cA8 aC.out) | ((with_reducible refine gC (f := 130) rfl ?_); refine gL (some 11) Try.func130 #[.agg #[aV, aQ, aW, aX, bA, bD, bG, bH]] ?_; (with_reducible refine (Z55.calls aV aQ aW aX bA bD bG bH true _ A4.out).mono ?_); rintro e iM ⟨rfl, hb⟩; refine ⟨_, rfl, ?_⟩; replace aE := aM (kB (kr (Kd.R_mono (kF (p := ⟨aN, 1, none⟩) (kF (p := ⟨aN, 0, none⟩) (Kd.R_types aE.out aG.out (by decide)) (fun _ hk => hk.2) (.int .i64 aJ)) (fun _ hk => hk.2) (.slice cW aH.length cX)) (fun _ h_ => h_.1))) hb); replace aA := aM (bB (fm aA.out) hb); replace aC := aM (bB (fm aC.out) hb); replace aD := aM (bB (fm aD.out) hb); replace aG := aM (bB (g := aN) (o := .cells #[aJ, .slice cW aH.length cX] 28 (0, 0)) (bm aG.out) hb); replace HB := rS HB hb; (try clear hb); have fX := cA8 aC.out; have fY := cA2 aA.out) | (go_at_call 45; (with_reducible refine (Z29.calls k aT _ _ aI false _ ?side1 ?side2 dL.out).mono ?_); (case side1 => exact cM (cB bZ.out HB.out)); (case side2 => exact cA.out); rintro e iN ⟨rfl, hb⟩; replace aE := rK aE hb; replace aA := rB aA hb; replace aC := rB aC hb; replace aD := rB aD hb; replace aG := rB aG hb; replace HB := rS HB hb; (try clear hb); have gA := cA2 aG.out; have gB := cA2 aD.out))
  refine bodyPost_ret (results_ct rfl _ _ aK 28 #[aJ, .slice cW aH.length cX] (0, 0) _ rfl (bm aD.out) Try.underlying28 rfl (by kernel_rfl)) rfl ?_
  exact ⟨_, _, xW, by (with_reducible repeat (first | apply Kd.R_alloc | apply Kd.R_drewN | apply Kd.R_drew)); exact Kd.R_mono (kF (p := ⟨aK, 1, none⟩) (kF (p := ⟨aK, 0, none⟩) (Kd.R_types aE.out aD.out (by decide)) (fun _ hk => hk.2) (.int .i64 aJ)) (fun _ hk => hk.2) (.slice cW aH.length cX)) (fun _ hk => trivial), by first | exact Kd.R_nil _ _ _ _ _ | exact Kd.N_nil _ _ _ _ _ | exact Kd.V_nil _ _ _ _ _ | exact Kd.Q_nil _ _ _ _ _ | exact Kd.S_nil _ _ _ _ _, bl HB.out⟩
 subst dD
 replace H := hP H rfl
 obtain ⟨⟨dR, dS⟩, dF, H⟩ := hB H
 try dsimp only at H
 have dV := aM dF
 clear dF
 simp only [Option.some.injEq, Prod.mk.injEq] at H
 obtain ⟨rfl, rfl, rfl⟩ := H
 go_enter Try.func53, Try.ntmps53
 go_wp2_with (first | ((with_reducible refine gD (N := 2) rfl ?_); (try (refine gate_guard (by rfl) ?_; dsimp only)); refine bE (N := 2) (cs := #[aT, .slice bX aI.length bY]) (t := 28) ?_; intro cE hg iO hbox hb; have aA := aM (hbox); have cG := gF hg HB; have cH := gF hg HB; replace HB := rS HB hb; clear hb hbox hg) | ((with_reducible refine gD (N := 3) rfl ?_); (try (refine gate_guard (by rfl) ?_; dsimp only)); refine bE (N := 3) (cs := #[aV, aQ, aW, aX, bA, bD, bG, bH]) (t := 89) ?_; intro cK hg iP hbox hb; have aC := aM (hbox); have cL := gF hg HB; have cN := gF hg HB; have bI := nM hg aA; have bJ := nH hg aA; replace aA := rB aA hb; replace HB := rS HB hb; clear hb hbox hg) | ((with_reducible refine gD (N := 4) rfl ?_); (try (refine gate_guard (by rfl) ?_; dsimp only)); refine bE (N := 4) (cs := #[.int .i64 0, .slice none 0 0]) (t := 28) ?_; intro aK hg iQ hbox hb; have aD := aM (hbox); have cO := gF hg HB; have cP := gF hg HB; have bK := nM hg aA; have bL := nH hg aA; have bM := nM hg aC; have bN := nH hg aC; replace aA := rB aA hb; replace aC := rB aC hb; replace HB := rS HB hb; clear hb hbox hg; have gG := bI.out; have gH := bJ.out; have gJ := bK.out; have gK := bL.out; have gM := cA2 aA.out) | ((with_reducible refine gC (f := 71) rfl ?_); refine gL (some 9) Try.func71 #[.agg #[aT, .slice bX aI.length bY]] ?_; (with_reducible refine (Z54.calls aT _ _ aI aJ aH _ ?side1 ?side2 A3.out).mono ?_); (case side1 => exact cM (cB bZ.out HB.out)); (case side2 => exact cA.out); rintro e iR ⟨dB, rfl, ho0, hb⟩; refine ⟨_, rfl, ?_⟩; have aE := aM (Kd.R_lower ho0 (below_size (bl HB.out))); replace aA := rB aA hb; replace aC := rB aC hb; replace aD := rB aD hb; replace HB := rS HB hb; (repeat first|clear hb|clear ho0)) | ((with_reducible refine gD (N := 6) rfl ?_); (try (refine gate_guard (by rfl) ?_; dsimp only)); refine bR aE (N := 6) (cs := #[.int .i64 0, .slice none 0 0]) (t := 28) ?_; intro aN hg iS hbox hb; have aG := aM (hbox); have cQ := gF hg HB; have cR := gF hg HB; have bO := nM hg aA; have bP := nH hg aA; have bQ := nM hg aC; have bT := nH hg aC; have bU := nM hg aD; have bV := nH hg aD; replace aE := rK aE hb; replace aA := rB aA hb; replace aC := rB aC hb; replace aD := rB aD hb; replace HB := rS HB hb; clear hb hbox hg; have gN := bP.out; have gO := bO.out; have gP := bT.out; have gQ := bQ.out; have gR := bV.out; have gS := bU.out; have gT := cA2 aG.out; obtain ⟨cC, cD, dU⟩ := Kd.R_slice aE.out; subst dU; have gU := bM.out; have gV := bN.out; have gW := cA8 aC.out) | ((with_reducible refine gC (f := 130) rfl ?_); refine gL (some 11) Try.func130 #[.agg #[aV, aQ, aW, aX, bA, bD, bG, bH]] ?_; (with_reducible refine (Z55.calls aV aQ aW aX bA bD bG bH true _ A4.out).mono ?_); rintro e iT ⟨rfl, hb⟩; refine ⟨_, rfl, ?_⟩; replace aE := aM (kB (kr (Kd.R_mono (kF (p := ⟨aN, 1, none⟩) (kF (p := ⟨aN, 0, none⟩) (Kd.R_types aE.out aG.out (by decide)) (fun _ hk => hk.2) (.int .i64 aJ)) (fun _ hk => hk.2) (.slice cC aH.length cD)) (fun _ h_ => h_.1))) hb); replace aA := aM (bB (fm aA.out) hb); replace aC := aM (bB (fm aC.out) hb); replace aD := aM (bB (fm aD.out) hb); replace aG := aM (bB (g := aN) (o := .cells #[aJ, .slice cC aH.length cD] 28 (0, 0)) (bm aG.out) hb); replace HB := rS HB hb; (try clear hb); have gX := cA8 aC.out; have gY := cA2 aA.out) | (go_at_call 45; (with_reducible refine (Z29.calls k aT _ _ aI true _ ?side1 ?side2 dL.out).mono ?_); (case side1 => exact cM (cB bZ.out HB.out)); (case side2 => exact cA.out); rintro e iU ⟨rfl, hb⟩; replace aE := rK aE hb; replace aA := rB aA hb; replace aC := rB aC hb; replace aD := rB aD hb; replace aG := rB aG hb; replace HB := rS HB hb; (try clear hb); have gZ := cA8 aC.out; have hD := cA2 aG.out) | ((with_reducible refine gC (f := 131) rfl ?_); refine gL (some 28) Try.func131 #[.pointer (some ⟨aN, 0, none⟩), .agg #[aV, aQ, aW, aX, bA, bD, bG, bH]] ?_; (with_reducible refine (Z0.calls (gb := aN) (hBK := (bk aG.out)) (hgb := ?hgb) k aJ (fun k_ => some k_ = (.slice cC aH.length cD : Value).ownBlock) (.slice cC aH.length cD) aH aV aQ aW aX bA bD bG bH dR dS w _ ?side1 ?side2 dV.out).mono ?_); (case hgb => exact (fun hs_ => (fun e_ => (Kd.R_ne aE.out aG.out (by decide)) e_) hs_)); (case side1 => exact bl HB.out); (case side2 => exact Kd.R_tight rfl aE.out); rintro e iV ⟨hX, rfl, ho0, dM, hb, hkp⟩; refine ⟨_, rfl, ?_⟩; have dG := aM (Kd.R_mono (ok' := fun k_ => True) ho0 (fun k_ hk_ => trivial)); replace aA := aM (blk_kept (bk aA.out) hkp (fun hs_ => (fun e_ => (Kd.R_ne aE.out aA.out (by decide)) e_) hs_)); replace aC := aM (blk_kept (bk aC.out) hkp (fun hs_ => (fun e_ => (Kd.R_ne aE.out aC.out (by decide)) e_) hs_)); replace aD := aM (blk_kept (bk aD.out) hkp (fun hs_ => (fun e_ => (Kd.R_ne aE.out aD.out (by decide)) e_) hs_)); replace aG := aM (blk_kept (bk aG.out) hkp (fun hs_ => (fun e_ => (Kd.R_ne aE.out aG.out (by decide)) e_) hs_)); replace aE := aM (Kd.R_reok rfl dM (fun k_ e_ => aE.out.1 k_ e_)); replace HB := aM (hb); (repeat first|clear hb|clear hkp|clear ho0|clear dM); have hH := cA2 aG.out; have hJ := cA2 aD.out))
 refine bodyPost_ret (results_ct rfl _ _ aK 28 #[aJ, .slice cC aH.length cD] (0, 0) _ rfl (bm aD.out) Try.underlying28 rfl (by kernel_rfl)) rfl ?_
 exact ⟨_, _, xW, by (with_reducible repeat (first | apply Kd.R_alloc | apply Kd.R_drewN | apply Kd.R_drew)); exact Kd.R_mono (kF (p := ⟨aK, 1, none⟩) (kF (p := ⟨aK, 0, none⟩) (Kd.R_types aE.out aD.out (by decide)) (fun _ hk => hk.2) (.int .i64 aJ)) (fun _ hk => hk.2) (.slice cC aH.length cD)) (fun _ hk => trivial), by (with_reducible repeat (first | apply Kd.R_alloc | apply Kd.R_drewN | apply Kd.R_drew)); exact Kd.R_mono (kF (p := ⟨aK, 1, none⟩) (kF (p := ⟨aK, 0, none⟩) (Kd.R_types dG.out aD.out (by decide)) (fun _ hk => hk.2) (.int .i64 aJ)) (fun _ hk => hk.2) (.slice cC aH.length cD)) (fun _ hk => trivial), bl HB.out⟩

def Z3.f (a0 a1 a2 : Int) : Option (Bool) := if a0 ≥ a1 then (some (decide (a0 ≤ a2))) else (some false)
set_option maxHeartbeats 60000000 in
set_option maxRecDepth 100000 in
theorem Z3.calls (a0 a1 a2 : Int) (r : Bool) (w : World) (h : Z3.f a0 a1 a2 = some r) :
  Calls Try.prog 80 #[a0, a1, a2] w fun e w' => e = .returned (.bool r) ∧ Drawn0 w w' := by
 have H : (if a0 ≥ a1 then (some (decide (a0 ≤ a2))) else (some false)) = some r := h
 clear h
 by_cases c4 : a0 ≥ a1
 case pos =>
  rw [if_pos c4] at H
  have aA := decide_eq_true c4
  clear c4
  obtain rfl := Option.some.inj H
  go_enter Try.func80, Try.ntmps80
  go_wp2
  go_ret
  exact ⟨by first | rfl | (simp; done) | (simp [*]; done), by repeat (first | exact Drawn0.refl _ | apply Drawn0.step)⟩
 rw [if_neg c4] at H
 have aA := decide_eq_false c4
 clear c4
 obtain rfl := Option.some.inj H
 go_enter Try.func80, Try.ntmps80
 go_wp2
 go_ret
 exact ⟨by first | rfl | (simp; done) | (simp [*]; done), by repeat (first | exact Drawn0.refl _ | apply Drawn0.step)⟩

def Z41.f (aA aD aC aE : Int) : Option (Bool) := (Z3.f aA 1 9).bind fun aG => (if aG = true then ((Z3.f aC 1 9).bind fun aH => (if aH = true then (if aA ≤ aC then ((Z3.f aD 0 20).bind fun aI => (if aI = true then (if ((aD == 0) == (aA == aC)) = true then ((Z3.f aE 0 3).bind fun aJ => (some aJ)) else (some false)) else (some false))) else (some false)) else (some false))) else (some false))
set_option maxHeartbeats 60000000 in
set_option maxRecDepth 100000 in
theorem Z41.calls (aA aD aC aG : Int) (r : Bool) (w : World) (h : Z41.f aA aD aC aG = some r) :
  Calls Try.prog 181 #[.agg #[aA, aD, aC, aG]] w fun e w' => e = .returned (.bool r) ∧ Below w.heap.size w w' := by
 have bQ := Try.underlying73
 have HB := aM (Below.refl w.heap.size w)
 have H : ((Z3.f aA 1 9).bind fun aK => (if aK = true then ((Z3.f aC 1 9).bind fun aN => (if aN = true then (if aA ≤ aC then ((Z3.f aD 0 20).bind fun aQ => (if aQ = true then (if ((aD == 0) == (aA == aC)) = true then ((Z3.f aG 0 3).bind fun aT => (some aT)) else (some false)) else (some false))) else (some false)) else (some false))) else (some false))) = some r := h
 clear h
 obtain ⟨aK, aW, H⟩ := hB H
 have A2 := aM aW
 clear aW
 by_cases c3 : aK = true
 case neg =>
  replace c3 := Bool.eq_false_iff.mpr c3
  subst c3
  replace H := hF H
  obtain rfl := Option.some.inj H
  go_enter Try.func181, Try.ntmps181
  go_wp2_with (first | ((with_reducible refine gD (N := 1) rfl ?_); refine bE (N := 1) (cs := #[aA, aD, aC, aG]) (t := 73) ?_; intro aH hg bU hbox hb; have aE := aM (hbox); have aI := gF hg HB; have aJ := gF hg HB; replace HB := rS HB hb; clear hb hbox hg; have bK := cA4 aE.out) | ((with_reducible refine gC (f := 80) rfl ?_); refine gL (some 5) Try.func80 #[aA, .int .i64 1, .int .i64 9] ?_; (with_reducible refine (Z3.calls aA 1 9 false _ A2.out).mono ?_); rintro e w' ⟨rfl, ⟨nd, rfl⟩⟩; refine ⟨_, rfl, ?_⟩))
  go_ret
  exact ⟨xW, bl HB.out⟩
 subst c3
 replace H := hP H rfl
 obtain ⟨aN, aX, H⟩ := hB H
 have A4 := aM aX
 clear aX
 by_cases c5 : aN = true
 case neg =>
  replace c5 := Bool.eq_false_iff.mpr c5
  subst c5
  replace H := hF H
  obtain rfl := Option.some.inj H
  go_enter Try.func181, Try.ntmps181
  go_wp2_with (first | ((with_reducible refine gD (N := 1) rfl ?_); refine bE (N := 1) (cs := #[aA, aD, aC, aG]) (t := 73) ?_; intro aH hg bV hbox hb; have aE := aM (hbox); have aI := gF hg HB; have aJ := gF hg HB; replace HB := rS HB hb; clear hb hbox hg; have bL := cA4 aE.out) | ((with_reducible refine gC (f := 80) rfl ?_); refine gL (some 5) Try.func80 #[aA, .int .i64 1, .int .i64 9] ?_; (with_reducible refine (Z3.calls aA 1 9 true _ A2.out).mono ?_); rintro e w' ⟨rfl, ⟨nd, rfl⟩⟩; refine ⟨_, rfl, ?_⟩) | (go_at_call 80; (with_reducible refine (Z3.calls aC 1 9 false _ A4.out).mono ?_); rintro e w' ⟨rfl, ⟨nd, rfl⟩⟩))
  go_ret
  exact ⟨xW, bl HB.out⟩
 subst c5
 replace H := hP H rfl
 by_cases c6 : aA ≤ aC
 case neg =>
  rw [if_neg c6] at H
  have bD := decide_eq_false c6
  clear c6
  obtain rfl := Option.some.inj H
  go_enter Try.func181, Try.ntmps181
  go_wp2_with (first | ((with_reducible refine gD (N := 1) rfl ?_); refine bE (N := 1) (cs := #[aA, aD, aC, aG]) (t := 73) ?_; intro aH hg bW hbox hb; have aE := aM (hbox); have aI := gF hg HB; have aJ := gF hg HB; replace HB := rS HB hb; clear hb hbox hg; have bM := cA4 aE.out) | ((with_reducible refine gC (f := 80) rfl ?_); refine gL (some 5) Try.func80 #[aA, .int .i64 1, .int .i64 9] ?_; (with_reducible refine (Z3.calls aA 1 9 true _ A2.out).mono ?_); rintro e w' ⟨rfl, ⟨nd, rfl⟩⟩; refine ⟨_, rfl, ?_⟩) | (go_at_call 80; (with_reducible refine (Z3.calls aC 1 9 true _ A4.out).mono ?_); rintro e w' ⟨rfl, ⟨nd, rfl⟩⟩))
  go_ret
  exact ⟨xW, bl HB.out⟩
 rw [if_pos c6] at H
 have bD := decide_eq_true c6
 clear c6
 obtain ⟨aQ, bA, H⟩ := hB H
 have A7 := aM bA
 clear bA
 by_cases c8 : aQ = true
 case neg =>
  replace c8 := Bool.eq_false_iff.mpr c8
  subst c8
  replace H := hF H
  obtain rfl := Option.some.inj H
  go_enter Try.func181, Try.ntmps181
  go_wp2_with (first | ((with_reducible refine gD (N := 1) rfl ?_); refine bE (N := 1) (cs := #[aA, aD, aC, aG]) (t := 73) ?_; intro aH hg bX hbox hb; have aE := aM (hbox); have aI := gF hg HB; have aJ := gF hg HB; replace HB := rS HB hb; clear hb hbox hg; have bN := cA4 aE.out) | ((with_reducible refine gC (f := 80) rfl ?_); refine gL (some 5) Try.func80 #[aA, .int .i64 1, .int .i64 9] ?_; (with_reducible refine (Z3.calls aA 1 9 true _ A2.out).mono ?_); rintro e w' ⟨rfl, ⟨nd, rfl⟩⟩; refine ⟨_, rfl, ?_⟩) | (go_at_call 80; (with_reducible refine (Z3.calls aC 1 9 true _ A4.out).mono ?_); rintro e w' ⟨rfl, ⟨nd, rfl⟩⟩) | (go_at_call 80; (with_reducible refine (Z3.calls aD 0 20 false _ A7.out).mono ?_); rintro e w' ⟨rfl, ⟨nd, rfl⟩⟩))
  go_ret
  exact ⟨xW, bl HB.out⟩
 subst c8
 replace H := hP H rfl
 by_cases c9 : ((aD == 0) == (aA == aC)) = true
 case neg =>
  rw [if_neg c9] at H
  have bG : ((aD == 0) == (aA == aC)) = false := by simpa using c9
  (try (have bH : decide ((aD == 0) = (aA == aC)) = false := by simpa using c9))
  (try (have bI : ((aD == 0) == (aA == aC)) = false := by simpa using c9))
  (try (have bT : ¬ ((aD == 0) = (aA == aC)) := by simpa using c9))
  clear c9
  obtain rfl := Option.some.inj H
  go_enter Try.func181, Try.ntmps181
  go_wp2_with (first | ((with_reducible refine gD (N := 1) rfl ?_); refine bE (N := 1) (cs := #[aA, aD, aC, aG]) (t := 73) ?_; intro aH hg bY hbox hb; have aE := aM (hbox); have aI := gF hg HB; have aJ := gF hg HB; replace HB := rS HB hb; clear hb hbox hg; have bO := cA4 aE.out) | ((with_reducible refine gC (f := 80) rfl ?_); refine gL (some 5) Try.func80 #[aA, .int .i64 1, .int .i64 9] ?_; (with_reducible refine (Z3.calls aA 1 9 true _ A2.out).mono ?_); rintro e w' ⟨rfl, ⟨nd, rfl⟩⟩; refine ⟨_, rfl, ?_⟩) | (go_at_call 80; (with_reducible refine (Z3.calls aC 1 9 true _ A4.out).mono ?_); rintro e w' ⟨rfl, ⟨nd, rfl⟩⟩) | (go_at_call 80; (with_reducible refine (Z3.calls aD 0 20 true _ A7.out).mono ?_); rintro e w' ⟨rfl, ⟨nd, rfl⟩⟩))
  go_ret
  exact ⟨xW, bl HB.out⟩
 rw [if_pos c9] at H
 have bG : ((aD == 0) == (aA == aC)) = true := c9
 (try (have bH : decide ((aD == 0) = (aA == aC)) = true := by simpa using c9))
 (try (have bI : ((aD == 0) == (aA == aC)) = true := by simpa using c9))
 clear c9
 obtain ⟨aT, aV, H⟩ := hB H
 have bJ := aM aV
 clear aV
 obtain rfl := Option.some.inj H
 go_enter Try.func181, Try.ntmps181
 go_wp2_with (first | ((with_reducible refine gD (N := 1) rfl ?_); refine bE (N := 1) (cs := #[aA, aD, aC, aG]) (t := 73) ?_; intro aH hg bZ hbox hb; have aE := aM (hbox); have aI := gF hg HB; have aJ := gF hg HB; replace HB := rS HB hb; clear hb hbox hg; have bP := cA4 aE.out) | ((with_reducible refine gC (f := 80) rfl ?_); refine gL (some 5) Try.func80 #[aA, .int .i64 1, .int .i64 9] ?_; (with_reducible refine (Z3.calls aA 1 9 true _ A2.out).mono ?_); rintro e w' ⟨rfl, ⟨nd, rfl⟩⟩; refine ⟨_, rfl, ?_⟩) | (go_at_call 80; (with_reducible refine (Z3.calls aC 1 9 true _ A4.out).mono ?_); rintro e w' ⟨rfl, ⟨nd, rfl⟩⟩) | (go_at_call 80; (with_reducible refine (Z3.calls aD 0 20 true _ A7.out).mono ?_); rintro e w' ⟨rfl, ⟨nd, rfl⟩⟩) | (go_at_call 80; (with_reducible refine (Z3.calls aG 0 3 aT _ bJ.out).mono ?_); rintro e w' ⟨rfl, ⟨nd, rfl⟩⟩))
 go_ret
 exact ⟨xW, bl HB.out⟩

end Go.Proofs.Ythmijfekdeagpaa.PFnExactReact

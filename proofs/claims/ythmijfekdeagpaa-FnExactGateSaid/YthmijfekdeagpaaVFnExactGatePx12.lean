/- A part of the proof of laws.FnExactGate. No condition beyond what its theorems say. -/
import Derived.Test.YthmijfekdeagpaaVFnExactGatePx11
namespace Go.Proofs.Ythmijfekdeagpaa.PFnExactGate
open Go.RowKit Go.Proofs.YthmijfekdeagpaaW.PrintWords Go.Proofs.YthmijfekdeagpaaW.PrintLast Go.Proofs.YthmijfekdeagpaaW.PrintMore
set_option linter.unusedVariables false
set_option linter.unusedSimpArgs false

def laws_eqCard.f (k : Nat) (aA : List Bool) (aC : List (S63)) (aD : List (S138)) (aE : List Bool) (aG : List (S63)) (aH : List (S138)) : Option (Bool) := (laws_eqBoolS.f k aA aE).bind fun aI => (if aI = true then ((laws_eqMemberS.f k aC aG).bind fun aJ => (if aJ = true then ((laws_eqHeardS.f k aD aH).bind fun aK => (if aK = true then (some true) else (some false))) else (some false))) else (some false))
theorem laws_eqCard.mono : ∀ a0 a1 a2 a3 a4 a5 k, LeO (laws_eqCard.f k a0 a1 a2 a3 a4 a5) (laws_eqCard.f (k + 1) a0 a1 a2 a3 a4 a5) := by
 intro a0 a1 a2 a3 a4 a5 k
 unfold laws_eqCard.f
 repeat' first|(with_reducible first|apply laws_eqBoolS.mono|apply laws_eqHeardS.mono|apply laws_eqMemberS.mono|exact lR _|exact lN _|refine lI ?_ ?_|refine lB ?_ fun _ => ?_)|exact lN _|refine lI ?_ ?_|refine lB ?_ fun _ => ?_
set_option maxHeartbeats 60000000 in
set_option maxRecDepth 100000 in
theorem laws_eqCard.calls (k : Nat) (aQ : Option Addr) (aT : Nat) (aD : List Bool) (aX : Option Addr) (bA : Nat) (aI : List (S63)) (bJ : Option Addr) (bK : Nat) (aK : List (S138)) (aV : Option Addr) (aW : Nat) (aE : List Bool) (bD : Option Addr) (bI : Nat) (aJ : List (S63)) (bL : Option Addr) (bM : Nat) (aN : List (S138)) (r : Bool) (w : World) (hr0_0 : Kd.C Kd.bool w aQ aD.length aD) (hc0_0 : aD.length ≤ aT) (hr0_1 : Kd.C k63 w aX aI.length aI) (hc0_1 : aI.length ≤ bA) (hr0_2 : Kd.C k138 w bJ aK.length aK) (hc0_2 : aK.length ≤ bK) (hr1_0 : Kd.C Kd.bool w aV aE.length aE) (hc1_0 : aE.length ≤ aW) (hr1_1 : Kd.C k63 w bD aJ.length aJ) (hc1_1 : aJ.length ≤ bI) (hr1_2 : Kd.C k138 w bL aN.length aN) (hc1_2 : aN.length ≤ bM) (h : laws_eqCard.f k aD aI aK aE aJ aN = some r) :
  Calls Try.prog 23 #[.agg #[.slice aQ aD.length aT, .slice aX aI.length bA, .slice bJ aK.length bK], .agg #[.slice aV aE.length aW, .slice bD aJ.length bI, .slice bL aN.length bM]] w fun e w' => e = .returned (.bool r) ∧ Below w.heap.size w w' := by
 have dS := Try.underlying43
 have bN := aM hr0_0
 have bO := aM hc0_0
 clear hr0_0 hc0_0
 have bU := aM hr0_1
 have bW := aM hc0_1
 clear hr0_1 hc0_1
 have cQ := aM hr0_2
 have cR := aM hc0_2
 clear hr0_2 hc0_2
 have bP := aM hr1_0
 have bQ := aM hc1_0
 clear hr1_0 hc1_0
 have cA := aM hr1_1
 have cC := aM hc1_1
 clear hr1_1 hc1_1
 have cS := aM hr1_2
 have cT := aM hc1_2
 clear hr1_2 hc1_2
 have HB := aM (Below.refl w.heap.size w)
 have H : ((laws_eqBoolS.f k aD aE).bind fun cN => (if cN = true then ((laws_eqMemberS.f k aI aJ).bind fun cO => (if cO = true then ((laws_eqHeardS.f k aK aN).bind fun cP => (if cP = true then (some true) else (some false))) else (some false))) else (some false))) = some r := h
 clear h
 obtain ⟨cN, cU, H⟩ := hB H
 have A3 := aM cU
 clear cU
 by_cases c4 : cN = true
 case neg =>
  replace c4 := Bool.eq_false_iff.mpr c4
  subst c4
  replace H := hF H
  obtain rfl := Option.some.inj H
  go_enter Try.func23, Try.ntmps23
  go_wp2_with (first | ((with_reducible refine gD (N := 2) rfl ?_); refine bE (N := 2) (cs := #[.slice aQ aD.length aT, .slice aX aI.length bA, .slice bJ aK.length bK]) (t := 43) ?_; intro cD hg dU hbox hb; have aA := aM (hbox); have cE := gF hg HB; have cG := gF hg HB; replace HB := rS HB hb; clear hb hbox hg) | ((with_reducible refine gD (N := 3) rfl ?_); refine bE (N := 3) (cs := #[.slice aV aE.length aW, .slice bD aJ.length bI, .slice bL aN.length bM]) (t := 43) ?_; intro cH hg dV hbox hb; have aC := aM (hbox); have cK := gF hg HB; have cL := gF hg HB; have aG := nM hg aA; have aH := nH hg aA; replace aA := rB aA hb; replace HB := rS HB hb; clear hb hbox hg; have cX := aG.out; have cY := aH.out; have dA := cA3 aA.out; have dB := cA3 aC.out) | ((with_reducible refine gC (f := 88) rfl ?_); refine gL (some 9) Try.func88 #[.slice aQ aD.length aT, .slice aV aE.length aW] ?_; (with_reducible refine (laws_eqBoolS.calls k _ _ aD _ _ aE false _ ?side1 ?side2 ?side3 ?side4 A3.out).mono ?_); (case side1 => exact cM (cB bN.out HB.out)); (case side2 => exact bO.out); (case side3 => exact cM (cB bP.out HB.out)); (case side4 => exact bQ.out); rintro e w' ⟨rfl, ⟨nd, rfl⟩⟩; refine ⟨_, rfl, ?_⟩))
  go_ret
  exact ⟨xW, bl HB.out⟩
 subst c4
 replace H := hP H rfl
 obtain ⟨cO, cV, H⟩ := hB H
 have A5 := aM cV
 clear cV
 by_cases c6 : cO = true
 case neg =>
  replace c6 := Bool.eq_false_iff.mpr c6
  subst c6
  replace H := hF H
  obtain rfl := Option.some.inj H
  go_enter Try.func23, Try.ntmps23
  go_wp2_with (first | ((with_reducible refine gD (N := 2) rfl ?_); refine bE (N := 2) (cs := #[.slice aQ aD.length aT, .slice aX aI.length bA, .slice bJ aK.length bK]) (t := 43) ?_; intro cD hg dW hbox hb; have aA := aM (hbox); have cE := gF hg HB; have cG := gF hg HB; replace HB := rS HB hb; clear hb hbox hg) | ((with_reducible refine gD (N := 3) rfl ?_); refine bE (N := 3) (cs := #[.slice aV aE.length aW, .slice bD aJ.length bI, .slice bL aN.length bM]) (t := 43) ?_; intro cH hg dX hbox hb; have aC := aM (hbox); have cK := gF hg HB; have cL := gF hg HB; have aG := nM hg aA; have aH := nH hg aA; replace aA := rB aA hb; replace HB := rS HB hb; clear hb hbox hg; have dC := aG.out; have dD := aH.out; have dE := cA3 aA.out; have dF := cA3 aC.out) | ((with_reducible refine gC (f := 88) rfl ?_); refine gL (some 9) Try.func88 #[.slice aQ aD.length aT, .slice aV aE.length aW] ?_; (with_reducible refine (laws_eqBoolS.calls k _ _ aD _ _ aE true _ ?side1 ?side2 ?side3 ?side4 A3.out).mono ?_); (case side1 => exact cM (cB bN.out HB.out)); (case side2 => exact bO.out); (case side3 => exact cM (cB bP.out HB.out)); (case side4 => exact bQ.out); rintro e w' ⟨rfl, ⟨nd, rfl⟩⟩; refine ⟨_, rfl, ?_⟩) | ((with_reducible refine gC (f := 89) rfl ?_); refine gL (some 15) Try.func89 #[.slice aX aI.length bA, .slice bD aJ.length bI] ?_; (with_reducible refine (laws_eqMemberS.calls k _ _ aI _ _ aJ false _ ?side1 ?side2 ?side3 ?side4 A5.out).mono ?_); (case side1 => exact cM (cB bU.out (bl HB.out))); (case side2 => exact bW.out); (case side3 => exact cM (cB cA.out (bl HB.out))); (case side4 => exact cC.out); rintro e dY ⟨rfl, hb⟩; refine ⟨_, rfl, ?_⟩; replace aA := rB aA hb; replace aC := rB aC hb; replace HB := rS HB hb; (try clear hb)))
  go_ret
  exact ⟨xW, bl HB.out⟩
 subst c6
 replace H := hP H rfl
 obtain ⟨cP, cW, H⟩ := hB H
 have A7 := aM cW
 clear cW
 by_cases c8 : cP = true
 case pos =>
  subst c8
  replace H := hP H rfl
  obtain rfl := Option.some.inj H
  go_enter Try.func23, Try.ntmps23
  go_wp2_with (first | ((with_reducible refine gD (N := 2) rfl ?_); refine bE (N := 2) (cs := #[.slice aQ aD.length aT, .slice aX aI.length bA, .slice bJ aK.length bK]) (t := 43) ?_; intro cD hg w9 hbox hb; have aA := aM (hbox); have cE := gF hg HB; have cG := gF hg HB; replace HB := rS HB hb; clear hb hbox hg) | ((with_reducible refine gD (N := 3) rfl ?_); refine bE (N := 3) (cs := #[.slice aV aE.length aW, .slice bD aJ.length bI, .slice bL aN.length bM]) (t := 43) ?_; intro cH hg dZ hbox hb; have aC := aM (hbox); have cK := gF hg HB; have cL := gF hg HB; have aG := nM hg aA; have aH := nH hg aA; replace aA := rB aA hb; replace HB := rS HB hb; clear hb hbox hg; have dG := aG.out; have dH := aH.out; have dI := cA3 aA.out; have dJ := cA3 aC.out) | ((with_reducible refine gC (f := 88) rfl ?_); refine gL (some 9) Try.func88 #[.slice aQ aD.length aT, .slice aV aE.length aW] ?_; (with_reducible refine (laws_eqBoolS.calls k _ _ aD _ _ aE true _ ?side1 ?side2 ?side3 ?side4 A3.out).mono ?_); (case side1 => exact cM (cB bN.out HB.out)); (case side2 => exact bO.out); (case side3 => exact cM (cB bP.out HB.out)); (case side4 => exact bQ.out); rintro e w' ⟨rfl, ⟨nd, rfl⟩⟩; refine ⟨_, rfl, ?_⟩) | ((with_reducible refine gC (f := 89) rfl ?_); refine gL (some 15) Try.func89 #[.slice aX aI.length bA, .slice bD aJ.length bI] ?_; (with_reducible refine (laws_eqMemberS.calls k _ _ aI _ _ aJ true _ ?side1 ?side2 ?side3 ?side4 A5.out).mono ?_); (case side1 => exact cM (cB bU.out (bl HB.out))); (case side2 => exact bW.out); (case side3 => exact cM (cB cA.out (bl HB.out))); (case side4 => exact cC.out); rintro e eA ⟨rfl, hb⟩; refine ⟨_, rfl, ?_⟩; replace aA := rB aA hb; replace aC := rB aC hb; replace HB := rS HB hb; (try clear hb); have dK := cA3 aA.out; have dL := cA3 aC.out) | ((with_reducible refine gC (f := 90) rfl ?_); refine gL (some 21) Try.func90 #[.slice bJ aK.length bK, .slice bL aN.length bM] ?_; (with_reducible refine (laws_eqHeardS.calls k _ _ aK _ _ aN true _ ?side1 ?side2 ?side3 ?side4 A7.out).mono ?_); (case side1 => exact cM (cB cQ.out HB.out)); (case side2 => exact cR.out); (case side3 => exact cM (cB cS.out HB.out)); (case side4 => exact cT.out); rintro e eB ⟨rfl, hb⟩; refine ⟨_, rfl, ?_⟩; replace aA := rB aA hb; replace aC := rB aC hb; replace HB := rS HB hb; (try clear hb)))
  go_ret
  exact ⟨xW, bl HB.out⟩
 replace c8 := Bool.eq_false_iff.mpr c8
 subst c8
 replace H := hF H
 obtain rfl := Option.some.inj H
 go_enter Try.func23, Try.ntmps23
 go_wp2_with (first | ((with_reducible refine gD (N := 2) rfl ?_); refine bE (N := 2) (cs := #[.slice aQ aD.length aT, .slice aX aI.length bA, .slice bJ aK.length bK]) (t := 43) ?_; intro cD hg eC hbox hb; have aA := aM (hbox); have cE := gF hg HB; have cG := gF hg HB; replace HB := rS HB hb; clear hb hbox hg) | ((with_reducible refine gD (N := 3) rfl ?_); refine bE (N := 3) (cs := #[.slice aV aE.length aW, .slice bD aJ.length bI, .slice bL aN.length bM]) (t := 43) ?_; intro cH hg eD hbox hb; have aC := aM (hbox); have cK := gF hg HB; have cL := gF hg HB; have aG := nM hg aA; have aH := nH hg aA; replace aA := rB aA hb; replace HB := rS HB hb; clear hb hbox hg; have dM := aG.out; have dN := aH.out; have dO := cA3 aA.out; have dP := cA3 aC.out) | ((with_reducible refine gC (f := 88) rfl ?_); refine gL (some 9) Try.func88 #[.slice aQ aD.length aT, .slice aV aE.length aW] ?_; (with_reducible refine (laws_eqBoolS.calls k _ _ aD _ _ aE true _ ?side1 ?side2 ?side3 ?side4 A3.out).mono ?_); (case side1 => exact cM (cB bN.out HB.out)); (case side2 => exact bO.out); (case side3 => exact cM (cB bP.out HB.out)); (case side4 => exact bQ.out); rintro e w' ⟨rfl, ⟨nd, rfl⟩⟩; refine ⟨_, rfl, ?_⟩) | ((with_reducible refine gC (f := 89) rfl ?_); refine gL (some 15) Try.func89 #[.slice aX aI.length bA, .slice bD aJ.length bI] ?_; (with_reducible refine (laws_eqMemberS.calls k _ _ aI _ _ aJ true _ ?side1 ?side2 ?side3 ?side4 A5.out).mono ?_); (case side1 => exact cM (cB bU.out (bl HB.out))); (case side2 => exact bW.out); (case side3 => exact cM (cB cA.out (bl HB.out))); (case side4 => exact cC.out); rintro e eE ⟨rfl, hb⟩; refine ⟨_, rfl, ?_⟩; replace aA := rB aA hb; replace aC := rB aC hb; replace HB := rS HB hb; (try clear hb); have dQ := cA3 aA.out; have dR := cA3 aC.out) | ((with_reducible refine gC (f := 90) rfl ?_); refine gL (some 21) Try.func90 #[.slice bJ aK.length bK, .slice bL aN.length bM] ?_; (with_reducible refine (laws_eqHeardS.calls k _ _ aK _ _ aN false _ ?side1 ?side2 ?side3 ?side4 A7.out).mono ?_); (case side1 => exact cM (cB cQ.out HB.out)); (case side2 => exact cR.out); (case side3 => exact cM (cB cS.out HB.out)); (case side4 => exact cT.out); rintro e eF ⟨rfl, hb⟩; refine ⟨_, rfl, ?_⟩; replace aA := rB aA hb; replace aC := rB aC hb; replace HB := rS HB hb; (try clear hb)))
 go_ret
 exact ⟨xW, bl HB.out⟩

def laws_markBoolS.l0 : Nat → List Bool → Int → Int → Option (Int × List Bool)
 | 0, _, _, _ => none
 | k + 1, x0, x1, x5 => if x5 < (x0.length : Int) then (if 0 ≤ x5 then (laws_markBoolS.l0 k (x0.set (x5 : Int).toNat ((Int.tmod x1 3) == 0)) (wrap64 (x1 + 1)) (wrap64 (x5 + 1))) else (none)) else (some (x1, x0))
def laws_markBoolS.f (k : Nat) (l0 : List Bool) (a1 : Int) : Option (Int × List Bool) := laws_markBoolS.l0 k l0 a1 0
theorem laws_markBoolS.mono_l : ∀ k, (∀ y0 y1 y2, LeO (laws_markBoolS.l0 k y0 y1 y2) (laws_markBoolS.l0 (k + 1) y0 y1 y2))
 | 0 => fun _ _ _ r h => by simp [laws_markBoolS.l0] at h
 | k + 1 => by
  have ih0 := laws_markBoolS.mono_l k
  ·intro y0 y1 y2
   unfold laws_markBoolS.l0
   repeat' first|(with_reducible first|apply ih0|exact lR _|exact lN _|refine lI ?_ ?_|refine lB ?_ fun _ => ?_)|exact lN _|refine lI ?_ ?_|refine lB ?_ fun _ => ?_
theorem laws_markBoolS.mono : ∀ a0 a1 k, LeO (laws_markBoolS.f k a0 a1) (laws_markBoolS.f (k + 1) a0 a1) := by
 intro a0 a1 k
 have ih0 := laws_markBoolS.mono_l k
 unfold laws_markBoolS.f
 repeat' first|(with_reducible first|apply ih0|exact lR _|exact lN _|refine lI ?_ ?_|refine lB ?_ fun _ => ?_)|exact lN _|refine lI ?_ ?_|refine lB ?_ fun _ => ?_
set_option maxHeartbeats 60000000 in
set_option maxRecDepth 100000 in
theorem laws_markBoolS.calls (k : Nat) (P0_ : Nat → Prop) (aD : Value) (l0 : List Bool) (a1 r1 : Int) (r2 : List Bool) (w0 w : World) (hB : Below w0.heap.size w0 w) (ho0 : Kd.R Kd.bool 4 w w0.heap.size P0_ aD l0) (h : laws_markBoolS.f k l0 a1 = some (r1, r2)) :
  Calls Try.prog 91 #[aD, a1] w fun e w' => e = .returned (.int .i64 r1) ∧ Kd.R Kd.bool 4 w' w0.heap.size (fun k_ => (P0_ k_ ∨ w.heap.size ≤ k_)) aD r2 ∧ Below w0.heap.size w0 w' ∧ Kept w w' (fun k_ => P0_ k_) := by
 have bA := aM (show Kd.R Kd.bool 4 w w0.heap.size (fun k_ => (P0_ k_ ∨ w.heap.size ≤ k_)) aD l0 from Kd.R_mono ho0 (fun k_ hk => (.inl hk)))
 have HK := aM (Kept.refl w (fun k_ => P0_ k_))
 have HW0 := aM hB.size
 have HB := aM hB
 clear hB
 have H : (laws_markBoolS.l0 k l0 a1 0) = some (r1, r2) := h
 clear h
 have H' := aM H
 clear H
 go_enter Try.func91, Try.ntmps91
 go_wp2
 go_loopg [1, 5] k (fun kq v1 v5 w' => ∃ (aG : List Bool) (aE : Int) (aA : Int), v1 = .int .i64 aE ∧ v5 = .int .i64 aA ∧ Aside0 (laws_markBoolS.l0 kq aG aE aA = some (r1, r2)) ∧ Aside0 (kq ≤ k) ∧ Aside0 (Kd.R Kd.bool 4 w' w0.heap.size (fun k_ => (P0_ k_ ∨ w.heap.size ≤ k_)) aD aG) ∧ Aside0 (Kept w w' (fun k_ => P0_ k_)) ∧ Aside0 (Below w0.heap.size w0 w'))
 case atStart => exact ⟨(l0), (a1), (0), xE, xE, H', ⟨Nat.le_refl _⟩, ⟨kr bA.out⟩, ⟨kk HK.out⟩, ⟨bl HB.out⟩⟩
 case round =>
  clear H'
  try clear p2
  obtain ⟨aG, aE, aA, rfl, rfl, HA, aQ, aC, HK, HB⟩ := hrel
  cases gk with
  | zero => exact absurd HA.out (by simp [laws_markBoolS.l0])
  | succ k1 =>
   have H := HA.out
   clear HA
   simp only [laws_markBoolS.l0] at H
   by_cases c3 : aA < (aG.length : Int)
   case neg =>
    rw [if_neg c3] at H
    have aX := decide_eq_false c3
    clear c3
    simp only [Option.some.injEq, Prod.mk.injEq] at H
    obtain ⟨rfl, rfl⟩ := H
    obtain ⟨bP, bQ, bD⟩ := Kd.R_slice aC.out
    subst bD
    go_wp2
    go_ret
    exact ⟨xW, by (with_reducible repeat (first | apply Kd.R_alloc | apply Kd.R_drewN | apply Kd.R_drew)); exact aC.out, bl HB.out, kk HK.out⟩
   rw [if_pos c3] at H
   have aX := decide_eq_true c3
   clear c3
   obtain ⟨bO, H⟩ := gI H
   obtain ⟨aJ, aH⟩ : ∃ y_ : List Bool, y_ = (aG.set (aA : Int).toNat ((Int.tmod aE 3) == 0)) := ⟨_, rfl⟩
   replace H : (laws_markBoolS.l0 k1 aJ (wS aE) (wS aA)) = some (r1, r2) := by first | (rw [aH]; with_reducible exact H) | (have H2_ := (Option.bind_some _ _).symm.trans H; rw [aH]; with_reducible exact H2_) | (have H2_ := (Option.bind_some _ _).symm.trans H; with_reducible exact H2_) | with_reducible exact H | (rw [aH]; exact H) | exact H
   have aN := aM aH
   clear aH
   have H' := aM H
   clear H
   obtain ⟨bU, bI, bJ⟩ := Kd.R_slice aC.out
   subst bJ
   have p5 : 0 ≤ (aA : Int) := dT
   have q5 : (aA : Int) < ((aG.length : Int) : Int) := dT
   obtain ⟨aI, bW, aT, aV, bK, cA, aW⟩ := Kd.R_form aC.out (by omega)
   (first | cases aT | (injection aT with ea_ en_ ec_; (first | subst ea_ | (injection ea_ with ea_; subst ea_)); subst ec_; clear en_))
   have bL := aM aV
   have cC := aM aW
   clear aV bK aW
   have HMgo5 := aM (show (P0_ aI ∨ w.heap.size ≤ aI) from (aC.out.1 _ rfl))
   obtain ⟨bM, bN⟩ := Kd.R_celln false aC.out (aA : Int) p5 q5
   replace p5 := eq_true p5
   replace q5 := eq_true q5
   have aK := Kd.R_putg aC.out (aA : Int) ((Int.tmod aE 3) == 0)
   go_wp2_with (first | ((with_reducible refine gate_store (t := 4) (p := 17) rfl ?_); refine store_event (t := 4) (p := 17) (v := ?vo_w8) (w1 := (wr.setCell ⟨aI, (aA : Int).toNat, none⟩ (.bool ((Int.tmod aE 3) == 0)))) ?hg ?ho ?hn ?hr ?_; (case ho => rfl); (case hg => rfl); (case hn => rfl); (case hr => first | (go_simp; done) | (go_simp; rfl) | (obtain ⟨A_, c_, e_⟩ := Kd.R_slice aC.out; subst e_; (first | (go_simp; done) | (go_simp; rfl))) | (obtain ⟨A_, c_, e_⟩ := Kd.S_slice aC.out; subst e_; (first | (go_simp; done) | (go_simp; rfl)))); intro w8 hw; have hg : wr.grownBy w8 (some aI) := (by rw [hw]; exact aK.2); have hp_ : Kd.R Kd.bool 4 w8 w0.heap.size (fun k_ => (P0_ k_ ∨ w.heap.size ≤ k_)) (.slice (some ⟨aI, 0, none⟩) aG.length bI) aJ := (by rw [hw, aN.out]; exact aK.1); clear aK; replace HB := aM ((by rw [hw]; exact below_set (HB.out) bL.out : Below w0.heap.size w0 w8)); replace HK := aM (Kept.of_grown (S := (fun k_ => P0_ k_)) hg (kk HK.out) (fun k_ e_ => (aC.out.1 k_ e_))); replace aC := aM (hp_); clear hg hw hp_))
   go_roundg k1
   case measure => have := aQ.out; omega
   case rel => exact ⟨(aJ), (wS aE), (wS aA), xE, xE, H', ⟨by have := aQ.out; omega⟩, ⟨kr aC.out⟩, ⟨kk HK.out⟩, ⟨bl HB.out⟩⟩

def laws_markIntS.l0 : Nat → List Int → Int → Int → Option (Int × List Int)
 | 0, _, _, _ => none
 | k + 1, x0, x1, x5 => if x5 < (x0.length : Int) then (if 0 ≤ x5 then (laws_markIntS.l0 k (x0.set (x5 : Int).toNat x1) (wrap64 (x1 + 1)) (wrap64 (x5 + 1))) else (none)) else (some (x1, x0))
def laws_markIntS.f (k : Nat) (l0 : List Int) (a1 : Int) : Option (Int × List Int) := laws_markIntS.l0 k l0 a1 0
theorem laws_markIntS.mono_l : ∀ k, (∀ y0 y1 y2, LeO (laws_markIntS.l0 k y0 y1 y2) (laws_markIntS.l0 (k + 1) y0 y1 y2))
 | 0 => fun _ _ _ r h => by simp [laws_markIntS.l0] at h
 | k + 1 => by
  have ih0 := laws_markIntS.mono_l k
  ·intro y0 y1 y2
   unfold laws_markIntS.l0
   repeat' first|(with_reducible first|apply ih0|exact lR _|exact lN _|refine lI ?_ ?_|refine lB ?_ fun _ => ?_)|exact lN _|refine lI ?_ ?_|refine lB ?_ fun _ => ?_
theorem laws_markIntS.mono : ∀ a0 a1 k, LeO (laws_markIntS.f k a0 a1) (laws_markIntS.f (k + 1) a0 a1) := by
 intro a0 a1 k
 have ih0 := laws_markIntS.mono_l k
 unfold laws_markIntS.f
 repeat' first|(with_reducible first|apply ih0|exact lR _|exact lN _|refine lI ?_ ?_|refine lB ?_ fun _ => ?_)|exact lN _|refine lI ?_ ?_|refine lB ?_ fun _ => ?_
set_option maxHeartbeats 60000000 in
set_option maxRecDepth 100000 in
theorem laws_markIntS.calls (k : Nat) (P0_ : Nat → Prop) (aD : Value) (l0 : List Int) (a1 r1 : Int) (r2 : List Int) (w0 w : World) (hB : Below w0.heap.size w0 w) (ho0 : Kd.R (Kd.int .i64) 3 w w0.heap.size P0_ aD l0) (h : laws_markIntS.f k l0 a1 = some (r1, r2)) :
  Calls Try.prog 155 #[aD, a1] w fun e w' => e = .returned (.int .i64 r1) ∧ Kd.R (Kd.int .i64) 3 w' w0.heap.size (fun k_ => (P0_ k_ ∨ w.heap.size ≤ k_)) aD r2 ∧ Below w0.heap.size w0 w' ∧ Kept w w' (fun k_ => P0_ k_) := by
 have bA := aM (show Kd.R (Kd.int .i64) 3 w w0.heap.size (fun k_ => (P0_ k_ ∨ w.heap.size ≤ k_)) aD l0 from Kd.R_mono ho0 (fun k_ hk => (.inl hk)))
 have HK := aM (Kept.refl w (fun k_ => P0_ k_))
 have HW0 := aM hB.size
 have HB := aM hB
 clear hB
 have H : (laws_markIntS.l0 k l0 a1 0) = some (r1, r2) := h
 clear h
 have H' := aM H
 clear H
 go_enter Try.func155, Try.ntmps155
 go_wp2
 go_loopg [1, 5] k (fun kq v1 v5 w' => ∃ (aG : List Int) (aE : Int) (aA : Int), v1 = .int .i64 aE ∧ v5 = .int .i64 aA ∧ Aside0 (laws_markIntS.l0 kq aG aE aA = some (r1, r2)) ∧ Aside0 (kq ≤ k) ∧ Aside0 (Kd.R (Kd.int .i64) 3 w' w0.heap.size (fun k_ => (P0_ k_ ∨ w.heap.size ≤ k_)) aD aG) ∧ Aside0 (Kept w w' (fun k_ => P0_ k_)) ∧ Aside0 (Below w0.heap.size w0 w'))
 case atStart => exact ⟨(l0), (a1), (0), xE, xE, H', ⟨Nat.le_refl _⟩, ⟨kr bA.out⟩, ⟨kk HK.out⟩, ⟨bl HB.out⟩⟩
 case round =>
  clear H'
  repeat first|clear c1|clear p2
  obtain ⟨aG, aE, aA, rfl, rfl, HA, aQ, aC, HK, HB⟩ := hrel
  cases gk with
  | zero => exact absurd HA.out (by simp [laws_markIntS.l0])
  | succ k1 =>
   have H := HA.out
   clear HA
   simp only [laws_markIntS.l0] at H
   by_cases c3 : aA < (aG.length : Int)
   case neg =>
    rw [if_neg c3] at H
    have aX := decide_eq_false c3
    clear c3
    simp only [Option.some.injEq, Prod.mk.injEq] at H
    obtain ⟨rfl, rfl⟩ := H
    obtain ⟨bP, bQ, bD⟩ := Kd.R_slice aC.out
    subst bD
    go_wp2
    go_ret
    exact ⟨xW, by (with_reducible repeat (first | apply Kd.R_alloc | apply Kd.R_drewN | apply Kd.R_drew)); exact aC.out, bl HB.out, kk HK.out⟩
   rw [if_pos c3] at H
   have aX := decide_eq_true c3
   clear c3
   obtain ⟨bO, H⟩ := gI H
   obtain ⟨aJ, aH⟩ : ∃ y_ : List Int, y_ = (aG.set (aA : Int).toNat aE) := ⟨_, rfl⟩
   replace H : (laws_markIntS.l0 k1 aJ (wS aE) (wS aA)) = some (r1, r2) := by first | (rw [aH]; with_reducible exact H) | (have H2_ := (Option.bind_some _ _).symm.trans H; rw [aH]; with_reducible exact H2_) | (have H2_ := (Option.bind_some _ _).symm.trans H; with_reducible exact H2_) | with_reducible exact H | (rw [aH]; exact H) | exact H
   have aN := aM aH
   clear aH
   have H' := aM H
   clear H
   obtain ⟨bU, bI, bJ⟩ := Kd.R_slice aC.out
   subst bJ
   have p5 : 0 ≤ (aA : Int) := dT
   have q5 : (aA : Int) < ((aG.length : Int) : Int) := dT
   obtain ⟨aI, bW, aT, aV, bK, cA, aW⟩ := Kd.R_form aC.out (by omega)
   (first | cases aT | (injection aT with ea_ en_ ec_; (first | subst ea_ | (injection ea_ with ea_; subst ea_)); subst ec_; clear en_))
   have bL := aM aV
   have cC := aM aW
   clear aV bK aW
   have HMgo5 := aM (show (P0_ aI ∨ w.heap.size ≤ aI) from (aC.out.1 _ rfl))
   obtain ⟨bM, bN⟩ := Kd.R_celln 0 aC.out (aA : Int) p5 q5
   replace p5 := eq_true p5
   replace q5 := eq_true q5
   have aK := Kd.R_putg aC.out (aA : Int) aE
   go_wp2_with (first | ((with_reducible refine gate_store (t := 3) (p := 15) rfl ?_); refine store_event (t := 3) (p := 15) (v := ?vo_w8) (w1 := (wr.setCell ⟨aI, (aA : Int).toNat, none⟩ (.int .i64 aE))) ?hg ?ho ?hn ?hr ?_; (case ho => rfl); (case hg => rfl); (case hn => rfl); (case hr => first | (go_simp; done) | (go_simp; rfl) | (obtain ⟨A_, c_, e_⟩ := Kd.R_slice aC.out; subst e_; (first | (go_simp; done) | (go_simp; rfl))) | (obtain ⟨A_, c_, e_⟩ := Kd.S_slice aC.out; subst e_; (first | (go_simp; done) | (go_simp; rfl)))); intro w8 hw; have hg : wr.grownBy w8 (some aI) := (by rw [hw]; exact aK.2); have hp_ : Kd.R (Kd.int .i64) 3 w8 w0.heap.size (fun k_ => (P0_ k_ ∨ w.heap.size ≤ k_)) (.slice (some ⟨aI, 0, none⟩) aG.length bI) aJ := (by rw [hw, aN.out]; exact aK.1); clear aK; replace HB := aM ((by rw [hw]; exact below_set (HB.out) bL.out : Below w0.heap.size w0 w8)); replace HK := aM (Kept.of_grown (S := (fun k_ => P0_ k_)) hg (kk HK.out) (fun k_ e_ => (aC.out.1 k_ e_))); replace aC := aM (hp_); clear hg hw hp_))
   go_roundg k1
   case measure => have := aQ.out; omega
   case rel => exact ⟨(aJ), (wS aE), (wS aA), xE, xE, H', ⟨by have := aQ.out; omega⟩, ⟨kr aC.out⟩, ⟨kk HK.out⟩, ⟨bl HB.out⟩⟩

def laws_markHeardS.l0 : Nat → List (S138) → Int → Int → Option (Int × (List (S138)))
 | 0, _, _, _ => none
 | k + 1, x0, x1, x5 => if x5 < (x0.length : Int) then (if 0 ≤ x5 then ((some (x0.set (x5 : Int).toNat (⟨x1, (rd_T138 x0 x5).f1, (rd_T138 x0 x5).f2, (rd_T138 x0 x5).f3⟩ : S138) : List (S138))).bind fun aA => ((some (aA.set (x5 : Int).toNat (⟨(rd_T138 aA x5).f0, wrap64 (x1 + 1), (rd_T138 aA x5).f2, (rd_T138 aA x5).f3⟩ : S138) : List (S138))).bind fun aC => ((some (aC.set (x5 : Int).toNat (⟨(rd_T138 aC x5).f0, (rd_T138 aC x5).f1, wrap64 ((wrap64 (x1 + 1)) + 1), (rd_T138 aC x5).f3⟩ : S138) : List (S138))).bind fun aD => (laws_markHeardS.l0 k (aD.set (x5 : Int).toNat (⟨(rd_T138 aD x5).f0, (rd_T138 aD x5).f1, (rd_T138 aD x5).f2, wrap64 ((wrap64 ((wrap64 (x1 + 1)) + 1)) + 1)⟩ : S138)) (wrap64 ((wrap64 ((wrap64 ((wrap64 (x1 + 1)) + 1)) + 1)) + 1)) (wrap64 (x5 + 1)))))) else (none)) else (some (x1, x0))
def laws_markHeardS.f (k : Nat) (l0 : List (S138)) (a1 : Int) : Option (Int × (List (S138))) := laws_markHeardS.l0 k l0 a1 0
theorem laws_markHeardS.mono_l : ∀ k, (∀ y0 y1 y2, LeO (laws_markHeardS.l0 k y0 y1 y2) (laws_markHeardS.l0 (k + 1) y0 y1 y2))
 | 0 => fun _ _ _ r h => by simp [laws_markHeardS.l0] at h
 | k + 1 => by
  have ih0 := laws_markHeardS.mono_l k
  ·intro y0 y1 y2
   unfold laws_markHeardS.l0
   repeat' first|(with_reducible first|apply ih0|exact lR _|exact lN _|refine lI ?_ ?_|refine lB ?_ fun _ => ?_)|exact lN _|refine lI ?_ ?_|refine lB ?_ fun _ => ?_
theorem laws_markHeardS.mono : ∀ a0 a1 k, LeO (laws_markHeardS.f k a0 a1) (laws_markHeardS.f (k + 1) a0 a1) := by
 intro a0 a1 k
 have ih0 := laws_markHeardS.mono_l k
 unfold laws_markHeardS.f
 repeat' first|(with_reducible first|apply ih0|exact lR _|exact lN _|refine lI ?_ ?_|refine lB ?_ fun _ => ?_)|exact lN _|refine lI ?_ ?_|refine lB ?_ fun _ => ?_
set_option maxHeartbeats 60000000 in
set_option maxRecDepth 100000 in
theorem laws_markHeardS.calls (k : Nat) (P0_ : Nat → Prop) (aI : Value) (l0 : List (S138)) (a1 r1 : Int) (r2 : List (S138)) (w0 w : World) (hB : Below w0.heap.size w0 w) (ho0 : Kd.R k138 138 w w0.heap.size P0_ aI l0) (h : laws_markHeardS.f k l0 a1 = some (r1, r2)) :
  Calls Try.prog 93 #[aI, a1] w fun e w' => e = .returned (.int .i64 r1) ∧ Kd.R k138 138 w' w0.heap.size (fun k_ => (P0_ k_ ∨ w.heap.size ≤ k_)) aI r2 ∧ Below w0.heap.size w0 w' ∧ Kept w w' (fun k_ => P0_ k_) := by
 have dX := aM (show Kd.R k138 138 w w0.heap.size (fun k_ => (P0_ k_ ∨ w.heap.size ≤ k_)) aI l0 from Kd.R_mono ho0 (fun k_ hk => (.inl hk)))
 have HK := aM (Kept.refl w (fun k_ => P0_ k_))
 have HW0 := aM hB.size
 have HB := aM hB
 clear hB
 have H : (laws_markHeardS.l0 k l0 a1 0) = some (r1, r2) := h
 clear h
 have H' := aM H
 clear H
 go_enter Try.func93, Try.ntmps93
 go_wp2
 go_loopg [1, 5] k (fun kq v1 v5 w' => ∃ (aD : List (S138)) (aE : Int) (aA : Int), v1 = .int .i64 aE ∧ v5 = .int .i64 aA ∧ Aside0 (laws_markHeardS.l0 kq aD aE aA = some (r1, r2)) ∧ Aside0 (kq ≤ k) ∧ Aside0 (Kd.R k138 138 w' w0.heap.size (fun k_ => (P0_ k_ ∨ w.heap.size ≤ k_)) aI aD) ∧ Aside0 (Kept w w' (fun k_ => P0_ k_)) ∧ Aside0 (Below w0.heap.size w0 w'))
 case atStart => exact ⟨(l0), (a1), (0), xE, xE, H', ⟨Nat.le_refl _⟩, ⟨kr dX.out⟩, ⟨kk HK.out⟩, ⟨bl HB.out⟩⟩
 case round =>
  clear H'
  try clear p2
  obtain ⟨aD, aE, aA, rfl, rfl, HA, dI, aC, HK, HB⟩ := hrel
  cases gk with
  | zero => exact absurd HA.out (by simp [laws_markHeardS.l0])
  | succ k1 =>
   have H := HA.out
   clear HA
   simp only [laws_markHeardS.l0] at H
   by_cases c3 : aA < (aD.length : Int)
   case neg =>
    rw [if_neg c3] at H
    have dQ := decide_eq_false c3
    clear c3
    simp only [Option.some.injEq, Prod.mk.injEq] at H
    obtain ⟨rfl, rfl⟩ := H
    obtain ⟨fX, fY, dR⟩ := Kd.R_slice aC.out
    subst dR
    go_wp2
    go_ret
    exact ⟨xW, by (with_reducible repeat (first | apply Kd.R_alloc | apply Kd.R_drewN | apply Kd.R_drew)); exact aC.out, bl HB.out, kk HK.out⟩
   rw [if_pos c3] at H
   have dQ := decide_eq_true c3
   clear c3
   obtain ⟨gA, H⟩ := gI H
   obtain ⟨aK, bO, H⟩ := hS H
   have dE := aM bO
   clear bO
   obtain ⟨aN, bP, H⟩ := hS H
   have dF := aM bP
   clear bP
   obtain ⟨aH, bQ, H⟩ := hS H
   have dG := aM bQ
   clear bQ
   obtain ⟨bJ, aJ⟩ : ∃ y_ : List (S138), y_ = (aH.set (aA : Int).toNat (⟨(rd_T138 aH aA).f0, (rd_T138 aH aA).f1, (rd_T138 aH aA).f2, wS (wS (wS aE))⟩ : S138)) := ⟨_, rfl⟩
   replace H : (laws_markHeardS.l0 k1 bJ (wS (wS (wS (wS aE)))) (wS aA)) = some (r1, r2) := by first | (rw [aJ]; with_reducible exact H) | (have H2_ := (Option.bind_some _ _).symm.trans H; rw [aJ]; with_reducible exact H2_) | (have H2_ := (Option.bind_some _ _).symm.trans H; with_reducible exact H2_) | with_reducible exact H | (rw [aJ]; exact H) | exact H
   have dH := aM aJ
   clear aJ
   have H' := aM H
   clear H
   obtain ⟨gK, aQ, dY⟩ := Kd.R_slice aC.out
   subst dY
   have p5 : 0 ≤ (aA : Int) := dT
   have q5 : (aA : Int) < ((aD.length : Int) : Int) := dT
   obtain ⟨aG, gM, dJ, dK, dZ, gN, dL⟩ := Kd.R_form aC.out (by omega)
   (first | cases dJ | (injection dJ with ea_ en_ ec_; (first | subst ea_ | (injection ea_ with ea_; subst ea_)); subst ec_; clear en_))
   have bU := aM dK
   have gO := aM dL
   clear dK dZ dL
   have HMgo5 := aM (show (P0_ aG ∨ w.heap.size ≤ aG) from (aC.out.1 _ rfl))
   obtain ⟨gP, dS, dM, cL, cN⟩ := Kd.R_elem aC.out z138 (aA : Int) p5 q5
   obtain rfl := k138_openM dM
   obtain ⟨eK, eL, eM, eN, eO, eP, eQ, eR⟩ := eS138 (rd_T138 aD aA) cL cN
   clear dS cL cN dM
   replace p5 := eq_true p5
   replace q5 := eq_true q5
   have cO := aM (show Kd.R k138 138 wr w0.heap.size (fun k_ => (P0_ k_ ∨ w.heap.size ≤ k_)) (.slice (some ⟨aG, 0, none⟩) aD.length aQ) aD from (kr aC.out))
   obtain ⟨gB, bW, cP, aX, cA⟩ := Kd.R_elem cO.out z138 (aA : Int) (dT) dT
   obtain rfl := k138_openM cP
   have bK := Kd.R_seg cO.out (aA : Int) (dT) dT (seg := [.int .i64 aE]) (j := 0) bW aX (show 1 ≤ 4 from by decide) (x' := (⟨aE, (rd_T138 aD aA).f1, (rd_T138 aD aA).f2, (rd_T138 aD aA).f3⟩ : S138)) (k138_mkM _ _ _ _) (fun _ hk => hk)
   have eA := cZ 4 (aX 0 _ rfl)
   have eB := fZ 4 (cA 0)
   clear bW aX cA cP
   go_wp2_with (first | ((with_reducible refine gate_store (t := 3) (p := 16) rfl ?_); refine store_event (t := 3) (p := 16) (v := ?vo_w11) (w1 := (wr.setCell ⟨aG, (aA : Int).toNat * 4, none⟩ (.int .i64 aE))) ?hg ?ho ?hn ?hr ?_; (case ho => rfl); (case hg => rfl); (case hn => rfl); (case hr => first | (go_simp; done) | (go_simp; rfl) | (obtain ⟨A_, c_, e_⟩ := Kd.R_slice aC.out; subst e_; (first | (go_simp; done) | (go_simp; rfl))) | (obtain ⟨A_, c_, e_⟩ := Kd.S_slice aC.out; subst e_; (first | (go_simp; done) | (go_simp; rfl)))); intro aT hw; have hg : wr.grownBy aT (some aG) := (by rw [hw]; exact bK.2); have hp_ : Kd.R k138 138 aT w0.heap.size (fun k_ => (P0_ k_ ∨ w.heap.size ≤ k_)) (.slice (some ⟨aG, 0, none⟩) aD.length aQ) aK := (by rw [hw, dE.out]; exact bK.1); clear bK; replace HB := aM ((by rw [hw]; exact below_set (HB.out) bU.out : Below w0.heap.size w0 aT)); replace HK := aM (Kept.of_grown (S := (fun k_ => P0_ k_)) hg (kk HK.out) (fun k_ e_ => (aC.out.1 k_ e_))); replace aC := aM (hp_); clear hg hw hp_; have p6 : 0 ≤ (aA : Int) := dT; have q6 : (aA : Int) < ((aD.length : Int) : Int) := dT; obtain ⟨gQ, dU, dN, cQ, cR⟩ := Kd.R_elem aC.out z138 (aA : Int) p6 q6; obtain rfl := k138_openM dN; obtain ⟨eS, eU, eW, fA, fB, fC, fD, fE⟩ := eS138 (rd_T138 aK aA) cQ cR; clear dU cQ cR dN; replace p6 := eq_true p6; replace q6 := eq_true q6; have cS := aM (show Kd.R k138 138 aT w0.heap.size (fun k_ => (P0_ k_ ∨ w.heap.size ≤ k_)) (.slice (some ⟨aG, 0, none⟩) aD.length aQ) aK from (kr aC.out)); obtain ⟨gG, cC, cT, bA, cD⟩ := Kd.R_elem cS.out z138 (aA : Int) (dT) dT; obtain rfl := k138_openM cT; have bL := Kd.R_seg cS.out (aA : Int) (dT) dT (seg := [.int .i64 (wS aE)]) (j := 1) cC bA (show 2 ≤ 4 from by decide) (x' := (⟨(rd_T138 aK aA).f0, wS aE, (rd_T138 aK aA).f2, (rd_T138 aK aA).f3⟩ : S138)) (k138_mkM _ _ _ _) (fun _ hk => hk); have eC := cJ 4 (bA 1 _ rfl); have eD := fJ 4 (cD 1); clear cC bA cD cT) | ((with_reducible refine gate_store (t := 3) (p := 23) rfl ?_); refine store_event (t := 3) (p := 23) (v := ?vo_w13) (w1 := (aT.setCell ⟨aG, (aA : Int).toNat * 4 + 1, none⟩ (.int .i64 (wS aE)))) ?hg ?ho ?hn ?hr ?_; (case ho => rfl); (case hg => rfl); (case hn => rfl); (case hr => first | (go_simp; done) | (go_simp; rfl) | (obtain ⟨A_, c_, e_⟩ := Kd.R_slice aC.out; subst e_; (first | (go_simp; done) | (go_simp; rfl))) | (obtain ⟨A_, c_, e_⟩ := Kd.S_slice aC.out; subst e_; (first | (go_simp; done) | (go_simp; rfl)))); intro aV hw; have hg : aT.grownBy aV (some aG) := (by rw [hw]; exact bL.2); have hp_ : Kd.R k138 138 aV w0.heap.size (fun k_ => (P0_ k_ ∨ w.heap.size ≤ k_)) (.slice (some ⟨aG, 0, none⟩) aD.length aQ) aN := (by rw [hw, dF.out]; exact bL.1); clear bL; replace HB := aM ((by rw [hw]; exact below_set (HB.out) bU.out : Below w0.heap.size w0 aV)); replace HK := aM (Kept.of_grown (S := (fun k_ => P0_ k_)) hg (kk HK.out) (fun k_ e_ => (aC.out.1 k_ e_))); replace aC := aM (hp_); clear hg hw hp_; have p7 : 0 ≤ (aA : Int) := dT; have q7 : (aA : Int) < ((aD.length : Int) : Int) := dT; obtain ⟨gR, dV, dO, cU, cV⟩ := Kd.R_elem aC.out z138 (aA : Int) p7 q7; obtain rfl := k138_openM dO; obtain ⟨fF, fG, fH, fI, fK, fL, fM, fN⟩ := eS138 (rd_T138 aN aA) cU cV; clear dV cU cV dO; replace p7 := eq_true p7; replace q7 := eq_true q7; have cW := aM (show Kd.R k138 138 aV w0.heap.size (fun k_ => (P0_ k_ ∨ w.heap.size ≤ k_)) (.slice (some ⟨aG, 0, none⟩) aD.length aQ) aN from (kr aC.out)); obtain ⟨gH, cE, cX, bD, cG⟩ := Kd.R_elem cW.out z138 (aA : Int) (dT) dT; obtain rfl := k138_openM cX; have bM := Kd.R_seg cW.out (aA : Int) (dT) dT (seg := [.int .i64 (wS (wS aE))]) (j := 2) cE bD (show 3 ≤ 4 from by decide) (x' := (⟨(rd_T138 aN aA).f0, (rd_T138 aN aA).f1, wS (wS aE), (rd_T138 aN aA).f3⟩ : S138)) (k138_mkM _ _ _ _) (fun _ hk => hk); have eE := cJ 4 (bD 2 _ rfl); have eF := fJ 4 (cG 2); clear cE bD cG cX) | ((with_reducible refine gate_store (t := 3) (p := 30) rfl ?_); refine store_event (t := 3) (p := 30) (v := ?vo_w15) (w1 := (aV.setCell ⟨aG, (aA : Int).toNat * 4 + 2, none⟩ (.int .i64 (wS (wS aE))))) ?hg ?ho ?hn ?hr ?_; (case ho => rfl); (case hg => rfl); (case hn => rfl); (case hr => first | (go_simp; done) | (go_simp; rfl) | (obtain ⟨A_, c_, e_⟩ := Kd.R_slice aC.out; subst e_; (first | (go_simp; done) | (go_simp; rfl))) | (obtain ⟨A_, c_, e_⟩ := Kd.S_slice aC.out; subst e_; (first | (go_simp; done) | (go_simp; rfl)))); intro aW hw; have hg : aV.grownBy aW (some aG) := (by rw [hw]; exact bM.2); have hp_ : Kd.R k138 138 aW w0.heap.size (fun k_ => (P0_ k_ ∨ w.heap.size ≤ k_)) (.slice (some ⟨aG, 0, none⟩) aD.length aQ) aH := (by rw [hw, dG.out]; exact bM.1); clear bM; replace HB := aM ((by rw [hw]; exact below_set (HB.out) bU.out : Below w0.heap.size w0 aW)); replace HK := aM (Kept.of_grown (S := (fun k_ => P0_ k_)) hg (kk HK.out) (fun k_ e_ => (aC.out.1 k_ e_))); replace aC := aM (hp_); clear hg hw hp_; have p8 : 0 ≤ (aA : Int) := dT; have q8 : (aA : Int) < ((aD.length : Int) : Int) := dT; obtain ⟨gS, dW, dP, cY, dA⟩ := Kd.R_elem aC.out z138 (aA : Int) p8 q8; obtain rfl := k138_openM dP; obtain ⟨fO, fP, fQ, fS, fT, fU, fV, fW⟩ := eS138 (rd_T138 aH aA) cY dA; clear dW cY dA dP; replace p8 := eq_true p8; replace q8 := eq_true q8; have dB := aM (show Kd.R k138 138 aW w0.heap.size (fun k_ => (P0_ k_ ∨ w.heap.size ≤ k_)) (.slice (some ⟨aG, 0, none⟩) aD.length aQ) aH from (kr aC.out)); obtain ⟨gJ, cH, dC, bI, cK⟩ := Kd.R_elem dB.out z138 (aA : Int) (dT) dT; obtain rfl := k138_openM dC; have bN := Kd.R_seg dB.out (aA : Int) (dT) dT (seg := [.int .i64 (wS (wS (wS aE)))]) (j := 3) cH bI (show 4 ≤ 4 from by decide) (x' := (⟨(rd_T138 aH aA).f0, (rd_T138 aH aA).f1, (rd_T138 aH aA).f2, wS (wS (wS aE))⟩ : S138)) (k138_mkM _ _ _ _) (fun _ hk => hk); have eI := cJ 4 (bI 3 _ rfl); have eJ := fJ 4 (cK 3); clear cH bI cK dC) | ((with_reducible refine gate_store (t := 3) (p := 37) rfl ?_); refine store_event (t := 3) (p := 37) (v := ?vo_w17) (w1 := (aW.setCell ⟨aG, (aA : Int).toNat * 4 + 3, none⟩ (.int .i64 (wS (wS (wS aE)))))) ?hg ?ho ?hn ?hr ?_; (case ho => rfl); (case hg => rfl); (case hn => rfl); (case hr => first | (go_simp; done) | (go_simp; rfl) | (obtain ⟨A_, c_, e_⟩ := Kd.R_slice aC.out; subst e_; (first | (go_simp; done) | (go_simp; rfl))) | (obtain ⟨A_, c_, e_⟩ := Kd.S_slice aC.out; subst e_; (first | (go_simp; done) | (go_simp; rfl)))); intro dD hw; have hg : aW.grownBy dD (some aG) := (by rw [hw]; exact bN.2); have hp_ : Kd.R k138 138 dD w0.heap.size (fun k_ => (P0_ k_ ∨ w.heap.size ≤ k_)) (.slice (some ⟨aG, 0, none⟩) aD.length aQ) bJ := (by rw [hw, dH.out]; exact bN.1); clear bN; replace HB := aM ((by rw [hw]; exact below_set (HB.out) bU.out : Below w0.heap.size w0 dD)); replace HK := aM (Kept.of_grown (S := (fun k_ => P0_ k_)) hg (kk HK.out) (fun k_ e_ => (aC.out.1 k_ e_))); replace aC := aM (hp_); clear hg hw hp_))
   go_roundg k1
   case measure => have := dI.out; omega
   case rel => exact ⟨(bJ), (wS (wS (wS (wS aE)))), (wS aA), xE, xE, H', ⟨by have := dI.out; omega⟩, ⟨kr aC.out⟩, ⟨kk HK.out⟩, ⟨bl HB.out⟩⟩

def laws_heldBoolS.l0 : Nat → List Bool → Int → Int → Option (Int)
 | 0, _, _, _ => none
 | k + 1, x0, x1, x5 => if x5 < (x0.length : Int) then (if 0 ≤ x5 then (if ((rdOf false x0 x5) != ((Int.tmod x1 3) == 0)) = true then (some (-1)) else (laws_heldBoolS.l0 k x0 (wrap64 (x1 + 1)) (wrap64 (x5 + 1)))) else (none)) else (some x1)
def laws_heldBoolS.f (k : Nat) (l0 : List Bool) (a1 : Int) : Option (Int) := laws_heldBoolS.l0 k l0 a1 0
theorem laws_heldBoolS.mono_l : ∀ k, (∀ y0 y1 y2, LeO (laws_heldBoolS.l0 k y0 y1 y2) (laws_heldBoolS.l0 (k + 1) y0 y1 y2))
 | 0 => fun _ _ _ r h => by simp [laws_heldBoolS.l0] at h
 | k + 1 => by
  have ih0 := laws_heldBoolS.mono_l k
  ·intro y0 y1 y2
   unfold laws_heldBoolS.l0
   repeat' first|(with_reducible first|apply ih0|exact lR _|exact lN _|refine lI ?_ ?_|refine lB ?_ fun _ => ?_)|exact lN _|refine lI ?_ ?_|refine lB ?_ fun _ => ?_
theorem laws_heldBoolS.mono : ∀ a0 a1 k, LeO (laws_heldBoolS.f k a0 a1) (laws_heldBoolS.f (k + 1) a0 a1) := by
 intro a0 a1 k
 have ih0 := laws_heldBoolS.mono_l k
 unfold laws_heldBoolS.f
 repeat' first|(with_reducible first|apply ih0|exact lR _|exact lN _|refine lI ?_ ?_|refine lB ?_ fun _ => ?_)|exact lN _|refine lI ?_ ?_|refine lB ?_ fun _ => ?_
set_option maxHeartbeats 60000000 in
set_option maxRecDepth 100000 in
theorem laws_heldBoolS.calls (k : Nat) (A0 : Option Addr) (c0 : Nat) (l0 : List Bool) (a1 r : Int) (w : World) (hr0 : Kd.C Kd.bool w A0 l0.length l0) (hc0 : l0.length ≤ c0) (h : laws_heldBoolS.f k l0 a1 = some r) :
  Calls Try.prog 94 #[.slice A0 l0.length c0, a1] w fun e w' => e = .returned (.int .i64 r) ∧ Drawn0 w w' := by
 have aJ := aM hr0
 have bA := aM hc0
 clear hr0 hc0
 have H : (laws_heldBoolS.l0 k l0 a1 0) = some r := h
 clear h
 have H' := aM H
 clear H
 go_enter Try.func94, Try.ntmps94
 go_wp2
 go_loopg [1, 5] k (fun kq v1 v5 w' => ∃ (aC : Int) (aA : Int), v1 = .int .i64 aC ∧ v5 = .int .i64 aA ∧ Aside0 (laws_heldBoolS.l0 kq l0 aC aA = some r) ∧ Aside0 (kq ≤ k) ∧ Drawn0 w w')
 case atStart => exact ⟨(a1), (0), xE, xE, H', ⟨Nat.le_refl _⟩, by repeat (first | exact Drawn0.refl _ | apply Drawn0.step)⟩
 case round =>
  clear H'
  try clear p2
  obtain ⟨aC, aA, rfl, rfl, HA, aK, ⟨m1, rfl⟩⟩ := hrel
  cases gk with
  | zero => exact absurd HA.out (by simp [laws_heldBoolS.l0])
  | succ k1 =>
   have H := HA.out
   clear HA
   simp only [laws_heldBoolS.l0] at H
   by_cases c3 : aA < (l0.length : Int)
   case neg =>
    rw [if_neg c3] at H
    have aN := decide_eq_false c3
    clear c3
    obtain rfl := Option.some.inj H
    go_wp2
    go_ret
    exact ⟨by first | rfl | (simp; done) | (simp [*]; done), by repeat (first | exact Drawn0.refl _ | apply Drawn0.step)⟩
   rw [if_pos c3] at H
   have aN := decide_eq_true c3
   clear c3
   obtain ⟨aW, H⟩ := gI H
   by_cases c5 : ((rdOf false l0 aA) != ((Int.tmod aC 3) == 0)) = true
   case pos =>
    rw [if_pos c5] at H
    have aQ : ((rdOf false l0 aA) != ((Int.tmod aC 3) == 0)) = true := c5
    (try (have aT : decide ((rdOf false l0 aA) = ((Int.tmod aC 3) == 0)) = false := by simpa using c5))
    (try (have aV : ((rdOf false l0 aA) == ((Int.tmod aC 3) == 0)) = false := by simpa using c5))
    (try (have aX : ¬ ((rdOf false l0 aA) = ((Int.tmod aC 3) == 0)) := by simpa using c5))
    clear c5
    obtain rfl := Option.some.inj H
    have aD : 0 ≤ (aA : Int) := dT
    have aE : aA < (l0.length : Int) := dT
    obtain ⟨aI, aG, aH⟩ := Kd.at_bool aJ.out aA aD aE
    cases aG
    replace aD := eq_true aD
    replace aE := eq_true aE
    go_wp2
    go_ret
    exact ⟨by first | rfl | (simp; done) | (simp [*]; done), by repeat (first | exact Drawn0.refl _ | apply Drawn0.step)⟩
   rw [if_neg c5] at H
   have aQ : ((rdOf false l0 aA) != ((Int.tmod aC 3) == 0)) = false := by simpa using c5
   (try (have aT : decide ((rdOf false l0 aA) = ((Int.tmod aC 3) == 0)) = true := by simpa using c5))
   (try (have aV : ((rdOf false l0 aA) == ((Int.tmod aC 3) == 0)) = true := by simpa using c5))
   clear c5
   have H' := aM H
   clear H
   have aD : 0 ≤ (aA : Int) := dT
   have aE : aA < (l0.length : Int) := dT
   obtain ⟨aI, aG, aH⟩ := Kd.at_bool aJ.out aA aD aE
   cases aG
   replace aD := eq_true aD
   replace aE := eq_true aE
   go_wp2
   go_roundg k1
   case measure => have := aK.out; omega
   case rel => exact ⟨(wS aC), (wS aA), xE, xE, H', ⟨by have := aK.out; omega⟩, by repeat (first | exact Drawn0.refl _ | apply Drawn0.step)⟩

def laws_heldIntS.l0 : Nat → List Int → Int → Int → Option (Int)
 | 0, _, _, _ => none
 | k + 1, x0, x1, x5 => if x5 < (x0.length : Int) then (if 0 ≤ x5 then (if (rd x0 x5) = x1 then (laws_heldIntS.l0 k x0 (wrap64 (x1 + 1)) (wrap64 (x5 + 1))) else (some (-1))) else (none)) else (some x1)
def laws_heldIntS.f (k : Nat) (l0 : List Int) (a1 : Int) : Option (Int) := laws_heldIntS.l0 k l0 a1 0
theorem laws_heldIntS.mono_l : ∀ k, (∀ y0 y1 y2, LeO (laws_heldIntS.l0 k y0 y1 y2) (laws_heldIntS.l0 (k + 1) y0 y1 y2))
 | 0 => fun _ _ _ r h => by simp [laws_heldIntS.l0] at h
 | k + 1 => by
  have ih0 := laws_heldIntS.mono_l k
  ·intro y0 y1 y2
   unfold laws_heldIntS.l0
   repeat' first|(with_reducible first|apply ih0|exact lR _|exact lN _|refine lI ?_ ?_|refine lB ?_ fun _ => ?_)|exact lN _|refine lI ?_ ?_|refine lB ?_ fun _ => ?_
theorem laws_heldIntS.mono : ∀ a0 a1 k, LeO (laws_heldIntS.f k a0 a1) (laws_heldIntS.f (k + 1) a0 a1) := by
 intro a0 a1 k
 have ih0 := laws_heldIntS.mono_l k
 unfold laws_heldIntS.f
 repeat' first|(with_reducible first|apply ih0|exact lR _|exact lN _|refine lI ?_ ?_|refine lB ?_ fun _ => ?_)|exact lN _|refine lI ?_ ?_|refine lB ?_ fun _ => ?_
set_option maxHeartbeats 60000000 in
set_option maxRecDepth 100000 in
theorem laws_heldIntS.calls (k : Nat) (A0 : Option Addr) (c0 : Nat) (l0 : List Int) (a1 r : Int) (w : World) (hr0 : Kd.C (Kd.int .i64) w A0 l0.length l0) (hc0 : l0.length ≤ c0) (h : laws_heldIntS.f k l0 a1 = some r) :
  Calls Try.prog 156 #[.slice A0 l0.length c0, a1] w fun e w' => e = .returned (.int .i64 r) ∧ Drawn0 w w' := by
 have aJ := aM hr0
 have aW := aM hc0
 clear hr0 hc0
 have H : (laws_heldIntS.l0 k l0 a1 0) = some r := h
 clear h
 have H' := aM H
 clear H
 go_enter Try.func156, Try.ntmps156
 go_wp2
 go_loopg [1, 5] k (fun kq v1 v5 w' => ∃ (aC : Int) (aA : Int), v1 = .int .i64 aC ∧ v5 = .int .i64 aA ∧ Aside0 (laws_heldIntS.l0 kq l0 aC aA = some r) ∧ Aside0 (kq ≤ k) ∧ Drawn0 w w')
 case atStart => exact ⟨(a1), (0), xE, xE, H', ⟨Nat.le_refl _⟩, by repeat (first | exact Drawn0.refl _ | apply Drawn0.step)⟩
 case round =>
  clear H'
  repeat first|clear c1|clear p2
  obtain ⟨aC, aA, rfl, rfl, HA, aK, ⟨m1, rfl⟩⟩ := hrel
  cases gk with
  | zero => exact absurd HA.out (by simp [laws_heldIntS.l0])
  | succ k1 =>
   have H := HA.out
   clear HA
   simp only [laws_heldIntS.l0] at H
   by_cases c3 : aA < (l0.length : Int)
   case neg =>
    rw [if_neg c3] at H
    have aN := decide_eq_false c3
    clear c3
    obtain rfl := Option.some.inj H
    go_wp2
    go_ret
    exact ⟨by first | rfl | (simp; done) | (simp [*]; done), by repeat (first | exact Drawn0.refl _ | apply Drawn0.step)⟩
   rw [if_pos c3] at H
   have aN := decide_eq_true c3
   clear c3
   obtain ⟨aV, H⟩ := gI H
   by_cases c5 : (rd l0 aA) = aC
   case neg =>
    rw [if_neg c5] at H
    have aQ : ((rd l0 aA) == aC) = false := beq_eq_false_iff_ne.mpr c5
    have aT : ((rd l0 aA) != aC) = true := bne_iff_ne.mpr c5
    obtain rfl := Option.some.inj H
    have aD : 0 ≤ (aA : Int) := dT
    have aE : aA < (l0.length : Int) := dT
    obtain ⟨aI, aG, aH⟩ := Kd.at_int aJ.out aA aD aE
    cases aG
    replace aD := eq_true aD
    replace aE := eq_true aE
    go_wp2
    go_ret
    exact ⟨by first | rfl | (simp; done) | (simp [*]; done), by repeat (first | exact Drawn0.refl _ | apply Drawn0.step)⟩
   rw [if_pos c5] at H
   have aQ : ((rd l0 aA) == aC) = true := beq_iff_eq.mpr c5
   have aT : ((rd l0 aA) != aC) = false := bne_eq_false_iff_eq.mpr c5
   clear c5
   have H' := aM H
   clear H
   have aD : 0 ≤ (aA : Int) := dT
   have aE : aA < (l0.length : Int) := dT
   obtain ⟨aI, aG, aH⟩ := Kd.at_int aJ.out aA aD aE
   cases aG
   replace aD := eq_true aD
   replace aE := eq_true aE
   go_wp2
   go_roundg k1
   case measure => have := aK.out; omega
   case rel => exact ⟨(wS aC), (wS aA), xE, xE, H', ⟨by have := aK.out; omega⟩, by repeat (first | exact Drawn0.refl _ | apply Drawn0.step)⟩

end Go.Proofs.Ythmijfekdeagpaa.PFnExactGate

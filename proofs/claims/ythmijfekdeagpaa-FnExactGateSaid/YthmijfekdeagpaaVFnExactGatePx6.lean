/- A part of the proof of laws.FnExactGate. No condition beyond what its theorems say. -/
import Derived.Test.YthmijfekdeagpaaVFnExactGatePx5
namespace Go.Proofs.Ythmijfekdeagpaa.PFnExactGate
open Go.RowKit Go.Proofs.YthmijfekdeagpaaW.PrintWords Go.Proofs.YthmijfekdeagpaaW.PrintLast Go.Proofs.YthmijfekdeagpaaW.PrintMore
set_option linter.unusedVariables false
set_option linter.unusedSimpArgs false

def laws_toCard.f (k : Nat) (aA : List Bool) (aC : List (S165)) (aD : List (S168)) : Option (List Bool × (List (S63)) × (List (S138))) := (laws_toBoolS.f k aA).bind fun aE => ((laws_toMemberS.f k aC).bind fun aG => ((laws_toHeardS.f k aD).bind fun aH => (some (aE, aG, aH))))
theorem laws_toCard.mono : ∀ a0 a1 a2 k, LeO (laws_toCard.f k a0 a1 a2) (laws_toCard.f (k + 1) a0 a1 a2) := by
 intro a0 a1 a2 k
 unfold laws_toCard.f
 repeat' first|(with_reducible first|apply laws_toBoolS.mono|apply laws_toHeardS.mono|apply laws_toMemberS.mono|exact lR _|exact lN _|refine lI ?_ ?_|refine lB ?_ fun _ => ?_)|exact lN _|refine lI ?_ ?_|refine lB ?_ fun _ => ?_
set_option maxHeartbeats 60000000 in
set_option maxRecDepth 100000 in
theorem laws_toCard.calls (k : Nat) (bK : Option Addr) (bL : Nat) (aQ : List Bool) (bM : Option Addr) (bN : Nat) (aT : List (S165)) (bO : Option Addr) (bP : Nat) (aV : List (S168)) (r1 : List Bool) (r2 : List (S63)) (r3 : List (S138)) (w : World) (hr0_0 : Kd.C Kd.bool w bK aQ.length aQ) (hc0_0 : aQ.length ≤ bL) (hr0_1 : Kd.C k165 w bM aT.length aT) (hc0_1 : aT.length ≤ bN) (hr0_2 : Kd.C k168 w bO aV.length aV) (hc0_2 : aV.length ≤ bP) (h : laws_toCard.f k aQ aT aV = some (r1, r2, r3)) :
  Calls Try.prog 21 #[.agg #[.slice bK aQ.length bL, .slice bM aT.length bN, .slice bO aV.length bP]] w fun e w' => ∃ cP cQ cR : Value, e = .returned (.agg #[cP, cQ, cR]) ∧ Kd.R Kd.bool 4 w' w.heap.size (fun _ => True) cP r1 ∧ Kd.S k63 63 w' w.heap.size (fun _ => True) cQ r2 ∧ Kd.R k138 138 w' w.heap.size (fun _ => True) cR r3 ∧ Below w.heap.size w w' := by
 have dP := Try.underlying38
 have dQ := Try.underlying43
 have cG := aM hr0_0
 have cH := aM hc0_0
 clear hr0_0 hc0_0
 have cK := aM hr0_1
 have cL := aM hc0_1
 clear hr0_1 hc0_1
 have cN := aM hr0_2
 have cO := aM hc0_2
 clear hr0_2 hc0_2
 have HB := aM (Below.refl w.heap.size w)
 have H : ((laws_toBoolS.f k aQ).bind fun aI => ((laws_toMemberS.f k aT).bind fun aK => ((laws_toHeardS.f k aV).bind fun aN => (some (aI, aK, aN))))) = some (r1, r2, r3) := h
 clear h
 obtain ⟨aI, cS, H⟩ := hB H
 have A2 := aM cS
 clear cS
 obtain ⟨aK, cT, H⟩ := hB H
 have A3 := aM cT
 clear cT
 obtain ⟨aN, cU, H⟩ := hB H
 have A4 := aM cU
 clear cU
 simp only [Option.some.injEq, Prod.mk.injEq] at H
 obtain ⟨rfl, rfl, rfl⟩ := H
 go_enter Try.func21, Try.ntmps21
 go_wp2_with (first | ((with_reducible refine gD (N := 1) rfl ?_); refine box_event ?hg (N := 1) ?hd (cs := #[.slice bK aQ.length bL, .slice bM aT.length bN, .slice bO aV.length bP]) (t := 38) ?hr ?_; (case hd => rfl); (case hg => rfl); (case hr => first | (go_simp; done) | (go_simp; rfl) | (obtain ⟨A_, c_, e_⟩ := Kd.R_slice aE.out; subst e_; (first | (go_simp; done) | (go_simp; rfl))) | (obtain ⟨A_, c_, e_⟩ := Kd.S_slice aE.out; subst e_; (first | (go_simp; done) | (go_simp; rfl))) | (obtain ⟨A_, c_, e_⟩ := Kd.R_slice aG.out; subst e_; (first | (go_simp; done) | (go_simp; rfl))) | (obtain ⟨A_, c_, e_⟩ := Kd.S_slice aG.out; subst e_; (first | (go_simp; done) | (go_simp; rfl)))); intro cY hg w5 hbox hb; have aA := aM (hbox); have dA := gF hg HB; have dB := gF hg HB; replace HB := rS HB hb; clear hb hbox hg) | ((with_reducible refine gD (N := 2) rfl ?_); refine box_event ?hg (N := 2) ?hd (cs := #[.slice none 0 0, .slice none 0 0, .slice none 0 0]) (t := 43) ?hr ?_; (case hd => rfl); (case hg => rfl); (case hr => first | (go_simp; done) | (go_simp; rfl) | (obtain ⟨A_, c_, e_⟩ := Kd.R_slice aE.out; subst e_; (first | (go_simp; done) | (go_simp; rfl))) | (obtain ⟨A_, c_, e_⟩ := Kd.S_slice aE.out; subst e_; (first | (go_simp; done) | (go_simp; rfl))) | (obtain ⟨A_, c_, e_⟩ := Kd.R_slice aG.out; subst e_; (first | (go_simp; done) | (go_simp; rfl))) | (obtain ⟨A_, c_, e_⟩ := Kd.S_slice aG.out; subst e_; (first | (go_simp; done) | (go_simp; rfl)))); intro aH hg w6 hbox hb; have aC := aM (hbox); have dC := gF hg HB; have dD := gF hg HB; have bQ := nM hg aA; have bU := nH hg aA; replace aA := rB aA hb; replace HB := rS HB hb; clear hb hbox hg) | ((with_reducible refine gD (N := 3) rfl ?_); refine box_event ?hg (N := 3) ?hd (cs := #[.slice none 0 0, .slice none 0 0, .slice none 0 0]) (t := 43) ?hr ?_; (case hd => rfl); (case hg => rfl); (case hr => first | (go_simp; done) | (go_simp; rfl) | (obtain ⟨A_, c_, e_⟩ := Kd.R_slice aE.out; subst e_; (first | (go_simp; done) | (go_simp; rfl))) | (obtain ⟨A_, c_, e_⟩ := Kd.S_slice aE.out; subst e_; (first | (go_simp; done) | (go_simp; rfl))) | (obtain ⟨A_, c_, e_⟩ := Kd.R_slice aG.out; subst e_; (first | (go_simp; done) | (go_simp; rfl))) | (obtain ⟨A_, c_, e_⟩ := Kd.S_slice aG.out; subst e_; (first | (go_simp; done) | (go_simp; rfl)))); intro aJ hg w7 hbox hb; have aD := aM (hbox); have dE := gF hg HB; have dF := gF hg HB; have bW := nM hg aA; have cA := nH hg aA; have cC := nM hg aC; have cD := nH hg aC; replace aA := rB aA hb; replace aC := rB aC hb; replace HB := rS HB hb; clear hb hbox hg; have dR := bQ.out; have dS := bU.out; have dU := bW.out; have dV := cA.out; have dG := cA3 aA.out) | ((with_reducible refine gC (f := 82) rfl ?_); refine gL (some 6) Try.func82 #[.slice bK aQ.length bL] ?_; (with_reducible refine (laws_toBoolS.calls k _ _ aQ aI _ ?side1 ?side2 A2.out).mono ?_); (case side1 => exact cM (cB cG.out HB.out)); (case side2 => exact cH.out); rintro e dZ ⟨dW, rfl, ho0, hb⟩; refine ⟨_, rfl, ?_⟩; have aE := aM (Kd.R_lower ho0 (below_size (bl HB.out))); replace aA := rB aA hb; replace aC := rB aC hb; replace aD := rB aD hb; replace HB := rS HB hb; (repeat first|clear hb|clear ho0); obtain ⟨aW, aX, cV⟩ := Kd.R_slice aE.out; subst cV; have dH := cD.out; have dI := cC.out; have dJ := cA3 aD.out; have dK := cA3 aA.out) | ((with_reducible refine gC (f := 83) rfl ?_); refine gL (some 10) Try.func83 #[.slice bM aT.length bN] ?_; (with_reducible refine (laws_toMemberS.calls k _ _ aT aK _ ?side1 ?side2 A3.out).mono ?_); (case side1 => exact cB cK.out (bl HB.out)); (case side2 => exact cL.out); rintro e eA ⟨dX, rfl, ho0, hb⟩; refine ⟨_, rfl, ?_⟩; have aG := aM (Kd.S_lower ho0 (below_size (bl HB.out))); replace aE := aM (kB (kr (Kd.R_mono (kF (p := ⟨aJ, 0, none⟩) (Kd.R_types aE.out aD.out (by decide)) (fun _ hk => hk.2) (.slice aW aI.length aX)) (fun _ h_ => h_.1))) hb); replace aA := aM (bB (fm aA.out) hb); replace aC := aM (bB (fm aC.out) hb); replace aD := aM (bB (g := aJ) (o := .cells #[.slice aW aI.length aX, .slice none 0 0, .slice none 0 0] 43 (0, 0)) (by (with_reducible repeat (first | refine blk_drewN ?_ _ | refine blk_drew ?_ | refine blk_alloc ?_ _)); refine blk_put (cs := #[.slice none 0 0, .slice none 0 0, .slice none 0 0]) ?_ 0 _ rfl; (with_reducible repeat (first | refine blk_drewN ?_ _ | refine blk_drew ?_ | refine blk_alloc ?_ _)); exact aD.out) hb); replace HB := rS HB hb; (repeat first|clear hb|clear ho0); obtain ⟨bA, bD, cW⟩ := Kd.S_slice aG.out; subst cW; have dL := cA3 aD.out; have dM := cA3 aA.out) | ((with_reducible refine gC (f := 84) rfl ?_); refine gL (some 14) Try.func84 #[.slice bO aV.length bP] ?_; (with_reducible refine (laws_toHeardS.calls k _ _ aV aN _ ?side1 ?side2 A4.out).mono ?_); (case side1 => exact cB cN.out (bl HB.out)); (case side2 => exact cO.out); rintro e eB ⟨dY, rfl, ho0, hb⟩; refine ⟨_, rfl, ?_⟩; have cE := aM (Kd.R_lower ho0 (below_size (bl HB.out))); replace aE := aM (kB (kr (Kd.R_mono (kF (p := ⟨aJ, 1, none⟩) (Kd.R_types aE.out aD.out (by decide)) (fun _ hk => hk.2) (.slice bA aK.length bD)) (fun _ h_ => h_.1))) hb); replace aG := aM (Kd.S_below (by (with_reducible repeat (first | apply Kd.S_alloc | apply Kd.S_drewN | apply Kd.S_drew)); exact (Kd.S_mono (Kd.S_far (p := ⟨aJ, 1, none⟩) (Kd.S_types aG.out aD.out (by decide)) (fun _ hk => hk.2) (.slice bA aK.length bD)) (fun _ h_ => h_.1))) hb); replace aA := aM (bB (fm aA.out) hb); replace aC := aM (bB (fm aC.out) hb); replace aD := aM (bB (g := aJ) (o := .cells #[.slice aW aI.length aX, .slice bA aK.length bD, .slice none 0 0] 43 (0, 0)) (by (with_reducible repeat (first | refine blk_drewN ?_ _ | refine blk_drew ?_ | refine blk_alloc ?_ _)); refine blk_put (cs := #[.slice aW aI.length aX, .slice none 0 0, .slice none 0 0]) ?_ 1 _ rfl; (with_reducible repeat (first | refine blk_drewN ?_ _ | refine blk_drew ?_ | refine blk_alloc ?_ _)); exact aD.out) hb); replace HB := rS HB hb; (repeat first|clear hb|clear ho0); obtain ⟨bI, bJ, cX⟩ := Kd.R_slice cE.out; subst cX; have dN := cA3 aD.out; have dO := cA3 aC.out))
 refine bodyPost_ret (results_cell_row rfl _ _ aH 43 #[.slice aW aI.length aX, .slice bA aK.length bD, .slice bI aN.length bJ] (0, 0) _ rfl (bm aC.out) Try.underlying43 rfl (by kernel_rfl)) rfl ?_
 exact ⟨_, _, _, xW, by (with_reducible repeat (first | apply Kd.R_alloc | apply Kd.R_drewN | apply Kd.R_drew)); exact Kd.R_mono (kF (p := ⟨aH, 2, none⟩) (kF (p := ⟨aH, 1, none⟩) (kF (p := ⟨aH, 0, none⟩) (kF (p := ⟨aJ, 2, none⟩) (Kd.R_types (Kd.R_types aE.out aD.out (by decide)) aC.out (by decide)) (fun _ hk => hk.1.2) (.slice bI aN.length bJ)) (fun _ hk => hk.2) (.slice aW aI.length aX)) (fun _ hk => hk.2) (.slice bA aK.length bD)) (fun _ hk => hk.2) (.slice bI aN.length bJ)) (fun _ hk => trivial), by (with_reducible repeat (first | apply Kd.S_alloc | apply Kd.S_drewN | apply Kd.S_drew)); exact Kd.S_mono (Kd.S_far (p := ⟨aH, 2, none⟩) (Kd.S_far (p := ⟨aH, 1, none⟩) (Kd.S_far (p := ⟨aH, 0, none⟩) (Kd.S_far (p := ⟨aJ, 2, none⟩) (Kd.S_types (Kd.S_types aG.out aD.out (by decide)) aC.out (by decide)) (fun _ hk => hk.1.2) (.slice bI aN.length bJ)) (fun _ hk => hk.2) (.slice aW aI.length aX)) (fun _ hk => hk.2) (.slice bA aK.length bD)) (fun _ hk => hk.2) (.slice bI aN.length bJ)) (fun _ hk => trivial), by (with_reducible repeat (first | apply Kd.R_alloc | apply Kd.R_drewN | apply Kd.R_drew)); exact Kd.R_mono (kF (p := ⟨aH, 2, none⟩) (kF (p := ⟨aH, 1, none⟩) (kF (p := ⟨aH, 0, none⟩) (kF (p := ⟨aJ, 2, none⟩) (Kd.R_types (Kd.R_types cE.out aD.out (by decide)) aC.out (by decide)) (fun _ hk => hk.1.2) (.slice bI aN.length bJ)) (fun _ hk => hk.2) (.slice aW aI.length aX)) (fun _ hk => hk.2) (.slice bA aK.length bD)) (fun _ hk => hk.2) (.slice bI aN.length bJ)) (fun _ hk => trivial), bl HB.out⟩

def impl_inRange.f (a0 a1 a2 : Int) : Option (Bool) := if a0 ≥ a1 then (some (decide (a0 ≤ a2))) else (some false)
set_option maxHeartbeats 60000000 in
set_option maxRecDepth 100000 in
theorem impl_inRange.calls (a0 a1 a2 : Int) (r : Bool) (w : World) (h : impl_inRange.f a0 a1 a2 = some r) :
  Calls Try.prog 86 #[a0, a1, a2] w fun e w' => e = .returned (.bool r) ∧ Drawn0 w w' := by
 have H : (if a0 ≥ a1 then (some (decide (a0 ≤ a2))) else (some false)) = some r := h
 clear h
 by_cases c4 : a0 ≥ a1
 case pos =>
  rw [if_pos c4] at H
  have aA := decide_eq_true c4
  clear c4
  obtain rfl := Option.some.inj H
  go_enter Try.func86, Try.ntmps86
  go_wp2
  go_ret
  exact ⟨by first | rfl | (simp; done) | (simp [*]; done), by repeat (first | exact Drawn0.refl _ | apply Drawn0.step)⟩
 rw [if_neg c4] at H
 have aA := decide_eq_false c4
 clear c4
 obtain rfl := Option.some.inj H
 go_enter Try.func86, Try.ntmps86
 go_wp2
 go_ret
 exact ⟨by first | rfl | (simp; done) | (simp [*]; done), by repeat (first | exact Drawn0.refl _ | apply Drawn0.step)⟩

def slices_Index_int_int.l0 : Nat → List Int → Int → Int → Int → Option (Int)
 | 0, _, _, _, _ => none
 | k + 1, x0, x1, x7, x8 => if x8 < x7 then (if 0 ≤ x8 then (if x8 < (x0.length : Int) then (if x1 = (rd x0 x8) then (some x8) else (slices_Index_int_int.l0 k x0 x1 x7 (wrap64 (x8 + 1)))) else (none)) else (none)) else (some (-1))
def slices_Index_int_int.f (k : Nat) (l0 : List Int) (a1 : Int) : Option (Int) := slices_Index_int_int.l0 k l0 a1 (l0.length : Int) 0
theorem slices_Index_int_int.mono_l : ∀ k, (∀ y0 y1 y2 y3, LeO (slices_Index_int_int.l0 k y0 y1 y2 y3) (slices_Index_int_int.l0 (k + 1) y0 y1 y2 y3))
 | 0 => fun _ _ _ _ r h => by simp [slices_Index_int_int.l0] at h
 | k + 1 => by
  have ih0 := slices_Index_int_int.mono_l k
  ·intro y0 y1 y2 y3
   unfold slices_Index_int_int.l0
   repeat' first|(with_reducible first|apply ih0|exact lR _|exact lN _|refine lI ?_ ?_|refine lB ?_ fun _ => ?_)|exact lN _|refine lI ?_ ?_|refine lB ?_ fun _ => ?_
theorem slices_Index_int_int.mono : ∀ a0 a1 k, LeO (slices_Index_int_int.f k a0 a1) (slices_Index_int_int.f (k + 1) a0 a1) := by
 intro a0 a1 k
 have ih0 := slices_Index_int_int.mono_l k
 unfold slices_Index_int_int.f
 repeat' first|(with_reducible first|apply ih0|exact lR _|exact lN _|refine lI ?_ ?_|refine lB ?_ fun _ => ?_)|exact lN _|refine lI ?_ ?_|refine lB ?_ fun _ => ?_
set_option maxHeartbeats 60000000 in
set_option maxRecDepth 100000 in
theorem slices_Index_int_int.calls (k : Nat) (A0 : Option Addr) (c0 : Nat) (l0 : List Int) (a1 r : Int) (w : World) (hr0 : Kd.C (Kd.int .i64) w A0 l0.length l0) (hc0 : l0.length ≤ c0) (h : slices_Index_int_int.f k l0 a1 = some r) :
  Calls Try.prog 172 #[.slice A0 l0.length c0, a1] w fun e w' => e = .returned (.int .i64 r) ∧ Drawn0 w w' := by
 have aI := aM hr0
 have aW := aM hc0
 clear hr0 hc0
 have H : (slices_Index_int_int.l0 k l0 a1 (l0.length : Int) 0) = some r := h
 clear h
 have H' := aM H
 clear H
 go_enter Try.func172, Try.ntmps172
 go_wp2
 go_loopg [8] k (fun kq v8 w' => ∃ (aA : Int), v8 = .int .i64 aA ∧ Aside0 (slices_Index_int_int.l0 kq l0 a1 (l0.length : Int) aA = some r) ∧ Aside0 (kq ≤ k) ∧ Drawn0 w w')
 case atStart => exact ⟨(0), xE, H', ⟨Nat.le_refl _⟩, by repeat (first | exact Drawn0.refl _ | apply Drawn0.step)⟩
 case round =>
  clear H'
  repeat first|clear c1|clear p2
  obtain ⟨aA, rfl, HA, aJ, ⟨m1, rfl⟩⟩ := hrel
  cases gk with
  | zero => exact absurd HA.out (by simp [slices_Index_int_int.l0])
  | succ k1 =>
   have H := HA.out
   clear HA
   simp only [slices_Index_int_int.l0] at H
   by_cases c3 : aA < (l0.length : Int)
   case neg =>
    rw [if_neg c3] at H
    have aK := decide_eq_false c3
    clear c3
    obtain rfl := Option.some.inj H
    go_wp2
    go_ret
    exact ⟨by first | rfl | (simp; done) | (simp [*]; done), by repeat (first | exact Drawn0.refl _ | apply Drawn0.step)⟩
   rw [if_pos c3] at H
   have aK := decide_eq_true c3
   clear c3
   obtain ⟨aT, H⟩ := gI H
   obtain ⟨aV, H⟩ := gI H
   by_cases c6 : a1 = (rd l0 aA)
   case pos =>
    rw [if_pos c6] at H
    have aN : (a1 == (rd l0 aA)) = true := beq_iff_eq.mpr c6
    have aQ : (a1 != (rd l0 aA)) = false := bne_eq_false_iff_eq.mpr c6
    clear c6
    obtain rfl := Option.some.inj H
    have aC : 0 ≤ (aA : Int) := dT
    have aD : aA < (l0.length : Int) := dT
    obtain ⟨aH, aE, aG⟩ := Kd.at_int aI.out aA aC aD
    cases aE
    replace aC := eq_true aC
    replace aD := eq_true aD
    go_wp2
    go_ret
    exact ⟨by first | rfl | (simp; done) | (simp [*]; done), by repeat (first | exact Drawn0.refl _ | apply Drawn0.step)⟩
   rw [if_neg c6] at H
   have aN : (a1 == (rd l0 aA)) = false := beq_eq_false_iff_ne.mpr c6
   have aQ : (a1 != (rd l0 aA)) = true := bne_iff_ne.mpr c6
   have H' := aM H
   clear H
   have aC : 0 ≤ (aA : Int) := dT
   have aD : aA < (l0.length : Int) := dT
   obtain ⟨aH, aE, aG⟩ := Kd.at_int aI.out aA aC aD
   cases aE
   replace aC := eq_true aC
   replace aD := eq_true aD
   go_wp2
   go_roundg k1
   case measure => have := aJ.out; omega
   case rel => exact ⟨(wS aA), xE, H', ⟨by have := aJ.out; omega⟩, by repeat (first | exact Drawn0.refl _ | apply Drawn0.step)⟩

def slices_Contains_int_int.f (k : Nat) (l0 : List Int) (a1 : Int) : Option (Bool) := (slices_Index_int_int.f k l0 a1).bind fun aA => (some (decide (aA ≥ 0)))
theorem slices_Contains_int_int.mono : ∀ a0 a1 k, LeO (slices_Contains_int_int.f k a0 a1) (slices_Contains_int_int.f (k + 1) a0 a1) := by
 intro a0 a1 k
 unfold slices_Contains_int_int.f
 repeat' first|(with_reducible first|apply slices_Index_int_int.mono|exact lR _|exact lN _|refine lI ?_ ?_|refine lB ?_ fun _ => ?_)|exact lN _|refine lI ?_ ?_|refine lB ?_ fun _ => ?_
set_option maxHeartbeats 60000000 in
set_option maxRecDepth 100000 in
theorem slices_Contains_int_int.calls (k : Nat) (A0 : Option Addr) (c0 : Nat) (l0 : List Int) (a1 : Int) (r : Bool) (w : World) (hr0 : Kd.C (Kd.int .i64) w A0 l0.length l0) (hc0 : l0.length ≤ c0) (h : slices_Contains_int_int.f k l0 a1 = some r) :
  Calls Try.prog 116 #[.slice A0 l0.length c0, a1] w fun e w' => e = .returned (.bool r) ∧ Drawn0 w w' := by
 have aD := aM hr0
 have aE := aM hc0
 clear hr0 hc0
 have H : ((slices_Index_int_int.f k l0 a1).bind fun aA => (some (decide (aA ≥ 0)))) = some r := h
 clear h
 obtain ⟨aA, aC, H⟩ := hB H
 have A3 := aM aC
 clear aC
 obtain rfl := Option.some.inj H
 go_enter Try.func116, Try.ntmps116
 go_wp2_with (first | ((with_reducible refine gC (f := 172) rfl ?_); refine gL (some 7) Try.func172 #[.slice A0 l0.length c0, a1] ?_; (with_reducible refine (slices_Index_int_int.calls k _ _ l0 a1 aA _ ?side1 ?side2 A3.out).mono ?_); (case side1 => exact cM aD.out); (case side2 => exact aE.out); rintro e w' ⟨rfl, ⟨nd, rfl⟩⟩; refine ⟨_, rfl, ?_⟩))
 go_ret
 exact ⟨by first | rfl | (simp; done) | (simp [*]; done), by repeat (first | exact Drawn0.refl _ | apply Drawn0.step)⟩

def impl_isVlan.f (a0 : Int) : Option (Bool) := (impl_inRange.f a0 1 4).bind fun aA => (some aA)
set_option maxHeartbeats 60000000 in
set_option maxRecDepth 100000 in
theorem impl_isVlan.calls (a0 : Int) (r : Bool) (w : World) (h : impl_isVlan.f a0 = some r) :
  Calls Try.prog 169 #[a0] w fun e w' => e = .returned (.bool r) ∧ Drawn0 w w' := by
 have H : ((impl_inRange.f a0 1 4).bind fun aA => (some aA)) = some r := h
 clear h
 obtain ⟨aA, aC, H⟩ := hB H
 have A2 := aM aC
 clear aC
 obtain rfl := Option.some.inj H
 go_enter Try.func169, Try.ntmps169
 go_wp2_with (first | ((with_reducible refine gC (f := 86) rfl ?_); refine gL (some 4) Try.func86 #[a0, .int .i64 1, .int .i64 4] ?_; (with_reducible refine (impl_inRange.calls a0 1 4 aA _ A2.out).mono ?_); rintro e w' ⟨rfl, ⟨nd, rfl⟩⟩; refine ⟨_, rfl, ?_⟩))
 go_ret
 exact ⟨by first | rfl | (simp; done) | (simp [*]; done), by repeat (first | exact Drawn0.refl _ | apply Drawn0.step)⟩

def impl_MemberOk.l0 : Nat → List Int → Int → Int → Int → List Int → Option (Bool)
 | 0, _, _, _, _, _ => none
 | k + 1, x6, x7, x8, aC, aA => if x8 < x7 then (if 0 ≤ x8 then (if x8 < (x6.length : Int) then ((impl_isVlan.f (rd x6 x8)).bind fun aD => (if aD = true then (if x8 > 0 then (if 0 ≤ (wrap64 (x8 - 1)) then (if (wrap64 (x8 - 1)) < (aA.length : Int) then (if (rd x6 x8) ≤ (rd aA (wrap64 (x8 - 1))) then (some false) else (impl_MemberOk.l0 k x6 x7 (wrap64 (x8 + 1)) aC aA)) else (none)) else (none)) else (impl_MemberOk.l0 k x6 x7 (wrap64 (x8 + 1)) aC aA)) else (some false))) else (none)) else (none)) else ((impl_isVlan.f aC).bind fun aE => (if aE = true then ((slices_Contains_int_int.f k aA aC).bind fun aG => (some aG)) else (some false)))
def impl_MemberOk.f (k : Nat) (aC : Int) (aA : List Int) : Option (Bool) := impl_MemberOk.l0 k aA (aA.length : Int) 0 aC aA
theorem impl_MemberOk.mono_l : ∀ k, (∀ y0 y1 y2 y3 y4, LeO (impl_MemberOk.l0 k y0 y1 y2 y3 y4) (impl_MemberOk.l0 (k + 1) y0 y1 y2 y3 y4))
 | 0 => fun _ _ _ _ _ r h => by simp [impl_MemberOk.l0] at h
 | k + 1 => by
  have ih0 := impl_MemberOk.mono_l k
  ·intro y0 y1 y2 y3 y4
   unfold impl_MemberOk.l0
   repeat' first|(with_reducible first|apply ih0|apply slices_Contains_int_int.mono|exact lR _|exact lN _|refine lI ?_ ?_|refine lB ?_ fun _ => ?_)|exact lN _|refine lI ?_ ?_|refine lB ?_ fun _ => ?_
theorem impl_MemberOk.mono : ∀ a0 a1 k, LeO (impl_MemberOk.f k a0 a1) (impl_MemberOk.f (k + 1) a0 a1) := by
 intro a0 a1 k
 have ih0 := impl_MemberOk.mono_l k
 unfold impl_MemberOk.f
 repeat' first|(with_reducible first|apply ih0|apply slices_Contains_int_int.mono|exact lR _|exact lN _|refine lI ?_ ?_|refine lB ?_ fun _ => ?_)|exact lN _|refine lI ?_ ?_|refine lB ?_ fun _ => ?_
set_option maxHeartbeats 60000000 in
set_option maxRecDepth 100000 in
theorem impl_MemberOk.calls (k : Nat) (aI : Int) (aX : Option Addr) (bA : Nat) (aA : List Int) (r : Bool) (w : World) (hr0_1 : Kd.C (Kd.int .i64) w aX aA.length aA) (hc0_1 : aA.length ≤ bA) (h : impl_MemberOk.f k aI aA = some r) :
  Calls Try.prog 113 #[.agg #[aI, .slice aX aA.length bA]] w fun e w' => e = .returned (.bool r) ∧ Below w.heap.size w w' := by
 have cS := Try.underlying63
 have aK := aM hr0_1
 have bN := aM hc0_1
 clear hr0_1 hc0_1
 have HB := aM (Below.refl w.heap.size w)
 have H : (impl_MemberOk.l0 k aA (aA.length : Int) 0 aI aA) = some r := h
 clear h
 have H' := aM H
 clear H
 go_enter Try.func113, Try.ntmps113
 go_wp2_with (first | ((with_reducible refine gD (N := 1) rfl ?_); refine bE (N := 1) (cs := #[aI, .slice aX aA.length bA]) (t := 63) ?_; intro bO hg w2 hbox hb; have aJ := aM (hbox); have cH := gF hg HB; have cK := gF hg HB; replace HB := rS HB hb; clear hb hbox hg; have cT := cA2 aJ.out))
 go_loopg [8] k (fun kq v8 w' => ∃ (aC : Int), v8 = .int .i64 aC ∧ Aside0 (impl_MemberOk.l0 kq aA (aA.length : Int) aC aI aA = some r) ∧ Aside0 (kq ≤ k) ∧ Aside0 (w'.heap[bO]? = some (.cells #[aI, (.slice aX aA.length bA)] 63 (0, 0))) ∧ Aside0 (Below w.heap.size w w'))
 case atStart => exact ⟨(0), xE, H', ⟨Nat.le_refl _⟩, ⟨bk aJ.out⟩, ⟨bl HB.out⟩⟩
 case round =>
  clear H'
  repeat first|clear c1|clear p2
  obtain ⟨aC, rfl, HA, bJ, aJ, HB⟩ := hrel
  cases gk with
  | zero => exact absurd HA.out (by simp [impl_MemberOk.l0])
  | succ k1 =>
   have H := HA.out
   clear HA
   simp only [impl_MemberOk.l0] at H
   by_cases c4 : aC < (aA.length : Int)
   case neg =>
    rw [if_neg c4] at H
    have bW := decide_eq_false c4
    clear c4
    obtain ⟨cA, bL, H⟩ := hB H
    have bQ := aM bL
    clear bL
    by_cases bK : cA = true
    case neg =>
     replace bK := Bool.eq_false_iff.mpr bK
     subst bK
     replace H := hF H
     obtain rfl := Option.some.inj H
     have cL := cA2 aJ.out
     go_wp2_with (first | ((with_reducible refine gC (f := 169) rfl ?_); refine gL (some 33) Try.func169 #[aI] ?_; (with_reducible refine (impl_isVlan.calls aI false _ bQ.out).mono ?_); rintro e w' ⟨rfl, ⟨nd, rfl⟩⟩; refine ⟨_, rfl, ?_⟩))
     go_ret
     exact ⟨xW, bl HB.out⟩
    subst bK
    replace H := hP H rfl
    obtain ⟨cC, bM, H⟩ := hB H
    have cG := aM bM
    clear bM
    obtain rfl := Option.some.inj H
    have cN := cA2 aJ.out
    go_wp2_with (first | ((with_reducible refine gC (f := 169) rfl ?_); refine gL (some 33) Try.func169 #[aI] ?_; (with_reducible refine (impl_isVlan.calls aI true _ bQ.out).mono ?_); rintro e w' ⟨rfl, ⟨nd, rfl⟩⟩; refine ⟨_, rfl, ?_⟩) | (go_at_call 116; (with_reducible refine (slices_Contains_int_int.calls k1 _ _ aA aI cC _ ?side1 ?side2 cG.out).mono ?_); (case side1 => exact cM (cB aK.out (bl HB.out))); (case side2 => exact bN.out); rintro e w' ⟨rfl, ⟨nd, rfl⟩⟩))
    go_ret
    exact ⟨xW, bl HB.out⟩
   rw [if_pos c4] at H
   have bW := decide_eq_true c4
   clear c4
   obtain ⟨cU, H⟩ := gI H
   obtain ⟨cV, H⟩ := gI H
   obtain ⟨cD, bU, H⟩ := hB H
   have A7 := aM bU
   clear bU
   by_cases c8 : cD = true
   case neg =>
    replace c8 := Bool.eq_false_iff.mpr c8
    subst c8
    replace H := hF H
    obtain rfl := Option.some.inj H
    have aE : 0 ≤ (aC : Int) := dT
    have aG : aC < (aA.length : Int) := dT
    obtain ⟨aV, aN, aD⟩ := Kd.at_int aK.out aC aE aG
    cases aN
    replace aD := xB HB aD
    replace aE := eq_true aE
    replace aG := eq_true aG
    go_wp2_with (first | ((with_reducible refine gC (f := 169) rfl ?_); refine gL (some 14) Try.func169 #[.int .i64 (rd aA aC)] ?_; (with_reducible refine (impl_isVlan.calls (rd aA aC) false _ A7.out).mono ?_); rintro e w' ⟨rfl, ⟨nd, rfl⟩⟩; refine ⟨_, rfl, ?_⟩))
    go_ret
    exact ⟨xW, bl HB.out⟩
   subst c8
   replace H := hP H rfl
   by_cases c9 : aC > 0
   case neg =>
    rw [if_neg c9] at H
    have cE := decide_eq_false c9
    clear c9
    have H' := aM H
    clear H
    have aE : 0 ≤ (aC : Int) := dT
    have aG : aC < (aA.length : Int) := dT
    obtain ⟨aV, aN, aD⟩ := Kd.at_int aK.out aC aE aG
    cases aN
    replace aD := xB HB aD
    replace aE := eq_true aE
    replace aG := eq_true aG
    go_wp2_with (first | ((with_reducible refine gC (f := 169) rfl ?_); refine gL (some 14) Try.func169 #[.int .i64 (rd aA aC)] ?_; (with_reducible refine (impl_isVlan.calls (rd aA aC) true _ A7.out).mono ?_); rintro e w' ⟨rfl, ⟨nd, rfl⟩⟩; refine ⟨_, rfl, ?_⟩))
    go_roundg k1
    case measure => have := bJ.out; omega
    case rel => exact ⟨(wS aC), xE, H', ⟨by have := bJ.out; omega⟩, ⟨bk aJ.out⟩, ⟨bl HB.out⟩⟩
   rw [if_pos c9] at H
   have cE := decide_eq_true c9
   clear c9
   obtain ⟨ji10, hji10⟩ : ∃ j_ : Int, (wrap64 (aC - 1)) = j_ := ⟨_, rfl⟩
   replace H : (if 0 ≤ (ji10) then (if (ji10) < (aA.length : Int) then (if (rd aA aC) ≤ (rd aA (ji10)) then (some false) else (impl_MemberOk.l0 k1 aA (aA.length : Int) (wS aC) aI aA)) else (none)) else (none)) = some r := by first | (rw [hji10] at H; exact H) | (simp only [hji10] at H ⊢; exact H)
   (try rw [hji10] at A7)
   have hji10w : (IntKind.i64.wrap (aC - 1)) = ji10 := (i64_w _).trans hji10
   obtain ⟨cO, H⟩ := gI H
   obtain ⟨cP, H⟩ := gI H
   by_cases aW : (rd aA aC) ≤ (rd aA (ji10))
   case pos =>
    rw [if_pos aW] at H
    have bP := decide_eq_true aW
    clear aW
    obtain rfl := Option.some.inj H
    have aE : 0 ≤ (aC : Int) := dT
    have aG : aC < (aA.length : Int) := dT
    obtain ⟨aV, aN, aD⟩ := Kd.at_int aK.out aC aE aG
    cases aN
    replace aD := xB HB aD
    replace aE := eq_true aE
    replace aG := eq_true aG
    go_wp2_with (first | ((with_reducible refine gC (f := 169) rfl ?_); refine gL (some 14) Try.func169 #[.int .i64 (rd aA aC)] ?_; (with_reducible refine (impl_isVlan.calls (rd aA aC) true _ A7.out).mono ?_); rintro e w' ⟨rfl, ⟨nd, rfl⟩⟩; refine ⟨_, rfl, ?_⟩; have cQ := cA2 aJ.out; have aQ : 0 ≤ ((ji10) : Int) := dT; have aT : (ji10) < (aA.length : Int) := dT; obtain ⟨bD, bI, aH⟩ := Kd.at_int aK.out (ji10) aQ aT; obtain rfl : aV = bD := (by injection bI); replace aH := (HB.out.cell (World.block_lt_of_cell? w _ aH)).trans aH; replace aQ := eq_true aQ; replace aT := eq_true aT))
    go_ret
    exact ⟨by first | rfl | (simp [errW_none, errW_some] <;> rfl) | (simp only [← hji10]; first | rfl | (simp [errW_none, errW_some] <;> rfl)) | (simp [*, errW_none, errW_some] <;> rfl), bl HB.out⟩
   rw [if_neg aW] at H
   have bP := decide_eq_false aW
   clear aW
   have H' := aM H
   clear H
   have aE : 0 ≤ (aC : Int) := dT
   have aG : aC < (aA.length : Int) := dT
   obtain ⟨aV, aN, aD⟩ := Kd.at_int aK.out aC aE aG
   cases aN
   replace aD := xB HB aD
   replace aE := eq_true aE
   replace aG := eq_true aG
   go_wp2_with (first | ((with_reducible refine gC (f := 169) rfl ?_); refine gL (some 14) Try.func169 #[.int .i64 (rd aA aC)] ?_; (with_reducible refine (impl_isVlan.calls (rd aA aC) true _ A7.out).mono ?_); rintro e w' ⟨rfl, ⟨nd, rfl⟩⟩; refine ⟨_, rfl, ?_⟩; have cR := cA2 aJ.out; have aQ : 0 ≤ ((ji10) : Int) := dT; have aT : (ji10) < (aA.length : Int) := dT; obtain ⟨bD, bI, aH⟩ := Kd.at_int aK.out (ji10) aQ aT; obtain rfl : aV = bD := (by injection bI); replace aH := (HB.out.cell (World.block_lt_of_cell? w _ aH)).trans aH; replace aQ := eq_true aQ; replace aT := eq_true aT))
   go_roundg k1
   case measure => have := bJ.out; omega
   case rel => exact ⟨(wS aC), xE, H', ⟨by have := bJ.out; omega⟩, ⟨bk aJ.out⟩, ⟨bl HB.out⟩⟩

def impl_isAddr.f (a0 : Int) : Option (Bool) := (impl_inRange.f a0 1 9).bind fun aA => (some aA)
set_option maxHeartbeats 60000000 in
set_option maxRecDepth 100000 in
theorem impl_isAddr.calls (a0 : Int) (r : Bool) (w : World) (h : impl_isAddr.f a0 = some r) :
  Calls Try.prog 129 #[a0] w fun e w' => e = .returned (.bool r) ∧ Drawn0 w w' := by
 have H : ((impl_inRange.f a0 1 9).bind fun aA => (some aA)) = some r := h
 clear h
 obtain ⟨aA, aC, H⟩ := hB H
 have A2 := aM aC
 clear aC
 obtain rfl := Option.some.inj H
 go_enter Try.func129, Try.ntmps129
 go_wp2_with (first | ((with_reducible refine gC (f := 86) rfl ?_); refine gL (some 4) Try.func86 #[a0, .int .i64 1, .int .i64 9] ?_; (with_reducible refine (impl_inRange.calls a0 1 9 aA _ A2.out).mono ?_); rintro e w' ⟨rfl, ⟨nd, rfl⟩⟩; refine ⟨_, rfl, ?_⟩))
 go_ret
 exact ⟨by first | rfl | (simp; done) | (simp [*]; done), by repeat (first | exact Drawn0.refl _ | apply Drawn0.step)⟩

def impl_ahead.f (aD aA aG aH aE aC aI aJ : Int) : Option (Bool) := if aA < aC then (some true) else (if aA = aC then (some (decide (aD < aE))) else (some false))
set_option maxHeartbeats 60000000 in
set_option maxRecDepth 100000 in
theorem impl_ahead.calls (aI aC aK aN aJ aD aQ aT : Int) (r : Bool) (w : World) (h : impl_ahead.f aI aC aK aN aJ aD aQ aT = some r) :
  Calls Try.prog 162 #[.agg #[aI, aC, aK, aN], .agg #[aJ, aD, aQ, aT]] w fun e w' => e = .returned (.bool r) ∧ Below w.heap.size w w' := by
 have bM := Try.underlying138
 have HB := aM (Below.refl w.heap.size w)
 have H : (if aC < aD then (some true) else (if aC = aD then (some (decide (aI < aJ))) else (some false))) = some r := h
 clear h
 by_cases c3 : aC < aD
 case pos =>
  rw [if_pos c3] at H
  have bJ := decide_eq_true c3
  clear c3
  obtain rfl := Option.some.inj H
  go_enter Try.func162, Try.ntmps162
  go_wp2_with (first | ((with_reducible refine gD (N := 2) rfl ?_); refine bE (N := 2) (cs := #[aI, aC, aK, aN]) (t := 138) ?_; intro aV hg w4 hbox hb; have aA := aM (hbox); have aW := gF hg HB; have aX := gF hg HB; replace HB := rS HB hb; clear hb hbox hg) | ((with_reducible refine gD (N := 3) rfl ?_); refine bE (N := 3) (cs := #[aJ, aD, aQ, aT]) (t := 138) ?_; intro bA hg w5 hbox hb; have aH := aM (hbox); have bD := gF hg HB; have bI := gF hg HB; have aE := nM hg aA; have aG := nH hg aA; replace aA := rB aA hb; replace HB := rS HB hb; clear hb hbox hg; have cD := aE.out; have cE := aG.out; have cG := cA4 aA.out; have cH := cA4 aH.out))
  go_ret
  exact ⟨xW, bl HB.out⟩
 rw [if_neg c3] at H
 have bJ := decide_eq_false c3
 clear c3
 by_cases c9 : aC = aD
 case neg =>
  rw [if_neg c9] at H
  have bK : (aC == aD) = false := beq_eq_false_iff_ne.mpr c9
  have bL : (aC != aD) = true := bne_iff_ne.mpr c9
  obtain rfl := Option.some.inj H
  go_enter Try.func162, Try.ntmps162
  go_wp2_with (first | ((with_reducible refine gD (N := 2) rfl ?_); refine bE (N := 2) (cs := #[aI, aC, aK, aN]) (t := 138) ?_; intro aV hg cK hbox hb; have aA := aM (hbox); have aW := gF hg HB; have aX := gF hg HB; replace HB := rS HB hb; clear hb hbox hg) | ((with_reducible refine gD (N := 3) rfl ?_); refine bE (N := 3) (cs := #[aJ, aD, aQ, aT]) (t := 138) ?_; intro bA hg cL hbox hb; have aH := aM (hbox); have bD := gF hg HB; have bI := gF hg HB; have aE := nM hg aA; have aG := nH hg aA; replace aA := rB aA hb; replace HB := rS HB hb; clear hb hbox hg; have bN := aE.out; have bO := aG.out; have bP := cA4 aA.out; have bQ := cA4 aH.out))
  go_ret
  exact ⟨xW, bl HB.out⟩
 rw [if_pos c9] at H
 have bK : (aC == aD) = true := beq_iff_eq.mpr c9
 have bL : (aC != aD) = false := bne_eq_false_iff_eq.mpr c9
 clear c9
 obtain rfl := Option.some.inj H
 go_enter Try.func162, Try.ntmps162
 go_wp2_with (first | ((with_reducible refine gD (N := 2) rfl ?_); refine bE (N := 2) (cs := #[aI, aC, aK, aN]) (t := 138) ?_; intro aV hg cN hbox hb; have aA := aM (hbox); have aW := gF hg HB; have aX := gF hg HB; replace HB := rS HB hb; clear hb hbox hg) | ((with_reducible refine gD (N := 3) rfl ?_); refine bE (N := 3) (cs := #[aJ, aD, aQ, aT]) (t := 138) ?_; intro bA hg cO hbox hb; have aH := aM (hbox); have bD := gF hg HB; have bI := gF hg HB; have aE := nM hg aA; have aG := nH hg aA; replace aA := rB aA hb; replace HB := rS HB hb; clear hb hbox hg; have bU := aE.out; have bW := aG.out; have cA := cA4 aA.out; have cC := cA4 aH.out))
 go_ret
 exact ⟨xW, bl HB.out⟩

def impl_isPort.f (a0 : Int) : Option (Bool) := (impl_inRange.f a0 0 3).bind fun aA => (some aA)
set_option maxHeartbeats 60000000 in
set_option maxRecDepth 100000 in
theorem impl_isPort.calls (a0 : Int) (r : Bool) (w : World) (h : impl_isPort.f a0 = some r) :
  Calls Try.prog 170 #[a0] w fun e w' => e = .returned (.bool r) ∧ Drawn0 w w' := by
 have H : ((impl_inRange.f a0 0 3).bind fun aA => (some aA)) = some r := h
 clear h
 obtain ⟨aA, aC, H⟩ := hB H
 have A2 := aM aC
 clear aC
 obtain rfl := Option.some.inj H
 go_enter Try.func170, Try.ntmps170
 go_wp2_with (first | ((with_reducible refine gC (f := 86) rfl ?_); refine gL (some 4) Try.func86 #[a0, .int .i64 0, .int .i64 3] ?_; (with_reducible refine (impl_inRange.calls a0 0 3 aA _ A2.out).mono ?_); rintro e w' ⟨rfl, ⟨nd, rfl⟩⟩; refine ⟨_, rfl, ?_⟩))
 go_ret
 exact ⟨by first | rfl | (simp; done) | (simp [*]; done), by repeat (first | exact Drawn0.refl _ | apply Drawn0.step)⟩

end Go.Proofs.Ythmijfekdeagpaa.PFnExactGate

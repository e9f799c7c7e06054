/- A part of the proof of laws.FnFades. No condition beyond what its theorems say. -/
import Derived.Test.YthmijfekdeagpaaVFnFadesPx8
namespace Go.Proofs.Ythmijfekdeagpaa.PFnFades
open Go.RowKit Go.Proofs.YthmijfekdeagpaaW.PrintWords Go.Proofs.YthmijfekdeagpaaW.PrintLast Go.Proofs.YthmijfekdeagpaaW.PrintMore
set_option linter.unusedVariables false
set_option linter.unusedSimpArgs false

def spec_BridgeOk.l0 : Nat → Int → Int → List (S79) → Option (Bool)
 | 0, _, _, _ => none
 | k + 1, x3, aC, aA => if x3 < (aA.length : Int) then (if 0 ≤ x3 then ((spec_PortOk.f k ((rd_T79 aA x3).f0) ((rd_T79 aA x3).f1) ((rd_T79 aA x3).f2.f0) ((rd_T79 aA x3).f2.f1) ((rd_T79 aA x3).f2.f2) ((rd_T79 aA x3).f2.f3) ((rd_T79 aA x3).f3) ((rd_T79 aA x3).f4) ((rd_T79 aA x3).f5) ((rd_T79 aA x3).f6) ((rd_T79 aA x3).f7)).bind fun aD => (if aD = true then (spec_BridgeOk.l0 k (wrap64 (x3 + 1)) aC aA) else (some false))) else (none)) else ((spec_l1In.f aC 1 9).bind fun aE => (if aE = true then ((spec_l1In.f (aA.length : Int) 1 4).bind fun aG => (some aG)) else (some false)))
def spec_BridgeOk.f (k : Nat) (aA : Int) (aC : List (S79)) : Option (Bool) := spec_BridgeOk.l0 k 0 aA aC
theorem spec_BridgeOk.mono_l : ∀ k, (∀ y0 y1 y2, LeO (spec_BridgeOk.l0 k y0 y1 y2) (spec_BridgeOk.l0 (k + 1) y0 y1 y2))
 | 0 => fun _ _ _ r h => by simp [spec_BridgeOk.l0] at h
 | k + 1 => by
  have ih0 := spec_BridgeOk.mono_l k
  ·intro y0 y1 y2
   unfold spec_BridgeOk.l0
   repeat' first|(with_reducible first|apply ih0|apply spec_PortOk.mono|exact lR _|exact lN _|refine lI ?_ ?_|refine lB ?_ fun _ => ?_)|exact lN _|refine lI ?_ ?_|refine lB ?_ fun _ => ?_
theorem spec_BridgeOk.mono : ∀ a0 a1 k, LeO (spec_BridgeOk.f k a0 a1) (spec_BridgeOk.f (k + 1) a0 a1) := by
 intro a0 a1 k
 have ih0 := spec_BridgeOk.mono_l k
 unfold spec_BridgeOk.f
 repeat' first|(with_reducible first|apply ih0|apply spec_PortOk.mono|exact lR _|exact lN _|refine lI ?_ ?_|refine lB ?_ fun _ => ?_)|exact lN _|refine lI ?_ ?_|refine lB ?_ fun _ => ?_
set_option maxHeartbeats 60000000 in
set_option maxRecDepth 100000 in
theorem spec_BridgeOk.calls (k : Nat) (aG : Int) (bG : Option Addr) (bH : Nat) (aA : List (S79)) (r : Bool) (w : World) (hr0_1 : Kd.C k79 w bG aA.length aA) (hc0_1 : aA.length ≤ bH) (h : spec_BridgeOk.f k aG aA = some r) :
  Calls Try.prog 46 #[.agg #[aG, .slice bG aA.length bH]] w fun e w' => e = .returned (.bool r) ∧ Below w.heap.size w w' := by
 have cG := Try.underlying28
 have cH := Try.underlying79
 have bJ := aM hr0_1
 have bZ := aM hc0_1
 clear hr0_1 hc0_1
 have HB := aM (Below.refl w.heap.size w)
 have H : (spec_BridgeOk.l0 k 0 aG aA) = some r := h
 clear h
 have H' := aM H
 clear H
 go_enter Try.func46, Try.ntmps46
 go_wp2_with (first | ((with_reducible refine gD (N := 1) rfl ?_); (try (refine gate_guard (by rfl) ?_; dsimp only)); refine bE (N := 1) (cs := #[aG, .slice bG aA.length bH]) (t := 28) ?_; intro bN hg w2 hbox hb; have aD := aM (hbox); have cA := gF hg HB; have cC := gF hg HB; replace HB := rS HB hb; clear hb hbox hg))
 go_loopg [3] k (fun kq v3 w' => ∃ (aC : Int), v3 = .int .i64 aC ∧ Aside0 (spec_BridgeOk.l0 kq aC aG aA = some r) ∧ Aside0 (kq ≤ k) ∧ Aside0 (w'.heap[bN]? = some (.cells #[aG, (.slice bG aA.length bH)] 28 (0, 0))) ∧ Aside0 (Below w.heap.size w w'))
 case atStart => exact ⟨(0), xE, H', ⟨Nat.le_refl _⟩, ⟨bk aD.out⟩, ⟨bl HB.out⟩⟩
 case round =>
  clear H'
  try clear p2
  obtain ⟨aC, rfl, HA, bP, aD, HB⟩ := hrel
  cases gk with
  | zero => exact absurd HA.out (by simp [spec_BridgeOk.l0])
  | succ k1 =>
   have H := HA.out
   clear HA
   simp only [spec_BridgeOk.l0] at H
   by_cases c3 : aC < (aA.length : Int)
   case neg =>
    rw [if_neg c3] at H
    have bU := decide_eq_false c3
    clear c3
    obtain ⟨bV, bL, H⟩ := hB H
    have bQ := aM bL
    clear bL
    by_cases bK : bV = true
    case neg =>
     replace bK := Bool.eq_false_iff.mpr bK
     subst bK
     replace H := hF H
     obtain rfl := Option.some.inj H
     have cD := cA2 aD.out
     go_wp2_with (first | ((with_reducible refine gC (f := 80) rfl ?_); refine gL (some 20) Try.func80 #[aG, .int .i64 1, .int .i64 9] ?_; (with_reducible refine (spec_l1In.calls aG 1 9 false _ bQ.out).mono ?_); rintro e w' ⟨rfl, ⟨nd, rfl⟩⟩; refine ⟨_, rfl, ?_⟩))
     go_ret
     exact ⟨xW, bl HB.out⟩
    subst bK
    replace H := hP H rfl
    obtain ⟨bW, bM, H⟩ := hB H
    have bY := aM bM
    clear bM
    obtain rfl := Option.some.inj H
    have cE := cA2 aD.out
    go_wp2_with (first | ((with_reducible refine gC (f := 80) rfl ?_); refine gL (some 20) Try.func80 #[aG, .int .i64 1, .int .i64 9] ?_; (with_reducible refine (spec_l1In.calls aG 1 9 true _ bQ.out).mono ?_); rintro e w' ⟨rfl, ⟨nd, rfl⟩⟩; refine ⟨_, rfl, ?_⟩) | (go_at_call 80; (with_reducible refine (spec_l1In.calls (aA.length : Int) 1 4 bW _ bY.out).mono ?_); rintro e w' ⟨rfl, ⟨nd, rfl⟩⟩))
    go_ret
    exact ⟨xW, bl HB.out⟩
   rw [if_pos c3] at H
   have bU := decide_eq_true c3
   clear c3
   obtain ⟨cK, H⟩ := gI H
   obtain ⟨bX, bT, H⟩ := hB H
   have A5 := aM bT
   clear bT
   by_cases c6 : bX = true
   case neg =>
    replace c6 := Bool.eq_false_iff.mpr c6
    subst c6
    replace H := hF H
    obtain rfl := Option.some.inj H
    have cL := cA2 aD.out
    have bA : 0 ≤ (aC : Int) := dT
    have bD : aC < (aA.length : Int) := dT
    obtain ⟨bO, bI, aH, aI, aJ, aK, aN, aQ, aT, aV, aW, aX, aE⟩ := at_T79 bJ.out aC bA bD
    cases bI
    replace aH := xB HB aH
    replace aI := xB HB aI
    replace aJ := xB HB aJ
    replace aK := xB HB aK
    replace aN := xB HB aN
    replace aQ := xB HB aQ
    replace aT := xB HB aT
    replace aV := xB HB aV
    replace aW := xB HB aW
    replace aX := xB HB aX
    replace aE := xB HB aE
    replace bA := eq_true bA
    replace bD := eq_true bD
    go_wp2_with (first | ((with_reducible refine gC (f := 123) rfl ?_); refine gL (some 16) Try.func123 #[.agg #[((rd_T79 aA aC).f0), ((rd_T79 aA aC).f1), ((rd_T79 aA aC).f2.f0), ((rd_T79 aA aC).f2.f1), ((rd_T79 aA aC).f2.f2), ((rd_T79 aA aC).f2.f3), ((rd_T79 aA aC).f3), ((rd_T79 aA aC).f4), ((rd_T79 aA aC).f5), ((rd_T79 aA aC).f6), ((rd_T79 aA aC).f7)]] ?_; (with_reducible refine (spec_PortOk.calls k1 ((rd_T79 aA aC).f0) ((rd_T79 aA aC).f1) ((rd_T79 aA aC).f2.f0) ((rd_T79 aA aC).f2.f1) ((rd_T79 aA aC).f2.f2) ((rd_T79 aA aC).f2.f3) ((rd_T79 aA aC).f3) ((rd_T79 aA aC).f4) ((rd_T79 aA aC).f5) ((rd_T79 aA aC).f6) ((rd_T79 aA aC).f7) false _ A5.out).mono ?_); rintro e cO ⟨rfl, hb⟩; refine ⟨_, rfl, ?_⟩; replace aD := rB aD hb; replace HB := rS HB hb; (try clear hb)))
    go_ret
    exact ⟨xW, bl HB.out⟩
   subst c6
   replace H := hP H rfl
   have H' := aM H
   clear H
   have cN := cA2 aD.out
   have bA : 0 ≤ (aC : Int) := dT
   have bD : aC < (aA.length : Int) := dT
   obtain ⟨bO, bI, aH, aI, aJ, aK, aN, aQ, aT, aV, aW, aX, aE⟩ := at_T79 bJ.out aC bA bD
   cases bI
   replace aH := xB HB aH
   replace aI := xB HB aI
   replace aJ := xB HB aJ
   replace aK := xB HB aK
   replace aN := xB HB aN
   replace aQ := xB HB aQ
   replace aT := xB HB aT
   replace aV := xB HB aV
   replace aW := xB HB aW
   replace aX := xB HB aX
   replace aE := xB HB aE
   replace bA := eq_true bA
   replace bD := eq_true bD
   go_wp2_with (first | ((with_reducible refine gC (f := 123) rfl ?_); refine gL (some 16) Try.func123 #[.agg #[((rd_T79 aA aC).f0), ((rd_T79 aA aC).f1), ((rd_T79 aA aC).f2.f0), ((rd_T79 aA aC).f2.f1), ((rd_T79 aA aC).f2.f2), ((rd_T79 aA aC).f2.f3), ((rd_T79 aA aC).f3), ((rd_T79 aA aC).f4), ((rd_T79 aA aC).f5), ((rd_T79 aA aC).f6), ((rd_T79 aA aC).f7)]] ?_; (with_reducible refine (spec_PortOk.calls k1 ((rd_T79 aA aC).f0) ((rd_T79 aA aC).f1) ((rd_T79 aA aC).f2.f0) ((rd_T79 aA aC).f2.f1) ((rd_T79 aA aC).f2.f2) ((rd_T79 aA aC).f2.f3) ((rd_T79 aA aC).f3) ((rd_T79 aA aC).f4) ((rd_T79 aA aC).f5) ((rd_T79 aA aC).f6) ((rd_T79 aA aC).f7) true _ A5.out).mono ?_); rintro e w8 ⟨rfl, hb⟩; refine ⟨_, rfl, ?_⟩; replace aD := rB aD hb; replace HB := rS HB hb; (try clear hb)))
   go_roundg k1
   case measure => have := bP.out; omega
   case rel => exact ⟨(wS aC), xE, H', ⟨by have := bP.out; omega⟩, ⟨bk aD.out⟩, ⟨bl HB.out⟩⟩

def spec_Better.f (aA aC aD aI aE aG aH aJ : Int) : Option (Bool) := if aA = aE then (if aC = aG then (if aD = aH then (some (decide (aI < aJ))) else (some (decide (aD < aH)))) else (some (decide (aC < aG)))) else (some (decide (aA < aE)))
set_option maxHeartbeats 60000000 in
set_option maxRecDepth 100000 in
theorem spec_Better.calls (aE aG aH aQ aI aJ aK aT : Int) (r : Bool) (w : World) (h : spec_Better.f aE aG aH aQ aI aJ aK aT = some r) :
  Calls Try.prog 68 #[.agg #[aE, aG, aH, aQ], .agg #[aI, aJ, aK, aT]] w fun e w' => e = .returned (.bool r) ∧ Below w.heap.size w w' := by
 have cD := Try.underlying73
 have HB := aM (Below.refl w.heap.size w)
 have H : (if aE = aI then (if aG = aJ then (if aH = aK then (some (decide (aQ < aT))) else (some (decide (aH < aK)))) else (some (decide (aG < aJ)))) else (some (decide (aE < aI)))) = some r := h
 clear h
 by_cases c3 : aE = aI
 case neg =>
  rw [if_neg c3] at H
  have bH : (aE == aI) = false := beq_eq_false_iff_ne.mpr c3
  have bI : (aE != aI) = true := bne_iff_ne.mpr c3
  obtain rfl := Option.some.inj H
  go_enter Try.func68, Try.ntmps68
  go_wp2_with (first | ((with_reducible refine gD (N := 2) rfl ?_); refine bE (N := 2) (cs := #[aE, aG, aH, aQ]) (t := 73) ?_; intro aV hg cK hbox hb; have aA := aM (hbox); have aW := gF hg HB; have aX := gF hg HB; replace HB := rS HB hb; clear hb hbox hg) | ((with_reducible refine gD (N := 3) rfl ?_); refine bE (N := 3) (cs := #[aI, aJ, aK, aT]) (t := 73) ?_; intro bA hg cL hbox hb; have aN := aM (hbox); have bD := gF hg HB; have bG := gF hg HB; have aC := nM hg aA; have aD := nH hg aA; replace aA := rB aA hb; replace HB := rS HB hb; clear hb hbox hg; have bN := aC.out; have bO := aD.out; have bP := cA4 aA.out; have bQ := cA4 aN.out))
  go_ret
  exact ⟨xW, bl HB.out⟩
 rw [if_pos c3] at H
 have bH : (aE == aI) = true := beq_iff_eq.mpr c3
 have bI : (aE != aI) = false := bne_eq_false_iff_eq.mpr c3
 clear c3
 by_cases c4 : aG = aJ
 case neg =>
  rw [if_neg c4] at H
  have bJ : (aG == aJ) = false := beq_eq_false_iff_ne.mpr c4
  have bK : (aG != aJ) = true := bne_iff_ne.mpr c4
  obtain rfl := Option.some.inj H
  go_enter Try.func68, Try.ntmps68
  go_wp2_with (first | ((with_reducible refine gD (N := 2) rfl ?_); refine bE (N := 2) (cs := #[aE, aG, aH, aQ]) (t := 73) ?_; intro aV hg cN hbox hb; have aA := aM (hbox); have aW := gF hg HB; have aX := gF hg HB; replace HB := rS HB hb; clear hb hbox hg) | ((with_reducible refine gD (N := 3) rfl ?_); refine bE (N := 3) (cs := #[aI, aJ, aK, aT]) (t := 73) ?_; intro bA hg cO hbox hb; have aN := aM (hbox); have bD := gF hg HB; have bG := gF hg HB; have aC := nM hg aA; have aD := nH hg aA; replace aA := rB aA hb; replace HB := rS HB hb; clear hb hbox hg; have bT := aC.out; have bU := aD.out; have bV := cA4 aA.out; have bW := cA4 aN.out))
  go_ret
  exact ⟨xW, bl HB.out⟩
 rw [if_pos c4] at H
 have bJ : (aG == aJ) = true := beq_iff_eq.mpr c4
 have bK : (aG != aJ) = false := bne_eq_false_iff_eq.mpr c4
 clear c4
 by_cases c5 : aH = aK
 case neg =>
  rw [if_neg c5] at H
  have bL : (aH == aK) = false := beq_eq_false_iff_ne.mpr c5
  have bM : (aH != aK) = true := bne_iff_ne.mpr c5
  obtain rfl := Option.some.inj H
  go_enter Try.func68, Try.ntmps68
  go_wp2_with (first | ((with_reducible refine gD (N := 2) rfl ?_); refine bE (N := 2) (cs := #[aE, aG, aH, aQ]) (t := 73) ?_; intro aV hg cP hbox hb; have aA := aM (hbox); have aW := gF hg HB; have aX := gF hg HB; replace HB := rS HB hb; clear hb hbox hg) | ((with_reducible refine gD (N := 3) rfl ?_); refine bE (N := 3) (cs := #[aI, aJ, aK, aT]) (t := 73) ?_; intro bA hg cQ hbox hb; have aN := aM (hbox); have bD := gF hg HB; have bG := gF hg HB; have aC := nM hg aA; have aD := nH hg aA; replace aA := rB aA hb; replace HB := rS HB hb; clear hb hbox hg; have bX := aC.out; have bY := aD.out; have bZ := cA4 aA.out; have cA := cA4 aN.out))
  go_ret
  exact ⟨xW, bl HB.out⟩
 rw [if_pos c5] at H
 have bL : (aH == aK) = true := beq_iff_eq.mpr c5
 have bM : (aH != aK) = false := bne_eq_false_iff_eq.mpr c5
 clear c5
 obtain rfl := Option.some.inj H
 go_enter Try.func68, Try.ntmps68
 go_wp2_with (first | ((with_reducible refine gD (N := 2) rfl ?_); refine bE (N := 2) (cs := #[aE, aG, aH, aQ]) (t := 73) ?_; intro aV hg w6 hbox hb; have aA := aM (hbox); have aW := gF hg HB; have aX := gF hg HB; replace HB := rS HB hb; clear hb hbox hg) | ((with_reducible refine gD (N := 3) rfl ?_); refine bE (N := 3) (cs := #[aI, aJ, aK, aT]) (t := 73) ?_; intro bA hg w7 hbox hb; have aN := aM (hbox); have bD := gF hg HB; have bG := gF hg HB; have aC := nM hg aA; have aD := nH hg aA; replace aA := rB aA hb; replace HB := rS HB hb; clear hb hbox hg; have cE := aC.out; have cG := aD.out; have cH := cA4 aA.out; have cC := cA4 aN.out))
 go_ret
 exact ⟨xW, bl HB.out⟩

end Go.Proofs.Ythmijfekdeagpaa.PFnFades

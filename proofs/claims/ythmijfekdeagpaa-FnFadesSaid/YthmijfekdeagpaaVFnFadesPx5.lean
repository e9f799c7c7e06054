/- A part of the proof of laws.FnFades. No condition beyond what its theorems say. -/
import Derived.Test.YthmijfekdeagpaaVFnFadesPx4
namespace Go.Proofs.Ythmijfekdeagpaa.PFnFades
open Go.RowKit Go.Proofs.YthmijfekdeagpaaW.PrintWords Go.Proofs.YthmijfekdeagpaaW.PrintLast Go.Proofs.YthmijfekdeagpaaW.PrintMore
set_option linter.unusedVariables false
set_option linter.unusedSimpArgs false

def impl_BridgeOk.l0 : Nat → List (S79) → Int → Int → Int → List (S79) → Option (Bool)
 | 0, _, _, _, _, _ => none
 | k + 1, x6, x7, x8, aA, aC => if x8 < x7 then (if 0 ≤ x8 then (if x8 < (x6.length : Int) then ((impl_PortOk.f k ((rd_T79 x6 x8).f0) ((rd_T79 x6 x8).f1) ((rd_T79 x6 x8).f2.f0) ((rd_T79 x6 x8).f2.f1) ((rd_T79 x6 x8).f2.f2) ((rd_T79 x6 x8).f2.f3) ((rd_T79 x6 x8).f3) ((rd_T79 x6 x8).f4) ((rd_T79 x6 x8).f5) ((rd_T79 x6 x8).f6) ((rd_T79 x6 x8).f7)).bind fun aD => (if aD = true then (impl_BridgeOk.l0 k x6 x7 (wrap64 (x8 + 1)) aA aC) else (some false))) else (none)) else (none)) else ((impl_inRange.f aA 1 9).bind fun aE => (if aE = true then ((impl_inRange.f (aC.length : Int) 1 4).bind fun aG => (some aG)) else (some false)))
def impl_BridgeOk.f (k : Nat) (aC : Int) (aA : List (S79)) : Option (Bool) := impl_BridgeOk.l0 k aA (aA.length : Int) 0 aC aA
theorem impl_BridgeOk.mono_l : ∀ k, (∀ y0 y1 y2 y3 y4, LeO (impl_BridgeOk.l0 k y0 y1 y2 y3 y4) (impl_BridgeOk.l0 (k + 1) y0 y1 y2 y3 y4))
 | 0 => fun _ _ _ _ _ r h => by simp [impl_BridgeOk.l0] at h
 | k + 1 => by
  have ih0 := impl_BridgeOk.mono_l k
  ·intro y0 y1 y2 y3 y4
   unfold impl_BridgeOk.l0
   repeat' first|(with_reducible first|apply ih0|apply impl_PortOk.mono|exact lR _|exact lN _|refine lI ?_ ?_|refine lB ?_ fun _ => ?_)|exact lN _|refine lI ?_ ?_|refine lB ?_ fun _ => ?_
theorem impl_BridgeOk.mono : ∀ a0 a1 k, LeO (impl_BridgeOk.f k a0 a1) (impl_BridgeOk.f (k + 1) a0 a1) := by
 intro a0 a1 k
 have ih0 := impl_BridgeOk.mono_l k
 unfold impl_BridgeOk.f
 repeat' first|(with_reducible first|apply ih0|apply impl_PortOk.mono|exact lR _|exact lN _|refine lI ?_ ?_|refine lB ?_ fun _ => ?_)|exact lN _|refine lI ?_ ?_|refine lB ?_ fun _ => ?_
set_option maxHeartbeats 60000000 in
set_option maxRecDepth 100000 in
theorem impl_BridgeOk.calls (k : Nat) (aG : Int) (bJ : Option Addr) (bK : Nat) (aA : List (S79)) (r : Bool) (w : World) (hr0_1 : Kd.C k79 w bJ aA.length aA) (hc0_1 : aA.length ≤ bK) (h : impl_BridgeOk.f k aG aA = some r) :
  Calls Try.prog 45 #[.agg #[aG, .slice bJ aA.length bK]] w fun e w' => e = .returned (.bool r) ∧ Below w.heap.size w w' := by
 have cV := Try.underlying28
 have cW := Try.underlying79
 have bN := aM hr0_1
 have cH := aM hc0_1
 clear hr0_1 hc0_1
 have HB := aM (Below.refl w.heap.size w)
 have H : (impl_BridgeOk.l0 k aA (aA.length : Int) 0 aG aA) = some r := h
 clear h
 have H' := aM H
 clear H
 go_enter Try.func45, Try.ntmps45
 go_wp2_with (first | ((with_reducible refine gD (N := 1) rfl ?_); (try (refine gate_guard (by rfl) ?_; dsimp only)); refine bE (N := 1) (cs := #[aG, .slice bJ aA.length bK]) (t := 28) ?_; intro bT hg w2 hbox hb; have aD := aM (hbox); have cK := gF hg HB; have cL := gF hg HB; replace HB := rS HB hb; clear hb hbox hg; have cX := cA2 aD.out))
 go_loopg [8] k (fun kq v8 w' => ∃ (aC : Int), v8 = .int .i64 aC ∧ Aside0 (impl_BridgeOk.l0 kq aA (aA.length : Int) aC aG aA = some r) ∧ Aside0 (kq ≤ k) ∧ Aside0 (w'.heap[bT]? = some (.cells #[aG, (.slice bJ aA.length bK)] 28 (0, 0))) ∧ Aside0 (Below w.heap.size w w'))
 case atStart => exact ⟨(0), xE, H', ⟨Nat.le_refl _⟩, ⟨bk aD.out⟩, ⟨bl HB.out⟩⟩
 case round =>
  clear H'
  try clear p2
  obtain ⟨aC, rfl, HA, bX, aD, HB⟩ := hrel
  cases gk with
  | zero => exact absurd HA.out (by simp [impl_BridgeOk.l0])
  | succ k1 =>
   have H := HA.out
   clear HA
   simp only [impl_BridgeOk.l0] at H
   by_cases c4 : aC < (aA.length : Int)
   case neg =>
    rw [if_neg c4] at H
    have cA := decide_eq_false c4
    clear c4
    obtain ⟨cC, bP, H⟩ := hB H
    have bY := aM bP
    clear bP
    by_cases bO : cC = true
    case neg =>
     replace bO := Bool.eq_false_iff.mpr bO
     subst bO
     replace H := hF H
     obtain rfl := Option.some.inj H
     have cN := cA2 aD.out
     go_wp2_with (first | ((with_reducible refine gC (f := 86) rfl ?_); refine gL (some 18) Try.func86 #[aG, .int .i64 1, .int .i64 9] ?_; (with_reducible refine (impl_inRange.calls aG 1 9 false _ bY.out).mono ?_); rintro e w' ⟨rfl, ⟨nd, rfl⟩⟩; refine ⟨_, rfl, ?_⟩))
     go_ret
     exact ⟨xW, bl HB.out⟩
    subst bO
    replace H := hP H rfl
    obtain ⟨cD, bQ, H⟩ := hB H
    have cG := aM bQ
    clear bQ
    obtain rfl := Option.some.inj H
    have cO := cA2 aD.out
    go_wp2_with (first | ((with_reducible refine gC (f := 86) rfl ?_); refine gL (some 18) Try.func86 #[aG, .int .i64 1, .int .i64 9] ?_; (with_reducible refine (impl_inRange.calls aG 1 9 true _ bY.out).mono ?_); rintro e w' ⟨rfl, ⟨nd, rfl⟩⟩; refine ⟨_, rfl, ?_⟩) | (go_at_call 86; (with_reducible refine (impl_inRange.calls (aA.length : Int) 1 4 cD _ cG.out).mono ?_); rintro e w' ⟨rfl, ⟨nd, rfl⟩⟩))
    go_ret
    exact ⟨xW, bl HB.out⟩
   rw [if_pos c4] at H
   have cA := decide_eq_true c4
   clear c4
   obtain ⟨cY, H⟩ := gI H
   obtain ⟨dA, H⟩ := gI H
   obtain ⟨cE, bZ, H⟩ := hB H
   have A7 := aM bZ
   clear bZ
   by_cases c8 : cE = true
   case neg =>
    replace c8 := Bool.eq_false_iff.mpr c8
    subst c8
    replace H := hF H
    obtain rfl := Option.some.inj H
    have bH : 0 ≤ (aC : Int) := dT
    have bI : aC < (aA.length : Int) := dT
    obtain ⟨bU, bM, aH, aI, aJ, aK, aN, aQ, aT, aV, aW, aX, aE⟩ := at_T79 bN.out aC bH bI
    cases bM
    replace aH := xB HB aH
    replace aI := xB HB aI
    replace aJ := xB HB aJ
    replace aK := xB HB aK
    replace aN := xB HB aN
    replace aQ := xB HB aQ
    replace aT := xB HB aT
    replace aV := xB HB aV
    replace aW := xB HB aW
    replace aX := xB HB aX
    replace aE := xB HB aE
    replace bH := eq_true bH
    replace bI := eq_true bI
    go_wp2_with (first | ((with_reducible refine gD (N := 4) rfl ?_); (try (refine gate_guard (by rfl) ?_; dsimp only)); refine bE (N := 4) (cs := #[.bool false, .bool false, .int .i64 0, .int .i64 0, .int .i64 0, .int .i64 0, .int .i64 0, .int .i64 0, .int .i64 0, .int .i64 0, .bool false]) (t := 79) ?_; intro bL hg dB hbox hb; have bA := aM (hbox); have bV := gF hg HB; have bW := gF hg HB; have bD := nM hg aD; have bG := nH hg aD; replace aD := rB aD hb; replace HB := rS HB hb; clear hb hbox hg; have cP := bG.out; have cQ := bD.out; have cR := cA11 bA.out) | ((with_reducible refine gC (f := 122) rfl ?_); refine gL (some 13) Try.func122 #[.agg #[((rd_T79 aA aC).f0), ((rd_T79 aA aC).f1), ((rd_T79 aA aC).f2.f0), ((rd_T79 aA aC).f2.f1), ((rd_T79 aA aC).f2.f2), ((rd_T79 aA aC).f2.f3), ((rd_T79 aA aC).f3), ((rd_T79 aA aC).f4), ((rd_T79 aA aC).f5), ((rd_T79 aA aC).f6), ((rd_T79 aA aC).f7)]] ?_; (with_reducible refine (impl_PortOk.calls k1 ((rd_T79 aA aC).f0) ((rd_T79 aA aC).f1) ((rd_T79 aA aC).f2.f0) ((rd_T79 aA aC).f2.f1) ((rd_T79 aA aC).f2.f2) ((rd_T79 aA aC).f2.f3) ((rd_T79 aA aC).f3) ((rd_T79 aA aC).f4) ((rd_T79 aA aC).f5) ((rd_T79 aA aC).f6) ((rd_T79 aA aC).f7) false _ A7.out).mono ?_); rintro e dC ⟨rfl, hb⟩; refine ⟨_, rfl, ?_⟩; replace aD := aM (bB (fm aD.out) hb); replace bA := aM (bB (g := bL) (o := .cells #[((rd_T79 aA aC).f0), ((rd_T79 aA aC).f1), ((rd_T79 aA aC).f2.f0), ((rd_T79 aA aC).f2.f1), ((rd_T79 aA aC).f2.f2), ((rd_T79 aA aC).f2.f3), ((rd_T79 aA aC).f3), ((rd_T79 aA aC).f4), ((rd_T79 aA aC).f5), ((rd_T79 aA aC).f6), ((rd_T79 aA aC).f7)] 79 (0, 0)) (bm bA.out) hb); replace HB := rS HB hb; (try clear hb)))
    go_ret
    exact ⟨xW, bl HB.out⟩
   subst c8
   replace H := hP H rfl
   have H' := aM H
   clear H
   have bH : 0 ≤ (aC : Int) := dT
   have bI : aC < (aA.length : Int) := dT
   obtain ⟨bU, bM, aH, aI, aJ, aK, aN, aQ, aT, aV, aW, aX, aE⟩ := at_T79 bN.out aC bH bI
   cases bM
   replace aH := xB HB aH
   replace aI := xB HB aI
   replace aJ := xB HB aJ
   replace aK := xB HB aK
   replace aN := xB HB aN
   replace aQ := xB HB aQ
   replace aT := xB HB aT
   replace aV := xB HB aV
   replace aW := xB HB aW
   replace aX := xB HB aX
   replace aE := xB HB aE
   replace bH := eq_true bH
   replace bI := eq_true bI
   go_wp2_with (first | ((with_reducible refine gD (N := 4) rfl ?_); (try (refine gate_guard (by rfl) ?_; dsimp only)); refine bE (N := 4) (cs := #[.bool false, .bool false, .int .i64 0, .int .i64 0, .int .i64 0, .int .i64 0, .int .i64 0, .int .i64 0, .int .i64 0, .int .i64 0, .bool false]) (t := 79) ?_; intro bL hg w9 hbox hb; have bA := aM (hbox); have bV := gF hg HB; have bW := gF hg HB; have bD := nM hg aD; have bG := nH hg aD; replace aD := rB aD hb; replace HB := rS HB hb; clear hb hbox hg; have cS := bG.out; have cT := bD.out; have cU := cA11 bA.out) | ((with_reducible refine gC (f := 122) rfl ?_); refine gL (some 13) Try.func122 #[.agg #[((rd_T79 aA aC).f0), ((rd_T79 aA aC).f1), ((rd_T79 aA aC).f2.f0), ((rd_T79 aA aC).f2.f1), ((rd_T79 aA aC).f2.f2), ((rd_T79 aA aC).f2.f3), ((rd_T79 aA aC).f3), ((rd_T79 aA aC).f4), ((rd_T79 aA aC).f5), ((rd_T79 aA aC).f6), ((rd_T79 aA aC).f7)]] ?_; (with_reducible refine (impl_PortOk.calls k1 ((rd_T79 aA aC).f0) ((rd_T79 aA aC).f1) ((rd_T79 aA aC).f2.f0) ((rd_T79 aA aC).f2.f1) ((rd_T79 aA aC).f2.f2) ((rd_T79 aA aC).f2.f3) ((rd_T79 aA aC).f3) ((rd_T79 aA aC).f4) ((rd_T79 aA aC).f5) ((rd_T79 aA aC).f6) ((rd_T79 aA aC).f7) true _ A7.out).mono ?_); rintro e dD ⟨rfl, hb⟩; refine ⟨_, rfl, ?_⟩; replace aD := aM (bB (fm aD.out) hb); replace bA := aM (bB (g := bL) (o := .cells #[((rd_T79 aA aC).f0), ((rd_T79 aA aC).f1), ((rd_T79 aA aC).f2.f0), ((rd_T79 aA aC).f2.f1), ((rd_T79 aA aC).f2.f2), ((rd_T79 aA aC).f2.f3), ((rd_T79 aA aC).f3), ((rd_T79 aA aC).f4), ((rd_T79 aA aC).f5), ((rd_T79 aA aC).f6), ((rd_T79 aA aC).f7)] 79 (0, 0)) (bm bA.out) hb); replace HB := rS HB hb; (try clear hb)))
   go_roundg k1
   case measure => have := bX.out; omega
   case rel => exact ⟨(wS aC), xE, H', ⟨by have := bX.out; omega⟩, ⟨bk aD.out⟩, ⟨bl HB.out⟩⟩

def cmp_Or_int.l0 : Nat → Int → List Int → Int → Int → Option (Int)
 | 0, _, _, _, _ => none
 | k + 1, x3, x6, x7, x8 => if x8 < x7 then (if 0 ≤ x8 then (if x8 < (x6.length : Int) then (if (rd x6 x8) = x3 then (cmp_Or_int.l0 k x3 x6 x7 (wrap64 (x8 + 1))) else (some (rd x6 x8))) else (none)) else (none)) else (some x3)
def cmp_Or_int.f (k : Nat) (l0 : List Int) : Option (Int) := cmp_Or_int.l0 k 0 l0 (l0.length : Int) 0
theorem cmp_Or_int.mono_l : ∀ k, (∀ y0 y1 y2 y3, LeO (cmp_Or_int.l0 k y0 y1 y2 y3) (cmp_Or_int.l0 (k + 1) y0 y1 y2 y3))
 | 0 => fun _ _ _ _ r h => by simp [cmp_Or_int.l0] at h
 | k + 1 => by
  have ih0 := cmp_Or_int.mono_l k
  ·intro y0 y1 y2 y3
   unfold cmp_Or_int.l0
   repeat' first|(with_reducible first|apply ih0|exact lR _|exact lN _|refine lI ?_ ?_|refine lB ?_ fun _ => ?_)|exact lN _|refine lI ?_ ?_|refine lB ?_ fun _ => ?_
theorem cmp_Or_int.mono : ∀ a0 k, LeO (cmp_Or_int.f k a0) (cmp_Or_int.f (k + 1) a0) := by
 intro a0 k
 have ih0 := cmp_Or_int.mono_l k
 unfold cmp_Or_int.f
 repeat' first|(with_reducible first|apply ih0|exact lR _|exact lN _|refine lI ?_ ?_|refine lB ?_ fun _ => ?_)|exact lN _|refine lI ?_ ?_|refine lB ?_ fun _ => ?_
set_option maxHeartbeats 60000000 in
set_option maxRecDepth 100000 in
theorem cmp_Or_int.calls (k : Nat) (A0 : Option Addr) (c0 : Nat) (l0 : List Int) (r : Int) (w : World) (hr0 : Kd.C (Kd.int .i64) w A0 l0.length l0) (hc0 : l0.length ≤ c0) (h : cmp_Or_int.f k l0 = some r) :
  Calls Try.prog 124 #[.slice A0 l0.length c0] w fun e w' => e = .returned (.int .i64 r) ∧ Drawn0 w w' := by
 have aI := aM hr0
 have aW := aM hc0
 clear hr0 hc0
 have H : (cmp_Or_int.l0 k 0 l0 (l0.length : Int) 0) = some r := h
 clear h
 have H' := aM H
 clear H
 go_enter Try.func124, Try.ntmps124
 go_wp2
 go_loopg [8] k (fun kq v8 w' => ∃ (aA : Int), v8 = .int .i64 aA ∧ Aside0 (cmp_Or_int.l0 kq 0 l0 (l0.length : Int) aA = some r) ∧ Aside0 (kq ≤ k) ∧ Drawn0 w w')
 case atStart => exact ⟨(0), xE, H', ⟨Nat.le_refl _⟩, by repeat (first | exact Drawn0.refl _ | apply Drawn0.step)⟩
 case round =>
  clear H'
  try clear c1
  obtain ⟨aA, rfl, HA, aJ, ⟨m1, rfl⟩⟩ := hrel
  cases gk with
  | zero => exact absurd HA.out (by simp [cmp_Or_int.l0])
  | succ k1 =>
   have H := HA.out
   clear HA
   simp only [cmp_Or_int.l0] at H
   by_cases c2 : aA < (l0.length : Int)
   case neg =>
    rw [if_neg c2] at H
    have aK := decide_eq_false c2
    clear c2
    obtain rfl := Option.some.inj H
    go_wp2
    go_ret
    exact ⟨by first | rfl | (simp; done) | (simp [*]; done), by repeat (first | exact Drawn0.refl _ | apply Drawn0.step)⟩
   rw [if_pos c2] at H
   have aK := decide_eq_true c2
   clear c2
   obtain ⟨aT, H⟩ := gI H
   obtain ⟨aV, H⟩ := gI H
   by_cases c5 : (rd l0 aA) = 0
   case neg =>
    rw [if_neg c5] at H
    have aN : ((rd l0 aA) == 0) = false := beq_eq_false_iff_ne.mpr c5
    have aQ : ((rd l0 aA) != 0) = true := bne_iff_ne.mpr c5
    obtain rfl := Option.some.inj H
    have aC : 0 ≤ (aA : Int) := dT
    have aD : aA < (l0.length : Int) := dT
    obtain ⟨aH, aE, aG⟩ := Kd.at_int aI.out aA aC aD
    cases aE
    replace aC := eq_true aC
    replace aD := eq_true aD
    go_wp2
    go_ret
    exact ⟨by first | rfl | (simp; done) | (simp [*]; done), by repeat (first | exact Drawn0.refl _ | apply Drawn0.step)⟩
   rw [if_pos c5] at H
   have aN : ((rd l0 aA) == 0) = true := beq_iff_eq.mpr c5
   have aQ : ((rd l0 aA) != 0) = false := bne_eq_false_iff_eq.mpr c5
   clear c5
   have H' := aM H
   clear H
   have aC : 0 ≤ (aA : Int) := dT
   have aD : aA < (l0.length : Int) := dT
   obtain ⟨aH, aE, aG⟩ := Kd.at_int aI.out aA aC aD
   cases aE
   replace aC := eq_true aC
   replace aD := eq_true aD
   go_wp2
   go_roundg k1
   case measure => have := aJ.out; omega
   case rel => exact ⟨(wS aA), xE, H', ⟨by have := aJ.out; omega⟩, by repeat (first | exact Drawn0.refl _ | apply Drawn0.step)⟩

def cmp_isNaN_int.f (a0 : Int) : Option (Bool) := some (a0 != a0)
set_option maxHeartbeats 60000000 in
set_option maxRecDepth 100000 in
theorem cmp_isNaN_int.calls (a0 : Int) (r : Bool) (w : World) (h : cmp_isNaN_int.f a0 = some r) :
  Calls Try.prog 182 #[a0] w fun e w' => e = .returned (.bool r) ∧ Drawn0 w w' := by
 have H : (some (a0 != a0)) = some r := h
 clear h
 obtain rfl := Option.some.inj H
 go_enter Try.func182, Try.ntmps182
 go_wp2
 go_ret
 exact ⟨by first | rfl | (simp; done) | (simp [*]; done), by repeat (first | exact Drawn0.refl _ | apply Drawn0.step)⟩

def cmp_Compare_int.f (a0 a1 : Int) : Option (Int) := (cmp_isNaN_int.f a0).bind fun aC => ((cmp_isNaN_int.f a1).bind fun aA => (if aC = true then (if aA = true then (some 0) else (some (-1))) else (if aA = true then (some 1) else (if a0 < a1 then (some (-1)) else (if a0 > a1 then (some 1) else (some 0))))))
set_option maxHeartbeats 60000000 in
set_option maxRecDepth 100000 in
theorem cmp_Compare_int.calls (a0 a1 r : Int) (w : World) (h : cmp_Compare_int.f a0 a1 = some r) :
  Calls Try.prog 125 #[a0, a1] w fun e w' => e = .returned (.int .i64 r) ∧ Drawn0 w w' := by
 have H : ((cmp_isNaN_int.f a0).bind fun aC => ((cmp_isNaN_int.f a1).bind fun aA => (if aC = true then (if aA = true then (some 0) else (some (-1))) else (if aA = true then (some 1) else (if a0 < a1 then (some (-1)) else (if a0 > a1 then (some 1) else (some 0))))))) = some r := h
 clear h
 obtain ⟨aC, aD, H⟩ := hB H
 have A3 := aM aD
 clear aD
 obtain ⟨aA, aE, H⟩ := hB H
 have A4 := aM aE
 clear aE
 by_cases c5 : aC = true
 case pos =>
  subst c5
  replace H := hP H rfl
  by_cases c6 : aA = true
  case pos =>
   subst c6
   replace H := hP H rfl
   obtain rfl := Option.some.inj H
   go_enter Try.func125, Try.ntmps125
   go_wp2_with (first | ((with_reducible refine gC (f := 182) rfl ?_); refine gL (some 8) Try.func182 #[a0] ?_; (with_reducible refine (cmp_isNaN_int.calls a0 true _ A3.out).mono ?_); rintro e w' ⟨rfl, ⟨nd, rfl⟩⟩; refine ⟨_, rfl, ?_⟩) | ((with_reducible refine gC (f := 182) rfl ?_); refine gL (some 10) Try.func182 #[a1] ?_; (with_reducible refine (cmp_isNaN_int.calls a1 true _ A4.out).mono ?_); rintro e w' ⟨rfl, ⟨nd, rfl⟩⟩; refine ⟨_, rfl, ?_⟩))
   go_ret
   exact ⟨by first | rfl | (simp; done) | (simp [*]; done), by repeat (first | exact Drawn0.refl _ | apply Drawn0.step)⟩
  replace c6 := Bool.eq_false_iff.mpr c6
  subst c6
  replace H := hF H
  obtain rfl := Option.some.inj H
  go_enter Try.func125, Try.ntmps125
  go_wp2_with (first | ((with_reducible refine gC (f := 182) rfl ?_); refine gL (some 8) Try.func182 #[a0] ?_; (with_reducible refine (cmp_isNaN_int.calls a0 true _ A3.out).mono ?_); rintro e w' ⟨rfl, ⟨nd, rfl⟩⟩; refine ⟨_, rfl, ?_⟩) | ((with_reducible refine gC (f := 182) rfl ?_); refine gL (some 10) Try.func182 #[a1] ?_; (with_reducible refine (cmp_isNaN_int.calls a1 false _ A4.out).mono ?_); rintro e w' ⟨rfl, ⟨nd, rfl⟩⟩; refine ⟨_, rfl, ?_⟩))
  go_ret
  exact ⟨by first | rfl | (simp; done) | (simp [*]; done), by repeat (first | exact Drawn0.refl _ | apply Drawn0.step)⟩
 replace c5 := Bool.eq_false_iff.mpr c5
 subst c5
 replace H := hF H
 by_cases c7 : aA = true
 case pos =>
  subst c7
  replace H := hP H rfl
  obtain rfl := Option.some.inj H
  go_enter Try.func125, Try.ntmps125
  go_wp2_with (first | ((with_reducible refine gC (f := 182) rfl ?_); refine gL (some 8) Try.func182 #[a0] ?_; (with_reducible refine (cmp_isNaN_int.calls a0 false _ A3.out).mono ?_); rintro e w' ⟨rfl, ⟨nd, rfl⟩⟩; refine ⟨_, rfl, ?_⟩) | ((with_reducible refine gC (f := 182) rfl ?_); refine gL (some 10) Try.func182 #[a1] ?_; (with_reducible refine (cmp_isNaN_int.calls a1 true _ A4.out).mono ?_); rintro e w' ⟨rfl, ⟨nd, rfl⟩⟩; refine ⟨_, rfl, ?_⟩))
  go_ret
  exact ⟨by first | rfl | (simp; done) | (simp [*]; done), by repeat (first | exact Drawn0.refl _ | apply Drawn0.step)⟩
 replace c7 := Bool.eq_false_iff.mpr c7
 subst c7
 replace H := hF H
 by_cases c8 : a0 < a1
 case pos =>
  rw [if_pos c8] at H
  have aG := decide_eq_true c8
  clear c8
  obtain rfl := Option.some.inj H
  go_enter Try.func125, Try.ntmps125
  go_wp2_with (first | ((with_reducible refine gC (f := 182) rfl ?_); refine gL (some 8) Try.func182 #[a0] ?_; (with_reducible refine (cmp_isNaN_int.calls a0 false _ A3.out).mono ?_); rintro e w' ⟨rfl, ⟨nd, rfl⟩⟩; refine ⟨_, rfl, ?_⟩) | ((with_reducible refine gC (f := 182) rfl ?_); refine gL (some 10) Try.func182 #[a1] ?_; (with_reducible refine (cmp_isNaN_int.calls a1 false _ A4.out).mono ?_); rintro e w' ⟨rfl, ⟨nd, rfl⟩⟩; refine ⟨_, rfl, ?_⟩))
  go_ret
  exact ⟨by first | rfl | (simp; done) | (simp [*]; done), by repeat (first | exact Drawn0.refl _ | apply Drawn0.step)⟩
 rw [if_neg c8] at H
 have aG := decide_eq_false c8
 clear c8
 by_cases c9 : a0 > a1
 case pos =>
  rw [if_pos c9] at H
  have aH := decide_eq_true c9
  clear c9
  obtain rfl := Option.some.inj H
  go_enter Try.func125, Try.ntmps125
  go_wp2_with (first | ((with_reducible refine gC (f := 182) rfl ?_); refine gL (some 8) Try.func182 #[a0] ?_; (with_reducible refine (cmp_isNaN_int.calls a0 false _ A3.out).mono ?_); rintro e w' ⟨rfl, ⟨nd, rfl⟩⟩; refine ⟨_, rfl, ?_⟩) | ((with_reducible refine gC (f := 182) rfl ?_); refine gL (some 10) Try.func182 #[a1] ?_; (with_reducible refine (cmp_isNaN_int.calls a1 false _ A4.out).mono ?_); rintro e w' ⟨rfl, ⟨nd, rfl⟩⟩; refine ⟨_, rfl, ?_⟩))
  go_ret
  exact ⟨by first | rfl | (simp; done) | (simp [*]; done), by repeat (first | exact Drawn0.refl _ | apply Drawn0.step)⟩
 rw [if_neg c9] at H
 have aH := decide_eq_false c9
 clear c9
 obtain rfl := Option.some.inj H
 go_enter Try.func125, Try.ntmps125
 go_wp2_with (first | ((with_reducible refine gC (f := 182) rfl ?_); refine gL (some 8) Try.func182 #[a0] ?_; (with_reducible refine (cmp_isNaN_int.calls a0 false _ A3.out).mono ?_); rintro e w' ⟨rfl, ⟨nd, rfl⟩⟩; refine ⟨_, rfl, ?_⟩) | ((with_reducible refine gC (f := 182) rfl ?_); refine gL (some 10) Try.func182 #[a1] ?_; (with_reducible refine (cmp_isNaN_int.calls a1 false _ A4.out).mono ?_); rintro e w' ⟨rfl, ⟨nd, rfl⟩⟩; refine ⟨_, rfl, ?_⟩))
 go_ret
 exact ⟨by first | rfl | (simp; done) | (simp [*]; done), by repeat (first | exact Drawn0.refl _ | apply Drawn0.step)⟩

def impl_Better.f (k : Nat) (aA aC aD aE aG aH aI aJ : Int) : Option (Bool) := (cmp_Compare_int.f aA aG).bind fun aK => ((cmp_Compare_int.f aC aH).bind fun aN => ((cmp_Compare_int.f aD aI).bind fun aQ => ((cmp_Compare_int.f aE aJ).bind fun aT => ((cmp_Or_int.f k (([aK, aN, aQ, aT] : List Int))).bind fun aV => (some (decide (aV < 0)))))))
theorem impl_Better.mono : ∀ a0 a1 a2 a3 a4 a5 a6 a7 k, LeO (impl_Better.f k a0 a1 a2 a3 a4 a5 a6 a7) (impl_Better.f (k + 1) a0 a1 a2 a3 a4 a5 a6 a7) := by
 intro a0 a1 a2 a3 a4 a5 a6 a7 k
 unfold impl_Better.f
 repeat' first|(with_reducible first|apply cmp_Or_int.mono|exact lR _|exact lN _|refine lI ?_ ?_|refine lB ?_ fun _ => ?_)|exact lN _|refine lI ?_ ?_|refine lB ?_ fun _ => ?_
def impl_Better.T1 : Bool × List (List Nat × List Nat) := (true, [([], []), ([0], [0]), ([], []), ([2], [2]), ([1, 3], [1, 3]), ([], []), ([5], [5]), ([], []), ([7], [7]), ([6, 8, 4], [6, 8]), ([], []), ([10], [10]), ([], []), ([12], [12]), ([11, 13, 9], [11, 13]), ([], []), ([15], [15]), ([], []), ([17], [17]), ([16, 18, 14], [16, 18]), ([4, 9, 14, 19], [4, 9, 14, 19]), ([20, 19], [20]), ([21], [21]), ([22, 21, 0, 1, 2, 3, 4, 5, 6, 7, 8, 9, 10, 11, 12, 13, 14, 15, 16, 17, 18, 19, 20, 21, 22], [22])])
def impl_Better.B1 : List Nat := [0, 1, 0, 4, 15, 0, 32, 0, 128, 511, 0, 1024, 0, 4096, 16383, 0, 32768, 0, 131072, 524287, 1048575, 2097151, 4194303, 8388607]
theorem impl_Better.tab1 : rtab .any (opsOf Try.f47 1) = impl_Better.T1 := by kernel_rfl
theorem impl_Better.bits1 : waitsOk impl_Better.T1.2 impl_Better.B1 = true := by kernel_rfl
set_option maxHeartbeats 60000000 in
set_option maxRecDepth 100000 in
theorem impl_Better.calls (k : Nat) (aI aJ aK aN aQ aT aV aW : Int) (r : Bool) (w : World) (h : impl_Better.f k aI aJ aK aN aQ aT aV aW = some r) :
  Calls Try.prog 47 #[.agg #[aI, aJ, aK, aN], .agg #[aQ, aT, aV, aW]] w fun e w' => e = .returned (.bool r) ∧ Below w.heap.size w w' := by
 have cA := Try.underlying73
 have HB := aM (Below.refl w.heap.size w)
 have H : ((cmp_Compare_int.f aI aQ).bind fun aD => ((cmp_Compare_int.f aJ aT).bind fun aE => ((cmp_Compare_int.f aK aV).bind fun aG => ((cmp_Compare_int.f aN aW).bind fun aH => ((cmp_Or_int.f k (([aD, aE, aG, aH] : List Int))).bind fun bA => (some (decide (bA < 0)))))))) = some r := h
 clear h
 obtain ⟨aD, bL, H⟩ := hB H
 have A3 := aM bL
 clear bL
 obtain ⟨aE, bM, H⟩ := hB H
 have A4 := aM bM
 clear bM
 obtain ⟨aG, bN, H⟩ := hB H
 have A5 := aM bN
 clear bN
 obtain ⟨aH, bO, H⟩ := hB H
 have A6 := aM bO
 clear bO
 obtain ⟨bG, aX⟩ : ∃ y_ : List Int, y_ = (([aD, aE, aG, aH] : List Int)) := ⟨_, rfl⟩
 replace H : ((cmp_Or_int.f k bG).bind fun bA => (some (decide (bA < 0)))) = some r := by first | (rw [aX]; with_reducible exact H) | (have H2_ := (Option.bind_some _ _).symm.trans H; rw [aX]; with_reducible exact H2_) | (have H2_ := (Option.bind_some _ _).symm.trans H; with_reducible exact H2_) | with_reducible exact H | (rw [aX]; exact H) | exact H
 have bH := aM aX
 clear aX
 obtain ⟨bA, bP, H⟩ := hB H
 have A7 := aM bP
 clear bP
 obtain rfl := Option.some.inj H
 go_enter Try.func47, Try.ntmps47
 try go_wp2_with (first | ((with_reducible refine gD (N := 2) rfl ?_); refine bE (N := 2) (cs := #[aI, aJ, aK, aN]) (t := 73) ?_; intro bJ hg w8 hbox hb; have aA := aM (hbox); have bW := gF hg HB; have bX := gF hg HB; replace HB := rS HB hb; clear hb hbox hg) | ((with_reducible refine gD (N := 3) rfl ?_); refine bE (N := 3) (cs := #[aQ, aT, aV, aW]) (t := 73) ?_; intro bK hg w9 hbox hb; have aC := aM (hbox); have bY := gF hg HB; have bZ := gF hg HB; have bQ := nM hg aA; have bT := nH hg aA; replace aA := rB aA hb; replace HB := rS HB hb; clear hb hbox hg))
 replace aA := aM (blk_drew aA.out)
 replace aC := aM (blk_drew aC.out)
 replace HB := aM (below_drew1 HB.out)
 refine start_ (n := 24) (S := fun w' => cT4 w' bJ (.int .i64 aI) (.int .i64 aJ) (.int .i64 aK) (.int .i64 aN) (cS4 w' bK (.int .i64 aQ) (.int .i64 aT) (.int .i64 aV) (.int .i64 aW))) (ds := []) (dn 24 0) (by kernel_rfl) rfl rfl ⟨cI aA.out 0, cI aA.out 1, cI aA.out 2, cI aA.out 3, cI aC.out 0, cI aC.out 1, cI aC.out 2, cI aC.out 3⟩ (fun hHeld => ?_); refine with_tabW impl_Better.tab1 impl_Better.bits1 (fun HT_ HW_ => ?_)
 generalize w9.drew = cD at aA aC HB hHeld ⊢
 refine nY (N := some 5) HT_ ?_
 refine pZ 2 7 (bv 24 5) HT_ ?_
 refine pZ 5 10 (bv 24 37) HT_ ?_
 refine pZ 7 12 (bv 24 165) HT_ ?_
 refine pZ 10 15 (bv 24 1189) HT_ ?_
 refine pZ 12 17 (bv 24 5285) HT_ ?_
 refine pZ 15 20 (bv 24 38053) HT_ ?_
 refine pZ 17 22 (bv 24 169125) HT_ ?_
 refine aZ 1 6 (bv 24 169127) HT_ HW_ hHeld ?_
 refine aZ 3 8 (bv 24 169135) HT_ HW_ hHeld ?_
 refine aZ 6 11 (bv 24 169199) HT_ HW_ hHeld ?_
 refine aZ 8 13 (bv 24 169455) HT_ HW_ hHeld ?_
 refine aZ 11 16 (bv 24 171503) HT_ HW_ hHeld ?_
 refine aZ 13 18 (bv 24 179695) HT_ HW_ hHeld ?_
 refine aZ 16 21 (bv 24 245231) HT_ HW_ hHeld ?_
 refine aZ 18 23 (bv 24 507375) HT_ HW_ hHeld ?_
 refine one_ (i := 4) (N := some 9) (bv 24 507391) rfl rfl (one_of HT_.out (by kernel_rfl)) (by decide) (fun K hK => ?_)
 refine goes_ Try.func125 (by kernel_rfl) rfl #[aI, aQ] (by rfl) rfl rfl xR ?_
 with_reducible refine (cmp_Compare_int.calls aI aQ aD _ A3.out).mono ?_
 rintro e w' ⟨rfl, ⟨nd, rfl⟩⟩
 refine ⟨_, rfl, ?_⟩
 refine hK.out _ _ ⟨cI aA.out 0, cI aA.out 1, cI aA.out 2, cI aA.out 3, cI aC.out 0, cI aC.out 1, cI aC.out 2, cI aC.out 3⟩ (fun hHeld => ?_)
 clear hK K
 refine norm_ (a' := ?_) ?_ ?_
 rotate_left
 ·show Act.put _ (some 9) _ = _
  simp only [Act.put, sA, sZ, sS, i64_w, i32_w]
  rfl
 refine one_ (i := 9) (N := some 14) (bv 24 507903) rfl rfl (one_of HT_.out (by kernel_rfl)) (by decide) (fun K hK => ?_)
 refine goes_ Try.func125 (by kernel_rfl) rfl #[aJ, aT] (by rfl) rfl rfl xR ?_
 with_reducible refine (cmp_Compare_int.calls aJ aT aE _ A4.out).mono ?_
 rintro e w' ⟨rfl, ⟨nd, rfl⟩⟩
 refine ⟨_, rfl, ?_⟩
 refine hK.out _ _ ⟨cI aA.out 0, cI aA.out 1, cI aA.out 2, cI aA.out 3, cI aC.out 0, cI aC.out 1, cI aC.out 2, cI aC.out 3⟩ (fun hHeld => ?_)
 clear hK K
 refine norm_ (a' := ?_) ?_ ?_
 rotate_left
 ·show Act.put _ (some 14) _ = _
  simp only [Act.put, sA, sZ, sS, i64_w, i32_w]
  rfl
 refine one_ (i := 14) (N := some 19) (bv 24 524287) rfl rfl (one_of HT_.out (by kernel_rfl)) (by decide) (fun K hK => ?_)
 refine goes_ Try.func125 (by kernel_rfl) rfl #[aK, aV] (by rfl) rfl rfl xR ?_
 with_reducible refine (cmp_Compare_int.calls aK aV aG _ A5.out).mono ?_
 rintro e w' ⟨rfl, ⟨nd, rfl⟩⟩
 refine ⟨_, rfl, ?_⟩
 refine hK.out _ _ ⟨cI aA.out 0, cI aA.out 1, cI aA.out 2, cI aA.out 3, cI aC.out 0, cI aC.out 1, cI aC.out 2, cI aC.out 3⟩ (fun hHeld => ?_)
 clear hK K
 refine norm_ (a' := ?_) ?_ ?_
 rotate_left
 ·show Act.put _ (some 19) _ = _
  simp only [Act.put, sA, sZ, sS, i64_w, i32_w]
  rfl
 refine one_ (i := 19) (N := some 24) (bv 24 1048575) rfl rfl (one_of HT_.out (by kernel_rfl)) (by decide) (fun K hK => ?_)
 refine goes_ Try.func125 (by kernel_rfl) rfl #[aN, aW] (by rfl) rfl rfl xR ?_
 with_reducible refine (cmp_Compare_int.calls aN aW aH _ A6.out).mono ?_
 rintro e w' ⟨rfl, ⟨nd, rfl⟩⟩
 refine ⟨_, rfl, ?_⟩
 refine hK.out _ _ ⟨cI aA.out 0, cI aA.out 1, cI aA.out 2, cI aA.out 3, cI aC.out 0, cI aC.out 1, cI aC.out 2, cI aC.out 3⟩ (fun hHeld => ?_)
 clear hK K
 refine norm_ (a' := ?_) ?_ ?_
 rotate_left
 ·show Act.put _ (some 24) _ = _
  simp only [Act.put, sA, sZ, sS, i64_w, i32_w]
  rfl
 refine one_ (i := 20) (N := some 25) (bv 24 2097151) rfl rfl (one_of HT_.out (by kernel_rfl)) (by decide) (fun K hK => ?_)
 refine Kd.R_lit_step (Kd.int .i64) _ 3 ?hg (N := 25) ?hd (xs := ([aD, aE, aG, aH] : List Int)) (inner := [.int .i64 aD, .int .i64 aE, .int .i64 aG, .int .i64 aH]) (ok := fun _ => True) (okp := fun _ => True) ?hr ?hp (fun _ hk => hk) trivial (Below.refl _ _) (Nat.le_refl _) (by simp) ?_; (case hd => rfl); (case hg => rfl); (case hr => first | (go_simp; done) | (go_simp; rfl)); (case hp => exact (Reps.one (show Kd.M (Kd.int .i64) _ _ _ aD [.int .i64 aD] from rfl) (Reps.one (show Kd.M (Kd.int .i64) _ _ _ aE [.int .i64 aE] from rfl) (Reps.one (show Kd.M (Kd.int .i64) _ _ _ aG [.int .i64 aG] from rfl) (Reps.one (show Kd.M (Kd.int .i64) _ _ _ aH [.int .i64 aH] from rfl) (Reps.none _ _))))))
 intro cC cE ho12 hb hg_ hnew_
 clear hg_ hnew_
 (first | rw [← bH.out] at ho12 | (simp only [Int.reduceToNat] at ho12; rw [← bH.out] at ho12))
 have bD := aM (Kd.R_lower ho12 (below_size (bl HB.out)))
 replace aA := rB aA hb
 replace aC := rB aC hb
 replace HB := rS HB hb
 clear hb ho12
 obtain ⟨bU, bV, bI⟩ := Kd.R_slice bD.out
 (first | subst bI | (injection bI with f1_ f2_ f3_; have f4_ := f1_.symm; have f5_ := f3_.symm; clear f1_ f2_ f3_; subst f4_; subst f5_))
 refine hK.out _ _ ⟨cI aA.out 0, cI aA.out 1, cI aA.out 2, cI aA.out 3, cI aC.out 0, cI aC.out 1, cI aC.out 2, cI aC.out 3⟩ (fun hHeld => ?_)
 clear hK K
 refine norm_ (a' := ?_) ?_ ?_
 rotate_left
 ·show Act.put _ (some 25) _ = _
  simp only [Act.put, sA, sZ, sS, i64_w, i32_w]
  rfl
 refine one_ (i := 21) (N := some 26) (bv 24 4194303) rfl rfl (one_of HT_.out (by kernel_rfl)) (by decide) (fun K hK => ?_)
 refine goes_ Try.func124 (by kernel_rfl) rfl #[.slice bU bG.length bV] (by rfl) rfl rfl xR ?_
 with_reducible refine (cmp_Or_int.calls k _ _ bG bA _ ?side1 ?side2 A7.out).mono ?_
 (case side1 => exact cM ((Kd.R_reads' bD.out).2.2))
 (case side2 => exact (Kd.R_reads' bD.out).2.1)
 rintro e w' ⟨rfl, ⟨nd, rfl⟩⟩
 refine ⟨_, rfl, ?_⟩
 refine hK.out _ _ ⟨cI aA.out 0, cI aA.out 1, cI aA.out 2, cI aA.out 3, cI aC.out 0, cI aC.out 1, cI aC.out 2, cI aC.out 3⟩ (fun hHeld => ?_)
 clear hK K
 refine norm_ (a' := ?_) ?_ ?_
 rotate_left
 ·show Act.put _ (some 26) _ = _
  simp only [Act.put, sA, sZ, sS, i64_w, i32_w]
  rfl
 refine pZ 22 27 (bv 24 8388607) HT_ ?_
 refine pZ 23 4 (bv 24 16777215) HT_ ?_
 refine done_ (done_of HT_.out (by kernel_rfl)) ?_
 try go_wp2
 go_ret
 exact ⟨xW, bl HB.out⟩

end Go.Proofs.Ythmijfekdeagpaa.PFnFades

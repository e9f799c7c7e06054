/- A part of the proof of laws.FnFades. No condition beyond what its theorems say. -/
import Derived.Test.YthmijfekdeagpaaVFnFadesPx0
namespace Go.Proofs.Ythmijfekdeagpaa.PFnFades
open Go.RowKit Go.Proofs.YthmijfekdeagpaaW.PrintWords Go.Proofs.YthmijfekdeagpaaW.PrintLast Go.Proofs.YthmijfekdeagpaaW.PrintMore
set_option linter.unusedVariables false
set_option linter.unusedSimpArgs false

def laws_big.f (l0 : List Int) : Option (Bool) := some (decide ((l0.length : Int) > 1048576))
set_option maxHeartbeats 60000000 in
set_option maxRecDepth 100000 in
theorem laws_big.calls (A0 : Option Addr) (c0 : Nat) (l0 : List Int) (r : Bool) (w : World) (hr0 : Kd.C (Kd.int .u8) w A0 l0.length l0) (hc0 : l0.length ≤ c0) (h : laws_big.f l0 = some r) :
  Calls Try.prog 26 #[.slice A0 l0.length c0] w fun e w' => e = .returned (.bool r) ∧ Drawn0 w w' := by
 have aA := aM hr0
 have aC := aM hc0
 clear hr0 hc0
 have H : (some (decide ((l0.length : Int) > 1048576))) = some r := h
 clear h
 obtain rfl := Option.some.inj H
 go_enter Try.func26, Try.ntmps26
 go_wp2
 go_ret
 exact ⟨by first | rfl | (simp; done) | (simp [*]; done), by repeat (first | exact Drawn0.refl _ | apply Drawn0.step)⟩

def impl_inRange.f (a0 a1 a2 : Int) : Option (Bool) := if a0 ≥ a1 then (some (decide (a0 ≤ a2))) else (some false)
set_option maxHeartbeats 60000000 in
set_option maxRecDepth 100000 in
theorem impl_inRange.calls (a0 a1 a2 : Int) (r : Bool) (w : World) (h : impl_inRange.f a0 a1 a2 = some r) :
  Calls Try.prog 86 #[a0, a1, a2] w fun e w' => e = .returned (.bool r) ∧ Drawn0 w w' := by
 have H : (if a0 ≥ a1 then (some (decide (a0 ≤ a2))) else (some false)) = some r := h
 clear h
 by_cases c4 : a0 ≥ a1
 case pos =>
  rw [if_pos c4] at H
  have aA := decide_eq_true c4
  clear c4
  obtain rfl := Option.some.inj H
  go_enter Try.func86, Try.ntmps86
  go_wp2
  go_ret
  exact ⟨by first | rfl | (simp; done) | (simp [*]; done), by repeat (first | exact Drawn0.refl _ | apply Drawn0.step)⟩
 rw [if_neg c4] at H
 have aA := decide_eq_false c4
 clear c4
 obtain rfl := Option.some.inj H
 go_enter Try.func86, Try.ntmps86
 go_wp2
 go_ret
 exact ⟨by first | rfl | (simp; done) | (simp [*]; done), by repeat (first | exact Drawn0.refl _ | apply Drawn0.step)⟩

def impl_isPort.f (a0 : Int) : Option (Bool) := (impl_inRange.f a0 0 3).bind fun aA => (some aA)
set_option maxHeartbeats 60000000 in
set_option maxRecDepth 100000 in
theorem impl_isPort.calls (a0 : Int) (r : Bool) (w : World) (h : impl_isPort.f a0 = some r) :
  Calls Try.prog 170 #[a0] w fun e w' => e = .returned (.bool r) ∧ Drawn0 w w' := by
 have H : ((impl_inRange.f a0 0 3).bind fun aA => (some aA)) = some r := h
 clear h
 obtain ⟨aA, aC, H⟩ := hB H
 have A2 := aM aC
 clear aC
 obtain rfl := Option.some.inj H
 go_enter Try.func170, Try.ntmps170
 go_wp2_with (first | ((with_reducible refine gC (f := 86) rfl ?_); refine gL (some 4) Try.func86 #[a0, .int .i64 0, .int .i64 3] ?_; (with_reducible refine (impl_inRange.calls a0 0 3 aA _ A2.out).mono ?_); rintro e w' ⟨rfl, ⟨nd, rfl⟩⟩; refine ⟨_, rfl, ?_⟩))
 go_ret
 exact ⟨by first | rfl | (simp; done) | (simp [*]; done), by repeat (first | exact Drawn0.refl _ | apply Drawn0.step)⟩

def impl_VecOk.f (aA aD aC aE : Int) : Option (Bool) := (impl_inRange.f aA 1 9).bind fun aG => (if aG = true then ((impl_inRange.f aC 1 9).bind fun aH => (if aH = true then (if aA > aC then (some false) else ((impl_isPort.f aE).bind fun aI => (if aI = true then ((impl_inRange.f aD 0 20).bind fun aJ => (if aJ = true then (some ((aD == 0) == (aA == aC))) else (some false))) else (some false)))) else (some false))) else (some false))
set_option maxHeartbeats 60000000 in
set_option maxRecDepth 100000 in
theorem impl_VecOk.calls (aA aD aC aG : Int) (r : Bool) (w : World) (h : impl_VecOk.f aA aD aC aG = some r) :
  Calls Try.prog 178 #[.agg #[aA, aD, aC, aG]] w fun e w' => e = .returned (.bool r) ∧ Below w.heap.size w w' := by
 have bO := Try.underlying73
 have HB := aM (Below.refl w.heap.size w)
 have H : ((impl_inRange.f aA 1 9).bind fun aK => (if aK = true then ((impl_inRange.f aC 1 9).bind fun aN => (if aN = true then (if aA > aC then (some false) else ((impl_isPort.f aG).bind fun aQ => (if aQ = true then ((impl_inRange.f aD 0 20).bind fun aT => (if aT = true then (some ((aD == 0) == (aA == aC))) else (some false))) else (some false)))) else (some false))) else (some false))) = some r := h
 clear h
 obtain ⟨aK, bA, H⟩ := hB H
 have A2 := aM bA
 clear bA
 by_cases c3 : aK = true
 case neg =>
  replace c3 := Bool.eq_false_iff.mpr c3
  subst c3
  replace H := hF H
  obtain rfl := Option.some.inj H
  go_enter Try.func178, Try.ntmps178
  go_wp2_with (first | ((with_reducible refine gD (N := 1) rfl ?_); refine bE (N := 1) (cs := #[aA, aD, aC, aG]) (t := 73) ?_; intro aH hg bQ hbox hb; have aE := aM (hbox); have aI := gF hg HB; have aJ := gF hg HB; replace HB := rS HB hb; clear hb hbox hg; have bJ := cA4 aE.out) | ((with_reducible refine gC (f := 86) rfl ?_); refine gL (some 5) Try.func86 #[aA, .int .i64 1, .int .i64 9] ?_; (with_reducible refine (impl_inRange.calls aA 1 9 false _ A2.out).mono ?_); rintro e w' ⟨rfl, ⟨nd, rfl⟩⟩; refine ⟨_, rfl, ?_⟩))
  go_ret
  exact ⟨xW, bl HB.out⟩
 subst c3
 replace H := hP H rfl
 obtain ⟨aN, bD, H⟩ := hB H
 have A4 := aM bD
 clear bD
 by_cases c5 : aN = true
 case neg =>
  replace c5 := Bool.eq_false_iff.mpr c5
  subst c5
  replace H := hF H
  obtain rfl := Option.some.inj H
  go_enter Try.func178, Try.ntmps178
  go_wp2_with (first | ((with_reducible refine gD (N := 1) rfl ?_); refine bE (N := 1) (cs := #[aA, aD, aC, aG]) (t := 73) ?_; intro aH hg bT hbox hb; have aE := aM (hbox); have aI := gF hg HB; have aJ := gF hg HB; replace HB := rS HB hb; clear hb hbox hg; have bK := cA4 aE.out) | ((with_reducible refine gC (f := 86) rfl ?_); refine gL (some 5) Try.func86 #[aA, .int .i64 1, .int .i64 9] ?_; (with_reducible refine (impl_inRange.calls aA 1 9 true _ A2.out).mono ?_); rintro e w' ⟨rfl, ⟨nd, rfl⟩⟩; refine ⟨_, rfl, ?_⟩) | (go_at_call 86; (with_reducible refine (impl_inRange.calls aC 1 9 false _ A4.out).mono ?_); rintro e w' ⟨rfl, ⟨nd, rfl⟩⟩))
  go_ret
  exact ⟨xW, bl HB.out⟩
 subst c5
 replace H := hP H rfl
 by_cases c6 : aA > aC
 case pos =>
  rw [if_pos c6] at H
  have bI := decide_eq_true c6
  clear c6
  obtain rfl := Option.some.inj H
  go_enter Try.func178, Try.ntmps178
  go_wp2_with (first | ((with_reducible refine gD (N := 1) rfl ?_); refine bE (N := 1) (cs := #[aA, aD, aC, aG]) (t := 73) ?_; intro aH hg w7 hbox hb; have aE := aM (hbox); have aI := gF hg HB; have aJ := gF hg HB; replace HB := rS HB hb; clear hb hbox hg; have bP := cA4 aE.out) | ((with_reducible refine gC (f := 86) rfl ?_); refine gL (some 5) Try.func86 #[aA, .int .i64 1, .int .i64 9] ?_; (with_reducible refine (impl_inRange.calls aA 1 9 true _ A2.out).mono ?_); rintro e w' ⟨rfl, ⟨nd, rfl⟩⟩; refine ⟨_, rfl, ?_⟩) | (go_at_call 86; (with_reducible refine (impl_inRange.calls aC 1 9 true _ A4.out).mono ?_); rintro e w' ⟨rfl, ⟨nd, rfl⟩⟩))
  go_ret
  exact ⟨xW, bl HB.out⟩
 rw [if_neg c6] at H
 have bI := decide_eq_false c6
 clear c6
 obtain ⟨aQ, bG, H⟩ := hB H
 have A9 := aM bG
 clear bG
 by_cases aV : aQ = true
 case neg =>
  replace aV := Bool.eq_false_iff.mpr aV
  subst aV
  replace H := hF H
  obtain rfl := Option.some.inj H
  go_enter Try.func178, Try.ntmps178
  go_wp2_with (first | ((with_reducible refine gD (N := 1) rfl ?_); refine bE (N := 1) (cs := #[aA, aD, aC, aG]) (t := 73) ?_; intro aH hg bU hbox hb; have aE := aM (hbox); have aI := gF hg HB; have aJ := gF hg HB; replace HB := rS HB hb; clear hb hbox hg; have bL := cA4 aE.out) | ((with_reducible refine gC (f := 86) rfl ?_); refine gL (some 5) Try.func86 #[aA, .int .i64 1, .int .i64 9] ?_; (with_reducible refine (impl_inRange.calls aA 1 9 true _ A2.out).mono ?_); rintro e w' ⟨rfl, ⟨nd, rfl⟩⟩; refine ⟨_, rfl, ?_⟩) | (go_at_call 86; (with_reducible refine (impl_inRange.calls aC 1 9 true _ A4.out).mono ?_); rintro e w' ⟨rfl, ⟨nd, rfl⟩⟩) | (go_at_call 170; (with_reducible refine (impl_isPort.calls aG false _ A9.out).mono ?_); rintro e w' ⟨rfl, ⟨nd, rfl⟩⟩))
  go_ret
  exact ⟨xW, bl HB.out⟩
 subst aV
 replace H := hP H rfl
 obtain ⟨aT, aX, H⟩ := hB H
 have bH := aM aX
 clear aX
 by_cases aW : aT = true
 case pos =>
  subst aW
  replace H := hP H rfl
  obtain rfl := Option.some.inj H
  go_enter Try.func178, Try.ntmps178
  go_wp2_with (first | ((with_reducible refine gD (N := 1) rfl ?_); refine bE (N := 1) (cs := #[aA, aD, aC, aG]) (t := 73) ?_; intro aH hg bV hbox hb; have aE := aM (hbox); have aI := gF hg HB; have aJ := gF hg HB; replace HB := rS HB hb; clear hb hbox hg; have bM := cA4 aE.out) | ((with_reducible refine gC (f := 86) rfl ?_); refine gL (some 5) Try.func86 #[aA, .int .i64 1, .int .i64 9] ?_; (with_reducible refine (impl_inRange.calls aA 1 9 true _ A2.out).mono ?_); rintro e w' ⟨rfl, ⟨nd, rfl⟩⟩; refine ⟨_, rfl, ?_⟩) | (go_at_call 86; (with_reducible refine (impl_inRange.calls aC 1 9 true _ A4.out).mono ?_); rintro e w' ⟨rfl, ⟨nd, rfl⟩⟩) | (go_at_call 170; (with_reducible refine (impl_isPort.calls aG true _ A9.out).mono ?_); rintro e w' ⟨rfl, ⟨nd, rfl⟩⟩) | ((with_reducible refine gC (f := 86) rfl ?_); refine gL (some 28) Try.func86 #[aD, .int .i64 0, .int .i64 20] ?_; (with_reducible refine (impl_inRange.calls aD 0 20 true _ bH.out).mono ?_); rintro e w' ⟨rfl, ⟨nd, rfl⟩⟩; refine ⟨_, rfl, ?_⟩))
  go_ret
  exact ⟨xW, bl HB.out⟩
 replace aW := Bool.eq_false_iff.mpr aW
 subst aW
 replace H := hF H
 obtain rfl := Option.some.inj H
 go_enter Try.func178, Try.ntmps178
 go_wp2_with (first | ((with_reducible refine gD (N := 1) rfl ?_); refine bE (N := 1) (cs := #[aA, aD, aC, aG]) (t := 73) ?_; intro aH hg bW hbox hb; have aE := aM (hbox); have aI := gF hg HB; have aJ := gF hg HB; replace HB := rS HB hb; clear hb hbox hg; have bN := cA4 aE.out) | ((with_reducible refine gC (f := 86) rfl ?_); refine gL (some 5) Try.func86 #[aA, .int .i64 1, .int .i64 9] ?_; (with_reducible refine (impl_inRange.calls aA 1 9 true _ A2.out).mono ?_); rintro e w' ⟨rfl, ⟨nd, rfl⟩⟩; refine ⟨_, rfl, ?_⟩) | (go_at_call 86; (with_reducible refine (impl_inRange.calls aC 1 9 true _ A4.out).mono ?_); rintro e w' ⟨rfl, ⟨nd, rfl⟩⟩) | (go_at_call 170; (with_reducible refine (impl_isPort.calls aG true _ A9.out).mono ?_); rintro e w' ⟨rfl, ⟨nd, rfl⟩⟩) | ((with_reducible refine gC (f := 86) rfl ?_); refine gL (some 28) Try.func86 #[aD, .int .i64 0, .int .i64 20] ?_; (with_reducible refine (impl_inRange.calls aD 0 20 false _ bH.out).mono ?_); rintro e w' ⟨rfl, ⟨nd, rfl⟩⟩; refine ⟨_, rfl, ?_⟩))
 go_ret
 exact ⟨xW, bl HB.out⟩

def impl_isHops.f (a0 : Int) : Option (Bool) := (impl_inRange.f a0 0 8).bind fun aA => (some aA)
set_option maxHeartbeats 60000000 in
set_option maxRecDepth 100000 in
theorem impl_isHops.calls (a0 : Int) (r : Bool) (w : World) (h : impl_isHops.f a0 = some r) :
  Calls Try.prog 179 #[a0] w fun e w' => e = .returned (.bool r) ∧ Drawn0 w w' := by
 have H : ((impl_inRange.f a0 0 8).bind fun aA => (some aA)) = some r := h
 clear h
 obtain ⟨aA, aC, H⟩ := hB H
 have A2 := aM aC
 clear aC
 obtain rfl := Option.some.inj H
 go_enter Try.func179, Try.ntmps179
 go_wp2_with (first | ((with_reducible refine gC (f := 86) rfl ?_); refine gL (some 4) Try.func86 #[a0, .int .i64 0, .int .i64 8] ?_; (with_reducible refine (impl_inRange.calls a0 0 8 aA _ A2.out).mono ?_); rintro e w' ⟨rfl, ⟨nd, rfl⟩⟩; refine ⟨_, rfl, ?_⟩))
 go_ret
 exact ⟨by first | rfl | (simp; done) | (simp [*]; done), by repeat (first | exact Drawn0.refl _ | apply Drawn0.step)⟩

def impl_Port_isOpenBy.f (aE aG : Bool) (aH aI aJ aK aN aQ aA aC : Int) (aD : Bool) : Option (Bool) := if aA = 1 then (some (aC == 0)) else (if aA = 2 then (some (aC == 0)) else (some false))
set_option maxHeartbeats 60000000 in
set_option maxRecDepth 100000 in
theorem impl_Port_isOpenBy.calls (aG aH : Bool) (aI aJ aK aN aQ aT aA aC : Int) (aD r : Bool) (w : World) (h : impl_Port_isOpenBy.f aG aH aI aJ aK aN aQ aT aA aC aD = some r) :
  Calls Try.prog 180 #[.agg #[aG, aH, aI, aJ, aK, aN, aQ, aT, aA, aC, aD]] w fun e w' => e = .returned (.bool r) ∧ Below w.heap.size w w' := by
 have bI := Try.underlying79
 have HB := aM (Below.refl w.heap.size w)
 have H : (if aA = 1 then (some (aC == 0)) else (if aA = 2 then (some (aC == 0)) else (some false))) = some r := h
 clear h
 by_cases c2 : aA = 1
 case pos =>
  rw [if_pos c2] at H
  have bA : (aA == 1) = true := beq_iff_eq.mpr c2
  have bD : (aA != 1) = false := bne_eq_false_iff_eq.mpr c2
  clear c2
  obtain rfl := Option.some.inj H
  go_enter Try.func180, Try.ntmps180
  go_wp2_with (first | ((with_reducible refine gD (N := 1) rfl ?_); refine bE (N := 1) (cs := #[aG, aH, aI, aJ, aK, aN, aQ, aT, aA, aC, aD]) (t := 79) ?_; intro aV hg w3 hbox hb; have aE := aM (hbox); have aW := gF hg HB; have aX := gF hg HB; replace HB := rS HB hb; clear hb hbox hg; have bJ := cA11 aE.out))
  go_ret
  exact ⟨xW, bl HB.out⟩
 rw [if_neg c2] at H
 have bA : (aA == 1) = false := beq_eq_false_iff_ne.mpr c2
 have bD : (aA != 1) = true := bne_iff_ne.mpr c2
 by_cases c5 : aA = 2
 case neg =>
  rw [if_neg c5] at H
  have bG : (aA == 2) = false := beq_eq_false_iff_ne.mpr c5
  have bH : (aA != 2) = true := bne_iff_ne.mpr c5
  obtain rfl := Option.some.inj H
  go_enter Try.func180, Try.ntmps180
  go_wp2_with (first | ((with_reducible refine gD (N := 1) rfl ?_); refine bE (N := 1) (cs := #[aG, aH, aI, aJ, aK, aN, aQ, aT, aA, aC, aD]) (t := 79) ?_; intro aV hg w8 hbox hb; have aE := aM (hbox); have aW := gF hg HB; have aX := gF hg HB; replace HB := rS HB hb; clear hb hbox hg; have bK := cA11 aE.out))
  go_ret
  exact ⟨xW, bl HB.out⟩
 rw [if_pos c5] at H
 have bG : (aA == 2) = true := beq_iff_eq.mpr c5
 have bH : (aA != 2) = false := bne_eq_false_iff_eq.mpr c5
 clear c5
 obtain rfl := Option.some.inj H
 go_enter Try.func180, Try.ntmps180
 go_wp2_with (first | ((with_reducible refine gD (N := 1) rfl ?_); refine bE (N := 1) (cs := #[aG, aH, aI, aJ, aK, aN, aQ, aT, aA, aC, aD]) (t := 79) ?_; intro aV hg w6 hbox hb; have aE := aM (hbox); have aW := gF hg HB; have aX := gF hg HB; replace HB := rS HB hb; clear hb hbox hg; have bL := cA11 aE.out))
 go_ret
 exact ⟨xW, bl HB.out⟩

end Go.Proofs.Ythmijfekdeagpaa.PFnFades

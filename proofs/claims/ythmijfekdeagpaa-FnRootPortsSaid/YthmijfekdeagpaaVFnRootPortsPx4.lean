/- Of the proof of laws.FnRootPorts: a part. No condition beyond what its theorems say. -/
import Derived.Test.YthmijfekdeagpaaVFnRootPortsPx0
namespace Go.Proofs.Ythmijfekdeagpaa.PFnRootPorts
open Go.RowKit Go.Proofs.YthmijfekdeagpaaW.PrintWords Go.Proofs.YthmijfekdeagpaaW.PrintLast Go.Proofs.YthmijfekdeagpaaW.PrintMore
attribute [local go_sem] max2_int min2_int max_two min_two max_three min_three max_four min_four   -- for this text's walks alone
set_option linter.unusedVariables false
set_option linter.unusedSimpArgs false

def spec_l1In.f (a0 : Int) (a1 : Int) (a2 : Int) : Option (Bool) := if a0 ≥ a1 then (some (decide (a0 ≤ a2))) else (some false)
set_option maxHeartbeats 60000000 in
set_option maxRecDepth 100000 in
theorem spec_l1In.calls (a0 : Int) (a1 : Int) (a2 : Int) (r : Bool) (w : World) (h : spec_l1In.f a0 a1 a2 = some r) :
  Calls Try.prog 80 #[a0, a1, a2] w fun e w' => e = .returned (.bool r) ∧ Drawn0 w w' := by
 have H : (if a0 ≥ a1 then (some (decide (a0 ≤ a2))) else (some false)) = some r := h
 clear h
 by_cases c4 : a0 ≥ a1
 case pos =>
  rw [if_pos c4] at H
  have aA := decide_eq_true c4
  clear c4
  obtain rfl := Option.some.inj H
  go_enter Try.func80, Try.ntmps80
  go_wp2
  go_ret
  exact ⟨by first | rfl | (simp; done) | (simp [*]; done), by repeat (first | exact Drawn0.refl _ | apply Drawn0.step)⟩
 rw [if_neg c4] at H
 have aA := decide_eq_false c4
 clear c4
 obtain rfl := Option.some.inj H
 go_enter Try.func80, Try.ntmps80
 go_wp2
 go_ret
 exact ⟨by first | rfl | (simp; done) | (simp [*]; done), by repeat (first | exact Drawn0.refl _ | apply Drawn0.step)⟩

def spec_VecOk.f (aA : Int) (aD : Int) (aC : Int) (aE : Int) : Option (Bool) := (spec_l1In.f aA 1 9).bind fun aG => (if aG = true then ((spec_l1In.f aC 1 9).bind fun aH => (if aH = true then (if aA ≤ aC then ((spec_l1In.f aD 0 20).bind fun aI => (if aI = true then (if ((aD == 0) == (aA == aC)) = true then ((spec_l1In.f aE 0 3).bind fun aJ => (some aJ)) else (some false)) else (some false))) else (some false)) else (some false))) else (some false))
set_option maxHeartbeats 60000000 in
set_option maxRecDepth 100000 in
theorem spec_VecOk.calls (aA : Int) (aD : Int) (aC : Int) (aG : Int) (r : Bool) (w : World) (h : spec_VecOk.f aA aD aC aG = some r) :
  Calls Try.prog 181 #[.agg #[aA, aD, aC, aG]] w fun e w' => e = .returned (.bool r) ∧ Below w.heap.size w w' := by
 have bP := Try.underlying73
 have HB := aM (Below.refl w.heap.size w)
 have H : ((spec_l1In.f aA 1 9).bind fun aK => (if aK = true then ((spec_l1In.f aC 1 9).bind fun aN => (if aN = true then (if aA ≤ aC then ((spec_l1In.f aD 0 20).bind fun aQ => (if aQ = true then (if ((aD == 0) == (aA == aC)) = true then ((spec_l1In.f aG 0 3).bind fun aT => (some aT)) else (some false)) else (some false))) else (some false)) else (some false))) else (some false))) = some r := h
 clear h
 obtain ⟨aK, aW, H⟩ := hB H
 have A2 := aM aW
 clear aW
 by_cases c3 : aK = true
 case neg =>
  replace c3 := Bool.eq_false_iff.mpr c3
  subst c3
  replace H := hF H
  obtain rfl := Option.some.inj H
  go_enter Try.func181, Try.ntmps181
  go_wp2_with (first | ((with_reducible refine gD (N := 1) rfl ?_); refine bE (N := 1) (cs := #[aA, aD, aC, aG]) (t := 73) ?_; intro aH hg bR hbox hb; have aE := aM (hbox); have aI := gF hg HB; have aJ := gF hg HB; replace HB := rS HB hb; clear hb hbox hg; have bJ := cA4 aE.out) | ((with_reducible refine gC (f := 80) rfl ?_); refine gL (some 5) Try.func80 #[aA, .int .i64 1, .int .i64 9] ?_; (with_reducible refine (spec_l1In.calls aA 1 9 false _ A2.out).mono ?_); rintro e w' ⟨rfl, ⟨nd, rfl⟩⟩; refine ⟨_, rfl, ?_⟩))
  go_ret
  exact ⟨xW, bl HB.out⟩
 subst c3
 replace H := hP H rfl
 obtain ⟨aN, aX, H⟩ := hB H
 have A4 := aM aX
 clear aX
 by_cases c5 : aN = true
 case neg =>
  replace c5 := Bool.eq_false_iff.mpr c5
  subst c5
  replace H := hF H
  obtain rfl := Option.some.inj H
  go_enter Try.func181, Try.ntmps181
  go_wp2_with (first | ((with_reducible refine gD (N := 1) rfl ?_); refine bE (N := 1) (cs := #[aA, aD, aC, aG]) (t := 73) ?_; intro aH hg bT hbox hb; have aE := aM (hbox); have aI := gF hg HB; have aJ := gF hg HB; replace HB := rS HB hb; clear hb hbox hg; have bK := cA4 aE.out) | ((with_reducible refine gC (f := 80) rfl ?_); refine gL (some 5) Try.func80 #[aA, .int .i64 1, .int .i64 9] ?_; (with_reducible refine (spec_l1In.calls aA 1 9 true _ A2.out).mono ?_); rintro e w' ⟨rfl, ⟨nd, rfl⟩⟩; refine ⟨_, rfl, ?_⟩) | (go_at_call 80; (with_reducible refine (spec_l1In.calls aC 1 9 false _ A4.out).mono ?_); rintro e w' ⟨rfl, ⟨nd, rfl⟩⟩))
  go_ret
  exact ⟨xW, bl HB.out⟩
 subst c5
 replace H := hP H rfl
 by_cases c6 : aA ≤ aC
 case neg =>
  rw [if_neg c6] at H
  have bA := decide_eq_false c6
  clear c6
  obtain rfl := Option.some.inj H
  go_enter Try.func181, Try.ntmps181
  go_wp2_with (first | ((with_reducible refine gD (N := 1) rfl ?_); refine bE (N := 1) (cs := #[aA, aD, aC, aG]) (t := 73) ?_; intro aH hg bU hbox hb; have aE := aM (hbox); have aI := gF hg HB; have aJ := gF hg HB; replace HB := rS HB hb; clear hb hbox hg; have bL := cA4 aE.out) | ((with_reducible refine gC (f := 80) rfl ?_); refine gL (some 5) Try.func80 #[aA, .int .i64 1, .int .i64 9] ?_; (with_reducible refine (spec_l1In.calls aA 1 9 true _ A2.out).mono ?_); rintro e w' ⟨rfl, ⟨nd, rfl⟩⟩; refine ⟨_, rfl, ?_⟩) | (go_at_call 80; (with_reducible refine (spec_l1In.calls aC 1 9 true _ A4.out).mono ?_); rintro e w' ⟨rfl, ⟨nd, rfl⟩⟩))
  go_ret
  exact ⟨xW, bl HB.out⟩
 rw [if_pos c6] at H
 have bA := decide_eq_true c6
 clear c6
 obtain ⟨aQ, aZ, H⟩ := hB H
 have A7 := aM aZ
 clear aZ
 by_cases c8 : aQ = true
 case neg =>
  replace c8 := Bool.eq_false_iff.mpr c8
  subst c8
  replace H := hF H
  obtain rfl := Option.some.inj H
  go_enter Try.func181, Try.ntmps181
  go_wp2_with (first | ((with_reducible refine gD (N := 1) rfl ?_); refine bE (N := 1) (cs := #[aA, aD, aC, aG]) (t := 73) ?_; intro aH hg bV hbox hb; have aE := aM (hbox); have aI := gF hg HB; have aJ := gF hg HB; replace HB := rS HB hb; clear hb hbox hg; have bM := cA4 aE.out) | ((with_reducible refine gC (f := 80) rfl ?_); refine gL (some 5) Try.func80 #[aA, .int .i64 1, .int .i64 9] ?_; (with_reducible refine (spec_l1In.calls aA 1 9 true _ A2.out).mono ?_); rintro e w' ⟨rfl, ⟨nd, rfl⟩⟩; refine ⟨_, rfl, ?_⟩) | (go_at_call 80; (with_reducible refine (spec_l1In.calls aC 1 9 true _ A4.out).mono ?_); rintro e w' ⟨rfl, ⟨nd, rfl⟩⟩) | (go_at_call 80; (with_reducible refine (spec_l1In.calls aD 0 20 false _ A7.out).mono ?_); rintro e w' ⟨rfl, ⟨nd, rfl⟩⟩))
  go_ret
  exact ⟨xW, bl HB.out⟩
 subst c8
 replace H := hP H rfl
 by_cases c9 : ((aD == 0) == (aA == aC)) = true
 case neg =>
  rw [if_neg c9] at H
  have bD : ((aD == 0) == (aA == aC)) = false := by simpa using c9
  (try (have bG : decide ((aD == 0) = (aA == aC)) = false := by simpa using c9))
  (try (have bH : ((aD == 0) == (aA == aC)) = false := by simpa using c9))
  (try (have bQ : ¬ ((aD == 0) = (aA == aC)) := by simpa using c9))
  clear c9
  obtain rfl := Option.some.inj H
  go_enter Try.func181, Try.ntmps181
  go_wp2_with (first | ((with_reducible refine gD (N := 1) rfl ?_); refine bE (N := 1) (cs := #[aA, aD, aC, aG]) (t := 73) ?_; intro aH hg bW hbox hb; have aE := aM (hbox); have aI := gF hg HB; have aJ := gF hg HB; replace HB := rS HB hb; clear hb hbox hg; have bN := cA4 aE.out) | ((with_reducible refine gC (f := 80) rfl ?_); refine gL (some 5) Try.func80 #[aA, .int .i64 1, .int .i64 9] ?_; (with_reducible refine (spec_l1In.calls aA 1 9 true _ A2.out).mono ?_); rintro e w' ⟨rfl, ⟨nd, rfl⟩⟩; refine ⟨_, rfl, ?_⟩) | (go_at_call 80; (with_reducible refine (spec_l1In.calls aC 1 9 true _ A4.out).mono ?_); rintro e w' ⟨rfl, ⟨nd, rfl⟩⟩) | (go_at_call 80; (with_reducible refine (spec_l1In.calls aD 0 20 true _ A7.out).mono ?_); rintro e w' ⟨rfl, ⟨nd, rfl⟩⟩))
  go_ret
  exact ⟨xW, bl HB.out⟩
 rw [if_pos c9] at H
 have bD : ((aD == 0) == (aA == aC)) = true := c9
 (try (have bG : decide ((aD == 0) = (aA == aC)) = true := by simpa using c9))
 (try (have bH : ((aD == 0) == (aA == aC)) = true := by simpa using c9))
 clear c9
 obtain ⟨aT, aV, H⟩ := hB H
 have bI := aM aV
 clear aV
 obtain rfl := Option.some.inj H
 go_enter Try.func181, Try.ntmps181
 go_wp2_with (first | ((with_reducible refine gD (N := 1) rfl ?_); refine bE (N := 1) (cs := #[aA, aD, aC, aG]) (t := 73) ?_; intro aH hg bX hbox hb; have aE := aM (hbox); have aI := gF hg HB; have aJ := gF hg HB; replace HB := rS HB hb; clear hb hbox hg; have bO := cA4 aE.out) | ((with_reducible refine gC (f := 80) rfl ?_); refine gL (some 5) Try.func80 #[aA, .int .i64 1, .int .i64 9] ?_; (with_reducible refine (spec_l1In.calls aA 1 9 true _ A2.out).mono ?_); rintro e w' ⟨rfl, ⟨nd, rfl⟩⟩; refine ⟨_, rfl, ?_⟩) | (go_at_call 80; (with_reducible refine (spec_l1In.calls aC 1 9 true _ A4.out).mono ?_); rintro e w' ⟨rfl, ⟨nd, rfl⟩⟩) | (go_at_call 80; (with_reducible refine (spec_l1In.calls aD 0 20 true _ A7.out).mono ?_); rintro e w' ⟨rfl, ⟨nd, rfl⟩⟩) | (go_at_call 80; (with_reducible refine (spec_l1In.calls aG 0 3 aT _ bI.out).mono ?_); rintro e w' ⟨rfl, ⟨nd, rfl⟩⟩))
 go_ret
 exact ⟨xW, bl HB.out⟩

end Go.Proofs.Ythmijfekdeagpaa.PFnRootPorts

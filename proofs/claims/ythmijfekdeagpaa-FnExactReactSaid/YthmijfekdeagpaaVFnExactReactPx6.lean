/- A part of the proof of laws.FnExactReact. No condition beyond what its theorems say. -/
import Derived.Test.YthmijfekdeagpaaVFnExactReactPx5
namespace Go.Proofs.Ythmijfekdeagpaa.PFnExactReact
open Go.RowKit Go.Proofs.YthmijfekdeagpaaW.PrintWords Go.Proofs.YthmijfekdeagpaaW.PrintLast Go.Proofs.YthmijfekdeagpaaW.PrintMore
set_option linter.unusedVariables false
set_option linter.unusedSimpArgs false

def Z45.f (a0 : Int) : Option (Bool) := (Z15.f a0 0 8).bind fun aA => (some aA)
set_option maxHeartbeats 60000000 in
set_option maxRecDepth 100000 in
theorem Z45.calls (a0 : Int) (r : Bool) (w : World) (h : Z45.f a0 = some r) :
  Calls Try.prog 179 #[a0] w fun e w' => e = .returned (.bool r) ∧ Drawn0 w w' := by
 have H : ((Z15.f a0 0 8).bind fun aA => (some aA)) = some r := h
 clear h
 obtain ⟨aA, aC, H⟩ := hB H
 have A2 := aM aC
 clear aC
 obtain rfl := Option.some.inj H
 go_enter Try.func179, Try.ntmps179
 go_wp2_with (first | ((with_reducible refine gC (f := 86) rfl ?_); refine gL (some 4) Try.func86 #[a0, .int .i64 0, .int .i64 8] ?_; (with_reducible refine (Z15.calls a0 0 8 aA _ A2.out).mono ?_); rintro e w' ⟨rfl, ⟨nd, rfl⟩⟩; refine ⟨_, rfl, ?_⟩))
 go_ret
 exact ⟨by first | rfl | (simp; done) | (simp [*]; done), by repeat (first | exact Drawn0.refl _ | apply Drawn0.step)⟩

def Z46.f (aE aG : Bool) (aH aI aJ aK aN aQ aA aC : Int) (aD : Bool) : Option (Bool) := if aA = 1 then (some (aC == 0)) else (if aA = 2 then (some (aC == 0)) else (some false))
set_option maxHeartbeats 60000000 in
set_option maxRecDepth 100000 in
theorem Z46.calls (aG aH : Bool) (aI aJ aK aN aQ aT aA aC : Int) (aD r : Bool) (w : World) (h : Z46.f aG aH aI aJ aK aN aQ aT aA aC aD = some r) :
  Calls Try.prog 180 #[.agg #[aG, aH, aI, aJ, aK, aN, aQ, aT, aA, aC, aD]] w fun e w' => e = .returned (.bool r) ∧ Below w.heap.size w w' := by
 have bI := Try.underlying79
 have HB := aM (Below.refl w.heap.size w)
 have H : (if aA = 1 then (some (aC == 0)) else (if aA = 2 then (some (aC == 0)) else (some false))) = some r := h
 clear h
 by_cases c2 : aA = 1
 case pos =>
  rw [if_pos c2] at H
  have bA : (aA == 1) = true := beq_iff_eq.mpr c2
  have bD : (aA != 1) = false := bne_eq_false_iff_eq.mpr c2
  clear c2
  obtain rfl := Option.some.inj H
  go_enter Try.func180, Try.ntmps180
  go_wp2_with (first | ((with_reducible refine gD (N := 1) rfl ?_); refine bE (N := 1) (cs := #[aG, aH, aI, aJ, aK, aN, aQ, aT, aA, aC, aD]) (t := 79) ?_; intro aV hg w3 hbox hb; have aE := aM (hbox); have aW := gF hg HB; have aX := gF hg HB; replace HB := rS HB hb; clear hb hbox hg; have bJ := cA11 aE.out))
  go_ret
  exact ⟨xW, bl HB.out⟩
 rw [if_neg c2] at H
 have bA : (aA == 1) = false := beq_eq_false_iff_ne.mpr c2
 have bD : (aA != 1) = true := bne_iff_ne.mpr c2
 by_cases c5 : aA = 2
 case neg =>
  rw [if_neg c5] at H
  have bG : (aA == 2) = false := beq_eq_false_iff_ne.mpr c5
  have bH : (aA != 2) = true := bne_iff_ne.mpr c5
  obtain rfl := Option.some.inj H
  go_enter Try.func180, Try.ntmps180
  go_wp2_with (first | ((with_reducible refine gD (N := 1) rfl ?_); refine bE (N := 1) (cs := #[aG, aH, aI, aJ, aK, aN, aQ, aT, aA, aC, aD]) (t := 79) ?_; intro aV hg w8 hbox hb; have aE := aM (hbox); have aW := gF hg HB; have aX := gF hg HB; replace HB := rS HB hb; clear hb hbox hg; have bK := cA11 aE.out))
  go_ret
  exact ⟨xW, bl HB.out⟩
 rw [if_pos c5] at H
 have bG : (aA == 2) = true := beq_iff_eq.mpr c5
 have bH : (aA != 2) = false := bne_eq_false_iff_eq.mpr c5
 clear c5
 obtain rfl := Option.some.inj H
 go_enter Try.func180, Try.ntmps180
 go_wp2_with (first | ((with_reducible refine gD (N := 1) rfl ?_); refine bE (N := 1) (cs := #[aG, aH, aI, aJ, aK, aN, aQ, aT, aA, aC, aD]) (t := 79) ?_; intro aV hg w6 hbox hb; have aE := aM (hbox); have aW := gF hg HB; have aX := gF hg HB; replace HB := rS HB hb; clear hb hbox hg; have bL := cA11 aE.out))
 go_ret
 exact ⟨xW, bl HB.out⟩

end Go.Proofs.Ythmijfekdeagpaa.PFnExactReact

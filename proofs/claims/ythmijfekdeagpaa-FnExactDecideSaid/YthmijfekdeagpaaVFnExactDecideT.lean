/- Of the proof of laws.FnExactDecide: a part. No condition beyond what its theorems say. -/
/- The machine side of laws.FnExactDecide: where the plain function of that name answers true, its call returns true. No condition beyond what its arguments read as. -/
import Derived.Test.YthmijfekdeagpaaVFnExactDecidePx0
import Derived.Test.YthmijfekdeagpaaVFnExactDecidePx1
import Derived.Test.YthmijfekdeagpaaVFnExactDecidePx2
import Derived.Test.YthmijfekdeagpaaVFnExactDecidePx3
import Derived.Test.YthmijfekdeagpaaVFnExactDecidePx4
import Derived.Test.YthmijfekdeagpaaVFnExactDecidePx5
import Derived.Test.YthmijfekdeagpaaVFnExactDecidePx6
import Derived.Test.YthmijfekdeagpaaVFnExactDecidePx7
import Derived.Test.YthmijfekdeagpaaVFnExactDecidePx8
import Derived.Test.YthmijfekdeagpaaVFnExactDecidePx9
import Derived.Test.YthmijfekdeagpaaVFnExactDecidePx10
import Derived.Test.YthmijfekdeagpaaVFnExactDecidePx11
import Derived.Test.YthmijfekdeagpaaVFnExactDecidePx12
import Derived.Test.YthmijfekdeagpaaVFnExactDecidePx13
import Derived.Test.YthmijfekdeagpaaVFnExactDecidePx14
import Derived.Test.YthmijfekdeagpaaVFnExactDecidePx15
import Derived.Test.YthmijfekdeagpaaVFnExactDecidePx16
import Derived.Test.YthmijfekdeagpaaVFnExactDecidePx17
import Derived.Test.YthmijfekdeagpaaVFnExactDecidePx18
namespace Go.Proofs.Ythmijfekdeagpaa.PFnExactDecide
open Go.RowKit Go.Proofs.YthmijfekdeagpaaW.PrintWords Go.Proofs.YthmijfekdeagpaaW.PrintLast Go.Proofs.YthmijfekdeagpaaW.PrintMore
attribute [local go_sem] max2_int min2_int max_two min_two max_three min_three max_four min_four   -- for this text's walks alone
set_option linter.unusedVariables false
set_option linter.unusedSimpArgs false
attribute [local go_sem high] eqA73

def laws_FnExactDecide.j0 : Nat → Bool → Int → List (S160) → Int → List (S79) → Int → List (S79) → Option (Bool)
 | 0, _, _, _, _, _, _, _ => none
 | k + 1, x42, x440000, x440001, x450000, x450001, x460000, x460001 => if x42 = true then (some false) else ((laws_markBridge.f k x460000 x460001 1).bind fun bt469 => ((laws_heldBridge.f k x460000 bt469.2 1).bind fun t471 => (if t471 < 0 then (some false) else (if t471 = bt469.1 then ((laws_toBridge.f k x440000 x440001).bind fun bt472 => ((impl_Decide.f k bt472.1 bt472.2).bind fun bt476 => ((laws_eqBridge.f k bt476.1 bt476.2 x450000 x450001).bind fun t481 => (if t481 = true then ((laws_heldBridge.f k x460000 bt469.2 1).bind fun t482 => (if t482 < 0 then (some false) else (if t482 = bt469.1 then (some true) else (some false)))) else (some false))))) else (some false)))))
def laws_FnExactDecide.f (k : Nat) (a0_0 : Int) (l0_1 : List (S160)) : Option (Bool) := (laws_szBridge.f a0_0 l0_1 1048576).bind fun t440 => (if t440 < 0 then (some true) else ((laws_toBridge.f k a0_0 l0_1).bind fun bt441 => ((spec_Decide.f k bt441.1 bt441.2).bind fun bt445 => ((laws_toBridge.f k a0_0 l0_1).bind fun bt450 => ((impl_Decide.f k bt450.1 bt450.2).bind fun bt455 => ((laws_eqBridge.f k bt455.1 bt455.2 bt445.1 bt445.2).bind fun t460 => (if t460 = true then ((laws_toBridge.f k a0_0 l0_1).bind fun bt461 => ((laws_eqBridge.f k bt450.1 bt450.2 bt461.1 bt461.2).bind fun t465 => (if t465 = true then ((laws_markBridge.f k bt450.1 bt450.2 1).bind fun bt466 => (if bt466.1 < 0 then (laws_FnExactDecide.j0 k true a0_0 l0_1 bt445.1 bt445.2 bt455.1 bt455.2) else ((laws_eqBridge.f k bt455.1 bt455.2 bt445.1 bt445.2).bind fun t468 => (laws_FnExactDecide.j0 k (!t468) a0_0 l0_1 bt445.1 bt445.2 bt455.1 bt455.2)))) else (some false)))) else (some false))))))))
theorem laws_FnExactDecide.mono_l : ∀ k, (∀ y0 y1 y2 y3 y4 y5 y6, LeO (laws_FnExactDecide.j0 k y0 y1 y2 y3 y4 y5 y6) (laws_FnExactDecide.j0 (k + 1) y0 y1 y2 y3 y4 y5 y6))
 | 0 => fun _ _ _ _ _ _ _ r h => by simp [laws_FnExactDecide.j0] at h
 | k + 1 => by
  have ih0 := laws_FnExactDecide.mono_l k
  ·intro y0 y1 y2 y3 y4 y5 y6
   unfold laws_FnExactDecide.j0
   repeat' first
   | (with_reducible exact ih0 _ _ _ _ _ _ _)
   | (with_reducible exact impl_Decide.mono _ _ _)
   | (with_reducible exact laws_eqBridge.mono _ _ _ _ _)
   | (with_reducible exact laws_heldBridge.mono _ _ _ _)
   | (with_reducible exact laws_markBridge.mono _ _ _ _)
   | (with_reducible exact laws_toBridge.mono _ _ _)
   | (with_reducible exact spec_Decide.mono _ _ _)
   | (with_reducible exact LeO.refl _)
   | (with_reducible exact LeO.none _)
   | (with_reducible refine LeO.ite ?_ ?_)
   | (with_reducible refine LeO.bind ?_ (fun _ => ?_))
   | exact ih0 _ _ _ _ _ _ _
   | exact impl_Decide.mono _ _ _
   | exact laws_eqBridge.mono _ _ _ _ _
   | exact laws_heldBridge.mono _ _ _ _
   | exact laws_markBridge.mono _ _ _ _
   | exact laws_toBridge.mono _ _ _
   | exact spec_Decide.mono _ _ _
   | exact LeO.none _
   | refine LeO.ite ?_ ?_
   | refine LeO.bind ?_ (fun _ => ?_)
theorem laws_FnExactDecide.mono : ∀ a0 a1 k, LeO (laws_FnExactDecide.f k a0 a1) (laws_FnExactDecide.f (k + 1) a0 a1) := by
 intro a0 a1 k
 have ih0 := laws_FnExactDecide.mono_l k
 unfold laws_FnExactDecide.f
 repeat' first
   | (with_reducible exact ih0 _ _ _ _ _ _ _)
   | (with_reducible exact impl_Decide.mono _ _ _)
   | (with_reducible exact laws_eqBridge.mono _ _ _ _ _)
   | (with_reducible exact laws_heldBridge.mono _ _ _ _)
   | (with_reducible exact laws_markBridge.mono _ _ _ _)
   | (with_reducible exact laws_toBridge.mono _ _ _)
   | (with_reducible exact spec_Decide.mono _ _ _)
   | (with_reducible exact LeO.refl _)
   | (with_reducible exact LeO.none _)
   | (with_reducible refine LeO.ite ?_ ?_)
   | (with_reducible refine LeO.bind ?_ (fun _ => ?_))
   | exact ih0 _ _ _ _ _ _ _
   | exact impl_Decide.mono _ _ _
   | exact laws_eqBridge.mono _ _ _ _ _
   | exact laws_heldBridge.mono _ _ _ _
   | exact laws_markBridge.mono _ _ _ _
   | exact laws_toBridge.mono _ _ _
   | exact spec_Decide.mono _ _ _
   | exact LeO.none _
   | refine LeO.ite ?_ ?_
   | refine LeO.bind ?_ (fun _ => ?_)
set_option maxHeartbeats 60000000 in
set_option maxRecDepth 100000 in
theorem laws_FnExactDecide.calls (k : Nat) (a0_0 : Int) (A0_1 : Option Addr) (c0_1 : Nat) (l0_1 : List (S160)) (w : World) (hr0_1 : Kd.C k160 w A0_1 l0_1.length l0_1) (hc0_1 : l0_1.length ≤ c0_1) (h : laws_FnExactDecide.f k a0_0 l0_1 = some true) :
  Calls Try.prog 3 #[.agg #[.int .i64 a0_0, .slice A0_1 l0_1.length c0_1]] w fun e w' => e = .returned (.bool true) ∧ Below w.heap.size w w' := by
 have hu24 := Try.underlying24
 have hu28 := Try.underlying28
 have HR0_1 := aM hr0_1
 have HC0_1 := aM hc0_1
 clear hr0_1 hc0_1
 have HB := aM (Below.refl w.heap.size w)
 have H : ((laws_szBridge.f a0_0 l0_1 1048576).bind fun t440 => (if t440 < 0 then (some true) else ((laws_toBridge.f k a0_0 l0_1).bind fun bt441 => ((spec_Decide.f k bt441.1 bt441.2).bind fun bt445 => ((laws_toBridge.f k a0_0 l0_1).bind fun bt450 => ((impl_Decide.f k bt450.1 bt450.2).bind fun bt455 => ((laws_eqBridge.f k bt455.1 bt455.2 bt445.1 bt445.2).bind fun t460 => (if t460 = true then ((laws_toBridge.f k a0_0 l0_1).bind fun bt461 => ((laws_eqBridge.f k bt450.1 bt450.2 bt461.1 bt461.2).bind fun t465 => (if t465 = true then ((laws_markBridge.f k bt450.1 bt450.2 1).bind fun bt466 => (if bt466.1 < 0 then (laws_FnExactDecide.j0 k true a0_0 l0_1 bt445.1 bt445.2 bt455.1 bt455.2) else ((laws_eqBridge.f k bt455.1 bt455.2 bt445.1 bt445.2).bind fun t468 => (laws_FnExactDecide.j0 k (!t468) a0_0 l0_1 bt445.1 bt445.2 bt455.1 bt455.2)))) else (some false)))) else (some false))))))))) = some true := h
 clear h
 replace H := Option.bind_eq_some_iff.mp H
 obtain ⟨t440, A20, H⟩ := H
 replace H : (if t440 < 0 then (some true) else ((laws_toBridge.f k a0_0 l0_1).bind fun bt441 => ((spec_Decide.f k bt441.1 bt441.2).bind fun bt445 => ((laws_toBridge.f k a0_0 l0_1).bind fun bt450 => ((impl_Decide.f k bt450.1 bt450.2).bind fun bt455 => ((laws_eqBridge.f k bt455.1 bt455.2 bt445.1 bt445.2).bind fun t460 => (if t460 = true then ((laws_toBridge.f k a0_0 l0_1).bind fun bt461 => ((laws_eqBridge.f k bt450.1 bt450.2 bt461.1 bt461.2).bind fun t465 => (if t465 = true then ((laws_markBridge.f k bt450.1 bt450.2 1).bind fun bt466 => (if bt466.1 < 0 then (laws_FnExactDecide.j0 k true a0_0 l0_1 bt445.1 bt445.2 bt455.1 bt455.2) else ((laws_eqBridge.f k bt455.1 bt455.2 bt445.1 bt445.2).bind fun t468 => (laws_FnExactDecide.j0 k (!t468) a0_0 l0_1 bt445.1 bt445.2 bt455.1 bt455.2)))) else (some false)))) else (some false)))))))) = some true := H
 have A2 := aM A20
 clear A20
 by_cases c3 : t440 < 0
 case pos =>
  rw [if_pos c3] at H
  have c3b0 : decide (t440 < 0) = true := decide_eq_true c3
  clear c3
  clear H
  go_enter Try.func3, Try.ntmps3
  go_wp2_with (first | ((with_reducible refine gate_dst (N := 1) rfl ?_); refine box_event ?hg (N := 1) ?hd (cs := #[.int .i64 a0_0, .slice A0_1 l0_1.length c0_1]) (t := 24) ?hr ?_; (case hd => rfl); (case hg => rfl); (case hr => first | (go_simp; done) | (go_simp; rfl)); intro gb439 hg w4 hbox hb; have n0_ := aM (bS (bl HB.out) hb); have n1_ := aM (hbox); have n2_ := aM ((by rw [hg]; exact (below_size (bl HB.out)) : w.heap.size ≤ gb439)); have n3_ := aM ((by rw [hg]; exact (below_size (bl HB.out)) : w.heap.size ≤ gb439)); clear HB; have HB := n0_; have BK439 := n1_; have GW439 := n2_; have GE439 := n3_; clear n0_ n1_ n2_ n3_; clear hb hbox hg; have hcz5_0 := cI BK439.out 0; have hcz5_1 := cI BK439.out 1; have hfz5_0 := bF BK439.out 0; have hfz5_1 := bF BK439.out 1) | ((with_reducible refine gate_callee (f := 12) rfl ?_); refine goesL_ (some 13) rfl rfl Try.func12 (by kernel_rfl) rfl #[.agg #[.int .i64 a0_0, .slice A0_1 l0_1.length c0_1], .int .i64 1048576] rfl xR ?_; (with_reducible refine (laws_szBridge.calls a0_0 _ _ l0_1 1048576 t440 _ ?side1 ?side2 A2.out).mono ?_); (case side1 => repeat (first | exact (cB HR0_1.out HB.out) | (with_reducible refine Kd.C_alloc ?_ _) | (with_reducible refine Kd.C_drewN ?_ _) | (with_reducible refine Kd.C_drew ?_))); (case side2 => exact HC0_1.out); rintro e w6 ⟨rfl, hb⟩; refine ⟨_, rfl, ?_⟩; have n0_ := aM (bB (g := gb439) (o := .cells #[.int .i64 a0_0, .slice A0_1 l0_1.length c0_1] 24 (0, 0)) (bk BK439.out) hb); have n1_ := aM (bS (bl HB.out) hb); clear BK439 HB; have BK439 := n0_; have HB := n1_; clear n0_ n1_; (try clear hb)))
  go_ret
  exact ⟨xW, bl HB.out⟩
 rw [if_neg c3] at H
 have c3b0 : decide (t440 < 0) = false := decide_eq_false c3
 clear c3
 replace H := Option.bind_eq_some_iff.mp H
 obtain ⟨⟨t441, t442⟩, A70, H⟩ := H
 replace H : ((spec_Decide.f k t441 t442).bind fun bt445 => ((laws_toBridge.f k a0_0 l0_1).bind fun bt450 => ((impl_Decide.f k bt450.1 bt450.2).bind fun bt455 => ((laws_eqBridge.f k bt455.1 bt455.2 bt445.1 bt445.2).bind fun t460 => (if t460 = true then ((laws_toBridge.f k a0_0 l0_1).bind fun bt461 => ((laws_eqBridge.f k bt450.1 bt450.2 bt461.1 bt461.2).bind fun t465 => (if t465 = true then ((laws_markBridge.f k bt450.1 bt450.2 1).bind fun bt466 => (if bt466.1 < 0 then (laws_FnExactDecide.j0 k true a0_0 l0_1 bt445.1 bt445.2 bt455.1 bt455.2) else ((laws_eqBridge.f k bt455.1 bt455.2 bt445.1 bt445.2).bind fun t468 => (laws_FnExactDecide.j0 k (!t468) a0_0 l0_1 bt445.1 bt445.2 bt455.1 bt455.2)))) else (some false)))) else (some false)))))) = some true := H
 have A7 := aM A70
 clear A70
 replace H := Option.bind_eq_some_iff.mp H
 obtain ⟨⟨t445, t446⟩, A80, H⟩ := H
 replace H : ((laws_toBridge.f k a0_0 l0_1).bind fun bt450 => ((impl_Decide.f k bt450.1 bt450.2).bind fun bt455 => ((laws_eqBridge.f k bt455.1 bt455.2 t445 t446).bind fun t460 => (if t460 = true then ((laws_toBridge.f k a0_0 l0_1).bind fun bt461 => ((laws_eqBridge.f k bt450.1 bt450.2 bt461.1 bt461.2).bind fun t465 => (if t465 = true then ((laws_markBridge.f k bt450.1 bt450.2 1).bind fun bt466 => (if bt466.1 < 0 then (laws_FnExactDecide.j0 k true a0_0 l0_1 t445 t446 bt455.1 bt455.2) else ((laws_eqBridge.f k bt455.1 bt455.2 t445 t446).bind fun t468 => (laws_FnExactDecide.j0 k (!t468) a0_0 l0_1 t445 t446 bt455.1 bt455.2)))) else (some false)))) else (some false))))) = some true := H
 have A8 := aM A80
 clear A80
 replace H := Option.bind_eq_some_iff.mp H
 obtain ⟨⟨t450, t451⟩, A90, H⟩ := H
 replace H : ((impl_Decide.f k t450 t451).bind fun bt455 => ((laws_eqBridge.f k bt455.1 bt455.2 t445 t446).bind fun t460 => (if t460 = true then ((laws_toBridge.f k a0_0 l0_1).bind fun bt461 => ((laws_eqBridge.f k t450 t451 bt461.1 bt461.2).bind fun t465 => (if t465 = true then ((laws_markBridge.f k t450 t451 1).bind fun bt466 => (if bt466.1 < 0 then (laws_FnExactDecide.j0 k true a0_0 l0_1 t445 t446 bt455.1 bt455.2) else ((laws_eqBridge.f k bt455.1 bt455.2 t445 t446).bind fun t468 => (laws_FnExactDecide.j0 k (!t468) a0_0 l0_1 t445 t446 bt455.1 bt455.2)))) else (some false)))) else (some false)))) = some true := H
 have A9 := aM A90
 clear A90
 replace H := Option.bind_eq_some_iff.mp H
 obtain ⟨⟨t455, t456⟩, A100, H⟩ := H
 replace H : ((laws_eqBridge.f k t455 t456 t445 t446).bind fun t460 => (if t460 = true then ((laws_toBridge.f k a0_0 l0_1).bind fun bt461 => ((laws_eqBridge.f k t450 t451 bt461.1 bt461.2).bind fun t465 => (if t465 = true then ((laws_markBridge.f k t450 t451 1).bind fun bt466 => (if bt466.1 < 0 then (laws_FnExactDecide.j0 k true a0_0 l0_1 t445 t446 t455 t456) else ((laws_eqBridge.f k t455 t456 t445 t446).bind fun t468 => (laws_FnExactDecide.j0 k (!t468) a0_0 l0_1 t445 t446 t455 t456)))) else (some false)))) else (some false))) = some true := H
 have A10 := aM A100
 clear A100
 replace H := Option.bind_eq_some_iff.mp H
 obtain ⟨t460, A110, H⟩ := H
 replace H : (if t460 = true then ((laws_toBridge.f k a0_0 l0_1).bind fun bt461 => ((laws_eqBridge.f k t450 t451 bt461.1 bt461.2).bind fun t465 => (if t465 = true then ((laws_markBridge.f k t450 t451 1).bind fun bt466 => (if bt466.1 < 0 then (laws_FnExactDecide.j0 k true a0_0 l0_1 t445 t446 t455 t456) else ((laws_eqBridge.f k t455 t456 t445 t446).bind fun t468 => (laws_FnExactDecide.j0 k (!t468) a0_0 l0_1 t445 t446 t455 t456)))) else (some false)))) else (some false)) = some true := H
 have A11 := aM A110
 clear A110
 by_cases c12 : t460 = true
 case neg =>
  replace c12 := Bool.eq_false_iff.mpr c12
  subst c12
  have H1 : (some false) = some true := by first | (rw [if_neg (show ¬ (false = true) by decide)] at H; exact H) | (rw [if_neg (show ¬ (false = true) by decide)] at H)
  clear H
  have H := H1
  clear H1
  exact absurd (Option.some.inj H) (by decide)
 subst c12
 have H1 : ((laws_toBridge.f k a0_0 l0_1).bind fun bt461 => ((laws_eqBridge.f k t450 t451 bt461.1 bt461.2).bind fun t465 => (if t465 = true then ((laws_markBridge.f k t450 t451 1).bind fun bt466 => (if bt466.1 < 0 then (laws_FnExactDecide.j0 k true a0_0 l0_1 t445 t446 t455 t456) else ((laws_eqBridge.f k t455 t456 t445 t446).bind fun t468 => (laws_FnExactDecide.j0 k (!t468) a0_0 l0_1 t445 t446 t455 t456)))) else (some false)))) = some true := by first | (rw [if_pos rfl] at H; exact H) | (rw [if_pos rfl] at H)
 clear H
 have H := H1
 clear H1
 replace H := Option.bind_eq_some_iff.mp H
 obtain ⟨⟨t461, t462⟩, A130, H⟩ := H
 replace H : ((laws_eqBridge.f k t450 t451 t461 t462).bind fun t465 => (if t465 = true then ((laws_markBridge.f k t450 t451 1).bind fun bt466 => (if bt466.1 < 0 then (laws_FnExactDecide.j0 k true a0_0 l0_1 t445 t446 t455 t456) else ((laws_eqBridge.f k t455 t456 t445 t446).bind fun t468 => (laws_FnExactDecide.j0 k (!t468) a0_0 l0_1 t445 t446 t455 t456)))) else (some false))) = some true := H
 have A13 := aM A130
 clear A130
 replace H := Option.bind_eq_some_iff.mp H
 obtain ⟨t465, A140, H⟩ := H
 replace H : (if t465 = true then ((laws_markBridge.f k t450 t451 1).bind fun bt466 => (if bt466.1 < 0 then (laws_FnExactDecide.j0 k true a0_0 l0_1 t445 t446 t455 t456) else ((laws_eqBridge.f k t455 t456 t445 t446).bind fun t468 => (laws_FnExactDecide.j0 k (!t468) a0_0 l0_1 t445 t446 t455 t456)))) else (some false)) = some true := H
 have A14 := aM A140
 clear A140
 by_cases c15 : t465 = true
 case neg =>
  replace c15 := Bool.eq_false_iff.mpr c15
  subst c15
  have H1 : (some false) = some true := by first | (rw [if_neg (show ¬ (false = true) by decide)] at H; exact H) | (rw [if_neg (show ¬ (false = true) by decide)] at H)
  clear H
  have H := H1
  clear H1
  exact absurd (Option.some.inj H) (by decide)
 subst c15
 have H1 : ((laws_markBridge.f k t450 t451 1).bind fun bt466 => (if bt466.1 < 0 then (laws_FnExactDecide.j0 k true a0_0 l0_1 t445 t446 t455 t456) else ((laws_eqBridge.f k t455 t456 t445 t446).bind fun t468 => (laws_FnExactDecide.j0 k (!t468) a0_0 l0_1 t445 t446 t455 t456)))) = some true := by first | (rw [if_pos rfl] at H; exact H) | (rw [if_pos rfl] at H)
 clear H
 have H := H1
 clear H1
 replace H := Option.bind_eq_some_iff.mp H
 obtain ⟨⟨t466, t467⟩, A160, H⟩ := H
 replace H : (if t466 < 0 then (laws_FnExactDecide.j0 k true a0_0 l0_1 t445 t446 t455 t456) else ((laws_eqBridge.f k t455 t456 t445 t446).bind fun t468 => (laws_FnExactDecide.j0 k (!t468) a0_0 l0_1 t445 t446 t455 t456))) = some true := H
 have A16 := aM A160
 clear A160
 have HC17 := aM H
 clear H
 go_enter Try.func3, Try.ntmps3
 try go_wp2_with (first | ((with_reducible refine gate_dst (N := 1) rfl ?_); refine box_event ?hg (N := 1) ?hd (cs := #[.int .i64 a0_0, .slice A0_1 l0_1.length c0_1]) (t := 24) ?hr ?_; (case hd => rfl); (case hg => rfl); (case hr => first | (go_simp; done) | (go_simp; rfl) | (obtain ⟨A_, c_, e_⟩ := Kd.R_slice HO444.out; subst e_; (first | (go_simp; done) | (go_simp; rfl))) | (obtain ⟨A_, c_, e_⟩ := Kd.S_slice HO444.out; subst e_; (first | (go_simp; done) | (go_simp; rfl))) | (obtain ⟨A_, c_, e_⟩ := Kd.R_slice HO448.out; subst e_; (first | (go_simp; done) | (go_simp; rfl))) | (obtain ⟨A_, c_, e_⟩ := Kd.S_slice HO448.out; subst e_; (first | (go_simp; done) | (go_simp; rfl))) | (obtain ⟨A_, c_, e_⟩ := Kd.R_slice HO453.out; subst e_; (first | (go_simp; done) | (go_simp; rfl))) | (obtain ⟨A_, c_, e_⟩ := Kd.S_slice HO453.out; subst e_; (first | (go_simp; done) | (go_simp; rfl))) | (obtain ⟨A_, c_, e_⟩ := Kd.R_slice HO458.out; subst e_; (first | (go_simp; done) | (go_simp; rfl))) | (obtain ⟨A_, c_, e_⟩ := Kd.S_slice HO458.out; subst e_; (first | (go_simp; done) | (go_simp; rfl)))); intro gb439 hg w18 hbox hb; have n0_ := aM (bS (bl HB.out) hb); have n1_ := aM (hbox); have n2_ := aM ((by rw [hg]; exact (below_size (bl HB.out)) : w.heap.size ≤ gb439)); have n3_ := aM ((by rw [hg]; exact (below_size (bl HB.out)) : w.heap.size ≤ gb439)); clear HB; have HB := n0_; have BK439 := n1_; have GW439 := n2_; have GE439 := n3_; clear n0_ n1_ n2_ n3_; clear hb hbox hg; have hcz19_0 := cI BK439.out 0; have hcz19_1 := cI BK439.out 1; have hfz19_0 := bF BK439.out 0; have hfz19_1 := bF BK439.out 1) | ((with_reducible refine gate_callee (f := 12) rfl ?_); refine goesL_ (some 13) rfl rfl Try.func12 (by kernel_rfl) rfl #[.agg #[.int .i64 a0_0, .slice A0_1 l0_1.length c0_1], .int .i64 1048576] rfl xR ?_; (with_reducible refine (laws_szBridge.calls a0_0 _ _ l0_1 1048576 t440 _ ?side1 ?side2 A2.out).mono ?_); (case side1 => repeat (first | exact (cB HR0_1.out HB.out) | (with_reducible refine Kd.C_alloc ?_ _) | (with_reducible refine Kd.C_drewN ?_ _) | (with_reducible refine Kd.C_drew ?_))); (case side2 => exact HC0_1.out); rintro e w20 ⟨rfl, hb⟩; refine ⟨_, rfl, ?_⟩; have n0_ := aM (bB (g := gb439) (o := .cells #[.int .i64 a0_0, .slice A0_1 l0_1.length c0_1] 24 (0, 0)) (bk BK439.out) hb); have n1_ := aM (bS (bl HB.out) hb); clear BK439 HB; have BK439 := n0_; have HB := n1_; clear n0_ n1_; (try clear hb); have hcz21_0 := cI BK439.out 0; have hcz21_1 := cI BK439.out 1; have hfz21_0 := bF BK439.out 0; have hfz21_1 := bF BK439.out 1) | ((with_reducible refine gate_callee (f := 14) rfl ?_); refine goesL_ (some 17) rfl rfl Try.func14 (by kernel_rfl) rfl #[.agg #[.int .i64 a0_0, .slice A0_1 l0_1.length c0_1]] rfl xR ?_; (with_reducible refine (laws_toBridge.calls k a0_0 _ _ l0_1 t441 t442 _ ?side1 ?side2 A7.out).mono ?_); (case side1 => repeat (first | exact (cB HR0_1.out HB.out) | (with_reducible refine Kd.C_alloc ?_ _) | (with_reducible refine Kd.C_drewN ?_ _) | (with_reducible refine Kd.C_drew ?_))); (case side2 => exact HC0_1.out); rintro e w22 ⟨v443, rfl, ho0, hb⟩; refine ⟨_, rfl, ?_⟩; have n0_ := aM (Kd.R_lower ho0 (below_size (bl HB.out))); have n1_ := aM (bB (g := gb439) (o := .cells #[.int .i64 a0_0, .slice A0_1 l0_1.length c0_1] 24 (0, 0)) (bk BK439.out) hb); have n2_ := aM (bS (bl HB.out) hb); clear BK439 HB; have HO444 := n0_; have BK439 := n1_; have HB := n2_; clear n0_ n1_ n2_; (try clear hb); (try clear ho0); obtain ⟨Ao23, co23, eo23⟩ := Kd.R_slice HO444.out; subst eo23) | ((with_reducible refine gate_callee (f := 13) rfl ?_); refine goesL_ (some 18) rfl rfl Try.func13 (by kernel_rfl) rfl #[.agg #[.int .i64 t441, .slice Ao23 t442.length co23]] rfl xR ?_; (with_reducible refine (spec_Decide.calls k t441 _ _ t442 t445 t446 _ ?side1 ?side2 A8.out).mono ?_); (case side1 => repeat (first | exact (Kd.R_reads' HO444.out).2.2 | (with_reducible refine Kd.C_alloc ?_ _) | (with_reducible refine Kd.C_drewN ?_ _) | (with_reducible refine Kd.C_drew ?_))); (case side2 => exact (Kd.R_reads' HO444.out).2.1); rintro e w24 ⟨v447, rfl, ho0, hb⟩; refine ⟨_, rfl, ?_⟩; have n0_ := aM (Kd.R_elder' (kr HO444.out) (Kd.R_base ho0) hb); have n1_ := aM (Kd.R_lower (Kd.R_new' ho0 (Kd.R_lt (kr HO444.out))) (below_size (bl HB.out))); have n2_ := aM (bB (g := gb439) (o := .cells #[.int .i64 a0_0, .slice A0_1 l0_1.length c0_1] 24 (0, 0)) (bk BK439.out) hb); have n3_ := aM (bS (bl HB.out) hb); clear HO444 BK439 HB; have HO444 := n0_; have HO448 := n1_; have BK439 := n2_; have HB := n3_; clear n0_ n1_ n2_ n3_; (try clear hb); (try clear ho0)) | ((with_reducible refine gate_dst (N := 4) rfl ?_); refine box_event ?hg (N := 4) ?hd (cs := #[.int .i64 0, .slice none 0 0]) (t := 28) ?hr ?_; (case hd => rfl); (case hg => rfl); (case hr => first | (go_simp; done) | (go_simp; rfl) | (obtain ⟨A_, c_, e_⟩ := Kd.R_slice HO444.out; subst e_; (first | (go_simp; done) | (go_simp; rfl))) | (obtain ⟨A_, c_, e_⟩ := Kd.S_slice HO444.out; subst e_; (first | (go_simp; done) | (go_simp; rfl))) | (obtain ⟨A_, c_, e_⟩ := Kd.R_slice HO448.out; subst e_; (first | (go_simp; done) | (go_simp; rfl))) | (obtain ⟨A_, c_, e_⟩ := Kd.S_slice HO448.out; subst e_; (first | (go_simp; done) | (go_simp; rfl))) | (obtain ⟨A_, c_, e_⟩ := Kd.R_slice HO453.out; subst e_; (first | (go_simp; done) | (go_simp; rfl))) | (obtain ⟨A_, c_, e_⟩ := Kd.S_slice HO453.out; subst e_; (first | (go_simp; done) | (go_simp; rfl))) | (obtain ⟨A_, c_, e_⟩ := Kd.R_slice HO458.out; subst e_; (first | (go_simp; done) | (go_simp; rfl))) | (obtain ⟨A_, c_, e_⟩ := Kd.S_slice HO458.out; subst e_; (first | (go_simp; done) | (go_simp; rfl)))); intro gb449 hg w25 hbox hb; have n0_ := aM (kB (kr HO444.out) hb); have n1_ := aM (kB (kr HO448.out) hb); have n2_ := aM (bB (g := gb439) (o := .cells #[.int .i64 a0_0, .slice A0_1 l0_1.length c0_1] 24 (0, 0)) (bk BK439.out) hb); have n3_ := aM (bS (bl HB.out) hb); have n4_ := aM (hbox); have n5_ := aM ((by rw [hg]; exact (below_size (bl HB.out)) : w.heap.size ≤ gb449)); have n6_ := aM ((by rw [hg]; exact (below_size (bl HB.out)) : w.heap.size ≤ gb449)); have n7_ := aM ((by rw [hg]; exact Nat.ne_of_lt (blk_lt (g := gb439) (o := .cells #[.int .i64 a0_0, .slice A0_1 l0_1.length c0_1] 24 (0, 0)) (bk BK439.out)) : gb439 ≠ gb449)); have n8_ := aM ((by rw [hg]; exact Nat.ne_of_gt (blk_lt (g := gb439) (o := .cells #[.int .i64 a0_0, .slice A0_1 l0_1.length c0_1] 24 (0, 0)) (bk BK439.out)) : gb449 ≠ gb439)); clear HO444 HO448; clear BK439 HB; have HO444 := n0_; have HO448 := n1_; have BK439 := n2_; have HB := n3_; have BK449 := n4_; have GW449 := n5_; have GE449 := n6_; have NB439_449 := n7_; have NB449_439 := n8_; clear n0_ n1_ n2_ n3_ n4_ n5_ n6_ n7_ n8_; clear hb hbox hg; have hnb26 := NB449_439.out; have hnc26 := NB439_449.out; have hcz27_0 := cI BK449.out 0; have hcz27_1 := cI BK449.out 1; have hfz27_0 := bF BK449.out 0; have hfz27_1 := bF BK449.out 1; obtain ⟨Ao28, co28, eo28⟩ := Kd.R_slice HO448.out; subst eo28; have hcz29_0 := cI BK439.out 0; have hcz29_1 := cI BK439.out 1; have hfz29_0 := bF BK439.out 0; have hfz29_1 := bF BK439.out 1) | ((with_reducible refine gate_callee (f := 14) rfl ?_); refine goesL_ (some 20) rfl rfl Try.func14 (by kernel_rfl) rfl #[.agg #[.int .i64 a0_0, .slice A0_1 l0_1.length c0_1]] rfl xR ?_; (with_reducible refine (laws_toBridge.calls k a0_0 _ _ l0_1 t450 t451 _ ?side1 ?side2 A9.out).mono ?_); (case side1 => exact cB HR0_1.out (bl HB.out)); (case side2 => exact HC0_1.out); rintro e w30 ⟨v452, rfl, ho0, hb⟩; refine ⟨_, rfl, ?_⟩; have n0_ := aM (Kd.R_elder' (kr (Kd.R_mono (kF (p := ⟨gb449, 1, none⟩) (kF (p := ⟨gb449, 0, none⟩) (Kd.R_types HO444.out BK449.out (by decide)) (fun _ hk => hk.2) (.int .i64 t445)) (fun _ hk => hk.2) (.slice Ao28 t446.length co28)) (fun _ h_ => h_.1))) (Kd.R_base ho0) hb); have n1_ := aM (Kd.R_elder' (kr (Kd.R_mono (kF (p := ⟨gb449, 1, none⟩) (kF (p := ⟨gb449, 0, none⟩) (Kd.R_types HO448.out BK449.out (by decide)) (fun _ hk => hk.2) (.int .i64 t445)) (fun _ hk => hk.2) (.slice Ao28 t446.length co28)) (fun _ h_ => h_.1))) (Kd.R_base ho0) hb); have n2_ := aM (Kd.R_lower (Kd.R_new' (Kd.R_new' ho0 (Kd.R_lt (kr (Kd.R_mono (kF (p := ⟨gb449, 1, none⟩) (kF (p := ⟨gb449, 0, none⟩) (Kd.R_types HO444.out BK449.out (by decide)) (fun _ hk => hk.2) (.int .i64 t445)) (fun _ hk => hk.2) (.slice Ao28 t446.length co28)) (fun _ h_ => h_.1))))) (Kd.R_lt (kr (Kd.R_mono (kF (p := ⟨gb449, 1, none⟩) (kF (p := ⟨gb449, 0, none⟩) (Kd.R_types HO448.out BK449.out (by decide)) (fun _ hk => hk.2) (.int .i64 t445)) (fun _ hk => hk.2) (.slice Ao28 t446.length co28)) (fun _ h_ => h_.1))))) (below_size (bl HB.out))); have n3_ := aM (bB (g := gb439) (o := .cells #[.int .i64 a0_0, .slice A0_1 l0_1.length c0_1] 24 (0, 0)) (by (with_reducible repeat (first | refine blk_drewN ?_ _ | refine blk_drew ?_ | refine blk_alloc ?_ _)); refine blk_far ?_ NB439_449.out _; (with_reducible repeat (first | refine blk_drewN ?_ _ | refine blk_drew ?_ | refine blk_alloc ?_ _)); refine blk_far ?_ NB439_449.out _; (with_reducible repeat (first | refine blk_drewN ?_ _ | refine blk_drew ?_ | refine blk_alloc ?_ _)); exact BK439.out) hb); have n4_ := aM (bB (g := gb449) (o := .cells #[.int .i64 t445, .slice Ao28 t446.length co28] 28 (0, 0)) (by (with_reducible repeat (first | refine blk_drewN ?_ _ | refine blk_drew ?_ | refine blk_alloc ?_ _)); refine blk_put (cs := #[.int .i64 t445, .slice none 0 0]) ?_ 1 _ rfl; (with_reducible repeat (first | refine blk_drewN ?_ _ | refine blk_drew ?_ | refine blk_alloc ?_ _)); refine blk_put (cs := #[.int .i64 0, .slice none 0 0]) ?_ 0 _ rfl; (with_reducible repeat (first | refine blk_drewN ?_ _ | refine blk_drew ?_ | refine blk_alloc ?_ _)); exact BK449.out) hb); have n5_ := aM (bS (bl HB.out) hb); clear HO444 HO448; clear BK439 BK449 HB; have HO444 := n0_; have HO448 := n1_; have HO453 := n2_; have BK439 := n3_; have BK449 := n4_; have HB := n5_; clear n0_ n1_ n2_ n3_ n4_ n5_; (try clear hb); (try clear ho0)) | ((with_reducible refine gate_dst (N := 5) rfl ?_); refine box_event ?hg (N := 5) ?hd (cs := #[.int .i64 0, .slice none 0 0]) (t := 28) ?hr ?_; (case hd => rfl); (case hg => rfl); (case hr => first | (go_simp; done) | (go_simp; rfl) | (obtain ⟨A_, c_, e_⟩ := Kd.R_slice HO444.out; subst e_; (first | (go_simp; done) | (go_simp; rfl))) | (obtain ⟨A_, c_, e_⟩ := Kd.S_slice HO444.out; subst e_; (first | (go_simp; done) | (go_simp; rfl))) | (obtain ⟨A_, c_, e_⟩ := Kd.R_slice HO448.out; subst e_; (first | (go_simp; done) | (go_simp; rfl))) | (obtain ⟨A_, c_, e_⟩ := Kd.S_slice HO448.out; subst e_; (first | (go_simp; done) | (go_simp; rfl))) | (obtain ⟨A_, c_, e_⟩ := Kd.R_slice HO453.out; subst e_; (first | (go_simp; done) | (go_simp; rfl))) | (obtain ⟨A_, c_, e_⟩ := Kd.S_slice HO453.out; subst e_; (first | (go_simp; done) | (go_simp; rfl))) | (obtain ⟨A_, c_, e_⟩ := Kd.R_slice HO458.out; subst e_; (first | (go_simp; done) | (go_simp; rfl))) | (obtain ⟨A_, c_, e_⟩ := Kd.S_slice HO458.out; subst e_; (first | (go_simp; done) | (go_simp; rfl)))); intro gb454 hg w31 hbox hb; have n0_ := aM (kB (kr HO444.out) hb); have n1_ := aM (kB (kr HO448.out) hb); have n2_ := aM (kB (kr HO453.out) hb); have n3_ := aM (bB (g := gb439) (o := .cells #[.int .i64 a0_0, .slice A0_1 l0_1.length c0_1] 24 (0, 0)) (bk BK439.out) hb); have n4_ := aM (bB (g := gb449) (o := .cells #[.int .i64 t445, .slice Ao28 t446.length co28] 28 (0, 0)) (bk BK449.out) hb); have n5_ := aM (bS (bl HB.out) hb); have n6_ := aM (hbox); have n7_ := aM ((by rw [hg]; exact (below_size (bl HB.out)) : w.heap.size ≤ gb454)); have n8_ := aM ((by rw [hg]; exact (below_size (bl HB.out)) : w.heap.size ≤ gb454)); have n9_ := aM ((by rw [hg]; exact Nat.ne_of_lt (blk_lt (g := gb439) (o := .cells #[.int .i64 a0_0, .slice A0_1 l0_1.length c0_1] 24 (0, 0)) (bk BK439.out)) : gb439 ≠ gb454)); have n10_ := aM ((by rw [hg]; exact Nat.ne_of_gt (blk_lt (g := gb439) (o := .cells #[.int .i64 a0_0, .slice A0_1 l0_1.length c0_1] 24 (0, 0)) (bk BK439.out)) : gb454 ≠ gb439)); have n11_ := aM ((by rw [hg]; exact Nat.ne_of_lt (blk_lt (g := gb449) (o := .cells #[.int .i64 t445, .slice Ao28 t446.length co28] 28 (0, 0)) (bk BK449.out)) : gb449 ≠ gb454)); have n12_ := aM ((by rw [hg]; exact Nat.ne_of_gt (blk_lt (g := gb449) (o := .cells #[.int .i64 t445, .slice Ao28 t446.length co28] 28 (0, 0)) (bk BK449.out)) : gb454 ≠ gb449)); clear HO444 HO448; clear HO453 BK439; clear BK449 HB; have HO444 := n0_; have HO448 := n1_; have HO453 := n2_; have BK439 := n3_; have BK449 := n4_; have HB := n5_; have BK454 := n6_; have GW454 := n7_; have GE454 := n8_; have NB439_454 := n9_; have NB454_439 := n10_; have NB449_454 := n11_; have NB454_449 := n12_; clear n0_ n1_ n2_ n3_ n4_ n5_ n6_ n7_ n8_ n9_ n10_ n11_ n12_; clear hb hbox hg; have hnb32 := NB454_439.out; have hnc32 := NB439_454.out; have hnb33 := NB454_449.out; have hnc33 := NB449_454.out; have hcz34_0 := cI BK454.out 0; have hcz34_1 := cI BK454.out 1; have hfz34_0 := bF BK454.out 0; have hfz34_1 := bF BK454.out 1; obtain ⟨Ao35, co35, eo35⟩ := Kd.R_slice HO453.out; subst eo35) | ((with_reducible refine gate_callee (f := 15) rfl ?_); refine goesL_ (some 22) rfl rfl Try.func15 (by kernel_rfl) rfl #[.agg #[.int .i64 t450, .slice Ao35 t451.length co35]] rfl xR ?_; (with_reducible refine (impl_Decide.calls k t450 _ _ t451 t455 t456 _ ?side1 ?side2 A10.out).mono ?_); (case side1 => refine (Kd.R_reads' (e := 79) (base := w.heap.size) (ok := fun k_ => ((True ∧ some k_ ≠ (.slice Ao23 t442.length co23 : Value).ownBlock) ∧ some k_ ≠ (.slice Ao28 t446.length co28 : Value).ownBlock)) (n := t451.length) (c := co35) ?_).2.2; exact (kr (Kd.R_mono (kF (p := ⟨gb454, 1, none⟩) (kF (p := ⟨gb454, 0, none⟩) (Kd.R_types HO453.out BK454.out (by decide)) (fun _ hk => hk.2) (.int .i64 t450)) (fun _ hk => hk.2) (.slice Ao35 t451.length co35)) (fun _ h_ => h_.1)))); (case side2 => exact (Kd.R_reads' HO453.out).2.1); rintro e w36 ⟨v457, rfl, ho0, hb⟩; refine ⟨_, rfl, ?_⟩; have n0_ := aM (Kd.R_elder' (kr (Kd.R_mono (kF (p := ⟨gb454, 1, none⟩) (kF (p := ⟨gb454, 0, none⟩) (Kd.R_types HO444.out BK454.out (by decide)) (fun _ hk => hk.2) (.int .i64 t450)) (fun _ hk => hk.2) (.slice Ao35 t451.length co35)) (fun _ h_ => h_.1))) (Kd.R_base ho0) hb); have n1_ := aM (Kd.R_elder' (kr (Kd.R_mono (kF (p := ⟨gb454, 1, none⟩) (kF (p := ⟨gb454, 0, none⟩) (Kd.R_types HO448.out BK454.out (by decide)) (fun _ hk => hk.2) (.int .i64 t450)) (fun _ hk => hk.2) (.slice Ao35 t451.length co35)) (fun _ h_ => h_.1))) (Kd.R_base ho0) hb); have n2_ := aM (Kd.R_elder' (kr (Kd.R_mono (kF (p := ⟨gb454, 1, none⟩) (kF (p := ⟨gb454, 0, none⟩) (Kd.R_types HO453.out BK454.out (by decide)) (fun _ hk => hk.2) (.int .i64 t450)) (fun _ hk => hk.2) (.slice Ao35 t451.length co35)) (fun _ h_ => h_.1))) (Kd.R_base ho0) hb); have n3_ := aM (Kd.R_lower (Kd.R_new' (Kd.R_new' (Kd.R_new' ho0 (Kd.R_lt (kr (Kd.R_mono (kF (p := ⟨gb454, 1, none⟩) (kF (p := ⟨gb454, 0, none⟩) (Kd.R_types HO444.out BK454.out (by decide)) (fun _ hk => hk.2) (.int .i64 t450)) (fun _ hk => hk.2) (.slice Ao35 t451.length co35)) (fun _ h_ => h_.1))))) (Kd.R_lt (kr (Kd.R_mono (kF (p := ⟨gb454, 1, none⟩) (kF (p := ⟨gb454, 0, none⟩) (Kd.R_types HO448.out BK454.out (by decide)) (fun _ hk => hk.2) (.int .i64 t450)) (fun _ hk => hk.2) (.slice Ao35 t451.length co35)) (fun _ h_ => h_.1))))) (Kd.R_lt (kr (Kd.R_mono (kF (p := ⟨gb454, 1, none⟩) (kF (p := ⟨gb454, 0, none⟩) (Kd.R_types HO453.out BK454.out (by decide)) (fun _ hk => hk.2) (.int .i64 t450)) (fun _ hk => hk.2) (.slice Ao35 t451.length co35)) (fun _ h_ => h_.1))))) (below_size (bl HB.out))); have n4_ := aM (bB (g := gb439) (o := .cells #[.int .i64 a0_0, .slice A0_1 l0_1.length c0_1] 24 (0, 0)) (by (with_reducible repeat (first | refine blk_drewN ?_ _ | refine blk_drew ?_ | refine blk_alloc ?_ _)); refine blk_far ?_ NB439_454.out _; (with_reducible repeat (first | refine blk_drewN ?_ _ | refine blk_drew ?_ | refine blk_alloc ?_ _)); refine blk_far ?_ NB439_454.out _; (with_reducible repeat (first | refine blk_drewN ?_ _ | refine blk_drew ?_ | refine blk_alloc ?_ _)); exact BK439.out) hb); have n5_ := aM (bB (g := gb449) (o := .cells #[.int .i64 t445, .slice Ao28 t446.length co28] 28 (0, 0)) (by (with_reducible repeat (first | refine blk_drewN ?_ _ | refine blk_drew ?_ | refine blk_alloc ?_ _)); refine blk_far ?_ NB449_454.out _; (with_reducible repeat (first | refine blk_drewN ?_ _ | refine blk_drew ?_ | refine blk_alloc ?_ _)); refine blk_far ?_ NB449_454.out _; (with_reducible repeat (first | refine blk_drewN ?_ _ | refine blk_drew ?_ | refine blk_alloc ?_ _)); exact BK449.out) hb); have n6_ := aM (bB (g := gb454) (o := .cells #[.int .i64 t450, .slice Ao35 t451.length co35] 28 (0, 0)) (by (with_reducible repeat (first | refine blk_drewN ?_ _ | refine blk_drew ?_ | refine blk_alloc ?_ _)); refine blk_put (cs := #[.int .i64 t450, .slice none 0 0]) ?_ 1 _ rfl; (with_reducible repeat (first | refine blk_drewN ?_ _ | refine blk_drew ?_ | refine blk_alloc ?_ _)); refine blk_put (cs := #[.int .i64 0, .slice none 0 0]) ?_ 0 _ rfl; (with_reducible repeat (first | refine blk_drewN ?_ _ | refine blk_drew ?_ | refine blk_alloc ?_ _)); exact BK454.out) hb); have n7_ := aM (bS (bl HB.out) hb); clear HO444 HO448; clear HO453 BK439; clear BK449 BK454 HB; have HO444 := n0_; have HO448 := n1_; have HO453 := n2_; have HO458 := n3_; have BK439 := n4_; have BK449 := n5_; have BK454 := n6_; have HB := n7_; clear n0_ n1_ n2_ n3_ n4_ n5_ n6_ n7_; (try clear hb); (try clear ho0)) | ((with_reducible refine gate_dst (N := 6) rfl ?_); refine box_event ?hg (N := 6) ?hd (cs := #[.int .i64 0, .slice none 0 0]) (t := 28) ?hr ?_; (case hd => rfl); (case hg => rfl); (case hr => first | (go_simp; done) | (go_simp; rfl) | (obtain ⟨A_, c_, e_⟩ := Kd.R_slice HO444.out; subst e_; (first | (go_simp; done) | (go_simp; rfl))) | (obtain ⟨A_, c_, e_⟩ := Kd.S_slice HO444.out; subst e_; (first | (go_simp; done) | (go_simp; rfl))) | (obtain ⟨A_, c_, e_⟩ := Kd.R_slice HO448.out; subst e_; (first | (go_simp; done) | (go_simp; rfl))) | (obtain ⟨A_, c_, e_⟩ := Kd.S_slice HO448.out; subst e_; (first | (go_simp; done) | (go_simp; rfl))) | (obtain ⟨A_, c_, e_⟩ := Kd.R_slice HO453.out; subst e_; (first | (go_simp; done) | (go_simp; rfl))) | (obtain ⟨A_, c_, e_⟩ := Kd.S_slice HO453.out; subst e_; (first | (go_simp; done) | (go_simp; rfl))) | (obtain ⟨A_, c_, e_⟩ := Kd.R_slice HO458.out; subst e_; (first | (go_simp; done) | (go_simp; rfl))) | (obtain ⟨A_, c_, e_⟩ := Kd.S_slice HO458.out; subst e_; (first | (go_simp; done) | (go_simp; rfl)))); intro gb459 hg w37 hbox hb; have n0_ := aM (kB (kr HO444.out) hb); have n1_ := aM (kB (kr HO448.out) hb); have n2_ := aM (kB (kr HO453.out) hb); have n3_ := aM (kB (kr HO458.out) hb); have n4_ := aM (bB (g := gb439) (o := .cells #[.int .i64 a0_0, .slice A0_1 l0_1.length c0_1] 24 (0, 0)) (bk BK439.out) hb); have n5_ := aM (bB (g := gb449) (o := .cells #[.int .i64 t445, .slice Ao28 t446.length co28] 28 (0, 0)) (bk BK449.out) hb); have n6_ := aM (bB (g := gb454) (o := .cells #[.int .i64 t450, .slice Ao35 t451.length co35] 28 (0, 0)) (bk BK454.out) hb); have n7_ := aM (bS (bl HB.out) hb); have n8_ := aM (hbox); have n9_ := aM ((by rw [hg]; exact (below_size (bl HB.out)) : w.heap.size ≤ gb459)); have n10_ := aM ((by rw [hg]; exact (below_size (bl HB.out)) : w.heap.size ≤ gb459)); have n11_ := aM ((by rw [hg]; exact Nat.ne_of_lt (blk_lt (g := gb439) (o := .cells #[.int .i64 a0_0, .slice A0_1 l0_1.length c0_1] 24 (0, 0)) (bk BK439.out)) : gb439 ≠ gb459)); have n12_ := aM ((by rw [hg]; exact Nat.ne_of_gt (blk_lt (g := gb439) (o := .cells #[.int .i64 a0_0, .slice A0_1 l0_1.length c0_1] 24 (0, 0)) (bk BK439.out)) : gb459 ≠ gb439)); have n13_ := aM ((by rw [hg]; exact Nat.ne_of_lt (blk_lt (g := gb449) (o := .cells #[.int .i64 t445, .slice Ao28 t446.length co28] 28 (0, 0)) (bk BK449.out)) : gb449 ≠ gb459)); have n14_ := aM ((by rw [hg]; exact Nat.ne_of_gt (blk_lt (g := gb449) (o := .cells #[.int .i64 t445, .slice Ao28 t446.length co28] 28 (0, 0)) (bk BK449.out)) : gb459 ≠ gb449)); have n15_ := aM ((by rw [hg]; exact Nat.ne_of_lt (blk_lt (g := gb454) (o := .cells #[.int .i64 t450, .slice Ao35 t451.length co35] 28 (0, 0)) (bk BK454.out)) : gb454 ≠ gb459)); have n16_ := aM ((by rw [hg]; exact Nat.ne_of_gt (blk_lt (g := gb454) (o := .cells #[.int .i64 t450, .slice Ao35 t451.length co35] 28 (0, 0)) (bk BK454.out)) : gb459 ≠ gb454)); clear HO444 HO448; clear HO453 HO458; clear BK439 BK449; clear BK454 HB; have HO444 := n0_; have HO448 := n1_; have HO453 := n2_; have HO458 := n3_; have BK439 := n4_; have BK449 := n5_; have BK454 := n6_; have HB := n7_; have BK459 := n8_; have GW459 := n9_; have GE459 := n10_; have NB439_459 := n11_; have NB459_439 := n12_; have NB449_459 := n13_; have NB459_449 := n14_; have NB454_459 := n15_; have NB459_454 := n16_; clear n0_ n1_ n2_ n3_ n4_ n5_ n6_ n7_ n8_ n9_ n10_ n11_ n12_ n13_ n14_ n15_ n16_; clear hb hbox hg; have hnb38 := NB459_439.out; have hnc38 := NB439_459.out; have hnb39 := NB459_449.out; have hnc39 := NB449_459.out; have hnb40 := NB459_454.out; have hnc40 := NB454_459.out; have hcz41_0 := cI BK459.out 0; have hcz41_1 := cI BK459.out 1; have hfz41_0 := bF BK459.out 0; have hfz41_1 := bF BK459.out 1; obtain ⟨Ao42, co42, eo42⟩ := Kd.R_slice HO458.out; subst eo42; have hcz43_0 := cI BK449.out 0; have hcz43_1 := cI BK449.out 1; have hfz43_0 := bF BK449.out 0; have hfz43_1 := bF BK449.out 1) | ((with_reducible refine gate_callee (f := 16) rfl ?_); refine goesL_ (some 25) rfl rfl Try.func16 (by kernel_rfl) rfl #[.agg #[.int .i64 t455, .slice Ao42 t456.length co42], .agg #[.int .i64 t445, .slice Ao28 t446.length co28]] rfl xR ?_; (with_reducible refine (laws_eqBridge.calls k t455 _ _ t456 t445 _ _ t446 true _ ?side1 ?side2 ?side3 ?side4 A11.out).mono ?_); (case side1 => refine (Kd.R_reads' (e := 79) (base := w.heap.size) (ok := fun k_ => (((True ∧ some k_ ≠ (.slice Ao23 t442.length co23 : Value).ownBlock) ∧ some k_ ≠ (.slice Ao28 t446.length co28 : Value).ownBlock) ∧ some k_ ≠ (.slice Ao35 t451.length co35 : Value).ownBlock)) (n := t456.length) (c := co42) ?_).2.2; exact (kr (Kd.R_mono (kF (p := ⟨gb459, 1, none⟩) (kF (p := ⟨gb459, 0, none⟩) (Kd.R_types HO458.out BK459.out (by decide)) (fun _ hk => hk.2) (.int .i64 t455)) (fun _ hk => hk.2) (.slice Ao42 t456.length co42)) (fun _ h_ => h_.1)))); (case side2 => exact (Kd.R_reads' HO458.out).2.1); (case side3 => refine (Kd.R_reads' (e := 79) (base := w.heap.size) (ok := fun k_ => (((True ∧ some k_ ≠ (.slice Ao23 t442.length co23 : Value).ownBlock) ∧ some k_ ≠ (.slice Ao35 t451.length co35 : Value).ownBlock) ∧ some k_ ≠ (.slice Ao42 t456.length co42 : Value).ownBlock)) (n := t446.length) (c := co28) ?_).2.2; exact (kr (Kd.R_mono (kF (p := ⟨gb459, 1, none⟩) (kF (p := ⟨gb459, 0, none⟩) (Kd.R_types HO448.out BK459.out (by decide)) (fun _ hk => hk.2) (.int .i64 t455)) (fun _ hk => hk.2) (.slice Ao42 t456.length co42)) (fun _ h_ => h_.1)))); (case side4 => exact (Kd.R_reads' HO448.out).2.1); rintro e w44 ⟨rfl, hb⟩; refine ⟨_, rfl, ?_⟩; have n0_ := aM (kB (kr (Kd.R_mono (kF (p := ⟨gb459, 1, none⟩) (kF (p := ⟨gb459, 0, none⟩) (Kd.R_types HO444.out BK459.out (by decide)) (fun _ hk => hk.2) (.int .i64 t455)) (fun _ hk => hk.2) (.slice Ao42 t456.length co42)) (fun _ h_ => h_.1))) hb); have n1_ := aM (kB (kr (Kd.R_mono (kF (p := ⟨gb459, 1, none⟩) (kF (p := ⟨gb459, 0, none⟩) (Kd.R_types HO448.out BK459.out (by decide)) (fun _ hk => hk.2) (.int .i64 t455)) (fun _ hk => hk.2) (.slice Ao42 t456.length co42)) (fun _ h_ => h_.1))) hb); have n2_ := aM (kB (kr (Kd.R_mono (kF (p := ⟨gb459, 1, none⟩) (kF (p := ⟨gb459, 0, none⟩) (Kd.R_types HO453.out BK459.out (by decide)) (fun _ hk => hk.2) (.int .i64 t455)) (fun _ hk => hk.2) (.slice Ao42 t456.length co42)) (fun _ h_ => h_.1))) hb); have n3_ := aM (kB (kr (Kd.R_mono (kF (p := ⟨gb459, 1, none⟩) (kF (p := ⟨gb459, 0, none⟩) (Kd.R_types HO458.out BK459.out (by decide)) (fun _ hk => hk.2) (.int .i64 t455)) (fun _ hk => hk.2) (.slice Ao42 t456.length co42)) (fun _ h_ => h_.1))) hb); have n4_ := aM (bB (g := gb439) (o := .cells #[.int .i64 a0_0, .slice A0_1 l0_1.length c0_1] 24 (0, 0)) (by (with_reducible repeat (first | refine blk_drewN ?_ _ | refine blk_drew ?_ | refine blk_alloc ?_ _)); refine blk_far ?_ NB439_459.out _; (with_reducible repeat (first | refine blk_drewN ?_ _ | refine blk_drew ?_ | refine blk_alloc ?_ _)); refine blk_far ?_ NB439_459.out _; (with_reducible repeat (first | refine blk_drewN ?_ _ | refine blk_drew ?_ | refine blk_alloc ?_ _)); exact BK439.out) hb); have n5_ := aM (bB (g := gb449) (o := .cells #[.int .i64 t445, .slice Ao28 t446.length co28] 28 (0, 0)) (by (with_reducible repeat (first | refine blk_drewN ?_ _ | refine blk_drew ?_ | refine blk_alloc ?_ _)); refine blk_far ?_ NB449_459.out _; (with_reducible repeat (first | refine blk_drewN ?_ _ | refine blk_drew ?_ | refine blk_alloc ?_ _)); refine blk_far ?_ NB449_459.out _; (with_reducible repeat (first | refine blk_drewN ?_ _ | refine blk_drew ?_ | refine blk_alloc ?_ _)); exact BK449.out) hb); have n6_ := aM (bB (g := gb454) (o := .cells #[.int .i64 t450, .slice Ao35 t451.length co35] 28 (0, 0)) (by (with_reducible repeat (first | refine blk_drewN ?_ _ | refine blk_drew ?_ | refine blk_alloc ?_ _)); refine blk_far ?_ NB454_459.out _; (with_reducible repeat (first | refine blk_drewN ?_ _ | refine blk_drew ?_ | refine blk_alloc ?_ _)); refine blk_far ?_ NB454_459.out _; (with_reducible repeat (first | refine blk_drewN ?_ _ | refine blk_drew ?_ | refine blk_alloc ?_ _)); exact BK454.out) hb); have n7_ := aM (bB (g := gb459) (o := .cells #[.int .i64 t455, .slice Ao42 t456.length co42] 28 (0, 0)) (by (with_reducible repeat (first | refine blk_drewN ?_ _ | refine blk_drew ?_ | refine blk_alloc ?_ _)); refine blk_put (cs := #[.int .i64 t455, .slice none 0 0]) ?_ 1 _ rfl; (with_reducible repeat (first | refine blk_drewN ?_ _ | refine blk_drew ?_ | refine blk_alloc ?_ _)); refine blk_put (cs := #[.int .i64 0, .slice none 0 0]) ?_ 0 _ rfl; (with_reducible repeat (first | refine blk_drewN ?_ _ | refine blk_drew ?_ | refine blk_alloc ?_ _)); exact BK459.out) hb); have n8_ := aM (bS (bl HB.out) hb); clear HO444 HO448; clear HO453 HO458; clear BK439 BK449; clear BK454 BK459 HB; have HO444 := n0_; have HO448 := n1_; have HO453 := n2_; have HO458 := n3_; have BK439 := n4_; have BK449 := n5_; have BK454 := n6_; have BK459 := n7_; have HB := n8_; clear n0_ n1_ n2_ n3_ n4_ n5_ n6_ n7_ n8_; (try clear hb)))
 have n0_ := aM (Kd.R_drew HO444.out)
 have n1_ := aM (Kd.R_drew HO448.out)
 have n2_ := aM (Kd.R_drew HO453.out)
 have n3_ := aM (Kd.R_drew HO458.out)
 have n4_ := aM (blk_drew BK439.out)
 have n5_ := aM (blk_drew BK449.out)
 have n6_ := aM (blk_drew BK454.out)
 have n7_ := aM (blk_drew BK459.out)
 have n8_ := aM (below_drew1 HB.out)
 clear HO444 HO448
 clear HO453 HO458
 clear BK439 BK449
 clear BK454 BK459 HB
 have HO444 := n0_
 have HO448 := n1_
 have HO453 := n2_
 have HO458 := n3_
 have BK439 := n4_
 have BK449 := n5_
 have BK454 := n6_
 have BK459 := n7_
 have HB := n8_
 clear n0_ n1_ n2_ n3_ n4_ n5_ n6_ n7_ n8_
 refine start_ (n := 5) (S := fun w' => w'.cell? ⟨gb454, 0, none⟩ = some (.int .i64 t450) ∧ w'.cell? ⟨gb454, 1, none⟩ = some (.slice Ao35 t451.length co35) ∧ w'.cell? ⟨gb439, 0, none⟩ = some (.int .i64 a0_0) ∧ w'.cell? ⟨gb439, 1, none⟩ = some (.slice A0_1 l0_1.length c0_1)) (ds := []) (dn 5 0) (by kernel_rfl) rfl rfl ⟨cI BK454.out 0, cI BK454.out 1, cI BK439.out 0, cI BK439.out 1⟩ (fun hHeld => ?_)
 generalize w44.drew = w45 at HO444 HO448 HO453 HO458 BK439 BK449 BK454 BK459 HB hHeld ⊢
 refine take_ (i := 0) (N := some 27) (v := ?_) (a' := ?_) #[Y,U,U,U,U] rfl rfl (by kernel_rfl) (fun _ _ _ h => h) (Or.inl ⟨by rfl, ?_⟩) hHeld ?_ ?_
 rotate_left
 ·rintro w' ⟨s0, s1, s2, s3⟩
  go_simp
  with_reducible rfl
 rotate_left
 ·simp only [Act.put, sA, sZ, sS, i64_w, i32_w]
  rfl
 refine take_ (i := 1) (N := some 28) (v := ?_) (a' := ?_) #[Y,Y,U,U,U] rfl rfl (by kernel_rfl) (fun _ _ _ h => h) (Or.inl ⟨by rfl, ?_⟩) hHeld ?_ ?_
 rotate_left
 ·rintro w' ⟨s0, s1, s2, s3⟩
  go_simp
  with_reducible rfl
 rotate_left
 ·simp only [Act.put, sA, sZ, sS, i64_w, i32_w]
  rfl
 refine one_ (i := 2) (N := some 29) #[Y,Y,Y,U,U] rfl rfl (by kernel_rfl) (by decide) (fun K hK => ?_)
 refine goes_ Try.func14 (by kernel_rfl) rfl #[.agg #[.int .i64 a0_0, .slice A0_1 l0_1.length c0_1]] (by rfl) rfl rfl xR ?_
 with_reducible refine (laws_toBridge.calls k a0_0 _ _ l0_1 t461 t462 _ ?side1 ?side2 A13.out).mono ?_
 (case side1 => repeat (first | exact (cB HR0_1.out HB.out) | (with_reducible refine Kd.C_alloc ?_ _) | (with_reducible refine Kd.C_drewN ?_ _) | (with_reducible refine Kd.C_drew ?_)))
 (case side2 => exact HC0_1.out)
 rintro e w46 ⟨v463, rfl, ho0, hb⟩
 refine ⟨_, rfl, ?_⟩
 have n0_ := aM (Kd.R_elder' (kr HO444.out) (Kd.R_base ho0) hb)
 have n1_ := aM (Kd.R_elder' (kr HO448.out) (Kd.R_base ho0) hb)
 have n2_ := aM (Kd.R_elder' (kr HO453.out) (Kd.R_base ho0) hb)
 have n3_ := aM (Kd.R_elder' (kr HO458.out) (Kd.R_base ho0) hb)
 have n4_ := aM (Kd.R_lower (Kd.R_new' (Kd.R_new' (Kd.R_new' (Kd.R_new' ho0 (Kd.R_lt (kr HO444.out))) (Kd.R_lt (kr HO448.out))) (Kd.R_lt (kr HO453.out))) (Kd.R_lt (kr HO458.out))) (below_size (bl HB.out)))
 have n5_ := aM (bB (g := gb439) (o := .cells #[.int .i64 a0_0, .slice A0_1 l0_1.length c0_1] 24 (0, 0)) (bk BK439.out) hb)
 have n6_ := aM (bB (g := gb449) (o := .cells #[.int .i64 t445, .slice Ao28 t446.length co28] 28 (0, 0)) (bk BK449.out) hb)
 have n7_ := aM (bB (g := gb454) (o := .cells #[.int .i64 t450, .slice Ao35 t451.length co35] 28 (0, 0)) (bk BK454.out) hb)
 have n8_ := aM (bB (g := gb459) (o := .cells #[.int .i64 t455, .slice Ao42 t456.length co42] 28 (0, 0)) (bk BK459.out) hb)
 have n9_ := aM (bS (bl HB.out) hb)
 clear HO444 HO448
 clear HO453 HO458
 clear BK439 BK449
 clear BK454 BK459 HB
 have HO444 := n0_
 have HO448 := n1_
 have HO453 := n2_
 have HO458 := n3_
 have HO464 := n4_
 have BK439 := n5_
 have BK449 := n6_
 have BK454 := n7_
 have BK459 := n8_
 have HB := n9_
 clear n0_ n1_ n2_ n3_ n4_ n5_ n6_ n7_ n8_ n9_
 (try clear hb)
 (try clear hb2)
 (try clear hk)
 (try clear hi)
 (try clear ho0)
 obtain ⟨Ao47, co47, eo47⟩ := Kd.R_slice HO464.out
 (first | subst eo47 | (injection eo47 with f1_ f2_ f3_; have f4_ := f1_.symm; have f5_ := f3_.symm; clear f1_ f2_ f3_; subst f4_; subst f5_))
 refine hK.out _ _ ⟨cI BK454.out 0, cI BK454.out 1, cI BK439.out 0, cI BK439.out 1⟩ (fun hHeld => ?_)
 clear hK K
 refine norm_ (a' := ?_) ?_ ?_
 rotate_left
 ·show Act.put _ (some 29) _ = _
  simp only [Act.put, sA, sZ, sS, i64_w, i32_w]
  rfl
 refine one_ (i := 3) (N := some 30) #[Y,Y,Y,Y,U] rfl rfl (by kernel_rfl) (by decide) (fun K hK => ?_)
 refine goes_ Try.func16 (by kernel_rfl) rfl #[.agg #[.int .i64 t450, .slice Ao35 t451.length co35], .agg #[.int .i64 t461, .slice Ao47 t462.length co47]] (by rfl) rfl rfl xR ?_
 with_reducible refine (laws_eqBridge.calls k t450 _ _ t451 t461 _ _ t462 true _ ?side1 ?side2 ?side3 ?side4 A14.out).mono ?_
 (case side1 => repeat (first | exact (Kd.R_reads' HO453.out).2.2 | (with_reducible refine Kd.C_alloc ?_ _) | (with_reducible refine Kd.C_drewN ?_ _) | (with_reducible refine Kd.C_drew ?_)))
 (case side2 => exact (Kd.R_reads' HO453.out).2.1)
 (case side3 => repeat (first | exact (Kd.R_reads' HO464.out).2.2 | (with_reducible refine Kd.C_alloc ?_ _) | (with_reducible refine Kd.C_drewN ?_ _) | (with_reducible refine Kd.C_drew ?_)))
 (case side4 => exact (Kd.R_reads' HO464.out).2.1)
 rintro e w48 ⟨rfl, hb⟩
 refine ⟨_, rfl, ?_⟩
 have n0_ := aM (kB (kr HO444.out) hb)
 have n1_ := aM (kB (kr HO448.out) hb)
 have n2_ := aM (kB (kr HO453.out) hb)
 have n3_ := aM (kB (kr HO458.out) hb)
 have n4_ := aM (kB (kr HO464.out) hb)
 have n5_ := aM (bB (g := gb439) (o := .cells #[.int .i64 a0_0, .slice A0_1 l0_1.length c0_1] 24 (0, 0)) (bk BK439.out) hb)
 have n6_ := aM (bB (g := gb449) (o := .cells #[.int .i64 t445, .slice Ao28 t446.length co28] 28 (0, 0)) (bk BK449.out) hb)
 have n7_ := aM (bB (g := gb454) (o := .cells #[.int .i64 t450, .slice Ao35 t451.length co35] 28 (0, 0)) (bk BK454.out) hb)
 have n8_ := aM (bB (g := gb459) (o := .cells #[.int .i64 t455, .slice Ao42 t456.length co42] 28 (0, 0)) (bk BK459.out) hb)
 have n9_ := aM (bS (bl HB.out) hb)
 clear HO444 HO448
 clear HO453 HO458
 clear HO464 BK439
 clear BK449 BK454
 clear BK459 HB
 have HO444 := n0_
 have HO448 := n1_
 have HO453 := n2_
 have HO458 := n3_
 have HO464 := n4_
 have BK439 := n5_
 have BK449 := n6_
 have BK454 := n7_
 have BK459 := n8_
 have HB := n9_
 clear n0_ n1_ n2_ n3_ n4_ n5_ n6_ n7_ n8_ n9_
 (try clear hb)
 (try clear hb2)
 (try clear hk)
 (try clear hi)
 refine hK.out _ _ ⟨cI BK454.out 0, cI BK454.out 1, cI BK439.out 0, cI BK439.out 1⟩ (fun hHeld => ?_)
 clear hK K
 refine norm_ (a' := ?_) ?_ ?_
 rotate_left
 ·show Act.put _ (some 30) _ = _
  simp only [Act.put, sA, sZ, sS, i64_w, i32_w]
  rfl
 refine pure_ (i := 4) (N := some 31) (v := ?_) (a' := ?_) #[Y,Y,Y,Y,Y] rfl rfl (by kernel_rfl) (fun _ _ _ h => h) (Or.inl ⟨by rfl, ?_⟩) ?_ ?_
 rotate_left
 ·intro w'
  go_simp
  with_reducible rfl
 rotate_left
 ·simp only [Act.put, sA, sZ, sS, i64_w, i32_w]
  rfl
 refine done_ (by kernel_rfl) ?_
 have hcz49_0 := cI BK454.out 0
 have hcz49_1 := cI BK454.out 1
 have hfz49_0 := bF BK454.out 0
 have hfz49_1 := bF BK454.out 1
 go_upto_region 14 with (first | ((with_reducible refine gate_callee (f := 17) rfl ?_); refine goesL_ (some 34) rfl rfl Try.func17 (by kernel_rfl) rfl #[.agg #[.int .i64 t450, .slice Ao35 t451.length co35], .int .i64 1] rfl xR ?_; (with_reducible refine (laws_markBridge.calls k t450 (fun k_ => some k_ = (.slice Ao35 t451.length co35 : Value).ownBlock) (.slice Ao35 t451.length co35) t451 1 t466 t467 w _ ?side1 ?side2 A16.out).mono ?_); (case side1 => repeat (first | (with_reducible first | exact HB.out | apply below_alloc | apply pw_below_drewN | apply below_drew1 | refine below_set ?_ GE439.out | refine below_set ?_ GE449.out | refine below_set ?_ GE454.out | refine below_set ?_ GE459.out) | exact HB.out)); (case side2 => exact Kd.R_tight rfl HO453.out); rintro e w50 ⟨rfl, hy0, hb, hkp⟩; refine ⟨_, rfl, ?_⟩; have n0_ := aM (blk_kept (bk BK439.out) hkp (fun hs_ => (fun e_ => (Kd.R_ne HO453.out BK439.out (by decide)) e_) hs_)); have n1_ := aM (Kd.R_mono (ok' := fun k_ => some k_ ≠ (.slice Ao28 t446.length co28 : Value).ownBlock ∧ some k_ ≠ (.slice Ao35 t451.length co35 : Value).ownBlock ∧ some k_ ≠ (.slice Ao42 t456.length co42 : Value).ownBlock ∧ some k_ ≠ (.slice Ao47 t462.length co47 : Value).ownBlock) (Kd.R_keptB (HO444.out) hkp (fun k_ hk_ hs_ => (hk_.1.1.2) hs_)) (fun k_ hk_ => ⟨hk_.1.1.1.1.2, hk_.1.1.1.2, hk_.1.1.2, hk_.1.2⟩)); have n2_ := aM (Kd.R_mono (ok' := fun k_ => some k_ ≠ (.slice Ao23 t442.length co23 : Value).ownBlock ∧ some k_ ≠ (.slice Ao35 t451.length co35 : Value).ownBlock ∧ some k_ ≠ (.slice Ao42 t456.length co42 : Value).ownBlock ∧ some k_ ≠ (.slice Ao47 t462.length co47 : Value).ownBlock) (Kd.R_keptB (HO448.out) hkp (fun k_ hk_ hs_ => (hk_.1.1.2) hs_)) (fun k_ hk_ => ⟨hk_.1.1.1.1.2, hk_.1.1.1.2, hk_.1.1.2, hk_.1.2⟩)); have n3_ := aM (blk_kept (bk BK449.out) hkp (fun hs_ => (fun e_ => (Kd.R_ne HO453.out BK449.out (by decide)) e_) hs_)); have n4_ := aM (Kd.R_reok rfl hy0 (fun k_ e_ => HO453.out.1 k_ e_)); have n5_ := aM (blk_kept (bk BK454.out) hkp (fun hs_ => (fun e_ => (Kd.R_ne HO453.out BK454.out (by decide)) e_) hs_)); have n6_ := aM (Kd.R_mono (ok' := fun k_ => some k_ ≠ (.slice Ao23 t442.length co23 : Value).ownBlock ∧ some k_ ≠ (.slice Ao28 t446.length co28 : Value).ownBlock ∧ some k_ ≠ (.slice Ao35 t451.length co35 : Value).ownBlock ∧ some k_ ≠ (.slice Ao47 t462.length co47 : Value).ownBlock) (Kd.R_keptB (HO458.out) hkp (fun k_ hk_ hs_ => (hk_.1.2) hs_)) (fun k_ hk_ => ⟨hk_.1.1.1.1.2, hk_.1.1.1.2, hk_.1.1.2, hk_.1.2⟩)); have n7_ := aM (blk_kept (bk BK459.out) hkp (fun hs_ => (fun e_ => (Kd.R_ne HO453.out BK459.out (by decide)) e_) hs_)); have n8_ := aM (Kd.R_mono (ok' := fun k_ => some k_ ≠ (.slice Ao23 t442.length co23 : Value).ownBlock ∧ some k_ ≠ (.slice Ao28 t446.length co28 : Value).ownBlock ∧ some k_ ≠ (.slice Ao35 t451.length co35 : Value).ownBlock ∧ some k_ ≠ (.slice Ao42 t456.length co42 : Value).ownBlock) (Kd.R_keptB (HO464.out) hkp (fun k_ hk_ hs_ => (hk_.1.2) hs_)) (fun k_ hk_ => ⟨hk_.1.1.1.1.2, hk_.1.1.1.2, hk_.1.1.2, hk_.1.2⟩)); have n9_ := aM (hb); clear BK439 HO444; clear HO448 BK449; clear HO453 BK454; clear HO458 BK459; clear HO464 HB; have BK439 := n0_; have HO444 := n1_; have HO448 := n2_; have BK449 := n3_; have HO453 := n4_; have BK454 := n5_; have HO458 := n6_; have BK459 := n7_; have HO464 := n8_; have HB := n9_; clear n0_ n1_ n2_ n3_ n4_ n5_ n6_ n7_ n8_ n9_; (try clear hb); (try clear hkp); (try clear hy0)))
 (try simp only [Act.put, sA, sZ, sS])
 go_cut [42] (fun v42 wc => ∃ (kq : Nat) (x42_16 : Bool), v42 = .bool x42_16 ∧ Aside0 (laws_FnExactDecide.j0 kq x42_16 a0_0 l0_1 t445 t446 t455 t456 = some true) ∧ Aside0 (kq ≤ k) ∧ Aside0 (Kd.R k79 79 wc w.heap.size (fun k_ => some k_ ≠ ((.slice Ao35 t451.length co35) : Value).ownBlock ∧ some k_ ≠ ((.slice Ao42 t456.length co42) : Value).ownBlock) (.slice Ao28 t446.length co28) t446) ∧ Aside0 (Kd.R k79 79 wc w.heap.size (fun k_ => some k_ ≠ ((.slice Ao28 t446.length co28) : Value).ownBlock ∧ some k_ ≠ ((.slice Ao42 t456.length co42) : Value).ownBlock) (.slice Ao35 t451.length co35) t467) ∧ Aside0 (Kd.R k79 79 wc w.heap.size (fun k_ => some k_ ≠ ((.slice Ao28 t446.length co28) : Value).ownBlock ∧ some k_ ≠ ((.slice Ao35 t451.length co35) : Value).ownBlock) (.slice Ao42 t456.length co42) t456) ∧ Aside0 (wc.heap[gb439]? = some (.cells #[.int .i64 a0_0, (.slice A0_1 l0_1.length c0_1)] 24 (0, 0))) ∧ Aside0 (wc.heap[gb449]? = some (.cells #[.int .i64 t445, (.slice Ao28 t446.length co28)] 28 (0, 0))) ∧ Aside0 (wc.heap[gb454]? = some (.cells #[.int .i64 t450, (.slice Ao35 t451.length co35)] 28 (0, 0))) ∧ Aside0 (wc.heap[gb459]? = some (.cells #[.int .i64 t455, (.slice Ao42 t456.length co42)] 28 (0, 0))) ∧ Aside0 (Below w.heap.size w wc))
 case first =>
  have H := HC17.out
  clear HC17
  by_cases c51 : t466 < 0
  case pos =>
   rw [if_pos c51] at H
   have c51b0 : decide (t466 < 0) = true := decide_eq_true c51
   clear c51
   (first | rw [c51b0] | (simp only [i64_w, i32_w]; rw [c51b0]) | skip)
   have H' := aM H
   clear H
   go_wp2
   go_meet
   case rel => exact ⟨_, (true), xE, H', ⟨by first | omega | exact Nat.le_refl _⟩, ⟨kr (Kd.R_mono HO448.out (fun _ hk => ⟨hk.2.1, hk.2.2.1⟩))⟩, ⟨kr (Kd.R_mono HO453.out (fun _ hk => ⟨hk.1.1.2, hk.1.2⟩))⟩, ⟨kr (Kd.R_mono HO458.out (fun _ hk => ⟨hk.2.1, hk.2.2.1⟩))⟩, ⟨by (with_reducible repeat (first | refine blk_drewN ?_ _ | refine blk_drew ?_ | refine blk_alloc ?_ _)); exact BK439.out⟩, ⟨by (with_reducible repeat (first | refine blk_drewN ?_ _ | refine blk_drew ?_ | refine blk_alloc ?_ _)); exact BK449.out⟩, ⟨by (with_reducible repeat (first | refine blk_drewN ?_ _ | refine blk_drew ?_ | refine blk_alloc ?_ _)); exact BK454.out⟩, ⟨by (with_reducible repeat (first | refine blk_drewN ?_ _ | refine blk_drew ?_ | refine blk_alloc ?_ _)); exact BK459.out⟩, ⟨bl HB.out⟩⟩
  rw [if_neg c51] at H
  have c51b0 : decide (t466 < 0) = false := decide_eq_false c51
  clear c51
  (first | rw [c51b0] | (simp only [i64_w, i32_w]; rw [c51b0]) | skip)
  replace H := Option.bind_eq_some_iff.mp H
  obtain ⟨t468, A520, H⟩ := H
  replace H : (laws_FnExactDecide.j0 k (!t468) a0_0 l0_1 t445 t446 t455 t456) = some true := H
  have A52 := aM A520
  clear A520
  have H' := aM H
  clear H
  have hnb53 := NB459_439.out
  have hnc53 := NB439_459.out
  have hnb54 := NB459_449.out
  have hnc54 := NB449_459.out
  have hnb55 := NB459_454.out
  have hnc55 := NB454_459.out
  have hcz56_0 := cI BK459.out 0
  have hcz56_1 := cI BK459.out 1
  have hfz56_0 := bF BK459.out 0
  have hfz56_1 := bF BK459.out 1
  have hnb57 := NB449_439.out
  have hnc57 := NB439_449.out
  have hnb58 := NB449_454.out
  have hnc58 := NB454_449.out
  have hcz59_0 := cI BK449.out 0
  have hcz59_1 := cI BK449.out 1
  have hfz59_0 := bF BK449.out 0
  have hfz59_1 := bF BK449.out 1
  go_wp2_with (first | (go_at_call 16; (with_reducible refine (laws_eqBridge.calls k t455 _ _ t456 t445 _ _ t446 t468 _ ?side1 ?side2 ?side3 ?side4 A52.out).mono ?_); (case side1 => repeat (first | exact (Kd.R_reads' HO458.out).2.2 | (with_reducible refine Kd.C_alloc ?_ _) | (with_reducible refine Kd.C_drewN ?_ _) | (with_reducible refine Kd.C_drew ?_))); (case side2 => exact (Kd.R_reads' HO458.out).2.1); (case side3 => repeat (first | exact (Kd.R_reads' HO448.out).2.2 | (with_reducible refine Kd.C_alloc ?_ _) | (with_reducible refine Kd.C_drewN ?_ _) | (with_reducible refine Kd.C_drew ?_))); (case side4 => exact (Kd.R_reads' HO448.out).2.1); rintro e w60 ⟨rfl, hb⟩; have n0_ := aM (kB (kr HO444.out) hb); have n1_ := aM (kB (kr HO448.out) hb); have n2_ := aM (kB (kr HO453.out) hb); have n3_ := aM (kB (kr HO458.out) hb); have n4_ := aM (kB (kr HO464.out) hb); have n5_ := aM (bB (g := gb439) (o := .cells #[.int .i64 a0_0, .slice A0_1 l0_1.length c0_1] 24 (0, 0)) (bk BK439.out) hb); have n6_ := aM (bB (g := gb449) (o := .cells #[.int .i64 t445, .slice Ao28 t446.length co28] 28 (0, 0)) (bk BK449.out) hb); have n7_ := aM (bB (g := gb454) (o := .cells #[.int .i64 t450, .slice Ao35 t451.length co35] 28 (0, 0)) (bk BK454.out) hb); have n8_ := aM (bB (g := gb459) (o := .cells #[.int .i64 t455, .slice Ao42 t456.length co42] 28 (0, 0)) (bk BK459.out) hb); have n9_ := aM (bS (bl HB.out) hb); clear HO444 HO448; clear HO453 HO458; clear HO464 BK439; clear BK449 BK454; clear BK459 HB; have HO444 := n0_; have HO448 := n1_; have HO453 := n2_; have HO458 := n3_; have HO464 := n4_; have BK439 := n5_; have BK449 := n6_; have BK454 := n7_; have BK459 := n8_; have HB := n9_; clear n0_ n1_ n2_ n3_ n4_ n5_ n6_ n7_ n8_ n9_; (try clear hb)))
  go_meet
  case rel => exact ⟨_, (!t468), xE, H', ⟨by first | omega | exact Nat.le_refl _⟩, ⟨kr (Kd.R_mono HO448.out (fun _ hk => ⟨hk.2.1, hk.2.2.1⟩))⟩, ⟨kr (Kd.R_mono HO453.out (fun _ hk => ⟨hk.1.1.2, hk.1.2⟩))⟩, ⟨kr (Kd.R_mono HO458.out (fun _ hk => ⟨hk.2.1, hk.2.2.1⟩))⟩, ⟨by (with_reducible repeat (first | refine blk_drewN ?_ _ | refine blk_drew ?_ | refine blk_alloc ?_ _)); exact BK439.out⟩, ⟨by (with_reducible repeat (first | refine blk_drewN ?_ _ | refine blk_drew ?_ | refine blk_alloc ?_ _)); exact BK449.out⟩, ⟨by (with_reducible repeat (first | refine blk_drewN ?_ _ | refine blk_drew ?_ | refine blk_alloc ?_ _)); exact BK454.out⟩, ⟨by (with_reducible repeat (first | refine blk_drewN ?_ _ | refine blk_drew ?_ | refine blk_alloc ?_ _)); exact BK459.out⟩, ⟨bl HB.out⟩⟩
 case rest =>
  clear HC17
  try clear c1
  try clear c2
  try clear p2
  try clear c3
  try clear c3b0
  try clear c4
  try clear c5
  try clear c12
  try clear c13
  try clear c14
  try clear c15
  try clear c16
  try clear c17
  try clear c26
  try clear c32
  try clear c33
  try clear c38
  try clear c39
  try clear c40
  try clear c51
  try clear c51b0
  try clear c53
  try clear c54
  try clear c55
  try clear c57
  try clear c58
  try clear hcz19_0
  try clear hcz19_1
  try clear hcz21_0
  try clear hcz21_1
  try clear hcz27_0
  try clear hcz27_1
  try clear hcz29_0
  try clear hcz29_1
  try clear hcz34_0
  try clear hcz34_1
  try clear hcz41_0
  try clear hcz41_1
  try clear hcz43_0
  try clear hcz43_1
  try clear hcz49_0
  try clear hcz49_1
  try clear hcz56_0
  try clear hcz56_1
  try clear hcz59_0
  try clear hcz59_1
  try clear hcz5_0
  try clear hcz5_1
  try clear hfz19_0
  try clear hfz19_1
  try clear hfz21_0
  try clear hfz21_1
  try clear hfz27_0
  try clear hfz27_1
  try clear hfz29_0
  try clear hfz29_1
  try clear hfz34_0
  try clear hfz34_1
  try clear hfz41_0
  try clear hfz41_1
  try clear hfz43_0
  try clear hfz43_1
  try clear hfz49_0
  try clear hfz49_1
  try clear hfz56_0
  try clear hfz56_1
  try clear hfz59_0
  try clear hfz59_1
  try clear hfz5_0
  try clear hfz5_1
  obtain ⟨kq, x42_16, rfl, HA, HJ16, HO_450001, HO_455001, HO_460001, BK439, BK449, BK454, BK459, HB⟩ := hcut
  have hl455001_16 := (Kd.R_reads' HO_455001.out).1
  rw [hl455001_16] at HO_455001
  (try simp only [hl455001_16])
  (try simp only [hl455001_16] at BK439)
  (try simp only [hl455001_16] at BK449)
  (try simp only [hl455001_16] at BK454)
  (try simp only [hl455001_16] at BK459)
  (try simp only [hl455001_16] at HO_450001)
  (try simp only [hl455001_16] at HO_460001)
  cases kq with
  | zero => exact absurd HA.out (by simp [laws_FnExactDecide.j0])
  | succ kj16 =>
   have H := HA.out
   clear HA
   simp only [laws_FnExactDecide.j0] at H
   by_cases c61 : x42_16 = true
   case pos =>
    subst c61
    have H1 : (some false) = some true := by first | (rw [if_pos rfl] at H; exact H) | (rw [if_pos rfl] at H)
    clear H
    have H := H1
    clear H1
    exact absurd (Option.some.inj H) (by decide)
   replace c61 := Bool.eq_false_iff.mpr c61
   subst c61
   have H1 : ((laws_markBridge.f kj16 t455 t456 1).bind fun bt469 => ((laws_heldBridge.f kj16 t455 bt469.2 1).bind fun t471 => (if t471 < 0 then (some false) else (if t471 = bt469.1 then ((laws_toBridge.f kj16 a0_0 l0_1).bind fun bt472 => ((impl_Decide.f kj16 bt472.1 bt472.2).bind fun bt476 => ((laws_eqBridge.f kj16 bt476.1 bt476.2 t445 t446).bind fun t481 => (if t481 = true then ((laws_heldBridge.f kj16 t455 bt469.2 1).bind fun t482 => (if t482 < 0 then (some false) else (if t482 = bt469.1 then (some true) else (some false)))) else (some false))))) else (some false))))) = some true := by first | (rw [if_neg (show ¬ (false = true) by decide)] at H; exact H) | (rw [if_neg (show ¬ (false = true) by decide)] at H)
   clear H
   have H := H1
   clear H1
   replace H := Option.bind_eq_some_iff.mp H
   obtain ⟨⟨t469, t470⟩, A620, H⟩ := H
   replace H : ((laws_heldBridge.f kj16 t455 t470 1).bind fun t471 => (if t471 < 0 then (some false) else (if t471 = t469 then ((laws_toBridge.f kj16 a0_0 l0_1).bind fun bt472 => ((impl_Decide.f kj16 bt472.1 bt472.2).bind fun bt476 => ((laws_eqBridge.f kj16 bt476.1 bt476.2 t445 t446).bind fun t481 => (if t481 = true then ((laws_heldBridge.f kj16 t455 t470 1).bind fun t482 => (if t482 < 0 then (some false) else (if t482 = t469 then (some true) else (some false)))) else (some false))))) else (some false)))) = some true := H
   have A62 := aM A620
   clear A620
   replace H := Option.bind_eq_some_iff.mp H
   obtain ⟨t471, A630, H⟩ := H
   replace H : (if t471 < 0 then (some false) else (if t471 = t469 then ((laws_toBridge.f kj16 a0_0 l0_1).bind fun bt472 => ((impl_Decide.f kj16 bt472.1 bt472.2).bind fun bt476 => ((laws_eqBridge.f kj16 bt476.1 bt476.2 t445 t446).bind fun t481 => (if t481 = true then ((laws_heldBridge.f kj16 t455 t470 1).bind fun t482 => (if t482 < 0 then (some false) else (if t482 = t469 then (some true) else (some false)))) else (some false))))) else (some false))) = some true := H
   have A63 := aM A630
   clear A630
   by_cases c64 : t471 < 0
   case pos =>
    rw [if_pos c64] at H
    have c64b0 : decide (t471 < 0) = true := decide_eq_true c64
    clear c64
    exact absurd (Option.some.inj H) (by decide)
   rw [if_neg c64] at H
   have c64b0 : decide (t471 < 0) = false := decide_eq_false c64
   clear c64
   by_cases c72 : t471 = t469
   case neg =>
    rw [if_neg c72] at H
    have c72b0 : (t471 == t469) = false := beq_eq_false_iff_ne.mpr c72
    have c72b1 : (t471 != t469) = true := bne_iff_ne.mpr c72
    exact absurd (Option.some.inj H) (by decide)
   rw [if_pos c72] at H
   have c72b0 : (t471 == t469) = true := beq_iff_eq.mpr c72
   have c72b1 : (t471 != t469) = false := bne_eq_false_iff_eq.mpr c72
   clear c72
   replace H := Option.bind_eq_some_iff.mp H
   obtain ⟨⟨t472, t473⟩, A730, H⟩ := H
   replace H : ((impl_Decide.f kj16 t472 t473).bind fun bt476 => ((laws_eqBridge.f kj16 bt476.1 bt476.2 t445 t446).bind fun t481 => (if t481 = true then ((laws_heldBridge.f kj16 t455 t470 1).bind fun t482 => (if t482 < 0 then (some false) else (if t482 = t469 then (some true) else (some false)))) else (some false)))) = some true := H
   have A73 := aM A730
   clear A730
   replace H := Option.bind_eq_some_iff.mp H
   obtain ⟨⟨t476, t477⟩, A740, H⟩ := H
   replace H : ((laws_eqBridge.f kj16 t476 t477 t445 t446).bind fun t481 => (if t481 = true then ((laws_heldBridge.f kj16 t455 t470 1).bind fun t482 => (if t482 < 0 then (some false) else (if t482 = t469 then (some true) else (some false)))) else (some false))) = some true := H
   have A74 := aM A740
   clear A740
   replace H := Option.bind_eq_some_iff.mp H
   obtain ⟨t481, A750, H⟩ := H
   replace H : (if t481 = true then ((laws_heldBridge.f kj16 t455 t470 1).bind fun t482 => (if t482 < 0 then (some false) else (if t482 = t469 then (some true) else (some false)))) else (some false)) = some true := H
   have A75 := aM A750
   clear A750
   by_cases c76 : t481 = true
   case neg =>
    replace c76 := Bool.eq_false_iff.mpr c76
    subst c76
    have H1 : (some false) = some true := by first | (rw [if_neg (show ¬ (false = true) by decide)] at H; exact H) | (rw [if_neg (show ¬ (false = true) by decide)] at H)
    clear H
    have H := H1
    clear H1
    exact absurd (Option.some.inj H) (by decide)
   subst c76
   have H1 : ((laws_heldBridge.f kj16 t455 t470 1).bind fun t482 => (if t482 < 0 then (some false) else (if t482 = t469 then (some true) else (some false)))) = some true := by first | (rw [if_pos rfl] at H; exact H) | (rw [if_pos rfl] at H)
   clear H
   have H := H1
   clear H1
   replace H := Option.bind_eq_some_iff.mp H
   obtain ⟨t482, A770, H⟩ := H
   replace H : (if t482 < 0 then (some false) else (if t482 = t469 then (some true) else (some false))) = some true := H
   have A77 := aM A770
   clear A770
   by_cases c78 : t482 < 0
   case pos =>
    rw [if_pos c78] at H
    have c78b0 : decide (t482 < 0) = true := decide_eq_true c78
    clear c78
    exact absurd (Option.some.inj H) (by decide)
   rw [if_neg c78] at H
   have c78b0 : decide (t482 < 0) = false := decide_eq_false c78
   clear c78
   by_cases c104 : t482 = t469
   case neg =>
    rw [if_neg c104] at H
    have c104b0 : (t482 == t469) = false := beq_eq_false_iff_ne.mpr c104
    have c104b1 : (t482 != t469) = true := bne_iff_ne.mpr c104
    exact absurd (Option.some.inj H) (by decide)
   rw [if_pos c104] at H
   have c104b0 : (t482 == t469) = true := beq_iff_eq.mpr c104
   have c104b1 : (t482 != t469) = false := bne_eq_false_iff_eq.mpr c104
   clear c104
   clear H
   have hnb105 := NB459_439.out
   have hnc105 := NB439_459.out
   have hnb106 := NB459_449.out
   have hnc106 := NB449_459.out
   have hnb107 := NB459_454.out
   have hnc107 := NB454_459.out
   have hcz108_0 := cI BK459.out 0
   have hcz108_1 := cI BK459.out 1
   have hfz108_0 := bF BK459.out 0
   have hfz108_1 := bF BK459.out 1
   go_wp2_with (first | ((with_reducible refine gate_callee (f := 17) rfl ?_); refine goesL_ (some 45) rfl rfl Try.func17 (by kernel_rfl) rfl #[.agg #[.int .i64 t455, .slice Ao42 t456.length co42], .int .i64 1] rfl xR ?_; (with_reducible refine (laws_markBridge.calls kj16 t455 (fun k_ => some k_ = (.slice Ao42 t456.length co42 : Value).ownBlock) (.slice Ao42 t456.length co42) t456 1 t469 t470 w _ ?side1 ?side2 A62.out).mono ?_); (case side1 => repeat (first | (with_reducible first | exact HB.out | apply below_alloc | apply pw_below_drewN | apply below_drew1 | refine below_set ?_ GE439.out | refine below_set ?_ GE449.out | refine below_set ?_ GE454.out | refine below_set ?_ GE459.out) | exact HB.out)); (case side2 => exact Kd.R_tight rfl HO_460001.out); rintro e w109 ⟨rfl, hy0, hb, hkp⟩; refine ⟨_, rfl, ?_⟩; have n0_ := aM (Kd.R_mono (ok' := fun k_ => some k_ ≠ (.slice Ao35 t467.length co35 : Value).ownBlock ∧ some k_ ≠ (.slice Ao42 t456.length co42 : Value).ownBlock) (Kd.R_keptB (HO_450001.out) hkp (fun k_ hk_ hs_ => (hk_.2) hs_)) (fun k_ hk_ => ⟨hk_.1.1, hk_.1.2⟩)); have n1_ := aM (Kd.R_mono (ok' := fun k_ => some k_ ≠ (.slice Ao28 t446.length co28 : Value).ownBlock ∧ some k_ ≠ (.slice Ao42 t456.length co42 : Value).ownBlock) (Kd.R_keptB (HO_455001.out) hkp (fun k_ hk_ hs_ => (hk_.2) hs_)) (fun k_ hk_ => ⟨hk_.1.1, hk_.1.2⟩)); have n2_ := aM (Kd.R_reok rfl hy0 (fun k_ e_ => HO_460001.out.1 k_ e_)); have n3_ := aM (blk_kept (bk BK439.out) hkp (fun hs_ => (fun e_ => (Kd.R_ne HO_460001.out BK439.out (by decide)) e_) hs_)); have n4_ := aM (blk_kept (bk BK449.out) hkp (fun hs_ => (fun e_ => (Kd.R_ne HO_460001.out BK449.out (by decide)) e_) hs_)); have n5_ := aM (blk_kept (bk BK454.out) hkp (fun hs_ => (fun e_ => (Kd.R_ne HO_460001.out BK454.out (by decide)) e_) hs_)); have n6_ := aM (blk_kept (bk BK459.out) hkp (fun hs_ => (fun e_ => (Kd.R_ne HO_460001.out BK459.out (by decide)) e_) hs_)); have n7_ := aM (hb); clear HO_450001 HO_455001; clear HO_460001 BK439; clear BK449 BK454; clear BK459 HB; have HO_450001 := n0_; have HO_455001 := n1_; have HO_460001 := n2_; have BK439 := n3_; have BK449 := n4_; have BK454 := n5_; have BK459 := n6_; have HB := n7_; clear n0_ n1_ n2_ n3_ n4_ n5_ n6_ n7_; (try clear hb); (try clear hkp); (try clear hy0); have hcz110_0 := cI BK459.out 0; have hcz110_1 := cI BK459.out 1; have hfz110_0 := bF BK459.out 0; have hfz110_1 := bF BK459.out 1) | ((with_reducible refine gate_callee (f := 18) rfl ?_); refine goesL_ (some 48) rfl rfl Try.func18 (by kernel_rfl) rfl #[.agg #[.int .i64 t455, .slice Ao42 t470.length co42], .int .i64 1] rfl (by (try simp only [List.map_toArray, List.map_cons, List.map_nil]); first | done | (rw [show t470.length = t456.length from (Kd.R_reads' HO_460001.out).1.symm] <;> rfl) | rfl | (simp only [List.length_drop, List.length_take]; rfl)) ?_; (with_reducible refine (laws_heldBridge.calls kj16 t455 _ _ t470 1 t471 _ ?side1 ?side2 A63.out).mono ?_); (case side1 => repeat (first | exact (Kd.R_reads' HO_460001.out).2.2 | (with_reducible refine Kd.C_alloc ?_ _) | (with_reducible refine Kd.C_drewN ?_ _) | (with_reducible refine Kd.C_drew ?_))); (case side2 => rw [show t470.length = t456.length from (Kd.R_reads' HO_460001.out).1.symm]; exact (Kd.R_reads' HO_460001.out).2.1); rintro e w111 ⟨rfl, hb⟩; refine ⟨_, rfl, ?_⟩; have n0_ := aM (kB (kr HO_450001.out) hb); have n1_ := aM (kB (kr HO_455001.out) hb); have n2_ := aM (kB (kr HO_460001.out) hb); have n3_ := aM (bB (g := gb439) (o := .cells #[.int .i64 a0_0, .slice A0_1 l0_1.length c0_1] 24 (0, 0)) (bk BK439.out) hb); have n4_ := aM (bB (g := gb449) (o := .cells #[.int .i64 t445, .slice Ao28 t446.length co28] 28 (0, 0)) (bk BK449.out) hb); have n5_ := aM (bB (g := gb454) (o := .cells #[.int .i64 t450, .slice Ao35 t467.length co35] 28 (0, 0)) (bk BK454.out) hb); have n6_ := aM (bB (g := gb459) (o := .cells #[.int .i64 t455, .slice Ao42 t456.length co42] 28 (0, 0)) (bk BK459.out) hb); have n7_ := aM (bS (bl HB.out) hb); clear HO_450001 HO_455001; clear HO_460001 BK439; clear BK449 BK454; clear BK459 HB; have HO_450001 := n0_; have HO_455001 := n1_; have HO_460001 := n2_; have BK439 := n3_; have BK449 := n4_; have BK454 := n5_; have BK459 := n6_; have HB := n7_; clear n0_ n1_ n2_ n3_ n4_ n5_ n6_ n7_; (try clear hb); have hnb112 := NB439_449.out; have hnc112 := NB449_439.out; have hnb113 := NB439_454.out; have hnc113 := NB454_439.out; have hcz114_0 := cI BK439.out 0; have hcz114_1 := cI BK439.out 1; have hfz114_0 := bF BK439.out 0; have hfz114_1 := bF BK439.out 1) | ((with_reducible refine gate_callee (f := 14) rfl ?_); refine goesL_ (some 55) rfl rfl Try.func14 (by kernel_rfl) rfl #[.agg #[.int .i64 a0_0, .slice A0_1 l0_1.length c0_1]] rfl xR ?_; (with_reducible refine (laws_toBridge.calls kj16 a0_0 _ _ l0_1 t472 t473 _ ?side1 ?side2 A73.out).mono ?_); (case side1 => repeat (first | exact (cB HR0_1.out HB.out) | (with_reducible refine Kd.C_alloc ?_ _) | (with_reducible refine Kd.C_drewN ?_ _) | (with_reducible refine Kd.C_drew ?_))); (case side2 => exact HC0_1.out); rintro e w115 ⟨v474, rfl, ho0, hb⟩; refine ⟨_, rfl, ?_⟩; have n0_ := aM (Kd.R_elder' (kr HO_450001.out) (Kd.R_base ho0) hb); have n1_ := aM (Kd.R_elder' (kr HO_455001.out) (Kd.R_base ho0) hb); have n2_ := aM (Kd.R_elder' (kr HO_460001.out) (Kd.R_base ho0) hb); have n3_ := aM (Kd.R_lower (Kd.R_new' (Kd.R_new' (Kd.R_new' ho0 (Kd.R_lt (kr HO_450001.out))) (Kd.R_lt (kr HO_455001.out))) (Kd.R_lt (kr HO_460001.out))) (below_size (bl HB.out))); have n4_ := aM (bB (g := gb439) (o := .cells #[.int .i64 a0_0, .slice A0_1 l0_1.length c0_1] 24 (0, 0)) (bk BK439.out) hb); have n5_ := aM (bB (g := gb449) (o := .cells #[.int .i64 t445, .slice Ao28 t446.length co28] 28 (0, 0)) (bk BK449.out) hb); have n6_ := aM (bB (g := gb454) (o := .cells #[.int .i64 t450, .slice Ao35 t467.length co35] 28 (0, 0)) (bk BK454.out) hb); have n7_ := aM (bB (g := gb459) (o := .cells #[.int .i64 t455, .slice Ao42 t456.length co42] 28 (0, 0)) (bk BK459.out) hb); have n8_ := aM (bS (bl HB.out) hb); clear HO_450001 HO_455001; clear HO_460001 BK439; clear BK449 BK454; clear BK459 HB; have HO_450001 := n0_; have HO_455001 := n1_; have HO_460001 := n2_; have HO475 := n3_; have BK439 := n4_; have BK449 := n5_; have BK454 := n6_; have BK459 := n7_; have HB := n8_; clear n0_ n1_ n2_ n3_ n4_ n5_ n6_ n7_ n8_; (try clear hb); (try clear ho0); obtain ⟨Ao116, co116, eo116⟩ := Kd.R_slice HO475.out; subst eo116) | ((with_reducible refine gate_callee (f := 15) rfl ?_); refine goesL_ (some 56) rfl rfl Try.func15 (by kernel_rfl) rfl #[.agg #[.int .i64 t472, .slice Ao116 t473.length co116]] rfl xR ?_; (with_reducible refine (impl_Decide.calls kj16 t472 _ _ t473 t476 t477 _ ?side1 ?side2 A74.out).mono ?_); (case side1 => repeat (first | exact (Kd.R_reads' HO475.out).2.2 | (with_reducible refine Kd.C_alloc ?_ _) | (with_reducible refine Kd.C_drewN ?_ _) | (with_reducible refine Kd.C_drew ?_))); (case side2 => exact (Kd.R_reads' HO475.out).2.1); rintro e w117 ⟨v478, rfl, ho0, hb⟩; refine ⟨_, rfl, ?_⟩; have n0_ := aM (Kd.R_elder' (kr HO_450001.out) (Kd.R_base ho0) hb); have n1_ := aM (Kd.R_elder' (kr HO_455001.out) (Kd.R_base ho0) hb); have n2_ := aM (Kd.R_elder' (kr HO_460001.out) (Kd.R_base ho0) hb); have n3_ := aM (Kd.R_elder' (kr HO475.out) (Kd.R_base ho0) hb); have n4_ := aM (Kd.R_lower (Kd.R_new' (Kd.R_new' (Kd.R_new' (Kd.R_new' ho0 (Kd.R_lt (kr HO_450001.out))) (Kd.R_lt (kr HO_455001.out))) (Kd.R_lt (kr HO_460001.out))) (Kd.R_lt (kr HO475.out))) (below_size (bl HB.out))); have n5_ := aM (bB (g := gb439) (o := .cells #[.int .i64 a0_0, .slice A0_1 l0_1.length c0_1] 24 (0, 0)) (bk BK439.out) hb); have n6_ := aM (bB (g := gb449) (o := .cells #[.int .i64 t445, .slice Ao28 t446.length co28] 28 (0, 0)) (bk BK449.out) hb); have n7_ := aM (bB (g := gb454) (o := .cells #[.int .i64 t450, .slice Ao35 t467.length co35] 28 (0, 0)) (bk BK454.out) hb); have n8_ := aM (bB (g := gb459) (o := .cells #[.int .i64 t455, .slice Ao42 t456.length co42] 28 (0, 0)) (bk BK459.out) hb); have n9_ := aM (bS (bl HB.out) hb); clear HO_450001 HO_455001; clear HO_460001 HO475; clear BK439 BK449; clear BK454 BK459 HB; have HO_450001 := n0_; have HO_455001 := n1_; have HO_460001 := n2_; have HO475 := n3_; have HO479 := n4_; have BK439 := n5_; have BK449 := n6_; have BK454 := n7_; have BK459 := n8_; have HB := n9_; clear n0_ n1_ n2_ n3_ n4_ n5_ n6_ n7_ n8_ n9_; (try clear hb); (try clear ho0)) | ((with_reducible refine gate_dst (N := 10) rfl ?_); refine box_event ?hg (N := 10) ?hd (cs := #[.int .i64 0, .slice none 0 0]) (t := 28) ?hr ?_; (case hd => rfl); (case hg => rfl); (case hr => first | (go_simp; done) | (go_simp; rfl) | (obtain ⟨A_, c_, e_⟩ := Kd.R_slice HO_450001.out; subst e_; (first | (go_simp; done) | (go_simp; rfl))) | (obtain ⟨A_, c_, e_⟩ := Kd.S_slice HO_450001.out; subst e_; (first | (go_simp; done) | (go_simp; rfl))) | (obtain ⟨A_, c_, e_⟩ := Kd.R_slice HO_455001.out; subst e_; (first | (go_simp; done) | (go_simp; rfl))) | (obtain ⟨A_, c_, e_⟩ := Kd.S_slice HO_455001.out; subst e_; (first | (go_simp; done) | (go_simp; rfl))) | (obtain ⟨A_, c_, e_⟩ := Kd.R_slice HO_460001.out; subst e_; (first | (go_simp; done) | (go_simp; rfl))) | (obtain ⟨A_, c_, e_⟩ := Kd.S_slice HO_460001.out; subst e_; (first | (go_simp; done) | (go_simp; rfl))) | (obtain ⟨A_, c_, e_⟩ := Kd.R_slice HO475.out; subst e_; (first | (go_simp; done) | (go_simp; rfl))) | (obtain ⟨A_, c_, e_⟩ := Kd.S_slice HO475.out; subst e_; (first | (go_simp; done) | (go_simp; rfl))) | (obtain ⟨A_, c_, e_⟩ := Kd.R_slice HO479.out; subst e_; (first | (go_simp; done) | (go_simp; rfl))) | (obtain ⟨A_, c_, e_⟩ := Kd.S_slice HO479.out; subst e_; (first | (go_simp; done) | (go_simp; rfl)))); intro gb480 hg w118 hbox hb; have n0_ := aM (kB (kr HO_450001.out) hb); have n1_ := aM (kB (kr HO_455001.out) hb); have n2_ := aM (kB (kr HO_460001.out) hb); have n3_ := aM (kB (kr HO475.out) hb); have n4_ := aM (kB (kr HO479.out) hb); have n5_ := aM (bB (g := gb439) (o := .cells #[.int .i64 a0_0, .slice A0_1 l0_1.length c0_1] 24 (0, 0)) (bk BK439.out) hb); have n6_ := aM (bB (g := gb449) (o := .cells #[.int .i64 t445, .slice Ao28 t446.length co28] 28 (0, 0)) (bk BK449.out) hb); have n7_ := aM (bB (g := gb454) (o := .cells #[.int .i64 t450, .slice Ao35 t467.length co35] 28 (0, 0)) (bk BK454.out) hb); have n8_ := aM (bB (g := gb459) (o := .cells #[.int .i64 t455, .slice Ao42 t456.length co42] 28 (0, 0)) (bk BK459.out) hb); have n9_ := aM (bS (bl HB.out) hb); have n10_ := aM (hbox); have n11_ := aM ((by rw [hg]; exact (below_size (bl HB.out)) : w.heap.size ≤ gb480)); have n12_ := aM ((by rw [hg]; exact (below_size (bl HB.out)) : w.heap.size ≤ gb480)); have n13_ := aM ((by rw [hg]; exact Nat.ne_of_lt (blk_lt (g := gb439) (o := .cells #[.int .i64 a0_0, .slice A0_1 l0_1.length c0_1] 24 (0, 0)) (bk BK439.out)) : gb439 ≠ gb480)); have n14_ := aM ((by rw [hg]; exact Nat.ne_of_gt (blk_lt (g := gb439) (o := .cells #[.int .i64 a0_0, .slice A0_1 l0_1.length c0_1] 24 (0, 0)) (bk BK439.out)) : gb480 ≠ gb439)); have n15_ := aM ((by rw [hg]; exact Nat.ne_of_lt (blk_lt (g := gb449) (o := .cells #[.int .i64 t445, .slice Ao28 t446.length co28] 28 (0, 0)) (bk BK449.out)) : gb449 ≠ gb480)); have n16_ := aM ((by rw [hg]; exact Nat.ne_of_gt (blk_lt (g := gb449) (o := .cells #[.int .i64 t445, .slice Ao28 t446.length co28] 28 (0, 0)) (bk BK449.out)) : gb480 ≠ gb449)); have n17_ := aM ((by rw [hg]; exact Nat.ne_of_lt (blk_lt (g := gb454) (o := .cells #[.int .i64 t450, .slice Ao35 t467.length co35] 28 (0, 0)) (bk BK454.out)) : gb454 ≠ gb480)); have n18_ := aM ((by rw [hg]; exact Nat.ne_of_gt (blk_lt (g := gb454) (o := .cells #[.int .i64 t450, .slice Ao35 t467.length co35] 28 (0, 0)) (bk BK454.out)) : gb480 ≠ gb454)); have n19_ := aM ((by rw [hg]; exact Nat.ne_of_lt (blk_lt (g := gb459) (o := .cells #[.int .i64 t455, .slice Ao42 t456.length co42] 28 (0, 0)) (bk BK459.out)) : gb459 ≠ gb480)); have n20_ := aM ((by rw [hg]; exact Nat.ne_of_gt (blk_lt (g := gb459) (o := .cells #[.int .i64 t455, .slice Ao42 t456.length co42] 28 (0, 0)) (bk BK459.out)) : gb480 ≠ gb459)); clear HO_450001 HO_455001; clear HO_460001 HO475; clear HO479 BK439; clear BK449 BK454; clear BK459 HB; have HO_450001 := n0_; have HO_455001 := n1_; have HO_460001 := n2_; have HO475 := n3_; have HO479 := n4_; have BK439 := n5_; have BK449 := n6_; have BK454 := n7_; have BK459 := n8_; have HB := n9_; have BK480 := n10_; have GW480 := n11_; have GE480 := n12_; have NB439_480 := n13_; have NB480_439 := n14_; have NB449_480 := n15_; have NB480_449 := n16_; have NB454_480 := n17_; have NB480_454 := n18_; have NB459_480 := n19_; have NB480_459 := n20_; clear n0_ n1_ n2_ n3_ n4_ n5_ n6_ n7_ n8_ n9_ n10_ n11_ n12_ n13_ n14_ n15_ n16_ n17_ n18_ n19_ n20_; clear hb hbox hg; have hnb119 := NB480_439.out; have hnc119 := NB439_480.out; have hnb120 := NB480_449.out; have hnc120 := NB449_480.out; have hnb121 := NB480_454.out; have hnc121 := NB454_480.out; have hnb122 := NB480_459.out; have hnc122 := NB459_480.out; have hcz123_0 := cI BK480.out 0; have hcz123_1 := cI BK480.out 1; have hfz123_0 := bF BK480.out 0; have hfz123_1 := bF BK480.out 1; obtain ⟨Ao124, co124, eo124⟩ := Kd.R_slice HO479.out; subst eo124; have hnb125 := NB449_454.out; have hnc125 := NB454_449.out; have hcz126_0 := cI BK449.out 0; have hcz126_1 := cI BK449.out 1; have hfz126_0 := bF BK449.out 0; have hfz126_1 := bF BK449.out 1) | ((with_reducible refine gate_callee (f := 16) rfl ?_); refine goesL_ (some 59) rfl rfl Try.func16 (by kernel_rfl) rfl #[.agg #[.int .i64 t476, .slice Ao124 t477.length co124], .agg #[.int .i64 t445, .slice Ao28 t446.length co28]] rfl xR ?_; (with_reducible refine (laws_eqBridge.calls kj16 t476 _ _ t477 t445 _ _ t446 true _ ?side1 ?side2 ?side3 ?side4 A75.out).mono ?_); (case side1 => refine (Kd.R_reads' (e := 79) (base := w.heap.size) (ok := fun k_ => ((((True ∧ some k_ ≠ (.slice Ao28 t446.length co28 : Value).ownBlock) ∧ some k_ ≠ (.slice Ao35 t467.length co35 : Value).ownBlock) ∧ some k_ ≠ (.slice Ao42 t456.length co42 : Value).ownBlock) ∧ some k_ ≠ (.slice Ao116 t473.length co116 : Value).ownBlock)) (n := t477.length) (c := co124) ?_).2.2; exact (kr (Kd.R_mono (kF (p := ⟨gb480, 1, none⟩) (kF (p := ⟨gb480, 0, none⟩) (Kd.R_types HO479.out BK480.out (by decide)) (fun _ hk => hk.2) (.int .i64 t476)) (fun _ hk => hk.2) (.slice Ao124 t477.length co124)) (fun _ h_ => h_.1)))); (case side2 => exact (Kd.R_reads' HO479.out).2.1); (case side3 => refine (Kd.R_reads' (e := 79) (base := w.heap.size) (ok := fun k_ => (((some k_ ≠ (.slice Ao35 t467.length co35 : Value).ownBlock ∧ some k_ ≠ (.slice Ao42 t456.length co42 : Value).ownBlock) ∧ some k_ ≠ (.slice Ao116 t473.length co116 : Value).ownBlock) ∧ some k_ ≠ (.slice Ao124 t477.length co124 : Value).ownBlock)) (n := t446.length) (c := co28) ?_).2.2; exact (kr (Kd.R_mono (kF (p := ⟨gb480, 1, none⟩) (kF (p := ⟨gb480, 0, none⟩) (Kd.R_types HO_450001.out BK480.out (by decide)) (fun _ hk => hk.2) (.int .i64 t476)) (fun _ hk => hk.2) (.slice Ao124 t477.length co124)) (fun _ h_ => h_.1)))); (case side4 => exact (Kd.R_reads' HO_450001.out).2.1); rintro e w127 ⟨rfl, hb⟩; refine ⟨_, rfl, ?_⟩; have n0_ := aM (kB (kr (Kd.R_mono (kF (p := ⟨gb480, 1, none⟩) (kF (p := ⟨gb480, 0, none⟩) (Kd.R_types HO_450001.out BK480.out (by decide)) (fun _ hk => hk.2) (.int .i64 t476)) (fun _ hk => hk.2) (.slice Ao124 t477.length co124)) (fun _ h_ => h_.1))) hb); have n1_ := aM (kB (kr (Kd.R_mono (kF (p := ⟨gb480, 1, none⟩) (kF (p := ⟨gb480, 0, none⟩) (Kd.R_types HO_455001.out BK480.out (by decide)) (fun _ hk => hk.2) (.int .i64 t476)) (fun _ hk => hk.2) (.slice Ao124 t477.length co124)) (fun _ h_ => h_.1))) hb); have n2_ := aM (kB (kr (Kd.R_mono (kF (p := ⟨gb480, 1, none⟩) (kF (p := ⟨gb480, 0, none⟩) (Kd.R_types HO_460001.out BK480.out (by decide)) (fun _ hk => hk.2) (.int .i64 t476)) (fun _ hk => hk.2) (.slice Ao124 t477.length co124)) (fun _ h_ => h_.1))) hb); have n3_ := aM (kB (kr (Kd.R_mono (kF (p := ⟨gb480, 1, none⟩) (kF (p := ⟨gb480, 0, none⟩) (Kd.R_types HO475.out BK480.out (by decide)) (fun _ hk => hk.2) (.int .i64 t476)) (fun _ hk => hk.2) (.slice Ao124 t477.length co124)) (fun _ h_ => h_.1))) hb); have n4_ := aM (kB (kr (Kd.R_mono (kF (p := ⟨gb480, 1, none⟩) (kF (p := ⟨gb480, 0, none⟩) (Kd.R_types HO479.out BK480.out (by decide)) (fun _ hk => hk.2) (.int .i64 t476)) (fun _ hk => hk.2) (.slice Ao124 t477.length co124)) (fun _ h_ => h_.1))) hb); have n5_ := aM (bB (g := gb439) (o := .cells #[.int .i64 a0_0, .slice A0_1 l0_1.length c0_1] 24 (0, 0)) (by (with_reducible repeat (first | refine blk_drewN ?_ _ | refine blk_drew ?_ | refine blk_alloc ?_ _)); refine blk_far ?_ NB439_480.out _; (with_reducible repeat (first | refine blk_drewN ?_ _ | refine blk_drew ?_ | refine blk_alloc ?_ _)); refine blk_far ?_ NB439_480.out _; (with_reducible repeat (first | refine blk_drewN ?_ _ | refine blk_drew ?_ | refine blk_alloc ?_ _)); exact BK439.out) hb); have n6_ := aM (bB (g := gb449) (o := .cells #[.int .i64 t445, .slice Ao28 t446.length co28] 28 (0, 0)) (by (with_reducible repeat (first | refine blk_drewN ?_ _ | refine blk_drew ?_ | refine blk_alloc ?_ _)); refine blk_far ?_ NB449_480.out _; (with_reducible repeat (first | refine blk_drewN ?_ _ | refine blk_drew ?_ | refine blk_alloc ?_ _)); refine blk_far ?_ NB449_480.out _; (with_reducible repeat (first | refine blk_drewN ?_ _ | refine blk_drew ?_ | refine blk_alloc ?_ _)); exact BK449.out) hb); have n7_ := aM (bB (g := gb454) (o := .cells #[.int .i64 t450, .slice Ao35 t467.length co35] 28 (0, 0)) (by (with_reducible repeat (first | refine blk_drewN ?_ _ | refine blk_drew ?_ | refine blk_alloc ?_ _)); refine blk_far ?_ NB454_480.out _; (with_reducible repeat (first | refine blk_drewN ?_ _ | refine blk_drew ?_ | refine blk_alloc ?_ _)); refine blk_far ?_ NB454_480.out _; (with_reducible repeat (first | refine blk_drewN ?_ _ | refine blk_drew ?_ | refine blk_alloc ?_ _)); exact BK454.out) hb); have n8_ := aM (bB (g := gb459) (o := .cells #[.int .i64 t455, .slice Ao42 t456.length co42] 28 (0, 0)) (by (with_reducible repeat (first | refine blk_drewN ?_ _ | refine blk_drew ?_ | refine blk_alloc ?_ _)); refine blk_far ?_ NB459_480.out _; (with_reducible repeat (first | refine blk_drewN ?_ _ | refine blk_drew ?_ | refine blk_alloc ?_ _)); refine blk_far ?_ NB459_480.out _; (with_reducible repeat (first | refine blk_drewN ?_ _ | refine blk_drew ?_ | refine blk_alloc ?_ _)); exact BK459.out) hb); have n9_ := aM (bB (g := gb480) (o := .cells #[.int .i64 t476, .slice Ao124 t477.length co124] 28 (0, 0)) (by (with_reducible repeat (first | refine blk_drewN ?_ _ | refine blk_drew ?_ | refine blk_alloc ?_ _)); refine blk_put (cs := #[.int .i64 t476, .slice none 0 0]) ?_ 1 _ rfl; (with_reducible repeat (first | refine blk_drewN ?_ _ | refine blk_drew ?_ | refine blk_alloc ?_ _)); refine blk_put (cs := #[.int .i64 0, .slice none 0 0]) ?_ 0 _ rfl; (with_reducible repeat (first | refine blk_drewN ?_ _ | refine blk_drew ?_ | refine blk_alloc ?_ _)); exact BK480.out) hb); have n10_ := aM (bS (bl HB.out) hb); clear HO_450001 HO_455001; clear HO_460001 HO475; clear HO479 BK439; clear BK449 BK454; clear BK459 BK480 HB; have HO_450001 := n0_; have HO_455001 := n1_; have HO_460001 := n2_; have HO475 := n3_; have HO479 := n4_; have BK439 := n5_; have BK449 := n6_; have BK454 := n7_; have BK459 := n8_; have BK480 := n9_; have HB := n10_; clear n0_ n1_ n2_ n3_ n4_ n5_ n6_ n7_ n8_ n9_ n10_; (try clear hb); have hcz128_0 := cI BK459.out 0; have hcz128_1 := cI BK459.out 1; have hfz128_0 := bF BK459.out 0; have hfz128_1 := bF BK459.out 1) | ((with_reducible refine gate_callee (f := 18) rfl ?_); refine goesL_ (some 63) rfl rfl Try.func18 (by kernel_rfl) rfl #[.agg #[.int .i64 t455, .slice Ao42 t470.length co42], .int .i64 1] rfl (by (try simp only [List.map_toArray, List.map_cons, List.map_nil]); first | done | (rw [show t470.length = t456.length from (Kd.R_reads' HO_460001.out).1.symm] <;> rfl) | rfl | (simp only [List.length_drop, List.length_take]; rfl)) ?_; (with_reducible refine (laws_heldBridge.calls kj16 t455 _ _ t470 1 t482 _ ?side1 ?side2 A77.out).mono ?_); (case side1 => repeat (first | exact (Kd.R_reads' HO_460001.out).2.2 | (with_reducible refine Kd.C_alloc ?_ _) | (with_reducible refine Kd.C_drewN ?_ _) | (with_reducible refine Kd.C_drew ?_))); (case side2 => rw [show t470.length = t456.length from (Kd.R_reads' HO_460001.out).1.symm]; exact (Kd.R_reads' HO_460001.out).2.1); rintro e w129 ⟨rfl, hb⟩; refine ⟨_, rfl, ?_⟩; have n0_ := aM (kB (kr HO_450001.out) hb); have n1_ := aM (kB (kr HO_455001.out) hb); have n2_ := aM (kB (kr HO_460001.out) hb); have n3_ := aM (kB (kr HO475.out) hb); have n4_ := aM (kB (kr HO479.out) hb); have n5_ := aM (bB (g := gb439) (o := .cells #[.int .i64 a0_0, .slice A0_1 l0_1.length c0_1] 24 (0, 0)) (bk BK439.out) hb); have n6_ := aM (bB (g := gb449) (o := .cells #[.int .i64 t445, .slice Ao28 t446.length co28] 28 (0, 0)) (bk BK449.out) hb); have n7_ := aM (bB (g := gb454) (o := .cells #[.int .i64 t450, .slice Ao35 t467.length co35] 28 (0, 0)) (bk BK454.out) hb); have n8_ := aM (bB (g := gb459) (o := .cells #[.int .i64 t455, .slice Ao42 t456.length co42] 28 (0, 0)) (bk BK459.out) hb); have n9_ := aM (bB (g := gb480) (o := .cells #[.int .i64 t476, .slice Ao124 t477.length co124] 28 (0, 0)) (bk BK480.out) hb); have n10_ := aM (bS (bl HB.out) hb); clear HO_450001 HO_455001; clear HO_460001 HO475; clear HO479 BK439; clear BK449 BK454; clear BK459 BK480 HB; have HO_450001 := n0_; have HO_455001 := n1_; have HO_460001 := n2_; have HO475 := n3_; have HO479 := n4_; have BK439 := n5_; have BK449 := n6_; have BK454 := n7_; have BK459 := n8_; have BK480 := n9_; have HB := n10_; clear n0_ n1_ n2_ n3_ n4_ n5_ n6_ n7_ n8_ n9_ n10_; (try clear hb)))
   go_ret
   exact ⟨xW, bl HB.out⟩

end Go.Proofs.Ythmijfekdeagpaa.PFnExactDecide

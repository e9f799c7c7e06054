/- Of the proof of laws.FnExactAllOf: a part. No condition beyond what its theorems say. -/
import Derived.Test.YtjaldondohddpaaVFnExactAllOfPx0
import Derived.Test.YtjaldondohddpaaVFnExactAllOfPx3
import Derived.Test.YtjaldondohddpaaVFnExactAllOfPx4
import Derived.Test.YtjaldondohddpaaVFnExactAllOfPx8
import Derived.Test.YtjaldondohddpaaVFnExactAllOfPx10
import Derived.Test.YtjaldondohddpaaVFnExactAllOfPx11
namespace Go.Proofs.Ytjaldondohddpaa.PFnExactAllOf
open Go.RowKit Go.Proofs.YtjaldondohddpaaW.PrintWords Go.Proofs.YtjaldondohddpaaW.PrintLast Go.Proofs.YtjaldondohddpaaW.PrintMore
attribute [local go_sem] max2_int min2_int max_two min_two max_three min_three max_four min_four   -- for this text's walks alone
set_option linter.unusedVariables false
set_option linter.unusedSimpArgs false

mutual
def laws_FnExactAllOf.j0 : Nat → List Int → List (S82) → Int → List Int → List (S82) → Int → Bool → Option (Bool)
 | 0, _, _, _, _, _, _, _ => none
 | k + 1, x0, x3, x4, x5, x6, x7, x37 => if x37 = true then (some false) else ((laws_toByteS.f k x0).bind fun t398 => ((laws_eqByteS.f k x5 t398).bind fun t401 => (if t401 = true then ((laws_markByteS.f k x5 1).bind fun bt402 => (if bt402.1 < 0 then (laws_FnExactAllOf.j1 k x0 x3 x4 x6 true) else ((laws_eqInS.f k x6 x3).bind fun t404 => (if t404 = true then (laws_FnExactAllOf.j1 k x0 x3 x4 x6 (x7 != x4)) else (laws_FnExactAllOf.j1 k x0 x3 x4 x6 true))))) else (some false))))
def laws_FnExactAllOf.j1 : Nat → List Int → List (S82) → Int → List (S82) → Bool → Option (Bool)
 | 0, _, _, _, _, _ => none
 | k + 1, x0, x3, x4, x6, x58 => if x58 = true then (some false) else ((laws_markInS.f k x6 1).bind fun bt405 => ((laws_heldInS.f k bt405.2 1).bind fun t407 => (if t407 < 0 then (some false) else (if t407 = bt405.1 then ((laws_toByteS.f k x0).bind fun t408 => ((impl_AllOf.f k t408).bind fun bt411 => ((laws_eqInS.f k bt411.1 x3).bind fun t415 => (if t415 = true then (laws_FnExactAllOf.j2 k bt405.2 bt405.1 (bt411.2 != x4)) else (laws_FnExactAllOf.j2 k bt405.2 bt405.1 true))))) else (some false)))))
def laws_FnExactAllOf.j2 : Nat → List (S82) → Int → Bool → Option (Bool)
 | 0, _, _, _ => none
 | k + 1, x6, x9, x84 => if x84 = true then (some false) else ((laws_heldInS.f k x6 1).bind fun t416 => (if t416 < 0 then (some false) else (if t416 = x9 then (some true) else (some false))))
end
def laws_FnExactAllOf.f (k : Nat) (l0 : List Int) : Option (Bool) := if (l0.length : Int) > 1048576 then (some true) else ((laws_toByteS.f k l0).bind fun t383 => ((spec_AllOf.f k t383).bind fun bt386 => ((laws_toByteS.f k l0).bind fun t390 => ((impl_AllOf.f k t390).bind fun bt393 => ((laws_eqInS.f k bt393.1 bt386.1).bind fun t397 => (if t397 = true then (laws_FnExactAllOf.j0 k l0 bt386.1 bt386.2 t390 bt393.1 bt393.2 (bt393.2 != bt386.2)) else (laws_FnExactAllOf.j0 k l0 bt386.1 bt386.2 t390 bt393.1 bt393.2 true)))))))
theorem laws_FnExactAllOf.mono_l : ∀ k, (∀ y0 y1 y2 y3 y4 y5 y6, LeO (laws_FnExactAllOf.j0 k y0 y1 y2 y3 y4 y5 y6) (laws_FnExactAllOf.j0 (k + 1) y0 y1 y2 y3 y4 y5 y6)) ∧ (∀ y0 y1 y2 y3 y4, LeO (laws_FnExactAllOf.j1 k y0 y1 y2 y3 y4) (laws_FnExactAllOf.j1 (k + 1) y0 y1 y2 y3 y4)) ∧ (∀ y0 y1 y2, LeO (laws_FnExactAllOf.j2 k y0 y1 y2) (laws_FnExactAllOf.j2 (k + 1) y0 y1 y2))
 | 0 => ⟨fun _ _ _ _ _ _ _ r h => by simp [laws_FnExactAllOf.j0] at h, fun _ _ _ _ _ r h => by simp [laws_FnExactAllOf.j1] at h, fun _ _ _ r h => by simp [laws_FnExactAllOf.j2] at h⟩
 | k + 1 => by
  obtain ⟨ih0, ih1, ih2⟩ := laws_FnExactAllOf.mono_l k
  refine ⟨?_, ?_, ?_⟩
  ·intro y0 y1 y2 y3 y4 y5 y6
   unfold laws_FnExactAllOf.j0
   repeat' first
   | (with_reducible exact ih0 _ _ _ _ _ _ _)
   | (with_reducible exact ih1 _ _ _ _ _)
   | (with_reducible exact ih2 _ _ _)
   | (with_reducible exact impl_AllOf.mono _ _)
   | (with_reducible exact laws_eqByteS.mono _ _ _)
   | (with_reducible exact laws_eqInS.mono _ _ _)
   | (with_reducible exact laws_heldInS.mono _ _ _)
   | (with_reducible exact laws_markByteS.mono _ _ _)
   | (with_reducible exact laws_markInS.mono _ _ _)
   | (with_reducible exact laws_toByteS.mono _ _)
   | (with_reducible exact spec_AllOf.mono _ _)
   | (with_reducible exact LeO.refl _)
   | (with_reducible exact LeO.none _)
   | (with_reducible refine LeO.ite ?_ ?_)
   | (with_reducible refine LeO.bind ?_ (fun _ => ?_))
   | exact ih0 _ _ _ _ _ _ _
   | exact ih1 _ _ _ _ _
   | exact ih2 _ _ _
   | exact impl_AllOf.mono _ _
   | exact laws_eqByteS.mono _ _ _
   | exact laws_eqInS.mono _ _ _
   | exact laws_heldInS.mono _ _ _
   | exact laws_markByteS.mono _ _ _
   | exact laws_markInS.mono _ _ _
   | exact laws_toByteS.mono _ _
   | exact spec_AllOf.mono _ _
   | exact LeO.none _
   | refine LeO.ite ?_ ?_
   | refine LeO.bind ?_ (fun _ => ?_)
  ·intro y0 y1 y2 y3 y4
   unfold laws_FnExactAllOf.j1
   repeat' first
   | (with_reducible exact ih0 _ _ _ _ _ _ _)
   | (with_reducible exact ih1 _ _ _ _ _)
   | (with_reducible exact ih2 _ _ _)
   | (with_reducible exact impl_AllOf.mono _ _)
   | (with_reducible exact laws_eqByteS.mono _ _ _)
   | (with_reducible exact laws_eqInS.mono _ _ _)
   | (with_reducible exact laws_heldInS.mono _ _ _)
   | (with_reducible exact laws_markByteS.mono _ _ _)
   | (with_reducible exact laws_markInS.mono _ _ _)
   | (with_reducible exact laws_toByteS.mono _ _)
   | (with_reducible exact spec_AllOf.mono _ _)
   | (with_reducible exact LeO.refl _)
   | (with_reducible exact LeO.none _)
   | (with_reducible refine LeO.ite ?_ ?_)
   | (with_reducible refine LeO.bind ?_ (fun _ => ?_))
   | exact ih0 _ _ _ _ _ _ _
   | exact ih1 _ _ _ _ _
   | exact ih2 _ _ _
   | exact impl_AllOf.mono _ _
   | exact laws_eqByteS.mono _ _ _
   | exact laws_eqInS.mono _ _ _
   | exact laws_heldInS.mono _ _ _
   | exact laws_markByteS.mono _ _ _
   | exact laws_markInS.mono _ _ _
   | exact laws_toByteS.mono _ _
   | exact spec_AllOf.mono _ _
   | exact LeO.none _
   | refine LeO.ite ?_ ?_
   | refine LeO.bind ?_ (fun _ => ?_)
  ·intro y0 y1 y2
   unfold laws_FnExactAllOf.j2
   repeat' first
   | (with_reducible exact ih0 _ _ _ _ _ _ _)
   | (with_reducible exact ih1 _ _ _ _ _)
   | (with_reducible exact ih2 _ _ _)
   | (with_reducible exact impl_AllOf.mono _ _)
   | (with_reducible exact laws_eqByteS.mono _ _ _)
   | (with_reducible exact laws_eqInS.mono _ _ _)
   | (with_reducible exact laws_heldInS.mono _ _ _)
   | (with_reducible exact laws_markByteS.mono _ _ _)
   | (with_reducible exact laws_markInS.mono _ _ _)
   | (with_reducible exact laws_toByteS.mono _ _)
   | (with_reducible exact spec_AllOf.mono _ _)
   | (with_reducible exact LeO.refl _)
   | (with_reducible exact LeO.none _)
   | (with_reducible refine LeO.ite ?_ ?_)
   | (with_reducible refine LeO.bind ?_ (fun _ => ?_))
   | exact ih0 _ _ _ _ _ _ _
   | exact ih1 _ _ _ _ _
   | exact ih2 _ _ _
   | exact impl_AllOf.mono _ _
   | exact laws_eqByteS.mono _ _ _
   | exact laws_eqInS.mono _ _ _
   | exact laws_heldInS.mono _ _ _
   | exact laws_markByteS.mono _ _ _
   | exact laws_markInS.mono _ _ _
   | exact laws_toByteS.mono _ _
   | exact spec_AllOf.mono _ _
   | exact LeO.none _
   | refine LeO.ite ?_ ?_
   | refine LeO.bind ?_ (fun _ => ?_)
theorem laws_FnExactAllOf.mono : ∀ a0 k, LeO (laws_FnExactAllOf.f k a0) (laws_FnExactAllOf.f (k + 1) a0) := by
 intro a0 k
 obtain ⟨ih0, ih1, ih2⟩ := laws_FnExactAllOf.mono_l k
 unfold laws_FnExactAllOf.f
 repeat' first
   | (with_reducible exact ih0 _ _ _ _ _ _ _)
   | (with_reducible exact ih1 _ _ _ _ _)
   | (with_reducible exact ih2 _ _ _)
   | (with_reducible exact impl_AllOf.mono _ _)
   | (with_reducible exact laws_eqByteS.mono _ _ _)
   | (with_reducible exact laws_eqInS.mono _ _ _)
   | (with_reducible exact laws_heldInS.mono _ _ _)
   | (with_reducible exact laws_markByteS.mono _ _ _)
   | (with_reducible exact laws_markInS.mono _ _ _)
   | (with_reducible exact laws_toByteS.mono _ _)
   | (with_reducible exact spec_AllOf.mono _ _)
   | (with_reducible exact LeO.refl _)
   | (with_reducible exact LeO.none _)
   | (with_reducible refine LeO.ite ?_ ?_)
   | (with_reducible refine LeO.bind ?_ (fun _ => ?_))
   | exact ih0 _ _ _ _ _ _ _
   | exact ih1 _ _ _ _ _
   | exact ih2 _ _ _
   | exact impl_AllOf.mono _ _
   | exact laws_eqByteS.mono _ _ _
   | exact laws_eqInS.mono _ _ _
   | exact laws_heldInS.mono _ _ _
   | exact laws_markByteS.mono _ _ _
   | exact laws_markInS.mono _ _ _
   | exact laws_toByteS.mono _ _
   | exact spec_AllOf.mono _ _
   | exact LeO.none _
   | refine LeO.ite ?_ ?_
   | refine LeO.bind ?_ (fun _ => ?_)
set_option maxHeartbeats 60000000 in
set_option maxRecDepth 100000 in
theorem laws_FnExactAllOf.calls (k : Nat) (A0 : Option Addr) (c0 : Nat) (l0 : List Int) (r : Bool) (w : World) (hr0 : Kd.C (Kd.int .u8) w A0 l0.length l0) (hc0 : l0.length ≤ c0) (h : laws_FnExactAllOf.f k l0 = some r) :
  Calls Try.prog 9 #[.slice A0 l0.length c0] w fun e w' => e = .returned (.bool r) ∧ Below w.heap.size w w' := by
 have HR0 := aM hr0
 have HC0 := aM hc0
 clear hr0 hc0
 have HB := aM (Below.refl w.heap.size w)
 have H : (if (l0.length : Int) > 1048576 then (some true) else ((laws_toByteS.f k l0).bind fun t383 => ((spec_AllOf.f k t383).bind fun bt386 => ((laws_toByteS.f k l0).bind fun t390 => ((impl_AllOf.f k t390).bind fun bt393 => ((laws_eqInS.f k bt393.1 bt386.1).bind fun t397 => (if t397 = true then (laws_FnExactAllOf.j0 k l0 bt386.1 bt386.2 t390 bt393.1 bt393.2 (bt393.2 != bt386.2)) else (laws_FnExactAllOf.j0 k l0 bt386.1 bt386.2 t390 bt393.1 bt393.2 true)))))))) = some r := h
 clear h
 by_cases c2 : (l0.length : Int) > 1048576
 case pos =>
  rw [if_pos c2] at H
  have c2b0 : decide (1048576 < (l0.length : Int)) = true := decide_eq_true c2
  have c2b1 : decide (1048576 < l0.length) = true := decide_eq_true (by omega)
  clear c2
  obtain rfl := Option.some.inj H
  go_enter Try.func9, Try.ntmps9
  go_wp2
  go_ret
  exact ⟨xW, bl HB.out⟩
 rw [if_neg c2] at H
 have c2b0 : decide (1048576 < (l0.length : Int)) = false := decide_eq_false c2
 have c2b1 : decide (1048576 < l0.length) = false := decide_eq_false (by omega)
 clear c2
 replace H := Option.bind_eq_some_iff.mp H
 obtain ⟨t383, A30, H⟩ := H
 replace H : ((spec_AllOf.f k t383).bind fun bt386 => ((laws_toByteS.f k l0).bind fun t390 => ((impl_AllOf.f k t390).bind fun bt393 => ((laws_eqInS.f k bt393.1 bt386.1).bind fun t397 => (if t397 = true then (laws_FnExactAllOf.j0 k l0 bt386.1 bt386.2 t390 bt393.1 bt393.2 (bt393.2 != bt386.2)) else (laws_FnExactAllOf.j0 k l0 bt386.1 bt386.2 t390 bt393.1 bt393.2 true)))))) = some r := H
 have A3 := aM A30
 clear A30
 replace H := Option.bind_eq_some_iff.mp H
 obtain ⟨⟨t386, t387⟩, A40, H⟩ := H
 replace H : ((laws_toByteS.f k l0).bind fun t390 => ((impl_AllOf.f k t390).bind fun bt393 => ((laws_eqInS.f k bt393.1 t386).bind fun t397 => (if t397 = true then (laws_FnExactAllOf.j0 k l0 t386 t387 t390 bt393.1 bt393.2 (bt393.2 != t387)) else (laws_FnExactAllOf.j0 k l0 t386 t387 t390 bt393.1 bt393.2 true))))) = some r := H
 have A4 := aM A40
 clear A40
 replace H := Option.bind_eq_some_iff.mp H
 obtain ⟨t390, A50, H⟩ := H
 replace H : ((impl_AllOf.f k t390).bind fun bt393 => ((laws_eqInS.f k bt393.1 t386).bind fun t397 => (if t397 = true then (laws_FnExactAllOf.j0 k l0 t386 t387 t390 bt393.1 bt393.2 (bt393.2 != t387)) else (laws_FnExactAllOf.j0 k l0 t386 t387 t390 bt393.1 bt393.2 true)))) = some r := H
 have A5 := aM A50
 clear A50
 replace H := Option.bind_eq_some_iff.mp H
 obtain ⟨⟨t393, t394⟩, A60, H⟩ := H
 replace H : ((laws_eqInS.f k t393 t386).bind fun t397 => (if t397 = true then (laws_FnExactAllOf.j0 k l0 t386 t387 t390 t393 t394 (t394 != t387)) else (laws_FnExactAllOf.j0 k l0 t386 t387 t390 t393 t394 true))) = some r := H
 have A6 := aM A60
 clear A60
 have HC7 := aM H
 clear H
 go_enter Try.func9, Try.ntmps9
 go_upto_region 6 with (first | ((with_reducible refine gate_callee (f := 59) rfl ?_); refine goesL_ (some 18) rfl rfl Try.func59 (by kernel_rfl) rfl #[.slice A0 l0.length c0] rfl xR ?_; (with_reducible refine (laws_toByteS.calls k _ _ l0 t383 _ ?side1 ?side2 A3.out).mono ?_); (case side1 => repeat (first | exact HR0.out | (with_reducible refine Kd.C_alloc ?_ _) | (with_reducible refine Kd.C_drewN ?_ _) | (with_reducible refine Kd.C_drew ?_))); (case side2 => exact HC0.out); rintro e w8 ⟨v384, rfl, ho0, hb⟩; refine ⟨_, rfl, ?_⟩; have n0_ := aM (Kd.R_lower ho0 (below_size (bl HB.out))); have n1_ := aM (bS (bl HB.out) hb); clear HB; have HO385 := n0_; have HB := n1_; clear n0_ n1_; (try clear hb); (try clear ho0); obtain ⟨Ao9, co9, eo9⟩ := Kd.R_slice HO385.out; subst eo9) | ((with_reducible refine gate_callee (f := 62) rfl ?_); refine goesL_ (some 19) rfl rfl Try.func62 (by kernel_rfl) rfl #[.slice Ao9 t383.length co9] rfl xR ?_; (with_reducible refine (spec_AllOf.calls k _ _ t383 t386 t387 _ ?side1 ?side2 A4.out).mono ?_); (case side1 => repeat (first | exact (Kd.R_reads' HO385.out).2.2 | (with_reducible refine Kd.C_alloc ?_ _) | (with_reducible refine Kd.C_drewN ?_ _) | (with_reducible refine Kd.C_drew ?_))); (case side2 => exact (Kd.R_reads' HO385.out).2.1); rintro e w10 ⟨v388, rfl, ho0, hb⟩; refine ⟨_, rfl, ?_⟩; have n0_ := aM (kB (kr HO385.out) hb); have n1_ := aM (Kd.R_lower ho0 (below_size (bl HB.out))); have n2_ := aM (bS (bl HB.out) hb); clear HO385 HB; have HO385 := n0_; have HO389 := n1_; have HB := n2_; clear n0_ n1_ n2_; (try clear hb); (try clear ho0)) | ((with_reducible refine gate_callee (f := 59) rfl ?_); refine goesL_ (some 23) rfl rfl Try.func59 (by kernel_rfl) rfl #[.slice A0 l0.length c0] rfl xR ?_; (with_reducible refine (laws_toByteS.calls k _ _ l0 t390 _ ?side1 ?side2 A5.out).mono ?_); (case side1 => repeat (first | exact (cB HR0.out HB.out) | (with_reducible refine Kd.C_alloc ?_ _) | (with_reducible refine Kd.C_drewN ?_ _) | (with_reducible refine Kd.C_drew ?_))); (case side2 => exact HC0.out); rintro e w11 ⟨v391, rfl, ho0, hb⟩; refine ⟨_, rfl, ?_⟩; have n0_ := aM (Kd.R_elder' (kr HO385.out) (Kd.R_base ho0) hb); have n1_ := aM (kB (kr HO389.out) hb); have n2_ := aM (Kd.R_lower (Kd.R_new' ho0 (Kd.R_lt (kr HO385.out))) (below_size (bl HB.out))); have n3_ := aM (bS (bl HB.out) hb); clear HO385 HO389 HB; have HO385 := n0_; have HO389 := n1_; have HO392 := n2_; have HB := n3_; clear n0_ n1_ n2_ n3_; (try clear hb); (try clear ho0); obtain ⟨Ao12, co12, eo12⟩ := Kd.R_slice HO392.out; subst eo12) | ((with_reducible refine gate_callee (f := 63) rfl ?_); refine goesL_ (some 26) rfl rfl Try.func63 (by kernel_rfl) rfl #[.slice Ao12 t390.length co12] rfl xR ?_; (with_reducible refine (impl_AllOf.calls k _ _ t390 t393 t394 _ ?side1 ?side2 A6.out).mono ?_); (case side1 => repeat (first | exact (Kd.R_reads' HO392.out).2.2 | (with_reducible refine Kd.C_alloc ?_ _) | (with_reducible refine Kd.C_drewN ?_ _) | (with_reducible refine Kd.C_drew ?_))); (case side2 => exact (Kd.R_reads' HO392.out).2.1); rintro e w13 ⟨v395, rfl, ho0, hb⟩; refine ⟨_, rfl, ?_⟩; have n0_ := aM (kB (kr HO385.out) hb); have n1_ := aM (Kd.R_elder' (kr HO389.out) (Kd.R_base ho0) hb); have n2_ := aM (kB (kr HO392.out) hb); have n3_ := aM (Kd.R_lower (Kd.R_new' ho0 (Kd.R_lt (kr HO389.out))) (below_size (bl HB.out))); have n4_ := aM (bS (bl HB.out) hb); clear HO385 HO389; clear HO392 HB; have HO385 := n0_; have HO389 := n1_; have HO392 := n2_; have HO396 := n3_; have HB := n4_; clear n0_ n1_ n2_ n3_ n4_; (try clear hb); (try clear ho0)))
 (try simp only [Act.put, sA, sZ, sS])
 go_cut [37] (fun v37 wc => ∃ (kq : Nat) (x37_6 : Bool), v37 = .bool x37_6 ∧ Aside0 (laws_FnExactAllOf.j0 kq l0 t386 t387 t390 t393 t394 x37_6 = some r) ∧ Aside0 (kq ≤ k) ∧ Aside0 (Kd.R k82 82 wc w.heap.size (fun k_ => some k_ ≠ (v395 : Value).ownBlock) v388 t386) ∧ Aside0 (Kd.R (Kd.int .u8) 5 wc w.heap.size (fun _ => True) (.slice Ao12 t390.length co12) t390) ∧ Aside0 (Kd.R k82 82 wc w.heap.size (fun k_ => some k_ ≠ (v388 : Value).ownBlock) v395 t393) ∧ Aside0 (Below w.heap.size w wc))
 case first =>
  have H := HC7.out
  clear HC7
  replace H := Option.bind_eq_some_iff.mp H
  obtain ⟨t397, A140, H⟩ := H
  replace H : (if t397 = true then (laws_FnExactAllOf.j0 k l0 t386 t387 t390 t393 t394 (t394 != t387)) else (laws_FnExactAllOf.j0 k l0 t386 t387 t390 t393 t394 true)) = some r := H
  have A14 := aM A140
  clear A140
  by_cases c15 : t397 = true
  case pos =>
   subst c15
   have H1 : (laws_FnExactAllOf.j0 k l0 t386 t387 t390 t393 t394 (t394 != t387)) = some r := by rw [if_pos rfl] at H; exact H
   clear H
   have H := H1
   clear H1
   have H' := aM H
   clear H
   obtain ⟨Ao16, co16, eo16⟩ := Kd.R_slice HO396.out
   subst eo16
   obtain ⟨Ao17, co17, eo17⟩ := Kd.R_slice HO389.out
   subst eo17
   go_wp2_with (first | ((with_reducible refine gate_callee (f := 45) rfl ?_); refine goesL_ (some 31) rfl rfl Try.func45 (by kernel_rfl) rfl #[.slice Ao16 t393.length co16, .slice Ao17 t386.length co17] rfl xR ?_; (with_reducible refine (laws_eqInS.calls k _ _ t393 _ _ t386 true _ ?side1 ?side2 ?side3 ?side4 A14.out).mono ?_); (case side1 => repeat (first | exact (Kd.R_reads' HO396.out).2.2 | (with_reducible refine Kd.C_alloc ?_ _) | (with_reducible refine Kd.C_drewN ?_ _) | (with_reducible refine Kd.C_drew ?_))); (case side2 => exact (Kd.R_reads' HO396.out).2.1); (case side3 => repeat (first | exact (Kd.R_reads' HO389.out).2.2 | (with_reducible refine Kd.C_alloc ?_ _) | (with_reducible refine Kd.C_drewN ?_ _) | (with_reducible refine Kd.C_drew ?_))); (case side4 => exact (Kd.R_reads' HO389.out).2.1); rintro e w18 ⟨rfl, hb⟩; refine ⟨_, rfl, ?_⟩; have n0_ := aM (kB (kr HO385.out) hb); have n1_ := aM (kB (kr HO389.out) hb); have n2_ := aM (kB (kr HO392.out) hb); have n3_ := aM (kB (kr HO396.out) hb); have n4_ := aM (bS (bl HB.out) hb); clear HO385 HO389; clear HO392 HO396 HB; have HO385 := n0_; have HO389 := n1_; have HO392 := n2_; have HO396 := n3_; have HB := n4_; clear n0_ n1_ n2_ n3_ n4_; (try clear hb)))
   go_meet
   case rel => exact ⟨_, ((t394 != t387)), xE, H', ⟨by first | omega | exact Nat.le_refl _⟩, ⟨kr (Kd.R_mono HO389.out (fun _ hk => hk.2))⟩, ⟨kr (Kd.R_mono HO392.out (fun _ hk => trivial))⟩, ⟨kr (Kd.R_mono HO396.out (fun _ hk => hk.2))⟩, ⟨bl HB.out⟩⟩
  replace c15 := Bool.eq_false_iff.mpr c15
  subst c15
  have H1 : (laws_FnExactAllOf.j0 k l0 t386 t387 t390 t393 t394 true) = some r := by rw [if_neg (show ¬ (false = true) by decide)] at H; exact H
  clear H
  have H := H1
  clear H1
  have H' := aM H
  clear H
  obtain ⟨Ao19, co19, eo19⟩ := Kd.R_slice HO396.out
  subst eo19
  obtain ⟨Ao20, co20, eo20⟩ := Kd.R_slice HO389.out
  subst eo20
  go_wp2_with (first | ((with_reducible refine gate_callee (f := 45) rfl ?_); refine goesL_ (some 31) rfl rfl Try.func45 (by kernel_rfl) rfl #[.slice Ao19 t393.length co19, .slice Ao20 t386.length co20] rfl xR ?_; (with_reducible refine (laws_eqInS.calls k _ _ t393 _ _ t386 false _ ?side1 ?side2 ?side3 ?side4 A14.out).mono ?_); (case side1 => repeat (first | exact (Kd.R_reads' HO396.out).2.2 | (with_reducible refine Kd.C_alloc ?_ _) | (with_reducible refine Kd.C_drewN ?_ _) | (with_reducible refine Kd.C_drew ?_))); (case side2 => exact (Kd.R_reads' HO396.out).2.1); (case side3 => repeat (first | exact (Kd.R_reads' HO389.out).2.2 | (with_reducible refine Kd.C_alloc ?_ _) | (with_reducible refine Kd.C_drewN ?_ _) | (with_reducible refine Kd.C_drew ?_))); (case side4 => exact (Kd.R_reads' HO389.out).2.1); rintro e w21 ⟨rfl, hb⟩; refine ⟨_, rfl, ?_⟩; have n0_ := aM (kB (kr HO385.out) hb); have n1_ := aM (kB (kr HO389.out) hb); have n2_ := aM (kB (kr HO392.out) hb); have n3_ := aM (kB (kr HO396.out) hb); have n4_ := aM (bS (bl HB.out) hb); clear HO385 HO389; clear HO392 HO396 HB; have HO385 := n0_; have HO389 := n1_; have HO392 := n2_; have HO396 := n3_; have HB := n4_; clear n0_ n1_ n2_ n3_ n4_; (try clear hb)))
  go_meet
  case rel => exact ⟨_, (true), xE, H', ⟨by first | omega | exact Nat.le_refl _⟩, ⟨kr (Kd.R_mono HO389.out (fun _ hk => hk.2))⟩, ⟨kr (Kd.R_mono HO392.out (fun _ hk => trivial))⟩, ⟨kr (Kd.R_mono HO396.out (fun _ hk => hk.2))⟩, ⟨bl HB.out⟩⟩
 case rest =>
  clear HC7
  try clear c1
  try clear c2
  try clear c2b0
  try clear c2b1
  try clear p2
  try clear c4
  try clear c5
  try clear c6
  try clear c9
  try clear c15
  obtain ⟨kq, x37_6, rfl, HA, HJ6, HO_3, HO_5, HO_6, HB⟩ := hcut
  cases kq with
  | zero => exact absurd HA.out (by simp [laws_FnExactAllOf.j0])
  | succ kj6 =>
   have H := HA.out
   clear HA
   simp only [laws_FnExactAllOf.j0] at H
   by_cases c22 : x37_6 = true
   case pos =>
    subst c22
    have H1 : (some false) = some r := by rw [if_pos rfl] at H; exact H
    clear H
    have H := H1
    clear H1
    obtain rfl := Option.some.inj H
    go_wp2
    go_ret
    exact ⟨xW, bl HB.out⟩
   replace c22 := Bool.eq_false_iff.mpr c22
   subst c22
   have H1 : ((laws_toByteS.f kj6 l0).bind fun t398 => ((laws_eqByteS.f kj6 t390 t398).bind fun t401 => (if t401 = true then ((laws_markByteS.f kj6 t390 1).bind fun bt402 => (if bt402.1 < 0 then (laws_FnExactAllOf.j1 kj6 l0 t386 t387 t393 true) else ((laws_eqInS.f kj6 t393 t386).bind fun t404 => (if t404 = true then (laws_FnExactAllOf.j1 kj6 l0 t386 t387 t393 (t394 != t387)) else (laws_FnExactAllOf.j1 kj6 l0 t386 t387 t393 true))))) else (some false)))) = some r := by rw [if_neg (show ¬ (false = true) by decide)] at H; exact H
   clear H
   have H := H1
   clear H1
   replace H := Option.bind_eq_some_iff.mp H
   obtain ⟨t398, A230, H⟩ := H
   replace H : ((laws_eqByteS.f kj6 t390 t398).bind fun t401 => (if t401 = true then ((laws_markByteS.f kj6 t390 1).bind fun bt402 => (if bt402.1 < 0 then (laws_FnExactAllOf.j1 kj6 l0 t386 t387 t393 true) else ((laws_eqInS.f kj6 t393 t386).bind fun t404 => (if t404 = true then (laws_FnExactAllOf.j1 kj6 l0 t386 t387 t393 (t394 != t387)) else (laws_FnExactAllOf.j1 kj6 l0 t386 t387 t393 true))))) else (some false))) = some r := H
   have A23 := aM A230
   clear A230
   replace H := Option.bind_eq_some_iff.mp H
   obtain ⟨t401, A240, H⟩ := H
   replace H : (if t401 = true then ((laws_markByteS.f kj6 t390 1).bind fun bt402 => (if bt402.1 < 0 then (laws_FnExactAllOf.j1 kj6 l0 t386 t387 t393 true) else ((laws_eqInS.f kj6 t393 t386).bind fun t404 => (if t404 = true then (laws_FnExactAllOf.j1 kj6 l0 t386 t387 t393 (t394 != t387)) else (laws_FnExactAllOf.j1 kj6 l0 t386 t387 t393 true))))) else (some false)) = some r := H
   have A24 := aM A240
   clear A240
   by_cases c25 : t401 = true
   case neg =>
    replace c25 := Bool.eq_false_iff.mpr c25
    subst c25
    have H1 : (some false) = some r := by rw [if_neg (show ¬ (false = true) by decide)] at H; exact H
    clear H
    have H := H1
    clear H1
    obtain rfl := Option.some.inj H
    go_wp2_with (first | ((with_reducible refine gate_callee (f := 59) rfl ?_); refine goesL_ (some 40) rfl rfl Try.func59 (by kernel_rfl) rfl #[.slice A0 l0.length c0] rfl xR ?_; (with_reducible refine (laws_toByteS.calls kj6 _ _ l0 t398 _ ?side1 ?side2 A23.out).mono ?_); (case side1 => repeat (first | exact (cB HR0.out HB.out) | (with_reducible refine Kd.C_alloc ?_ _) | (with_reducible refine Kd.C_drewN ?_ _) | (with_reducible refine Kd.C_drew ?_))); (case side2 => exact HC0.out); rintro e w69 ⟨v399, rfl, ho0, hb⟩; refine ⟨_, rfl, ?_⟩; have n0_ := aM (kB (kr HO_3.out) hb); have n1_ := aM (Kd.R_elder' (kr HO_5.out) (Kd.R_base ho0) hb); have n2_ := aM (kB (kr HO_6.out) hb); have n3_ := aM (Kd.R_lower (Kd.R_new' ho0 (Kd.R_lt (kr HO_5.out))) (below_size (bl HB.out))); have n4_ := aM (bS (bl HB.out) hb); clear HO_3 HO_5; clear HO_6 HB; have HO_3 := n0_; have HO_5 := n1_; have HO_6 := n2_; have HO400 := n3_; have HB := n4_; clear n0_ n1_ n2_ n3_ n4_; (try clear hb); (try clear ho0); obtain ⟨Ao70, co70, eo70⟩ := Kd.R_slice HO400.out; subst eo70) | ((with_reducible refine gate_callee (f := 44) rfl ?_); refine goesL_ (some 41) rfl rfl Try.func44 (by kernel_rfl) rfl #[.slice Ao12 t390.length co12, .slice Ao70 t398.length co70] rfl xR ?_; (with_reducible refine (laws_eqByteS.calls kj6 _ _ t390 _ _ t398 false _ ?side1 ?side2 ?side3 ?side4 A24.out).mono ?_); (case side1 => repeat (first | exact (Kd.R_reads' HO_5.out).2.2 | (with_reducible refine Kd.C_alloc ?_ _) | (with_reducible refine Kd.C_drewN ?_ _) | (with_reducible refine Kd.C_drew ?_))); (case side2 => exact (Kd.R_reads' HO_5.out).2.1); (case side3 => repeat (first | exact (Kd.R_reads' HO400.out).2.2 | (with_reducible refine Kd.C_alloc ?_ _) | (with_reducible refine Kd.C_drewN ?_ _) | (with_reducible refine Kd.C_drew ?_))); (case side4 => exact (Kd.R_reads' HO400.out).2.1); rintro e w' ⟨rfl, ⟨nd, rfl⟩⟩; refine ⟨_, rfl, ?_⟩))
    go_ret
    exact ⟨xW, bl HB.out⟩
   subst c25
   have H1 : ((laws_markByteS.f kj6 t390 1).bind fun bt402 => (if bt402.1 < 0 then (laws_FnExactAllOf.j1 kj6 l0 t386 t387 t393 true) else ((laws_eqInS.f kj6 t393 t386).bind fun t404 => (if t404 = true then (laws_FnExactAllOf.j1 kj6 l0 t386 t387 t393 (t394 != t387)) else (laws_FnExactAllOf.j1 kj6 l0 t386 t387 t393 true))))) = some r := by rw [if_pos rfl] at H; exact H
   clear H
   have H := H1
   clear H1
   replace H := Option.bind_eq_some_iff.mp H
   obtain ⟨⟨t402, t403⟩, A260, H⟩ := H
   replace H : (if t402 < 0 then (laws_FnExactAllOf.j1 kj6 l0 t386 t387 t393 true) else ((laws_eqInS.f kj6 t393 t386).bind fun t404 => (if t404 = true then (laws_FnExactAllOf.j1 kj6 l0 t386 t387 t393 (t394 != t387)) else (laws_FnExactAllOf.j1 kj6 l0 t386 t387 t393 true)))) = some r := H
   have A26 := aM A260
   clear A260
   have HC27 := aM H
   clear H
   go_upto_region 12 with (first | ((with_reducible refine gate_callee (f := 59) rfl ?_); refine goesL_ (some 40) rfl rfl Try.func59 (by kernel_rfl) rfl #[.slice A0 l0.length c0] rfl xR ?_; (with_reducible refine (laws_toByteS.calls kj6 _ _ l0 t398 _ ?side1 ?side2 A23.out).mono ?_); (case side1 => repeat (first | exact (cB HR0.out HB.out) | (with_reducible refine Kd.C_alloc ?_ _) | (with_reducible refine Kd.C_drewN ?_ _) | (with_reducible refine Kd.C_drew ?_))); (case side2 => exact HC0.out); rintro e w28 ⟨v399, rfl, ho0, hb⟩; refine ⟨_, rfl, ?_⟩; have n0_ := aM (kB (kr HO_3.out) hb); have n1_ := aM (Kd.R_elder' (kr HO_5.out) (Kd.R_base ho0) hb); have n2_ := aM (kB (kr HO_6.out) hb); have n3_ := aM (Kd.R_lower (Kd.R_new' ho0 (Kd.R_lt (kr HO_5.out))) (below_size (bl HB.out))); have n4_ := aM (bS (bl HB.out) hb); clear HO_3 HO_5; clear HO_6 HB; have HO_3 := n0_; have HO_5 := n1_; have HO_6 := n2_; have HO400 := n3_; have HB := n4_; clear n0_ n1_ n2_ n3_ n4_; (try clear hb); (try clear ho0); obtain ⟨Ao29, co29, eo29⟩ := Kd.R_slice HO400.out; subst eo29) | ((with_reducible refine gate_callee (f := 44) rfl ?_); refine goesL_ (some 41) rfl rfl Try.func44 (by kernel_rfl) rfl #[.slice Ao12 t390.length co12, .slice Ao29 t398.length co29] rfl xR ?_; (with_reducible refine (laws_eqByteS.calls kj6 _ _ t390 _ _ t398 true _ ?side1 ?side2 ?side3 ?side4 A24.out).mono ?_); (case side1 => repeat (first | exact (Kd.R_reads' HO_5.out).2.2 | (with_reducible refine Kd.C_alloc ?_ _) | (with_reducible refine Kd.C_drewN ?_ _) | (with_reducible refine Kd.C_drew ?_))); (case side2 => exact (Kd.R_reads' HO_5.out).2.1); (case side3 => repeat (first | exact (Kd.R_reads' HO400.out).2.2 | (with_reducible refine Kd.C_alloc ?_ _) | (with_reducible refine Kd.C_drewN ?_ _) | (with_reducible refine Kd.C_drew ?_))); (case side4 => exact (Kd.R_reads' HO400.out).2.1); rintro e w' ⟨rfl, ⟨nd, rfl⟩⟩; refine ⟨_, rfl, ?_⟩) | ((with_reducible refine gate_callee (f := 47) rfl ?_); refine goesL_ (some 45) rfl rfl Try.func47 (by kernel_rfl) rfl #[.slice Ao12 t390.length co12, .int .i64 1] rfl xR ?_; (with_reducible refine (laws_markByteS.calls kj6 (fun k_ => some k_ = (.slice Ao12 t390.length co12 : Value).ownBlock) (.slice Ao12 t390.length co12) t390 1 t402 t403 w _ ?side1 ?side2 A26.out).mono ?_); (case side1 => repeat (first | (with_reducible first | exact HB.out | apply below_alloc | apply pw_below_drewN | apply below_drew1) | exact HB.out)); (case side2 => exact Kd.R_tight rfl HO_5.out); rintro e w30 ⟨rfl, hy0, hb, hkp⟩; refine ⟨_, rfl, ?_⟩; have n0_ := aM (Kd.R_mono (ok' := fun k_ => some k_ ≠ (v395 : Value).ownBlock) (Kd.R_keptB ((Kd.R_apart' HO_3.out (Kd.R_typed HO_5.out) (by decide))) hkp (fun k_ hk_ hs_ => (hk_.2) hs_)) (fun k_ hk_ => hk_.1.1)); have n1_ := aM (Kd.R_reok rfl hy0 (fun k_ e_ => HO_5.out.1 k_ e_)); have n2_ := aM (Kd.R_mono (ok' := fun k_ => some k_ ≠ (v388 : Value).ownBlock) (Kd.R_keptB ((Kd.R_apart' HO_6.out (Kd.R_typed HO_5.out) (by decide))) hkp (fun k_ hk_ hs_ => (hk_.2) hs_)) (fun k_ hk_ => hk_.1.1)); have n3_ := aM (Kd.R_mono (ok' := fun k_ => some k_ ≠ (.slice Ao12 t390.length co12 : Value).ownBlock) (Kd.R_keptB (HO400.out) hkp (fun k_ hk_ hs_ => (hk_.2) hs_)) (fun k_ hk_ => hk_.1.2)); have n4_ := aM (hb); clear HO_3 HO_5; clear HO_6 HO400 HB; have HO_3 := n0_; have HO_5 := n1_; have HO_6 := n2_; have HO400 := n3_; have HB := n4_; clear n0_ n1_ n2_ n3_ n4_; (try clear hb); (try clear hkp); (try clear hy0)))
   (try simp only [Act.put, sA, sZ, sS])
   go_cut [58] (fun v58 wc => ∃ (kq : Nat) (x58_26 : Bool), v58 = .bool x58_26 ∧ Aside0 (laws_FnExactAllOf.j1 kq l0 t386 t387 t393 x58_26 = some r) ∧ Aside0 (kq ≤ kj6) ∧ Aside0 (Kd.R k82 82 wc w.heap.size (fun k_ => some k_ ≠ (v395 : Value).ownBlock) v388 t386) ∧ Aside0 (Kd.R k82 82 wc w.heap.size (fun k_ => some k_ ≠ (v388 : Value).ownBlock) v395 t393) ∧ Aside0 (Below w.heap.size w wc))
   case first =>
    have H := HC27.out
    clear HC27
    by_cases c31 : t402 < 0
    case pos =>
     rw [if_pos c31] at H
     have c31b0 : decide (t402 < 0) = true := decide_eq_true c31
     clear c31
     (first | rw [c31b0] | (simp only [i64_w, i32_w]; rw [c31b0]) | skip)
     have H' := aM H
     clear H
     go_wp2
     go_meet
     case rel => exact ⟨_, (true), xE, H', ⟨by have := HJ6.out; first | omega | exact Nat.le_refl _⟩, ⟨kr HO_3.out⟩, ⟨kr HO_6.out⟩, ⟨bl HB.out⟩⟩
    rw [if_neg c31] at H
    have c31b0 : decide (t402 < 0) = false := decide_eq_false c31
    clear c31
    (first | rw [c31b0] | (simp only [i64_w, i32_w]; rw [c31b0]) | skip)
    replace H := Option.bind_eq_some_iff.mp H
    obtain ⟨t404, A320, H⟩ := H
    replace H : (if t404 = true then (laws_FnExactAllOf.j1 kj6 l0 t386 t387 t393 (t394 != t387)) else (laws_FnExactAllOf.j1 kj6 l0 t386 t387 t393 true)) = some r := H
    have A32 := aM A320
    clear A320
    by_cases c33 : t404 = true
    case pos =>
     subst c33
     have H1 : (laws_FnExactAllOf.j1 kj6 l0 t386 t387 t393 (t394 != t387)) = some r := by rw [if_pos rfl] at H; exact H
     clear H
     have H := H1
     clear H1
     have H' := aM H
     clear H
     obtain ⟨Ao34, co34, eo34⟩ := Kd.R_slice HO_6.out
     subst eo34
     obtain ⟨Ao35, co35, eo35⟩ := Kd.R_slice HO_3.out
     subst eo35
     go_wp2_with (first | (go_at_call 45; (with_reducible refine (laws_eqInS.calls kj6 _ _ t393 _ _ t386 true _ ?side1 ?side2 ?side3 ?side4 A32.out).mono ?_); (case side1 => repeat (first | exact (Kd.R_reads' HO_6.out).2.2 | (with_reducible refine Kd.C_alloc ?_ _) | (with_reducible refine Kd.C_drewN ?_ _) | (with_reducible refine Kd.C_drew ?_))); (case side2 => exact (Kd.R_reads' HO_6.out).2.1); (case side3 => repeat (first | exact (Kd.R_reads' HO_3.out).2.2 | (with_reducible refine Kd.C_alloc ?_ _) | (with_reducible refine Kd.C_drewN ?_ _) | (with_reducible refine Kd.C_drew ?_))); (case side4 => exact (Kd.R_reads' HO_3.out).2.1); rintro e w36 ⟨rfl, hb⟩; have n0_ := aM (kB (kr HO_3.out) hb); have n1_ := aM (kB (kr HO_5.out) hb); have n2_ := aM (kB (kr HO_6.out) hb); have n3_ := aM (kB (kr HO400.out) hb); have n4_ := aM (bS (bl HB.out) hb); clear HO_3 HO_5; clear HO_6 HO400 HB; have HO_3 := n0_; have HO_5 := n1_; have HO_6 := n2_; have HO400 := n3_; have HB := n4_; clear n0_ n1_ n2_ n3_ n4_; (try clear hb)))
     go_meet
     case rel => exact ⟨_, ((t394 != t387)), xE, H', ⟨by have := HJ6.out; first | omega | exact Nat.le_refl _⟩, ⟨kr HO_3.out⟩, ⟨kr HO_6.out⟩, ⟨bl HB.out⟩⟩
    replace c33 := Bool.eq_false_iff.mpr c33
    subst c33
    have H1 : (laws_FnExactAllOf.j1 kj6 l0 t386 t387 t393 true) = some r := by rw [if_neg (show ¬ (false = true) by decide)] at H; exact H
    clear H
    have H := H1
    clear H1
    have H' := aM H
    clear H
    obtain ⟨Ao37, co37, eo37⟩ := Kd.R_slice HO_6.out
    subst eo37
    obtain ⟨Ao38, co38, eo38⟩ := Kd.R_slice HO_3.out
    subst eo38
    go_wp2_with (first | (go_at_call 45; (with_reducible refine (laws_eqInS.calls kj6 _ _ t393 _ _ t386 false _ ?side1 ?side2 ?side3 ?side4 A32.out).mono ?_); (case side1 => repeat (first | exact (Kd.R_reads' HO_6.out).2.2 | (with_reducible refine Kd.C_alloc ?_ _) | (with_reducible refine Kd.C_drewN ?_ _) | (with_reducible refine Kd.C_drew ?_))); (case side2 => exact (Kd.R_reads' HO_6.out).2.1); (case side3 => repeat (first | exact (Kd.R_reads' HO_3.out).2.2 | (with_reducible refine Kd.C_alloc ?_ _) | (with_reducible refine Kd.C_drewN ?_ _) | (with_reducible refine Kd.C_drew ?_))); (case side4 => exact (Kd.R_reads' HO_3.out).2.1); rintro e w39 ⟨rfl, hb⟩; have n0_ := aM (kB (kr HO_3.out) hb); have n1_ := aM (kB (kr HO_5.out) hb); have n2_ := aM (kB (kr HO_6.out) hb); have n3_ := aM (kB (kr HO400.out) hb); have n4_ := aM (bS (bl HB.out) hb); clear HO_3 HO_5; clear HO_6 HO400 HB; have HO_3 := n0_; have HO_5 := n1_; have HO_6 := n2_; have HO400 := n3_; have HB := n4_; clear n0_ n1_ n2_ n3_ n4_; (try clear hb)))
    go_meet
    case rel => exact ⟨_, (true), xE, H', ⟨by have := HJ6.out; first | omega | exact Nat.le_refl _⟩, ⟨kr HO_3.out⟩, ⟨kr HO_6.out⟩, ⟨bl HB.out⟩⟩
   case rest =>
    clear HC27
    try clear c1
    try clear c2
    try clear c2b0
    try clear c2b1
    try clear p2
    try clear c3
    try clear c4
    try clear c5
    try clear c6
    try clear c9
    try clear c15
    try clear c22
    try clear c25
    try clear c31
    try clear c31b0
    try clear c33
    try clear p2
    obtain ⟨kq, x58_26, rfl, HA, HJ26, HO_3, HO_6, HB⟩ := hcut
    cases kq with
    | zero => exact absurd HA.out (by simp [laws_FnExactAllOf.j1])
    | succ kj26 =>
     have H := HA.out
     clear HA
     simp only [laws_FnExactAllOf.j1] at H
     by_cases c40 : x58_26 = true
     case pos =>
      subst c40
      have H1 : (some false) = some r := by rw [if_pos rfl] at H; exact H
      clear H
      have H := H1
      clear H1
      obtain rfl := Option.some.inj H
      go_wp2
      go_ret
      exact ⟨xW, bl HB.out⟩
     replace c40 := Bool.eq_false_iff.mpr c40
     subst c40
     have H1 : ((laws_markInS.f kj26 t393 1).bind fun bt405 => ((laws_heldInS.f kj26 bt405.2 1).bind fun t407 => (if t407 < 0 then (some false) else (if t407 = bt405.1 then ((laws_toByteS.f kj26 l0).bind fun t408 => ((impl_AllOf.f kj26 t408).bind fun bt411 => ((laws_eqInS.f kj26 bt411.1 t386).bind fun t415 => (if t415 = true then (laws_FnExactAllOf.j2 kj26 bt405.2 bt405.1 (bt411.2 != t387)) else (laws_FnExactAllOf.j2 kj26 bt405.2 bt405.1 true))))) else (some false))))) = some r := by rw [if_neg (show ¬ (false = true) by decide)] at H; exact H
     clear H
     have H := H1
     clear H1
     replace H := Option.bind_eq_some_iff.mp H
     obtain ⟨⟨t405, t406⟩, A410, H⟩ := H
     replace H : ((laws_heldInS.f kj26 t406 1).bind fun t407 => (if t407 < 0 then (some false) else (if t407 = t405 then ((laws_toByteS.f kj26 l0).bind fun t408 => ((impl_AllOf.f kj26 t408).bind fun bt411 => ((laws_eqInS.f kj26 bt411.1 t386).bind fun t415 => (if t415 = true then (laws_FnExactAllOf.j2 kj26 t406 t405 (bt411.2 != t387)) else (laws_FnExactAllOf.j2 kj26 t406 t405 true))))) else (some false)))) = some r := H
     have A41 := aM A410
     clear A410
     replace H := Option.bind_eq_some_iff.mp H
     obtain ⟨t407, A420, H⟩ := H
     replace H : (if t407 < 0 then (some false) else (if t407 = t405 then ((laws_toByteS.f kj26 l0).bind fun t408 => ((impl_AllOf.f kj26 t408).bind fun bt411 => ((laws_eqInS.f kj26 bt411.1 t386).bind fun t415 => (if t415 = true then (laws_FnExactAllOf.j2 kj26 t406 t405 (bt411.2 != t387)) else (laws_FnExactAllOf.j2 kj26 t406 t405 true))))) else (some false))) = some r := H
     have A42 := aM A420
     clear A420
     by_cases c43 : t407 < 0
     case pos =>
      rw [if_pos c43] at H
      have c43b0 : decide (t407 < 0) = true := decide_eq_true c43
      clear c43
      obtain rfl := Option.some.inj H
      obtain ⟨Ao44, co44, eo44⟩ := Kd.R_slice HO_6.out
      subst eo44
      go_wp2_with (first | ((with_reducible refine gate_callee (f := 46) rfl ?_); refine goesL_ (some 61) rfl rfl Try.func46 (by kernel_rfl) rfl #[.slice Ao44 t393.length co44, .int .i64 1] rfl xR ?_; (with_reducible refine (laws_markInS.calls kj26 (fun k_ => some k_ = (.slice Ao44 t393.length co44 : Value).ownBlock) (.slice Ao44 t393.length co44) t393 1 t405 t406 w _ ?side1 ?side2 A41.out).mono ?_); (case side1 => repeat (first | (with_reducible first | exact HB.out | apply below_alloc | apply pw_below_drewN | apply below_drew1) | exact HB.out)); (case side2 => exact Kd.R_tight rfl HO_6.out); rintro e w45 ⟨rfl, hy0, hb, hkp⟩; refine ⟨_, rfl, ?_⟩; have n0_ := aM (Kd.R_mono (ok' := fun k_ => some k_ ≠ (.slice Ao44 t393.length co44 : Value).ownBlock) (Kd.R_keptB (HO_3.out) hkp (fun k_ hk_ hs_ => (hk_) hs_)) (fun k_ hk_ => hk_.1)); have n1_ := aM (Kd.R_reok rfl hy0 (fun k_ e_ => HO_6.out.1 k_ e_)); have n2_ := aM (hb); clear HO_3 HO_6 HB; have HO_3 := n0_; have HO_6 := n1_; have HB := n2_; clear n0_ n1_ n2_; (try clear hb); (try clear hkp); (try clear hy0)) | ((with_reducible refine gate_callee (f := 64) rfl ?_); refine goesL_ (some 64) rfl rfl Try.func64 (by kernel_rfl) rfl #[.slice Ao44 t406.length co44, .int .i64 1] rfl (by (try simp only [List.map_toArray, List.map_cons, List.map_nil]); first | done | (rw [show t406.length = t393.length from (Kd.R_reads' HO_6.out).1.symm] <;> rfl) | rfl | (simp only [List.length_drop, List.length_take]; rfl)) ?_; (with_reducible refine (laws_heldInS.calls kj26 _ _ t406 1 t407 _ ?side1 ?side2 A42.out).mono ?_); (case side1 => repeat (first | exact (Kd.R_reads' HO_6.out).2.2 | (with_reducible refine Kd.C_alloc ?_ _) | (with_reducible refine Kd.C_drewN ?_ _) | (with_reducible refine Kd.C_drew ?_))); (case side2 => rw [show t406.length = t393.length from (Kd.R_reads' HO_6.out).1.symm]; exact (Kd.R_reads' HO_6.out).2.1); rintro e w' ⟨rfl, ⟨nd, rfl⟩⟩; refine ⟨_, rfl, ?_⟩))
      go_ret
      exact ⟨xW, bl HB.out⟩
     rw [if_neg c43] at H
     have c43b0 : decide (t407 < 0) = false := decide_eq_false c43
     clear c43
     by_cases c46 : t407 = t405
     case neg =>
      rw [if_neg c46] at H
      have c46b0 : (t407 == t405) = false := beq_eq_false_iff_ne.mpr c46
      have c46b1 : (t407 != t405) = true := bne_iff_ne.mpr c46
      obtain rfl := Option.some.inj H
      obtain ⟨Ao67, co67, eo67⟩ := Kd.R_slice HO_6.out
      subst eo67
      go_wp2_with (first | ((with_reducible refine gate_callee (f := 46) rfl ?_); refine goesL_ (some 61) rfl rfl Try.func46 (by kernel_rfl) rfl #[.slice Ao67 t393.length co67, .int .i64 1] rfl xR ?_; (with_reducible refine (laws_markInS.calls kj26 (fun k_ => some k_ = (.slice Ao67 t393.length co67 : Value).ownBlock) (.slice Ao67 t393.length co67) t393 1 t405 t406 w _ ?side1 ?side2 A41.out).mono ?_); (case side1 => repeat (first | (with_reducible first | exact HB.out | apply below_alloc | apply pw_below_drewN | apply below_drew1) | exact HB.out)); (case side2 => exact Kd.R_tight rfl HO_6.out); rintro e w68 ⟨rfl, hy0, hb, hkp⟩; refine ⟨_, rfl, ?_⟩; have n0_ := aM (Kd.R_mono (ok' := fun k_ => some k_ ≠ (.slice Ao67 t393.length co67 : Value).ownBlock) (Kd.R_keptB (HO_3.out) hkp (fun k_ hk_ hs_ => (hk_) hs_)) (fun k_ hk_ => hk_.1)); have n1_ := aM (Kd.R_reok rfl hy0 (fun k_ e_ => HO_6.out.1 k_ e_)); have n2_ := aM (hb); clear HO_3 HO_6 HB; have HO_3 := n0_; have HO_6 := n1_; have HB := n2_; clear n0_ n1_ n2_; (try clear hb); (try clear hkp); (try clear hy0)) | ((with_reducible refine gate_callee (f := 64) rfl ?_); refine goesL_ (some 64) rfl rfl Try.func64 (by kernel_rfl) rfl #[.slice Ao67 t406.length co67, .int .i64 1] rfl (by (try simp only [List.map_toArray, List.map_cons, List.map_nil]); first | done | (rw [show t406.length = t393.length from (Kd.R_reads' HO_6.out).1.symm] <;> rfl) | rfl | (simp only [List.length_drop, List.length_take]; rfl)) ?_; (with_reducible refine (laws_heldInS.calls kj26 _ _ t406 1 t407 _ ?side1 ?side2 A42.out).mono ?_); (case side1 => repeat (first | exact (Kd.R_reads' HO_6.out).2.2 | (with_reducible refine Kd.C_alloc ?_ _) | (with_reducible refine Kd.C_drewN ?_ _) | (with_reducible refine Kd.C_drew ?_))); (case side2 => rw [show t406.length = t393.length from (Kd.R_reads' HO_6.out).1.symm]; exact (Kd.R_reads' HO_6.out).2.1); rintro e w' ⟨rfl, ⟨nd, rfl⟩⟩; refine ⟨_, rfl, ?_⟩))
      go_ret
      exact ⟨xW, bl HB.out⟩
     rw [if_pos c46] at H
     have c46b0 : (t407 == t405) = true := beq_iff_eq.mpr c46
     have c46b1 : (t407 != t405) = false := bne_eq_false_iff_eq.mpr c46
     clear c46
     replace H := Option.bind_eq_some_iff.mp H
     obtain ⟨t408, A470, H⟩ := H
     replace H : ((impl_AllOf.f kj26 t408).bind fun bt411 => ((laws_eqInS.f kj26 bt411.1 t386).bind fun t415 => (if t415 = true then (laws_FnExactAllOf.j2 kj26 t406 t405 (bt411.2 != t387)) else (laws_FnExactAllOf.j2 kj26 t406 t405 true)))) = some r := H
     have A47 := aM A470
     clear A470
     replace H := Option.bind_eq_some_iff.mp H
     obtain ⟨⟨t411, t412⟩, A480, H⟩ := H
     replace H : ((laws_eqInS.f kj26 t411 t386).bind fun t415 => (if t415 = true then (laws_FnExactAllOf.j2 kj26 t406 t405 (t412 != t387)) else (laws_FnExactAllOf.j2 kj26 t406 t405 true))) = some r := H
     have A48 := aM A480
     clear A480
     have HC49 := aM H
     clear H
     obtain ⟨Ao50, co50, eo50⟩ := Kd.R_slice HO_6.out
     subst eo50
     go_upto_region 23 with (first | ((with_reducible refine gate_callee (f := 46) rfl ?_); refine goesL_ (some 61) rfl rfl Try.func46 (by kernel_rfl) rfl #[.slice Ao50 t393.length co50, .int .i64 1] rfl xR ?_; (with_reducible refine (laws_markInS.calls kj26 (fun k_ => some k_ = (.slice Ao50 t393.length co50 : Value).ownBlock) (.slice Ao50 t393.length co50) t393 1 t405 t406 w _ ?side1 ?side2 A41.out).mono ?_); (case side1 => repeat (first | (with_reducible first | exact HB.out | apply below_alloc | apply pw_below_drewN | apply below_drew1) | exact HB.out)); (case side2 => exact Kd.R_tight rfl HO_6.out); rintro e w51 ⟨rfl, hy0, hb, hkp⟩; refine ⟨_, rfl, ?_⟩; have n0_ := aM (Kd.R_mono (ok' := fun k_ => some k_ ≠ (.slice Ao50 t393.length co50 : Value).ownBlock) (Kd.R_keptB (HO_3.out) hkp (fun k_ hk_ hs_ => (hk_) hs_)) (fun k_ hk_ => hk_.1)); have n1_ := aM (Kd.R_reok rfl hy0 (fun k_ e_ => HO_6.out.1 k_ e_)); have n2_ := aM (hb); clear HO_3 HO_6 HB; have HO_3 := n0_; have HO_6 := n1_; have HB := n2_; clear n0_ n1_ n2_; (try clear hb); (try clear hkp); (try clear hy0)) | ((with_reducible refine gate_callee (f := 64) rfl ?_); refine goesL_ (some 64) rfl rfl Try.func64 (by kernel_rfl) rfl #[.slice Ao50 t406.length co50, .int .i64 1] rfl (by (try simp only [List.map_toArray, List.map_cons, List.map_nil]); first | done | (rw [show t406.length = t393.length from (Kd.R_reads' HO_6.out).1.symm] <;> rfl) | rfl | (simp only [List.length_drop, List.length_take]; rfl)) ?_; (with_reducible refine (laws_heldInS.calls kj26 _ _ t406 1 t407 _ ?side1 ?side2 A42.out).mono ?_); (case side1 => repeat (first | exact (Kd.R_reads' HO_6.out).2.2 | (with_reducible refine Kd.C_alloc ?_ _) | (with_reducible refine Kd.C_drewN ?_ _) | (with_reducible refine Kd.C_drew ?_))); (case side2 => rw [show t406.length = t393.length from (Kd.R_reads' HO_6.out).1.symm]; exact (Kd.R_reads' HO_6.out).2.1); rintro e w' ⟨rfl, ⟨nd, rfl⟩⟩; refine ⟨_, rfl, ?_⟩) | ((with_reducible refine gate_callee (f := 59) rfl ?_); refine goesL_ (some 72) rfl rfl Try.func59 (by kernel_rfl) rfl #[.slice A0 l0.length c0] rfl xR ?_; (with_reducible refine (laws_toByteS.calls kj26 _ _ l0 t408 _ ?side1 ?side2 A47.out).mono ?_); (case side1 => repeat (first | exact (cB HR0.out (bl HB.out)) | (with_reducible refine Kd.C_alloc ?_ _) | (with_reducible refine Kd.C_drewN ?_ _) | (with_reducible refine Kd.C_drew ?_))); (case side2 => exact HC0.out); rintro e w52 ⟨v409, rfl, ho0, hb⟩; refine ⟨_, rfl, ?_⟩; have n0_ := aM (kB (kr HO_3.out) hb); have n1_ := aM (kB (kr HO_6.out) hb); have n2_ := aM (Kd.R_lower ho0 (below_size (bl HB.out))); have n3_ := aM (bS (bl HB.out) hb); clear HO_3 HO_6 HB; have HO_3 := n0_; have HO_6 := n1_; have HO410 := n2_; have HB := n3_; clear n0_ n1_ n2_ n3_; (try clear hb); (try clear ho0); obtain ⟨Ao53, co53, eo53⟩ := Kd.R_slice HO410.out; subst eo53) | ((with_reducible refine gate_callee (f := 63) rfl ?_); refine goesL_ (some 73) rfl rfl Try.func63 (by kernel_rfl) rfl #[.slice Ao53 t408.length co53] rfl xR ?_; (with_reducible refine (impl_AllOf.calls kj26 _ _ t408 t411 t412 _ ?side1 ?side2 A48.out).mono ?_); (case side1 => repeat (first | exact (Kd.R_reads' HO410.out).2.2 | (with_reducible refine Kd.C_alloc ?_ _) | (with_reducible refine Kd.C_drewN ?_ _) | (with_reducible refine Kd.C_drew ?_))); (case side2 => exact (Kd.R_reads' HO410.out).2.1); rintro e w54 ⟨v413, rfl, ho0, hb⟩; refine ⟨_, rfl, ?_⟩; have n0_ := aM (Kd.R_elder' (kr HO_3.out) (Kd.R_base ho0) hb); have n1_ := aM (Kd.R_elder' (kr HO_6.out) (Kd.R_base ho0) hb); have n2_ := aM (kB (kr HO410.out) hb); have n3_ := aM (Kd.R_lower (Kd.R_new' (Kd.R_new' ho0 (Kd.R_lt (kr HO_3.out))) (Kd.R_lt (kr HO_6.out))) (below_size (bl HB.out))); have n4_ := aM (bS (bl HB.out) hb); clear HO_3 HO_6; clear HO410 HB; have HO_3 := n0_; have HO_6 := n1_; have HO410 := n2_; have HO414 := n3_; have HB := n4_; clear n0_ n1_ n2_ n3_ n4_; (try clear hb); (try clear ho0)))
     (try simp only [Act.put, sA, sZ, sS])
     go_cut [84] (fun v84 wc => ∃ (kq : Nat) (x84_48 : Bool), v84 = .bool x84_48 ∧ Aside0 (laws_FnExactAllOf.j2 kq t406 t405 x84_48 = some r) ∧ Aside0 (kq ≤ kj26) ∧ Aside0 (Kd.R k82 82 wc w.heap.size (fun _ => True) (.slice Ao50 t393.length co50) t406) ∧ Aside0 (Below w.heap.size w wc))
     case first =>
      have H := HC49.out
      clear HC49
      replace H := Option.bind_eq_some_iff.mp H
      obtain ⟨t415, A550, H⟩ := H
      replace H : (if t415 = true then (laws_FnExactAllOf.j2 kj26 t406 t405 (t412 != t387)) else (laws_FnExactAllOf.j2 kj26 t406 t405 true)) = some r := H
      have A55 := aM A550
      clear A550
      by_cases c56 : t415 = true
      case pos =>
       subst c56
       have H1 : (laws_FnExactAllOf.j2 kj26 t406 t405 (t412 != t387)) = some r := by rw [if_pos rfl] at H; exact H
       clear H
       have H := H1
       clear H1
       have H' := aM H
       clear H
       obtain ⟨Ao57, co57, eo57⟩ := Kd.R_slice HO414.out
       subst eo57
       obtain ⟨Ao58, co58, eo58⟩ := Kd.R_slice HO_3.out
       subst eo58
       go_wp2_with (first | ((with_reducible refine gate_callee (f := 45) rfl ?_); refine goesL_ (some 78) rfl rfl Try.func45 (by kernel_rfl) rfl #[.slice Ao57 t411.length co57, .slice Ao58 t386.length co58] rfl xR ?_; (with_reducible refine (laws_eqInS.calls kj26 _ _ t411 _ _ t386 true _ ?side1 ?side2 ?side3 ?side4 A55.out).mono ?_); (case side1 => repeat (first | exact (Kd.R_reads' HO414.out).2.2 | (with_reducible refine Kd.C_alloc ?_ _) | (with_reducible refine Kd.C_drewN ?_ _) | (with_reducible refine Kd.C_drew ?_))); (case side2 => exact (Kd.R_reads' HO414.out).2.1); (case side3 => repeat (first | exact (Kd.R_reads' HO_3.out).2.2 | (with_reducible refine Kd.C_alloc ?_ _) | (with_reducible refine Kd.C_drewN ?_ _) | (with_reducible refine Kd.C_drew ?_))); (case side4 => exact (Kd.R_reads' HO_3.out).2.1); rintro e w59 ⟨rfl, hb⟩; refine ⟨_, rfl, ?_⟩; have n0_ := aM (kB (kr HO_3.out) hb); have n1_ := aM (kB (kr HO_6.out) hb); have n2_ := aM (kB (kr HO410.out) hb); have n3_ := aM (kB (kr HO414.out) hb); have n4_ := aM (bS (bl HB.out) hb); clear HO_3 HO_6; clear HO410 HO414 HB; have HO_3 := n0_; have HO_6 := n1_; have HO410 := n2_; have HO414 := n3_; have HB := n4_; clear n0_ n1_ n2_ n3_ n4_; (try clear hb)))
       go_meet
       case rel => exact ⟨_, ((t412 != t387)), xE, H', ⟨by have := HJ6.out; have := HJ26.out; first | omega | exact Nat.le_refl _⟩, ⟨kr (Kd.R_mono HO_6.out (fun _ hk => trivial))⟩, ⟨bl HB.out⟩⟩
      replace c56 := Bool.eq_false_iff.mpr c56
      subst c56
      have H1 : (laws_FnExactAllOf.j2 kj26 t406 t405 true) = some r := by rw [if_neg (show ¬ (false = true) by decide)] at H; exact H
      clear H
      have H := H1
      clear H1
      have H' := aM H
      clear H
      obtain ⟨Ao60, co60, eo60⟩ := Kd.R_slice HO414.out
      subst eo60
      obtain ⟨Ao61, co61, eo61⟩ := Kd.R_slice HO_3.out
      subst eo61
      go_wp2_with (first | ((with_reducible refine gate_callee (f := 45) rfl ?_); refine goesL_ (some 78) rfl rfl Try.func45 (by kernel_rfl) rfl #[.slice Ao60 t411.length co60, .slice Ao61 t386.length co61] rfl xR ?_; (with_reducible refine (laws_eqInS.calls kj26 _ _ t411 _ _ t386 false _ ?side1 ?side2 ?side3 ?side4 A55.out).mono ?_); (case side1 => repeat (first | exact (Kd.R_reads' HO414.out).2.2 | (with_reducible refine Kd.C_alloc ?_ _) | (with_reducible refine Kd.C_drewN ?_ _) | (with_reducible refine Kd.C_drew ?_))); (case side2 => exact (Kd.R_reads' HO414.out).2.1); (case side3 => repeat (first | exact (Kd.R_reads' HO_3.out).2.2 | (with_reducible refine Kd.C_alloc ?_ _) | (with_reducible refine Kd.C_drewN ?_ _) | (with_reducible refine Kd.C_drew ?_))); (case side4 => exact (Kd.R_reads' HO_3.out).2.1); rintro e w62 ⟨rfl, hb⟩; refine ⟨_, rfl, ?_⟩; have n0_ := aM (kB (kr HO_3.out) hb); have n1_ := aM (kB (kr HO_6.out) hb); have n2_ := aM (kB (kr HO410.out) hb); have n3_ := aM (kB (kr HO414.out) hb); have n4_ := aM (bS (bl HB.out) hb); clear HO_3 HO_6; clear HO410 HO414 HB; have HO_3 := n0_; have HO_6 := n1_; have HO410 := n2_; have HO414 := n3_; have HB := n4_; clear n0_ n1_ n2_ n3_ n4_; (try clear hb)))
      go_meet
      case rel => exact ⟨_, (true), xE, H', ⟨by have := HJ6.out; have := HJ26.out; first | omega | exact Nat.le_refl _⟩, ⟨kr (Kd.R_mono HO_6.out (fun _ hk => trivial))⟩, ⟨bl HB.out⟩⟩
     case rest =>
      clear HC49
      try clear c1
      try clear c2
      try clear c2b0
      try clear c2b1
      try clear p2
      try clear c3
      try clear c4
      try clear c5
      try clear c6
      try clear c9
      try clear c15
      try clear c22
      try clear c25
      try clear c31
      try clear c31b0
      try clear c33
      try clear c40
      try clear c43
      try clear c43b0
      try clear c44
      try clear c45
      try clear c46
      try clear c46b0
      try clear c46b1
      try clear c47
      try clear c56
      try clear c59
      try clear c62
      try clear p2
      obtain ⟨kq, x84_48, rfl, HA, HJ48, HO_6, HB⟩ := hcut
      have hl6_48 := (Kd.R_reads' HO_6.out).1
      rw [hl6_48] at HO_6
      (try simp only [hl6_48])
      cases kq with
      | zero => exact absurd HA.out (by simp [laws_FnExactAllOf.j2])
      | succ kj48 =>
       have H := HA.out
       clear HA
       simp only [laws_FnExactAllOf.j2] at H
       by_cases c63 : x84_48 = true
       case pos =>
        subst c63
        have H1 : (some false) = some r := by rw [if_pos rfl] at H; exact H
        clear H
        have H := H1
        clear H1
        obtain rfl := Option.some.inj H
        go_wp2
        go_ret
        exact ⟨xW, bl HB.out⟩
       replace c63 := Bool.eq_false_iff.mpr c63
       subst c63
       have H1 : ((laws_heldInS.f kj48 t406 1).bind fun t416 => (if t416 < 0 then (some false) else (if t416 = t405 then (some true) else (some false)))) = some r := by rw [if_neg (show ¬ (false = true) by decide)] at H; exact H
       clear H
       have H := H1
       clear H1
       replace H := Option.bind_eq_some_iff.mp H
       obtain ⟨t416, A640, H⟩ := H
       replace H : (if t416 < 0 then (some false) else (if t416 = t405 then (some true) else (some false))) = some r := H
       have A64 := aM A640
       clear A640
       by_cases c65 : t416 < 0
       case pos =>
        rw [if_pos c65] at H
        have c65b0 : decide (t416 < 0) = true := decide_eq_true c65
        clear c65
        obtain rfl := Option.some.inj H
        go_wp2_with (first | ((with_reducible refine gate_callee (f := 64) rfl ?_); refine goesL_ (some 87) rfl rfl Try.func64 (by kernel_rfl) rfl #[.slice Ao50 t406.length co50, .int .i64 1] rfl xR ?_; (with_reducible refine (laws_heldInS.calls kj48 _ _ t406 1 t416 _ ?side1 ?side2 A64.out).mono ?_); (case side1 => repeat (first | exact (Kd.R_reads' HO_6.out).2.2 | (with_reducible refine Kd.C_alloc ?_ _) | (with_reducible refine Kd.C_drewN ?_ _) | (with_reducible refine Kd.C_drew ?_))); (case side2 => exact (Kd.R_reads' HO_6.out).2.1); rintro e w' ⟨rfl, ⟨nd, rfl⟩⟩; refine ⟨_, rfl, ?_⟩))
        go_ret
        exact ⟨xW, bl HB.out⟩
       rw [if_neg c65] at H
       have c65b0 : decide (t416 < 0) = false := decide_eq_false c65
       clear c65
       by_cases c66 : t416 = t405
       case neg =>
        rw [if_neg c66] at H
        have c66b0 : (t416 == t405) = false := beq_eq_false_iff_ne.mpr c66
        have c66b1 : (t416 != t405) = true := bne_iff_ne.mpr c66
        obtain rfl := Option.some.inj H
        go_wp2_with (first | ((with_reducible refine gate_callee (f := 64) rfl ?_); refine goesL_ (some 87) rfl rfl Try.func64 (by kernel_rfl) rfl #[.slice Ao50 t406.length co50, .int .i64 1] rfl xR ?_; (with_reducible refine (laws_heldInS.calls kj48 _ _ t406 1 t416 _ ?side1 ?side2 A64.out).mono ?_); (case side1 => repeat (first | exact (Kd.R_reads' HO_6.out).2.2 | (with_reducible refine Kd.C_alloc ?_ _) | (with_reducible refine Kd.C_drewN ?_ _) | (with_reducible refine Kd.C_drew ?_))); (case side2 => exact (Kd.R_reads' HO_6.out).2.1); rintro e w' ⟨rfl, ⟨nd, rfl⟩⟩; refine ⟨_, rfl, ?_⟩))
        go_ret
        exact ⟨xW, bl HB.out⟩
       rw [if_pos c66] at H
       have c66b0 : (t416 == t405) = true := beq_iff_eq.mpr c66
       have c66b1 : (t416 != t405) = false := bne_eq_false_iff_eq.mpr c66
       clear c66
       obtain rfl := Option.some.inj H
       go_wp2_with (first | ((with_reducible refine gate_callee (f := 64) rfl ?_); refine goesL_ (some 87) rfl rfl Try.func64 (by kernel_rfl) rfl #[.slice Ao50 t406.length co50, .int .i64 1] rfl xR ?_; (with_reducible refine (laws_heldInS.calls kj48 _ _ t406 1 t416 _ ?side1 ?side2 A64.out).mono ?_); (case side1 => repeat (first | exact (Kd.R_reads' HO_6.out).2.2 | (with_reducible refine Kd.C_alloc ?_ _) | (with_reducible refine Kd.C_drewN ?_ _) | (with_reducible refine Kd.C_drew ?_))); (case side2 => exact (Kd.R_reads' HO_6.out).2.1); rintro e w' ⟨rfl, ⟨nd, rfl⟩⟩; refine ⟨_, rfl, ?_⟩))
       go_ret
       exact ⟨xW, bl HB.out⟩

/-- THE ONE PURE STATEMENT of laws_FnExactAllOf: yours. -/
def laws_FnExactAllOf.Pure : Prop := ∀ (l0 : List Int), l0.length ≤ maxLen → l0.length * 1 ≤ 140737488351232 → (∀ x ∈ l0, (Lit.int .u8 x).wf = true) → ∃ k, laws_FnExactAllOf.f k l0 = some true
theorem laws_FnExactAllOf.walk (P : laws_FnExactAllOf.Pure) (a0 : Option Addr) (len0 cap0 : Nat) (z0 : List Int) (w : World) (w0 : (a0 = none ∧ len0 = 0 ∧ cap0 = 0 ∧ z0 = []) ∨ ∃ x, a0 = some x ∧ len0 ≤ cap0 ∧ cap0 ≤ maxLen ∧ z0.length = cap0 ∧ (∀ i, i < z0.length → w.cell? (x.add i) = some (.int .u8 (z0.getD i 0))) ∧ ∀ n ∈ z0, (Lit.int .u8 n).wf = true) (y0 : len0 * 1 ≤ 140737488351232) :
  Calls Try.prog 9 #[.slice a0 len0 cap0] w fun e w' => e = .returned (.bool true) ∧ Below w.heap.size w w' := by
 obtain ⟨l0, rfl, hr0, hm0, hw0, hc0⟩ := ReadsInt.ofRowC w0
 obtain ⟨k, h⟩ := P l0 hm0 y0 hw0
 refine (laws_FnExactAllOf.calls k _ _ l0 true w (Kd.C_of_reads (d := (0 : Int)) (h1 := fun _ => rfl) hr0) hc0 h).mono ?_
 rintro e w' ⟨rfl, hd⟩
 exact ⟨rfl, hd⟩

end Go.Proofs.Ytjaldondohddpaa.PFnExactAllOf

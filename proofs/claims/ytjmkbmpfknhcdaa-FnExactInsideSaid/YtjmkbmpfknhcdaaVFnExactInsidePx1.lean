/- Of the proof of laws.FnExactInside: a part. No condition beyond what its theorems say. -/
import Derived.Test.YtjmkbmpfknhcdaaVFnExactInsidePx0
namespace Go.Proofs.Ytjmkbmpfknhcdaa.PFnExactInside
open Go.RowKit Go.Proofs.YtjmkbmpfknhcdaaW.PrintWords Go.Proofs.YtjmkbmpfknhcdaaW.PrintLast Go.Proofs.YtjmkbmpfknhcdaaW.PrintMore
attribute [local go_sem] max2_int min2_int max_two min_two max_three min_three max_four min_four   -- for this text's walks alone
set_option linter.unusedVariables false
set_option linter.unusedSimpArgs false

def slices_Index_int_int.l0 : Nat → List Int → Int → Int → Int → Option (Int)
 | 0, _, _, _, _ => none
 | k + 1, x0, x1, x7, x8 => if x8 < x7 then (if 0 ≤ x8 then (if x8 < (x0.length : Int) then (if x1 = (rd x0 x8) then (some x8) else (slices_Index_int_int.l0 k x0 x1 x7 (wrap64 (x8 + 1)))) else (none)) else (none)) else (some (-1))
def slices_Index_int_int.f (k : Nat) (l0 : List Int) (a1 : Int) : Option (Int) := slices_Index_int_int.l0 k l0 a1 (l0.length : Int) 0
theorem slices_Index_int_int.mono_l : ∀ k, (∀ y0 y1 y2 y3, LeO (slices_Index_int_int.l0 k y0 y1 y2 y3) (slices_Index_int_int.l0 (k + 1) y0 y1 y2 y3))
 | 0 => fun _ _ _ _ r h => by simp [slices_Index_int_int.l0] at h
 | k + 1 => by
  have ih0 := slices_Index_int_int.mono_l k
  ·intro y0 y1 y2 y3
   unfold slices_Index_int_int.l0
   repeat' first
   | (with_reducible exact ih0 _ _ _ _)
   | (with_reducible exact LeO.refl _)
   | (with_reducible exact LeO.none _)
   | (with_reducible refine LeO.ite ?_ ?_)
   | (with_reducible refine LeO.bind ?_ (fun _ => ?_))
   | exact ih0 _ _ _ _
   | exact LeO.none _
   | refine LeO.ite ?_ ?_
   | refine LeO.bind ?_ (fun _ => ?_)
theorem slices_Index_int_int.mono : ∀ a0 a1 k, LeO (slices_Index_int_int.f k a0 a1) (slices_Index_int_int.f (k + 1) a0 a1) := by
 intro a0 a1 k
 have ih0 := slices_Index_int_int.mono_l k
 unfold slices_Index_int_int.f
 repeat' first
   | (with_reducible exact ih0 _ _ _ _)
   | (with_reducible exact LeO.refl _)
   | (with_reducible exact LeO.none _)
   | (with_reducible refine LeO.ite ?_ ?_)
   | (with_reducible refine LeO.bind ?_ (fun _ => ?_))
   | exact ih0 _ _ _ _
   | exact LeO.none _
   | refine LeO.ite ?_ ?_
   | refine LeO.bind ?_ (fun _ => ?_)
set_option maxHeartbeats 60000000 in
set_option maxRecDepth 100000 in
theorem slices_Index_int_int.calls (k : Nat) (A0 : Option Addr) (c0 : Nat) (l0 : List Int) (a1 : Int) (r : Int) (w : World) (hr0 : Kd.C (Kd.int .i64) w A0 l0.length l0) (hc0 : l0.length ≤ c0) (h : slices_Index_int_int.f k l0 a1 = some r) :
  Calls Try.prog 110 #[.slice A0 l0.length c0, .int .i64 a1] w fun e w' => e = .returned (.int .i64 r) ∧ Drawn0 w w' := by
 have HR0 := aM hr0
 have HC0 := aM hc0
 clear hr0 hc0
 have H : (slices_Index_int_int.l0 k l0 a1 (l0.length : Int) 0) = some r := h
 clear h
 have H' := aM H
 clear H
 go_enter Try.func110, Try.ntmps110
 go_wp2
 go_loopg [8] k (fun kq v8 w' => ∃ (x8_1 : Int), v8 = .int .i64 x8_1 ∧ Aside0 (slices_Index_int_int.l0 kq l0 a1 (l0.length : Int) x8_1 = some r) ∧ Aside0 (kq ≤ k) ∧ Drawn0 w w')
 case atStart => exact ⟨(0), xE, H', ⟨Nat.le_refl _⟩, by repeat (first | exact Drawn0.refl _ | apply Drawn0.step)⟩
 case round =>
  clear H'
  try clear c1
  try clear p2
  obtain ⟨x8_1, rfl, HA, HK1, ⟨m1, rfl⟩⟩ := hrel
  cases gk with
  | zero => exact absurd HA.out (by simp [slices_Index_int_int.l0])
  | succ k1 =>
   have H := HA.out
   clear HA
   simp only [slices_Index_int_int.l0] at H
   by_cases c3 : x8_1 < (l0.length : Int)
   case neg =>
    rw [if_neg c3] at H
    have c3b0 : decide (x8_1 < (l0.length : Int)) = false := decide_eq_false c3
    clear c3
    obtain rfl := Option.some.inj H
    go_wp2
    go_ret
    exact ⟨by first | rfl | (simp; done) | (simp [*]; done), by repeat (first | exact Drawn0.refl _ | apply Drawn0.step)⟩
   rw [if_pos c3] at H
   have c3b0 : decide (x8_1 < (l0.length : Int)) = true := decide_eq_true c3
   clear c3
   by_cases c4 : 0 ≤ x8_1
   case neg =>
    rw [if_neg c4] at H
    exact absurd H (by simp)
   rw [if_pos c4] at H
   have c4b0 : decide (0 ≤ x8_1) = true := decide_eq_true c4
   clear c4
   by_cases c5 : x8_1 < (l0.length : Int)
   case neg =>
    rw [if_neg c5] at H
    exact absurd H (by simp)
   rw [if_pos c5] at H
   have c5b0 : decide (x8_1 < (l0.length : Int)) = true := decide_eq_true c5
   clear c5
   by_cases c6 : a1 = (rd l0 x8_1)
   case pos =>
    rw [if_pos c6] at H
    have c6b0 : (a1 == (rd l0 x8_1)) = true := beq_iff_eq.mpr c6
    have c6b1 : (a1 != (rd l0 x8_1)) = false := bne_eq_false_iff_eq.mpr c6
    clear c6
    obtain rfl := Option.some.inj H
    have p101 : 0 ≤ (x8_1 : Int) := of_decide_eq_true (by first | (with_reducible assumption) | assumption)
    have q101 : x8_1 < (l0.length : Int) := of_decide_eq_true (by first | (with_reducible assumption) | assumption)
    obtain ⟨ad101, e101, hx101_0⟩ := Kd.at_int HR0.out x8_1 p101 q101
    cases e101
    replace p101 := eq_true p101
    replace q101 := eq_true q101
    go_wp2
    go_ret
    exact ⟨by first | rfl | (simp; done) | (simp [*]; done), by repeat (first | exact Drawn0.refl _ | apply Drawn0.step)⟩
   rw [if_neg c6] at H
   have c6b0 : (a1 == (rd l0 x8_1)) = false := beq_eq_false_iff_ne.mpr c6
   have c6b1 : (a1 != (rd l0 x8_1)) = true := bne_iff_ne.mpr c6
   have H' := aM H
   clear H
   have p101 : 0 ≤ (x8_1 : Int) := of_decide_eq_true (by first | (with_reducible assumption) | assumption)
   have q101 : x8_1 < (l0.length : Int) := of_decide_eq_true (by first | (with_reducible assumption) | assumption)
   obtain ⟨ad101, e101, hx101_0⟩ := Kd.at_int HR0.out x8_1 p101 q101
   cases e101
   replace p101 := eq_true p101
   replace q101 := eq_true q101
   go_wp2
   go_roundg k1
   case measure => have := HK1.out; omega
   case rel => exact ⟨(wrap64 (x8_1 + 1)), xE, H', ⟨by have := HK1.out; omega⟩, by repeat (first | exact Drawn0.refl _ | apply Drawn0.step)⟩

def slices_Contains_int_int.f (k : Nat) (l0 : List Int) (a1 : Int) : Option (Bool) := (slices_Index_int_int.f k l0 a1).bind fun t102 => (some (decide (t102 ≥ 0)))
theorem slices_Contains_int_int.mono : ∀ a0 a1 k, LeO (slices_Contains_int_int.f k a0 a1) (slices_Contains_int_int.f (k + 1) a0 a1) := by
 intro a0 a1 k
 unfold slices_Contains_int_int.f
 repeat' first
   | (with_reducible exact slices_Index_int_int.mono _ _ _)
   | (with_reducible exact LeO.refl _)
   | (with_reducible exact LeO.none _)
   | (with_reducible refine LeO.ite ?_ ?_)
   | (with_reducible refine LeO.bind ?_ (fun _ => ?_))
   | exact slices_Index_int_int.mono _ _ _
   | exact LeO.none _
   | refine LeO.ite ?_ ?_
   | refine LeO.bind ?_ (fun _ => ?_)
set_option maxHeartbeats 60000000 in
set_option maxRecDepth 100000 in
theorem slices_Contains_int_int.calls (k : Nat) (A0 : Option Addr) (c0 : Nat) (l0 : List Int) (a1 : Int) (r : Bool) (w : World) (hr0 : Kd.C (Kd.int .i64) w A0 l0.length l0) (hc0 : l0.length ≤ c0) (h : slices_Contains_int_int.f k l0 a1 = some r) :
  Calls Try.prog 62 #[.slice A0 l0.length c0, .int .i64 a1] w fun e w' => e = .returned (.bool r) ∧ Drawn0 w w' := by
 have HR0 := aM hr0
 have HC0 := aM hc0
 clear hr0 hc0
 have H : ((slices_Index_int_int.f k l0 a1).bind fun t102 => (some (decide (t102 ≥ 0)))) = some r := h
 clear h
 replace H := Option.bind_eq_some_iff.mp H
 obtain ⟨t102, A30, H⟩ := H
 replace H : (some (decide (t102 ≥ 0))) = some r := H
 have A3 := aM A30
 clear A30
 obtain rfl := Option.some.inj H
 go_enter Try.func62, Try.ntmps62
 go_wp2_with (first | ((with_reducible refine gate_callee (f := 110) rfl ?_); refine goesL_ (some 7) rfl rfl Try.func110 (by kernel_rfl) rfl #[.slice A0 l0.length c0, .int .i64 a1] rfl xR ?_; (with_reducible refine (slices_Index_int_int.calls k _ _ l0 a1 t102 _ ?side1 ?side2 A3.out).mono ?_); (case side1 => repeat (first | exact HR0.out | (with_reducible refine Kd.C_alloc ?_ _) | (with_reducible refine Kd.C_drewN ?_ _) | (with_reducible refine Kd.C_drew ?_))); (case side2 => exact HC0.out); rintro e w' ⟨rfl, ⟨nd, rfl⟩⟩; refine ⟨_, rfl, ?_⟩))
 go_ret
 exact ⟨by first | rfl | (simp; done) | (simp [*]; done), by repeat (first | exact Drawn0.refl _ | apply Drawn0.step)⟩

def impl_inRange.f (a0 : Int) (a1 : Int) (a2 : Int) : Option (Bool) := if a0 ≥ a1 then (some (decide (a0 ≤ a2))) else (some false)
set_option maxHeartbeats 60000000 in
set_option maxRecDepth 100000 in
theorem impl_inRange.calls (a0 : Int) (a1 : Int) (a2 : Int) (r : Bool) (w : World) (h : impl_inRange.f a0 a1 a2 = some r) :
  Calls Try.prog 106 #[.int .i64 a0, .int .i64 a1, .int .i64 a2] w fun e w' => e = .returned (.bool r) ∧ Drawn0 w w' := by
 have H : (if a0 ≥ a1 then (some (decide (a0 ≤ a2))) else (some false)) = some r := h
 clear h
 by_cases c4 : a0 ≥ a1
 case pos =>
  rw [if_pos c4] at H
  have c4b0 : decide (a1 ≤ a0) = true := decide_eq_true c4
  clear c4
  obtain rfl := Option.some.inj H
  go_enter Try.func106, Try.ntmps106
  go_wp2
  go_ret
  exact ⟨by first | rfl | (simp; done) | (simp [*]; done), by repeat (first | exact Drawn0.refl _ | apply Drawn0.step)⟩
 rw [if_neg c4] at H
 have c4b0 : decide (a1 ≤ a0) = false := decide_eq_false c4
 clear c4
 obtain rfl := Option.some.inj H
 go_enter Try.func106, Try.ntmps106
 go_wp2
 go_ret
 exact ⟨by first | rfl | (simp; done) | (simp [*]; done), by repeat (first | exact Drawn0.refl _ | apply Drawn0.step)⟩

def impl_isVlan.f (a0 : Int) : Option (Bool) := (impl_inRange.f a0 1 4).bind fun t103 => (some t103)
set_option maxHeartbeats 60000000 in
set_option maxRecDepth 100000 in
theorem impl_isVlan.calls (a0 : Int) (r : Bool) (w : World) (h : impl_isVlan.f a0 = some r) :
  Calls Try.prog 70 #[.int .i64 a0] w fun e w' => e = .returned (.bool r) ∧ Drawn0 w w' := by
 have H : ((impl_inRange.f a0 1 4).bind fun t103 => (some t103)) = some r := h
 clear h
 replace H := Option.bind_eq_some_iff.mp H
 obtain ⟨t103, A20, H⟩ := H
 replace H : (some t103) = some r := H
 have A2 := aM A20
 clear A20
 obtain rfl := Option.some.inj H
 go_enter Try.func70, Try.ntmps70
 go_wp2_with (first | ((with_reducible refine gate_callee (f := 106) rfl ?_); refine goesL_ (some 4) rfl rfl Try.func106 (by kernel_rfl) rfl #[.int .i64 a0, .int .i64 1, .int .i64 4] rfl xR ?_; (with_reducible refine (impl_inRange.calls a0 1 4 t103 _ A2.out).mono ?_); rintro e w' ⟨rfl, ⟨nd, rfl⟩⟩; refine ⟨_, rfl, ?_⟩))
 go_ret
 exact ⟨by first | rfl | (simp; done) | (simp [*]; done), by repeat (first | exact Drawn0.refl _ | apply Drawn0.step)⟩

def impl_MemberOk.l0 : Nat → List Int → Int → Int → Int → List Int → Option (Bool)
 | 0, _, _, _, _, _ => none
 | k + 1, x6, x7, x8, x105000, x105001 => if x8 < x7 then (if 0 ≤ x8 then (if x8 < (x6.length : Int) then ((impl_isVlan.f (rd x6 x8)).bind fun t106 => (if t106 = true then (if x8 > 0 then (if 0 ≤ (wrap64 (x8 - 1)) then (if (wrap64 (x8 - 1)) < (x105001.length : Int) then (if (rd x6 x8) ≤ (rd x105001 (wrap64 (x8 - 1))) then (some false) else (impl_MemberOk.l0 k x6 x7 (wrap64 (x8 + 1)) x105000 x105001)) else (none)) else (none)) else (impl_MemberOk.l0 k x6 x7 (wrap64 (x8 + 1)) x105000 x105001)) else (some false))) else (none)) else (none)) else ((impl_isVlan.f x105000).bind fun t108 => (if t108 = true then ((slices_Contains_int_int.f k x105001 x105000).bind fun t109 => (some t109)) else (some false)))
def impl_MemberOk.f (k : Nat) (a0_0 : Int) (l0_1 : List Int) : Option (Bool) := impl_MemberOk.l0 k l0_1 (l0_1.length : Int) 0 a0_0 l0_1
theorem impl_MemberOk.mono_l : ∀ k, (∀ y0 y1 y2 y3 y4, LeO (impl_MemberOk.l0 k y0 y1 y2 y3 y4) (impl_MemberOk.l0 (k + 1) y0 y1 y2 y3 y4))
 | 0 => fun _ _ _ _ _ r h => by simp [impl_MemberOk.l0] at h
 | k + 1 => by
  have ih0 := impl_MemberOk.mono_l k
  ·intro y0 y1 y2 y3 y4
   unfold impl_MemberOk.l0
   repeat' first
   | (with_reducible exact ih0 _ _ _ _ _)
   | (with_reducible exact slices_Contains_int_int.mono _ _ _)
   | (with_reducible exact LeO.refl _)
   | (with_reducible exact LeO.none _)
   | (with_reducible refine LeO.ite ?_ ?_)
   | (with_reducible refine LeO.bind ?_ (fun _ => ?_))
   | exact ih0 _ _ _ _ _
   | exact slices_Contains_int_int.mono _ _ _
   | exact LeO.none _
   | refine LeO.ite ?_ ?_
   | refine LeO.bind ?_ (fun _ => ?_)
theorem impl_MemberOk.mono : ∀ a0 a1 k, LeO (impl_MemberOk.f k a0 a1) (impl_MemberOk.f (k + 1) a0 a1) := by
 intro a0 a1 k
 have ih0 := impl_MemberOk.mono_l k
 unfold impl_MemberOk.f
 repeat' first
   | (with_reducible exact ih0 _ _ _ _ _)
   | (with_reducible exact slices_Contains_int_int.mono _ _ _)
   | (with_reducible exact LeO.refl _)
   | (with_reducible exact LeO.none _)
   | (with_reducible refine LeO.ite ?_ ?_)
   | (with_reducible refine LeO.bind ?_ (fun _ => ?_))
   | exact ih0 _ _ _ _ _
   | exact slices_Contains_int_int.mono _ _ _
   | exact LeO.none _
   | refine LeO.ite ?_ ?_
   | refine LeO.bind ?_ (fun _ => ?_)
set_option maxHeartbeats 60000000 in
set_option maxRecDepth 100000 in
theorem impl_MemberOk.calls (k : Nat) (a0_0 : Int) (A0_1 : Option Addr) (c0_1 : Nat) (l0_1 : List Int) (r : Bool) (w : World) (hr0_1 : Kd.C (Kd.int .i64) w A0_1 l0_1.length l0_1) (hc0_1 : l0_1.length ≤ c0_1) (h : impl_MemberOk.f k a0_0 l0_1 = some r) :
  Calls Try.prog 21 #[.agg #[.int .i64 a0_0, .slice A0_1 l0_1.length c0_1]] w fun e w' => e = .returned (.bool r) ∧ Below w.heap.size w w' := by
 have hu26 := Try.underlying26
 have HR0_1 := aM hr0_1
 have HC0_1 := aM hc0_1
 clear hr0_1 hc0_1
 have HB := aM (Below.refl w.heap.size w)
 have H : (impl_MemberOk.l0 k l0_1 (l0_1.length : Int) 0 a0_0 l0_1) = some r := h
 clear h
 have H' := aM H
 clear H
 go_enter Try.func21, Try.ntmps21
 go_wp2_with (first | ((with_reducible refine gate_dst (N := 1) rfl ?_); refine box_event ?hg (N := 1) ?hd (cs := #[.int .i64 a0_0, .slice A0_1 l0_1.length c0_1]) (t := 26) ?hr ?_; (case hd => rfl); (case hg => rfl); (case hr => first | (go_simp; done) | (go_simp; rfl)); intro gb104 hg w2 hbox hb; have n0_ := aM (bS (bl HB.out) hb); have n1_ := aM (hbox); have n2_ := aM ((by rw [hg]; exact (below_size (bl HB.out)) : w.heap.size ≤ gb104)); have n3_ := aM ((by rw [hg]; exact (below_size (bl HB.out)) : w.heap.size ≤ gb104)); clear HB; have HB := n0_; have BK104 := n1_; have GW104 := n2_; have GE104 := n3_; clear n0_ n1_ n2_ n3_; clear hb hbox hg; have hcz3_0 := cI BK104.out 0; have hcz3_1 := cI BK104.out 1; have hfz3_0 := bF BK104.out 0; have hfz3_1 := bF BK104.out 1))
 go_loopg [8] k (fun kq v8 w' => ∃ (x8_1 : Int), v8 = .int .i64 x8_1 ∧ Aside0 (impl_MemberOk.l0 kq l0_1 (l0_1.length : Int) x8_1 a0_0 l0_1 = some r) ∧ Aside0 (kq ≤ k) ∧ Aside0 (w'.heap[gb104]? = some (.cells #[.int .i64 a0_0, (.slice A0_1 l0_1.length c0_1)] 26 (0, 0))) ∧ Aside0 (Below w.heap.size w w'))
 case atStart => exact ⟨(0), xE, H', ⟨Nat.le_refl _⟩, ⟨by (with_reducible repeat (first | refine blk_drewN ?_ _ | refine blk_drew ?_ | refine blk_alloc ?_ _)); exact BK104.out⟩, ⟨bl HB.out⟩⟩
 case round =>
  clear H'
  try clear c2
  try clear p2
  try clear hcz3_0
  try clear hcz3_1
  try clear hfz3_0
  try clear hfz3_1
  obtain ⟨x8_1, rfl, HA, HK1, BK104, HB⟩ := hrel
  cases gk with
  | zero => exact absurd HA.out (by simp [impl_MemberOk.l0])
  | succ k1 =>
   have H := HA.out
   clear HA
   simp only [impl_MemberOk.l0] at H
   by_cases c4 : x8_1 < (l0_1.length : Int)
   case neg =>
    rw [if_neg c4] at H
    have c4b0 : decide (x8_1 < (l0_1.length : Int)) = false := decide_eq_false c4
    clear c4
    replace H := Option.bind_eq_some_iff.mp H
    obtain ⟨t108, A160, H⟩ := H
    replace H : (if t108 = true then ((slices_Contains_int_int.f k1 l0_1 a0_0).bind fun t109 => (some t109)) else (some false)) = some r := H
    have A16 := aM A160
    clear A160
    by_cases c17 : t108 = true
    case neg =>
     replace c17 := Bool.eq_false_iff.mpr c17
     subst c17
     have H1 : (some false) = some r := by rw [if_neg (show ¬ (false = true) by decide)] at H; exact H
     clear H
     have H := H1
     clear H1
     obtain rfl := Option.some.inj H
     have hcz20_0 := cI BK104.out 0
     have hcz20_1 := cI BK104.out 1
     have hfz20_0 := bF BK104.out 0
     have hfz20_1 := bF BK104.out 1
     go_wp2_with (first | ((with_reducible refine gate_callee (f := 70) rfl ?_); refine goesL_ (some 33) rfl rfl Try.func70 (by kernel_rfl) rfl #[.int .i64 a0_0] rfl xR ?_; (with_reducible refine (impl_isVlan.calls a0_0 false _ A16.out).mono ?_); rintro e w' ⟨rfl, ⟨nd, rfl⟩⟩; refine ⟨_, rfl, ?_⟩))
     go_ret
     exact ⟨xW, bl HB.out⟩
    subst c17
    have H1 : ((slices_Contains_int_int.f k1 l0_1 a0_0).bind fun t109 => (some t109)) = some r := by rw [if_pos rfl] at H; exact H
    clear H
    have H := H1
    clear H1
    replace H := Option.bind_eq_some_iff.mp H
    obtain ⟨t109, A180, H⟩ := H
    replace H : (some t109) = some r := H
    have A18 := aM A180
    clear A180
    obtain rfl := Option.some.inj H
    have hcz19_0 := cI BK104.out 0
    have hcz19_1 := cI BK104.out 1
    have hfz19_0 := bF BK104.out 0
    have hfz19_1 := bF BK104.out 1
    go_wp2_with (first | ((with_reducible refine gate_callee (f := 70) rfl ?_); refine goesL_ (some 33) rfl rfl Try.func70 (by kernel_rfl) rfl #[.int .i64 a0_0] rfl xR ?_; (with_reducible refine (impl_isVlan.calls a0_0 true _ A16.out).mono ?_); rintro e w' ⟨rfl, ⟨nd, rfl⟩⟩; refine ⟨_, rfl, ?_⟩) | (go_at_call 62; (with_reducible refine (slices_Contains_int_int.calls k1 _ _ l0_1 a0_0 t109 _ ?side1 ?side2 A18.out).mono ?_); (case side1 => repeat (first | exact (cB HR0_1.out (bl HB.out)) | (with_reducible refine Kd.C_alloc ?_ _) | (with_reducible refine Kd.C_drewN ?_ _) | (with_reducible refine Kd.C_drew ?_))); (case side2 => exact HC0_1.out); rintro e w' ⟨rfl, ⟨nd, rfl⟩⟩))
    go_ret
    exact ⟨xW, bl HB.out⟩
   rw [if_pos c4] at H
   have c4b0 : decide (x8_1 < (l0_1.length : Int)) = true := decide_eq_true c4
   clear c4
   by_cases c5 : 0 ≤ x8_1
   case neg =>
    rw [if_neg c5] at H
    exact absurd H (by simp)
   rw [if_pos c5] at H
   have c5b0 : decide (0 ≤ x8_1) = true := decide_eq_true c5
   clear c5
   by_cases c6 : x8_1 < (l0_1.length : Int)
   case neg =>
    rw [if_neg c6] at H
    exact absurd H (by simp)
   rw [if_pos c6] at H
   have c6b0 : decide (x8_1 < (l0_1.length : Int)) = true := decide_eq_true c6
   clear c6
   replace H := Option.bind_eq_some_iff.mp H
   obtain ⟨t106, A70, H⟩ := H
   replace H : (if t106 = true then (if x8_1 > 0 then (if 0 ≤ (wrap64 (x8_1 - 1)) then (if (wrap64 (x8_1 - 1)) < (l0_1.length : Int) then (if (rd l0_1 x8_1) ≤ (rd l0_1 (wrap64 (x8_1 - 1))) then (some false) else (impl_MemberOk.l0 k1 l0_1 (l0_1.length : Int) (wrap64 (x8_1 + 1)) a0_0 l0_1)) else (none)) else (none)) else (impl_MemberOk.l0 k1 l0_1 (l0_1.length : Int) (wrap64 (x8_1 + 1)) a0_0 l0_1)) else (some false)) = some r := H
   have A7 := aM A70
   clear A70
   by_cases c8 : t106 = true
   case neg =>
    replace c8 := Bool.eq_false_iff.mpr c8
    subst c8
    have H1 : (some false) = some r := by rw [if_neg (show ¬ (false = true) by decide)] at H; exact H
    clear H
    have H := H1
    clear H1
    obtain rfl := Option.some.inj H
    have p105 : 0 ≤ (x8_1 : Int) := of_decide_eq_true (by first | (with_reducible assumption) | assumption)
    have q105 : x8_1 < (l0_1.length : Int) := of_decide_eq_true (by first | (with_reducible assumption) | assumption)
    obtain ⟨ad105, e105, hx105_0⟩ := Kd.at_int HR0_1.out x8_1 p105 q105
    cases e105
    replace hx105_0 := (HB.out.cell (World.block_lt_of_cell? w _ hx105_0)).trans hx105_0
    replace p105 := eq_true p105
    replace q105 := eq_true q105
    go_wp2_with (first | ((with_reducible refine gate_callee (f := 70) rfl ?_); refine goesL_ (some 14) rfl rfl Try.func70 (by kernel_rfl) rfl #[.int .i64 (rd l0_1 x8_1)] rfl xR ?_; (with_reducible refine (impl_isVlan.calls (rd l0_1 x8_1) false _ A7.out).mono ?_); rintro e w' ⟨rfl, ⟨nd, rfl⟩⟩; refine ⟨_, rfl, ?_⟩))
    go_ret
    exact ⟨xW, bl HB.out⟩
   subst c8
   have H1 : (if x8_1 > 0 then (if 0 ≤ (wrap64 (x8_1 - 1)) then (if (wrap64 (x8_1 - 1)) < (l0_1.length : Int) then (if (rd l0_1 x8_1) ≤ (rd l0_1 (wrap64 (x8_1 - 1))) then (some false) else (impl_MemberOk.l0 k1 l0_1 (l0_1.length : Int) (wrap64 (x8_1 + 1)) a0_0 l0_1)) else (none)) else (none)) else (impl_MemberOk.l0 k1 l0_1 (l0_1.length : Int) (wrap64 (x8_1 + 1)) a0_0 l0_1)) = some r := by rw [if_pos rfl] at H; exact H
   clear H
   have H := H1
   clear H1
   by_cases c9 : x8_1 > 0
   case neg =>
    rw [if_neg c9] at H
    have c9b0 : decide (0 < x8_1) = false := decide_eq_false c9
    clear c9
    have H' := aM H
    clear H
    have p105 : 0 ≤ (x8_1 : Int) := of_decide_eq_true (by first | (with_reducible assumption) | assumption)
    have q105 : x8_1 < (l0_1.length : Int) := of_decide_eq_true (by first | (with_reducible assumption) | assumption)
    obtain ⟨ad105, e105, hx105_0⟩ := Kd.at_int HR0_1.out x8_1 p105 q105
    cases e105
    replace hx105_0 := (HB.out.cell (World.block_lt_of_cell? w _ hx105_0)).trans hx105_0
    replace p105 := eq_true p105
    replace q105 := eq_true q105
    go_wp2_with (first | ((with_reducible refine gate_callee (f := 70) rfl ?_); refine goesL_ (some 14) rfl rfl Try.func70 (by kernel_rfl) rfl #[.int .i64 (rd l0_1 x8_1)] rfl xR ?_; (with_reducible refine (impl_isVlan.calls (rd l0_1 x8_1) true _ A7.out).mono ?_); rintro e w' ⟨rfl, ⟨nd, rfl⟩⟩; refine ⟨_, rfl, ?_⟩))
    go_roundg k1
    case measure => have := HK1.out; omega
    case rel => exact ⟨(wrap64 (x8_1 + 1)), xE, H', ⟨by have := HK1.out; omega⟩, ⟨by (with_reducible repeat (first | refine blk_drewN ?_ _ | refine blk_drew ?_ | refine blk_alloc ?_ _)); exact BK104.out⟩, ⟨bl HB.out⟩⟩
   rw [if_pos c9] at H
   have c9b0 : decide (0 < x8_1) = true := decide_eq_true c9
   clear c9
   obtain ⟨ji10, hji10⟩ : ∃ j_ : Int, (wrap64 (x8_1 - 1)) = j_ := ⟨_, rfl⟩
   replace H : (if 0 ≤ (ji10) then (if (ji10) < (l0_1.length : Int) then (if (rd l0_1 x8_1) ≤ (rd l0_1 (ji10)) then (some false) else (impl_MemberOk.l0 k1 l0_1 (l0_1.length : Int) (wrap64 (x8_1 + 1)) a0_0 l0_1)) else (none)) else (none)) = some r := by first | (rw [hji10] at H; exact H) | (simp only [hji10] at H ⊢; exact H)
   (try rw [hji10] at A7)
   have hji10w : (IntKind.i64.wrap (x8_1 - 1)) = ji10 := (i64_w _).trans hji10
   by_cases c11 : 0 ≤ (ji10)
   case neg =>
    rw [if_neg c11] at H
    exact absurd H (by simp)
   rw [if_pos c11] at H
   have c11b0 : decide (0 ≤ (ji10)) = true := decide_eq_true c11
   clear c11
   by_cases c12 : (ji10) < (l0_1.length : Int)
   case neg =>
    rw [if_neg c12] at H
    exact absurd H (by simp)
   rw [if_pos c12] at H
   have c12b0 : decide ((ji10) < (l0_1.length : Int)) = true := decide_eq_true c12
   clear c12
   by_cases c13 : (rd l0_1 x8_1) ≤ (rd l0_1 (ji10))
   case pos =>
    rw [if_pos c13] at H
    have c13b0 : decide ((rd l0_1 x8_1) ≤ (rd l0_1 (ji10))) = true := decide_eq_true c13
    clear c13
    obtain rfl := Option.some.inj H
    have p105 : 0 ≤ (x8_1 : Int) := of_decide_eq_true (by first | (with_reducible assumption) | assumption)
    have q105 : x8_1 < (l0_1.length : Int) := of_decide_eq_true (by first | (with_reducible assumption) | assumption)
    obtain ⟨ad105, e105, hx105_0⟩ := Kd.at_int HR0_1.out x8_1 p105 q105
    cases e105
    replace hx105_0 := (HB.out.cell (World.block_lt_of_cell? w _ hx105_0)).trans hx105_0
    replace p105 := eq_true p105
    replace q105 := eq_true q105
    go_wp2_with (first | ((with_reducible refine gate_callee (f := 70) rfl ?_); refine goesL_ (some 14) rfl rfl Try.func70 (by kernel_rfl) rfl #[.int .i64 (rd l0_1 x8_1)] rfl xR ?_; (with_reducible refine (impl_isVlan.calls (rd l0_1 x8_1) true _ A7.out).mono ?_); rintro e w' ⟨rfl, ⟨nd, rfl⟩⟩; refine ⟨_, rfl, ?_⟩; have hcz14_0 := cI BK104.out 0; have hcz14_1 := cI BK104.out 1; have hfz14_0 := bF BK104.out 0; have hfz14_1 := bF BK104.out 1; have p107 : 0 ≤ ((ji10) : Int) := of_decide_eq_true (by first | (with_reducible assumption) | assumption); have q107 : (ji10) < (l0_1.length : Int) := of_decide_eq_true (by first | (with_reducible assumption) | assumption); obtain ⟨ad107, e107, hx107_0⟩ := Kd.at_int HR0_1.out (ji10) p107 q107; obtain rfl : ad105 = ad107 := (by injection e107); replace hx107_0 := (HB.out.cell (World.block_lt_of_cell? w _ hx107_0)).trans hx107_0; replace p107 := eq_true p107; replace q107 := eq_true q107))
    go_ret
    exact ⟨by first | rfl | (simp [errW_none, errW_some] <;> rfl) | (simp only [← hji10]; first | rfl | (simp [errW_none, errW_some] <;> rfl)) | (simp [*, errW_none, errW_some] <;> rfl), bl HB.out⟩
   rw [if_neg c13] at H
   have c13b0 : decide ((rd l0_1 x8_1) ≤ (rd l0_1 (ji10))) = false := decide_eq_false c13
   clear c13
   have H' := aM H
   clear H
   have p105 : 0 ≤ (x8_1 : Int) := of_decide_eq_true (by first | (with_reducible assumption) | assumption)
   have q105 : x8_1 < (l0_1.length : Int) := of_decide_eq_true (by first | (with_reducible assumption) | assumption)
   obtain ⟨ad105, e105, hx105_0⟩ := Kd.at_int HR0_1.out x8_1 p105 q105
   cases e105
   replace hx105_0 := (HB.out.cell (World.block_lt_of_cell? w _ hx105_0)).trans hx105_0
   replace p105 := eq_true p105
   replace q105 := eq_true q105
   go_wp2_with (first | ((with_reducible refine gate_callee (f := 70) rfl ?_); refine goesL_ (some 14) rfl rfl Try.func70 (by kernel_rfl) rfl #[.int .i64 (rd l0_1 x8_1)] rfl xR ?_; (with_reducible refine (impl_isVlan.calls (rd l0_1 x8_1) true _ A7.out).mono ?_); rintro e w' ⟨rfl, ⟨nd, rfl⟩⟩; refine ⟨_, rfl, ?_⟩; have hcz15_0 := cI BK104.out 0; have hcz15_1 := cI BK104.out 1; have hfz15_0 := bF BK104.out 0; have hfz15_1 := bF BK104.out 1; have p107 : 0 ≤ ((ji10) : Int) := of_decide_eq_true (by first | (with_reducible assumption) | assumption); have q107 : (ji10) < (l0_1.length : Int) := of_decide_eq_true (by first | (with_reducible assumption) | assumption); obtain ⟨ad107, e107, hx107_0⟩ := Kd.at_int HR0_1.out (ji10) p107 q107; obtain rfl : ad105 = ad107 := (by injection e107); replace hx107_0 := (HB.out.cell (World.block_lt_of_cell? w _ hx107_0)).trans hx107_0; replace p107 := eq_true p107; replace q107 := eq_true q107))
   go_roundg k1
   case measure => have := HK1.out; omega
   case rel => exact ⟨(wrap64 (x8_1 + 1)), xE, H', ⟨by have := HK1.out; omega⟩, ⟨by (with_reducible repeat (first | refine blk_drewN ?_ _ | refine blk_drew ?_ | refine blk_alloc ?_ _)); exact BK104.out⟩, ⟨bl HB.out⟩⟩

def impl_isAddr.f (a0 : Int) : Option (Bool) := (impl_inRange.f a0 1 9).bind fun t110 => (some t110)
set_option maxHeartbeats 60000000 in
set_option maxRecDepth 100000 in
theorem impl_isAddr.calls (a0 : Int) (r : Bool) (w : World) (h : impl_isAddr.f a0 = some r) :
  Calls Try.prog 107 #[.int .i64 a0] w fun e w' => e = .returned (.bool r) ∧ Drawn0 w w' := by
 have H : ((impl_inRange.f a0 1 9).bind fun t110 => (some t110)) = some r := h
 clear h
 replace H := Option.bind_eq_some_iff.mp H
 obtain ⟨t110, A20, H⟩ := H
 replace H : (some t110) = some r := H
 have A2 := aM A20
 clear A20
 obtain rfl := Option.some.inj H
 go_enter Try.func107, Try.ntmps107
 go_wp2_with (first | ((with_reducible refine gate_callee (f := 106) rfl ?_); refine goesL_ (some 4) rfl rfl Try.func106 (by kernel_rfl) rfl #[.int .i64 a0, .int .i64 1, .int .i64 9] rfl xR ?_; (with_reducible refine (impl_inRange.calls a0 1 9 t110 _ A2.out).mono ?_); rintro e w' ⟨rfl, ⟨nd, rfl⟩⟩; refine ⟨_, rfl, ?_⟩))
 go_ret
 exact ⟨by first | rfl | (simp; done) | (simp [*]; done), by repeat (first | exact Drawn0.refl _ | apply Drawn0.step)⟩

def impl_FrameOk.f (a0_0 : Int) (a0_1 : Int) (a0_2 : Int) (l0_3 : List Int) : Option (Bool) := (impl_inRange.f a0_0 0 9).bind fun t112 => (if t112 = true then ((impl_isAddr.f a0_1).bind fun t113 => (if t113 = true then ((impl_inRange.f a0_2 0 4).bind fun t114 => (if t114 = true then (some (decide ((l0_3.length : Int) ≤ 30))) else (some false))) else (some false))) else (some false))
set_option maxHeartbeats 60000000 in
set_option maxRecDepth 100000 in
theorem impl_FrameOk.calls (a0_0 : Int) (a0_1 : Int) (a0_2 : Int) (A0_3 : Option Addr) (c0_3 : Nat) (l0_3 : List Int) (r : Bool) (w : World) (hr0_3 : Kd.C (Kd.int .u8) w A0_3 l0_3.length l0_3) (hc0_3 : l0_3.length ≤ c0_3) (h : impl_FrameOk.f a0_0 a0_1 a0_2 l0_3 = some r) :
  Calls Try.prog 55 #[.agg #[.int .i64 a0_0, .int .i64 a0_1, .int .i64 a0_2, .slice A0_3 l0_3.length c0_3]] w fun e w' => e = .returned (.bool r) ∧ Below w.heap.size w w' := by
 have hu28 := Try.underlying28
 have HR0_3 := aM hr0_3
 have HC0_3 := aM hc0_3
 clear hr0_3 hc0_3
 have HB := aM (Below.refl w.heap.size w)
 have H : ((impl_inRange.f a0_0 0 9).bind fun t112 => (if t112 = true then ((impl_isAddr.f a0_1).bind fun t113 => (if t113 = true then ((impl_inRange.f a0_2 0 4).bind fun t114 => (if t114 = true then (some (decide ((l0_3.length : Int) ≤ 30))) else (some false))) else (some false))) else (some false))) = some r := h
 clear h
 replace H := Option.bind_eq_some_iff.mp H
 obtain ⟨t112, A20, H⟩ := H
 replace H : (if t112 = true then ((impl_isAddr.f a0_1).bind fun t113 => (if t113 = true then ((impl_inRange.f a0_2 0 4).bind fun t114 => (if t114 = true then (some (decide ((l0_3.length : Int) ≤ 30))) else (some false))) else (some false))) else (some false)) = some r := H
 have A2 := aM A20
 clear A20
 by_cases c3 : t112 = true
 case neg =>
  replace c3 := Bool.eq_false_iff.mpr c3
  subst c3
  have H1 : (some false) = some r := by rw [if_neg (show ¬ (false = true) by decide)] at H; exact H
  clear H
  have H := H1
  clear H1
  obtain rfl := Option.some.inj H
  go_enter Try.func55, Try.ntmps55
  go_wp2_with (first | ((with_reducible refine gate_dst (N := 1) rfl ?_); (try (refine gate_guard (by rfl) ?_; dsimp only)); refine box_event ?hg (N := 1) ?hd (cs := #[.int .i64 a0_0, .int .i64 a0_1, .int .i64 a0_2, .slice A0_3 l0_3.length c0_3]) (t := 28) ?hr ?_; (case hd => rfl); (case hg => rfl); (case hr => first | (go_simp; done) | (go_simp; rfl)); intro gb111 hg w14 hbox hb; have n0_ := aM (bS (bl HB.out) hb); have n1_ := aM (hbox); have n2_ := aM ((by rw [hg]; exact (below_size (bl HB.out)) : w.heap.size ≤ gb111)); have n3_ := aM ((by rw [hg]; exact (below_size (bl HB.out)) : w.heap.size ≤ gb111)); clear HB; have HB := n0_; have BK111 := n1_; have GW111 := n2_; have GE111 := n3_; clear n0_ n1_ n2_ n3_; clear hb hbox hg; have hcz15_0 := cI BK111.out 0; have hcz15_1 := cI BK111.out 1; have hcz15_2 := cI BK111.out 2; have hcz15_3 := cI BK111.out 3; have hfz15_0 := bF BK111.out 0; have hfz15_1 := bF BK111.out 1; have hfz15_2 := bF BK111.out 2; have hfz15_3 := bF BK111.out 3) | ((with_reducible refine gate_callee (f := 106) rfl ?_); refine goesL_ (some 5) rfl rfl Try.func106 (by kernel_rfl) rfl #[.int .i64 a0_0, .int .i64 0, .int .i64 9] rfl xR ?_; (with_reducible refine (impl_inRange.calls a0_0 0 9 false _ A2.out).mono ?_); rintro e w' ⟨rfl, ⟨nd, rfl⟩⟩; refine ⟨_, rfl, ?_⟩))
  go_ret
  exact ⟨xW, bl HB.out⟩
 subst c3
 have H1 : ((impl_isAddr.f a0_1).bind fun t113 => (if t113 = true then ((impl_inRange.f a0_2 0 4).bind fun t114 => (if t114 = true then (some (decide ((l0_3.length : Int) ≤ 30))) else (some false))) else (some false))) = some r := by rw [if_pos rfl] at H; exact H
 clear H
 have H := H1
 clear H1
 replace H := Option.bind_eq_some_iff.mp H
 obtain ⟨t113, A40, H⟩ := H
 replace H : (if t113 = true then ((impl_inRange.f a0_2 0 4).bind fun t114 => (if t114 = true then (some (decide ((l0_3.length : Int) ≤ 30))) else (some false))) else (some false)) = some r := H
 have A4 := aM A40
 clear A40
 by_cases c5 : t113 = true
 case neg =>
  replace c5 := Bool.eq_false_iff.mpr c5
  subst c5
  have H1 : (some false) = some r := by rw [if_neg (show ¬ (false = true) by decide)] at H; exact H
  clear H
  have H := H1
  clear H1
  obtain rfl := Option.some.inj H
  go_enter Try.func55, Try.ntmps55
  go_wp2_with (first | ((with_reducible refine gate_dst (N := 1) rfl ?_); (try (refine gate_guard (by rfl) ?_; dsimp only)); refine box_event ?hg (N := 1) ?hd (cs := #[.int .i64 a0_0, .int .i64 a0_1, .int .i64 a0_2, .slice A0_3 l0_3.length c0_3]) (t := 28) ?hr ?_; (case hd => rfl); (case hg => rfl); (case hr => first | (go_simp; done) | (go_simp; rfl)); intro gb111 hg w12 hbox hb; have n0_ := aM (bS (bl HB.out) hb); have n1_ := aM (hbox); have n2_ := aM ((by rw [hg]; exact (below_size (bl HB.out)) : w.heap.size ≤ gb111)); have n3_ := aM ((by rw [hg]; exact (below_size (bl HB.out)) : w.heap.size ≤ gb111)); clear HB; have HB := n0_; have BK111 := n1_; have GW111 := n2_; have GE111 := n3_; clear n0_ n1_ n2_ n3_; clear hb hbox hg; have hcz13_0 := cI BK111.out 0; have hcz13_1 := cI BK111.out 1; have hcz13_2 := cI BK111.out 2; have hcz13_3 := cI BK111.out 3; have hfz13_0 := bF BK111.out 0; have hfz13_1 := bF BK111.out 1; have hfz13_2 := bF BK111.out 2; have hfz13_3 := bF BK111.out 3) | ((with_reducible refine gate_callee (f := 106) rfl ?_); refine goesL_ (some 5) rfl rfl Try.func106 (by kernel_rfl) rfl #[.int .i64 a0_0, .int .i64 0, .int .i64 9] rfl xR ?_; (with_reducible refine (impl_inRange.calls a0_0 0 9 true _ A2.out).mono ?_); rintro e w' ⟨rfl, ⟨nd, rfl⟩⟩; refine ⟨_, rfl, ?_⟩) | (go_at_call 107; (with_reducible refine (impl_isAddr.calls a0_1 false _ A4.out).mono ?_); rintro e w' ⟨rfl, ⟨nd, rfl⟩⟩))
  go_ret
  exact ⟨xW, bl HB.out⟩
 subst c5
 have H1 : ((impl_inRange.f a0_2 0 4).bind fun t114 => (if t114 = true then (some (decide ((l0_3.length : Int) ≤ 30))) else (some false))) = some r := by rw [if_pos rfl] at H; exact H
 clear H
 have H := H1
 clear H1
 replace H := Option.bind_eq_some_iff.mp H
 obtain ⟨t114, A60, H⟩ := H
 replace H : (if t114 = true then (some (decide ((l0_3.length : Int) ≤ 30))) else (some false)) = some r := H
 have A6 := aM A60
 clear A60
 by_cases c7 : t114 = true
 case pos =>
  subst c7
  have H1 : (some (decide ((l0_3.length : Int) ≤ 30))) = some r := by rw [if_pos rfl] at H; exact H
  clear H
  have H := H1
  clear H1
  obtain rfl := Option.some.inj H
  go_enter Try.func55, Try.ntmps55
  go_wp2_with (first | ((with_reducible refine gate_dst (N := 1) rfl ?_); (try (refine gate_guard (by rfl) ?_; dsimp only)); refine box_event ?hg (N := 1) ?hd (cs := #[.int .i64 a0_0, .int .i64 a0_1, .int .i64 a0_2, .slice A0_3 l0_3.length c0_3]) (t := 28) ?hr ?_; (case hd => rfl); (case hg => rfl); (case hr => first | (go_simp; done) | (go_simp; rfl)); intro gb111 hg w8 hbox hb; have n0_ := aM (bS (bl HB.out) hb); have n1_ := aM (hbox); have n2_ := aM ((by rw [hg]; exact (below_size (bl HB.out)) : w.heap.size ≤ gb111)); have n3_ := aM ((by rw [hg]; exact (below_size (bl HB.out)) : w.heap.size ≤ gb111)); clear HB; have HB := n0_; have BK111 := n1_; have GW111 := n2_; have GE111 := n3_; clear n0_ n1_ n2_ n3_; clear hb hbox hg; have hcz9_0 := cI BK111.out 0; have hcz9_1 := cI BK111.out 1; have hcz9_2 := cI BK111.out 2; have hcz9_3 := cI BK111.out 3; have hfz9_0 := bF BK111.out 0; have hfz9_1 := bF BK111.out 1; have hfz9_2 := bF BK111.out 2; have hfz9_3 := bF BK111.out 3) | ((with_reducible refine gate_callee (f := 106) rfl ?_); refine goesL_ (some 5) rfl rfl Try.func106 (by kernel_rfl) rfl #[.int .i64 a0_0, .int .i64 0, .int .i64 9] rfl xR ?_; (with_reducible refine (impl_inRange.calls a0_0 0 9 true _ A2.out).mono ?_); rintro e w' ⟨rfl, ⟨nd, rfl⟩⟩; refine ⟨_, rfl, ?_⟩) | (go_at_call 107; (with_reducible refine (impl_isAddr.calls a0_1 true _ A4.out).mono ?_); rintro e w' ⟨rfl, ⟨nd, rfl⟩⟩) | (go_at_call 106; (with_reducible refine (impl_inRange.calls a0_2 0 4 true _ A6.out).mono ?_); rintro e w' ⟨rfl, ⟨nd, rfl⟩⟩))
  go_ret
  exact ⟨xW, bl HB.out⟩
 replace c7 := Bool.eq_false_iff.mpr c7
 subst c7
 have H1 : (some false) = some r := by rw [if_neg (show ¬ (false = true) by decide)] at H; exact H
 clear H
 have H := H1
 clear H1
 obtain rfl := Option.some.inj H
 go_enter Try.func55, Try.ntmps55
 go_wp2_with (first | ((with_reducible refine gate_dst (N := 1) rfl ?_); (try (refine gate_guard (by rfl) ?_; dsimp only)); refine box_event ?hg (N := 1) ?hd (cs := #[.int .i64 a0_0, .int .i64 a0_1, .int .i64 a0_2, .slice A0_3 l0_3.length c0_3]) (t := 28) ?hr ?_; (case hd => rfl); (case hg => rfl); (case hr => first | (go_simp; done) | (go_simp; rfl)); intro gb111 hg w10 hbox hb; have n0_ := aM (bS (bl HB.out) hb); have n1_ := aM (hbox); have n2_ := aM ((by rw [hg]; exact (below_size (bl HB.out)) : w.heap.size ≤ gb111)); have n3_ := aM ((by rw [hg]; exact (below_size (bl HB.out)) : w.heap.size ≤ gb111)); clear HB; have HB := n0_; have BK111 := n1_; have GW111 := n2_; have GE111 := n3_; clear n0_ n1_ n2_ n3_; clear hb hbox hg; have hcz11_0 := cI BK111.out 0; have hcz11_1 := cI BK111.out 1; have hcz11_2 := cI BK111.out 2; have hcz11_3 := cI BK111.out 3; have hfz11_0 := bF BK111.out 0; have hfz11_1 := bF BK111.out 1; have hfz11_2 := bF BK111.out 2; have hfz11_3 := bF BK111.out 3) | ((with_reducible refine gate_callee (f := 106) rfl ?_); refine goesL_ (some 5) rfl rfl Try.func106 (by kernel_rfl) rfl #[.int .i64 a0_0, .int .i64 0, .int .i64 9] rfl xR ?_; (with_reducible refine (impl_inRange.calls a0_0 0 9 true _ A2.out).mono ?_); rintro e w' ⟨rfl, ⟨nd, rfl⟩⟩; refine ⟨_, rfl, ?_⟩) | (go_at_call 107; (with_reducible refine (impl_isAddr.calls a0_1 true _ A4.out).mono ?_); rintro e w' ⟨rfl, ⟨nd, rfl⟩⟩) | (go_at_call 106; (with_reducible refine (impl_inRange.calls a0_2 0 4 false _ A6.out).mono ?_); rintro e w' ⟨rfl, ⟨nd, rfl⟩⟩))
 go_ret
 exact ⟨xW, bl HB.out⟩

def slices_Clone_byte_byte.f (l0 : List Int) : Option (List Int) := (some (([] : List Int) : List Int)).bind fun y115 => (if y115.length + l0.length < 140737488355328 then (some (y115 ++ l0)) else (none))
set_option maxHeartbeats 60000000 in
set_option maxRecDepth 100000 in
theorem slices_Clone_byte_byte.calls (A0 : Option Addr) (c0 : Nat) (l0 : List Int) (r : List Int) (w : World) (hr0 : Kd.C (Kd.int .u8) w A0 l0.length l0) (hc0 : l0.length ≤ c0) (h : slices_Clone_byte_byte.f l0 = some r) :
  Calls Try.prog 90 #[.slice A0 l0.length c0] w fun e w' => ∃ v0_ : Value, e = .returned (v0_) ∧ Kd.R (Kd.int .u8) 5 w' w.heap.size (fun _ => True) v0_ r ∧ Below w.heap.size w w' := by
 have qn : ∀ (w : World) (a : Option Addr) (n c n' c' : Nat), (binOp .eql 22 (.slice a n c) (.slice none n' c')).run Try.prog w = .ok (.bool a.isNone) w := fun w a n c n' c' => Lib.run_eql_slice_nil w _ _ a n c n' c' Try.underlying22
 by_cases hnil : A0 = none
 ·have hl : l0 = [] := by
   have hc := hr0.2.2
   rw [hnil] at hc
   cases l0 with
   | nil => rfl
   | cons x t => obtain ⟨_, hx, _⟩ := hc (by simp); cases hx
  subst hnil
  subst hl
  have hr : r = [] := by simpa [slices_Clone_byte_byte.f] using h.symm
  subst hr
  clear hr0 h
  go_enter Try.func90, Try.ntmps90
  go_wp2
  go_ret
  exact ⟨_, rfl, Kd.R_nil _ _ _ _ _, Below.refl _ _⟩
 have hsome : A0.isNone = false := by cases A0 <;> simp at hnil ⊢
 clear hnil
 have HR0 := aM hr0
 have HC0 := aM hc0
 clear hr0 hc0
 have HB := aM (Below.refl w.heap.size w)
 have H : ((some (([] : List Int) : List Int)).bind fun y115 => (if y115.length + l0.length < 140737488355328 then (some (y115 ++ l0)) else (none))) = some r := h
 clear h
 obtain ⟨y115, hy115⟩ : ∃ y_ : List Int, y_ = (([] : List Int)) := ⟨_, rfl⟩
 replace H : (if y115.length + l0.length < 140737488355328 then (some (y115 ++ l0)) else (none)) = some r := by first | (rw [hy115]; with_reducible exact H) | (have H2_ := (Option.bind_some _ _).symm.trans H; rw [hy115]; with_reducible exact H2_) | (have H2_ := (Option.bind_some _ _).symm.trans H; with_reducible exact H2_) | with_reducible exact H | (rw [hy115]; exact H) | exact H
 have Ny115 := aM hy115
 clear hy115
 by_cases c2 : y115.length + l0.length < 140737488355328
 case neg =>
  rw [if_neg c2] at H
  exact absurd H (by simp)
 rw [if_pos c2] at H
 have LMc2 := aM c2
 clear c2
 obtain ⟨y118, hy118⟩ : ∃ y_ : List Int, y_ = (y115 ++ l0) := ⟨_, rfl⟩
 replace H : (some y118) = some r := by first | (rw [hy118]; with_reducible exact H) | (have H2_ := (Option.bind_some _ _).symm.trans H; rw [hy118]; with_reducible exact H2_) | (have H2_ := (Option.bind_some _ _).symm.trans H; with_reducible exact H2_) | with_reducible exact H | (rw [hy118]; exact H) | exact H
 have Ny118 := aM hy118
 clear hy118
 obtain rfl := Option.some.inj H
 go_enter Try.func90, Try.ntmps90
 go_wp2_with (first | ((with_reducible refine gate_dst (N := 5) rfl ?_); refine Kd.R_lit (Kd.int .u8) _ 5 ?hg (N := 5) ?hd (xs := ([] : List Int)) (inner := []) (ok := fun _ => True) (okp := fun _ => True) ?hr ?hp (fun _ hk => hk) trivial (Below.refl _ _) (Nat.le_refl _) (by simp) ?_; (case hd => rfl); (case hg => rfl); (case hr => first | (go_simp; done) | (go_simp; rfl) | (obtain ⟨A_, c_, e_⟩ := Kd.R_slice HO117.out; subst e_; (first | (go_simp; done) | (go_simp; rfl))) | (obtain ⟨A_, c_, e_⟩ := Kd.S_slice HO117.out; subst e_; (first | (go_simp; done) | (go_simp; rfl)))); (case hp => exact (Reps.none _ _)); intro v116 w3 ho4 hb hg_ hnew_; clear hg_ hnew_; (first | rw [← Ny115.out] at ho4 | (simp only [Int.reduceToNat] at ho4; rw [← Ny115.out] at ho4)); have n0_ := aM (Kd.R_lower ho4 (below_size (bl HB.out))); have n1_ := aM (bS (bl HB.out) hb); clear HB; have HO117 := n0_; have HB := n1_; clear n0_ n1_; clear hb ho4) | ((with_reducible refine gate_builtin (b := .append) (xs := #[.tmp 5, .tmp 6]) rfl ?_); at_builtin; refine Kd.R_append_rows (Kd.int .u8) (w0 := w) w.heap.size rfl (.tmp 5) (.tmp 6) 22 5 (.int .u8 0) 1 rfl Try.underlying22 info5 rfl (by decide) (by omega) v116 y115 l0 _ _ _ (fun _ => True) (fun _ => False) rfl rfl ?aO ?aR (fun _ _ h => h) (fun _ h => h.elim) ?aF ?aB ?aS ?aL ?_; (case aR => repeat (first | exact (cB HR0.out HB.out) | (with_reducible refine Kd.C_alloc ?_ _) | (with_reducible refine Kd.C_drewN ?_ _) | (with_reducible refine Kd.C_drew ?_))); (case aB => exact (bl HB.out)); (case aF => exact (fun _ _ => trivial)); (case aO => exact (kr HO117.out)); (case aS => exact (below_size (bl HB.out))); (case aL => have := LMc2.out; omega); intro v119 w5 ho hb hg hat; rw [← Ny118.out] at ho; have n0_ := aM (hb); have n1_ := aM (ho); clear HB HO117; have HB := n0_; have HO120 := n1_; clear n0_ n1_; clear ho hb hg hat))
 go_ret
 exact ⟨_, xW, by (with_reducible repeat (first | apply Kd.R_alloc | apply Kd.R_drewN | apply Kd.R_drew)); exact HO120.out, bl HB.out⟩

def impl_copyFrame.f (a0_0 : Int) (a0_1 : Int) (a0_2 : Int) (l0_3 : List Int) : Option (Int × Int × Int × List Int) := (slices_Clone_byte_byte.f l0_3).bind fun t123 => (some (a0_0, a0_1, a0_2, t123))
set_option maxHeartbeats 60000000 in
set_option maxRecDepth 100000 in
theorem impl_copyFrame.calls (a0_0 : Int) (a0_1 : Int) (a0_2 : Int) (A0_3 : Option Addr) (c0_3 : Nat) (l0_3 : List Int) (r1 : Int) (r2 : Int) (r3 : Int) (r4 : List Int) (w : World) (hr0_3 : Kd.C (Kd.int .u8) w A0_3 l0_3.length l0_3) (hc0_3 : l0_3.length ≤ c0_3) (h : impl_copyFrame.f a0_0 a0_1 a0_2 l0_3 = some (r1, r2, r3, r4)) :
  Calls Try.prog 63 #[.agg #[.int .i64 a0_0, .int .i64 a0_1, .int .i64 a0_2, .slice A0_3 l0_3.length c0_3]] w fun e w' => ∃ v3_ : Value, e = .returned (.agg #[.int .i64 r1, .int .i64 r2, .int .i64 r3, v3_]) ∧ Kd.R (Kd.int .u8) 5 w' w.heap.size (fun _ => True) v3_ r4 ∧ Below w.heap.size w w' := by
 have hu28 := Try.underlying28
 have HR0_3 := aM hr0_3
 have HC0_3 := aM hc0_3
 clear hr0_3 hc0_3
 have HB := aM (Below.refl w.heap.size w)
 have H : ((slices_Clone_byte_byte.f l0_3).bind fun t123 => (some (a0_0, a0_1, a0_2, t123))) = some (r1, r2, r3, r4) := h
 clear h
 replace H := Option.bind_eq_some_iff.mp H
 obtain ⟨t123, A20, H⟩ := H
 replace H : (some (a0_0, a0_1, a0_2, t123)) = some (r1, r2, r3, r4) := H
 have A2 := aM A20
 clear A20
 simp only [Option.some.injEq, Prod.mk.injEq] at H
 obtain ⟨rfl, rfl, rfl, rfl⟩ := H
 go_enter Try.func63, Try.ntmps63
 go_wp2_with (first | ((with_reducible refine gate_dst (N := 1) rfl ?_); refine box_event ?hg (N := 1) ?hd (cs := #[.int .i64 a0_0, .int .i64 a0_1, .int .i64 a0_2, .slice A0_3 l0_3.length c0_3]) (t := 28) ?hr ?_; (case hd => rfl); (case hg => rfl); (case hr => first | (go_simp; done) | (go_simp; rfl)); intro gb121 hg w3 hbox hb; have n0_ := aM (bS (bl HB.out) hb); have n1_ := aM (hbox); have n2_ := aM ((by rw [hg]; exact (below_size (bl HB.out)) : w.heap.size ≤ gb121)); have n3_ := aM ((by rw [hg]; exact (below_size (bl HB.out)) : w.heap.size ≤ gb121)); clear HB; have HB := n0_; have BK121 := n1_; have GW121 := n2_; have GE121 := n3_; clear n0_ n1_ n2_ n3_; clear hb hbox hg) | ((with_reducible refine gate_dst (N := 2) rfl ?_); refine box_event ?hg (N := 2) ?hd (cs := #[.int .i64 0, .int .i64 0, .int .i64 0, .slice none 0 0]) (t := 28) ?hr ?_; (case hd => rfl); (case hg => rfl); (case hr => first | (go_simp; done) | (go_simp; rfl)); intro gb122 hg w4 hbox hb; have n0_ := aM (bB (g := gb121) (o := .cells #[.int .i64 a0_0, .int .i64 a0_1, .int .i64 a0_2, .slice A0_3 l0_3.length c0_3] 28 (0, 0)) (bk BK121.out) hb); have n1_ := aM (bS (bl HB.out) hb); have n2_ := aM (hbox); have n3_ := aM ((by rw [hg]; exact (below_size (bl HB.out)) : w.heap.size ≤ gb122)); have n4_ := aM ((by rw [hg]; exact (below_size (bl HB.out)) : w.heap.size ≤ gb122)); have n5_ := aM ((by rw [hg]; exact Nat.ne_of_lt (blk_lt (g := gb121) (o := .cells #[.int .i64 a0_0, .int .i64 a0_1, .int .i64 a0_2, .slice A0_3 l0_3.length c0_3] 28 (0, 0)) (bk BK121.out)) : gb121 ≠ gb122)); have n6_ := aM ((by rw [hg]; exact Nat.ne_of_gt (blk_lt (g := gb121) (o := .cells #[.int .i64 a0_0, .int .i64 a0_1, .int .i64 a0_2, .slice A0_3 l0_3.length c0_3] 28 (0, 0)) (bk BK121.out)) : gb122 ≠ gb121)); clear BK121 HB; have BK121 := n0_; have HB := n1_; have BK122 := n2_; have GW122 := n3_; have GE122 := n4_; have NB121_122 := n5_; have NB122_121 := n6_; clear n0_ n1_ n2_ n3_ n4_ n5_ n6_; clear hb hbox hg; have hnb5 := NB121_122.out; have hnc5 := NB122_121.out; have hcz6_0 := cI BK121.out 0; have hcz6_1 := cI BK121.out 1; have hcz6_2 := cI BK121.out 2; have hcz6_3 := cI BK121.out 3; have hfz6_0 := bF BK121.out 0; have hfz6_1 := bF BK121.out 1; have hfz6_2 := bF BK121.out 2; have hfz6_3 := bF BK121.out 3) | ((with_reducible refine gate_callee (f := 90) rfl ?_); refine goesL_ (some 5) rfl rfl Try.func90 (by kernel_rfl) rfl #[.slice A0_3 l0_3.length c0_3] rfl xR ?_; (with_reducible refine (slices_Clone_byte_byte.calls _ _ l0_3 t123 _ ?side1 ?side2 A2.out).mono ?_); (case side1 => repeat (first | exact (cB HR0_3.out HB.out) | (with_reducible refine Kd.C_alloc ?_ _) | (with_reducible refine Kd.C_drewN ?_ _) | (with_reducible refine Kd.C_drew ?_))); (case side2 => exact HC0_3.out); rintro e w7 ⟨v124, rfl, ho0, hb⟩; refine ⟨_, rfl, ?_⟩; have n0_ := aM (Kd.R_lower ho0 (below_size (bl HB.out))); have n1_ := aM (bB (g := gb121) (o := .cells #[.int .i64 a0_0, .int .i64 a0_1, .int .i64 a0_2, .slice A0_3 l0_3.length c0_3] 28 (0, 0)) (bk BK121.out) hb); have n2_ := aM (bB (g := gb122) (o := .cells #[.int .i64 0, .int .i64 0, .int .i64 0, .slice none 0 0] 28 (0, 0)) (bk BK122.out) hb); have n3_ := aM (bS (bl HB.out) hb); clear BK121 BK122 HB; have HO125 := n0_; have BK121 := n1_; have BK122 := n2_; have HB := n3_; clear n0_ n1_ n2_ n3_; (try clear hb); (try clear ho0); obtain ⟨Ao8, co8, eo8⟩ := Kd.R_slice HO125.out; subst eo8; have hcz9_0 := cI BK121.out 0; have hcz9_1 := cI BK121.out 1; have hcz9_2 := cI BK121.out 2; have hcz9_3 := cI BK121.out 3; have hfz9_0 := bF BK121.out 0; have hfz9_1 := bF BK121.out 1; have hfz9_2 := bF BK121.out 2; have hfz9_3 := bF BK121.out 3; have hcz10_0 := cI BK122.out 0; have hcz10_1 := cI BK122.out 1; have hcz10_2 := cI BK122.out 2; have hcz10_3 := cI BK122.out 3; have hfz10_0 := bF BK122.out 0; have hfz10_1 := bF BK122.out 1; have hfz10_2 := bF BK122.out 2; have hfz10_3 := bF BK122.out 3))
 refine bodyPost_ret (results_cell_row rfl _ _ gb122 28 #[.int .i64 a0_0, .int .i64 a0_1, .int .i64 a0_2, .slice Ao8 t123.length co8] (0, 0) _ rfl (by (with_reducible repeat (first | refine blk_drewN ?_ _ | refine blk_drew ?_ | refine blk_alloc ?_ _)); refine blk_put (cs := #[.int .i64 a0_0, .int .i64 a0_1, .int .i64 a0_2, .slice none 0 0]) ?_ 3 _ rfl; (with_reducible repeat (first | refine blk_drewN ?_ _ | refine blk_drew ?_ | refine blk_alloc ?_ _)); refine blk_put (cs := #[.int .i64 a0_0, .int .i64 a0_1, .int .i64 0, .slice none 0 0]) ?_ 2 _ rfl; (with_reducible repeat (first | refine blk_drewN ?_ _ | refine blk_drew ?_ | refine blk_alloc ?_ _)); refine blk_put (cs := #[.int .i64 a0_0, .int .i64 0, .int .i64 0, .slice none 0 0]) ?_ 1 _ rfl; (with_reducible repeat (first | refine blk_drewN ?_ _ | refine blk_drew ?_ | refine blk_alloc ?_ _)); refine blk_put (cs := #[.int .i64 0, .int .i64 0, .int .i64 0, .slice none 0 0]) ?_ 0 _ rfl; (with_reducible repeat (first | refine blk_drewN ?_ _ | refine blk_drew ?_ | refine blk_alloc ?_ _)); refine blk_far ?_ NB122_121.out _; (with_reducible repeat (first | refine blk_drewN ?_ _ | refine blk_drew ?_ | refine blk_alloc ?_ _)); exact BK122.out) Try.underlying28 rfl (by kernel_rfl)) rfl ?_
 exact ⟨_, xW, by (with_reducible repeat (first | apply Kd.R_alloc | apply Kd.R_drewN | apply Kd.R_drew)); exact Kd.R_mono (kF (p := ⟨gb122, 3, none⟩) (kF (p := ⟨gb122, 2, none⟩) (kF (p := ⟨gb122, 1, none⟩) (kF (p := ⟨gb122, 0, none⟩) (kF (p := ⟨gb121, 3, none⟩) (Kd.R_types (Kd.R_types HO125.out BK121.out (by decide)) BK122.out (by decide)) (fun _ hk => hk.1.2) (.slice Ao8 t123.length co8)) (fun _ hk => hk.2) (.int .i64 a0_0)) (fun _ hk => hk.2) (.int .i64 a0_1)) (fun _ hk => hk.2) (.int .i64 a0_2)) (fun _ hk => hk.2) (.slice Ao8 t123.length co8)) (fun _ hk => trivial), bl HB.out⟩

def impl_Inside.j0 : Nat → Bool → Int → List Int → Int → Int → Int → List Int → Option (Int × Int × Int × List Int × Bool)
 | 0, _, _, _, _, _, _, _ => none
 | k + 1, x14, x127000, x127001, x128000, x128001, x128002, x128003 => if x14 = true then (some (0, 0, 0, ([] : List Int), false)) else ((impl_copyFrame.f x128000 x128001 x128002 x128003).bind fun bt131 => (if bt131.2.2.1 = 0 then ((slices_Contains_int_int.f k x127001 x127000).bind fun t138 => (if t138 = true then (some (bt131.1, bt131.2.1, x127000, bt131.2.2.2, true)) else (some (0, 0, 0, ([] : List Int), false)))) else ((slices_Contains_int_int.f k x127001 bt131.2.2.1).bind fun t139 => (if t139 = true then (some (bt131.1, bt131.2.1, bt131.2.2.1, bt131.2.2.2, true)) else (some (0, 0, 0, ([] : List Int), false))))))
def impl_Inside.f (k : Nat) (a0_0 : Int) (l0_1 : List Int) (a1_0 : Int) (a1_1 : Int) (a1_2 : Int) (l1_3 : List Int) : Option (Int × Int × Int × List Int × Bool) := (impl_MemberOk.f k a0_0 l0_1).bind fun t129 => (if t129 = true then ((impl_FrameOk.f a1_0 a1_1 a1_2 l1_3).bind fun t130 => (impl_Inside.j0 k (!t130) a0_0 l0_1 a1_0 a1_1 a1_2 l1_3)) else (impl_Inside.j0 k true a0_0 l0_1 a1_0 a1_1 a1_2 l1_3))
theorem impl_Inside.mono_l : ∀ k, (∀ y0 y1 y2 y3 y4 y5 y6, LeO (impl_Inside.j0 k y0 y1 y2 y3 y4 y5 y6) (impl_Inside.j0 (k + 1) y0 y1 y2 y3 y4 y5 y6))
 | 0 => fun _ _ _ _ _ _ _ r h => by simp [impl_Inside.j0] at h
 | k + 1 => by
  have ih0 := impl_Inside.mono_l k
  ·intro y0 y1 y2 y3 y4 y5 y6
   unfold impl_Inside.j0
   repeat' first
   | (with_reducible exact ih0 _ _ _ _ _ _ _)
   | (with_reducible exact impl_MemberOk.mono _ _ _)
   | (with_reducible exact slices_Contains_int_int.mono _ _ _)
   | (with_reducible exact LeO.refl _)
   | (with_reducible exact LeO.none _)
   | (with_reducible refine LeO.ite ?_ ?_)
   | (with_reducible refine LeO.bind ?_ (fun _ => ?_))
   | exact ih0 _ _ _ _ _ _ _
   | exact impl_MemberOk.mono _ _ _
   | exact slices_Contains_int_int.mono _ _ _
   | exact LeO.none _
   | refine LeO.ite ?_ ?_
   | refine LeO.bind ?_ (fun _ => ?_)
theorem impl_Inside.mono : ∀ a0 a1 a2 a3 a4 a5 k, LeO (impl_Inside.f k a0 a1 a2 a3 a4 a5) (impl_Inside.f (k + 1) a0 a1 a2 a3 a4 a5) := by
 intro a0 a1 a2 a3 a4 a5 k
 have ih0 := impl_Inside.mono_l k
 unfold impl_Inside.f
 repeat' first
   | (with_reducible exact ih0 _ _ _ _ _ _ _)
   | (with_reducible exact impl_MemberOk.mono _ _ _)
   | (with_reducible exact slices_Contains_int_int.mono _ _ _)
   | (with_reducible exact LeO.refl _)
   | (with_reducible exact LeO.none _)
   | (with_reducible refine LeO.ite ?_ ?_)
   | (with_reducible refine LeO.bind ?_ (fun _ => ?_))
   | exact ih0 _ _ _ _ _ _ _
   | exact impl_MemberOk.mono _ _ _
   | exact slices_Contains_int_int.mono _ _ _
   | exact LeO.none _
   | refine LeO.ite ?_ ?_
   | refine LeO.bind ?_ (fun _ => ?_)
set_option maxHeartbeats 60000000 in
set_option maxRecDepth 100000 in
theorem impl_Inside.calls (k : Nat) (a0_0 : Int) (A0_1 : Option Addr) (c0_1 : Nat) (l0_1 : List Int) (a1_0 : Int) (a1_1 : Int) (a1_2 : Int) (A1_3 : Option Addr) (c1_3 : Nat) (l1_3 : List Int) (r1 : Int) (r2 : Int) (r3 : Int) (r4 : List Int) (r5 : Bool) (w : World) (hr0_1 : Kd.C (Kd.int .i64) w A0_1 l0_1.length l0_1) (hc0_1 : l0_1.length ≤ c0_1) (hr1_3 : Kd.C (Kd.int .u8) w A1_3 l1_3.length l1_3) (hc1_3 : l1_3.length ≤ c1_3) (h : impl_Inside.f k a0_0 l0_1 a1_0 a1_1 a1_2 l1_3 = some (r1, r2, r3, r4, r5)) :
  Calls Try.prog 17 #[.agg #[.int .i64 a0_0, .slice A0_1 l0_1.length c0_1], .agg #[.int .i64 a1_0, .int .i64 a1_1, .int .i64 a1_2, .slice A1_3 l1_3.length c1_3]] w fun e w' => ∃ v3_ : Value, e = .returned (.tuple #[.agg #[.int .i64 r1, .int .i64 r2, .int .i64 r3, v3_], .bool r5]) ∧ Kd.R (Kd.int .u8) 5 w' w.heap.size (fun _ => True) v3_ r4 ∧ Below w.heap.size w w' := by
 have hu26 := Try.underlying26
 have hu28 := Try.underlying28
 have HR0_1 := aM hr0_1
 have HC0_1 := aM hc0_1
 clear hr0_1 hc0_1
 have HR1_3 := aM hr1_3
 have HC1_3 := aM hc1_3
 clear hr1_3 hc1_3
 have HB := aM (Below.refl w.heap.size w)
 have H : ((impl_MemberOk.f k a0_0 l0_1).bind fun t129 => (if t129 = true then ((impl_FrameOk.f a1_0 a1_1 a1_2 l1_3).bind fun t130 => (impl_Inside.j0 k (!t130) a0_0 l0_1 a1_0 a1_1 a1_2 l1_3)) else (impl_Inside.j0 k true a0_0 l0_1 a1_0 a1_1 a1_2 l1_3))) = some (r1, r2, r3, r4, r5) := h
 clear h
 have HC3 := aM H
 clear H
 go_enter Try.func17, Try.ntmps17
 go_upto_region 1 with (first | ((with_reducible refine gate_dst (N := 2) rfl ?_); refine box_event ?hg (N := 2) ?hd (cs := #[.int .i64 a0_0, .slice A0_1 l0_1.length c0_1]) (t := 26) ?hr ?_; (case hd => rfl); (case hg => rfl); (case hr => first | (go_simp; done) | (go_simp; rfl)); intro gb126 hg w4 hbox hb; have n0_ := aM (bS (bl HB.out) hb); have n1_ := aM (hbox); have n2_ := aM ((by rw [hg]; exact (below_size (bl HB.out)) : w.heap.size ≤ gb126)); have n3_ := aM ((by rw [hg]; exact (below_size (bl HB.out)) : w.heap.size ≤ gb126)); clear HB; have HB := n0_; have BK126 := n1_; have GW126 := n2_; have GE126 := n3_; clear n0_ n1_ n2_ n3_; clear hb hbox hg) | ((with_reducible refine gate_dst (N := 3) rfl ?_); refine box_event ?hg (N := 3) ?hd (cs := #[.int .i64 a1_0, .int .i64 a1_1, .int .i64 a1_2, .slice A1_3 l1_3.length c1_3]) (t := 28) ?hr ?_; (case hd => rfl); (case hg => rfl); (case hr => first | (go_simp; done) | (go_simp; rfl)); intro gb127 hg w5 hbox hb; have n0_ := aM (bB (g := gb126) (o := .cells #[.int .i64 a0_0, .slice A0_1 l0_1.length c0_1] 26 (0, 0)) (bk BK126.out) hb); have n1_ := aM (bS (bl HB.out) hb); have n2_ := aM (hbox); have n3_ := aM ((by rw [hg]; exact (below_size (bl HB.out)) : w.heap.size ≤ gb127)); have n4_ := aM ((by rw [hg]; exact (below_size (bl HB.out)) : w.heap.size ≤ gb127)); have n5_ := aM ((by rw [hg]; exact Nat.ne_of_lt (blk_lt (g := gb126) (o := .cells #[.int .i64 a0_0, .slice A0_1 l0_1.length c0_1] 26 (0, 0)) (bk BK126.out)) : gb126 ≠ gb127)); have n6_ := aM ((by rw [hg]; exact Nat.ne_of_gt (blk_lt (g := gb126) (o := .cells #[.int .i64 a0_0, .slice A0_1 l0_1.length c0_1] 26 (0, 0)) (bk BK126.out)) : gb127 ≠ gb126)); clear BK126 HB; have BK126 := n0_; have HB := n1_; have BK127 := n2_; have GW127 := n3_; have GE127 := n4_; have NB126_127 := n5_; have NB127_126 := n6_; clear n0_ n1_ n2_ n3_ n4_ n5_ n6_; clear hb hbox hg) | ((with_reducible refine gate_dst (N := 4) rfl ?_); refine box_event ?hg (N := 4) ?hd (cs := #[.int .i64 0, .int .i64 0, .int .i64 0, .slice none 0 0]) (t := 28) ?hr ?_; (case hd => rfl); (case hg => rfl); (case hr => first | (go_simp; done) | (go_simp; rfl)); intro gb128 hg w6 hbox hb; have n0_ := aM (bB (g := gb126) (o := .cells #[.int .i64 a0_0, .slice A0_1 l0_1.length c0_1] 26 (0, 0)) (bk BK126.out) hb); have n1_ := aM (bB (g := gb127) (o := .cells #[.int .i64 a1_0, .int .i64 a1_1, .int .i64 a1_2, .slice A1_3 l1_3.length c1_3] 28 (0, 0)) (bk BK127.out) hb); have n2_ := aM (bS (bl HB.out) hb); have n3_ := aM (hbox); have n4_ := aM ((by rw [hg]; exact (below_size (bl HB.out)) : w.heap.size ≤ gb128)); have n5_ := aM ((by rw [hg]; exact (below_size (bl HB.out)) : w.heap.size ≤ gb128)); have n6_ := aM ((by rw [hg]; exact Nat.ne_of_lt (blk_lt (g := gb126) (o := .cells #[.int .i64 a0_0, .slice A0_1 l0_1.length c0_1] 26 (0, 0)) (bk BK126.out)) : gb126 ≠ gb128)); have n7_ := aM ((by rw [hg]; exact Nat.ne_of_gt (blk_lt (g := gb126) (o := .cells #[.int .i64 a0_0, .slice A0_1 l0_1.length c0_1] 26 (0, 0)) (bk BK126.out)) : gb128 ≠ gb126)); have n8_ := aM ((by rw [hg]; exact Nat.ne_of_lt (blk_lt (g := gb127) (o := .cells #[.int .i64 a1_0, .int .i64 a1_1, .int .i64 a1_2, .slice A1_3 l1_3.length c1_3] 28 (0, 0)) (bk BK127.out)) : gb127 ≠ gb128)); have n9_ := aM ((by rw [hg]; exact Nat.ne_of_gt (blk_lt (g := gb127) (o := .cells #[.int .i64 a1_0, .int .i64 a1_1, .int .i64 a1_2, .slice A1_3 l1_3.length c1_3] 28 (0, 0)) (bk BK127.out)) : gb128 ≠ gb127)); clear BK126 BK127 HB; have BK126 := n0_; have BK127 := n1_; have HB := n2_; have BK128 := n3_; have GW128 := n4_; have GE128 := n5_; have NB126_128 := n6_; have NB128_126 := n7_; have NB127_128 := n8_; have NB128_127 := n9_; clear n0_ n1_ n2_ n3_ n4_ n5_ n6_ n7_ n8_ n9_; clear hb hbox hg))
 (try simp only [Act.put, sA, sZ, sS])
 go_cut [14] (fun v14 wc => ∃ (kq : Nat) (x14_2 : Bool), v14 = .bool x14_2 ∧ Aside0 (impl_Inside.j0 kq x14_2 a0_0 l0_1 a1_0 a1_1 a1_2 l1_3 = some (r1, r2, r3, r4, r5)) ∧ Aside0 (kq ≤ k) ∧ Aside0 (wc.heap[gb126]? = some (.cells #[.int .i64 a0_0, (.slice A0_1 l0_1.length c0_1)] 26 (0, 0))) ∧ Aside0 (wc.heap[gb127]? = some (.cells #[.int .i64 a1_0, .int .i64 a1_1, .int .i64 a1_2, (.slice A1_3 l1_3.length c1_3)] 28 (0, 0))) ∧ Aside0 (wc.heap[gb128]? = some (.cells #[.int .i64 0, .int .i64 0, .int .i64 0, (.slice none 0 0)] 28 (0, 0))) ∧ Aside0 (Below w.heap.size w wc))
 case first =>
  have H := HC3.out
  clear HC3
  replace H := Option.bind_eq_some_iff.mp H
  obtain ⟨t129, A70, H⟩ := H
  replace H : (if t129 = true then ((impl_FrameOk.f a1_0 a1_1 a1_2 l1_3).bind fun t130 => (impl_Inside.j0 k (!t130) a0_0 l0_1 a1_0 a1_1 a1_2 l1_3)) else (impl_Inside.j0 k true a0_0 l0_1 a1_0 a1_1 a1_2 l1_3)) = some (r1, r2, r3, r4, r5) := H
  have A7 := aM A70
  clear A70
  by_cases c8 : t129 = true
  case neg =>
   replace c8 := Bool.eq_false_iff.mpr c8
   subst c8
   have H1 : (impl_Inside.j0 k true a0_0 l0_1 a1_0 a1_1 a1_2 l1_3) = some (r1, r2, r3, r4, r5) := by rw [if_neg (show ¬ (false = true) by decide)] at H; exact H
   clear H
   have H := H1
   clear H1
   have H' := aM H
   clear H
   have hnb17 := NB126_127.out
   have hnc17 := NB127_126.out
   have hnb18 := NB126_128.out
   have hnc18 := NB128_126.out
   have hcz19_0 := cI BK126.out 0
   have hcz19_1 := cI BK126.out 1
   have hfz19_0 := bF BK126.out 0
   have hfz19_1 := bF BK126.out 1
   go_wp2_with (first | ((with_reducible refine gate_callee (f := 21) rfl ?_); refine goesL_ (some 8) rfl rfl Try.func21 (by kernel_rfl) rfl #[.agg #[.int .i64 a0_0, .slice A0_1 l0_1.length c0_1]] rfl xR ?_; (with_reducible refine (impl_MemberOk.calls k a0_0 _ _ l0_1 false _ ?side1 ?side2 A7.out).mono ?_); (case side1 => repeat (first | exact (cB HR0_1.out HB.out) | (with_reducible refine Kd.C_alloc ?_ _) | (with_reducible refine Kd.C_drewN ?_ _) | (with_reducible refine Kd.C_drew ?_))); (case side2 => exact HC0_1.out); rintro e w20 ⟨rfl, hb⟩; refine ⟨_, rfl, ?_⟩; have n0_ := aM (bB (g := gb126) (o := .cells #[.int .i64 a0_0, .slice A0_1 l0_1.length c0_1] 26 (0, 0)) (bk BK126.out) hb); have n1_ := aM (bB (g := gb127) (o := .cells #[.int .i64 a1_0, .int .i64 a1_1, .int .i64 a1_2, .slice A1_3 l1_3.length c1_3] 28 (0, 0)) (bk BK127.out) hb); have n2_ := aM (bB (g := gb128) (o := .cells #[.int .i64 0, .int .i64 0, .int .i64 0, .slice none 0 0] 28 (0, 0)) (bk BK128.out) hb); have n3_ := aM (bS (bl HB.out) hb); clear BK126 BK127; clear BK128 HB; have BK126 := n0_; have BK127 := n1_; have BK128 := n2_; have HB := n3_; clear n0_ n1_ n2_ n3_; (try clear hb); have hcw_gb126_0 := cI BK126.out 0; have hfw_gb126_0 := bF BK126.out 0; have hcw_gb126_1 := cI BK126.out 1; have hfw_gb126_1 := bF BK126.out 1; have hcw_gb127_0 := cI BK127.out 0; have hfw_gb127_0 := bF BK127.out 0; have hcw_gb127_1 := cI BK127.out 1; have hfw_gb127_1 := bF BK127.out 1; have hcw_gb127_2 := cI BK127.out 2; have hfw_gb127_2 := bF BK127.out 2; have hcw_gb127_3 := cI BK127.out 3; have hfw_gb127_3 := bF BK127.out 3; have hcw_gb128_0 := cI BK128.out 0; have hfw_gb128_0 := bF BK128.out 0; have hcw_gb128_1 := cI BK128.out 1; have hfw_gb128_1 := bF BK128.out 1; have hcw_gb128_2 := cI BK128.out 2; have hfw_gb128_2 := bF BK128.out 2; have hcw_gb128_3 := cI BK128.out 3; have hfw_gb128_3 := bF BK128.out 3))
   go_meet
   case rel => exact ⟨_, (true), xE, H', ⟨by first | omega | exact Nat.le_refl _⟩, ⟨by (with_reducible repeat (first | refine blk_drewN ?_ _ | refine blk_drew ?_ | refine blk_alloc ?_ _)); exact BK126.out⟩, ⟨by (with_reducible repeat (first | refine blk_drewN ?_ _ | refine blk_drew ?_ | refine blk_alloc ?_ _)); exact BK127.out⟩, ⟨by (with_reducible repeat (first | refine blk_drewN ?_ _ | refine blk_drew ?_ | refine blk_alloc ?_ _)); exact BK128.out⟩, ⟨bl HB.out⟩⟩
  subst c8
  have H1 : ((impl_FrameOk.f a1_0 a1_1 a1_2 l1_3).bind fun t130 => (impl_Inside.j0 k (!t130) a0_0 l0_1 a1_0 a1_1 a1_2 l1_3)) = some (r1, r2, r3, r4, r5) := by rw [if_pos rfl] at H; exact H
  clear H
  have H := H1
  clear H1
  replace H := Option.bind_eq_some_iff.mp H
  obtain ⟨t130, A90, H⟩ := H
  replace H : (impl_Inside.j0 k (!t130) a0_0 l0_1 a1_0 a1_1 a1_2 l1_3) = some (r1, r2, r3, r4, r5) := H
  have A9 := aM A90
  clear A90
  have H' := aM H
  clear H
  have hnb10 := NB126_127.out
  have hnc10 := NB127_126.out
  have hnb11 := NB126_128.out
  have hnc11 := NB128_126.out
  have hcz12_0 := cI BK126.out 0
  have hcz12_1 := cI BK126.out 1
  have hfz12_0 := bF BK126.out 0
  have hfz12_1 := bF BK126.out 1
  go_wp2_with (first | ((with_reducible refine gate_callee (f := 21) rfl ?_); refine goesL_ (some 8) rfl rfl Try.func21 (by kernel_rfl) rfl #[.agg #[.int .i64 a0_0, .slice A0_1 l0_1.length c0_1]] rfl xR ?_; (with_reducible refine (impl_MemberOk.calls k a0_0 _ _ l0_1 true _ ?side1 ?side2 A7.out).mono ?_); (case side1 => repeat (first | exact (cB HR0_1.out HB.out) | (with_reducible refine Kd.C_alloc ?_ _) | (with_reducible refine Kd.C_drewN ?_ _) | (with_reducible refine Kd.C_drew ?_))); (case side2 => exact HC0_1.out); rintro e w13 ⟨rfl, hb⟩; refine ⟨_, rfl, ?_⟩; have n0_ := aM (bB (g := gb126) (o := .cells #[.int .i64 a0_0, .slice A0_1 l0_1.length c0_1] 26 (0, 0)) (bk BK126.out) hb); have n1_ := aM (bB (g := gb127) (o := .cells #[.int .i64 a1_0, .int .i64 a1_1, .int .i64 a1_2, .slice A1_3 l1_3.length c1_3] 28 (0, 0)) (bk BK127.out) hb); have n2_ := aM (bB (g := gb128) (o := .cells #[.int .i64 0, .int .i64 0, .int .i64 0, .slice none 0 0] 28 (0, 0)) (bk BK128.out) hb); have n3_ := aM (bS (bl HB.out) hb); clear BK126 BK127; clear BK128 HB; have BK126 := n0_; have BK127 := n1_; have BK128 := n2_; have HB := n3_; clear n0_ n1_ n2_ n3_; (try clear hb); have hnb14 := NB127_128.out; have hnc14 := NB128_127.out; have hcz15_0 := cI BK127.out 0; have hcz15_1 := cI BK127.out 1; have hcz15_2 := cI BK127.out 2; have hcz15_3 := cI BK127.out 3; have hfz15_0 := bF BK127.out 0; have hfz15_1 := bF BK127.out 1; have hfz15_2 := bF BK127.out 2; have hfz15_3 := bF BK127.out 3; have hcw_gb126_0 := cI BK126.out 0; have hfw_gb126_0 := bF BK126.out 0; have hcw_gb126_1 := cI BK126.out 1; have hfw_gb126_1 := bF BK126.out 1; have hcw_gb128_0 := cI BK128.out 0; have hfw_gb128_0 := bF BK128.out 0; have hcw_gb128_1 := cI BK128.out 1; have hfw_gb128_1 := bF BK128.out 1; have hcw_gb128_2 := cI BK128.out 2; have hfw_gb128_2 := bF BK128.out 2; have hcw_gb128_3 := cI BK128.out 3; have hfw_gb128_3 := bF BK128.out 3) | (go_at_call 55; (with_reducible refine (impl_FrameOk.calls a1_0 a1_1 a1_2 _ _ l1_3 t130 _ ?side1 ?side2 A9.out).mono ?_); (case side1 => repeat (first | exact (cB HR1_3.out HB.out) | (with_reducible refine Kd.C_alloc ?_ _) | (with_reducible refine Kd.C_drewN ?_ _) | (with_reducible refine Kd.C_drew ?_))); (case side2 => exact HC1_3.out); rintro e w16 ⟨rfl, hb⟩; have n0_ := aM (bB (g := gb126) (o := .cells #[.int .i64 a0_0, .slice A0_1 l0_1.length c0_1] 26 (0, 0)) (bk BK126.out) hb); have n1_ := aM (bB (g := gb127) (o := .cells #[.int .i64 a1_0, .int .i64 a1_1, .int .i64 a1_2, .slice A1_3 l1_3.length c1_3] 28 (0, 0)) (bk BK127.out) hb); have n2_ := aM (bB (g := gb128) (o := .cells #[.int .i64 0, .int .i64 0, .int .i64 0, .slice none 0 0] 28 (0, 0)) (bk BK128.out) hb); have n3_ := aM (bS (bl HB.out) hb); clear BK126 BK127; clear BK128 HB; have BK126 := n0_; have BK127 := n1_; have BK128 := n2_; have HB := n3_; clear n0_ n1_ n2_ n3_; (try clear hb); have hcw_gb126_0 := cI BK126.out 0; have hfw_gb126_0 := bF BK126.out 0; have hcw_gb126_1 := cI BK126.out 1; have hfw_gb126_1 := bF BK126.out 1; have hcw_gb127_0 := cI BK127.out 0; have hfw_gb127_0 := bF BK127.out 0; have hcw_gb127_1 := cI BK127.out 1; have hfw_gb127_1 := bF BK127.out 1; have hcw_gb127_2 := cI BK127.out 2; have hfw_gb127_2 := bF BK127.out 2; have hcw_gb127_3 := cI BK127.out 3; have hfw_gb127_3 := bF BK127.out 3; have hcw_gb128_0 := cI BK128.out 0; have hfw_gb128_0 := bF BK128.out 0; have hcw_gb128_1 := cI BK128.out 1; have hfw_gb128_1 := bF BK128.out 1; have hcw_gb128_2 := cI BK128.out 2; have hfw_gb128_2 := bF BK128.out 2; have hcw_gb128_3 := cI BK128.out 3; have hfw_gb128_3 := bF BK128.out 3))
  go_meet
  case rel => exact ⟨_, (!t130), xE, H', ⟨by first | omega | exact Nat.le_refl _⟩, ⟨by (with_reducible repeat (first | refine blk_drewN ?_ _ | refine blk_drew ?_ | refine blk_alloc ?_ _)); exact BK126.out⟩, ⟨by (with_reducible repeat (first | refine blk_drewN ?_ _ | refine blk_drew ?_ | refine blk_alloc ?_ _)); exact BK127.out⟩, ⟨by (with_reducible repeat (first | refine blk_drewN ?_ _ | refine blk_drew ?_ | refine blk_alloc ?_ _)); exact BK128.out⟩, ⟨bl HB.out⟩⟩
 case rest =>
  clear HC3
  try clear c1
  try clear c2
  try clear p2
  try clear c8
  try clear c10
  try clear c11
  try clear c14
  try clear c17
  try clear c18
  try clear hcz12_0
  try clear hcz12_1
  try clear hcz15_0
  try clear hcz15_1
  try clear hcz15_2
  try clear hcz15_3
  try clear hcz19_0
  try clear hcz19_1
  try clear hfz12_0
  try clear hfz12_1
  try clear hfz15_0
  try clear hfz15_1
  try clear hfz15_2
  try clear hfz15_3
  try clear hfz19_0
  try clear hfz19_1
  obtain ⟨kq, x14_2, rfl, HA, HJ2, BK126, BK127, BK128, HB⟩ := hcut
  cases kq with
  | zero => exact absurd HA.out (by simp [impl_Inside.j0])
  | succ kj2 =>
   have H := HA.out
   clear HA
   simp only [impl_Inside.j0] at H
   by_cases c21 : x14_2 = true
   case pos =>
    subst c21
    have H1 : (some (0, 0, 0, ([] : List Int), false)) = some (r1, r2, r3, r4, r5) := by rw [if_pos rfl] at H; exact H
    clear H
    have H := H1
    clear H1
    simp only [Option.some.injEq, Prod.mk.injEq] at H
    obtain ⟨rfl, rfl, rfl, rfl, rfl⟩ := H
    have hnb22 := NB128_126.out
    have hnc22 := NB126_128.out
    have hnb23 := NB128_127.out
    have hnc23 := NB127_128.out
    have hcz24_0 := cI BK128.out 0
    have hcz24_1 := cI BK128.out 1
    have hcz24_2 := cI BK128.out 2
    have hcz24_3 := cI BK128.out 3
    have hfz24_0 := bF BK128.out 0
    have hfz24_1 := bF BK128.out 1
    have hfz24_2 := bF BK128.out 2
    have hfz24_3 := bF BK128.out 3
    go_wp2
    refine bodyPost_ret (results_ct rfl _ _ gb128 28 #[.int .i64 0, .int .i64 0, .int .i64 0, .slice none 0 0] (0, 0) _ rfl (by (with_reducible repeat (first | refine blk_drewN ?_ _ | refine blk_drew ?_ | refine blk_alloc ?_ _)); refine blk_put (cs := #[.int .i64 0, .int .i64 0, .int .i64 0, .slice none 0 0]) ?_ 3 _ rfl; (with_reducible repeat (first | refine blk_drewN ?_ _ | refine blk_drew ?_ | refine blk_alloc ?_ _)); refine blk_put (cs := #[.int .i64 0, .int .i64 0, .int .i64 0, .slice none 0 0]) ?_ 2 _ rfl; (with_reducible repeat (first | refine blk_drewN ?_ _ | refine blk_drew ?_ | refine blk_alloc ?_ _)); refine blk_put (cs := #[.int .i64 0, .int .i64 0, .int .i64 0, .slice none 0 0]) ?_ 1 _ rfl; (with_reducible repeat (first | refine blk_drewN ?_ _ | refine blk_drew ?_ | refine blk_alloc ?_ _)); refine blk_put (cs := #[.int .i64 0, .int .i64 0, .int .i64 0, .slice none 0 0]) ?_ 0 _ rfl; (with_reducible repeat (first | refine blk_drewN ?_ _ | refine blk_drew ?_ | refine blk_alloc ?_ _)); exact BK128.out) Try.underlying28 rfl (by kernel_rfl)) rfl ?_
    exact ⟨_, xW, by first | exact Kd.R_nil _ _ _ _ _ | exact Kd.N_nil _ _ _ _ _ | exact Kd.V_nil _ _ _ _ _ | exact Kd.Q_nil _ _ _ _ _ | exact Kd.S_nil _ _ _ _ _, bl HB.out⟩
   replace c21 := Bool.eq_false_iff.mpr c21
   subst c21
   have H1 : ((impl_copyFrame.f a1_0 a1_1 a1_2 l1_3).bind fun bt131 => (if bt131.2.2.1 = 0 then ((slices_Contains_int_int.f kj2 l0_1 a0_0).bind fun t138 => (if t138 = true then (some (bt131.1, bt131.2.1, a0_0, bt131.2.2.2, true)) else (some (0, 0, 0, ([] : List Int), false)))) else ((slices_Contains_int_int.f kj2 l0_1 bt131.2.2.1).bind fun t139 => (if t139 = true then (some (bt131.1, bt131.2.1, bt131.2.2.1, bt131.2.2.2, true)) else (some (0, 0, 0, ([] : List Int), false)))))) = some (r1, r2, r3, r4, r5) := by rw [if_neg (show ¬ (false = true) by decide)] at H; exact H
   clear H
   have H := H1
   clear H1
   replace H := Option.bind_eq_some_iff.mp H
   obtain ⟨⟨t131, t132, t133, t134⟩, A250, H⟩ := H
   replace H : (if t133 = 0 then ((slices_Contains_int_int.f kj2 l0_1 a0_0).bind fun t138 => (if t138 = true then (some (t131, t132, a0_0, t134, true)) else (some (0, 0, 0, ([] : List Int), false)))) else ((slices_Contains_int_int.f kj2 l0_1 t133).bind fun t139 => (if t139 = true then (some (t131, t132, t133, t134, true)) else (some (0, 0, 0, ([] : List Int), false))))) = some (r1, r2, r3, r4, r5) := H
   have A25 := aM A250
   clear A250
   by_cases c26 : t133 = 0
   case neg =>
    rw [if_neg c26] at H
    have c26b0 : (t133 == 0) = false := beq_eq_false_iff_ne.mpr c26
    have c26b1 : (t133 != 0) = true := bne_iff_ne.mpr c26
    replace H := Option.bind_eq_some_iff.mp H
    obtain ⟨t139, A550, H⟩ := H
    replace H : (if t139 = true then (some (t131, t132, t133, t134, true)) else (some (0, 0, 0, ([] : List Int), false))) = some (r1, r2, r3, r4, r5) := H
    have A55 := aM A550
    clear A550
    by_cases c56 : t139 = true
    case pos =>
     subst c56
     have H1 : (some (t131, t132, t133, t134, true)) = some (r1, r2, r3, r4, r5) := by rw [if_pos rfl] at H; exact H
     clear H
     have H := H1
     clear H1
     simp only [Option.some.injEq, Prod.mk.injEq] at H
     obtain ⟨rfl, rfl, rfl, rfl, rfl⟩ := H
     have hnb57 := NB127_126.out
     have hnc57 := NB126_127.out
     have hnb58 := NB127_128.out
     have hnc58 := NB128_127.out
     have hcz59_0 := cI BK127.out 0
     have hcz59_1 := cI BK127.out 1
     have hcz59_2 := cI BK127.out 2
     have hcz59_3 := cI BK127.out 3
     have hfz59_0 := bF BK127.out 0
     have hfz59_1 := bF BK127.out 1
     have hfz59_2 := bF BK127.out 2
     have hfz59_3 := bF BK127.out 3
     go_wp2_with (first | ((with_reducible refine gate_callee (f := 63) rfl ?_); refine goesL_ (some 17) rfl rfl Try.func63 (by kernel_rfl) rfl #[.agg #[.int .i64 a1_0, .int .i64 a1_1, .int .i64 a1_2, .slice A1_3 l1_3.length c1_3]] rfl xR ?_; (with_reducible refine (impl_copyFrame.calls a1_0 a1_1 a1_2 _ _ l1_3 t131 t132 t133 t134 _ ?side1 ?side2 A25.out).mono ?_); (case side1 => repeat (first | exact (cB HR1_3.out HB.out) | (with_reducible refine Kd.C_alloc ?_ _) | (with_reducible refine Kd.C_drewN ?_ _) | (with_reducible refine Kd.C_drew ?_))); (case side2 => exact HC1_3.out); rintro e w60 ⟨v135, rfl, ho0, hb⟩; refine ⟨_, rfl, ?_⟩; have n0_ := aM (Kd.R_lower ho0 (below_size (bl HB.out))); have n1_ := aM (bB (g := gb126) (o := .cells #[.int .i64 a0_0, .slice A0_1 l0_1.length c0_1] 26 (0, 0)) (bk BK126.out) hb); have n2_ := aM (bB (g := gb127) (o := .cells #[.int .i64 a1_0, .int .i64 a1_1, .int .i64 a1_2, .slice A1_3 l1_3.length c1_3] 28 (0, 0)) (bk BK127.out) hb); have n3_ := aM (bB (g := gb128) (o := .cells #[.int .i64 0, .int .i64 0, .int .i64 0, .slice none 0 0] 28 (0, 0)) (bk BK128.out) hb); have n4_ := aM (bS (bl HB.out) hb); clear BK126 BK127; clear BK128 HB; have HO136 := n0_; have BK126 := n1_; have BK127 := n2_; have BK128 := n3_; have HB := n4_; clear n0_ n1_ n2_ n3_ n4_; (try clear hb); (try clear ho0); have hcw_gb126_0 := cI BK126.out 0; have hfw_gb126_0 := bF BK126.out 0; have hcw_gb126_1 := cI BK126.out 1; have hfw_gb126_1 := bF BK126.out 1; have hcw_gb127_0 := cI BK127.out 0; have hfw_gb127_0 := bF BK127.out 0; have hcw_gb127_1 := cI BK127.out 1; have hfw_gb127_1 := bF BK127.out 1; have hcw_gb127_2 := cI BK127.out 2; have hfw_gb127_2 := bF BK127.out 2; have hcw_gb127_3 := cI BK127.out 3; have hfw_gb127_3 := bF BK127.out 3; have hcw_gb128_0 := cI BK128.out 0; have hfw_gb128_0 := bF BK128.out 0; have hcw_gb128_1 := cI BK128.out 1; have hfw_gb128_1 := bF BK128.out 1; have hcw_gb128_2 := cI BK128.out 2; have hfw_gb128_2 := bF BK128.out 2; have hcw_gb128_3 := cI BK128.out 3; have hfw_gb128_3 := bF BK128.out 3) | ((with_reducible refine gate_dst (N := 6) rfl ?_); refine box_event ?hg (N := 6) ?hd (cs := #[.int .i64 0, .int .i64 0, .int .i64 0, .slice none 0 0]) (t := 28) ?hr ?_; (case hd => rfl); (case hg => rfl); (case hr => first | (go_simp; done) | (go_simp; rfl) | (obtain ⟨A_, c_, e_⟩ := Kd.R_slice HO136.out; subst e_; (first | (go_simp; done) | (go_simp; rfl))) | (obtain ⟨A_, c_, e_⟩ := Kd.S_slice HO136.out; subst e_; (first | (go_simp; done) | (go_simp; rfl)))); intro gb137 hg w61 hbox hb; have n0_ := aM (kB (kr HO136.out) hb); have n1_ := aM (bB (g := gb126) (o := .cells #[.int .i64 a0_0, .slice A0_1 l0_1.length c0_1] 26 (0, 0)) (bk BK126.out) hb); have n2_ := aM (bB (g := gb127) (o := .cells #[.int .i64 a1_0, .int .i64 a1_1, .int .i64 a1_2, .slice A1_3 l1_3.length c1_3] 28 (0, 0)) (bk BK127.out) hb); have n3_ := aM (bB (g := gb128) (o := .cells #[.int .i64 0, .int .i64 0, .int .i64 0, .slice none 0 0] 28 (0, 0)) (bk BK128.out) hb); have n4_ := aM (bS (bl HB.out) hb); have n5_ := aM (hbox); have n6_ := aM ((by rw [hg]; exact (below_size (bl HB.out)) : w.heap.size ≤ gb137)); have n7_ := aM ((by rw [hg]; exact (below_size (bl HB.out)) : w.heap.size ≤ gb137)); have n8_ := aM ((by rw [hg]; exact Nat.ne_of_lt (blk_lt (g := gb126) (o := .cells #[.int .i64 a0_0, .slice A0_1 l0_1.length c0_1] 26 (0, 0)) (bk BK126.out)) : gb126 ≠ gb137)); have n9_ := aM ((by rw [hg]; exact Nat.ne_of_gt (blk_lt (g := gb126) (o := .cells #[.int .i64 a0_0, .slice A0_1 l0_1.length c0_1] 26 (0, 0)) (bk BK126.out)) : gb137 ≠ gb126)); have n10_ := aM ((by rw [hg]; exact Nat.ne_of_lt (blk_lt (g := gb127) (o := .cells #[.int .i64 a1_0, .int .i64 a1_1, .int .i64 a1_2, .slice A1_3 l1_3.length c1_3] 28 (0, 0)) (bk BK127.out)) : gb127 ≠ gb137)); have n11_ := aM ((by rw [hg]; exact Nat.ne_of_gt (blk_lt (g := gb127) (o := .cells #[.int .i64 a1_0, .int .i64 a1_1, .int .i64 a1_2, .slice A1_3 l1_3.length c1_3] 28 (0, 0)) (bk BK127.out)) : gb137 ≠ gb127)); have n12_ := aM ((by rw [hg]; exact Nat.ne_of_lt (blk_lt (g := gb128) (o := .cells #[.int .i64 0, .int .i64 0, .int .i64 0, .slice none 0 0] 28 (0, 0)) (bk BK128.out)) : gb128 ≠ gb137)); have n13_ := aM ((by rw [hg]; exact Nat.ne_of_gt (blk_lt (g := gb128) (o := .cells #[.int .i64 0, .int .i64 0, .int .i64 0, .slice none 0 0] 28 (0, 0)) (bk BK128.out)) : gb137 ≠ gb128)); clear HO136 BK126; clear BK127 BK128 HB; have HO136 := n0_; have BK126 := n1_; have BK127 := n2_; have BK128 := n3_; have HB := n4_; have BK137 := n5_; have GW137 := n6_; have GE137 := n7_; have NB126_137 := n8_; have NB137_126 := n9_; have NB127_137 := n10_; have NB137_127 := n11_; have NB128_137 := n12_; have NB137_128 := n13_; clear n0_ n1_ n2_ n3_ n4_ n5_ n6_ n7_ n8_ n9_ n10_ n11_ n12_ n13_; clear hb hbox hg; have hnb62 := NB137_126.out; have hnc62 := NB126_137.out; have hnb63 := NB137_127.out; have hnc63 := NB127_137.out; have hnb64 := NB137_128.out; have hnc64 := NB128_137.out; have hcz65_0 := cI BK137.out 0; have hcz65_1 := cI BK137.out 1; have hcz65_2 := cI BK137.out 2; have hcz65_3 := cI BK137.out 3; have hfz65_0 := bF BK137.out 0; have hfz65_1 := bF BK137.out 1; have hfz65_2 := bF BK137.out 2; have hfz65_3 := bF BK137.out 3; obtain ⟨Ao66, co66, eo66⟩ := Kd.R_slice HO136.out; subst eo66; have hnb67 := NB126_128.out; have hnc67 := NB128_126.out; have hcz68_0 := cI BK126.out 0; have hcz68_1 := cI BK126.out 1; have hfz68_0 := bF BK126.out 0; have hfz68_1 := bF BK126.out 1; have hcw_gb127_0 := cI BK127.out 0; have hfw_gb127_0 := bF BK127.out 0; have hcw_gb127_1 := cI BK127.out 1; have hfw_gb127_1 := bF BK127.out 1; have hcw_gb127_2 := cI BK127.out 2; have hfw_gb127_2 := bF BK127.out 2; have hcw_gb127_3 := cI BK127.out 3; have hfw_gb127_3 := bF BK127.out 3; have hcw_gb128_0 := cI BK128.out 0; have hfw_gb128_0 := bF BK128.out 0; have hcw_gb128_1 := cI BK128.out 1; have hfw_gb128_1 := bF BK128.out 1; have hcw_gb128_2 := cI BK128.out 2; have hfw_gb128_2 := bF BK128.out 2; have hcw_gb128_3 := cI BK128.out 3; have hfw_gb128_3 := bF BK128.out 3) | ((with_reducible refine gate_callee (f := 62) rfl ?_); refine goesL_ (some 28) rfl rfl Try.func62 (by kernel_rfl) rfl #[.slice A0_1 l0_1.length c0_1, .int .i64 t133] rfl xR ?_; (with_reducible refine (slices_Contains_int_int.calls kj2 _ _ l0_1 t133 true _ ?side1 ?side2 A55.out).mono ?_); (case side1 => exact cB HR0_1.out (bl HB.out)); (case side2 => exact HC0_1.out); rintro e w' ⟨rfl, ⟨nd, rfl⟩⟩; refine ⟨_, rfl, ?_⟩; have hcz69_0 := cI BK128.out 0; have hcz69_1 := cI BK128.out 1; have hcz69_2 := cI BK128.out 2; have hcz69_3 := cI BK128.out 3; have hfz69_0 := bF BK128.out 0; have hfz69_1 := bF BK128.out 1; have hfz69_2 := bF BK128.out 2; have hfz69_3 := bF BK128.out 3))
     refine bodyPost_ret (results_ct rfl _ _ gb128 28 #[.int .i64 t131, .int .i64 t132, .int .i64 t133, .slice Ao66 t134.length co66] (0, 0) _ rfl (by (with_reducible repeat (first | refine blk_drewN ?_ _ | refine blk_drew ?_ | refine blk_alloc ?_ _)); refine blk_put (cs := #[.int .i64 t131, .int .i64 t132, .int .i64 t133, .slice none 0 0]) ?_ 3 _ rfl; (with_reducible repeat (first | refine blk_drewN ?_ _ | refine blk_drew ?_ | refine blk_alloc ?_ _)); refine blk_put (cs := #[.int .i64 t131, .int .i64 t132, .int .i64 0, .slice none 0 0]) ?_ 2 _ rfl; (with_reducible repeat (first | refine blk_drewN ?_ _ | refine blk_drew ?_ | refine blk_alloc ?_ _)); refine blk_put (cs := #[.int .i64 t131, .int .i64 0, .int .i64 0, .slice none 0 0]) ?_ 1 _ rfl; (with_reducible repeat (first | refine blk_drewN ?_ _ | refine blk_drew ?_ | refine blk_alloc ?_ _)); refine blk_put (cs := #[.int .i64 0, .int .i64 0, .int .i64 0, .slice none 0 0]) ?_ 0 _ rfl; (with_reducible repeat (first | refine blk_drewN ?_ _ | refine blk_drew ?_ | refine blk_alloc ?_ _)); refine blk_far ?_ NB128_137.out _; (with_reducible repeat (first | refine blk_drewN ?_ _ | refine blk_drew ?_ | refine blk_alloc ?_ _)); refine blk_far ?_ NB128_137.out _; (with_reducible repeat (first | refine blk_drewN ?_ _ | refine blk_drew ?_ | refine blk_alloc ?_ _)); refine blk_far ?_ NB128_137.out _; (with_reducible repeat (first | refine blk_drewN ?_ _ | refine blk_drew ?_ | refine blk_alloc ?_ _)); refine blk_far ?_ NB128_137.out _; (with_reducible repeat (first | refine blk_drewN ?_ _ | refine blk_drew ?_ | refine blk_alloc ?_ _)); exact BK128.out) Try.underlying28 rfl (by kernel_rfl)) rfl ?_
     exact ⟨_, xW, by (with_reducible repeat (first | apply Kd.R_alloc | apply Kd.R_drewN | apply Kd.R_drew)); exact Kd.R_mono (kF (p := ⟨gb128, 3, none⟩) (kF (p := ⟨gb128, 2, none⟩) (kF (p := ⟨gb128, 1, none⟩) (kF (p := ⟨gb128, 0, none⟩) (kF (p := ⟨gb137, 3, none⟩) (kF (p := ⟨gb137, 2, none⟩) (kF (p := ⟨gb137, 1, none⟩) (kF (p := ⟨gb137, 0, none⟩) (Kd.R_types (Kd.R_types HO136.out BK137.out (by decide)) BK128.out (by decide)) (fun _ hk => hk.1.2) (.int .i64 t131)) (fun _ hk => hk.1.2) (.int .i64 t132)) (fun _ hk => hk.1.2) (.int .i64 t133)) (fun _ hk => hk.1.2) (.slice Ao66 t134.length co66)) (fun _ hk => hk.2) (.int .i64 t131)) (fun _ hk => hk.2) (.int .i64 t132)) (fun _ hk => hk.2) (.int .i64 t133)) (fun _ hk => hk.2) (.slice Ao66 t134.length co66)) (fun _ hk => trivial), bl HB.out⟩
    replace c56 := Bool.eq_false_iff.mpr c56
    subst c56
    have H1 : (some (0, 0, 0, ([] : List Int), false)) = some (r1, r2, r3, r4, r5) := by rw [if_neg (show ¬ (false = true) by decide)] at H; exact H
    clear H
    have H := H1
    clear H1
    simp only [Option.some.injEq, Prod.mk.injEq] at H
    obtain ⟨rfl, rfl, rfl, rfl, rfl⟩ := H
    have hnb70 := NB127_126.out
    have hnc70 := NB126_127.out
    have hnb71 := NB127_128.out
    have hnc71 := NB128_127.out
    have hcz72_0 := cI BK127.out 0
    have hcz72_1 := cI BK127.out 1
    have hcz72_2 := cI BK127.out 2
    have hcz72_3 := cI BK127.out 3
    have hfz72_0 := bF BK127.out 0
    have hfz72_1 := bF BK127.out 1
    have hfz72_2 := bF BK127.out 2
    have hfz72_3 := bF BK127.out 3
    go_wp2_with (first | ((with_reducible refine gate_callee (f := 63) rfl ?_); refine goesL_ (some 17) rfl rfl Try.func63 (by kernel_rfl) rfl #[.agg #[.int .i64 a1_0, .int .i64 a1_1, .int .i64 a1_2, .slice A1_3 l1_3.length c1_3]] rfl xR ?_; (with_reducible refine (impl_copyFrame.calls a1_0 a1_1 a1_2 _ _ l1_3 t131 t132 t133 t134 _ ?side1 ?side2 A25.out).mono ?_); (case side1 => repeat (first | exact (cB HR1_3.out HB.out) | (with_reducible refine Kd.C_alloc ?_ _) | (with_reducible refine Kd.C_drewN ?_ _) | (with_reducible refine Kd.C_drew ?_))); (case side2 => exact HC1_3.out); rintro e w73 ⟨v135, rfl, ho0, hb⟩; refine ⟨_, rfl, ?_⟩; have n0_ := aM (Kd.R_lower ho0 (below_size (bl HB.out))); have n1_ := aM (bB (g := gb126) (o := .cells #[.int .i64 a0_0, .slice A0_1 l0_1.length c0_1] 26 (0, 0)) (bk BK126.out) hb); have n2_ := aM (bB (g := gb127) (o := .cells #[.int .i64 a1_0, .int .i64 a1_1, .int .i64 a1_2, .slice A1_3 l1_3.length c1_3] 28 (0, 0)) (bk BK127.out) hb); have n3_ := aM (bB (g := gb128) (o := .cells #[.int .i64 0, .int .i64 0, .int .i64 0, .slice none 0 0] 28 (0, 0)) (bk BK128.out) hb); have n4_ := aM (bS (bl HB.out) hb); clear BK126 BK127; clear BK128 HB; have HO136 := n0_; have BK126 := n1_; have BK127 := n2_; have BK128 := n3_; have HB := n4_; clear n0_ n1_ n2_ n3_ n4_; (try clear hb); (try clear ho0); have hcw_gb126_0 := cI BK126.out 0; have hfw_gb126_0 := bF BK126.out 0; have hcw_gb126_1 := cI BK126.out 1; have hfw_gb126_1 := bF BK126.out 1; have hcw_gb127_0 := cI BK127.out 0; have hfw_gb127_0 := bF BK127.out 0; have hcw_gb127_1 := cI BK127.out 1; have hfw_gb127_1 := bF BK127.out 1; have hcw_gb127_2 := cI BK127.out 2; have hfw_gb127_2 := bF BK127.out 2; have hcw_gb127_3 := cI BK127.out 3; have hfw_gb127_3 := bF BK127.out 3; have hcw_gb128_0 := cI BK128.out 0; have hfw_gb128_0 := bF BK128.out 0; have hcw_gb128_1 := cI BK128.out 1; have hfw_gb128_1 := bF BK128.out 1; have hcw_gb128_2 := cI BK128.out 2; have hfw_gb128_2 := bF BK128.out 2; have hcw_gb128_3 := cI BK128.out 3; have hfw_gb128_3 := bF BK128.out 3) | ((with_reducible refine gate_dst (N := 6) rfl ?_); refine box_event ?hg (N := 6) ?hd (cs := #[.int .i64 0, .int .i64 0, .int .i64 0, .slice none 0 0]) (t := 28) ?hr ?_; (case hd => rfl); (case hg => rfl); (case hr => first | (go_simp; done) | (go_simp; rfl) | (obtain ⟨A_, c_, e_⟩ := Kd.R_slice HO136.out; subst e_; (first | (go_simp; done) | (go_simp; rfl))) | (obtain ⟨A_, c_, e_⟩ := Kd.S_slice HO136.out; subst e_; (first | (go_simp; done) | (go_simp; rfl)))); intro gb137 hg w74 hbox hb; have n0_ := aM (kB (kr HO136.out) hb); have n1_ := aM (bB (g := gb126) (o := .cells #[.int .i64 a0_0, .slice A0_1 l0_1.length c0_1] 26 (0, 0)) (bk BK126.out) hb); have n2_ := aM (bB (g := gb127) (o := .cells #[.int .i64 a1_0, .int .i64 a1_1, .int .i64 a1_2, .slice A1_3 l1_3.length c1_3] 28 (0, 0)) (bk BK127.out) hb); have n3_ := aM (bB (g := gb128) (o := .cells #[.int .i64 0, .int .i64 0, .int .i64 0, .slice none 0 0] 28 (0, 0)) (bk BK128.out) hb); have n4_ := aM (bS (bl HB.out) hb); have n5_ := aM (hbox); have n6_ := aM ((by rw [hg]; exact (below_size (bl HB.out)) : w.heap.size ≤ gb137)); have n7_ := aM ((by rw [hg]; exact (below_size (bl HB.out)) : w.heap.size ≤ gb137)); have n8_ := aM ((by rw [hg]; exact Nat.ne_of_lt (blk_lt (g := gb126) (o := .cells #[.int .i64 a0_0, .slice A0_1 l0_1.length c0_1] 26 (0, 0)) (bk BK126.out)) : gb126 ≠ gb137)); have n9_ := aM ((by rw [hg]; exact Nat.ne_of_gt (blk_lt (g := gb126) (o := .cells #[.int .i64 a0_0, .slice A0_1 l0_1.length c0_1] 26 (0, 0)) (bk BK126.out)) : gb137 ≠ gb126)); have n10_ := aM ((by rw [hg]; exact Nat.ne_of_lt (blk_lt (g := gb127) (o := .cells #[.int .i64 a1_0, .int .i64 a1_1, .int .i64 a1_2, .slice A1_3 l1_3.length c1_3] 28 (0, 0)) (bk BK127.out)) : gb127 ≠ gb137)); have n11_ := aM ((by rw [hg]; exact Nat.ne_of_gt (blk_lt (g := gb127) (o := .cells #[.int .i64 a1_0, .int .i64 a1_1, .int .i64 a1_2, .slice A1_3 l1_3.length c1_3] 28 (0, 0)) (bk BK127.out)) : gb137 ≠ gb127)); have n12_ := aM ((by rw [hg]; exact Nat.ne_of_lt (blk_lt (g := gb128) (o := .cells #[.int .i64 0, .int .i64 0, .int .i64 0, .slice none 0 0] 28 (0, 0)) (bk BK128.out)) : gb128 ≠ gb137)); have n13_ := aM ((by rw [hg]; exact Nat.ne_of_gt (blk_lt (g := gb128) (o := .cells #[.int .i64 0, .int .i64 0, .int .i64 0, .slice none 0 0] 28 (0, 0)) (bk BK128.out)) : gb137 ≠ gb128)); clear HO136 BK126; clear BK127 BK128 HB; have HO136 := n0_; have BK126 := n1_; have BK127 := n2_; have BK128 := n3_; have HB := n4_; have BK137 := n5_; have GW137 := n6_; have GE137 := n7_; have NB126_137 := n8_; have NB137_126 := n9_; have NB127_137 := n10_; have NB137_127 := n11_; have NB128_137 := n12_; have NB137_128 := n13_; clear n0_ n1_ n2_ n3_ n4_ n5_ n6_ n7_ n8_ n9_ n10_ n11_ n12_ n13_; clear hb hbox hg; have hnb75 := NB137_126.out; have hnc75 := NB126_137.out; have hnb76 := NB137_127.out; have hnc76 := NB127_137.out; have hnb77 := NB137_128.out; have hnc77 := NB128_137.out; have hcz78_0 := cI BK137.out 0; have hcz78_1 := cI BK137.out 1; have hcz78_2 := cI BK137.out 2; have hcz78_3 := cI BK137.out 3; have hfz78_0 := bF BK137.out 0; have hfz78_1 := bF BK137.out 1; have hfz78_2 := bF BK137.out 2; have hfz78_3 := bF BK137.out 3; obtain ⟨Ao79, co79, eo79⟩ := Kd.R_slice HO136.out; subst eo79; have hnb80 := NB126_128.out; have hnc80 := NB128_126.out; have hcz81_0 := cI BK126.out 0; have hcz81_1 := cI BK126.out 1; have hfz81_0 := bF BK126.out 0; have hfz81_1 := bF BK126.out 1; have hcw_gb127_0 := cI BK127.out 0; have hfw_gb127_0 := bF BK127.out 0; have hcw_gb127_1 := cI BK127.out 1; have hfw_gb127_1 := bF BK127.out 1; have hcw_gb127_2 := cI BK127.out 2; have hfw_gb127_2 := bF BK127.out 2; have hcw_gb127_3 := cI BK127.out 3; have hfw_gb127_3 := bF BK127.out 3; have hcw_gb128_0 := cI BK128.out 0; have hfw_gb128_0 := bF BK128.out 0; have hcw_gb128_1 := cI BK128.out 1; have hfw_gb128_1 := bF BK128.out 1; have hcw_gb128_2 := cI BK128.out 2; have hfw_gb128_2 := bF BK128.out 2; have hcw_gb128_3 := cI BK128.out 3; have hfw_gb128_3 := bF BK128.out 3) | ((with_reducible refine gate_callee (f := 62) rfl ?_); refine goesL_ (some 28) rfl rfl Try.func62 (by kernel_rfl) rfl #[.slice A0_1 l0_1.length c0_1, .int .i64 t133] rfl xR ?_; (with_reducible refine (slices_Contains_int_int.calls kj2 _ _ l0_1 t133 false _ ?side1 ?side2 A55.out).mono ?_); (case side1 => exact cB HR0_1.out (bl HB.out)); (case side2 => exact HC0_1.out); rintro e w' ⟨rfl, ⟨nd, rfl⟩⟩; refine ⟨_, rfl, ?_⟩; have hcz82_0 := cI BK128.out 0; have hcz82_1 := cI BK128.out 1; have hcz82_2 := cI BK128.out 2; have hcz82_3 := cI BK128.out 3; have hfz82_0 := bF BK128.out 0; have hfz82_1 := bF BK128.out 1; have hfz82_2 := bF BK128.out 2; have hfz82_3 := bF BK128.out 3))
    refine bodyPost_ret (results_ct rfl _ _ gb128 28 #[.int .i64 0, .int .i64 0, .int .i64 0, .slice none 0 0] (0, 0) _ rfl (by (with_reducible repeat (first | refine blk_drewN ?_ _ | refine blk_drew ?_ | refine blk_alloc ?_ _)); refine blk_put (cs := #[.int .i64 0, .int .i64 0, .int .i64 0, .slice none 0 0]) ?_ 3 _ rfl; (with_reducible repeat (first | refine blk_drewN ?_ _ | refine blk_drew ?_ | refine blk_alloc ?_ _)); refine blk_put (cs := #[.int .i64 0, .int .i64 0, .int .i64 0, .slice none 0 0]) ?_ 2 _ rfl; (with_reducible repeat (first | refine blk_drewN ?_ _ | refine blk_drew ?_ | refine blk_alloc ?_ _)); refine blk_put (cs := #[.int .i64 0, .int .i64 0, .int .i64 0, .slice none 0 0]) ?_ 1 _ rfl; (with_reducible repeat (first | refine blk_drewN ?_ _ | refine blk_drew ?_ | refine blk_alloc ?_ _)); refine blk_put (cs := #[.int .i64 0, .int .i64 0, .int .i64 0, .slice none 0 0]) ?_ 0 _ rfl; (with_reducible repeat (first | refine blk_drewN ?_ _ | refine blk_drew ?_ | refine blk_alloc ?_ _)); refine blk_far ?_ NB128_137.out _; (with_reducible repeat (first | refine blk_drewN ?_ _ | refine blk_drew ?_ | refine blk_alloc ?_ _)); refine blk_far ?_ NB128_137.out _; (with_reducible repeat (first | refine blk_drewN ?_ _ | refine blk_drew ?_ | refine blk_alloc ?_ _)); refine blk_far ?_ NB128_137.out _; (with_reducible repeat (first | refine blk_drewN ?_ _ | refine blk_drew ?_ | refine blk_alloc ?_ _)); refine blk_far ?_ NB128_137.out _; (with_reducible repeat (first | refine blk_drewN ?_ _ | refine blk_drew ?_ | refine blk_alloc ?_ _)); exact BK128.out) Try.underlying28 rfl (by kernel_rfl)) rfl ?_
    exact ⟨_, xW, by first | exact Kd.R_nil _ _ _ _ _ | exact Kd.N_nil _ _ _ _ _ | exact Kd.V_nil _ _ _ _ _ | exact Kd.Q_nil _ _ _ _ _ | exact Kd.S_nil _ _ _ _ _, bl HB.out⟩
   rw [if_pos c26] at H
   have c26b0 : (t133 == 0) = true := beq_iff_eq.mpr c26
   have c26b1 : (t133 != 0) = false := bne_eq_false_iff_eq.mpr c26
   clear c26
   replace H := Option.bind_eq_some_iff.mp H
   obtain ⟨t138, A270, H⟩ := H
   replace H : (if t138 = true then (some (t131, t132, a0_0, t134, true)) else (some (0, 0, 0, ([] : List Int), false))) = some (r1, r2, r3, r4, r5) := H
   have A27 := aM A270
   clear A270
   by_cases c28 : t138 = true
   case pos =>
    subst c28
    have H1 : (some (t131, t132, a0_0, t134, true)) = some (r1, r2, r3, r4, r5) := by rw [if_pos rfl] at H; exact H
    clear H
    have H := H1
    clear H1
    simp only [Option.some.injEq, Prod.mk.injEq] at H
    obtain ⟨rfl, rfl, rfl, rfl, rfl⟩ := H
    have hnb29 := NB127_126.out
    have hnc29 := NB126_127.out
    have hnb30 := NB127_128.out
    have hnc30 := NB128_127.out
    have hcz31_0 := cI BK127.out 0
    have hcz31_1 := cI BK127.out 1
    have hcz31_2 := cI BK127.out 2
    have hcz31_3 := cI BK127.out 3
    have hfz31_0 := bF BK127.out 0
    have hfz31_1 := bF BK127.out 1
    have hfz31_2 := bF BK127.out 2
    have hfz31_3 := bF BK127.out 3
    go_wp2_with (first | ((with_reducible refine gate_callee (f := 63) rfl ?_); refine goesL_ (some 17) rfl rfl Try.func63 (by kernel_rfl) rfl #[.agg #[.int .i64 a1_0, .int .i64 a1_1, .int .i64 a1_2, .slice A1_3 l1_3.length c1_3]] rfl xR ?_; (with_reducible refine (impl_copyFrame.calls a1_0 a1_1 a1_2 _ _ l1_3 t131 t132 t133 t134 _ ?side1 ?side2 A25.out).mono ?_); (case side1 => repeat (first | exact (cB HR1_3.out HB.out) | (with_reducible refine Kd.C_alloc ?_ _) | (with_reducible refine Kd.C_drewN ?_ _) | (with_reducible refine Kd.C_drew ?_))); (case side2 => exact HC1_3.out); rintro e w32 ⟨v135, rfl, ho0, hb⟩; refine ⟨_, rfl, ?_⟩; have n0_ := aM (Kd.R_lower ho0 (below_size (bl HB.out))); have n1_ := aM (bB (g := gb126) (o := .cells #[.int .i64 a0_0, .slice A0_1 l0_1.length c0_1] 26 (0, 0)) (bk BK126.out) hb); have n2_ := aM (bB (g := gb127) (o := .cells #[.int .i64 a1_0, .int .i64 a1_1, .int .i64 a1_2, .slice A1_3 l1_3.length c1_3] 28 (0, 0)) (bk BK127.out) hb); have n3_ := aM (bB (g := gb128) (o := .cells #[.int .i64 0, .int .i64 0, .int .i64 0, .slice none 0 0] 28 (0, 0)) (bk BK128.out) hb); have n4_ := aM (bS (bl HB.out) hb); clear BK126 BK127; clear BK128 HB; have HO136 := n0_; have BK126 := n1_; have BK127 := n2_; have BK128 := n3_; have HB := n4_; clear n0_ n1_ n2_ n3_ n4_; (try clear hb); (try clear ho0); have hcw_gb126_0 := cI BK126.out 0; have hfw_gb126_0 := bF BK126.out 0; have hcw_gb126_1 := cI BK126.out 1; have hfw_gb126_1 := bF BK126.out 1; have hcw_gb127_0 := cI BK127.out 0; have hfw_gb127_0 := bF BK127.out 0; have hcw_gb127_1 := cI BK127.out 1; have hfw_gb127_1 := bF BK127.out 1; have hcw_gb127_2 := cI BK127.out 2; have hfw_gb127_2 := bF BK127.out 2; have hcw_gb127_3 := cI BK127.out 3; have hfw_gb127_3 := bF BK127.out 3; have hcw_gb128_0 := cI BK128.out 0; have hfw_gb128_0 := bF BK128.out 0; have hcw_gb128_1 := cI BK128.out 1; have hfw_gb128_1 := bF BK128.out 1; have hcw_gb128_2 := cI BK128.out 2; have hfw_gb128_2 := bF BK128.out 2; have hcw_gb128_3 := cI BK128.out 3; have hfw_gb128_3 := bF BK128.out 3) | ((with_reducible refine gate_dst (N := 6) rfl ?_); refine box_event ?hg (N := 6) ?hd (cs := #[.int .i64 0, .int .i64 0, .int .i64 0, .slice none 0 0]) (t := 28) ?hr ?_; (case hd => rfl); (case hg => rfl); (case hr => first | (go_simp; done) | (go_simp; rfl) | (obtain ⟨A_, c_, e_⟩ := Kd.R_slice HO136.out; subst e_; (first | (go_simp; done) | (go_simp; rfl))) | (obtain ⟨A_, c_, e_⟩ := Kd.S_slice HO136.out; subst e_; (first | (go_simp; done) | (go_simp; rfl)))); intro gb137 hg w33 hbox hb; have n0_ := aM (kB (kr HO136.out) hb); have n1_ := aM (bB (g := gb126) (o := .cells #[.int .i64 a0_0, .slice A0_1 l0_1.length c0_1] 26 (0, 0)) (bk BK126.out) hb); have n2_ := aM (bB (g := gb127) (o := .cells #[.int .i64 a1_0, .int .i64 a1_1, .int .i64 a1_2, .slice A1_3 l1_3.length c1_3] 28 (0, 0)) (bk BK127.out) hb); have n3_ := aM (bB (g := gb128) (o := .cells #[.int .i64 0, .int .i64 0, .int .i64 0, .slice none 0 0] 28 (0, 0)) (bk BK128.out) hb); have n4_ := aM (bS (bl HB.out) hb); have n5_ := aM (hbox); have n6_ := aM ((by rw [hg]; exact (below_size (bl HB.out)) : w.heap.size ≤ gb137)); have n7_ := aM ((by rw [hg]; exact (below_size (bl HB.out)) : w.heap.size ≤ gb137)); have n8_ := aM ((by rw [hg]; exact Nat.ne_of_lt (blk_lt (g := gb126) (o := .cells #[.int .i64 a0_0, .slice A0_1 l0_1.length c0_1] 26 (0, 0)) (bk BK126.out)) : gb126 ≠ gb137)); have n9_ := aM ((by rw [hg]; exact Nat.ne_of_gt (blk_lt (g := gb126) (o := .cells #[.int .i64 a0_0, .slice A0_1 l0_1.length c0_1] 26 (0, 0)) (bk BK126.out)) : gb137 ≠ gb126)); have n10_ := aM ((by rw [hg]; exact Nat.ne_of_lt (blk_lt (g := gb127) (o := .cells #[.int .i64 a1_0, .int .i64 a1_1, .int .i64 a1_2, .slice A1_3 l1_3.length c1_3] 28 (0, 0)) (bk BK127.out)) : gb127 ≠ gb137)); have n11_ := aM ((by rw [hg]; exact Nat.ne_of_gt (blk_lt (g := gb127) (o := .cells #[.int .i64 a1_0, .int .i64 a1_1, .int .i64 a1_2, .slice A1_3 l1_3.length c1_3] 28 (0, 0)) (bk BK127.out)) : gb137 ≠ gb127)); have n12_ := aM ((by rw [hg]; exact Nat.ne_of_lt (blk_lt (g := gb128) (o := .cells #[.int .i64 0, .int .i64 0, .int .i64 0, .slice none 0 0] 28 (0, 0)) (bk BK128.out)) : gb128 ≠ gb137)); have n13_ := aM ((by rw [hg]; exact Nat.ne_of_gt (blk_lt (g := gb128) (o := .cells #[.int .i64 0, .int .i64 0, .int .i64 0, .slice none 0 0] 28 (0, 0)) (bk BK128.out)) : gb137 ≠ gb128)); clear HO136 BK126; clear BK127 BK128 HB; have HO136 := n0_; have BK126 := n1_; have BK127 := n2_; have BK128 := n3_; have HB := n4_; have BK137 := n5_; have GW137 := n6_; have GE137 := n7_; have NB126_137 := n8_; have NB137_126 := n9_; have NB127_137 := n10_; have NB137_127 := n11_; have NB128_137 := n12_; have NB137_128 := n13_; clear n0_ n1_ n2_ n3_ n4_ n5_ n6_ n7_ n8_ n9_ n10_ n11_ n12_ n13_; clear hb hbox hg; have hnb34 := NB137_126.out; have hnc34 := NB126_137.out; have hnb35 := NB137_127.out; have hnc35 := NB127_137.out; have hnb36 := NB137_128.out; have hnc36 := NB128_137.out; have hcz37_0 := cI BK137.out 0; have hcz37_1 := cI BK137.out 1; have hcz37_2 := cI BK137.out 2; have hcz37_3 := cI BK137.out 3; have hfz37_0 := bF BK137.out 0; have hfz37_1 := bF BK137.out 1; have hfz37_2 := bF BK137.out 2; have hfz37_3 := bF BK137.out 3; obtain ⟨Ao38, co38, eo38⟩ := Kd.R_slice HO136.out; subst eo38; have hnb39 := NB126_128.out; have hnc39 := NB128_126.out; have hcz40_0 := cI BK126.out 0; have hcz40_1 := cI BK126.out 1; have hfz40_0 := bF BK126.out 0; have hfz40_1 := bF BK126.out 1; have hcw_gb127_0 := cI BK127.out 0; have hfw_gb127_0 := bF BK127.out 0; have hcw_gb127_1 := cI BK127.out 1; have hfw_gb127_1 := bF BK127.out 1; have hcw_gb127_2 := cI BK127.out 2; have hfw_gb127_2 := bF BK127.out 2; have hcw_gb127_3 := cI BK127.out 3; have hfw_gb127_3 := bF BK127.out 3; have hcw_gb128_0 := cI BK128.out 0; have hfw_gb128_0 := bF BK128.out 0; have hcw_gb128_1 := cI BK128.out 1; have hfw_gb128_1 := bF BK128.out 1; have hcw_gb128_2 := cI BK128.out 2; have hfw_gb128_2 := bF BK128.out 2; have hcw_gb128_3 := cI BK128.out 3; have hfw_gb128_3 := bF BK128.out 3) | ((with_reducible refine gate_dst (N := 21) rfl ?_); refine (show ∀ {P : Program} {ops : Array Oper} {Q : Exit → Act → World → Prop} {rest : List Oper} {a : Act} {w : World} (C : World → Prop), C w → (∀ W, C W → wpList P ops Q rest a W) → wpList P ops Q rest a w from fun _ hC h => h _ hC) (fun W => W.heap[gb126]? = some (.cells #[.int .i64 a0_0, .slice A0_1 l0_1.length c0_1] 26 (0, 0)) ∧ W.heap[gb127]? = some (.cells #[.int .i64 a1_0, .int .i64 a1_1, .int .i64 a1_2, .slice A1_3 l1_3.length c1_3] 28 (0, 0)) ∧ W.heap[gb128]? = some (.cells #[.int .i64 0, .int .i64 0, .int .i64 0, .slice none 0 0] 28 (0, 0)) ∧ W.heap[gb137]? = some (.cells #[.int .i64 t131, .int .i64 t132, .int .i64 t133, .slice Ao38 t134.length co38] 28 (0, 0)) ∧ Kd.R (Kd.int .u8) 5 W w.heap.size (fun _ => True) (.slice Ao38 t134.length co38) t134 ∧ Below w.heap.size w W) ⟨by (with_reducible repeat (first | refine blk_drewN ?_ _ | refine blk_drew ?_ | refine blk_alloc ?_ _)); refine blk_far ?_ NB126_137.out _; (with_reducible repeat (first | refine blk_drewN ?_ _ | refine blk_drew ?_ | refine blk_alloc ?_ _)); refine blk_far ?_ NB126_137.out _; (with_reducible repeat (first | refine blk_drewN ?_ _ | refine blk_drew ?_ | refine blk_alloc ?_ _)); refine blk_far ?_ NB126_137.out _; (with_reducible repeat (first | refine blk_drewN ?_ _ | refine blk_drew ?_ | refine blk_alloc ?_ _)); refine blk_far ?_ NB126_137.out _; (with_reducible repeat (first | refine blk_drewN ?_ _ | refine blk_drew ?_ | refine blk_alloc ?_ _)); exact BK126.out, by (with_reducible repeat (first | refine blk_drewN ?_ _ | refine blk_drew ?_ | refine blk_alloc ?_ _)); refine blk_far ?_ NB127_137.out _; (with_reducible repeat (first | refine blk_drewN ?_ _ | refine blk_drew ?_ | refine blk_alloc ?_ _)); refine blk_far ?_ NB127_137.out _; (with_reducible repeat (first | refine blk_drewN ?_ _ | refine blk_drew ?_ | refine blk_alloc ?_ _)); refine blk_far ?_ NB127_137.out _; (with_reducible repeat (first | refine blk_drewN ?_ _ | refine blk_drew ?_ | refine blk_alloc ?_ _)); refine blk_far ?_ NB127_137.out _; (with_reducible repeat (first | refine blk_drewN ?_ _ | refine blk_drew ?_ | refine blk_alloc ?_ _)); exact BK127.out, by (with_reducible repeat (first | refine blk_drewN ?_ _ | refine blk_drew ?_ | refine blk_alloc ?_ _)); refine blk_far ?_ NB128_137.out _; (with_reducible repeat (first | refine blk_drewN ?_ _ | refine blk_drew ?_ | refine blk_alloc ?_ _)); refine blk_far ?_ NB128_137.out _; (with_reducible repeat (first | refine blk_drewN ?_ _ | refine blk_drew ?_ | refine blk_alloc ?_ _)); refine blk_far ?_ NB128_137.out _; (with_reducible repeat (first | refine blk_drewN ?_ _ | refine blk_drew ?_ | refine blk_alloc ?_ _)); refine blk_far ?_ NB128_137.out _; (with_reducible repeat (first | refine blk_drewN ?_ _ | refine blk_drew ?_ | refine blk_alloc ?_ _)); exact BK128.out, by (with_reducible repeat (first | refine blk_drewN ?_ _ | refine blk_drew ?_ | refine blk_alloc ?_ _)); refine blk_put (cs := #[.int .i64 t131, .int .i64 t132, .int .i64 t133, .slice none 0 0]) ?_ 3 _ rfl; (with_reducible repeat (first | refine blk_drewN ?_ _ | refine blk_drew ?_ | refine blk_alloc ?_ _)); refine blk_put (cs := #[.int .i64 t131, .int .i64 t132, .int .i64 0, .slice none 0 0]) ?_ 2 _ rfl; (with_reducible repeat (first | refine blk_drewN ?_ _ | refine blk_drew ?_ | refine blk_alloc ?_ _)); refine blk_put (cs := #[.int .i64 t131, .int .i64 0, .int .i64 0, .slice none 0 0]) ?_ 1 _ rfl; (with_reducible repeat (first | refine blk_drewN ?_ _ | refine blk_drew ?_ | refine blk_alloc ?_ _)); refine blk_put (cs := #[.int .i64 0, .int .i64 0, .int .i64 0, .slice none 0 0]) ?_ 0 _ rfl; (with_reducible repeat (first | refine blk_drewN ?_ _ | refine blk_drew ?_ | refine blk_alloc ?_ _)); exact BK137.out, by (with_reducible repeat (first | apply Kd.R_alloc | apply Kd.R_drewN | apply Kd.R_drew)); exact Kd.R_mono (kF (p := ⟨gb137, 3, none⟩) (kF (p := ⟨gb137, 2, none⟩) (kF (p := ⟨gb137, 1, none⟩) (kF (p := ⟨gb137, 0, none⟩) (Kd.R_types HO136.out BK137.out (by decide)) (fun _ hk => hk.2) (.int .i64 t131)) (fun _ hk => hk.2) (.int .i64 t132)) (fun _ hk => hk.2) (.int .i64 t133)) (fun _ hk => hk.2) (.slice Ao38 t134.length co38)) (fun _ hk => trivial), bl HB.out⟩ ?_; intro W9 hW9; clear BK126 BK127; clear BK128 BK137; clear HO136 HB; have BK126 := aM hW9.1; have BK127 := aM hW9.2.1; have BK128 := aM hW9.2.2.1; have BK137 := aM hW9.2.2.2.1; have HO136 := aM hW9.2.2.2.2.1; have HB := aM hW9.2.2.2.2.2; clear hW9; have hcy_126_0 := cI BK126.out 0; have hfy_126_0 := bF BK126.out 0; have hcy_126_1 := cI BK126.out 1; have hfy_126_1 := bF BK126.out 1; have hcy_127_0 := cI BK127.out 0; have hfy_127_0 := bF BK127.out 0; have hcy_127_1 := cI BK127.out 1; have hfy_127_1 := bF BK127.out 1; have hcy_127_2 := cI BK127.out 2; have hfy_127_2 := bF BK127.out 2; have hcy_127_3 := cI BK127.out 3; have hfy_127_3 := bF BK127.out 3; have hcy_128_0 := cI BK128.out 0; have hfy_128_0 := bF BK128.out 0; have hcy_128_1 := cI BK128.out 1; have hfy_128_1 := bF BK128.out 1; have hcy_128_2 := cI BK128.out 2; have hfy_128_2 := bF BK128.out 2; have hcy_128_3 := cI BK128.out 3; have hfy_128_3 := bF BK128.out 3; have hcy_137_0 := cI BK137.out 0; have hfy_137_0 := bF BK137.out 0; have hcy_137_1 := cI BK137.out 1; have hfy_137_1 := bF BK137.out 1; have hcy_137_2 := cI BK137.out 2; have hfy_137_2 := bF BK137.out 2; have hcy_137_3 := cI BK137.out 3; have hfy_137_3 := bF BK137.out 3) | ((with_reducible refine gate_callee (f := 62) rfl ?_); refine goesL_ (some 28) rfl rfl Try.func62 (by kernel_rfl) rfl #[.slice A0_1 l0_1.length c0_1, .int .i64 a0_0] rfl xR ?_; (with_reducible refine (slices_Contains_int_int.calls kj2 _ _ l0_1 a0_0 true _ ?side1 ?side2 A27.out).mono ?_); (case side1 => exact cB HR0_1.out (bl HB.out)); (case side2 => exact HC0_1.out); rintro e w' ⟨rfl, ⟨nd, rfl⟩⟩; refine ⟨_, rfl, ?_⟩; have hcz41_0 := cI BK128.out 0; have hcz41_1 := cI BK128.out 1; have hcz41_2 := cI BK128.out 2; have hcz41_3 := cI BK128.out 3; have hfz41_0 := bF BK128.out 0; have hfz41_1 := bF BK128.out 1; have hfz41_2 := bF BK128.out 2; have hfz41_3 := bF BK128.out 3))
    refine bodyPost_ret (results_ct rfl _ _ gb128 28 #[.int .i64 t131, .int .i64 t132, .int .i64 a0_0, .slice Ao38 t134.length co38] (0, 0) _ rfl (by (with_reducible repeat (first | refine blk_drewN ?_ _ | refine blk_drew ?_ | refine blk_alloc ?_ _)); refine blk_put (cs := #[.int .i64 t131, .int .i64 t132, .int .i64 a0_0, .slice none 0 0]) ?_ 3 _ rfl; (with_reducible repeat (first | refine blk_drewN ?_ _ | refine blk_drew ?_ | refine blk_alloc ?_ _)); refine blk_put (cs := #[.int .i64 t131, .int .i64 t132, .int .i64 0, .slice none 0 0]) ?_ 2 _ rfl; (with_reducible repeat (first | refine blk_drewN ?_ _ | refine blk_drew ?_ | refine blk_alloc ?_ _)); refine blk_put (cs := #[.int .i64 t131, .int .i64 0, .int .i64 0, .slice none 0 0]) ?_ 1 _ rfl; (with_reducible repeat (first | refine blk_drewN ?_ _ | refine blk_drew ?_ | refine blk_alloc ?_ _)); refine blk_put (cs := #[.int .i64 0, .int .i64 0, .int .i64 0, .slice none 0 0]) ?_ 0 _ rfl; (with_reducible repeat (first | refine blk_drewN ?_ _ | refine blk_drew ?_ | refine blk_alloc ?_ _)); refine blk_far ?_ NB128_137.out _; (with_reducible repeat (first | refine blk_drewN ?_ _ | refine blk_drew ?_ | refine blk_alloc ?_ _)); exact BK128.out) Try.underlying28 rfl (by kernel_rfl)) rfl ?_
    exact ⟨_, xW, by (with_reducible repeat (first | apply Kd.R_alloc | apply Kd.R_drewN | apply Kd.R_drew)); exact Kd.R_mono (kF (p := ⟨gb128, 3, none⟩) (kF (p := ⟨gb128, 2, none⟩) (kF (p := ⟨gb128, 1, none⟩) (kF (p := ⟨gb128, 0, none⟩) (kF (p := ⟨gb137, 2, none⟩) (Kd.R_types (Kd.R_types HO136.out BK137.out (by decide)) BK128.out (by decide)) (fun _ hk => hk.1.2) (.int .i64 a0_0)) (fun _ hk => hk.2) (.int .i64 t131)) (fun _ hk => hk.2) (.int .i64 t132)) (fun _ hk => hk.2) (.int .i64 a0_0)) (fun _ hk => hk.2) (.slice Ao38 t134.length co38)) (fun _ hk => trivial), bl HB.out⟩
   replace c28 := Bool.eq_false_iff.mpr c28
   subst c28
   have H1 : (some (0, 0, 0, ([] : List Int), false)) = some (r1, r2, r3, r4, r5) := by rw [if_neg (show ¬ (false = true) by decide)] at H; exact H
   clear H
   have H := H1
   clear H1
   simp only [Option.some.injEq, Prod.mk.injEq] at H
   obtain ⟨rfl, rfl, rfl, rfl, rfl⟩ := H
   have hnb42 := NB127_126.out
   have hnc42 := NB126_127.out
   have hnb43 := NB127_128.out
   have hnc43 := NB128_127.out
   have hcz44_0 := cI BK127.out 0
   have hcz44_1 := cI BK127.out 1
   have hcz44_2 := cI BK127.out 2
   have hcz44_3 := cI BK127.out 3
   have hfz44_0 := bF BK127.out 0
   have hfz44_1 := bF BK127.out 1
   have hfz44_2 := bF BK127.out 2
   have hfz44_3 := bF BK127.out 3
   go_wp2_with (first | ((with_reducible refine gate_callee (f := 63) rfl ?_); refine goesL_ (some 17) rfl rfl Try.func63 (by kernel_rfl) rfl #[.agg #[.int .i64 a1_0, .int .i64 a1_1, .int .i64 a1_2, .slice A1_3 l1_3.length c1_3]] rfl xR ?_; (with_reducible refine (impl_copyFrame.calls a1_0 a1_1 a1_2 _ _ l1_3 t131 t132 t133 t134 _ ?side1 ?side2 A25.out).mono ?_); (case side1 => repeat (first | exact (cB HR1_3.out HB.out) | (with_reducible refine Kd.C_alloc ?_ _) | (with_reducible refine Kd.C_drewN ?_ _) | (with_reducible refine Kd.C_drew ?_))); (case side2 => exact HC1_3.out); rintro e w45 ⟨v135, rfl, ho0, hb⟩; refine ⟨_, rfl, ?_⟩; have n0_ := aM (Kd.R_lower ho0 (below_size (bl HB.out))); have n1_ := aM (bB (g := gb126) (o := .cells #[.int .i64 a0_0, .slice A0_1 l0_1.length c0_1] 26 (0, 0)) (bk BK126.out) hb); have n2_ := aM (bB (g := gb127) (o := .cells #[.int .i64 a1_0, .int .i64 a1_1, .int .i64 a1_2, .slice A1_3 l1_3.length c1_3] 28 (0, 0)) (bk BK127.out) hb); have n3_ := aM (bB (g := gb128) (o := .cells #[.int .i64 0, .int .i64 0, .int .i64 0, .slice none 0 0] 28 (0, 0)) (bk BK128.out) hb); have n4_ := aM (bS (bl HB.out) hb); clear BK126 BK127; clear BK128 HB; have HO136 := n0_; have BK126 := n1_; have BK127 := n2_; have BK128 := n3_; have HB := n4_; clear n0_ n1_ n2_ n3_ n4_; (try clear hb); (try clear ho0); have hcw_gb126_0 := cI BK126.out 0; have hfw_gb126_0 := bF BK126.out 0; have hcw_gb126_1 := cI BK126.out 1; have hfw_gb126_1 := bF BK126.out 1; have hcw_gb127_0 := cI BK127.out 0; have hfw_gb127_0 := bF BK127.out 0; have hcw_gb127_1 := cI BK127.out 1; have hfw_gb127_1 := bF BK127.out 1; have hcw_gb127_2 := cI BK127.out 2; have hfw_gb127_2 := bF BK127.out 2; have hcw_gb127_3 := cI BK127.out 3; have hfw_gb127_3 := bF BK127.out 3; have hcw_gb128_0 := cI BK128.out 0; have hfw_gb128_0 := bF BK128.out 0; have hcw_gb128_1 := cI BK128.out 1; have hfw_gb128_1 := bF BK128.out 1; have hcw_gb128_2 := cI BK128.out 2; have hfw_gb128_2 := bF BK128.out 2; have hcw_gb128_3 := cI BK128.out 3; have hfw_gb128_3 := bF BK128.out 3) | ((with_reducible refine gate_dst (N := 6) rfl ?_); refine box_event ?hg (N := 6) ?hd (cs := #[.int .i64 0, .int .i64 0, .int .i64 0, .slice none 0 0]) (t := 28) ?hr ?_; (case hd => rfl); (case hg => rfl); (case hr => first | (go_simp; done) | (go_simp; rfl) | (obtain ⟨A_, c_, e_⟩ := Kd.R_slice HO136.out; subst e_; (first | (go_simp; done) | (go_simp; rfl))) | (obtain ⟨A_, c_, e_⟩ := Kd.S_slice HO136.out; subst e_; (first | (go_simp; done) | (go_simp; rfl)))); intro gb137 hg w46 hbox hb; have n0_ := aM (kB (kr HO136.out) hb); have n1_ := aM (bB (g := gb126) (o := .cells #[.int .i64 a0_0, .slice A0_1 l0_1.length c0_1] 26 (0, 0)) (bk BK126.out) hb); have n2_ := aM (bB (g := gb127) (o := .cells #[.int .i64 a1_0, .int .i64 a1_1, .int .i64 a1_2, .slice A1_3 l1_3.length c1_3] 28 (0, 0)) (bk BK127.out) hb); have n3_ := aM (bB (g := gb128) (o := .cells #[.int .i64 0, .int .i64 0, .int .i64 0, .slice none 0 0] 28 (0, 0)) (bk BK128.out) hb); have n4_ := aM (bS (bl HB.out) hb); have n5_ := aM (hbox); have n6_ := aM ((by rw [hg]; exact (below_size (bl HB.out)) : w.heap.size ≤ gb137)); have n7_ := aM ((by rw [hg]; exact (below_size (bl HB.out)) : w.heap.size ≤ gb137)); have n8_ := aM ((by rw [hg]; exact Nat.ne_of_lt (blk_lt (g := gb126) (o := .cells #[.int .i64 a0_0, .slice A0_1 l0_1.length c0_1] 26 (0, 0)) (bk BK126.out)) : gb126 ≠ gb137)); have n9_ := aM ((by rw [hg]; exact Nat.ne_of_gt (blk_lt (g := gb126) (o := .cells #[.int .i64 a0_0, .slice A0_1 l0_1.length c0_1] 26 (0, 0)) (bk BK126.out)) : gb137 ≠ gb126)); have n10_ := aM ((by rw [hg]; exact Nat.ne_of_lt (blk_lt (g := gb127) (o := .cells #[.int .i64 a1_0, .int .i64 a1_1, .int .i64 a1_2, .slice A1_3 l1_3.length c1_3] 28 (0, 0)) (bk BK127.out)) : gb127 ≠ gb137)); have n11_ := aM ((by rw [hg]; exact Nat.ne_of_gt (blk_lt (g := gb127) (o := .cells #[.int .i64 a1_0, .int .i64 a1_1, .int .i64 a1_2, .slice A1_3 l1_3.length c1_3] 28 (0, 0)) (bk BK127.out)) : gb137 ≠ gb127)); have n12_ := aM ((by rw [hg]; exact Nat.ne_of_lt (blk_lt (g := gb128) (o := .cells #[.int .i64 0, .int .i64 0, .int .i64 0, .slice none 0 0] 28 (0, 0)) (bk BK128.out)) : gb128 ≠ gb137)); have n13_ := aM ((by rw [hg]; exact Nat.ne_of_gt (blk_lt (g := gb128) (o := .cells #[.int .i64 0, .int .i64 0, .int .i64 0, .slice none 0 0] 28 (0, 0)) (bk BK128.out)) : gb137 ≠ gb128)); clear HO136 BK126; clear BK127 BK128 HB; have HO136 := n0_; have BK126 := n1_; have BK127 := n2_; have BK128 := n3_; have HB := n4_; have BK137 := n5_; have GW137 := n6_; have GE137 := n7_; have NB126_137 := n8_; have NB137_126 := n9_; have NB127_137 := n10_; have NB137_127 := n11_; have NB128_137 := n12_; have NB137_128 := n13_; clear n0_ n1_ n2_ n3_ n4_ n5_ n6_ n7_ n8_ n9_ n10_ n11_ n12_ n13_; clear hb hbox hg; have hnb47 := NB137_126.out; have hnc47 := NB126_137.out; have hnb48 := NB137_127.out; have hnc48 := NB127_137.out; have hnb49 := NB137_128.out; have hnc49 := NB128_137.out; have hcz50_0 := cI BK137.out 0; have hcz50_1 := cI BK137.out 1; have hcz50_2 := cI BK137.out 2; have hcz50_3 := cI BK137.out 3; have hfz50_0 := bF BK137.out 0; have hfz50_1 := bF BK137.out 1; have hfz50_2 := bF BK137.out 2; have hfz50_3 := bF BK137.out 3; obtain ⟨Ao51, co51, eo51⟩ := Kd.R_slice HO136.out; subst eo51; have hnb52 := NB126_128.out; have hnc52 := NB128_126.out; have hcz53_0 := cI BK126.out 0; have hcz53_1 := cI BK126.out 1; have hfz53_0 := bF BK126.out 0; have hfz53_1 := bF BK126.out 1; have hcw_gb127_0 := cI BK127.out 0; have hfw_gb127_0 := bF BK127.out 0; have hcw_gb127_1 := cI BK127.out 1; have hfw_gb127_1 := bF BK127.out 1; have hcw_gb127_2 := cI BK127.out 2; have hfw_gb127_2 := bF BK127.out 2; have hcw_gb127_3 := cI BK127.out 3; have hfw_gb127_3 := bF BK127.out 3; have hcw_gb128_0 := cI BK128.out 0; have hfw_gb128_0 := bF BK128.out 0; have hcw_gb128_1 := cI BK128.out 1; have hfw_gb128_1 := bF BK128.out 1; have hcw_gb128_2 := cI BK128.out 2; have hfw_gb128_2 := bF BK128.out 2; have hcw_gb128_3 := cI BK128.out 3; have hfw_gb128_3 := bF BK128.out 3) | ((with_reducible refine gate_dst (N := 21) rfl ?_); refine (show ∀ {P : Program} {ops : Array Oper} {Q : Exit → Act → World → Prop} {rest : List Oper} {a : Act} {w : World} (C : World → Prop), C w → (∀ W, C W → wpList P ops Q rest a W) → wpList P ops Q rest a w from fun _ hC h => h _ hC) (fun W => W.heap[gb126]? = some (.cells #[.int .i64 a0_0, .slice A0_1 l0_1.length c0_1] 26 (0, 0)) ∧ W.heap[gb127]? = some (.cells #[.int .i64 a1_0, .int .i64 a1_1, .int .i64 a1_2, .slice A1_3 l1_3.length c1_3] 28 (0, 0)) ∧ W.heap[gb128]? = some (.cells #[.int .i64 0, .int .i64 0, .int .i64 0, .slice none 0 0] 28 (0, 0)) ∧ W.heap[gb137]? = some (.cells #[.int .i64 t131, .int .i64 t132, .int .i64 t133, .slice Ao51 t134.length co51] 28 (0, 0)) ∧ Kd.R (Kd.int .u8) 5 W w.heap.size (fun _ => True) (.slice Ao51 t134.length co51) t134 ∧ Below w.heap.size w W) ⟨by (with_reducible repeat (first | refine blk_drewN ?_ _ | refine blk_drew ?_ | refine blk_alloc ?_ _)); refine blk_far ?_ NB126_137.out _; (with_reducible repeat (first | refine blk_drewN ?_ _ | refine blk_drew ?_ | refine blk_alloc ?_ _)); refine blk_far ?_ NB126_137.out _; (with_reducible repeat (first | refine blk_drewN ?_ _ | refine blk_drew ?_ | refine blk_alloc ?_ _)); refine blk_far ?_ NB126_137.out _; (with_reducible repeat (first | refine blk_drewN ?_ _ | refine blk_drew ?_ | refine blk_alloc ?_ _)); refine blk_far ?_ NB126_137.out _; (with_reducible repeat (first | refine blk_drewN ?_ _ | refine blk_drew ?_ | refine blk_alloc ?_ _)); exact BK126.out, by (with_reducible repeat (first | refine blk_drewN ?_ _ | refine blk_drew ?_ | refine blk_alloc ?_ _)); refine blk_far ?_ NB127_137.out _; (with_reducible repeat (first | refine blk_drewN ?_ _ | refine blk_drew ?_ | refine blk_alloc ?_ _)); refine blk_far ?_ NB127_137.out _; (with_reducible repeat (first | refine blk_drewN ?_ _ | refine blk_drew ?_ | refine blk_alloc ?_ _)); refine blk_far ?_ NB127_137.out _; (with_reducible repeat (first | refine blk_drewN ?_ _ | refine blk_drew ?_ | refine blk_alloc ?_ _)); refine blk_far ?_ NB127_137.out _; (with_reducible repeat (first | refine blk_drewN ?_ _ | refine blk_drew ?_ | refine blk_alloc ?_ _)); exact BK127.out, by (with_reducible repeat (first | refine blk_drewN ?_ _ | refine blk_drew ?_ | refine blk_alloc ?_ _)); refine blk_far ?_ NB128_137.out _; (with_reducible repeat (first | refine blk_drewN ?_ _ | refine blk_drew ?_ | refine blk_alloc ?_ _)); refine blk_far ?_ NB128_137.out _; (with_reducible repeat (first | refine blk_drewN ?_ _ | refine blk_drew ?_ | refine blk_alloc ?_ _)); refine blk_far ?_ NB128_137.out _; (with_reducible repeat (first | refine blk_drewN ?_ _ | refine blk_drew ?_ | refine blk_alloc ?_ _)); refine blk_far ?_ NB128_137.out _; (with_reducible repeat (first | refine blk_drewN ?_ _ | refine blk_drew ?_ | refine blk_alloc ?_ _)); exact BK128.out, by (with_reducible repeat (first | refine blk_drewN ?_ _ | refine blk_drew ?_ | refine blk_alloc ?_ _)); refine blk_put (cs := #[.int .i64 t131, .int .i64 t132, .int .i64 t133, .slice none 0 0]) ?_ 3 _ rfl; (with_reducible repeat (first | refine blk_drewN ?_ _ | refine blk_drew ?_ | refine blk_alloc ?_ _)); refine blk_put (cs := #[.int .i64 t131, .int .i64 t132, .int .i64 0, .slice none 0 0]) ?_ 2 _ rfl; (with_reducible repeat (first | refine blk_drewN ?_ _ | refine blk_drew ?_ | refine blk_alloc ?_ _)); refine blk_put (cs := #[.int .i64 t131, .int .i64 0, .int .i64 0, .slice none 0 0]) ?_ 1 _ rfl; (with_reducible repeat (first | refine blk_drewN ?_ _ | refine blk_drew ?_ | refine blk_alloc ?_ _)); refine blk_put (cs := #[.int .i64 0, .int .i64 0, .int .i64 0, .slice none 0 0]) ?_ 0 _ rfl; (with_reducible repeat (first | refine blk_drewN ?_ _ | refine blk_drew ?_ | refine blk_alloc ?_ _)); exact BK137.out, by (with_reducible repeat (first | apply Kd.R_alloc | apply Kd.R_drewN | apply Kd.R_drew)); exact Kd.R_mono (kF (p := ⟨gb137, 3, none⟩) (kF (p := ⟨gb137, 2, none⟩) (kF (p := ⟨gb137, 1, none⟩) (kF (p := ⟨gb137, 0, none⟩) (Kd.R_types HO136.out BK137.out (by decide)) (fun _ hk => hk.2) (.int .i64 t131)) (fun _ hk => hk.2) (.int .i64 t132)) (fun _ hk => hk.2) (.int .i64 t133)) (fun _ hk => hk.2) (.slice Ao51 t134.length co51)) (fun _ hk => trivial), bl HB.out⟩ ?_; intro W9 hW9; clear BK126 BK127; clear BK128 BK137; clear HO136 HB; have BK126 := aM hW9.1; have BK127 := aM hW9.2.1; have BK128 := aM hW9.2.2.1; have BK137 := aM hW9.2.2.2.1; have HO136 := aM hW9.2.2.2.2.1; have HB := aM hW9.2.2.2.2.2; clear hW9; have hcy_126_0 := cI BK126.out 0; have hfy_126_0 := bF BK126.out 0; have hcy_126_1 := cI BK126.out 1; have hfy_126_1 := bF BK126.out 1; have hcy_127_0 := cI BK127.out 0; have hfy_127_0 := bF BK127.out 0; have hcy_127_1 := cI BK127.out 1; have hfy_127_1 := bF BK127.out 1; have hcy_127_2 := cI BK127.out 2; have hfy_127_2 := bF BK127.out 2; have hcy_127_3 := cI BK127.out 3; have hfy_127_3 := bF BK127.out 3; have hcy_128_0 := cI BK128.out 0; have hfy_128_0 := bF BK128.out 0; have hcy_128_1 := cI BK128.out 1; have hfy_128_1 := bF BK128.out 1; have hcy_128_2 := cI BK128.out 2; have hfy_128_2 := bF BK128.out 2; have hcy_128_3 := cI BK128.out 3; have hfy_128_3 := bF BK128.out 3; have hcy_137_0 := cI BK137.out 0; have hfy_137_0 := bF BK137.out 0; have hcy_137_1 := cI BK137.out 1; have hfy_137_1 := bF BK137.out 1; have hcy_137_2 := cI BK137.out 2; have hfy_137_2 := bF BK137.out 2; have hcy_137_3 := cI BK137.out 3; have hfy_137_3 := bF BK137.out 3) | ((with_reducible refine gate_callee (f := 62) rfl ?_); refine goesL_ (some 28) rfl rfl Try.func62 (by kernel_rfl) rfl #[.slice A0_1 l0_1.length c0_1, .int .i64 a0_0] rfl xR ?_; (with_reducible refine (slices_Contains_int_int.calls kj2 _ _ l0_1 a0_0 false _ ?side1 ?side2 A27.out).mono ?_); (case side1 => exact cB HR0_1.out (bl HB.out)); (case side2 => exact HC0_1.out); rintro e w' ⟨rfl, ⟨nd, rfl⟩⟩; refine ⟨_, rfl, ?_⟩; have hcz54_0 := cI BK128.out 0; have hcz54_1 := cI BK128.out 1; have hcz54_2 := cI BK128.out 2; have hcz54_3 := cI BK128.out 3; have hfz54_0 := bF BK128.out 0; have hfz54_1 := bF BK128.out 1; have hfz54_2 := bF BK128.out 2; have hfz54_3 := bF BK128.out 3))
   refine bodyPost_ret (results_ct rfl _ _ gb128 28 #[.int .i64 0, .int .i64 0, .int .i64 0, .slice none 0 0] (0, 0) _ rfl (by (with_reducible repeat (first | refine blk_drewN ?_ _ | refine blk_drew ?_ | refine blk_alloc ?_ _)); refine blk_put (cs := #[.int .i64 0, .int .i64 0, .int .i64 0, .slice none 0 0]) ?_ 3 _ rfl; (with_reducible repeat (first | refine blk_drewN ?_ _ | refine blk_drew ?_ | refine blk_alloc ?_ _)); refine blk_put (cs := #[.int .i64 0, .int .i64 0, .int .i64 0, .slice none 0 0]) ?_ 2 _ rfl; (with_reducible repeat (first | refine blk_drewN ?_ _ | refine blk_drew ?_ | refine blk_alloc ?_ _)); refine blk_put (cs := #[.int .i64 0, .int .i64 0, .int .i64 0, .slice none 0 0]) ?_ 1 _ rfl; (with_reducible repeat (first | refine blk_drewN ?_ _ | refine blk_drew ?_ | refine blk_alloc ?_ _)); refine blk_put (cs := #[.int .i64 0, .int .i64 0, .int .i64 0, .slice none 0 0]) ?_ 0 _ rfl; (with_reducible repeat (first | refine blk_drewN ?_ _ | refine blk_drew ?_ | refine blk_alloc ?_ _)); refine blk_far ?_ NB128_137.out _; (with_reducible repeat (first | refine blk_drewN ?_ _ | refine blk_drew ?_ | refine blk_alloc ?_ _)); exact BK128.out) Try.underlying28 rfl (by kernel_rfl)) rfl ?_
   exact ⟨_, xW, by first | exact Kd.R_nil _ _ _ _ _ | exact Kd.N_nil _ _ _ _ _ | exact Kd.V_nil _ _ _ _ _ | exact Kd.Q_nil _ _ _ _ _ | exact Kd.S_nil _ _ _ _ _, bl HB.out⟩

end Go.Proofs.Ytjmkbmpfknhcdaa.PFnExactInside

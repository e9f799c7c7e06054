/- Of the proof of laws.FnPorts: a part. No condition beyond what its theorems say. -/
import Derived.Test.YtaoipjdmmamkmaaVFnPortsWTight
import Derived.Test.YtaoipjdmmamkmaaVFnPortsPx0
import Derived.Test.YtaoipjdmmamkmaaVFnPortsPx1
import Derived.Test.YtaoipjdmmamkmaaVFnPortsPx2
import Derived.Test.YtaoipjdmmamkmaaVFnPortsPx3
namespace Go.Proofs.Ytaoipjdmmamkmaa.PFnPorts
open Go.RowKit Go.Proofs.YtaoipjdmmamkmaaW.PrintWords Go.Proofs.YtaoipjdmmamkmaaW.PrintLast Go.Proofs.YtaoipjdmmamkmaaW.PrintMore
attribute [local go_sem] max2_int min2_int max_two min_two max_three min_three max_four min_four   -- for this text's walks alone
set_option linter.unusedVariables false
set_option linter.unusedSimpArgs false

attribute [local go_sem high] eqA36
mutual
def spec_PortOk.j0 : Nat → Bool → Bool → Bool → Int → Int → Int → Int → Int → Int → Int → Int → Bool → Option (Bool)
 | 0, _, _, _, _, _, _, _, _, _, _, _, _ => none
 | k + 1, x26, x182000, x182001, x182002, x182003, x182004, x182005, x182006, x182007, x182008, x182009, x182010 => if x26 = true then (some false) else (if x182008 = 1 then ((spec_l1In.f x182008 0 3).bind fun t185 => (if t185 = true then (if ((x182008 == 0) == (!x182000)) = true then ((spec_l1In.f x182009 0 4).bind fun t186 => (if t186 = true then (some (x182010 == (x182009 == 0))) else (some false))) else (some false)) else (some false))) else ((spec_l1In.f x182008 0 3).bind fun t187 => (if t187 = true then (if ((x182008 == 0) == (!x182000)) = true then ((spec_l1In.f x182009 0 4).bind fun t188 => (if t188 = true then (if x182008 = 2 then (some (x182010 == (x182009 == 0))) else (some (x182010 == false))) else (some false))) else (some false)) else (some false))))
def spec_PortOk.j1 : Nat → Bool → Bool → Bool → Int → Int → Int → Int → Int → Int → Int → Int → Bool → Option (Bool)
 | 0, _, _, _, _, _, _, _, _, _, _, _, _ => none
 | k + 1, x40, x182000, x182001, x182002, x182003, x182004, x182005, x182006, x182007, x182008, x182009, x182010 => if x40 = true then (some false) else (if x182008 = 1 then ((spec_l1In.f x182008 0 3).bind fun t189 => (if t189 = true then (if ((x182008 == 0) == (!x182000)) = true then ((spec_l1In.f x182009 0 4).bind fun t190 => (if t190 = true then (some (x182010 == (x182009 == 0))) else (some false))) else (some false)) else (some false))) else ((spec_l1In.f x182008 0 3).bind fun t191 => (if t191 = true then (if ((x182008 == 0) == (!x182000)) = true then ((spec_l1In.f x182009 0 4).bind fun t192 => (if t192 = true then (if x182008 = 2 then (some (x182010 == (x182009 == 0))) else (some (x182010 == false))) else (some false))) else (some false)) else (some false))))
end
def spec_PortOk.f (k : Nat) (a0_0 : Bool) (a0_1 : Bool) (a0_2 : Int) (a0_3 : Int) (a0_4 : Int) (a0_5 : Int) (a0_6 : Int) (a0_7 : Int) (a0_8 : Int) (a0_9 : Int) (a0_10 : Bool) : Option (Bool) := if a0_1 = true then (if a0_0 = true then ((spec_VecOk.f a0_2 a0_3 a0_4 a0_5).bind fun t182 => (if t182 = true then ((spec_l1In.f a0_6 0 8).bind fun t183 => (if t183 = true then ((spec_l1In.f a0_7 1 3).bind fun t184 => (spec_PortOk.j0 k (!t184) a0_0 a0_1 a0_2 a0_3 a0_4 a0_5 a0_6 a0_7 a0_8 a0_9 a0_10)) else (spec_PortOk.j0 k true a0_0 a0_1 a0_2 a0_3 a0_4 a0_5 a0_6 a0_7 a0_8 a0_9 a0_10))) else (spec_PortOk.j0 k true a0_0 a0_1 a0_2 a0_3 a0_4 a0_5 a0_6 a0_7 a0_8 a0_9 a0_10))) else (spec_PortOk.j0 k true a0_0 a0_1 a0_2 a0_3 a0_4 a0_5 a0_6 a0_7 a0_8 a0_9 a0_10)) else (if (!(a0_2 == 0) || (!(a0_3 == 0) || (!(a0_4 == 0) || (!(a0_5 == 0))))) = true then (spec_PortOk.j1 k true a0_0 a0_1 a0_2 a0_3 a0_4 a0_5 a0_6 a0_7 a0_8 a0_9 a0_10) else (if a0_6 = 0 then (spec_PortOk.j1 k (a0_7 != 0) a0_0 a0_1 a0_2 a0_3 a0_4 a0_5 a0_6 a0_7 a0_8 a0_9 a0_10) else (spec_PortOk.j1 k true a0_0 a0_1 a0_2 a0_3 a0_4 a0_5 a0_6 a0_7 a0_8 a0_9 a0_10)))
theorem spec_PortOk.mono_l : ∀ k, (∀ y0 y1 y2 y3 y4 y5 y6 y7 y8 y9 y10 y11, LeO (spec_PortOk.j0 k y0 y1 y2 y3 y4 y5 y6 y7 y8 y9 y10 y11) (spec_PortOk.j0 (k + 1) y0 y1 y2 y3 y4 y5 y6 y7 y8 y9 y10 y11)) ∧ (∀ y0 y1 y2 y3 y4 y5 y6 y7 y8 y9 y10 y11, LeO (spec_PortOk.j1 k y0 y1 y2 y3 y4 y5 y6 y7 y8 y9 y10 y11) (spec_PortOk.j1 (k + 1) y0 y1 y2 y3 y4 y5 y6 y7 y8 y9 y10 y11))
 | 0 => ⟨fun _ _ _ _ _ _ _ _ _ _ _ _ r h => by simp [spec_PortOk.j0] at h, fun _ _ _ _ _ _ _ _ _ _ _ _ r h => by simp [spec_PortOk.j1] at h⟩
 | k + 1 => by
  obtain ⟨ih0, ih1⟩ := spec_PortOk.mono_l k
  refine ⟨?_, ?_⟩
  ·intro y0 y1 y2 y3 y4 y5 y6 y7 y8 y9 y10 y11
   unfold spec_PortOk.j0
   repeat' first
   | (with_reducible exact ih0 _ _ _ _ _ _ _ _ _ _ _ _)
   | (with_reducible exact ih1 _ _ _ _ _ _ _ _ _ _ _ _)
   | (with_reducible exact LeO.refl _)
   | (with_reducible exact LeO.none _)
   | (with_reducible refine LeO.ite ?_ ?_)
   | (with_reducible refine LeO.bind ?_ (fun _ => ?_))
   | exact ih0 _ _ _ _ _ _ _ _ _ _ _ _
   | exact ih1 _ _ _ _ _ _ _ _ _ _ _ _
   | exact LeO.none _
   | refine LeO.ite ?_ ?_
   | refine LeO.bind ?_ (fun _ => ?_)
  ·intro y0 y1 y2 y3 y4 y5 y6 y7 y8 y9 y10 y11
   unfold spec_PortOk.j1
   repeat' first
   | (with_reducible exact ih0 _ _ _ _ _ _ _ _ _ _ _ _)
   | (with_reducible exact ih1 _ _ _ _ _ _ _ _ _ _ _ _)
   | (with_reducible exact LeO.refl _)
   | (with_reducible exact LeO.none _)
   | (with_reducible refine LeO.ite ?_ ?_)
   | (with_reducible refine LeO.bind ?_ (fun _ => ?_))
   | exact ih0 _ _ _ _ _ _ _ _ _ _ _ _
   | exact ih1 _ _ _ _ _ _ _ _ _ _ _ _
   | exact LeO.none _
   | refine LeO.ite ?_ ?_
   | refine LeO.bind ?_ (fun _ => ?_)
theorem spec_PortOk.mono : ∀ a0 a1 a2 a3 a4 a5 a6 a7 a8 a9 a10 k, LeO (spec_PortOk.f k a0 a1 a2 a3 a4 a5 a6 a7 a8 a9 a10) (spec_PortOk.f (k + 1) a0 a1 a2 a3 a4 a5 a6 a7 a8 a9 a10) := by
 intro a0 a1 a2 a3 a4 a5 a6 a7 a8 a9 a10 k
 obtain ⟨ih0, ih1⟩ := spec_PortOk.mono_l k
 unfold spec_PortOk.f
 repeat' first
   | (with_reducible exact ih0 _ _ _ _ _ _ _ _ _ _ _ _)
   | (with_reducible exact ih1 _ _ _ _ _ _ _ _ _ _ _ _)
   | (with_reducible exact LeO.refl _)
   | (with_reducible exact LeO.none _)
   | (with_reducible refine LeO.ite ?_ ?_)
   | (with_reducible refine LeO.bind ?_ (fun _ => ?_))
   | exact ih0 _ _ _ _ _ _ _ _ _ _ _ _
   | exact ih1 _ _ _ _ _ _ _ _ _ _ _ _
   | exact LeO.none _
   | refine LeO.ite ?_ ?_
   | refine LeO.bind ?_ (fun _ => ?_)
set_option maxHeartbeats 60000000 in
set_option maxRecDepth 100000 in
theorem spec_PortOk.calls (k : Nat) (a0_0 : Bool) (a0_1 : Bool) (a0_2 : Int) (a0_3 : Int) (a0_4 : Int) (a0_5 : Int) (a0_6 : Int) (a0_7 : Int) (a0_8 : Int) (a0_9 : Int) (a0_10 : Bool) (r : Bool) (w : World) (h : spec_PortOk.f k a0_0 a0_1 a0_2 a0_3 a0_4 a0_5 a0_6 a0_7 a0_8 a0_9 a0_10 = some r) :
  Calls Try.prog 29 #[.agg #[.bool a0_0, .bool a0_1, .int .i64 a0_2, .int .i64 a0_3, .int .i64 a0_4, .int .i64 a0_5, .int .i64 a0_6, .int .i64 a0_7, .int .i64 a0_8, .int .i64 a0_9, .bool a0_10]] w fun e w' => e = .returned (.bool r) ∧ Below w.heap.size w w' := by
 have hu38 := Try.underlying38
 have hu36 := Try.underlying36
 have HB := aM (Below.refl w.heap.size w)
 have H : (if a0_1 = true then (if a0_0 = true then ((spec_VecOk.f a0_2 a0_3 a0_4 a0_5).bind fun t182 => (if t182 = true then ((spec_l1In.f a0_6 0 8).bind fun t183 => (if t183 = true then ((spec_l1In.f a0_7 1 3).bind fun t184 => (spec_PortOk.j0 k (!t184) a0_0 a0_1 a0_2 a0_3 a0_4 a0_5 a0_6 a0_7 a0_8 a0_9 a0_10)) else (spec_PortOk.j0 k true a0_0 a0_1 a0_2 a0_3 a0_4 a0_5 a0_6 a0_7 a0_8 a0_9 a0_10))) else (spec_PortOk.j0 k true a0_0 a0_1 a0_2 a0_3 a0_4 a0_5 a0_6 a0_7 a0_8 a0_9 a0_10))) else (spec_PortOk.j0 k true a0_0 a0_1 a0_2 a0_3 a0_4 a0_5 a0_6 a0_7 a0_8 a0_9 a0_10)) else (if (!(a0_2 == 0) || (!(a0_3 == 0) || (!(a0_4 == 0) || (!(a0_5 == 0))))) = true then (spec_PortOk.j1 k true a0_0 a0_1 a0_2 a0_3 a0_4 a0_5 a0_6 a0_7 a0_8 a0_9 a0_10) else (if a0_6 = 0 then (spec_PortOk.j1 k (a0_7 != 0) a0_0 a0_1 a0_2 a0_3 a0_4 a0_5 a0_6 a0_7 a0_8 a0_9 a0_10) else (spec_PortOk.j1 k true a0_0 a0_1 a0_2 a0_3 a0_4 a0_5 a0_6 a0_7 a0_8 a0_9 a0_10)))) = some r := h
 clear h
 by_cases c2 : a0_1 = true
 case pos =>
  subst c2
  replace H := hP H rfl
  have HC3 := aM H
  clear H
  go_enter Try.func29, Try.ntmps29
  go_upto_region 2 with (first | ((with_reducible refine gD (N := 1) rfl ?_); refine bE (N := 1) (cs := #[.bool a0_0, .bool true, .int .i64 a0_2, .int .i64 a0_3, .int .i64 a0_4, .int .i64 a0_5, .int .i64 a0_6, .int .i64 a0_7, .int .i64 a0_8, .int .i64 a0_9, .bool a0_10]) (t := 38) ?_; intro gb181 hg w4 hbox hb; have BK181 := aM (hbox); have GW181 := gE hg (below_size (bl HB.out)); have GE181 := gE hg (below_size (bl HB.out)); replace HB := aM (bS (bl HB.out) hb); clear hb hbox hg; have hcz5 := cA11 BK181.out))
  (try simp only [Act.put, sA, sZ, sS])
  go_cut [26] (fun v26 wc => ∃ (kq : Nat) (x26_2 : Bool), v26 = .bool x26_2 ∧ Aside0 (spec_PortOk.j0 kq x26_2 a0_0 true a0_2 a0_3 a0_4 a0_5 a0_6 a0_7 a0_8 a0_9 a0_10 = some r) ∧ Aside0 (kq ≤ k) ∧ Aside0 (wc.heap[gb181]? = some (.cells #[.bool a0_0, .bool true, .int .i64 a0_2, .int .i64 a0_3, .int .i64 a0_4, .int .i64 a0_5, .int .i64 a0_6, .int .i64 a0_7, .int .i64 a0_8, .int .i64 a0_9, .bool a0_10] 38 (0, 0))) ∧ Aside0 (Below w.heap.size w wc))
  case first =>
   have H := HC3.out
   clear HC3
   by_cases c6 : a0_0 = true
   case neg =>
    replace c6 := Bool.eq_false_iff.mpr c6
    subst c6
    replace H := hN H (show ¬ (false = true) by decide)
    have H' := aM H
    clear H
    have hcz20 := cA11 BK181.out
    go_wp2
    go_meet
    case rel => exact ⟨_, (true), xE, H', ⟨by first | omega | exact Nat.le_refl _⟩, ⟨by (with_reducible repeat (first | refine blk_drewN ?_ _ | refine blk_drew ?_ | refine blk_alloc ?_ _)); exact BK181.out⟩, ⟨bl HB.out⟩⟩
   subst c6
   replace H := hP H rfl
   obtain ⟨t182, A70, H⟩ := hB H
   have A7 := aM A70
   clear A70
   by_cases c8 : t182 = true
   case neg =>
    replace c8 := Bool.eq_false_iff.mpr c8
    subst c8
    replace H := hN H (show ¬ (false = true) by decide)
    have H' := aM H
    clear H
    have hcz18 := cA11 BK181.out
    go_wp2_with (first | (go_at_call 66; (with_reducible refine (spec_VecOk.calls a0_2 a0_3 a0_4 a0_5 false _ A7.out).mono ?_); rintro e w19 ⟨rfl, hb⟩; replace BK181 := aM (bB (bk BK181.out) hb); replace HB := aM (bS (bl HB.out) hb); (try clear hb)))
    go_meet
    case rel => exact ⟨_, (true), xE, H', ⟨by first | omega | exact Nat.le_refl _⟩, ⟨by (with_reducible repeat (first | refine blk_drewN ?_ _ | refine blk_drew ?_ | refine blk_alloc ?_ _)); exact BK181.out⟩, ⟨bl HB.out⟩⟩
   subst c8
   replace H := hP H rfl
   obtain ⟨t183, A90, H⟩ := hB H
   have A9 := aM A90
   clear A90
   by_cases c10 : t183 = true
   case neg =>
    replace c10 := Bool.eq_false_iff.mpr c10
    subst c10
    replace H := hN H (show ¬ (false = true) by decide)
    have H' := aM H
    clear H
    have hcz15 := cA11 BK181.out
    go_wp2_with (first | (go_at_call 66; (with_reducible refine (spec_VecOk.calls a0_2 a0_3 a0_4 a0_5 true _ A7.out).mono ?_); rintro e w16 ⟨rfl, hb⟩; replace BK181 := aM (bB (bk BK181.out) hb); replace HB := aM (bS (bl HB.out) hb); (try clear hb); have hcz17 := cA11 BK181.out) | (go_at_call 57; (with_reducible refine (spec_l1In.calls a0_6 0 8 false _ A9.out).mono ?_); rintro e w' ⟨rfl, ⟨nd, rfl⟩⟩))
    go_meet
    case rel => exact ⟨_, (true), xE, H', ⟨by first | omega | exact Nat.le_refl _⟩, ⟨by (with_reducible repeat (first | refine blk_drewN ?_ _ | refine blk_drew ?_ | refine blk_alloc ?_ _)); exact BK181.out⟩, ⟨bl HB.out⟩⟩
   subst c10
   replace H := hP H rfl
   obtain ⟨t184, A110, H⟩ := hB H
   have A11 := aM A110
   clear A110
   have H' := aM H
   clear H
   have hcz12 := cA11 BK181.out
   go_wp2_with (first | (go_at_call 66; (with_reducible refine (spec_VecOk.calls a0_2 a0_3 a0_4 a0_5 true _ A7.out).mono ?_); rintro e w13 ⟨rfl, hb⟩; replace BK181 := aM (bB (bk BK181.out) hb); replace HB := aM (bS (bl HB.out) hb); (try clear hb); have hcz14 := cA11 BK181.out) | (go_at_call 57; (with_reducible refine (spec_l1In.calls a0_6 0 8 true _ A9.out).mono ?_); rintro e w' ⟨rfl, ⟨nd, rfl⟩⟩) | (go_at_call 57; (with_reducible refine (spec_l1In.calls a0_7 1 3 t184 _ A11.out).mono ?_); rintro e w' ⟨rfl, ⟨nd, rfl⟩⟩))
   go_meet
   case rel => exact ⟨_, (!t184), xE, H', ⟨by first | omega | exact Nat.le_refl _⟩, ⟨by (with_reducible repeat (first | refine blk_drewN ?_ _ | refine blk_drew ?_ | refine blk_alloc ?_ _)); exact BK181.out⟩, ⟨bl HB.out⟩⟩
  case rest =>
   clear HC3
   try clear c1
   try clear c2
   try clear p2
   try clear c6
   try clear c8
   try clear c10
   try clear hcz12
   try clear hcz12_1
   try clear hcz12_10
   try clear hcz12_2
   try clear hcz12_3
   try clear hcz12_4
   try clear hcz12_5
   try clear hcz12_6
   try clear hcz12_7
   try clear hcz12_8
   try clear hcz12_9
   try clear hcz14
   try clear hcz15
   try clear hcz15_1
   try clear hcz15_10
   try clear hcz15_2
   try clear hcz15_3
   try clear hcz15_4
   try clear hcz15_5
   try clear hcz15_6
   try clear hcz15_7
   try clear hcz15_8
   try clear hcz15_9
   try clear hcz17
   try clear hcz18
   try clear hcz18_1
   try clear hcz18_10
   try clear hcz18_2
   try clear hcz18_3
   try clear hcz18_4
   try clear hcz18_5
   try clear hcz18_6
   try clear hcz18_7
   try clear hcz18_8
   try clear hcz18_9
   try clear hcz20
   try clear hcz20_1
   try clear hcz20_10
   try clear hcz20_2
   try clear hcz20_3
   try clear hcz20_4
   try clear hcz20_5
   try clear hcz20_6
   try clear hcz20_7
   try clear hcz20_8
   try clear hcz20_9
   try clear hcz5
   try clear hfz12_0
   try clear hfz12_1
   try clear hfz12_10
   try clear hfz12_2
   try clear hfz12_3
   try clear hfz12_4
   try clear hfz12_5
   try clear hfz12_6
   try clear hfz12_7
   try clear hfz12_8
   try clear hfz12_9
   try clear hfz15_0
   try clear hfz15_1
   try clear hfz15_10
   try clear hfz15_2
   try clear hfz15_3
   try clear hfz15_4
   try clear hfz15_5
   try clear hfz15_6
   try clear hfz15_7
   try clear hfz15_8
   try clear hfz15_9
   try clear hfz18_0
   try clear hfz18_1
   try clear hfz18_10
   try clear hfz18_2
   try clear hfz18_3
   try clear hfz18_4
   try clear hfz18_5
   try clear hfz18_6
   try clear hfz18_7
   try clear hfz18_8
   try clear hfz18_9
   try clear hfz20_0
   try clear hfz20_1
   try clear hfz20_10
   try clear hfz20_2
   try clear hfz20_3
   try clear hfz20_4
   try clear hfz20_5
   try clear hfz20_6
   try clear hfz20_7
   try clear hfz20_8
   try clear hfz20_9
   obtain ⟨kq, x26_2, rfl, HA, HJ2, BK181, HB⟩ := hcut
   cases kq with
   | zero => exact absurd HA.out (by simp [spec_PortOk.j0])
   | succ kj2 =>
    have H := HA.out
    clear HA
    simp only [spec_PortOk.j0] at H
    by_cases c21 : x26_2 = true
    case pos =>
     subst c21
     replace H := hP H rfl
     obtain rfl := Option.some.inj H
     go_wp2
     go_ret
     exact ⟨xW, bl HB.out⟩
    replace c21 := Bool.eq_false_iff.mpr c21
    subst c21
    replace H := hN H (show ¬ (false = true) by decide)
    by_cases c22 : a0_8 = 1
    case pos =>
     rw [if_pos c22] at H
     have c22b0 : (a0_8 == 1) = true := beq_iff_eq.mpr c22
     have c22b1 : (a0_8 != 1) = false := bne_eq_false_iff_eq.mpr c22
     clear c22
     obtain ⟨t185, A230, H⟩ := hB H
     have A23 := aM A230
     clear A230
     by_cases c24 : t185 = true
     case neg =>
      replace c24 := Bool.eq_false_iff.mpr c24
      subst c24
      replace H := hN H (show ¬ (false = true) by decide)
      obtain rfl := Option.some.inj H
      have hcz31 := cA11 BK181.out
      go_wp2_with (first | ((with_reducible refine gC (f := 57) rfl ?_); refine gL (some 51) Try.func57 #[.int .i64 a0_8, .int .i64 0, .int .i64 3] ?_; (with_reducible refine (spec_l1In.calls a0_8 0 3 false _ A23.out).mono ?_); rintro e w' ⟨rfl, ⟨nd, rfl⟩⟩; refine ⟨_, rfl, ?_⟩))
      go_ret
      exact ⟨xW, bl HB.out⟩
     subst c24
     replace H := hP H rfl
     by_cases c25 : ((a0_8 == 0) == (!a0_0)) = true
     case neg =>
      rw [if_neg c25] at H
      have c25b0 : ((a0_8 == 0) == (!a0_0)) = false := by simpa using c25
      (try (have c25b1 : decide ((a0_8 == 0) = (!a0_0)) = false := by simpa using c25))
      (try (have c25b2 : ((a0_8 == 0) == (!a0_0)) = false := by simpa using c25))
      (try (have c25b3 : ¬ ((a0_8 == 0) = (!a0_0)) := by simpa using c25))
      clear c25
      obtain rfl := Option.some.inj H
      have hcz30 := cA11 BK181.out
      go_wp2_with (first | ((with_reducible refine gC (f := 57) rfl ?_); refine gL (some 51) Try.func57 #[.int .i64 a0_8, .int .i64 0, .int .i64 3] ?_; (with_reducible refine (spec_l1In.calls a0_8 0 3 true _ A23.out).mono ?_); rintro e w' ⟨rfl, ⟨nd, rfl⟩⟩; refine ⟨_, rfl, ?_⟩))
      go_ret
      exact ⟨xW, bl HB.out⟩
     rw [if_pos c25] at H
     have c25b0 : ((a0_8 == 0) == (!a0_0)) = true := c25
     (try (have c25b1 : decide ((a0_8 == 0) = (!a0_0)) = true := by simpa using c25))
     (try (have c25b2 : ((a0_8 == 0) == (!a0_0)) = true := by simpa using c25))
     clear c25
     obtain ⟨t186, A260, H⟩ := hB H
     have A26 := aM A260
     clear A260
     by_cases c27 : t186 = true
     case pos =>
      subst c27
      replace H := hP H rfl
      obtain rfl := Option.some.inj H
      have hcz28 := cA11 BK181.out
      go_wp2_with (first | ((with_reducible refine gC (f := 57) rfl ?_); refine gL (some 51) Try.func57 #[.int .i64 a0_8, .int .i64 0, .int .i64 3] ?_; (with_reducible refine (spec_l1In.calls a0_8 0 3 true _ A23.out).mono ?_); rintro e w' ⟨rfl, ⟨nd, rfl⟩⟩; refine ⟨_, rfl, ?_⟩) | (go_at_call 57; (with_reducible refine (spec_l1In.calls a0_9 0 4 true _ A26.out).mono ?_); rintro e w' ⟨rfl, ⟨nd, rfl⟩⟩))
      go_ret
      exact ⟨xW, bl HB.out⟩
     replace c27 := Bool.eq_false_iff.mpr c27
     subst c27
     replace H := hN H (show ¬ (false = true) by decide)
     obtain rfl := Option.some.inj H
     have hcz29 := cA11 BK181.out
     go_wp2_with (first | ((with_reducible refine gC (f := 57) rfl ?_); refine gL (some 51) Try.func57 #[.int .i64 a0_8, .int .i64 0, .int .i64 3] ?_; (with_reducible refine (spec_l1In.calls a0_8 0 3 true _ A23.out).mono ?_); rintro e w' ⟨rfl, ⟨nd, rfl⟩⟩; refine ⟨_, rfl, ?_⟩) | (go_at_call 57; (with_reducible refine (spec_l1In.calls a0_9 0 4 false _ A26.out).mono ?_); rintro e w' ⟨rfl, ⟨nd, rfl⟩⟩))
     go_ret
     exact ⟨xW, bl HB.out⟩
    rw [if_neg c22] at H
    have c22b0 : (a0_8 == 1) = false := beq_eq_false_iff_ne.mpr c22
    have c22b1 : (a0_8 != 1) = true := bne_iff_ne.mpr c22
    obtain ⟨t187, A320, H⟩ := hB H
    have A32 := aM A320
    clear A320
    by_cases c33 : t187 = true
    case neg =>
     replace c33 := Bool.eq_false_iff.mpr c33
     subst c33
     replace H := hN H (show ¬ (false = true) by decide)
     obtain rfl := Option.some.inj H
     have hcz42 := cA11 BK181.out
     go_wp2_with (first | ((with_reducible refine gC (f := 57) rfl ?_); refine gL (some 51) Try.func57 #[.int .i64 a0_8, .int .i64 0, .int .i64 3] ?_; (with_reducible refine (spec_l1In.calls a0_8 0 3 false _ A32.out).mono ?_); rintro e w' ⟨rfl, ⟨nd, rfl⟩⟩; refine ⟨_, rfl, ?_⟩))
     go_ret
     exact ⟨xW, bl HB.out⟩
    subst c33
    replace H := hP H rfl
    by_cases c34 : ((a0_8 == 0) == (!a0_0)) = true
    case neg =>
     rw [if_neg c34] at H
     have c34b0 : ((a0_8 == 0) == (!a0_0)) = false := by simpa using c34
     (try (have c34b1 : decide ((a0_8 == 0) = (!a0_0)) = false := by simpa using c34))
     (try (have c34b2 : ((a0_8 == 0) == (!a0_0)) = false := by simpa using c34))
     (try (have c34b3 : ¬ ((a0_8 == 0) = (!a0_0)) := by simpa using c34))
     clear c34
     obtain rfl := Option.some.inj H
     have hcz41 := cA11 BK181.out
     go_wp2_with (first | ((with_reducible refine gC (f := 57) rfl ?_); refine gL (some 51) Try.func57 #[.int .i64 a0_8, .int .i64 0, .int .i64 3] ?_; (with_reducible refine (spec_l1In.calls a0_8 0 3 true _ A32.out).mono ?_); rintro e w' ⟨rfl, ⟨nd, rfl⟩⟩; refine ⟨_, rfl, ?_⟩))
     go_ret
     exact ⟨xW, bl HB.out⟩
    rw [if_pos c34] at H
    have c34b0 : ((a0_8 == 0) == (!a0_0)) = true := c34
    (try (have c34b1 : decide ((a0_8 == 0) = (!a0_0)) = true := by simpa using c34))
    (try (have c34b2 : ((a0_8 == 0) == (!a0_0)) = true := by simpa using c34))
    clear c34
    obtain ⟨t188, A350, H⟩ := hB H
    have A35 := aM A350
    clear A350
    by_cases c36 : t188 = true
    case neg =>
     replace c36 := Bool.eq_false_iff.mpr c36
     subst c36
     replace H := hN H (show ¬ (false = true) by decide)
     obtain rfl := Option.some.inj H
     have hcz40 := cA11 BK181.out
     go_wp2_with (first | ((with_reducible refine gC (f := 57) rfl ?_); refine gL (some 51) Try.func57 #[.int .i64 a0_8, .int .i64 0, .int .i64 3] ?_; (with_reducible refine (spec_l1In.calls a0_8 0 3 true _ A32.out).mono ?_); rintro e w' ⟨rfl, ⟨nd, rfl⟩⟩; refine ⟨_, rfl, ?_⟩) | (go_at_call 57; (with_reducible refine (spec_l1In.calls a0_9 0 4 false _ A35.out).mono ?_); rintro e w' ⟨rfl, ⟨nd, rfl⟩⟩))
     go_ret
     exact ⟨xW, bl HB.out⟩
    subst c36
    replace H := hP H rfl
    by_cases c37 : a0_8 = 2
    case neg =>
     rw [if_neg c37] at H
     have c37b0 : (a0_8 == 2) = false := beq_eq_false_iff_ne.mpr c37
     have c37b1 : (a0_8 != 2) = true := bne_iff_ne.mpr c37
     obtain rfl := Option.some.inj H
     have hcz39 := cA11 BK181.out
     go_wp2_with (first | ((with_reducible refine gC (f := 57) rfl ?_); refine gL (some 51) Try.func57 #[.int .i64 a0_8, .int .i64 0, .int .i64 3] ?_; (with_reducible refine (spec_l1In.calls a0_8 0 3 true _ A32.out).mono ?_); rintro e w' ⟨rfl, ⟨nd, rfl⟩⟩; refine ⟨_, rfl, ?_⟩) | (go_at_call 57; (with_reducible refine (spec_l1In.calls a0_9 0 4 true _ A35.out).mono ?_); rintro e w' ⟨rfl, ⟨nd, rfl⟩⟩))
     go_ret
     exact ⟨xW, bl HB.out⟩
    rw [if_pos c37] at H
    have c37b0 : (a0_8 == 2) = true := beq_iff_eq.mpr c37
    have c37b1 : (a0_8 != 2) = false := bne_eq_false_iff_eq.mpr c37
    clear c37
    obtain rfl := Option.some.inj H
    have hcz38 := cA11 BK181.out
    go_wp2_with (first | ((with_reducible refine gC (f := 57) rfl ?_); refine gL (some 51) Try.func57 #[.int .i64 a0_8, .int .i64 0, .int .i64 3] ?_; (with_reducible refine (spec_l1In.calls a0_8 0 3 true _ A32.out).mono ?_); rintro e w' ⟨rfl, ⟨nd, rfl⟩⟩; refine ⟨_, rfl, ?_⟩) | (go_at_call 57; (with_reducible refine (spec_l1In.calls a0_9 0 4 true _ A35.out).mono ?_); rintro e w' ⟨rfl, ⟨nd, rfl⟩⟩))
    go_ret
    exact ⟨xW, bl HB.out⟩
 replace c2 := Bool.eq_false_iff.mpr c2
 subst c2
 replace H := hN H (show ¬ (false = true) by decide)
 have HC43 := aM H
 clear H
 go_enter Try.func29, Try.ntmps29
 go_upto_region 4 with (first | ((with_reducible refine gD (N := 1) rfl ?_); refine bE (N := 1) (cs := #[.bool a0_0, .bool false, .int .i64 a0_2, .int .i64 a0_3, .int .i64 a0_4, .int .i64 a0_5, .int .i64 a0_6, .int .i64 a0_7, .int .i64 a0_8, .int .i64 a0_9, .bool a0_10]) (t := 38) ?_; intro gb181 hg w44 hbox hb; have BK181 := aM (hbox); have GW181 := gE hg (below_size (bl HB.out)); have GE181 := gE hg (below_size (bl HB.out)); replace HB := aM (bS (bl HB.out) hb); clear hb hbox hg; have hcz45 := cA11 BK181.out))
 (try simp only [Act.put, sA, sZ, sS])
 go_cut [40] (fun v40 wc => ∃ (kq : Nat) (x40_42 : Bool), v40 = .bool x40_42 ∧ Aside0 (spec_PortOk.j1 kq x40_42 a0_0 false a0_2 a0_3 a0_4 a0_5 a0_6 a0_7 a0_8 a0_9 a0_10 = some r) ∧ Aside0 (kq ≤ k) ∧ Aside0 (wc.heap[gb181]? = some (.cells #[.bool a0_0, .bool false, .int .i64 a0_2, .int .i64 a0_3, .int .i64 a0_4, .int .i64 a0_5, .int .i64 a0_6, .int .i64 a0_7, .int .i64 a0_8, .int .i64 a0_9, .bool a0_10] 38 (0, 0))) ∧ Aside0 (Below w.heap.size w wc))
 case first =>
  have H := HC43.out
  clear HC43
  by_cases c46 : (!(a0_2 == 0) || (!(a0_3 == 0) || (!(a0_4 == 0) || (!(a0_5 == 0))))) = true
  case pos =>
   rw [if_pos c46] at H
   have c46b0 : (!(a0_2 == 0) || (!(a0_3 == 0) || (!(a0_4 == 0) || (!(a0_5 == 0))))) = true := c46
   clear c46
   (first | rw [c46b0] | (simp only [i64_w, i32_w]; rw [c46b0]) | skip)
   have H' := aM H
   clear H
   have hcz47 := cA11 BK181.out
   go_wp2
   go_meet
   case rel => exact ⟨_, (true), xE, H', ⟨by first | omega | exact Nat.le_refl _⟩, ⟨by (with_reducible repeat (first | refine blk_drewN ?_ _ | refine blk_drew ?_ | refine blk_alloc ?_ _)); exact BK181.out⟩, ⟨bl HB.out⟩⟩
  rw [if_neg c46] at H
  have c46b0 : (!(a0_2 == 0) || (!(a0_3 == 0) || (!(a0_4 == 0) || (!(a0_5 == 0))))) = false := by simpa using c46
  clear c46
  (first | rw [c46b0] | (simp only [i64_w, i32_w]; rw [c46b0]) | skip)
  by_cases c48 : a0_6 = 0
  case neg =>
   rw [if_neg c48] at H
   have c48b0 : (a0_6 == 0) = false := beq_eq_false_iff_ne.mpr c48
   have c48b1 : (a0_6 != 0) = true := bne_iff_ne.mpr c48
   have H' := aM H
   clear H
   have hcz50 := cA11 BK181.out
   go_wp2
   go_meet
   case rel => exact ⟨_, (true), xE, H', ⟨by first | omega | exact Nat.le_refl _⟩, ⟨by (with_reducible repeat (first | refine blk_drewN ?_ _ | refine blk_drew ?_ | refine blk_alloc ?_ _)); exact BK181.out⟩, ⟨bl HB.out⟩⟩
  rw [if_pos c48] at H
  have c48b0 : (a0_6 == 0) = true := beq_iff_eq.mpr c48
  have c48b1 : (a0_6 != 0) = false := bne_eq_false_iff_eq.mpr c48
  clear c48
  have H' := aM H
  clear H
  have hcz49 := cA11 BK181.out
  go_wp2
  go_meet
  case rel => exact ⟨_, ((a0_7 != 0)), xE, H', ⟨by first | omega | exact Nat.le_refl _⟩, ⟨by (with_reducible repeat (first | refine blk_drewN ?_ _ | refine blk_drew ?_ | refine blk_alloc ?_ _)); exact BK181.out⟩, ⟨bl HB.out⟩⟩
 case rest =>
  clear HC43
  try clear c2
  try clear p2
  try clear c3
  try clear c4
  try clear c5
  try clear c21
  try clear c22
  try clear c22b0
  try clear c22b1
  try clear c24
  try clear c25
  try clear c25b0
  try clear c25b1
  try clear c25b2
  try clear c27
  try clear c29
  try clear c33
  try clear c34
  try clear c34b0
  try clear c34b1
  try clear c34b2
  try clear c36
  try clear c37
  try clear c37b0
  try clear c37b1
  try clear c46
  try clear c46b0
  try clear c48
  try clear c48b0
  try clear c48b1
  try clear hcz18
  try clear hcz18_1
  try clear hcz18_10
  try clear hcz18_2
  try clear hcz18_3
  try clear hcz18_4
  try clear hcz18_5
  try clear hcz18_6
  try clear hcz18_7
  try clear hcz18_8
  try clear hcz18_9
  try clear hcz20
  try clear hcz20_1
  try clear hcz20_10
  try clear hcz20_2
  try clear hcz20_3
  try clear hcz20_4
  try clear hcz20_5
  try clear hcz20_6
  try clear hcz20_7
  try clear hcz20_8
  try clear hcz20_9
  try clear hcz28
  try clear hcz28_1
  try clear hcz28_10
  try clear hcz28_2
  try clear hcz28_3
  try clear hcz28_4
  try clear hcz28_5
  try clear hcz28_6
  try clear hcz28_7
  try clear hcz28_8
  try clear hcz28_9
  try clear hcz29
  try clear hcz29_1
  try clear hcz29_10
  try clear hcz29_2
  try clear hcz29_3
  try clear hcz29_4
  try clear hcz29_5
  try clear hcz29_6
  try clear hcz29_7
  try clear hcz29_8
  try clear hcz29_9
  try clear hcz30
  try clear hcz30_1
  try clear hcz30_10
  try clear hcz30_2
  try clear hcz30_3
  try clear hcz30_4
  try clear hcz30_5
  try clear hcz30_6
  try clear hcz30_7
  try clear hcz30_8
  try clear hcz30_9
  try clear hcz31
  try clear hcz31_1
  try clear hcz31_10
  try clear hcz31_2
  try clear hcz31_3
  try clear hcz31_4
  try clear hcz31_5
  try clear hcz31_6
  try clear hcz31_7
  try clear hcz31_8
  try clear hcz31_9
  try clear hcz38
  try clear hcz38_1
  try clear hcz38_10
  try clear hcz38_2
  try clear hcz38_3
  try clear hcz38_4
  try clear hcz38_5
  try clear hcz38_6
  try clear hcz38_7
  try clear hcz38_8
  try clear hcz38_9
  try clear hcz39
  try clear hcz39_1
  try clear hcz39_10
  try clear hcz39_2
  try clear hcz39_3
  try clear hcz39_4
  try clear hcz39_5
  try clear hcz39_6
  try clear hcz39_7
  try clear hcz39_8
  try clear hcz39_9
  try clear hcz40
  try clear hcz40_1
  try clear hcz40_10
  try clear hcz40_2
  try clear hcz40_3
  try clear hcz40_4
  try clear hcz40_5
  try clear hcz40_6
  try clear hcz40_7
  try clear hcz40_8
  try clear hcz40_9
  try clear hcz41
  try clear hcz41_1
  try clear hcz41_10
  try clear hcz41_2
  try clear hcz41_3
  try clear hcz41_4
  try clear hcz41_5
  try clear hcz41_6
  try clear hcz41_7
  try clear hcz41_8
  try clear hcz41_9
  try clear hcz42
  try clear hcz42_1
  try clear hcz42_10
  try clear hcz42_2
  try clear hcz42_3
  try clear hcz42_4
  try clear hcz42_5
  try clear hcz42_6
  try clear hcz42_7
  try clear hcz42_8
  try clear hcz42_9
  try clear hcz45
  try clear hcz47
  try clear hcz47_1
  try clear hcz47_10
  try clear hcz47_2
  try clear hcz47_3
  try clear hcz47_4
  try clear hcz47_5
  try clear hcz47_6
  try clear hcz47_7
  try clear hcz47_8
  try clear hcz47_9
  try clear hcz49
  try clear hcz49_1
  try clear hcz49_10
  try clear hcz49_2
  try clear hcz49_3
  try clear hcz49_4
  try clear hcz49_5
  try clear hcz49_6
  try clear hcz49_7
  try clear hcz49_8
  try clear hcz49_9
  try clear hcz50
  try clear hcz50_1
  try clear hcz50_10
  try clear hcz50_2
  try clear hcz50_3
  try clear hcz50_4
  try clear hcz50_5
  try clear hcz50_6
  try clear hcz50_7
  try clear hcz50_8
  try clear hcz50_9
  try clear hcz5
  try clear hfz12_0
  try clear hfz12_1
  try clear hfz12_10
  try clear hfz12_2
  try clear hfz12_3
  try clear hfz12_4
  try clear hfz12_5
  try clear hfz12_6
  try clear hfz12_7
  try clear hfz12_8
  try clear hfz12_9
  try clear hfz15_0
  try clear hfz15_1
  try clear hfz15_10
  try clear hfz15_2
  try clear hfz15_3
  try clear hfz15_4
  try clear hfz15_5
  try clear hfz15_6
  try clear hfz15_7
  try clear hfz15_8
  try clear hfz15_9
  try clear hfz18_0
  try clear hfz18_1
  try clear hfz18_10
  try clear hfz18_2
  try clear hfz18_3
  try clear hfz18_4
  try clear hfz18_5
  try clear hfz18_6
  try clear hfz18_7
  try clear hfz18_8
  try clear hfz18_9
  try clear hfz20_0
  try clear hfz20_1
  try clear hfz20_10
  try clear hfz20_2
  try clear hfz20_3
  try clear hfz20_4
  try clear hfz20_5
  try clear hfz20_6
  try clear hfz20_7
  try clear hfz20_8
  try clear hfz20_9
  try clear hfz28_0
  try clear hfz28_1
  try clear hfz28_10
  try clear hfz28_2
  try clear hfz28_3
  try clear hfz28_4
  try clear hfz28_5
  try clear hfz28_6
  try clear hfz28_7
  try clear hfz28_8
  try clear hfz28_9
  try clear hfz29_0
  try clear hfz29_1
  try clear hfz29_10
  try clear hfz29_2
  try clear hfz29_3
  try clear hfz29_4
  try clear hfz29_5
  try clear hfz29_6
  try clear hfz29_7
  try clear hfz29_8
  try clear hfz29_9
  try clear hfz30_0
  try clear hfz30_1
  try clear hfz30_10
  try clear hfz30_2
  try clear hfz30_3
  try clear hfz30_4
  try clear hfz30_5
  try clear hfz30_6
  try clear hfz30_7
  try clear hfz30_8
  try clear hfz30_9
  try clear hfz31_0
  try clear hfz31_1
  try clear hfz31_10
  try clear hfz31_2
  try clear hfz31_3
  try clear hfz31_4
  try clear hfz31_5
  try clear hfz31_6
  try clear hfz31_7
  try clear hfz31_8
  try clear hfz31_9
  try clear hfz38_0
  try clear hfz38_1
  try clear hfz38_10
  try clear hfz38_2
  try clear hfz38_3
  try clear hfz38_4
  try clear hfz38_5
  try clear hfz38_6
  try clear hfz38_7
  try clear hfz38_8
  try clear hfz38_9
  try clear hfz39_0
  try clear hfz39_1
  try clear hfz39_10
  try clear hfz39_2
  try clear hfz39_3
  try clear hfz39_4
  try clear hfz39_5
  try clear hfz39_6
  try clear hfz39_7
  try clear hfz39_8
  try clear hfz39_9
  try clear hfz40_0
  try clear hfz40_1
  try clear hfz40_10
  try clear hfz40_2
  try clear hfz40_3
  try clear hfz40_4
  try clear hfz40_5
  try clear hfz40_6
  try clear hfz40_7
  try clear hfz40_8
  try clear hfz40_9
  try clear hfz41_0
  try clear hfz41_1
  try clear hfz41_10
  try clear hfz41_2
  try clear hfz41_3
  try clear hfz41_4
  try clear hfz41_5
  try clear hfz41_6
  try clear hfz41_7
  try clear hfz41_8
  try clear hfz41_9
  try clear hfz42_0
  try clear hfz42_1
  try clear hfz42_10
  try clear hfz42_2
  try clear hfz42_3
  try clear hfz42_4
  try clear hfz42_5
  try clear hfz42_6
  try clear hfz42_7
  try clear hfz42_8
  try clear hfz42_9
  try clear hfz47_0
  try clear hfz47_1
  try clear hfz47_10
  try clear hfz47_2
  try clear hfz47_3
  try clear hfz47_4
  try clear hfz47_5
  try clear hfz47_6
  try clear hfz47_7
  try clear hfz47_8
  try clear hfz47_9
  try clear hfz49_0
  try clear hfz49_1
  try clear hfz49_10
  try clear hfz49_2
  try clear hfz49_3
  try clear hfz49_4
  try clear hfz49_5
  try clear hfz49_6
  try clear hfz49_7
  try clear hfz49_8
  try clear hfz49_9
  try clear hfz50_0
  try clear hfz50_1
  try clear hfz50_10
  try clear hfz50_2
  try clear hfz50_3
  try clear hfz50_4
  try clear hfz50_5
  try clear hfz50_6
  try clear hfz50_7
  try clear hfz50_8
  try clear hfz50_9
  obtain ⟨kq, x40_42, rfl, HA, HJ42, BK181, HB⟩ := hcut
  cases kq with
  | zero => exact absurd HA.out (by simp [spec_PortOk.j1])
  | succ kj42 =>
   have H := HA.out
   clear HA
   simp only [spec_PortOk.j1] at H
   by_cases c51 : x40_42 = true
   case pos =>
    subst c51
    replace H := hP H rfl
    obtain rfl := Option.some.inj H
    go_wp2
    go_ret
    exact ⟨xW, bl HB.out⟩
   replace c51 := Bool.eq_false_iff.mpr c51
   subst c51
   replace H := hN H (show ¬ (false = true) by decide)
   by_cases c52 : a0_8 = 1
   case pos =>
    rw [if_pos c52] at H
    have c52b0 : (a0_8 == 1) = true := beq_iff_eq.mpr c52
    have c52b1 : (a0_8 != 1) = false := bne_eq_false_iff_eq.mpr c52
    clear c52
    obtain ⟨t189, A530, H⟩ := hB H
    have A53 := aM A530
    clear A530
    by_cases c54 : t189 = true
    case neg =>
     replace c54 := Bool.eq_false_iff.mpr c54
     subst c54
     replace H := hN H (show ¬ (false = true) by decide)
     obtain rfl := Option.some.inj H
     have hcz61 := cA11 BK181.out
     go_wp2_with (first | ((with_reducible refine gC (f := 57) rfl ?_); refine gL (some 51) Try.func57 #[.int .i64 a0_8, .int .i64 0, .int .i64 3] ?_; (with_reducible refine (spec_l1In.calls a0_8 0 3 false _ A53.out).mono ?_); rintro e w' ⟨rfl, ⟨nd, rfl⟩⟩; refine ⟨_, rfl, ?_⟩))
     go_ret
     exact ⟨xW, bl HB.out⟩
    subst c54
    replace H := hP H rfl
    by_cases c55 : ((a0_8 == 0) == (!a0_0)) = true
    case neg =>
     rw [if_neg c55] at H
     have c55b0 : ((a0_8 == 0) == (!a0_0)) = false := by simpa using c55
     (try (have c55b1 : decide ((a0_8 == 0) = (!a0_0)) = false := by simpa using c55))
     (try (have c55b2 : ((a0_8 == 0) == (!a0_0)) = false := by simpa using c55))
     (try (have c55b3 : ¬ ((a0_8 == 0) = (!a0_0)) := by simpa using c55))
     clear c55
     obtain rfl := Option.some.inj H
     have hcz60 := cA11 BK181.out
     go_wp2_with (first | ((with_reducible refine gC (f := 57) rfl ?_); refine gL (some 51) Try.func57 #[.int .i64 a0_8, .int .i64 0, .int .i64 3] ?_; (with_reducible refine (spec_l1In.calls a0_8 0 3 true _ A53.out).mono ?_); rintro e w' ⟨rfl, ⟨nd, rfl⟩⟩; refine ⟨_, rfl, ?_⟩))
     go_ret
     exact ⟨xW, bl HB.out⟩
    rw [if_pos c55] at H
    have c55b0 : ((a0_8 == 0) == (!a0_0)) = true := c55
    (try (have c55b1 : decide ((a0_8 == 0) = (!a0_0)) = true := by simpa using c55))
    (try (have c55b2 : ((a0_8 == 0) == (!a0_0)) = true := by simpa using c55))
    clear c55
    obtain ⟨t190, A560, H⟩ := hB H
    have A56 := aM A560
    clear A560
    by_cases c57 : t190 = true
    case pos =>
     subst c57
     replace H := hP H rfl
     obtain rfl := Option.some.inj H
     have hcz58 := cA11 BK181.out
     go_wp2_with (first | ((with_reducible refine gC (f := 57) rfl ?_); refine gL (some 51) Try.func57 #[.int .i64 a0_8, .int .i64 0, .int .i64 3] ?_; (with_reducible refine (spec_l1In.calls a0_8 0 3 true _ A53.out).mono ?_); rintro e w' ⟨rfl, ⟨nd, rfl⟩⟩; refine ⟨_, rfl, ?_⟩) | (go_at_call 57; (with_reducible refine (spec_l1In.calls a0_9 0 4 true _ A56.out).mono ?_); rintro e w' ⟨rfl, ⟨nd, rfl⟩⟩))
     go_ret
     exact ⟨xW, bl HB.out⟩
    replace c57 := Bool.eq_false_iff.mpr c57
    subst c57
    replace H := hN H (show ¬ (false = true) by decide)
    obtain rfl := Option.some.inj H
    have hcz59 := cA11 BK181.out
    go_wp2_with (first | ((with_reducible refine gC (f := 57) rfl ?_); refine gL (some 51) Try.func57 #[.int .i64 a0_8, .int .i64 0, .int .i64 3] ?_; (with_reducible refine (spec_l1In.calls a0_8 0 3 true _ A53.out).mono ?_); rintro e w' ⟨rfl, ⟨nd, rfl⟩⟩; refine ⟨_, rfl, ?_⟩) | (go_at_call 57; (with_reducible refine (spec_l1In.calls a0_9 0 4 false _ A56.out).mono ?_); rintro e w' ⟨rfl, ⟨nd, rfl⟩⟩))
    go_ret
    exact ⟨xW, bl HB.out⟩
   rw [if_neg c52] at H
   have c52b0 : (a0_8 == 1) = false := beq_eq_false_iff_ne.mpr c52
   have c52b1 : (a0_8 != 1) = true := bne_iff_ne.mpr c52
   obtain ⟨t191, A620, H⟩ := hB H
   have A62 := aM A620
   clear A620
   by_cases c63 : t191 = true
   case neg =>
    replace c63 := Bool.eq_false_iff.mpr c63
    subst c63
    replace H := hN H (show ¬ (false = true) by decide)
    obtain rfl := Option.some.inj H
    have hcz72 := cA11 BK181.out
    go_wp2_with (first | ((with_reducible refine gC (f := 57) rfl ?_); refine gL (some 51) Try.func57 #[.int .i64 a0_8, .int .i64 0, .int .i64 3] ?_; (with_reducible refine (spec_l1In.calls a0_8 0 3 false _ A62.out).mono ?_); rintro e w' ⟨rfl, ⟨nd, rfl⟩⟩; refine ⟨_, rfl, ?_⟩))
    go_ret
    exact ⟨xW, bl HB.out⟩
   subst c63
   replace H := hP H rfl
   by_cases c64 : ((a0_8 == 0) == (!a0_0)) = true
   case neg =>
    rw [if_neg c64] at H
    have c64b0 : ((a0_8 == 0) == (!a0_0)) = false := by simpa using c64
    (try (have c64b1 : decide ((a0_8 == 0) = (!a0_0)) = false := by simpa using c64))
    (try (have c64b2 : ((a0_8 == 0) == (!a0_0)) = false := by simpa using c64))
    (try (have c64b3 : ¬ ((a0_8 == 0) = (!a0_0)) := by simpa using c64))
    clear c64
    obtain rfl := Option.some.inj H
    have hcz71 := cA11 BK181.out
    go_wp2_with (first | ((with_reducible refine gC (f := 57) rfl ?_); refine gL (some 51) Try.func57 #[.int .i64 a0_8, .int .i64 0, .int .i64 3] ?_; (with_reducible refine (spec_l1In.calls a0_8 0 3 true _ A62.out).mono ?_); rintro e w' ⟨rfl, ⟨nd, rfl⟩⟩; refine ⟨_, rfl, ?_⟩))
    go_ret
    exact ⟨xW, bl HB.out⟩
   rw [if_pos c64] at H
   have c64b0 : ((a0_8 == 0) == (!a0_0)) = true := c64
   (try (have c64b1 : decide ((a0_8 == 0) = (!a0_0)) = true := by simpa using c64))
   (try (have c64b2 : ((a0_8 == 0) == (!a0_0)) = true := by simpa using c64))
   clear c64
   obtain ⟨t192, A650, H⟩ := hB H
   have A65 := aM A650
   clear A650
   by_cases c66 : t192 = true
   case neg =>
    replace c66 := Bool.eq_false_iff.mpr c66
    subst c66
    replace H := hN H (show ¬ (false = true) by decide)
    obtain rfl := Option.some.inj H
    have hcz70 := cA11 BK181.out
    go_wp2_with (first | ((with_reducible refine gC (f := 57) rfl ?_); refine gL (some 51) Try.func57 #[.int .i64 a0_8, .int .i64 0, .int .i64 3] ?_; (with_reducible refine (spec_l1In.calls a0_8 0 3 true _ A62.out).mono ?_); rintro e w' ⟨rfl, ⟨nd, rfl⟩⟩; refine ⟨_, rfl, ?_⟩) | (go_at_call 57; (with_reducible refine (spec_l1In.calls a0_9 0 4 false _ A65.out).mono ?_); rintro e w' ⟨rfl, ⟨nd, rfl⟩⟩))
    go_ret
    exact ⟨xW, bl HB.out⟩
   subst c66
   replace H := hP H rfl
   by_cases c67 : a0_8 = 2
   case neg =>
    rw [if_neg c67] at H
    have c67b0 : (a0_8 == 2) = false := beq_eq_false_iff_ne.mpr c67
    have c67b1 : (a0_8 != 2) = true := bne_iff_ne.mpr c67
    obtain rfl := Option.some.inj H
    have hcz69 := cA11 BK181.out
    go_wp2_with (first | ((with_reducible refine gC (f := 57) rfl ?_); refine gL (some 51) Try.func57 #[.int .i64 a0_8, .int .i64 0, .int .i64 3] ?_; (with_reducible refine (spec_l1In.calls a0_8 0 3 true _ A62.out).mono ?_); rintro e w' ⟨rfl, ⟨nd, rfl⟩⟩; refine ⟨_, rfl, ?_⟩) | (go_at_call 57; (with_reducible refine (spec_l1In.calls a0_9 0 4 true _ A65.out).mono ?_); rintro e w' ⟨rfl, ⟨nd, rfl⟩⟩))
    go_ret
    exact ⟨xW, bl HB.out⟩
   rw [if_pos c67] at H
   have c67b0 : (a0_8 == 2) = true := beq_iff_eq.mpr c67
   have c67b1 : (a0_8 != 2) = false := bne_eq_false_iff_eq.mpr c67
   clear c67
   obtain rfl := Option.some.inj H
   have hcz68 := cA11 BK181.out
   go_wp2_with (first | ((with_reducible refine gC (f := 57) rfl ?_); refine gL (some 51) Try.func57 #[.int .i64 a0_8, .int .i64 0, .int .i64 3] ?_; (with_reducible refine (spec_l1In.calls a0_8 0 3 true _ A62.out).mono ?_); rintro e w' ⟨rfl, ⟨nd, rfl⟩⟩; refine ⟨_, rfl, ?_⟩) | (go_at_call 57; (with_reducible refine (spec_l1In.calls a0_9 0 4 true _ A65.out).mono ?_); rintro e w' ⟨rfl, ⟨nd, rfl⟩⟩))
   go_ret
   exact ⟨xW, bl HB.out⟩

end Go.Proofs.Ytaoipjdmmamkmaa.PFnPorts

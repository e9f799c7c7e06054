/- Of the proof of laws.FnPorts: a part. No condition beyond what its theorems say. -/
import Derived.Test.YtaoipjdmmamkmaaVFnPortsWTight
import Derived.Test.YtaoipjdmmamkmaaVFnPortsPx0
import Derived.Test.YtaoipjdmmamkmaaVFnPortsPx2
import Derived.Test.YtaoipjdmmamkmaaVFnPortsPx4
import Derived.Test.YtaoipjdmmamkmaaVFnPortsPx6
namespace Go.Proofs.Ytaoipjdmmamkmaa.PFnPorts
open Go.RowKit Go.Proofs.YtaoipjdmmamkmaaW.PrintWords Go.Proofs.YtaoipjdmmamkmaaW.PrintLast Go.Proofs.YtaoipjdmmamkmaaW.PrintMore
attribute [local go_sem] max2_int min2_int max_two min_two max_three min_three max_four min_four   -- for this text's walks alone
set_option linter.unusedVariables false
set_option linter.unusedSimpArgs false

mutual
def spec_Turn.j0 : Nat → Int → Bool → Bool → Bool → Int → Int → Int → Int → Int → Int → Int → Int → Bool → Option (Bool × Bool × Int × Int × Int × Int × Int × Int × Int × Int × Bool)
 | 0, _, _, _, _, _, _, _, _, _, _, _, _, _ => none
 | k + 1, x1, x17, x208000, x208001, x208002, x208003, x208004, x208005, x208006, x208007, x208008, x208009, x208010 => if x17 = true then (some (x208000, x208001, x208002, x208003, x208004, x208005, x208006, x208007, x208008, x208009, x208010)) else (if x208008 = 3 then (spec_Turn.j1 k x1 (x1 != 3) x208000 x208001 x208002 x208003 x208004 x208005 x208006 x208007 x208008 x208009 x208010) else (spec_Turn.j1 k x1 false x208000 x208001 x208002 x208003 x208004 x208005 x208006 x208007 x208008 x208009 x208010))
def spec_Turn.j1 : Nat → Int → Bool → Bool → Bool → Int → Int → Int → Int → Int → Int → Int → Int → Bool → Option (Bool × Bool × Int × Int × Int × Int × Int × Int × Int × Int × Bool)
 | 0, _, _, _, _, _, _, _, _, _, _, _, _, _ => none
 | k + 1, x1, x25, x208000, x208001, x208002, x208003, x208004, x208005, x208006, x208007, x208008, x208009, x208010 => if x25 = true then (if x1 = 3 then ((spec_l7Open.f x208000 x208001 x208002 x208003 x208004 x208005 x208006 x208007 x1 0 x208010).bind fun bt211 => (some (bt211.1, bt211.2.1, bt211.2.2.1, bt211.2.2.2.1, bt211.2.2.2.2.1, bt211.2.2.2.2.2.1, bt211.2.2.2.2.2.2.1, bt211.2.2.2.2.2.2.2.1, bt211.2.2.2.2.2.2.2.2.1, bt211.2.2.2.2.2.2.2.2.2.1, bt211.2.2.2.2.2.2.2.2.2.2))) else ((spec_l7Open.f x208000 x208001 x208002 x208003 x208004 x208005 x208006 x208007 x1 4 x208010).bind fun bt222 => (some (bt222.1, bt222.2.1, bt222.2.2.1, bt222.2.2.2.1, bt222.2.2.2.2.1, bt222.2.2.2.2.2.1, bt222.2.2.2.2.2.2.1, bt222.2.2.2.2.2.2.2.1, bt222.2.2.2.2.2.2.2.2.1, bt222.2.2.2.2.2.2.2.2.2.1, bt222.2.2.2.2.2.2.2.2.2.2)))) else (if x1 = 3 then ((spec_l7Open.f x208000 x208001 x208002 x208003 x208004 x208005 x208006 x208007 x1 0 x208010).bind fun bt233 => (some (bt233.1, bt233.2.1, bt233.2.2.1, bt233.2.2.2.1, bt233.2.2.2.2.1, bt233.2.2.2.2.2.1, bt233.2.2.2.2.2.2.1, bt233.2.2.2.2.2.2.2.1, bt233.2.2.2.2.2.2.2.2.1, bt233.2.2.2.2.2.2.2.2.2.1, bt233.2.2.2.2.2.2.2.2.2.2))) else ((spec_l7Open.f x208000 x208001 x208002 x208003 x208004 x208005 x208006 x208007 x1 x208009 x208010).bind fun bt244 => (some (bt244.1, bt244.2.1, bt244.2.2.1, bt244.2.2.2.1, bt244.2.2.2.2.1, bt244.2.2.2.2.2.1, bt244.2.2.2.2.2.2.1, bt244.2.2.2.2.2.2.2.1, bt244.2.2.2.2.2.2.2.2.1, bt244.2.2.2.2.2.2.2.2.2.1, bt244.2.2.2.2.2.2.2.2.2.2))))
end
def spec_Turn.f (k : Nat) (a0_0 : Bool) (a0_1 : Bool) (a0_2 : Int) (a0_3 : Int) (a0_4 : Int) (a0_5 : Int) (a0_6 : Int) (a0_7 : Int) (a0_8 : Int) (a0_9 : Int) (a0_10 : Bool) (a1 : Int) : Option (Bool × Bool × Int × Int × Int × Int × Int × Int × Int × Int × Bool) := (spec_PortOk.f k a0_0 a0_1 a0_2 a0_3 a0_4 a0_5 a0_6 a0_7 a0_8 a0_9 a0_10).bind fun t209 => (if t209 = true then (if a0_0 = true then ((spec_l1In.f a1 1 3).bind fun t210 => (spec_Turn.j0 k a1 (!t210) a0_0 a0_1 a0_2 a0_3 a0_4 a0_5 a0_6 a0_7 a0_8 a0_9 a0_10)) else (spec_Turn.j0 k a1 true a0_0 a0_1 a0_2 a0_3 a0_4 a0_5 a0_6 a0_7 a0_8 a0_9 a0_10)) else (spec_Turn.j0 k a1 true a0_0 a0_1 a0_2 a0_3 a0_4 a0_5 a0_6 a0_7 a0_8 a0_9 a0_10))
theorem spec_Turn.mono_l : ∀ k, (∀ y0 y1 y2 y3 y4 y5 y6 y7 y8 y9 y10 y11 y12, LeO (spec_Turn.j0 k y0 y1 y2 y3 y4 y5 y6 y7 y8 y9 y10 y11 y12) (spec_Turn.j0 (k + 1) y0 y1 y2 y3 y4 y5 y6 y7 y8 y9 y10 y11 y12)) ∧ (∀ y0 y1 y2 y3 y4 y5 y6 y7 y8 y9 y10 y11 y12, LeO (spec_Turn.j1 k y0 y1 y2 y3 y4 y5 y6 y7 y8 y9 y10 y11 y12) (spec_Turn.j1 (k + 1) y0 y1 y2 y3 y4 y5 y6 y7 y8 y9 y10 y11 y12))
 | 0 => ⟨fun _ _ _ _ _ _ _ _ _ _ _ _ _ r h => by simp [spec_Turn.j0] at h, fun _ _ _ _ _ _ _ _ _ _ _ _ _ r h => by simp [spec_Turn.j1] at h⟩
 | k + 1 => by
  obtain ⟨ih0, ih1⟩ := spec_Turn.mono_l k
  refine ⟨?_, ?_⟩
  ·intro y0 y1 y2 y3 y4 y5 y6 y7 y8 y9 y10 y11 y12
   unfold spec_Turn.j0
   repeat' first
   | (with_reducible exact ih0 _ _ _ _ _ _ _ _ _ _ _ _ _)
   | (with_reducible exact ih1 _ _ _ _ _ _ _ _ _ _ _ _ _)
   | (with_reducible exact spec_PortOk.mono _ _ _ _ _ _ _ _ _ _ _ _)
   | (with_reducible exact LeO.refl _)
   | (with_reducible exact LeO.none _)
   | (with_reducible refine LeO.ite ?_ ?_)
   | (with_reducible refine LeO.bind ?_ (fun _ => ?_))
   | exact ih0 _ _ _ _ _ _ _ _ _ _ _ _ _
   | exact ih1 _ _ _ _ _ _ _ _ _ _ _ _ _
   | exact spec_PortOk.mono _ _ _ _ _ _ _ _ _ _ _ _
   | exact LeO.none _
   | refine LeO.ite ?_ ?_
   | refine LeO.bind ?_ (fun _ => ?_)
  ·intro y0 y1 y2 y3 y4 y5 y6 y7 y8 y9 y10 y11 y12
   unfold spec_Turn.j1
   repeat' first
   | (with_reducible exact ih0 _ _ _ _ _ _ _ _ _ _ _ _ _)
   | (with_reducible exact ih1 _ _ _ _ _ _ _ _ _ _ _ _ _)
   | (with_reducible exact spec_PortOk.mono _ _ _ _ _ _ _ _ _ _ _ _)
   | (with_reducible exact LeO.refl _)
   | (with_reducible exact LeO.none _)
   | (with_reducible refine LeO.ite ?_ ?_)
   | (with_reducible refine LeO.bind ?_ (fun _ => ?_))
   | exact ih0 _ _ _ _ _ _ _ _ _ _ _ _ _
   | exact ih1 _ _ _ _ _ _ _ _ _ _ _ _ _
   | exact spec_PortOk.mono _ _ _ _ _ _ _ _ _ _ _ _
   | exact LeO.none _
   | refine LeO.ite ?_ ?_
   | refine LeO.bind ?_ (fun _ => ?_)
theorem spec_Turn.mono : ∀ a0 a1 a2 a3 a4 a5 a6 a7 a8 a9 a10 a11 k, LeO (spec_Turn.f k a0 a1 a2 a3 a4 a5 a6 a7 a8 a9 a10 a11) (spec_Turn.f (k + 1) a0 a1 a2 a3 a4 a5 a6 a7 a8 a9 a10 a11) := by
 intro a0 a1 a2 a3 a4 a5 a6 a7 a8 a9 a10 a11 k
 obtain ⟨ih0, ih1⟩ := spec_Turn.mono_l k
 unfold spec_Turn.f
 repeat' first
   | (with_reducible exact ih0 _ _ _ _ _ _ _ _ _ _ _ _ _)
   | (with_reducible exact ih1 _ _ _ _ _ _ _ _ _ _ _ _ _)
   | (with_reducible exact spec_PortOk.mono _ _ _ _ _ _ _ _ _ _ _ _)
   | (with_reducible exact LeO.refl _)
   | (with_reducible exact LeO.none _)
   | (with_reducible refine LeO.ite ?_ ?_)
   | (with_reducible refine LeO.bind ?_ (fun _ => ?_))
   | exact ih0 _ _ _ _ _ _ _ _ _ _ _ _ _
   | exact ih1 _ _ _ _ _ _ _ _ _ _ _ _ _
   | exact spec_PortOk.mono _ _ _ _ _ _ _ _ _ _ _ _
   | exact LeO.none _
   | refine LeO.ite ?_ ?_
   | refine LeO.bind ?_ (fun _ => ?_)
set_option maxHeartbeats 60000000 in
set_option maxRecDepth 100000 in
theorem spec_Turn.calls (k : Nat) (a0_0 : Bool) (a0_1 : Bool) (a0_2 : Int) (a0_3 : Int) (a0_4 : Int) (a0_5 : Int) (a0_6 : Int) (a0_7 : Int) (a0_8 : Int) (a0_9 : Int) (a0_10 : Bool) (a1 : Int) (r1 : Bool) (r2 : Bool) (r3 : Int) (r4 : Int) (r5 : Int) (r6 : Int) (r7 : Int) (r8 : Int) (r9 : Int) (r10 : Int) (r11 : Bool) (w : World) (h : spec_Turn.f k a0_0 a0_1 a0_2 a0_3 a0_4 a0_5 a0_6 a0_7 a0_8 a0_9 a0_10 a1 = some (r1, r2, r3, r4, r5, r6, r7, r8, r9, r10, r11)) :
  Calls Try.prog 27 #[.agg #[.bool a0_0, .bool a0_1, .int .i64 a0_2, .int .i64 a0_3, .int .i64 a0_4, .int .i64 a0_5, .int .i64 a0_6, .int .i64 a0_7, .int .i64 a0_8, .int .i64 a0_9, .bool a0_10], .int .i64 a1] w fun e w' => e = .returned (.agg #[.bool r1, .bool r2, .int .i64 r3, .int .i64 r4, .int .i64 r5, .int .i64 r6, .int .i64 r7, .int .i64 r8, .int .i64 r9, .int .i64 r10, .bool r11]) ∧ Below w.heap.size w w' := by
 have hu38 := Try.underlying38
 have HB := aM (Below.refl w.heap.size w)
 have H : ((spec_PortOk.f k a0_0 a0_1 a0_2 a0_3 a0_4 a0_5 a0_6 a0_7 a0_8 a0_9 a0_10).bind fun t209 => (if t209 = true then (if a0_0 = true then ((spec_l1In.f a1 1 3).bind fun t210 => (spec_Turn.j0 k a1 (!t210) a0_0 a0_1 a0_2 a0_3 a0_4 a0_5 a0_6 a0_7 a0_8 a0_9 a0_10)) else (spec_Turn.j0 k a1 true a0_0 a0_1 a0_2 a0_3 a0_4 a0_5 a0_6 a0_7 a0_8 a0_9 a0_10)) else (spec_Turn.j0 k a1 true a0_0 a0_1 a0_2 a0_3 a0_4 a0_5 a0_6 a0_7 a0_8 a0_9 a0_10))) = some (r1, r2, r3, r4, r5, r6, r7, r8, r9, r10, r11) := h
 clear h
 have HC3 := aM H
 clear H
 go_enter Try.func27, Try.ntmps27
 go_upto_region 1 with (first | ((with_reducible refine gD (N := 2) rfl ?_); refine bE (N := 2) (cs := #[.bool a0_0, .bool a0_1, .int .i64 a0_2, .int .i64 a0_3, .int .i64 a0_4, .int .i64 a0_5, .int .i64 a0_6, .int .i64 a0_7, .int .i64 a0_8, .int .i64 a0_9, .bool a0_10]) (t := 38) ?_; intro gb207 hg w4 hbox hb; have BK207 := aM (hbox); have GW207 := gE hg (below_size (bl HB.out)); have GE207 := gE hg (below_size (bl HB.out)); replace HB := aM (bS (bl HB.out) hb); clear hb hbox hg) | ((with_reducible refine gD (N := 4) rfl ?_); refine bE (N := 4) (cs := #[.bool false, .bool false, .int .i64 0, .int .i64 0, .int .i64 0, .int .i64 0, .int .i64 0, .int .i64 0, .int .i64 0, .int .i64 0, .bool false]) (t := 38) ?_; intro gb208 hg w5 hbox hb; have BK208 := aM (hbox); have GW208 := gE hg (below_size (bl HB.out)); have GE208 := gE hg (below_size (bl HB.out)); have NB207_208 := nL hg (blk_lt (bk BK207.out)); have NB208_207 := nG hg (blk_lt (bk BK207.out)); replace BK207 := aM (bB (bk BK207.out) hb); replace HB := aM (bS (bl HB.out) hb); clear hb hbox hg))
 (try simp only [Act.put, sA, sZ, sS])
 go_cut [17] (fun v17 wc => ∃ (kq : Nat) (x17_2 : Bool), v17 = .bool x17_2 ∧ Aside0 (spec_Turn.j0 kq a1 x17_2 a0_0 a0_1 a0_2 a0_3 a0_4 a0_5 a0_6 a0_7 a0_8 a0_9 a0_10 = some (r1, r2, r3, r4, r5, r6, r7, r8, r9, r10, r11)) ∧ Aside0 (kq ≤ k) ∧ Aside0 (wc.heap[gb207]? = some (.cells #[.bool a0_0, .bool a0_1, .int .i64 a0_2, .int .i64 a0_3, .int .i64 a0_4, .int .i64 a0_5, .int .i64 a0_6, .int .i64 a0_7, .int .i64 a0_8, .int .i64 a0_9, .bool a0_10] 38 (0, 0))) ∧ Aside0 (wc.heap[gb208]? = some (.cells #[.bool false, .bool false, .int .i64 0, .int .i64 0, .int .i64 0, .int .i64 0, .int .i64 0, .int .i64 0, .int .i64 0, .int .i64 0, .bool false] 38 (0, 0))) ∧ Aside0 (Below w.heap.size w wc))
 case first =>
  have H := HC3.out
  clear HC3
  obtain ⟨t209, A60, H⟩ := hB H
  have A6 := aM A60
  clear A60
  by_cases c7 : t209 = true
  case neg =>
   replace c7 := Bool.eq_false_iff.mpr c7
   subst c7
   replace H := hN H (show ¬ (false = true) by decide)
   have H' := aM H
   clear H
   have hnb18 := NB207_208.out
   have hnc18 := NB208_207.out
   have hcz19 := cA11 BK207.out
   go_wp2_with (first | ((with_reducible refine gC (f := 29) rfl ?_); refine gL (some 6) Try.func29 #[.agg #[.bool a0_0, .bool a0_1, .int .i64 a0_2, .int .i64 a0_3, .int .i64 a0_4, .int .i64 a0_5, .int .i64 a0_6, .int .i64 a0_7, .int .i64 a0_8, .int .i64 a0_9, .bool a0_10]] ?_; (with_reducible refine (spec_PortOk.calls k a0_0 a0_1 a0_2 a0_3 a0_4 a0_5 a0_6 a0_7 a0_8 a0_9 a0_10 false _ A6.out).mono ?_); rintro e w20 ⟨rfl, hb⟩; refine ⟨_, rfl, ?_⟩; replace BK207 := aM (bB (bk BK207.out) hb); replace BK208 := aM (bB (bk BK208.out) hb); replace HB := aM (bS (bl HB.out) hb); (try clear hb)))
   go_meet
   case rel => exact ⟨_, (true), xE, H', ⟨by first | omega | exact Nat.le_refl _⟩, ⟨by (with_reducible repeat (first | refine blk_drewN ?_ _ | refine blk_drew ?_ | refine blk_alloc ?_ _)); exact BK207.out⟩, ⟨by (with_reducible repeat (first | refine blk_drewN ?_ _ | refine blk_drew ?_ | refine blk_alloc ?_ _)); exact BK208.out⟩, ⟨bl HB.out⟩⟩
  subst c7
  replace H := hP H rfl
  by_cases c8 : a0_0 = true
  case neg =>
   replace c8 := Bool.eq_false_iff.mpr c8
   subst c8
   replace H := hN H (show ¬ (false = true) by decide)
   have H' := aM H
   clear H
   have hnb14 := NB207_208.out
   have hnc14 := NB208_207.out
   have hcz15 := cA11 BK207.out
   go_wp2_with (first | ((with_reducible refine gC (f := 29) rfl ?_); refine gL (some 6) Try.func29 #[.agg #[.bool false, .bool a0_1, .int .i64 a0_2, .int .i64 a0_3, .int .i64 a0_4, .int .i64 a0_5, .int .i64 a0_6, .int .i64 a0_7, .int .i64 a0_8, .int .i64 a0_9, .bool a0_10]] ?_; (with_reducible refine (spec_PortOk.calls k false a0_1 a0_2 a0_3 a0_4 a0_5 a0_6 a0_7 a0_8 a0_9 a0_10 true _ A6.out).mono ?_); rintro e w16 ⟨rfl, hb⟩; refine ⟨_, rfl, ?_⟩; replace BK207 := aM (bB (bk BK207.out) hb); replace BK208 := aM (bB (bk BK208.out) hb); replace HB := aM (bS (bl HB.out) hb); (try clear hb); have hcz17 := cA11 BK207.out))
   go_meet
   case rel => exact ⟨_, (true), xE, H', ⟨by first | omega | exact Nat.le_refl _⟩, ⟨by (with_reducible repeat (first | refine blk_drewN ?_ _ | refine blk_drew ?_ | refine blk_alloc ?_ _)); exact BK207.out⟩, ⟨by (with_reducible repeat (first | refine blk_drewN ?_ _ | refine blk_drew ?_ | refine blk_alloc ?_ _)); exact BK208.out⟩, ⟨bl HB.out⟩⟩
  subst c8
  replace H := hP H rfl
  obtain ⟨t210, A90, H⟩ := hB H
  have A9 := aM A90
  clear A90
  have H' := aM H
  clear H
  have hnb10 := NB207_208.out
  have hnc10 := NB208_207.out
  have hcz11 := cA11 BK207.out
  go_wp2_with (first | ((with_reducible refine gC (f := 29) rfl ?_); refine gL (some 6) Try.func29 #[.agg #[.bool true, .bool a0_1, .int .i64 a0_2, .int .i64 a0_3, .int .i64 a0_4, .int .i64 a0_5, .int .i64 a0_6, .int .i64 a0_7, .int .i64 a0_8, .int .i64 a0_9, .bool a0_10]] ?_; (with_reducible refine (spec_PortOk.calls k true a0_1 a0_2 a0_3 a0_4 a0_5 a0_6 a0_7 a0_8 a0_9 a0_10 true _ A6.out).mono ?_); rintro e w12 ⟨rfl, hb⟩; refine ⟨_, rfl, ?_⟩; replace BK207 := aM (bB (bk BK207.out) hb); replace BK208 := aM (bB (bk BK208.out) hb); replace HB := aM (bS (bl HB.out) hb); (try clear hb); have hcz13 := cA11 BK207.out) | (go_at_call 57; (with_reducible refine (spec_l1In.calls a1 1 3 t210 _ A9.out).mono ?_); rintro e w' ⟨rfl, ⟨nd, rfl⟩⟩))
  go_meet
  case rel => exact ⟨_, (!t210), xE, H', ⟨by first | omega | exact Nat.le_refl _⟩, ⟨by (with_reducible repeat (first | refine blk_drewN ?_ _ | refine blk_drew ?_ | refine blk_alloc ?_ _)); exact BK207.out⟩, ⟨by (with_reducible repeat (first | refine blk_drewN ?_ _ | refine blk_drew ?_ | refine blk_alloc ?_ _)); exact BK208.out⟩, ⟨bl HB.out⟩⟩
 case rest =>
  clear HC3
  try clear c1
  try clear c2
  try clear p2
  try clear c7
  try clear c8
  try clear c10
  try clear c14
  try clear c18
  try clear hcz11
  try clear hcz11_1
  try clear hcz11_10
  try clear hcz11_2
  try clear hcz11_3
  try clear hcz11_4
  try clear hcz11_5
  try clear hcz11_6
  try clear hcz11_7
  try clear hcz11_8
  try clear hcz11_9
  try clear hcz13
  try clear hcz15
  try clear hcz15_1
  try clear hcz15_10
  try clear hcz15_2
  try clear hcz15_3
  try clear hcz15_4
  try clear hcz15_5
  try clear hcz15_6
  try clear hcz15_7
  try clear hcz15_8
  try clear hcz15_9
  try clear hcz17
  try clear hcz19
  try clear hcz19_1
  try clear hcz19_10
  try clear hcz19_2
  try clear hcz19_3
  try clear hcz19_4
  try clear hcz19_5
  try clear hcz19_6
  try clear hcz19_7
  try clear hcz19_8
  try clear hcz19_9
  try clear hfz11_0
  try clear hfz11_1
  try clear hfz11_10
  try clear hfz11_2
  try clear hfz11_3
  try clear hfz11_4
  try clear hfz11_5
  try clear hfz11_6
  try clear hfz11_7
  try clear hfz11_8
  try clear hfz11_9
  try clear hfz15_0
  try clear hfz15_1
  try clear hfz15_10
  try clear hfz15_2
  try clear hfz15_3
  try clear hfz15_4
  try clear hfz15_5
  try clear hfz15_6
  try clear hfz15_7
  try clear hfz15_8
  try clear hfz15_9
  try clear hfz19_0
  try clear hfz19_1
  try clear hfz19_10
  try clear hfz19_2
  try clear hfz19_3
  try clear hfz19_4
  try clear hfz19_5
  try clear hfz19_6
  try clear hfz19_7
  try clear hfz19_8
  try clear hfz19_9
  obtain ⟨kq, x17_2, rfl, HA, HJ2, BK207, BK208, HB⟩ := hcut
  cases kq with
  | zero => exact absurd HA.out (by simp [spec_Turn.j0])
  | succ kj2 =>
   have H := HA.out
   clear HA
   simp only [spec_Turn.j0] at H
   by_cases c21 : x17_2 = true
   case pos =>
    subst c21
    replace H := hP H rfl
    simp only [Option.some.injEq, Prod.mk.injEq] at H
    obtain ⟨rfl, rfl, rfl, rfl, rfl, rfl, rfl, rfl, rfl, rfl, rfl⟩ := H
    have hnb22 := NB207_208.out
    have hnc22 := NB208_207.out
    have hcz23 := cA11 BK207.out
    have hcz24 := cA11 BK208.out
    go_wp2
    refine bodyPost_ret (results_cell_row rfl _ _ gb208 38 #[.bool a0_0, .bool a0_1, .int .i64 a0_2, .int .i64 a0_3, .int .i64 a0_4, .int .i64 a0_5, .int .i64 a0_6, .int .i64 a0_7, .int .i64 a0_8, .int .i64 a0_9, .bool a0_10] (0, 0) _ rfl (bm BK208.out) Try.underlying38 rfl (by kernel_rfl)) rfl ?_
    exact ⟨xW, bl HB.out⟩
   replace c21 := Bool.eq_false_iff.mpr c21
   subst c21
   replace H := hN H (show ¬ (false = true) by decide)
   have HC25 := aM H
   clear H
   go_upto_region 3 with (fail)
   go_cut [25] (fun v25 wc => ∃ (kq : Nat) (x25_24 : Bool), v25 = .bool x25_24 ∧ Aside0 (spec_Turn.j1 kq a1 x25_24 a0_0 a0_1 a0_2 a0_3 a0_4 a0_5 a0_6 a0_7 a0_8 a0_9 a0_10 = some (r1, r2, r3, r4, r5, r6, r7, r8, r9, r10, r11)) ∧ Aside0 (kq ≤ kj2) ∧ Aside0 (wc.heap[gb207]? = some (.cells #[.bool a0_0, .bool a0_1, .int .i64 a0_2, .int .i64 a0_3, .int .i64 a0_4, .int .i64 a0_5, .int .i64 a0_6, .int .i64 a0_7, .int .i64 a0_8, .int .i64 a0_9, .bool a0_10] 38 (0, 0))) ∧ Aside0 (wc.heap[gb208]? = some (.cells #[.bool false, .bool false, .int .i64 0, .int .i64 0, .int .i64 0, .int .i64 0, .int .i64 0, .int .i64 0, .int .i64 0, .int .i64 0, .bool false] 38 (0, 0))) ∧ Aside0 (Below w.heap.size w wc))
   case first =>
    have H := HC25.out
    clear HC25
    by_cases c26 : a0_8 = 3
    case neg =>
     rw [if_neg c26] at H
     have c26b0 : (a0_8 == 3) = false := beq_eq_false_iff_ne.mpr c26
     have c26b1 : (a0_8 != 3) = true := bne_iff_ne.mpr c26
     (first | rw [c26b0] | (simp only [i64_w, i32_w]; rw [c26b0]) | skip)
     have H' := aM H
     clear H
     have hnb29 := NB207_208.out
     have hnc29 := NB208_207.out
     have hcz30 := cA11 BK207.out
     go_wp2
     go_meet
     case rel => exact ⟨_, (false), xE, H', ⟨by have := HJ2.out; first | omega | exact Nat.le_refl _⟩, ⟨by (with_reducible repeat (first | refine blk_drewN ?_ _ | refine blk_drew ?_ | refine blk_alloc ?_ _)); exact BK207.out⟩, ⟨by (with_reducible repeat (first | refine blk_drewN ?_ _ | refine blk_drew ?_ | refine blk_alloc ?_ _)); exact BK208.out⟩, ⟨bl HB.out⟩⟩
    rw [if_pos c26] at H
    have c26b0 : (a0_8 == 3) = true := beq_iff_eq.mpr c26
    have c26b1 : (a0_8 != 3) = false := bne_eq_false_iff_eq.mpr c26
    clear c26
    (first | rw [c26b0] | (simp only [i64_w, i32_w]; rw [c26b0]) | skip)
    have H' := aM H
    clear H
    have hnb27 := NB207_208.out
    have hnc27 := NB208_207.out
    have hcz28 := cA11 BK207.out
    go_wp2
    go_meet
    case rel => exact ⟨_, ((a1 != 3)), xE, H', ⟨by have := HJ2.out; first | omega | exact Nat.le_refl _⟩, ⟨by (with_reducible repeat (first | refine blk_drewN ?_ _ | refine blk_drew ?_ | refine blk_alloc ?_ _)); exact BK207.out⟩, ⟨by (with_reducible repeat (first | refine blk_drewN ?_ _ | refine blk_drew ?_ | refine blk_alloc ?_ _)); exact BK208.out⟩, ⟨bl HB.out⟩⟩
   case rest =>
    clear HC25
    try clear c1
    try clear c2
    try clear p2
    try clear c7
    try clear c8
    try clear c10
    try clear c14
    try clear c18
    try clear c21
    try clear c22
    try clear c26
    try clear c26b0
    try clear c26b1
    try clear c27
    try clear c29
    try clear hcz11
    try clear hcz11_1
    try clear hcz11_10
    try clear hcz11_2
    try clear hcz11_3
    try clear hcz11_4
    try clear hcz11_5
    try clear hcz11_6
    try clear hcz11_7
    try clear hcz11_8
    try clear hcz11_9
    try clear hcz13
    try clear hcz15
    try clear hcz15_1
    try clear hcz15_10
    try clear hcz15_2
    try clear hcz15_3
    try clear hcz15_4
    try clear hcz15_5
    try clear hcz15_6
    try clear hcz15_7
    try clear hcz15_8
    try clear hcz15_9
    try clear hcz17
    try clear hcz19
    try clear hcz19_1
    try clear hcz19_10
    try clear hcz19_2
    try clear hcz19_3
    try clear hcz19_4
    try clear hcz19_5
    try clear hcz19_6
    try clear hcz19_7
    try clear hcz19_8
    try clear hcz19_9
    try clear hcz23
    try clear hcz23_1
    try clear hcz23_10
    try clear hcz23_2
    try clear hcz23_3
    try clear hcz23_4
    try clear hcz23_5
    try clear hcz23_6
    try clear hcz23_7
    try clear hcz23_8
    try clear hcz23_9
    try clear hcz24
    try clear hcz24_1
    try clear hcz24_10
    try clear hcz24_2
    try clear hcz24_3
    try clear hcz24_4
    try clear hcz24_5
    try clear hcz24_6
    try clear hcz24_7
    try clear hcz24_8
    try clear hcz24_9
    try clear hcz28
    try clear hcz28_1
    try clear hcz28_10
    try clear hcz28_2
    try clear hcz28_3
    try clear hcz28_4
    try clear hcz28_5
    try clear hcz28_6
    try clear hcz28_7
    try clear hcz28_8
    try clear hcz28_9
    try clear hcz30
    try clear hcz30_1
    try clear hcz30_10
    try clear hcz30_2
    try clear hcz30_3
    try clear hcz30_4
    try clear hcz30_5
    try clear hcz30_6
    try clear hcz30_7
    try clear hcz30_8
    try clear hcz30_9
    try clear hfz11_0
    try clear hfz11_1
    try clear hfz11_10
    try clear hfz11_2
    try clear hfz11_3
    try clear hfz11_4
    try clear hfz11_5
    try clear hfz11_6
    try clear hfz11_7
    try clear hfz11_8
    try clear hfz11_9
    try clear hfz15_0
    try clear hfz15_1
    try clear hfz15_10
    try clear hfz15_2
    try clear hfz15_3
    try clear hfz15_4
    try clear hfz15_5
    try clear hfz15_6
    try clear hfz15_7
    try clear hfz15_8
    try clear hfz15_9
    try clear hfz19_0
    try clear hfz19_1
    try clear hfz19_10
    try clear hfz19_2
    try clear hfz19_3
    try clear hfz19_4
    try clear hfz19_5
    try clear hfz19_6
    try clear hfz19_7
    try clear hfz19_8
    try clear hfz19_9
    try clear hfz23_0
    try clear hfz23_1
    try clear hfz23_10
    try clear hfz23_2
    try clear hfz23_3
    try clear hfz23_4
    try clear hfz23_5
    try clear hfz23_6
    try clear hfz23_7
    try clear hfz23_8
    try clear hfz23_9
    try clear hfz24_0
    try clear hfz24_1
    try clear hfz24_10
    try clear hfz24_2
    try clear hfz24_3
    try clear hfz24_4
    try clear hfz24_5
    try clear hfz24_6
    try clear hfz24_7
    try clear hfz24_8
    try clear hfz24_9
    try clear hfz28_0
    try clear hfz28_1
    try clear hfz28_10
    try clear hfz28_2
    try clear hfz28_3
    try clear hfz28_4
    try clear hfz28_5
    try clear hfz28_6
    try clear hfz28_7
    try clear hfz28_8
    try clear hfz28_9
    try clear hfz30_0
    try clear hfz30_1
    try clear hfz30_10
    try clear hfz30_2
    try clear hfz30_3
    try clear hfz30_4
    try clear hfz30_5
    try clear hfz30_6
    try clear hfz30_7
    try clear hfz30_8
    try clear hfz30_9
    try clear p2
    obtain ⟨kq, x25_24, rfl, HA, HJ24, BK207, BK208, HB⟩ := hcut
    cases kq with
    | zero => exact absurd HA.out (by simp [spec_Turn.j1])
    | succ kj24 =>
     have H := HA.out
     clear HA
     simp only [spec_Turn.j1] at H
     by_cases c31 : x25_24 = true
     case pos =>
      subst c31
      replace H := hP H rfl
      by_cases c32 : a1 = 3
      case neg =>
       rw [if_neg c32] at H
       have c32b0 : (a1 == 3) = false := beq_eq_false_iff_ne.mpr c32
       have c32b1 : (a1 != 3) = true := bne_iff_ne.mpr c32
       obtain ⟨⟨t222, t223, t224, t225, t226, t227, t228, t229, t230, t231, t232⟩, A380, H⟩ := hB H
       try dsimp only at H
       have A38 := aM A380
       clear A380
       simp only [Option.some.injEq, Prod.mk.injEq] at H
       obtain ⟨rfl, rfl, rfl, rfl, rfl, rfl, rfl, rfl, rfl, rfl, rfl⟩ := H
       have hnb39 := NB207_208.out
       have hnc39 := NB208_207.out
       have hcz40 := cA11 BK207.out
       go_wp2_with (first | ((with_reducible refine gC (f := 68) rfl ?_); refine gL (some 33) Try.func68 #[.agg #[.bool a0_0, .bool a0_1, .int .i64 a0_2, .int .i64 a0_3, .int .i64 a0_4, .int .i64 a0_5, .int .i64 a0_6, .int .i64 a0_7, .int .i64 a1, .int .i64 4, .bool a0_10]] ?_; (with_reducible refine (spec_l7Open.calls a0_0 a0_1 a0_2 a0_3 a0_4 a0_5 a0_6 a0_7 a1 4 a0_10 t222 t223 t224 t225 t226 t227 t228 t229 t230 t231 t232 _ A38.out).mono ?_); rintro e w41 ⟨rfl, hb⟩; refine ⟨_, rfl, ?_⟩; replace BK207 := aM (bB (g := gb207) (o := .cells #[.bool a0_0, .bool a0_1, .int .i64 a0_2, .int .i64 a0_3, .int .i64 a0_4, .int .i64 a0_5, .int .i64 a0_6, .int .i64 a0_7, .int .i64 a1, .int .i64 4, .bool a0_10] 38 (0, 0)) (by (with_reducible repeat (first | refine blk_drewN ?_ _ | refine blk_drew ?_ | refine blk_alloc ?_ _)); refine blk_put (cs := #[.bool a0_0, .bool a0_1, .int .i64 a0_2, .int .i64 a0_3, .int .i64 a0_4, .int .i64 a0_5, .int .i64 a0_6, .int .i64 a0_7, .int .i64 a0_8, .int .i64 4, .bool a0_10]) ?_ 8 _ rfl; (with_reducible repeat (first | refine blk_drewN ?_ _ | refine blk_drew ?_ | refine blk_alloc ?_ _)); refine blk_put (cs := #[.bool a0_0, .bool a0_1, .int .i64 a0_2, .int .i64 a0_3, .int .i64 a0_4, .int .i64 a0_5, .int .i64 a0_6, .int .i64 a0_7, .int .i64 a0_8, .int .i64 a0_9, .bool a0_10]) ?_ 9 _ rfl; (with_reducible repeat (first | refine blk_drewN ?_ _ | refine blk_drew ?_ | refine blk_alloc ?_ _)); exact BK207.out) hb); replace BK208 := aM (bB (fm BK208.out) hb); replace HB := aM (bS (bl HB.out) hb); (try clear hb); have hcz42 := cA11 BK208.out))
       refine bodyPost_ret (results_cell_row rfl _ _ gb208 38 #[.bool t222, .bool t223, .int .i64 t224, .int .i64 t225, .int .i64 t226, .int .i64 t227, .int .i64 t228, .int .i64 t229, .int .i64 t230, .int .i64 t231, .bool t232] (0, 0) _ rfl (bm BK208.out) Try.underlying38 rfl (by kernel_rfl)) rfl ?_
       exact ⟨xW, bl HB.out⟩
      rw [if_pos c32] at H
      have c32b0 : (a1 == 3) = true := beq_iff_eq.mpr c32
      have c32b1 : (a1 != 3) = false := bne_eq_false_iff_eq.mpr c32
      clear c32
      obtain ⟨⟨t211, t212, t213, t214, t215, t216, t217, t218, t219, t220, t221⟩, A330, H⟩ := hB H
      try dsimp only at H
      have A33 := aM A330
      clear A330
      simp only [Option.some.injEq, Prod.mk.injEq] at H
      obtain ⟨rfl, rfl, rfl, rfl, rfl, rfl, rfl, rfl, rfl, rfl, rfl⟩ := H
      have hnb34 := NB207_208.out
      have hnc34 := NB208_207.out
      have hcz35 := cA11 BK207.out
      go_wp2_with (first | ((with_reducible refine gC (f := 68) rfl ?_); refine gL (some 33) Try.func68 #[.agg #[.bool a0_0, .bool a0_1, .int .i64 a0_2, .int .i64 a0_3, .int .i64 a0_4, .int .i64 a0_5, .int .i64 a0_6, .int .i64 a0_7, .int .i64 a1, .int .i64 0, .bool a0_10]] ?_; (with_reducible refine (spec_l7Open.calls a0_0 a0_1 a0_2 a0_3 a0_4 a0_5 a0_6 a0_7 a1 0 a0_10 t211 t212 t213 t214 t215 t216 t217 t218 t219 t220 t221 _ A33.out).mono ?_); rintro e w36 ⟨rfl, hb⟩; refine ⟨_, rfl, ?_⟩; replace BK207 := aM (bB (g := gb207) (o := .cells #[.bool a0_0, .bool a0_1, .int .i64 a0_2, .int .i64 a0_3, .int .i64 a0_4, .int .i64 a0_5, .int .i64 a0_6, .int .i64 a0_7, .int .i64 a1, .int .i64 0, .bool a0_10] 38 (0, 0)) (by (with_reducible repeat (first | refine blk_drewN ?_ _ | refine blk_drew ?_ | refine blk_alloc ?_ _)); refine blk_put (cs := #[.bool a0_0, .bool a0_1, .int .i64 a0_2, .int .i64 a0_3, .int .i64 a0_4, .int .i64 a0_5, .int .i64 a0_6, .int .i64 a0_7, .int .i64 a0_8, .int .i64 0, .bool a0_10]) ?_ 8 _ rfl; (with_reducible repeat (first | refine blk_drewN ?_ _ | refine blk_drew ?_ | refine blk_alloc ?_ _)); refine blk_put (cs := #[.bool a0_0, .bool a0_1, .int .i64 a0_2, .int .i64 a0_3, .int .i64 a0_4, .int .i64 a0_5, .int .i64 a0_6, .int .i64 a0_7, .int .i64 a0_8, .int .i64 4, .bool a0_10]) ?_ 9 _ rfl; (with_reducible repeat (first | refine blk_drewN ?_ _ | refine blk_drew ?_ | refine blk_alloc ?_ _)); refine blk_put (cs := #[.bool a0_0, .bool a0_1, .int .i64 a0_2, .int .i64 a0_3, .int .i64 a0_4, .int .i64 a0_5, .int .i64 a0_6, .int .i64 a0_7, .int .i64 a0_8, .int .i64 a0_9, .bool a0_10]) ?_ 9 _ rfl; (with_reducible repeat (first | refine blk_drewN ?_ _ | refine blk_drew ?_ | refine blk_alloc ?_ _)); exact BK207.out) hb); replace BK208 := aM (bB (fm BK208.out) hb); replace HB := aM (bS (bl HB.out) hb); (try clear hb); have hcz37 := cA11 BK208.out))
      refine bodyPost_ret (results_cell_row rfl _ _ gb208 38 #[.bool t211, .bool t212, .int .i64 t213, .int .i64 t214, .int .i64 t215, .int .i64 t216, .int .i64 t217, .int .i64 t218, .int .i64 t219, .int .i64 t220, .bool t221] (0, 0) _ rfl (bm BK208.out) Try.underlying38 rfl (by kernel_rfl)) rfl ?_
      exact ⟨xW, bl HB.out⟩
     replace c31 := Bool.eq_false_iff.mpr c31
     subst c31
     replace H := hN H (show ¬ (false = true) by decide)
     by_cases c43 : a1 = 3
     case neg =>
      rw [if_neg c43] at H
      have c43b0 : (a1 == 3) = false := beq_eq_false_iff_ne.mpr c43
      have c43b1 : (a1 != 3) = true := bne_iff_ne.mpr c43
      obtain ⟨⟨t244, t245, t246, t247, t248, t249, t250, t251, t252, t253, t254⟩, A490, H⟩ := hB H
      try dsimp only at H
      have A49 := aM A490
      clear A490
      simp only [Option.some.injEq, Prod.mk.injEq] at H
      obtain ⟨rfl, rfl, rfl, rfl, rfl, rfl, rfl, rfl, rfl, rfl, rfl⟩ := H
      have hnb50 := NB207_208.out
      have hnc50 := NB208_207.out
      have hcz51 := cA11 BK207.out
      go_wp2_with (first | ((with_reducible refine gC (f := 68) rfl ?_); refine gL (some 33) Try.func68 #[.agg #[.bool a0_0, .bool a0_1, .int .i64 a0_2, .int .i64 a0_3, .int .i64 a0_4, .int .i64 a0_5, .int .i64 a0_6, .int .i64 a0_7, .int .i64 a1, .int .i64 a0_9, .bool a0_10]] ?_; (with_reducible refine (spec_l7Open.calls a0_0 a0_1 a0_2 a0_3 a0_4 a0_5 a0_6 a0_7 a1 a0_9 a0_10 t244 t245 t246 t247 t248 t249 t250 t251 t252 t253 t254 _ A49.out).mono ?_); rintro e w52 ⟨rfl, hb⟩; refine ⟨_, rfl, ?_⟩; replace BK207 := aM (bB (g := gb207) (o := .cells #[.bool a0_0, .bool a0_1, .int .i64 a0_2, .int .i64 a0_3, .int .i64 a0_4, .int .i64 a0_5, .int .i64 a0_6, .int .i64 a0_7, .int .i64 a1, .int .i64 a0_9, .bool a0_10] 38 (0, 0)) (by (with_reducible repeat (first | refine blk_drewN ?_ _ | refine blk_drew ?_ | refine blk_alloc ?_ _)); refine blk_put (cs := #[.bool a0_0, .bool a0_1, .int .i64 a0_2, .int .i64 a0_3, .int .i64 a0_4, .int .i64 a0_5, .int .i64 a0_6, .int .i64 a0_7, .int .i64 a0_8, .int .i64 a0_9, .bool a0_10]) ?_ 8 _ rfl; (with_reducible repeat (first | refine blk_drewN ?_ _ | refine blk_drew ?_ | refine blk_alloc ?_ _)); exact BK207.out) hb); replace BK208 := aM (bB (fm BK208.out) hb); replace HB := aM (bS (bl HB.out) hb); (try clear hb); have hcz53 := cA11 BK208.out))
      refine bodyPost_ret (results_cell_row rfl _ _ gb208 38 #[.bool t244, .bool t245, .int .i64 t246, .int .i64 t247, .int .i64 t248, .int .i64 t249, .int .i64 t250, .int .i64 t251, .int .i64 t252, .int .i64 t253, .bool t254] (0, 0) _ rfl (bm BK208.out) Try.underlying38 rfl (by kernel_rfl)) rfl ?_
      exact ⟨xW, bl HB.out⟩
     rw [if_pos c43] at H
     have c43b0 : (a1 == 3) = true := beq_iff_eq.mpr c43
     have c43b1 : (a1 != 3) = false := bne_eq_false_iff_eq.mpr c43
     clear c43
     obtain ⟨⟨t233, t234, t235, t236, t237, t238, t239, t240, t241, t242, t243⟩, A440, H⟩ := hB H
     try dsimp only at H
     have A44 := aM A440
     clear A440
     simp only [Option.some.injEq, Prod.mk.injEq] at H
     obtain ⟨rfl, rfl, rfl, rfl, rfl, rfl, rfl, rfl, rfl, rfl, rfl⟩ := H
     have hnb45 := NB207_208.out
     have hnc45 := NB208_207.out
     have hcz46 := cA11 BK207.out
     go_wp2_with (first | ((with_reducible refine gC (f := 68) rfl ?_); refine gL (some 33) Try.func68 #[.agg #[.bool a0_0, .bool a0_1, .int .i64 a0_2, .int .i64 a0_3, .int .i64 a0_4, .int .i64 a0_5, .int .i64 a0_6, .int .i64 a0_7, .int .i64 a1, .int .i64 0, .bool a0_10]] ?_; (with_reducible refine (spec_l7Open.calls a0_0 a0_1 a0_2 a0_3 a0_4 a0_5 a0_6 a0_7 a1 0 a0_10 t233 t234 t235 t236 t237 t238 t239 t240 t241 t242 t243 _ A44.out).mono ?_); rintro e w47 ⟨rfl, hb⟩; refine ⟨_, rfl, ?_⟩; replace BK207 := aM (bB (g := gb207) (o := .cells #[.bool a0_0, .bool a0_1, .int .i64 a0_2, .int .i64 a0_3, .int .i64 a0_4, .int .i64 a0_5, .int .i64 a0_6, .int .i64 a0_7, .int .i64 a1, .int .i64 0, .bool a0_10] 38 (0, 0)) (by (with_reducible repeat (first | refine blk_drewN ?_ _ | refine blk_drew ?_ | refine blk_alloc ?_ _)); refine blk_put (cs := #[.bool a0_0, .bool a0_1, .int .i64 a0_2, .int .i64 a0_3, .int .i64 a0_4, .int .i64 a0_5, .int .i64 a0_6, .int .i64 a0_7, .int .i64 a0_8, .int .i64 0, .bool a0_10]) ?_ 8 _ rfl; (with_reducible repeat (first | refine blk_drewN ?_ _ | refine blk_drew ?_ | refine blk_alloc ?_ _)); refine blk_put (cs := #[.bool a0_0, .bool a0_1, .int .i64 a0_2, .int .i64 a0_3, .int .i64 a0_4, .int .i64 a0_5, .int .i64 a0_6, .int .i64 a0_7, .int .i64 a0_8, .int .i64 a0_9, .bool a0_10]) ?_ 9 _ rfl; (with_reducible repeat (first | refine blk_drewN ?_ _ | refine blk_drew ?_ | refine blk_alloc ?_ _)); exact BK207.out) hb); replace BK208 := aM (bB (fm BK208.out) hb); replace HB := aM (bS (bl HB.out) hb); (try clear hb); have hcz48 := cA11 BK208.out))
     refine bodyPost_ret (results_cell_row rfl _ _ gb208 38 #[.bool t233, .bool t234, .int .i64 t235, .int .i64 t236, .int .i64 t237, .int .i64 t238, .int .i64 t239, .int .i64 t240, .int .i64 t241, .int .i64 t242, .bool t243] (0, 0) _ rfl (bm BK208.out) Try.underlying38 rfl (by kernel_rfl)) rfl ?_
     exact ⟨xW, bl HB.out⟩

end Go.Proofs.Ytaoipjdmmamkmaa.PFnPorts

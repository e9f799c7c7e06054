/- Of the proof of laws.FnPorts: a part. No condition beyond what its theorems say. -/
import Derived.Test.YtaoipjdmmamkmaaVFnPortsWTight
import Derived.Test.YtaoipjdmmamkmaaVFnPortsPx0
import Derived.Test.YtaoipjdmmamkmaaVFnPortsPx2
import Derived.Test.YtaoipjdmmamkmaaVFnPortsPx3
import Derived.Test.YtaoipjdmmamkmaaVFnPortsPx4
namespace Go.Proofs.Ytaoipjdmmamkmaa.PFnPorts
open Go.RowKit Go.Proofs.YtaoipjdmmamkmaaW.PrintWords Go.Proofs.YtaoipjdmmamkmaaW.PrintLast Go.Proofs.YtaoipjdmmamkmaaW.PrintMore
attribute [local go_sem] max2_int min2_int max_two min_two max_three min_three max_four min_four   -- for this text's walks alone
set_option linter.unusedVariables false
set_option linter.unusedSimpArgs false

def spec_Better.f (a0_0 : Int) (a0_1 : Int) (a0_2 : Int) (a0_3 : Int) (a1_0 : Int) (a1_1 : Int) (a1_2 : Int) (a1_3 : Int) : Option (Bool) := if a0_0 = a1_0 then (if a0_1 = a1_1 then (if a0_2 = a1_2 then (some (decide (a0_3 < a1_3))) else (some (decide (a0_2 < a1_2)))) else (some (decide (a0_1 < a1_1)))) else (some (decide (a0_0 < a1_0)))
set_option maxHeartbeats 60000000 in
set_option maxRecDepth 100000 in
theorem spec_Better.calls (a0_0 : Int) (a0_1 : Int) (a0_2 : Int) (a0_3 : Int) (a1_0 : Int) (a1_1 : Int) (a1_2 : Int) (a1_3 : Int) (r : Bool) (w : World) (h : spec_Better.f a0_0 a0_1 a0_2 a0_3 a1_0 a1_1 a1_2 a1_3 = some r) :
  Calls Try.prog 67 #[.agg #[.int .i64 a0_0, .int .i64 a0_1, .int .i64 a0_2, .int .i64 a0_3], .agg #[.int .i64 a1_0, .int .i64 a1_1, .int .i64 a1_2, .int .i64 a1_3]] w fun e w' => e = .returned (.bool r) ∧ Below w.heap.size w w' := by
 have hu36 := Try.underlying36
 have HB := aM (Below.refl w.heap.size w)
 have H : (if a0_0 = a1_0 then (if a0_1 = a1_1 then (if a0_2 = a1_2 then (some (decide (a0_3 < a1_3))) else (some (decide (a0_2 < a1_2)))) else (some (decide (a0_1 < a1_1)))) else (some (decide (a0_0 < a1_0)))) = some r := h
 clear h
 by_cases c3 : a0_0 = a1_0
 case neg =>
  rw [if_neg c3] at H
  have c3b0 : (a0_0 == a1_0) = false := beq_eq_false_iff_ne.mpr c3
  have c3b1 : (a0_0 != a1_0) = true := bne_iff_ne.mpr c3
  obtain rfl := Option.some.inj H
  go_enter Try.func67, Try.ntmps67
  go_wp2_with (first | ((with_reducible refine gD (N := 2) rfl ?_); refine bE (N := 2) (cs := #[.int .i64 a0_0, .int .i64 a0_1, .int .i64 a0_2, .int .i64 a0_3]) (t := 36) ?_; intro gb193 hg w21 hbox hb; have BK193 := aM (hbox); have GW193 := gE hg (below_size (bl HB.out)); have GE193 := gE hg (below_size (bl HB.out)); replace HB := aM (bS (bl HB.out) hb); clear hb hbox hg) | ((with_reducible refine gD (N := 3) rfl ?_); refine bE (N := 3) (cs := #[.int .i64 a1_0, .int .i64 a1_1, .int .i64 a1_2, .int .i64 a1_3]) (t := 36) ?_; intro gb194 hg w22 hbox hb; have BK194 := aM (hbox); have GW194 := gE hg (below_size (bl HB.out)); have GE194 := gE hg (below_size (bl HB.out)); have NB193_194 := nL hg (blk_lt (bk BK193.out)); have NB194_193 := nG hg (blk_lt (bk BK193.out)); replace BK193 := aM (bB (bk BK193.out) hb); replace HB := aM (bS (bl HB.out) hb); clear hb hbox hg; have hnb23 := NB193_194.out; have hnc23 := NB194_193.out; have hcz24 := cA4 BK193.out; have hcz25 := cA4 BK194.out))
  go_ret
  exact ⟨xW, bl HB.out⟩
 rw [if_pos c3] at H
 have c3b0 : (a0_0 == a1_0) = true := beq_iff_eq.mpr c3
 have c3b1 : (a0_0 != a1_0) = false := bne_eq_false_iff_eq.mpr c3
 clear c3
 by_cases c4 : a0_1 = a1_1
 case neg =>
  rw [if_neg c4] at H
  have c4b0 : (a0_1 == a1_1) = false := beq_eq_false_iff_ne.mpr c4
  have c4b1 : (a0_1 != a1_1) = true := bne_iff_ne.mpr c4
  obtain rfl := Option.some.inj H
  go_enter Try.func67, Try.ntmps67
  go_wp2_with (first | ((with_reducible refine gD (N := 2) rfl ?_); refine bE (N := 2) (cs := #[.int .i64 a0_0, .int .i64 a0_1, .int .i64 a0_2, .int .i64 a0_3]) (t := 36) ?_; intro gb193 hg w16 hbox hb; have BK193 := aM (hbox); have GW193 := gE hg (below_size (bl HB.out)); have GE193 := gE hg (below_size (bl HB.out)); replace HB := aM (bS (bl HB.out) hb); clear hb hbox hg) | ((with_reducible refine gD (N := 3) rfl ?_); refine bE (N := 3) (cs := #[.int .i64 a1_0, .int .i64 a1_1, .int .i64 a1_2, .int .i64 a1_3]) (t := 36) ?_; intro gb194 hg w17 hbox hb; have BK194 := aM (hbox); have GW194 := gE hg (below_size (bl HB.out)); have GE194 := gE hg (below_size (bl HB.out)); have NB193_194 := nL hg (blk_lt (bk BK193.out)); have NB194_193 := nG hg (blk_lt (bk BK193.out)); replace BK193 := aM (bB (bk BK193.out) hb); replace HB := aM (bS (bl HB.out) hb); clear hb hbox hg; have hnb18 := NB193_194.out; have hnc18 := NB194_193.out; have hcz19 := cA4 BK193.out; have hcz20 := cA4 BK194.out))
  go_ret
  exact ⟨xW, bl HB.out⟩
 rw [if_pos c4] at H
 have c4b0 : (a0_1 == a1_1) = true := beq_iff_eq.mpr c4
 have c4b1 : (a0_1 != a1_1) = false := bne_eq_false_iff_eq.mpr c4
 clear c4
 by_cases c5 : a0_2 = a1_2
 case neg =>
  rw [if_neg c5] at H
  have c5b0 : (a0_2 == a1_2) = false := beq_eq_false_iff_ne.mpr c5
  have c5b1 : (a0_2 != a1_2) = true := bne_iff_ne.mpr c5
  obtain rfl := Option.some.inj H
  go_enter Try.func67, Try.ntmps67
  go_wp2_with (first | ((with_reducible refine gD (N := 2) rfl ?_); refine bE (N := 2) (cs := #[.int .i64 a0_0, .int .i64 a0_1, .int .i64 a0_2, .int .i64 a0_3]) (t := 36) ?_; intro gb193 hg w11 hbox hb; have BK193 := aM (hbox); have GW193 := gE hg (below_size (bl HB.out)); have GE193 := gE hg (below_size (bl HB.out)); replace HB := aM (bS (bl HB.out) hb); clear hb hbox hg) | ((with_reducible refine gD (N := 3) rfl ?_); refine bE (N := 3) (cs := #[.int .i64 a1_0, .int .i64 a1_1, .int .i64 a1_2, .int .i64 a1_3]) (t := 36) ?_; intro gb194 hg w12 hbox hb; have BK194 := aM (hbox); have GW194 := gE hg (below_size (bl HB.out)); have GE194 := gE hg (below_size (bl HB.out)); have NB193_194 := nL hg (blk_lt (bk BK193.out)); have NB194_193 := nG hg (blk_lt (bk BK193.out)); replace BK193 := aM (bB (bk BK193.out) hb); replace HB := aM (bS (bl HB.out) hb); clear hb hbox hg; have hnb13 := NB193_194.out; have hnc13 := NB194_193.out; have hcz14 := cA4 BK193.out; have hcz15 := cA4 BK194.out))
  go_ret
  exact ⟨xW, bl HB.out⟩
 rw [if_pos c5] at H
 have c5b0 : (a0_2 == a1_2) = true := beq_iff_eq.mpr c5
 have c5b1 : (a0_2 != a1_2) = false := bne_eq_false_iff_eq.mpr c5
 clear c5
 obtain rfl := Option.some.inj H
 go_enter Try.func67, Try.ntmps67
 go_wp2_with (first | ((with_reducible refine gD (N := 2) rfl ?_); refine bE (N := 2) (cs := #[.int .i64 a0_0, .int .i64 a0_1, .int .i64 a0_2, .int .i64 a0_3]) (t := 36) ?_; intro gb193 hg w6 hbox hb; have BK193 := aM (hbox); have GW193 := gE hg (below_size (bl HB.out)); have GE193 := gE hg (below_size (bl HB.out)); replace HB := aM (bS (bl HB.out) hb); clear hb hbox hg) | ((with_reducible refine gD (N := 3) rfl ?_); refine bE (N := 3) (cs := #[.int .i64 a1_0, .int .i64 a1_1, .int .i64 a1_2, .int .i64 a1_3]) (t := 36) ?_; intro gb194 hg w7 hbox hb; have BK194 := aM (hbox); have GW194 := gE hg (below_size (bl HB.out)); have GE194 := gE hg (below_size (bl HB.out)); have NB193_194 := nL hg (blk_lt (bk BK193.out)); have NB194_193 := nG hg (blk_lt (bk BK193.out)); replace BK193 := aM (bB (bk BK193.out) hb); replace HB := aM (bS (bl HB.out) hb); clear hb hbox hg; have hnb8 := NB193_194.out; have hnc8 := NB194_193.out; have hcz9 := cA4 BK193.out; have hcz10 := cA4 BK194.out))
 go_ret
 exact ⟨xW, bl HB.out⟩

def spec_Claim.j0 : Nat → Int → Bool → Bool → Bool → Int → Int → Int → Int → Int → Int → Int → Int → Bool → Int → Int → Int → Int → Option (Bool × Bool × Int × Int × Int × Int × Int × Int × Int × Int × Bool)
 | 0, _, _, _, _, _, _, _, _, _, _, _, _, _, _, _, _, _ => none
 | k + 1, x2, x24, x196000, x196001, x196002, x196003, x196004, x196005, x196006, x196007, x196008, x196009, x196010, x197000, x197001, x197002, x197003 => if x24 = true then (some (x196000, x196001, x196002, x196003, x196004, x196005, x196006, x196007, x196008, x196009, x196010)) else (if x196001 = true then ((spec_Better.f x196002 x196003 x196004 x196005 x197000 x197001 x197002 x197003).bind fun t201 => (if t201 = true then (if x196004 = x197002 then (if x196005 = x197003 then (some (x196000, true, x197000, x197001, x197002, x197003, x2, 3, x196008, x196009, x196010)) else (some (x196000, x196001, x196002, x196003, x196004, x196005, x196006, x196007, x196008, x196009, x196010))) else (some (x196000, x196001, x196002, x196003, x196004, x196005, x196006, x196007, x196008, x196009, x196010))) else (some (x196000, true, x197000, x197001, x197002, x197003, x2, 3, x196008, x196009, x196010)))) else (some (x196000, true, x197000, x197001, x197002, x197003, x2, 3, x196008, x196009, x196010)))
def spec_Claim.f (k : Nat) (a0_0 : Bool) (a0_1 : Bool) (a0_2 : Int) (a0_3 : Int) (a0_4 : Int) (a0_5 : Int) (a0_6 : Int) (a0_7 : Int) (a0_8 : Int) (a0_9 : Int) (a0_10 : Bool) (a1_0 : Int) (a1_1 : Int) (a1_2 : Int) (a1_3 : Int) (a2 : Int) : Option (Bool × Bool × Int × Int × Int × Int × Int × Int × Int × Int × Bool) := (spec_PortOk.f k a0_0 a0_1 a0_2 a0_3 a0_4 a0_5 a0_6 a0_7 a0_8 a0_9 a0_10).bind fun t198 => (if t198 = true then (if a0_0 = true then ((spec_VecOk.f a1_0 a1_1 a1_2 a1_3).bind fun t199 => (if t199 = true then ((spec_l1In.f a2 0 8).bind fun t200 => (spec_Claim.j0 k a2 (!t200) a0_0 a0_1 a0_2 a0_3 a0_4 a0_5 a0_6 a0_7 a0_8 a0_9 a0_10 a1_0 a1_1 a1_2 a1_3)) else (spec_Claim.j0 k a2 true a0_0 a0_1 a0_2 a0_3 a0_4 a0_5 a0_6 a0_7 a0_8 a0_9 a0_10 a1_0 a1_1 a1_2 a1_3))) else (spec_Claim.j0 k a2 true a0_0 a0_1 a0_2 a0_3 a0_4 a0_5 a0_6 a0_7 a0_8 a0_9 a0_10 a1_0 a1_1 a1_2 a1_3)) else (spec_Claim.j0 k a2 true a0_0 a0_1 a0_2 a0_3 a0_4 a0_5 a0_6 a0_7 a0_8 a0_9 a0_10 a1_0 a1_1 a1_2 a1_3))
theorem spec_Claim.mono_l : ∀ k, (∀ y0 y1 y2 y3 y4 y5 y6 y7 y8 y9 y10 y11 y12 y13 y14 y15 y16, LeO (spec_Claim.j0 k y0 y1 y2 y3 y4 y5 y6 y7 y8 y9 y10 y11 y12 y13 y14 y15 y16) (spec_Claim.j0 (k + 1) y0 y1 y2 y3 y4 y5 y6 y7 y8 y9 y10 y11 y12 y13 y14 y15 y16))
 | 0 => fun _ _ _ _ _ _ _ _ _ _ _ _ _ _ _ _ _ r h => by simp [spec_Claim.j0] at h
 | k + 1 => by
  have ih0 := spec_Claim.mono_l k
  ·intro y0 y1 y2 y3 y4 y5 y6 y7 y8 y9 y10 y11 y12 y13 y14 y15 y16
   unfold spec_Claim.j0
   repeat' first
   | (with_reducible exact ih0 _ _ _ _ _ _ _ _ _ _ _ _ _ _ _ _ _)
   | (with_reducible exact spec_PortOk.mono _ _ _ _ _ _ _ _ _ _ _ _)
   | (with_reducible exact LeO.refl _)
   | (with_reducible exact LeO.none _)
   | (with_reducible refine LeO.ite ?_ ?_)
   | (with_reducible refine LeO.bind ?_ (fun _ => ?_))
   | exact ih0 _ _ _ _ _ _ _ _ _ _ _ _ _ _ _ _ _
   | exact spec_PortOk.mono _ _ _ _ _ _ _ _ _ _ _ _
   | exact LeO.none _
   | refine LeO.ite ?_ ?_
   | refine LeO.bind ?_ (fun _ => ?_)
theorem spec_Claim.mono : ∀ a0 a1 a2 a3 a4 a5 a6 a7 a8 a9 a10 a11 a12 a13 a14 a15 k, LeO (spec_Claim.f k a0 a1 a2 a3 a4 a5 a6 a7 a8 a9 a10 a11 a12 a13 a14 a15) (spec_Claim.f (k + 1) a0 a1 a2 a3 a4 a5 a6 a7 a8 a9 a10 a11 a12 a13 a14 a15) := by
 intro a0 a1 a2 a3 a4 a5 a6 a7 a8 a9 a10 a11 a12 a13 a14 a15 k
 have ih0 := spec_Claim.mono_l k
 unfold spec_Claim.f
 repeat' first
   | (with_reducible exact ih0 _ _ _ _ _ _ _ _ _ _ _ _ _ _ _ _ _)
   | (with_reducible exact spec_PortOk.mono _ _ _ _ _ _ _ _ _ _ _ _)
   | (with_reducible exact LeO.refl _)
   | (with_reducible exact LeO.none _)
   | (with_reducible refine LeO.ite ?_ ?_)
   | (with_reducible refine LeO.bind ?_ (fun _ => ?_))
   | exact ih0 _ _ _ _ _ _ _ _ _ _ _ _ _ _ _ _ _
   | exact spec_PortOk.mono _ _ _ _ _ _ _ _ _ _ _ _
   | exact LeO.none _
   | refine LeO.ite ?_ ?_
   | refine LeO.bind ?_ (fun _ => ?_)
set_option maxHeartbeats 60000000 in
set_option maxRecDepth 100000 in
theorem spec_Claim.calls (k : Nat) (a0_0 : Bool) (a0_1 : Bool) (a0_2 : Int) (a0_3 : Int) (a0_4 : Int) (a0_5 : Int) (a0_6 : Int) (a0_7 : Int) (a0_8 : Int) (a0_9 : Int) (a0_10 : Bool) (a1_0 : Int) (a1_1 : Int) (a1_2 : Int) (a1_3 : Int) (a2 : Int) (r1 : Bool) (r2 : Bool) (r3 : Int) (r4 : Int) (r5 : Int) (r6 : Int) (r7 : Int) (r8 : Int) (r9 : Int) (r10 : Int) (r11 : Bool) (w : World) (h : spec_Claim.f k a0_0 a0_1 a0_2 a0_3 a0_4 a0_5 a0_6 a0_7 a0_8 a0_9 a0_10 a1_0 a1_1 a1_2 a1_3 a2 = some (r1, r2, r3, r4, r5, r6, r7, r8, r9, r10, r11)) :
  Calls Try.prog 25 #[.agg #[.bool a0_0, .bool a0_1, .int .i64 a0_2, .int .i64 a0_3, .int .i64 a0_4, .int .i64 a0_5, .int .i64 a0_6, .int .i64 a0_7, .int .i64 a0_8, .int .i64 a0_9, .bool a0_10], .agg #[.int .i64 a1_0, .int .i64 a1_1, .int .i64 a1_2, .int .i64 a1_3], .int .i64 a2] w fun e w' => e = .returned (.agg #[.bool r1, .bool r2, .int .i64 r3, .int .i64 r4, .int .i64 r5, .int .i64 r6, .int .i64 r7, .int .i64 r8, .int .i64 r9, .int .i64 r10, .bool r11]) ∧ Below w.heap.size w w' := by
 have hu38 := Try.underlying38
 have hu36 := Try.underlying36
 have HB := aM (Below.refl w.heap.size w)
 have H : ((spec_PortOk.f k a0_0 a0_1 a0_2 a0_3 a0_4 a0_5 a0_6 a0_7 a0_8 a0_9 a0_10).bind fun t198 => (if t198 = true then (if a0_0 = true then ((spec_VecOk.f a1_0 a1_1 a1_2 a1_3).bind fun t199 => (if t199 = true then ((spec_l1In.f a2 0 8).bind fun t200 => (spec_Claim.j0 k a2 (!t200) a0_0 a0_1 a0_2 a0_3 a0_4 a0_5 a0_6 a0_7 a0_8 a0_9 a0_10 a1_0 a1_1 a1_2 a1_3)) else (spec_Claim.j0 k a2 true a0_0 a0_1 a0_2 a0_3 a0_4 a0_5 a0_6 a0_7 a0_8 a0_9 a0_10 a1_0 a1_1 a1_2 a1_3))) else (spec_Claim.j0 k a2 true a0_0 a0_1 a0_2 a0_3 a0_4 a0_5 a0_6 a0_7 a0_8 a0_9 a0_10 a1_0 a1_1 a1_2 a1_3)) else (spec_Claim.j0 k a2 true a0_0 a0_1 a0_2 a0_3 a0_4 a0_5 a0_6 a0_7 a0_8 a0_9 a0_10 a1_0 a1_1 a1_2 a1_3))) = some (r1, r2, r3, r4, r5, r6, r7, r8, r9, r10, r11) := h
 clear h
 have HC4 := aM H
 clear H
 go_enter Try.func25, Try.ntmps25
 go_upto_region 1 with (first | ((with_reducible refine gD (N := 3) rfl ?_); refine bE (N := 3) (cs := #[.bool a0_0, .bool a0_1, .int .i64 a0_2, .int .i64 a0_3, .int .i64 a0_4, .int .i64 a0_5, .int .i64 a0_6, .int .i64 a0_7, .int .i64 a0_8, .int .i64 a0_9, .bool a0_10]) (t := 38) ?_; intro gb195 hg w5 hbox hb; have BK195 := aM (hbox); have GW195 := gE hg (below_size (bl HB.out)); have GE195 := gE hg (below_size (bl HB.out)); replace HB := aM (bS (bl HB.out) hb); clear hb hbox hg) | ((with_reducible refine gD (N := 4) rfl ?_); refine bE (N := 4) (cs := #[.int .i64 a1_0, .int .i64 a1_1, .int .i64 a1_2, .int .i64 a1_3]) (t := 36) ?_; intro gb196 hg w6 hbox hb; have BK196 := aM (hbox); have GW196 := gE hg (below_size (bl HB.out)); have GE196 := gE hg (below_size (bl HB.out)); have NB195_196 := nL hg (blk_lt (bk BK195.out)); have NB196_195 := nG hg (blk_lt (bk BK195.out)); replace BK195 := aM (bB (bk BK195.out) hb); replace HB := aM (bS (bl HB.out) hb); clear hb hbox hg) | ((with_reducible refine gD (N := 6) rfl ?_); refine bE (N := 6) (cs := #[.bool false, .bool false, .int .i64 0, .int .i64 0, .int .i64 0, .int .i64 0, .int .i64 0, .int .i64 0, .int .i64 0, .int .i64 0, .bool false]) (t := 38) ?_; intro gb197 hg w7 hbox hb; have BK197 := aM (hbox); have GW197 := gE hg (below_size (bl HB.out)); have GE197 := gE hg (below_size (bl HB.out)); have NB195_197 := nL hg (blk_lt (bk BK195.out)); have NB197_195 := nG hg (blk_lt (bk BK195.out)); have NB196_197 := nL hg (blk_lt (bk BK196.out)); have NB197_196 := nG hg (blk_lt (bk BK196.out)); replace BK195 := aM (bB (bk BK195.out) hb); replace BK196 := aM (bB (bk BK196.out) hb); replace HB := aM (bS (bl HB.out) hb); clear hb hbox hg))
 (try simp only [Act.put, sA, sZ, sS])
 go_cut [24] (fun v24 wc => ∃ (kq : Nat) (x24_3 : Bool), v24 = .bool x24_3 ∧ Aside0 (spec_Claim.j0 kq a2 x24_3 a0_0 a0_1 a0_2 a0_3 a0_4 a0_5 a0_6 a0_7 a0_8 a0_9 a0_10 a1_0 a1_1 a1_2 a1_3 = some (r1, r2, r3, r4, r5, r6, r7, r8, r9, r10, r11)) ∧ Aside0 (kq ≤ k) ∧ Aside0 (wc.heap[gb195]? = some (.cells #[.bool a0_0, .bool a0_1, .int .i64 a0_2, .int .i64 a0_3, .int .i64 a0_4, .int .i64 a0_5, .int .i64 a0_6, .int .i64 a0_7, .int .i64 a0_8, .int .i64 a0_9, .bool a0_10] 38 (0, 0))) ∧ Aside0 (wc.heap[gb196]? = some (.cells #[.int .i64 a1_0, .int .i64 a1_1, .int .i64 a1_2, .int .i64 a1_3] 36 (0, 0))) ∧ Aside0 (wc.heap[gb197]? = some (.cells #[.bool false, .bool false, .int .i64 0, .int .i64 0, .int .i64 0, .int .i64 0, .int .i64 0, .int .i64 0, .int .i64 0, .int .i64 0, .bool false] 38 (0, 0))) ∧ Aside0 (Below w.heap.size w wc))
 case first =>
  have H := HC4.out
  clear HC4
  obtain ⟨t198, A80, H⟩ := hB H
  have A8 := aM A80
  clear A80
  by_cases c9 : t198 = true
  case neg =>
   replace c9 := Bool.eq_false_iff.mpr c9
   subst c9
   replace H := hN H (show ¬ (false = true) by decide)
   have H' := aM H
   clear H
   have hnb35 := NB195_196.out
   have hnc35 := NB196_195.out
   have hnb36 := NB195_197.out
   have hnc36 := NB197_195.out
   have hcz37 := cA11 BK195.out
   go_wp2_with (first | ((with_reducible refine gC (f := 29) rfl ?_); refine gL (some 8) Try.func29 #[.agg #[.bool a0_0, .bool a0_1, .int .i64 a0_2, .int .i64 a0_3, .int .i64 a0_4, .int .i64 a0_5, .int .i64 a0_6, .int .i64 a0_7, .int .i64 a0_8, .int .i64 a0_9, .bool a0_10]] ?_; (with_reducible refine (spec_PortOk.calls k a0_0 a0_1 a0_2 a0_3 a0_4 a0_5 a0_6 a0_7 a0_8 a0_9 a0_10 false _ A8.out).mono ?_); rintro e w38 ⟨rfl, hb⟩; refine ⟨_, rfl, ?_⟩; replace BK195 := aM (bB (bk BK195.out) hb); replace BK196 := aM (bB (bk BK196.out) hb); replace BK197 := aM (bB (bk BK197.out) hb); replace HB := aM (bS (bl HB.out) hb); (try clear hb)))
   go_meet
   case rel => exact ⟨_, (true), xE, H', ⟨by first | omega | exact Nat.le_refl _⟩, ⟨by (with_reducible repeat (first | refine blk_drewN ?_ _ | refine blk_drew ?_ | refine blk_alloc ?_ _)); exact BK195.out⟩, ⟨by (with_reducible repeat (first | refine blk_drewN ?_ _ | refine blk_drew ?_ | refine blk_alloc ?_ _)); exact BK196.out⟩, ⟨by (with_reducible repeat (first | refine blk_drewN ?_ _ | refine blk_drew ?_ | refine blk_alloc ?_ _)); exact BK197.out⟩, ⟨bl HB.out⟩⟩
  subst c9
  replace H := hP H rfl
  by_cases c10 : a0_0 = true
  case neg =>
   replace c10 := Bool.eq_false_iff.mpr c10
   subst c10
   replace H := hN H (show ¬ (false = true) by decide)
   have H' := aM H
   clear H
   have hnb30 := NB195_196.out
   have hnc30 := NB196_195.out
   have hnb31 := NB195_197.out
   have hnc31 := NB197_195.out
   have hcz32 := cA11 BK195.out
   go_wp2_with (first | ((with_reducible refine gC (f := 29) rfl ?_); refine gL (some 8) Try.func29 #[.agg #[.bool false, .bool a0_1, .int .i64 a0_2, .int .i64 a0_3, .int .i64 a0_4, .int .i64 a0_5, .int .i64 a0_6, .int .i64 a0_7, .int .i64 a0_8, .int .i64 a0_9, .bool a0_10]] ?_; (with_reducible refine (spec_PortOk.calls k false a0_1 a0_2 a0_3 a0_4 a0_5 a0_6 a0_7 a0_8 a0_9 a0_10 true _ A8.out).mono ?_); rintro e w33 ⟨rfl, hb⟩; refine ⟨_, rfl, ?_⟩; replace BK195 := aM (bB (bk BK195.out) hb); replace BK196 := aM (bB (bk BK196.out) hb); replace BK197 := aM (bB (bk BK197.out) hb); replace HB := aM (bS (bl HB.out) hb); (try clear hb); have hcz34 := cA11 BK195.out))
   go_meet
   case rel => exact ⟨_, (true), xE, H', ⟨by first | omega | exact Nat.le_refl _⟩, ⟨by (with_reducible repeat (first | refine blk_drewN ?_ _ | refine blk_drew ?_ | refine blk_alloc ?_ _)); exact BK195.out⟩, ⟨by (with_reducible repeat (first | refine blk_drewN ?_ _ | refine blk_drew ?_ | refine blk_alloc ?_ _)); exact BK196.out⟩, ⟨by (with_reducible repeat (first | refine blk_drewN ?_ _ | refine blk_drew ?_ | refine blk_alloc ?_ _)); exact BK197.out⟩, ⟨bl HB.out⟩⟩
  subst c10
  replace H := hP H rfl
  obtain ⟨t199, A110, H⟩ := hB H
  have A11 := aM A110
  clear A110
  by_cases c12 : t199 = true
  case neg =>
   replace c12 := Bool.eq_false_iff.mpr c12
   subst c12
   replace H := hN H (show ¬ (false = true) by decide)
   have H' := aM H
   clear H
   have hnb22 := NB195_196.out
   have hnc22 := NB196_195.out
   have hnb23 := NB195_197.out
   have hnc23 := NB197_195.out
   have hcz24 := cA11 BK195.out
   go_wp2_with (first | ((with_reducible refine gC (f := 29) rfl ?_); refine gL (some 8) Try.func29 #[.agg #[.bool true, .bool a0_1, .int .i64 a0_2, .int .i64 a0_3, .int .i64 a0_4, .int .i64 a0_5, .int .i64 a0_6, .int .i64 a0_7, .int .i64 a0_8, .int .i64 a0_9, .bool a0_10]] ?_; (with_reducible refine (spec_PortOk.calls k true a0_1 a0_2 a0_3 a0_4 a0_5 a0_6 a0_7 a0_8 a0_9 a0_10 true _ A8.out).mono ?_); rintro e w25 ⟨rfl, hb⟩; refine ⟨_, rfl, ?_⟩; replace BK195 := aM (bB (bk BK195.out) hb); replace BK196 := aM (bB (bk BK196.out) hb); replace BK197 := aM (bB (bk BK197.out) hb); replace HB := aM (bS (bl HB.out) hb); (try clear hb); have hcz26 := cA11 BK195.out; have hnb27 := NB196_197.out; have hnc27 := NB197_196.out; have hcz28 := cA4 BK196.out) | (go_at_call 66; (with_reducible refine (spec_VecOk.calls a1_0 a1_1 a1_2 a1_3 false _ A11.out).mono ?_); rintro e w29 ⟨rfl, hb⟩; replace BK195 := aM (bB (bk BK195.out) hb); replace BK196 := aM (bB (bk BK196.out) hb); replace BK197 := aM (bB (bk BK197.out) hb); replace HB := aM (bS (bl HB.out) hb); (try clear hb)))
   go_meet
   case rel => exact ⟨_, (true), xE, H', ⟨by first | omega | exact Nat.le_refl _⟩, ⟨by (with_reducible repeat (first | refine blk_drewN ?_ _ | refine blk_drew ?_ | refine blk_alloc ?_ _)); exact BK195.out⟩, ⟨by (with_reducible repeat (first | refine blk_drewN ?_ _ | refine blk_drew ?_ | refine blk_alloc ?_ _)); exact BK196.out⟩, ⟨by (with_reducible repeat (first | refine blk_drewN ?_ _ | refine blk_drew ?_ | refine blk_alloc ?_ _)); exact BK197.out⟩, ⟨bl HB.out⟩⟩
  subst c12
  replace H := hP H rfl
  obtain ⟨t200, A130, H⟩ := hB H
  have A13 := aM A130
  clear A130
  have H' := aM H
  clear H
  have hnb14 := NB195_196.out
  have hnc14 := NB196_195.out
  have hnb15 := NB195_197.out
  have hnc15 := NB197_195.out
  have hcz16 := cA11 BK195.out
  go_wp2_with (first | ((with_reducible refine gC (f := 29) rfl ?_); refine gL (some 8) Try.func29 #[.agg #[.bool true, .bool a0_1, .int .i64 a0_2, .int .i64 a0_3, .int .i64 a0_4, .int .i64 a0_5, .int .i64 a0_6, .int .i64 a0_7, .int .i64 a0_8, .int .i64 a0_9, .bool a0_10]] ?_; (with_reducible refine (spec_PortOk.calls k true a0_1 a0_2 a0_3 a0_4 a0_5 a0_6 a0_7 a0_8 a0_9 a0_10 true _ A8.out).mono ?_); rintro e w17 ⟨rfl, hb⟩; refine ⟨_, rfl, ?_⟩; replace BK195 := aM (bB (bk BK195.out) hb); replace BK196 := aM (bB (bk BK196.out) hb); replace BK197 := aM (bB (bk BK197.out) hb); replace HB := aM (bS (bl HB.out) hb); (try clear hb); have hcz18 := cA11 BK195.out; have hnb19 := NB196_197.out; have hnc19 := NB197_196.out; have hcz20 := cA4 BK196.out) | (go_at_call 66; (with_reducible refine (spec_VecOk.calls a1_0 a1_1 a1_2 a1_3 true _ A11.out).mono ?_); rintro e w21 ⟨rfl, hb⟩; replace BK195 := aM (bB (bk BK195.out) hb); replace BK196 := aM (bB (bk BK196.out) hb); replace BK197 := aM (bB (bk BK197.out) hb); replace HB := aM (bS (bl HB.out) hb); (try clear hb)) | (go_at_call 57; (with_reducible refine (spec_l1In.calls a2 0 8 t200 _ A13.out).mono ?_); rintro e w' ⟨rfl, ⟨nd, rfl⟩⟩))
  go_meet
  case rel => exact ⟨_, (!t200), xE, H', ⟨by first | omega | exact Nat.le_refl _⟩, ⟨by (with_reducible repeat (first | refine blk_drewN ?_ _ | refine blk_drew ?_ | refine blk_alloc ?_ _)); exact BK195.out⟩, ⟨by (with_reducible repeat (first | refine blk_drewN ?_ _ | refine blk_drew ?_ | refine blk_alloc ?_ _)); exact BK196.out⟩, ⟨by (with_reducible repeat (first | refine blk_drewN ?_ _ | refine blk_drew ?_ | refine blk_alloc ?_ _)); exact BK197.out⟩, ⟨bl HB.out⟩⟩
 case rest =>
  clear HC4
  try clear c1
  try clear c2
  try clear p2
  try clear c3
  try clear c9
  try clear c10
  try clear c12
  try clear c14
  try clear c15
  try clear c19
  try clear c22
  try clear c23
  try clear c25
  try clear c27
  try clear c29
  try clear c30
  try clear c31
  try clear c35
  try clear c36
  try clear hcz16
  try clear hcz16_1
  try clear hcz16_10
  try clear hcz16_2
  try clear hcz16_3
  try clear hcz16_4
  try clear hcz16_5
  try clear hcz16_6
  try clear hcz16_7
  try clear hcz16_8
  try clear hcz16_9
  try clear hcz18
  try clear hcz20
  try clear hcz24
  try clear hcz24_1
  try clear hcz24_10
  try clear hcz24_2
  try clear hcz24_3
  try clear hcz24_4
  try clear hcz24_5
  try clear hcz24_6
  try clear hcz24_7
  try clear hcz24_8
  try clear hcz24_9
  try clear hcz26
  try clear hcz28
  try clear hcz32
  try clear hcz32_1
  try clear hcz32_10
  try clear hcz32_2
  try clear hcz32_3
  try clear hcz32_4
  try clear hcz32_5
  try clear hcz32_6
  try clear hcz32_7
  try clear hcz32_8
  try clear hcz32_9
  try clear hcz34
  try clear hcz37
  try clear hcz37_1
  try clear hcz37_10
  try clear hcz37_2
  try clear hcz37_3
  try clear hcz37_4
  try clear hcz37_5
  try clear hcz37_6
  try clear hcz37_7
  try clear hcz37_8
  try clear hcz37_9
  try clear hfz16_0
  try clear hfz16_1
  try clear hfz16_10
  try clear hfz16_2
  try clear hfz16_3
  try clear hfz16_4
  try clear hfz16_5
  try clear hfz16_6
  try clear hfz16_7
  try clear hfz16_8
  try clear hfz16_9
  try clear hfz24_0
  try clear hfz24_1
  try clear hfz24_10
  try clear hfz24_2
  try clear hfz24_3
  try clear hfz24_4
  try clear hfz24_5
  try clear hfz24_6
  try clear hfz24_7
  try clear hfz24_8
  try clear hfz24_9
  try clear hfz32_0
  try clear hfz32_1
  try clear hfz32_10
  try clear hfz32_2
  try clear hfz32_3
  try clear hfz32_4
  try clear hfz32_5
  try clear hfz32_6
  try clear hfz32_7
  try clear hfz32_8
  try clear hfz32_9
  try clear hfz37_0
  try clear hfz37_1
  try clear hfz37_10
  try clear hfz37_2
  try clear hfz37_3
  try clear hfz37_4
  try clear hfz37_5
  try clear hfz37_6
  try clear hfz37_7
  try clear hfz37_8
  try clear hfz37_9
  obtain ⟨kq, x24_3, rfl, HA, HJ3, BK195, BK196, BK197, HB⟩ := hcut
  cases kq with
  | zero => exact absurd HA.out (by simp [spec_Claim.j0])
  | succ kj3 =>
   have H := HA.out
   clear HA
   simp only [spec_Claim.j0] at H
   by_cases c39 : x24_3 = true
   case pos =>
    subst c39
    replace H := hP H rfl
    simp only [Option.some.injEq, Prod.mk.injEq] at H
    obtain ⟨rfl, rfl, rfl, rfl, rfl, rfl, rfl, rfl, rfl, rfl, rfl⟩ := H
    have hnb40 := NB195_196.out
    have hnc40 := NB196_195.out
    have hnb41 := NB195_197.out
    have hnc41 := NB197_195.out
    have hcz42 := cA11 BK195.out
    have hnb43 := NB197_196.out
    have hnc43 := NB196_197.out
    have hcz44 := cA11 BK197.out
    go_wp2
    refine bodyPost_ret (results_cell_row rfl _ _ gb197 38 #[.bool a0_0, .bool a0_1, .int .i64 a0_2, .int .i64 a0_3, .int .i64 a0_4, .int .i64 a0_5, .int .i64 a0_6, .int .i64 a0_7, .int .i64 a0_8, .int .i64 a0_9, .bool a0_10] (0, 0) _ rfl (bm BK197.out) Try.underlying38 rfl (by kernel_rfl)) rfl ?_
    exact ⟨xW, bl HB.out⟩
   replace c39 := Bool.eq_false_iff.mpr c39
   subst c39
   replace H := hN H (show ¬ (false = true) by decide)
   by_cases c45 : a0_1 = true
   case neg =>
    replace c45 := Bool.eq_false_iff.mpr c45
    subst c45
    replace H := hN H (show ¬ (false = true) by decide)
    simp only [Option.some.injEq, Prod.mk.injEq] at H
    obtain ⟨rfl, rfl, rfl, rfl, rfl, rfl, rfl, rfl, rfl, rfl, rfl⟩ := H
    have hnb86 := NB195_196.out
    have hnc86 := NB196_195.out
    have hnb87 := NB195_197.out
    have hnc87 := NB197_195.out
    have hcz88 := cA11 BK195.out
    have hnb89 := NB196_197.out
    have hnc89 := NB197_196.out
    have hcz90 := cA4 BK196.out
    have hcz91 := cA11 BK197.out
    go_wp2
    refine bodyPost_ret (results_cell_row rfl _ _ gb197 38 #[.bool a0_0, .bool true, .int .i64 a1_0, .int .i64 a1_1, .int .i64 a1_2, .int .i64 a1_3, .int .i64 a2, .int .i64 3, .int .i64 a0_8, .int .i64 a0_9, .bool a0_10] (0, 0) _ rfl (bm BK197.out) Try.underlying38 rfl (by kernel_rfl)) rfl ?_
    exact ⟨xW, bl HB.out⟩
   subst c45
   replace H := hP H rfl
   obtain ⟨t201, A460, H⟩ := hB H
   have A46 := aM A460
   clear A460
   by_cases c47 : t201 = true
   case neg =>
    replace c47 := Bool.eq_false_iff.mpr c47
    subst c47
    replace H := hN H (show ¬ (false = true) by decide)
    simp only [Option.some.injEq, Prod.mk.injEq] at H
    obtain ⟨rfl, rfl, rfl, rfl, rfl, rfl, rfl, rfl, rfl, rfl, rfl⟩ := H
    have hnb77 := NB195_196.out
    have hnc77 := NB196_195.out
    have hnb78 := NB195_197.out
    have hnc78 := NB197_195.out
    have hcz79 := cA11 BK195.out
    have hnb80 := NB196_197.out
    have hnc80 := NB197_196.out
    have hcz81 := cA4 BK196.out
    go_wp2_with (first | (go_at_call 67; (with_reducible refine (spec_Better.calls a0_2 a0_3 a0_4 a0_5 a1_0 a1_1 a1_2 a1_3 false _ A46.out).mono ?_); rintro e w82 ⟨rfl, hb⟩; replace BK195 := aM (bB (bk BK195.out) hb); replace BK196 := aM (bB (bk BK196.out) hb); replace BK197 := aM (bB (bk BK197.out) hb); replace HB := aM (bS (bl HB.out) hb); (try clear hb); have hcz83 := cA11 BK195.out; have hcz84 := cA4 BK196.out; have hcz85 := cA11 BK197.out))
    refine bodyPost_ret (results_cell_row rfl _ _ gb197 38 #[.bool a0_0, .bool true, .int .i64 a1_0, .int .i64 a1_1, .int .i64 a1_2, .int .i64 a1_3, .int .i64 a2, .int .i64 3, .int .i64 a0_8, .int .i64 a0_9, .bool a0_10] (0, 0) _ rfl (bm BK197.out) Try.underlying38 rfl (by kernel_rfl)) rfl ?_
    exact ⟨xW, bl HB.out⟩
   subst c47
   replace H := hP H rfl
   by_cases c48 : a0_4 = a1_2
   case neg =>
    rw [if_neg c48] at H
    have c48b0 : (a0_4 == a1_2) = false := beq_eq_false_iff_ne.mpr c48
    have c48b1 : (a0_4 != a1_2) = true := bne_iff_ne.mpr c48
    simp only [Option.some.injEq, Prod.mk.injEq] at H
    obtain ⟨rfl, rfl, rfl, rfl, rfl, rfl, rfl, rfl, rfl, rfl, rfl⟩ := H
    have hnb68 := NB195_196.out
    have hnc68 := NB196_195.out
    have hnb69 := NB195_197.out
    have hnc69 := NB197_195.out
    have hcz70 := cA11 BK195.out
    have hnb71 := NB196_197.out
    have hnc71 := NB197_196.out
    have hcz72 := cA4 BK196.out
    go_wp2_with (first | (go_at_call 67; (with_reducible refine (spec_Better.calls a0_2 a0_3 a0_4 a0_5 a1_0 a1_1 a1_2 a1_3 true _ A46.out).mono ?_); rintro e w73 ⟨rfl, hb⟩; replace BK195 := aM (bB (bk BK195.out) hb); replace BK196 := aM (bB (bk BK196.out) hb); replace BK197 := aM (bB (bk BK197.out) hb); replace HB := aM (bS (bl HB.out) hb); (try clear hb); have hcz74 := cA11 BK195.out; have hcz75 := cA4 BK196.out; have hcz76 := cA11 BK197.out))
    refine bodyPost_ret (results_cell_row rfl _ _ gb197 38 #[.bool a0_0, .bool true, .int .i64 a0_2, .int .i64 a0_3, .int .i64 a0_4, .int .i64 a0_5, .int .i64 a0_6, .int .i64 a0_7, .int .i64 a0_8, .int .i64 a0_9, .bool a0_10] (0, 0) _ rfl (bm BK197.out) Try.underlying38 rfl (by kernel_rfl)) rfl ?_
    exact ⟨xW, bl HB.out⟩
   rw [if_pos c48] at H
   have c48b0 : (a0_4 == a1_2) = true := beq_iff_eq.mpr c48
   have c48b1 : (a0_4 != a1_2) = false := bne_eq_false_iff_eq.mpr c48
   clear c48
   by_cases c49 : a0_5 = a1_3
   case neg =>
    rw [if_neg c49] at H
    have c49b0 : (a0_5 == a1_3) = false := beq_eq_false_iff_ne.mpr c49
    have c49b1 : (a0_5 != a1_3) = true := bne_iff_ne.mpr c49
    simp only [Option.some.injEq, Prod.mk.injEq] at H
    obtain ⟨rfl, rfl, rfl, rfl, rfl, rfl, rfl, rfl, rfl, rfl, rfl⟩ := H
    have hnb59 := NB195_196.out
    have hnc59 := NB196_195.out
    have hnb60 := NB195_197.out
    have hnc60 := NB197_195.out
    have hcz61 := cA11 BK195.out
    have hnb62 := NB196_197.out
    have hnc62 := NB197_196.out
    have hcz63 := cA4 BK196.out
    go_wp2_with (first | (go_at_call 67; (with_reducible refine (spec_Better.calls a0_2 a0_3 a0_4 a0_5 a1_0 a1_1 a1_2 a1_3 true _ A46.out).mono ?_); rintro e w64 ⟨rfl, hb⟩; replace BK195 := aM (bB (bk BK195.out) hb); replace BK196 := aM (bB (bk BK196.out) hb); replace BK197 := aM (bB (bk BK197.out) hb); replace HB := aM (bS (bl HB.out) hb); (try clear hb); have hcz65 := cA11 BK195.out; have hcz66 := cA4 BK196.out; have hcz67 := cA11 BK197.out))
    refine bodyPost_ret (results_cell_row rfl _ _ gb197 38 #[.bool a0_0, .bool true, .int .i64 a0_2, .int .i64 a0_3, .int .i64 a0_4, .int .i64 a0_5, .int .i64 a0_6, .int .i64 a0_7, .int .i64 a0_8, .int .i64 a0_9, .bool a0_10] (0, 0) _ rfl (bm BK197.out) Try.underlying38 rfl (by kernel_rfl)) rfl ?_
    exact ⟨xW, bl HB.out⟩
   rw [if_pos c49] at H
   have c49b0 : (a0_5 == a1_3) = true := beq_iff_eq.mpr c49
   have c49b1 : (a0_5 != a1_3) = false := bne_eq_false_iff_eq.mpr c49
   clear c49
   simp only [Option.some.injEq, Prod.mk.injEq] at H
   obtain ⟨rfl, rfl, rfl, rfl, rfl, rfl, rfl, rfl, rfl, rfl, rfl⟩ := H
   have hnb50 := NB195_196.out
   have hnc50 := NB196_195.out
   have hnb51 := NB195_197.out
   have hnc51 := NB197_195.out
   have hcz52 := cA11 BK195.out
   have hnb53 := NB196_197.out
   have hnc53 := NB197_196.out
   have hcz54 := cA4 BK196.out
   go_wp2_with (first | (go_at_call 67; (with_reducible refine (spec_Better.calls a0_2 a0_3 a0_4 a0_5 a1_0 a1_1 a1_2 a1_3 true _ A46.out).mono ?_); rintro e w55 ⟨rfl, hb⟩; replace BK195 := aM (bB (bk BK195.out) hb); replace BK196 := aM (bB (bk BK196.out) hb); replace BK197 := aM (bB (bk BK197.out) hb); replace HB := aM (bS (bl HB.out) hb); (try clear hb); have hcz56 := cA11 BK195.out; have hcz57 := cA4 BK196.out; have hcz58 := cA11 BK197.out))
   refine bodyPost_ret (results_cell_row rfl _ _ gb197 38 #[.bool a0_0, .bool true, .int .i64 a1_0, .int .i64 a1_1, .int .i64 a1_2, .int .i64 a1_3, .int .i64 a2, .int .i64 3, .int .i64 a0_8, .int .i64 a0_9, .bool a0_10] (0, 0) _ rfl (bm BK197.out) Try.underlying38 rfl (by kernel_rfl)) rfl ?_
   exact ⟨xW, bl HB.out⟩

end Go.Proofs.Ytaoipjdmmamkmaa.PFnPorts

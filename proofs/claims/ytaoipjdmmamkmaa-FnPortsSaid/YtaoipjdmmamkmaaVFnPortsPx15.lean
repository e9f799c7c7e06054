/- Of the proof of laws.FnPorts: a part. No condition beyond what its theorems say. -/
import Derived.Test.YtaoipjdmmamkmaaVFnPortsWTight
import Derived.Test.YtaoipjdmmamkmaaVFnPortsPx0
import Derived.Test.YtaoipjdmmamkmaaVFnPortsPx2
import Derived.Test.YtaoipjdmmamkmaaVFnPortsPx9
import Derived.Test.YtaoipjdmmamkmaaVFnPortsPx12
namespace Go.Proofs.Ytaoipjdmmamkmaa.PFnPorts
open Go.RowKit Go.Proofs.YtaoipjdmmamkmaaW.PrintWords Go.Proofs.YtaoipjdmmamkmaaW.PrintLast Go.Proofs.YtaoipjdmmamkmaaW.PrintMore
attribute [local go_sem] max2_int min2_int max_two min_two max_three min_three max_four min_four   -- for this text's walks alone
set_option linter.unusedVariables false
set_option linter.unusedSimpArgs false

def spec_DrawFade.f (k : Nat) (l0 : List Int) : Option (Bool × Bool × Int × Int × Int × Int × Int × Int × Int × Int × Bool) := (spec_l1New.f k l0).bind fun bt513 => ((spec_l7Draw.f k bt513.1 bt513.2.1 bt513.2.2).bind fun bt517 => (some (bt517.1, bt517.2.1, bt517.2.2.1, bt517.2.2.2.1, bt517.2.2.2.2.1, bt517.2.2.2.2.2.1, bt517.2.2.2.2.2.2.1, bt517.2.2.2.2.2.2.2.1, bt517.2.2.2.2.2.2.2.2.1, bt517.2.2.2.2.2.2.2.2.2.1, bt517.2.2.2.2.2.2.2.2.2.2.1)))
theorem spec_DrawFade.mono : ∀ a0 k, LeO (spec_DrawFade.f k a0) (spec_DrawFade.f (k + 1) a0) := by
 intro a0 k
 unfold spec_DrawFade.f
 repeat' first
   | (with_reducible exact spec_l1New.mono _ _)
   | (with_reducible exact spec_l7Draw.mono _ _ _ _)
   | (with_reducible exact LeO.refl _)
   | (with_reducible exact LeO.none _)
   | (with_reducible refine LeO.ite ?_ ?_)
   | (with_reducible refine LeO.bind ?_ (fun _ => ?_))
   | exact spec_l1New.mono _ _
   | exact spec_l7Draw.mono _ _ _ _
   | exact LeO.none _
   | refine LeO.ite ?_ ?_
   | refine LeO.bind ?_ (fun _ => ?_)
set_option maxHeartbeats 60000000 in
set_option maxRecDepth 100000 in
theorem spec_DrawFade.calls (k : Nat) (A0 : Option Addr) (c0 : Nat) (l0 : List Int) (r1 : Bool) (r2 : Bool) (r3 : Int) (r4 : Int) (r5 : Int) (r6 : Int) (r7 : Int) (r8 : Int) (r9 : Int) (r10 : Int) (r11 : Bool) (w : World) (hr0 : Kd.C (Kd.int .u8) w A0 l0.length l0) (hc0 : l0.length ≤ c0) (h : spec_DrawFade.f k l0 = some (r1, r2, r3, r4, r5, r6, r7, r8, r9, r10, r11)) :
  Calls Try.prog 20 #[.slice A0 l0.length c0] w fun e w' => e = .returned (.agg #[.bool r1, .bool r2, .int .i64 r3, .int .i64 r4, .int .i64 r5, .int .i64 r6, .int .i64 r7, .int .i64 r8, .int .i64 r9, .int .i64 r10, .bool r11]) ∧ Below w.heap.size w w' := by
 have hu38 := Try.underlying38
 have HR0 := aM hr0
 have HC0 := aM hc0
 clear hr0 hc0
 have HB := aM (Below.refl w.heap.size w)
 have H : ((spec_l1New.f k l0).bind fun bt513 => ((spec_l7Draw.f k bt513.1 bt513.2.1 bt513.2.2).bind fun bt517 => (some (bt517.1, bt517.2.1, bt517.2.2.1, bt517.2.2.2.1, bt517.2.2.2.2.1, bt517.2.2.2.2.2.1, bt517.2.2.2.2.2.2.1, bt517.2.2.2.2.2.2.2.1, bt517.2.2.2.2.2.2.2.2.1, bt517.2.2.2.2.2.2.2.2.2.1, bt517.2.2.2.2.2.2.2.2.2.2.1)))) = some (r1, r2, r3, r4, r5, r6, r7, r8, r9, r10, r11) := h
 clear h
 obtain ⟨⟨t513, t514, t515⟩, A20, H⟩ := hB H
 try dsimp only at H
 have A2 := aM A20
 clear A20
 obtain ⟨⟨t517, t518, t519, t520, t521, t522, t523, t524, t525, t526, t527, t528, t529⟩, A30, H⟩ := hB H
 try dsimp only at H
 have A3 := aM A30
 clear A30
 simp only [Option.some.injEq, Prod.mk.injEq] at H
 obtain ⟨rfl, rfl, rfl, rfl, rfl, rfl, rfl, rfl, rfl, rfl, rfl⟩ := H
 go_enter Try.func20, Try.ntmps20
 go_wp2_with (first | ((with_reducible refine gD (N := 2) rfl ?_); refine bE (N := 2) (cs := #[.bool false, .bool false, .int .i64 0, .int .i64 0, .int .i64 0, .int .i64 0, .int .i64 0, .int .i64 0, .int .i64 0, .int .i64 0, .bool false]) (t := 38) ?_; intro gb512 hg w4 hbox hb; have BK512 := aM (hbox); have GW512 := gE hg (below_size (bl HB.out)); have GE512 := gE hg (below_size (bl HB.out)); replace HB := aM (bS (bl HB.out) hb); clear hb hbox hg) | ((with_reducible refine gC (f := 40) rfl ?_); refine gL (some 4) Try.func40 #[.slice A0 l0.length c0] ?_; (with_reducible refine (spec_l1New.calls k _ _ l0 t513 t514 t515 w _ ?side1 ?side2 ?side3 A2.out).mono ?_); (case side1 => exact bl HB.out); (case side2 => exact HR0.out); (case side3 => exact HC0.out); rintro e w5 ⟨g516, rfl, hi, hb, hb2⟩; refine ⟨_, rfl, ?_⟩; have HI516 := aM (hi); have NB516_512 := aM (IsS91.ne_blk hi (bB (bk BK512.out) hb2) (by decide)); have NB512_516 := aM (Ne.symm (IsS91.ne_blk hi (bB (bk BK512.out) hb2) (by decide))); replace BK512 := aM (bB (bk BK512.out) hb2); replace HB := aM (hb); (try clear hb); (try clear hb2); (try clear hi)) | ((with_reducible refine gC (f := 58) rfl ?_); refine gL (some 5) Try.func58 #[.pointer (some ⟨g516, 0, none⟩)] ?_; (with_reducible refine (spec_l7Draw.calls k g516 t513 t514 t515 t517 t518 t519 t520 t521 t522 t523 t524 t525 t526 t527 t528 t529 w _ ?side1 ?side2 A3.out).mono ?_); (case side1 => exact IsS91.mv HI516.out); (case side2 => exact IsS91.bl HB.out); rintro e w6 ⟨rfl, hi, hb, hk⟩; refine ⟨_, rfl, ?_⟩; replace BK512 := aM (KeepBut.blk hk (bk BK512.out) NB512_516.out (by simp)); replace HB := aM (hb); replace HI516 := aM (hi); (try clear hb); (try clear hk); (try clear hi); have hnb7 := NB512_516.out; have hnc7 := NB516_512.out; have hcz8 := cA11 BK512.out))
 refine bodyPost_ret (results_cell_row rfl _ _ gb512 38 #[.bool t517, .bool t518, .int .i64 t519, .int .i64 t520, .int .i64 t521, .int .i64 t522, .int .i64 t523, .int .i64 t524, .int .i64 t525, .int .i64 t526, .bool t527] (0, 0) _ rfl (bm BK512.out) Try.underlying38 rfl (by kernel_rfl)) rfl ?_
 exact ⟨xW, IsS91.bl HB.out⟩

def impl_Fade.j0 : Nat → Bool → Bool → Bool → Int → Int → Int → Int → Int → Int → Int → Int → Bool → Option (Bool × Bool × Int × Int × Int × Int × Int × Int × Int × Int × Bool)
 | 0, _, _, _, _, _, _, _, _, _, _, _, _ => none
 | k + 1, x10, x531000, x531001, x531002, x531003, x531004, x531005, x531006, x531007, x531008, x531009, x531010 => if x10 = true then (some (x531000, x531001, x531002, x531003, x531004, x531005, x531006, x531007, x531008, x531009, x531010)) else (if (wrap64 (x531007 - 1)) = 0 then (some (x531000, false, 0, 0, 0, 0, 0, wrap64 (x531007 - 1), x531008, x531009, x531010)) else (some (x531000, x531001, x531002, x531003, x531004, x531005, x531006, wrap64 (x531007 - 1), x531008, x531009, x531010)))
def impl_Fade.f (k : Nat) (a0_0 : Bool) (a0_1 : Bool) (a0_2 : Int) (a0_3 : Int) (a0_4 : Int) (a0_5 : Int) (a0_6 : Int) (a0_7 : Int) (a0_8 : Int) (a0_9 : Int) (a0_10 : Bool) : Option (Bool × Bool × Int × Int × Int × Int × Int × Int × Int × Int × Bool) := if a0_1 = true then ((impl_PortOk.f k a0_0 a0_1 a0_2 a0_3 a0_4 a0_5 a0_6 a0_7 a0_8 a0_9 a0_10).bind fun t532 => (impl_Fade.j0 k (!t532) a0_0 a0_1 a0_2 a0_3 a0_4 a0_5 a0_6 a0_7 a0_8 a0_9 a0_10)) else (impl_Fade.j0 k true a0_0 a0_1 a0_2 a0_3 a0_4 a0_5 a0_6 a0_7 a0_8 a0_9 a0_10)
theorem impl_Fade.mono_l : ∀ k, (∀ y0 y1 y2 y3 y4 y5 y6 y7 y8 y9 y10 y11, LeO (impl_Fade.j0 k y0 y1 y2 y3 y4 y5 y6 y7 y8 y9 y10 y11) (impl_Fade.j0 (k + 1) y0 y1 y2 y3 y4 y5 y6 y7 y8 y9 y10 y11))
 | 0 => fun _ _ _ _ _ _ _ _ _ _ _ _ r h => by simp [impl_Fade.j0] at h
 | k + 1 => by
  have ih0 := impl_Fade.mono_l k
  ·intro y0 y1 y2 y3 y4 y5 y6 y7 y8 y9 y10 y11
   unfold impl_Fade.j0
   repeat' first
   | (with_reducible exact ih0 _ _ _ _ _ _ _ _ _ _ _ _)
   | (with_reducible exact impl_PortOk.mono _ _ _ _ _ _ _ _ _ _ _ _)
   | (with_reducible exact LeO.refl _)
   | (with_reducible exact LeO.none _)
   | (with_reducible refine LeO.ite ?_ ?_)
   | (with_reducible refine LeO.bind ?_ (fun _ => ?_))
   | exact ih0 _ _ _ _ _ _ _ _ _ _ _ _
   | exact impl_PortOk.mono _ _ _ _ _ _ _ _ _ _ _ _
   | exact LeO.none _
   | refine LeO.ite ?_ ?_
   | refine LeO.bind ?_ (fun _ => ?_)
theorem impl_Fade.mono : ∀ a0 a1 a2 a3 a4 a5 a6 a7 a8 a9 a10 k, LeO (impl_Fade.f k a0 a1 a2 a3 a4 a5 a6 a7 a8 a9 a10) (impl_Fade.f (k + 1) a0 a1 a2 a3 a4 a5 a6 a7 a8 a9 a10) := by
 intro a0 a1 a2 a3 a4 a5 a6 a7 a8 a9 a10 k
 have ih0 := impl_Fade.mono_l k
 unfold impl_Fade.f
 repeat' first
   | (with_reducible exact ih0 _ _ _ _ _ _ _ _ _ _ _ _)
   | (with_reducible exact impl_PortOk.mono _ _ _ _ _ _ _ _ _ _ _ _)
   | (with_reducible exact LeO.refl _)
   | (with_reducible exact LeO.none _)
   | (with_reducible refine LeO.ite ?_ ?_)
   | (with_reducible refine LeO.bind ?_ (fun _ => ?_))
   | exact ih0 _ _ _ _ _ _ _ _ _ _ _ _
   | exact impl_PortOk.mono _ _ _ _ _ _ _ _ _ _ _ _
   | exact LeO.none _
   | refine LeO.ite ?_ ?_
   | refine LeO.bind ?_ (fun _ => ?_)
set_option maxHeartbeats 60000000 in
set_option maxRecDepth 100000 in
theorem impl_Fade.calls (k : Nat) (a0_0 : Bool) (a0_1 : Bool) (a0_2 : Int) (a0_3 : Int) (a0_4 : Int) (a0_5 : Int) (a0_6 : Int) (a0_7 : Int) (a0_8 : Int) (a0_9 : Int) (a0_10 : Bool) (r1 : Bool) (r2 : Bool) (r3 : Int) (r4 : Int) (r5 : Int) (r6 : Int) (r7 : Int) (r8 : Int) (r9 : Int) (r10 : Int) (r11 : Bool) (w : World) (h : impl_Fade.f k a0_0 a0_1 a0_2 a0_3 a0_4 a0_5 a0_6 a0_7 a0_8 a0_9 a0_10 = some (r1, r2, r3, r4, r5, r6, r7, r8, r9, r10, r11)) :
  Calls Try.prog 21 #[.agg #[.bool a0_0, .bool a0_1, .int .i64 a0_2, .int .i64 a0_3, .int .i64 a0_4, .int .i64 a0_5, .int .i64 a0_6, .int .i64 a0_7, .int .i64 a0_8, .int .i64 a0_9, .bool a0_10]] w fun e w' => e = .returned (.agg #[.bool r1, .bool r2, .int .i64 r3, .int .i64 r4, .int .i64 r5, .int .i64 r6, .int .i64 r7, .int .i64 r8, .int .i64 r9, .int .i64 r10, .bool r11]) ∧ Below w.heap.size w w' := by
 have hu38 := Try.underlying38
 have hu36 := Try.underlying36
 have HB := aM (Below.refl w.heap.size w)
 have H : (if a0_1 = true then ((impl_PortOk.f k a0_0 a0_1 a0_2 a0_3 a0_4 a0_5 a0_6 a0_7 a0_8 a0_9 a0_10).bind fun t532 => (impl_Fade.j0 k (!t532) a0_0 a0_1 a0_2 a0_3 a0_4 a0_5 a0_6 a0_7 a0_8 a0_9 a0_10)) else (impl_Fade.j0 k true a0_0 a0_1 a0_2 a0_3 a0_4 a0_5 a0_6 a0_7 a0_8 a0_9 a0_10)) = some (r1, r2, r3, r4, r5, r6, r7, r8, r9, r10, r11) := h
 clear h
 have HC2 := aM H
 clear H
 go_enter Try.func21, Try.ntmps21
 go_upto_region 1 with (first | ((with_reducible refine gD (N := 1) rfl ?_); refine bE (N := 1) (cs := #[.bool a0_0, .bool a0_1, .int .i64 a0_2, .int .i64 a0_3, .int .i64 a0_4, .int .i64 a0_5, .int .i64 a0_6, .int .i64 a0_7, .int .i64 a0_8, .int .i64 a0_9, .bool a0_10]) (t := 38) ?_; intro gb530 hg w3 hbox hb; have BK530 := aM (hbox); have GW530 := gE hg (below_size (bl HB.out)); have GE530 := gE hg (below_size (bl HB.out)); replace HB := aM (bS (bl HB.out) hb); clear hb hbox hg) | ((with_reducible refine gD (N := 2) rfl ?_); refine bE (N := 2) (cs := #[.bool false, .bool false, .int .i64 0, .int .i64 0, .int .i64 0, .int .i64 0, .int .i64 0, .int .i64 0, .int .i64 0, .int .i64 0, .bool false]) (t := 38) ?_; intro gb531 hg w4 hbox hb; have BK531 := aM (hbox); have GW531 := gE hg (below_size (bl HB.out)); have GE531 := gE hg (below_size (bl HB.out)); have NB530_531 := nL hg (blk_lt (bk BK530.out)); have NB531_530 := nG hg (blk_lt (bk BK530.out)); replace BK530 := aM (bB (bk BK530.out) hb); replace HB := aM (bS (bl HB.out) hb); clear hb hbox hg))
 (try simp only [Act.put, sA, sZ, sS])
 go_cut [10] (fun v10 wc => ∃ (kq : Nat) (x10_1 : Bool), v10 = .bool x10_1 ∧ Aside0 (impl_Fade.j0 kq x10_1 a0_0 a0_1 a0_2 a0_3 a0_4 a0_5 a0_6 a0_7 a0_8 a0_9 a0_10 = some (r1, r2, r3, r4, r5, r6, r7, r8, r9, r10, r11)) ∧ Aside0 (kq ≤ k) ∧ Aside0 (wc.heap[gb530]? = some (.cells #[.bool a0_0, .bool a0_1, .int .i64 a0_2, .int .i64 a0_3, .int .i64 a0_4, .int .i64 a0_5, .int .i64 a0_6, .int .i64 a0_7, .int .i64 a0_8, .int .i64 a0_9, .bool a0_10] 38 (0, 0))) ∧ Aside0 (wc.heap[gb531]? = some (.cells #[.bool false, .bool false, .int .i64 0, .int .i64 0, .int .i64 0, .int .i64 0, .int .i64 0, .int .i64 0, .int .i64 0, .int .i64 0, .bool false] 38 (0, 0))) ∧ Aside0 (Below w.heap.size w wc))
 case first =>
  have H := HC2.out
  clear HC2
  by_cases c5 : a0_1 = true
  case neg =>
   replace c5 := Bool.eq_false_iff.mpr c5
   subst c5
   replace H := hN H (show ¬ (false = true) by decide)
   have H' := aM H
   clear H
   have hnb10 := NB530_531.out
   have hnc10 := NB531_530.out
   have hcz11 := cA11 BK530.out
   go_wp2
   go_meet
   case rel => exact ⟨_, (true), xE, H', ⟨by first | omega | exact Nat.le_refl _⟩, ⟨by (with_reducible repeat (first | refine blk_drewN ?_ _ | refine blk_drew ?_ | refine blk_alloc ?_ _)); exact BK530.out⟩, ⟨by (with_reducible repeat (first | refine blk_drewN ?_ _ | refine blk_drew ?_ | refine blk_alloc ?_ _)); exact BK531.out⟩, ⟨bl HB.out⟩⟩
  subst c5
  replace H := hP H rfl
  obtain ⟨t532, A60, H⟩ := hB H
  have A6 := aM A60
  clear A60
  have H' := aM H
  clear H
  have hnb7 := NB530_531.out
  have hnc7 := NB531_530.out
  have hcz8 := cA11 BK530.out
  go_wp2_with (first | (go_at_call 28; (with_reducible refine (impl_PortOk.calls k a0_0 true a0_2 a0_3 a0_4 a0_5 a0_6 a0_7 a0_8 a0_9 a0_10 t532 _ A6.out).mono ?_); rintro e w9 ⟨rfl, hb⟩; replace BK530 := aM (bB (bk BK530.out) hb); replace BK531 := aM (bB (bk BK531.out) hb); replace HB := aM (bS (bl HB.out) hb); (try clear hb)))
  go_meet
  case rel => exact ⟨_, (!t532), xE, H', ⟨by first | omega | exact Nat.le_refl _⟩, ⟨by (with_reducible repeat (first | refine blk_drewN ?_ _ | refine blk_drew ?_ | refine blk_alloc ?_ _)); exact BK530.out⟩, ⟨by (with_reducible repeat (first | refine blk_drewN ?_ _ | refine blk_drew ?_ | refine blk_alloc ?_ _)); exact BK531.out⟩, ⟨bl HB.out⟩⟩
 case rest =>
  clear HC2
  try clear c1
  try clear c2
  try clear p2
  try clear c5
  try clear c7
  try clear c10
  try clear hcz11
  try clear hcz11_1
  try clear hcz11_10
  try clear hcz11_2
  try clear hcz11_3
  try clear hcz11_4
  try clear hcz11_5
  try clear hcz11_6
  try clear hcz11_7
  try clear hcz11_8
  try clear hcz11_9
  try clear hcz8
  try clear hcz8_1
  try clear hcz8_10
  try clear hcz8_2
  try clear hcz8_3
  try clear hcz8_4
  try clear hcz8_5
  try clear hcz8_6
  try clear hcz8_7
  try clear hcz8_8
  try clear hcz8_9
  try clear hfz11_0
  try clear hfz11_1
  try clear hfz11_10
  try clear hfz11_2
  try clear hfz11_3
  try clear hfz11_4
  try clear hfz11_5
  try clear hfz11_6
  try clear hfz11_7
  try clear hfz11_8
  try clear hfz11_9
  try clear hfz8_0
  try clear hfz8_1
  try clear hfz8_10
  try clear hfz8_2
  try clear hfz8_3
  try clear hfz8_4
  try clear hfz8_5
  try clear hfz8_6
  try clear hfz8_7
  try clear hfz8_8
  try clear hfz8_9
  obtain ⟨kq, x10_1, rfl, HA, HJ1, BK530, BK531, HB⟩ := hcut
  cases kq with
  | zero => exact absurd HA.out (by simp [impl_Fade.j0])
  | succ kj1 =>
   have H := HA.out
   clear HA
   simp only [impl_Fade.j0] at H
   by_cases c12 : x10_1 = true
   case pos =>
    subst c12
    replace H := hP H rfl
    simp only [Option.some.injEq, Prod.mk.injEq] at H
    obtain ⟨rfl, rfl, rfl, rfl, rfl, rfl, rfl, rfl, rfl, rfl, rfl⟩ := H
    have hnb13 := NB530_531.out
    have hnc13 := NB531_530.out
    have hcz14 := cA11 BK530.out
    have hcz15 := cA11 BK531.out
    go_wp2
    refine bodyPost_ret (results_cell_row rfl _ _ gb531 38 #[.bool a0_0, .bool a0_1, .int .i64 a0_2, .int .i64 a0_3, .int .i64 a0_4, .int .i64 a0_5, .int .i64 a0_6, .int .i64 a0_7, .int .i64 a0_8, .int .i64 a0_9, .bool a0_10] (0, 0) _ rfl (bm BK531.out) Try.underlying38 rfl (by kernel_rfl)) rfl ?_
    exact ⟨xW, bl HB.out⟩
   replace c12 := Bool.eq_false_iff.mpr c12
   subst c12
   replace H := hN H (show ¬ (false = true) by decide)
   by_cases c16 : (wrap64 (a0_7 - 1)) = 0
   case neg =>
    rw [if_neg c16] at H
    have c16b0 : ((wrap64 (a0_7 - 1)) == 0) = false := beq_eq_false_iff_ne.mpr c16
    have c16b1 : ((wrap64 (a0_7 - 1)) != 0) = true := bne_iff_ne.mpr c16
    simp only [Option.some.injEq, Prod.mk.injEq] at H
    obtain ⟨rfl, rfl, rfl, rfl, rfl, rfl, rfl, rfl, rfl, rfl, rfl⟩ := H
    have hnb20 := NB530_531.out
    have hnc20 := NB531_530.out
    have hcz21 := cA11 BK530.out
    have hcz22 := cA11 BK531.out
    go_wp2
    refine bodyPost_ret (results_cell_row rfl _ _ gb531 38 #[.bool a0_0, .bool a0_1, .int .i64 a0_2, .int .i64 a0_3, .int .i64 a0_4, .int .i64 a0_5, .int .i64 a0_6, .int .i64 (wrap64 (a0_7 - 1)), .int .i64 a0_8, .int .i64 a0_9, .bool a0_10] (0, 0) _ rfl (bm BK531.out) Try.underlying38 rfl (by kernel_rfl)) rfl ?_
    exact ⟨xW, bl HB.out⟩
   rw [if_pos c16] at H
   have c16b0 : ((wrap64 (a0_7 - 1)) == 0) = true := beq_iff_eq.mpr c16
   have c16b1 : ((wrap64 (a0_7 - 1)) != 0) = false := bne_eq_false_iff_eq.mpr c16
   clear c16
   simp only [Option.some.injEq, Prod.mk.injEq] at H
   obtain ⟨rfl, rfl, rfl, rfl, rfl, rfl, rfl, rfl, rfl, rfl, rfl⟩ := H
   have hnb17 := NB530_531.out
   have hnc17 := NB531_530.out
   have hcz18 := cA11 BK530.out
   have hcz19 := cA11 BK531.out
   go_wp2
   refine bodyPost_ret (results_cell_row rfl _ _ gb531 38 #[.bool a0_0, .bool false, .int .i64 0, .int .i64 0, .int .i64 0, .int .i64 0, .int .i64 0, .int .i64 (wrap64 (a0_7 - 1)), .int .i64 a0_8, .int .i64 a0_9, .bool a0_10] (0, 0) _ rfl (bm BK531.out) Try.underlying38 rfl (by kernel_rfl)) rfl ?_
   exact ⟨xW, bl HB.out⟩

def spec_DrawTurn.f (k : Nat) (l0 : List Int) : Option (Bool × Bool × Int × Int × Int × Int × Int × Int × Int × Int × Bool × Int) := (spec_l1New.f k l0).bind fun bt534 => ((spec_l7Draw.f k bt534.1 bt534.2.1 bt534.2.2).bind fun bt538 => ((spec_l1Below.f bt534.1 bt538.2.2.2.2.2.2.2.2.2.2.2.1 bt538.2.2.2.2.2.2.2.2.2.2.2.2 6).bind fun bt552 => (some (bt538.1, bt538.2.1, bt538.2.2.1, bt538.2.2.2.1, bt538.2.2.2.2.1, bt538.2.2.2.2.2.1, bt538.2.2.2.2.2.2.1, bt538.2.2.2.2.2.2.2.1, bt538.2.2.2.2.2.2.2.2.1, bt538.2.2.2.2.2.2.2.2.2.1, bt538.2.2.2.2.2.2.2.2.2.2.1, wrap64 (bt552.1 - 1)))))
theorem spec_DrawTurn.mono : ∀ a0 k, LeO (spec_DrawTurn.f k a0) (spec_DrawTurn.f (k + 1) a0) := by
 intro a0 k
 unfold spec_DrawTurn.f
 repeat' first
   | (with_reducible exact spec_l1New.mono _ _)
   | (with_reducible exact spec_l7Draw.mono _ _ _ _)
   | (with_reducible exact LeO.refl _)
   | (with_reducible exact LeO.none _)
   | (with_reducible refine LeO.ite ?_ ?_)
   | (with_reducible refine LeO.bind ?_ (fun _ => ?_))
   | exact spec_l1New.mono _ _
   | exact spec_l7Draw.mono _ _ _ _
   | exact LeO.none _
   | refine LeO.ite ?_ ?_
   | refine LeO.bind ?_ (fun _ => ?_)
set_option maxHeartbeats 60000000 in
set_option maxRecDepth 100000 in
theorem spec_DrawTurn.calls (k : Nat) (A0 : Option Addr) (c0 : Nat) (l0 : List Int) (r1 : Bool) (r2 : Bool) (r3 : Int) (r4 : Int) (r5 : Int) (r6 : Int) (r7 : Int) (r8 : Int) (r9 : Int) (r10 : Int) (r11 : Bool) (r12 : Int) (w : World) (hr0 : Kd.C (Kd.int .u8) w A0 l0.length l0) (hc0 : l0.length ≤ c0) (h : spec_DrawTurn.f k l0 = some (r1, r2, r3, r4, r5, r6, r7, r8, r9, r10, r11, r12)) :
  Calls Try.prog 22 #[.slice A0 l0.length c0] w fun e w' => e = .returned (.tuple #[.agg #[.bool r1, .bool r2, .int .i64 r3, .int .i64 r4, .int .i64 r5, .int .i64 r6, .int .i64 r7, .int .i64 r8, .int .i64 r9, .int .i64 r10, .bool r11], .int .i64 r12]) ∧ Below w.heap.size w w' := by
 have hu38 := Try.underlying38
 have HR0 := aM hr0
 have HC0 := aM hc0
 clear hr0 hc0
 have HB := aM (Below.refl w.heap.size w)
 have H : ((spec_l1New.f k l0).bind fun bt534 => ((spec_l7Draw.f k bt534.1 bt534.2.1 bt534.2.2).bind fun bt538 => ((spec_l1Below.f bt534.1 bt538.2.2.2.2.2.2.2.2.2.2.2.1 bt538.2.2.2.2.2.2.2.2.2.2.2.2 6).bind fun bt552 => (some (bt538.1, bt538.2.1, bt538.2.2.1, bt538.2.2.2.1, bt538.2.2.2.2.1, bt538.2.2.2.2.2.1, bt538.2.2.2.2.2.2.1, bt538.2.2.2.2.2.2.2.1, bt538.2.2.2.2.2.2.2.2.1, bt538.2.2.2.2.2.2.2.2.2.1, bt538.2.2.2.2.2.2.2.2.2.2.1, wrap64 (bt552.1 - 1)))))) = some (r1, r2, r3, r4, r5, r6, r7, r8, r9, r10, r11, r12) := h
 clear h
 obtain ⟨⟨t534, t535, t536⟩, A20, H⟩ := hB H
 try dsimp only at H
 have A2 := aM A20
 clear A20
 obtain ⟨⟨t538, t539, t540, t541, t542, t543, t544, t545, t546, t547, t548, t549, t550⟩, A30, H⟩ := hB H
 try dsimp only at H
 have A3 := aM A30
 clear A30
 obtain ⟨⟨t552, t553, t554⟩, A40, H⟩ := hB H
 try dsimp only at H
 have A4 := aM A40
 clear A40
 simp only [Option.some.injEq, Prod.mk.injEq] at H
 obtain ⟨rfl, rfl, rfl, rfl, rfl, rfl, rfl, rfl, rfl, rfl, rfl, rfl⟩ := H
 go_enter Try.func22, Try.ntmps22
 try go_wp2_with (first | ((with_reducible refine gD (N := 2) rfl ?_); refine bE (N := 2) (cs := #[.bool false, .bool false, .int .i64 0, .int .i64 0, .int .i64 0, .int .i64 0, .int .i64 0, .int .i64 0, .int .i64 0, .int .i64 0, .bool false]) (t := 38) ?_; intro gb533 hg w5 hbox hb; have BK533 := aM (hbox); have GW533 := gE hg (below_size (bl HB.out)); have GE533 := gE hg (below_size (bl HB.out)); replace HB := aM (bS (bl HB.out) hb); clear hb hbox hg) | ((with_reducible refine gC (f := 40) rfl ?_); refine gL (some 7) Try.func40 #[.slice A0 l0.length c0] ?_; (with_reducible refine (spec_l1New.calls k _ _ l0 t534 t535 t536 w _ ?side1 ?side2 ?side3 A2.out).mono ?_); (case side1 => exact bl HB.out); (case side2 => exact HR0.out); (case side3 => exact HC0.out); rintro e w6 ⟨g537, rfl, hi, hb, hb2⟩; refine ⟨_, rfl, ?_⟩; have HI537 := aM (hi); have NB537_533 := aM (IsS91.ne_blk hi (bB (bk BK533.out) hb2) (by decide)); have NB533_537 := aM (Ne.symm (IsS91.ne_blk hi (bB (bk BK533.out) hb2) (by decide))); replace BK533 := aM (bB (bk BK533.out) hb2); replace HB := aM (hb); (try clear hb); (try clear hb2); (try clear hi)) | ((with_reducible refine gC (f := 58) rfl ?_); refine gL (some 9) Try.func58 #[.pointer (some ⟨g537, 0, none⟩)] ?_; (with_reducible refine (spec_l7Draw.calls k g537 t534 t535 t536 t538 t539 t540 t541 t542 t543 t544 t545 t546 t547 t548 t549 t550 w _ ?side1 ?side2 A3.out).mono ?_); (case side1 => exact IsS91.mv HI537.out); (case side2 => exact IsS91.bl HB.out); rintro e w7 ⟨rfl, hi, hb, hk⟩; refine ⟨_, rfl, ?_⟩; replace BK533 := aM (KeepBut.blk hk (bk BK533.out) NB533_537.out (by simp)); replace HB := aM (hb); replace HI537 := aM (hi); (try clear hb); (try clear hk); (try clear hi)) | ((with_reducible refine gD (N := 5) rfl ?_); refine bE (N := 5) (cs := #[.bool false, .bool false, .int .i64 0, .int .i64 0, .int .i64 0, .int .i64 0, .int .i64 0, .int .i64 0, .int .i64 0, .int .i64 0, .bool false]) (t := 38) ?_; intro gb551 hg w8 hbox hb; have BK551 := aM (hbox); have GW551 := gE hg (below_size (IsS91.bl HB.out)); have GE551 := gE hg (below_size (IsS91.bl HB.out)); have NB533_551 := nL hg (blk_lt (bk BK533.out)); have NB551_533 := nG hg (blk_lt (bk BK533.out)); have NB537_551 := nL hg (IsS91.lt (show IsS91 w _ g537 t534 t549 t550 from IsS91.mv HI537.out)); have NB551_537 := nG hg (IsS91.lt (show IsS91 w _ g537 t534 t549 t550 from IsS91.mv HI537.out)); replace BK533 := aM (bB (bk BK533.out) hb); replace HI537 := aM (IsS91.below (IsS91.mv HI537.out) hb); replace HB := aM (bS (IsS91.bl HB.out) hb); clear hb hbox hg; have hnb9 := NB551_533.out; have hnc9 := NB533_551.out; have hnb10 := NB551_537.out; have hnc10 := NB537_551.out; have hcz11 := cA11 BK551.out))
 refine nW (fun W => Aside0 (W.heap[gb533]? = some (.cells #[.bool false, .bool false, .int .i64 0, .int .i64 0, .int .i64 0, .int .i64 0, .int .i64 0, .int .i64 0, .int .i64 0, .int .i64 0, .bool false] 38 (0, 0))) ∧ Aside0 (W.heap[gb551]? = some (.cells #[.bool t538, .bool t539, .int .i64 t540, .int .i64 t541, .int .i64 t542, .int .i64 t543, .int .i64 t544, .int .i64 t545, .int .i64 t546, .int .i64 t547, .bool t548] 38 (0, 0))) ∧ Aside0 (IsS91 w W g537 t534 t549 t550) ∧ Aside0 (Below w.heap.size w W)) ⟨⟨fm BK533.out⟩, ⟨bm BK551.out⟩, ⟨IsS91.mv HI537.out⟩, ⟨IsS91.bl HB.out⟩⟩ ?_
 intro w12 nn_
 replace BK533 := nn_.1
 replace BK551 := nn_.2.1
 replace HI537 := nn_.2.2.1
 replace HB := nn_.2.2.2
 clear nn_
 replace BK533 := aM (blk_drew BK533.out)
 replace BK551 := aM (blk_drew BK551.out)
 replace HI537 := aM (IsS91.drew HI537.out)
 replace HB := aM (below_drew1 HB.out)
 refine start_ (n := 6) (S := fun w' => cS11 w' gb551 (.bool t538) (.bool t539) (.int .i64 t540) (.int .i64 t541) (.int .i64 t542) (.int .i64 t543) (.int .i64 t544) (.int .i64 t545) (.int .i64 t546) (.int .i64 t547) (.bool t548)) (ds := []) (dn 6 0) (by kernel_rfl) rfl rfl ⟨cI BK551.out 0, cI BK551.out 1, cI BK551.out 2, cI BK551.out 3, cI BK551.out 4, cI BK551.out 5, cI BK551.out 6, cI BK551.out 7, cI BK551.out 8, cI BK551.out 9, cI BK551.out 10⟩ (fun hHeld => ?_)
 generalize w12.drew = w13 at BK533 BK551 HI537 HB hHeld ⊢
 refine pure_ (i := 1) (N := some 11) (v := ?_) (a' := ?_) #[U,Y,U,U,U,U] rfl rfl (by kernel_rfl) (fun _ _ _ h => h) (Or.inl ⟨by rfl, ?_⟩) ?_ ?_
 rotate_left
 ·intro w'
  go_simp
  with_reducible rfl
 rotate_left
 ·simp only [Act.put, sA, sZ, sS, i64_w, i32_w]
  rfl
 refine take_ (i := 0) (N := some 10) (v := ?_) (a' := ?_) #[Y,Y,U,U,U,U] rfl rfl (by kernel_rfl) (fun _ _ _ h => h) (Or.inl ⟨by rfl, ?_⟩) hHeld ?_ ?_
 rotate_left
 ·rintro w' ⟨s0, s1, s2, s3, s4, s5, s6, s7, s8, s9, s10⟩
  go_simp
  with_reducible rfl
 rotate_left
 ·simp only [Act.put, sA, sZ, sS, i64_w, i32_w]
  rfl
 refine one_ (i := 2) (N := some 12) #[Y,Y,Y,U,U,U] rfl rfl (by kernel_rfl) (by decide) (fun K hK => ?_)
 refine goes_ Try.func64 (by kernel_rfl) rfl #[.pointer (some ⟨g537, 0, none⟩), .int .i64 6] (by rfl) rfl rfl xR ?_
 with_reducible refine (spec_l1Below.calls g537 t534 t549 t550 6 t552 t553 t554 w _ ?side1 ?side2 A4.out).mono ?_
 (case side1 => exact IsS91.mv HI537.out)
 (case side2 => exact IsS91.bl HB.out)
 rintro e w14 ⟨rfl, hi, hb, hk⟩
 refine ⟨_, rfl, ?_⟩
 replace BK533 := aM (KeepBut.blk hk (bk BK533.out) NB533_537.out (by simp))
 replace BK551 := aM (KeepBut.blk hk (bk BK551.out) NB551_537.out (by simp))
 replace HB := aM (hb)
 replace HI537 := aM (hi)
 (try clear hb)
 (try clear hb2)
 (try clear hk)
 (try clear hi)
 refine hK.out _ _ ⟨cI BK551.out 0, cI BK551.out 1, cI BK551.out 2, cI BK551.out 3, cI BK551.out 4, cI BK551.out 5, cI BK551.out 6, cI BK551.out 7, cI BK551.out 8, cI BK551.out 9, cI BK551.out 10⟩ (fun hHeld => ?_)
 clear hK K
 refine norm_ (a' := ?_) ?_ ?_
 rotate_left
 ·show Act.put _ (some 12) _ = _
  simp only [Act.put, sA, sZ, sS, i64_w, i32_w]
  rfl
 refine pure_ (i := 3) (N := some 13) (v := ?_) (a' := ?_) #[Y,Y,Y,Y,U,U] rfl rfl (by kernel_rfl) (fun _ _ _ h => h) (Or.inl ⟨by rfl, ?_⟩) ?_ ?_
 rotate_left
 ·intro w'
  go_simp
  with_reducible rfl
 rotate_left
 ·simp only [Act.put, sA, sZ, sS, i64_w, i32_w]
  rfl
 refine one_ (i := 4) (N := none) #[Y,Y,Y,Y,Y,U] rfl rfl (by kernel_rfl) (by decide) (fun K hK => ?_)
 have hs15 := cI BK533.out 0
 have hfs15 := bF BK533.out 0
 have hns15_1 := NB551_533.out
 have hms15_1 := NB533_551.out
 have hs16 := cI BK533.out 1
 have hfs16 := bF BK533.out 1
 have hns16_1 := NB551_533.out
 have hms16_1 := NB533_551.out
 have hs17 := cI BK533.out 2
 have hfs17 := bF BK533.out 2
 have hns17_1 := NB551_533.out
 have hms17_1 := NB533_551.out
 have hs18 := cI BK533.out 3
 have hfs18 := bF BK533.out 3
 have hns18_1 := NB551_533.out
 have hms18_1 := NB533_551.out
 have hs19 := cI BK533.out 4
 have hfs19 := bF BK533.out 4
 have hns19_1 := NB551_533.out
 have hms19_1 := NB533_551.out
 have hs20 := cI BK533.out 5
 have hfs20 := bF BK533.out 5
 have hns20_1 := NB551_533.out
 have hms20_1 := NB533_551.out
 have hs21 := cI BK533.out 6
 have hfs21 := bF BK533.out 6
 have hns21_1 := NB551_533.out
 have hms21_1 := NB533_551.out
 have hs22 := cI BK533.out 7
 have hfs22 := bF BK533.out 7
 have hns22_1 := NB551_533.out
 have hms22_1 := NB533_551.out
 have hs23 := cI BK533.out 8
 have hfs23 := bF BK533.out 8
 have hns23_1 := NB551_533.out
 have hms23_1 := NB533_551.out
 have hs24 := cI BK533.out 9
 have hfs24 := bF BK533.out 9
 have hns24_1 := NB551_533.out
 have hms24_1 := NB533_551.out
 have hs25 := cI BK533.out 10
 have hfs25 := bF BK533.out 10
 have hns25_1 := NB551_533.out
 have hms25_1 := NB533_551.out
 refine skip_ (w1 := ?_) (by rfl) rfl ?_ ?_
 rotate_left
 ·go_simp
  rfl
 refine hK.out _ _ ⟨(cm (hHeld.1)), (cm (hHeld.2.1)), (cm (hHeld.2.2.1)), (cm (hHeld.2.2.2.1)), (cm (hHeld.2.2.2.2.1)), (cm (hHeld.2.2.2.2.2.1)), (cm (hHeld.2.2.2.2.2.2.1)), (cm (hHeld.2.2.2.2.2.2.2.1)), (cm (hHeld.2.2.2.2.2.2.2.2.1)), (cm (hHeld.2.2.2.2.2.2.2.2.2.1)), (cm (hHeld.2.2.2.2.2.2.2.2.2.2))⟩ (fun hHeld => ?_)
 clear hK K
 refine pure_ (i := 5) (N := some 3) (v := ?_) (a' := ?_) #[Y,Y,Y,Y,Y,Y] rfl rfl (by kernel_rfl) (fun _ _ _ h => h) (Or.inl ⟨by rfl, ?_⟩) ?_ ?_
 rotate_left
 ·intro w'
  go_simp
  with_reducible rfl
 rotate_left
 ·simp only [Act.put, sA, sZ, sS, i64_w, i32_w]
  rfl
 refine done_ (by kernel_rfl) ?_
 try go_wp2
 refine bodyPost_ret (results_ct rfl _ _ gb533 38 #[.bool t538, .bool t539, .int .i64 t540, .int .i64 t541, .int .i64 t542, .int .i64 t543, .int .i64 t544, .int .i64 t545, .int .i64 t546, .int .i64 t547, .bool t548] (0, 0) _ rfl (bm BK533.out) Try.underlying38 rfl (by kernel_rfl)) rfl ?_
 exact ⟨xW, IsS91.bl HB.out⟩

end Go.Proofs.Ytaoipjdmmamkmaa.PFnPorts

/- Of the proof of laws.FnPorts: a part. No condition beyond what its theorems say. -/
import Derived.Test.YtaoipjdmmamkmaaVFnPortsWTight
import Derived.Test.YtaoipjdmmamkmaaVFnPortsPx0
import Derived.Test.YtaoipjdmmamkmaaVFnPortsPx2
import Derived.Test.YtaoipjdmmamkmaaVFnPortsPx9
namespace Go.Proofs.Ytaoipjdmmamkmaa.PFnPorts
open Go.RowKit Go.Proofs.YtaoipjdmmamkmaaW.PrintWords Go.Proofs.YtaoipjdmmamkmaaW.PrintLast Go.Proofs.YtaoipjdmmamkmaaW.PrintMore
attribute [local go_sem] max2_int min2_int max_two min_two max_three min_three max_four min_four   -- for this text's walks alone
set_option linter.unusedVariables false
set_option linter.unusedSimpArgs false

def spec_DrawClaim.f (k : Nat) (l0 : List Int) : Option (Bool × Bool × Int × Int × Int × Int × Int × Int × Int × Int × Bool × Int × Int × Int × Int × Int) := (spec_l1New.f k l0).bind fun bt430 => ((spec_l7Draw.f k bt430.1 bt430.2.1 bt430.2.2).bind fun bt434 => ((spec_l6Draw.f bt430.1 bt434.2.2.2.2.2.2.2.2.2.2.2.1 bt434.2.2.2.2.2.2.2.2.2.2.2.2).bind fun bt448 => ((spec_l1Once.f bt430.1 bt448.2.2.2.2.1 bt448.2.2.2.2.2 3).bind fun bt455 => (if bt455.1 = true then (if bt434.2.1 = true then ((spec_l1PickInt.f bt430.1 bt455.2.1 bt455.2.2 (([0, 1, 8, 9, (-1)] : List Int))).bind fun bt461 => (some (bt434.1, bt434.2.1, bt434.2.2.1, bt434.2.2.2.1, bt434.2.2.2.2.1, bt434.2.2.2.2.2.1, bt434.2.2.2.2.2.2.1, bt434.2.2.2.2.2.2.2.1, bt434.2.2.2.2.2.2.2.2.1, bt434.2.2.2.2.2.2.2.2.2.1, bt434.2.2.2.2.2.2.2.2.2.2.1, bt448.1, bt448.2.1, bt434.2.2.2.2.1, bt434.2.2.2.2.2.1, bt461.1))) else ((spec_l1PickInt.f bt430.1 bt455.2.1 bt455.2.2 (([0, 1, 8, 9, (-1)] : List Int))).bind fun bt467 => (some (bt434.1, bt434.2.1, bt434.2.2.1, bt434.2.2.2.1, bt434.2.2.2.2.1, bt434.2.2.2.2.2.1, bt434.2.2.2.2.2.2.1, bt434.2.2.2.2.2.2.2.1, bt434.2.2.2.2.2.2.2.2.1, bt434.2.2.2.2.2.2.2.2.2.1, bt434.2.2.2.2.2.2.2.2.2.2.1, bt448.1, bt448.2.1, bt448.2.2.1, bt448.2.2.2.1, bt467.1)))) else ((spec_l1PickInt.f bt430.1 bt455.2.1 bt455.2.2 (([0, 1, 8, 9, (-1)] : List Int))).bind fun bt473 => (some (bt434.1, bt434.2.1, bt434.2.2.1, bt434.2.2.2.1, bt434.2.2.2.2.1, bt434.2.2.2.2.2.1, bt434.2.2.2.2.2.2.1, bt434.2.2.2.2.2.2.2.1, bt434.2.2.2.2.2.2.2.2.1, bt434.2.2.2.2.2.2.2.2.2.1, bt434.2.2.2.2.2.2.2.2.2.2.1, bt448.1, bt448.2.1, bt448.2.2.1, bt448.2.2.2.1, bt473.1)))))))
theorem spec_DrawClaim.mono : ∀ a0 k, LeO (spec_DrawClaim.f k a0) (spec_DrawClaim.f (k + 1) a0) := by
 intro a0 k
 unfold spec_DrawClaim.f
 repeat' first
   | (with_reducible exact spec_l1New.mono _ _)
   | (with_reducible exact spec_l7Draw.mono _ _ _ _)
   | (with_reducible exact LeO.refl _)
   | (with_reducible exact LeO.none _)
   | (with_reducible refine LeO.ite ?_ ?_)
   | (with_reducible refine LeO.bind ?_ (fun _ => ?_))
   | exact spec_l1New.mono _ _
   | exact spec_l7Draw.mono _ _ _ _
   | exact LeO.none _
   | refine LeO.ite ?_ ?_
   | refine LeO.bind ?_ (fun _ => ?_)
def spec_DrawClaim.T7 : Bool × List (List Nat × List Nat) := (true, [([], []), ([], []), ([], []), ([], []), ([2, 3], [2, 3]), ([0, 4, 0], [0]), ([1, 5, 0, 1, 5], [1]), ([4, 6, 0, 1, 2, 3, 4, 5, 6], [4])])
def spec_DrawClaim.B7 : List Nat := [0, 0, 0, 0, 12, 29, 63, 127]
theorem spec_DrawClaim.tab7 : rtab .any (opsOf Try.f18 7) = spec_DrawClaim.T7 := by kernel_rfl
theorem spec_DrawClaim.bits7 : waitsOk spec_DrawClaim.T7.2 spec_DrawClaim.B7 = true := by kernel_rfl
theorem spec_DrawClaim.fm {W W' : World} {g : Nat} {t : TypeId} {cs : Array Value} (h : W.heap[g]? = some (.cells cs t (0, 0))) (hs : W.heap[g]? = some (.cells cs t (0, 0)) → W'.heap[g]? = some (.cells cs t (0, 0)) := by intro h; repeat (first | (with_reducible first | exact h | refine blk_drewN ?_ _ | refine blk_drew ?_ | refine blk_alloc ?_ _ | refine blk_far ?_ (Aside0.out (by assumption)) _) | exact h)) : W'.heap[g]? = some (.cells cs t (0, 0)) := hs h
theorem spec_DrawClaim.bp {w : World} {g i : Nat} {u : Value} {t : TypeId} {cs cs' : Array Value} (h : w.heap[g]? = some (.cells cs t (0, 0))) (e : cs.setIfInBounds i u = cs' := by first | (simp only [sA, sZ, sS]; rfl) | rfl) : (w.setCell ⟨g, i, none⟩ u).heap[g]? = some (.cells cs' t (0, 0)) := e ▸ blk_set h i u
theorem spec_DrawClaim.nA {P : Program} {md : Region.Mode} {ops : Array Oper} {Q : Exit → Act → World → Prop} {S : World → Prop} {ds : List Nat} {n : Nat} {l : Array Bool} {a : Act} {w : World} (C : World → Prop) (hC : C w) (h : ∀ W, C W → wpAnyLast P md ops Q S ds n l a W) : wpAnyLast P md ops Q S ds n l a w := h w hC
theorem spec_DrawClaim.nAS {P : Program} {md : Region.Mode} {ops : Array Oper} {Q : Exit → Act → World → Prop} {S : World → Prop} {ds : List Nat} {n : Nat} {l : Array Bool} {a : Act} {w : World} (hS : S w) (C : World → Prop) (hC : C w) (h : ∀ W, S W → C W → wpAnyLast P md ops Q S ds n l a W) : wpAnyLast P md ops Q S ds n l a w := h w hS hC
set_option maxHeartbeats 60000000 in
set_option maxRecDepth 100000 in
theorem spec_DrawClaim.calls (k : Nat) (A0 : Option Addr) (c0 : Nat) (l0 : List Int) (r1 : Bool) (r2 : Bool) (r3 : Int) (r4 : Int) (r5 : Int) (r6 : Int) (r7 : Int) (r8 : Int) (r9 : Int) (r10 : Int) (r11 : Bool) (r12 : Int) (r13 : Int) (r14 : Int) (r15 : Int) (r16 : Int) (w : World) (hr0 : Kd.C (Kd.int .u8) w A0 l0.length l0) (hc0 : l0.length ≤ c0) (h : spec_DrawClaim.f k l0 = some (r1, r2, r3, r4, r5, r6, r7, r8, r9, r10, r11, r12, r13, r14, r15, r16)) :
  Calls Try.prog 18 #[.slice A0 l0.length c0] w fun e w' => e = .returned (.tuple #[.agg #[.bool r1, .bool r2, .int .i64 r3, .int .i64 r4, .int .i64 r5, .int .i64 r6, .int .i64 r7, .int .i64 r8, .int .i64 r9, .int .i64 r10, .bool r11], .agg #[.int .i64 r12, .int .i64 r13, .int .i64 r14, .int .i64 r15], .int .i64 r16]) ∧ Below w.heap.size w w' := by
 have hu38 := Try.underlying38
 have hu36 := Try.underlying36
 have HR0 := aM hr0
 have HC0 := aM hc0
 clear hr0 hc0
 have HB := aM (Below.refl w.heap.size w)
 have H : ((spec_l1New.f k l0).bind fun bt430 => ((spec_l7Draw.f k bt430.1 bt430.2.1 bt430.2.2).bind fun bt434 => ((spec_l6Draw.f bt430.1 bt434.2.2.2.2.2.2.2.2.2.2.2.1 bt434.2.2.2.2.2.2.2.2.2.2.2.2).bind fun bt448 => ((spec_l1Once.f bt430.1 bt448.2.2.2.2.1 bt448.2.2.2.2.2 3).bind fun bt455 => (if bt455.1 = true then (if bt434.2.1 = true then ((spec_l1PickInt.f bt430.1 bt455.2.1 bt455.2.2 (([0, 1, 8, 9, (-1)] : List Int))).bind fun bt461 => (some (bt434.1, bt434.2.1, bt434.2.2.1, bt434.2.2.2.1, bt434.2.2.2.2.1, bt434.2.2.2.2.2.1, bt434.2.2.2.2.2.2.1, bt434.2.2.2.2.2.2.2.1, bt434.2.2.2.2.2.2.2.2.1, bt434.2.2.2.2.2.2.2.2.2.1, bt434.2.2.2.2.2.2.2.2.2.2.1, bt448.1, bt448.2.1, bt434.2.2.2.2.1, bt434.2.2.2.2.2.1, bt461.1))) else ((spec_l1PickInt.f bt430.1 bt455.2.1 bt455.2.2 (([0, 1, 8, 9, (-1)] : List Int))).bind fun bt467 => (some (bt434.1, bt434.2.1, bt434.2.2.1, bt434.2.2.2.1, bt434.2.2.2.2.1, bt434.2.2.2.2.2.1, bt434.2.2.2.2.2.2.1, bt434.2.2.2.2.2.2.2.1, bt434.2.2.2.2.2.2.2.2.1, bt434.2.2.2.2.2.2.2.2.2.1, bt434.2.2.2.2.2.2.2.2.2.2.1, bt448.1, bt448.2.1, bt448.2.2.1, bt448.2.2.2.1, bt467.1)))) else ((spec_l1PickInt.f bt430.1 bt455.2.1 bt455.2.2 (([0, 1, 8, 9, (-1)] : List Int))).bind fun bt473 => (some (bt434.1, bt434.2.1, bt434.2.2.1, bt434.2.2.2.1, bt434.2.2.2.2.1, bt434.2.2.2.2.2.1, bt434.2.2.2.2.2.2.1, bt434.2.2.2.2.2.2.2.1, bt434.2.2.2.2.2.2.2.2.1, bt434.2.2.2.2.2.2.2.2.2.1, bt434.2.2.2.2.2.2.2.2.2.2.1, bt448.1, bt448.2.1, bt448.2.2.1, bt448.2.2.2.1, bt473.1)))))))) = some (r1, r2, r3, r4, r5, r6, r7, r8, r9, r10, r11, r12, r13, r14, r15, r16) := h
 clear h
 obtain ⟨⟨t430, t431, t432⟩, A20, H⟩ := hB H
 try dsimp only at H
 have A2 := aM A20
 clear A20
 obtain ⟨⟨t434, t435, t436, t437, t438, t439, t440, t441, t442, t443, t444, t445, t446⟩, A30, H⟩ := hB H
 try dsimp only at H
 have A3 := aM A30
 clear A30
 obtain ⟨⟨t448, t449, t450, t451, t452, t453⟩, A40, H⟩ := hB H
 try dsimp only at H
 have A4 := aM A40
 clear A40
 obtain ⟨⟨t455, t456, t457⟩, A50, H⟩ := hB H
 try dsimp only at H
 have A5 := aM A50
 clear A50
 by_cases c6 : t455 = true
 case neg =>
  replace c6 := Bool.eq_false_iff.mpr c6
  subst c6
  replace H := hN H (show ¬ (false = true) by decide)
  obtain ⟨y470, hy470⟩ : ∃ y_ : List Int, y_ = (([0, 1, 8, 9, (-1)] : List Int)) := ⟨_, rfl⟩
  replace H : ((spec_l1PickInt.f t430 t456 t457 y470).bind fun bt473 => (some (t434, t435, t436, t437, t438, t439, t440, t441, t442, t443, t444, t448, t449, t450, t451, bt473.1))) = some (r1, r2, r3, r4, r5, r6, r7, r8, r9, r10, r11, r12, r13, r14, r15, r16) := by first | (rw [hy470]; with_reducible exact H) | (have H2_ := (Option.bind_some _ _).symm.trans H; rw [hy470]; with_reducible exact H2_) | (have H2_ := (Option.bind_some _ _).symm.trans H; with_reducible exact H2_) | with_reducible exact H | (rw [hy470]; exact H) | exact H
  have Ny470 := aM hy470
  clear hy470
  obtain ⟨⟨t473, t474, t475⟩, A880, H⟩ := hB H
  try dsimp only at H
  have A88 := aM A880
  clear A880
  simp only [Option.some.injEq, Prod.mk.injEq] at H
  obtain ⟨rfl, rfl, rfl, rfl, rfl, rfl, rfl, rfl, rfl, rfl, rfl, rfl, rfl, rfl, rfl, rfl⟩ := H
  go_enter Try.func18, Try.ntmps18
  try go_wp2_with (first | ((with_reducible refine gD (N := 2) rfl ?_); refine bE (N := 2) (cs := #[.bool false, .bool false, .int .i64 0, .int .i64 0, .int .i64 0, .int .i64 0, .int .i64 0, .int .i64 0, .int .i64 0, .int .i64 0, .bool false]) (t := 38) ?_; intro gb428 hg w89 hbox hb; have BK428 := aM (hbox); have GW428 := gE hg (below_size (bl HB.out)); have GE428 := gE hg (below_size (bl HB.out)); replace HB := aM (bS (bl HB.out) hb); clear hb hbox hg) | ((with_reducible refine gD (N := 3) rfl ?_); refine bE (N := 3) (cs := #[.int .i64 0, .int .i64 0, .int .i64 0, .int .i64 0]) (t := 36) ?_; intro gb429 hg w90 hbox hb; have BK429 := aM (hbox); have GW429 := gE hg (below_size (bl HB.out)); have GE429 := gE hg (below_size (bl HB.out)); have NB428_429 := nL hg (blk_lt (bk BK428.out)); have NB429_428 := nG hg (blk_lt (bk BK428.out)); replace BK428 := aM (bB (bk BK428.out) hb); replace HB := aM (bS (bl HB.out) hb); clear hb hbox hg) | ((with_reducible refine gC (f := 40) rfl ?_); refine gL (some 9) Try.func40 #[.slice A0 l0.length c0] ?_; (with_reducible refine (spec_l1New.calls k _ _ l0 t430 t431 t432 w _ ?side1 ?side2 ?side3 A2.out).mono ?_); (case side1 => exact bl HB.out); (case side2 => exact HR0.out); (case side3 => exact HC0.out); rintro e w91 ⟨g433, rfl, hi, hb, hb2⟩; refine ⟨_, rfl, ?_⟩; have HI433 := aM (hi); have NB433_428 := aM (IsS91.ne_blk hi (bB (bk BK428.out) hb2) (by decide)); have NB428_433 := aM (Ne.symm (IsS91.ne_blk hi (bB (bk BK428.out) hb2) (by decide))); have NB433_429 := aM (IsS91.ne_blk hi (bB (bk BK429.out) hb2) (by decide)); have NB429_433 := aM (Ne.symm (IsS91.ne_blk hi (bB (bk BK429.out) hb2) (by decide))); replace BK428 := aM (bB (bk BK428.out) hb2); replace BK429 := aM (bB (bk BK429.out) hb2); replace HB := aM (hb); (try clear hb); (try clear hb2); (try clear hi)) | ((with_reducible refine gC (f := 58) rfl ?_); refine gL (some 11) Try.func58 #[.pointer (some ⟨g433, 0, none⟩)] ?_; (with_reducible refine (spec_l7Draw.calls k g433 t430 t431 t432 t434 t435 t436 t437 t438 t439 t440 t441 t442 t443 t444 t445 t446 w _ ?side1 ?side2 A3.out).mono ?_); (case side1 => exact IsS91.mv HI433.out); (case side2 => exact IsS91.bl HB.out); rintro e w92 ⟨rfl, hi, hb, hk⟩; refine ⟨_, rfl, ?_⟩; replace BK428 := aM (KeepBut.blk hk (bk BK428.out) NB428_433.out (by simp)); replace BK429 := aM (KeepBut.blk hk (bk BK429.out) NB429_433.out (by simp)); replace HB := aM (hb); replace HI433 := aM (hi); (try clear hb); (try clear hk); (try clear hi)) | ((with_reducible refine gD (N := 6) rfl ?_); refine bE (N := 6) (cs := #[.bool false, .bool false, .int .i64 0, .int .i64 0, .int .i64 0, .int .i64 0, .int .i64 0, .int .i64 0, .int .i64 0, .int .i64 0, .bool false]) (t := 38) ?_; intro gb447 hg w93 hbox hb; have BK447 := aM (hbox); have GW447 := gE hg (below_size (IsS91.bl HB.out)); have GE447 := gE hg (below_size (IsS91.bl HB.out)); have NB428_447 := nL hg (blk_lt (bk BK428.out)); have NB447_428 := nG hg (blk_lt (bk BK428.out)); have NB429_447 := nL hg (blk_lt (bk BK429.out)); have NB447_429 := nG hg (blk_lt (bk BK429.out)); have NB433_447 := nL hg (IsS91.lt (show IsS91 w _ g433 t430 t445 t446 from IsS91.mv HI433.out)); have NB447_433 := nG hg (IsS91.lt (show IsS91 w _ g433 t430 t445 t446 from IsS91.mv HI433.out)); replace BK428 := aM (bB (bk BK428.out) hb); replace BK429 := aM (bB (bk BK429.out) hb); replace HI433 := aM (IsS91.below (IsS91.mv HI433.out) hb); replace HB := aM (bS (IsS91.bl HB.out) hb); clear hb hbox hg; have hnb94 := NB447_428.out; have hnc94 := NB428_447.out; have hnb95 := NB447_429.out; have hnc95 := NB429_447.out; have hnb96 := NB447_433.out; have hnc96 := NB433_447.out; have hcz97 := cA11 BK447.out) | ((with_reducible refine gC (f := 59) rfl ?_); refine gL (some 13) Try.func59 #[.pointer (some ⟨g433, 0, none⟩)] ?_; (with_reducible refine (spec_l6Draw.calls g433 t430 t445 t446 t448 t449 t450 t451 t452 t453 w _ ?side1 ?side2 A4.out).mono ?_); (case side1 => exact IsS91.mv HI433.out); (case side2 => exact IsS91.bl HB.out); rintro e w98 ⟨rfl, hi, hb, hk⟩; refine ⟨_, rfl, ?_⟩; replace BK428 := aM (KeepBut.blk hk (fm BK428.out) NB428_433.out (by simp)); replace BK429 := aM (KeepBut.blk hk (fm BK429.out) NB429_433.out (by simp)); replace BK447 := aM (KeepBut.blk hk (g' := gb447) (o := .cells #[.bool t434, .bool t435, .int .i64 t436, .int .i64 t437, .int .i64 t438, .int .i64 t439, .int .i64 t440, .int .i64 t441, .int .i64 t442, .int .i64 t443, .bool t444] 38 (0, 0)) (bm BK447.out) NB447_433.out (by simp)); replace HB := aM (hb); replace HI433 := aM (hi); (try clear hb); (try clear hk); (try clear hi)) | ((with_reducible refine gD (N := 7) rfl ?_); refine bE (N := 7) (cs := #[.int .i64 0, .int .i64 0, .int .i64 0, .int .i64 0]) (t := 36) ?_; intro gb454 hg w99 hbox hb; have BK454 := aM (hbox); have GW454 := gE hg (below_size (IsS91.bl HB.out)); have GE454 := gE hg (below_size (IsS91.bl HB.out)); have NB428_454 := nL hg (blk_lt (bk BK428.out)); have NB454_428 := nG hg (blk_lt (bk BK428.out)); have NB429_454 := nL hg (blk_lt (bk BK429.out)); have NB454_429 := nG hg (blk_lt (bk BK429.out)); have NB447_454 := nL hg (blk_lt (bk BK447.out)); have NB454_447 := nG hg (blk_lt (bk BK447.out)); have NB433_454 := nL hg (IsS91.lt (show IsS91 w _ g433 t430 t452 t453 from IsS91.mv HI433.out)); have NB454_433 := nG hg (IsS91.lt (show IsS91 w _ g433 t430 t452 t453 from IsS91.mv HI433.out)); replace BK428 := aM (bB (bk BK428.out) hb); replace BK429 := aM (bB (bk BK429.out) hb); replace HI433 := aM (IsS91.below (IsS91.mv HI433.out) hb); replace BK447 := aM (bB (bk BK447.out) hb); replace HB := aM (bS (IsS91.bl HB.out) hb); clear hb hbox hg; have hnb100 := NB454_428.out; have hnc100 := NB428_454.out; have hnb101 := NB454_429.out; have hnc101 := NB429_454.out; have hnb102 := NB454_447.out; have hnc102 := NB447_454.out; have hnb103 := NB454_433.out; have hnc103 := NB433_454.out; have hcz104 := cA4 BK454.out) | ((with_reducible refine gC (f := 50) rfl ?_); refine gL (some 15) Try.func50 #[.pointer (some ⟨g433, 0, none⟩), .int .i64 3] ?_; (with_reducible refine (spec_l1Once.calls g433 t430 t452 t453 3 false t456 t457 w _ ?side1 ?side2 A5.out).mono ?_); (case side1 => exact IsS91.mv HI433.out); (case side2 => exact IsS91.bl HB.out); rintro e w105 ⟨rfl, hi, hb, hk⟩; refine ⟨_, rfl, ?_⟩; replace BK428 := aM (KeepBut.blk hk (fm BK428.out) NB428_433.out (by simp)); replace BK429 := aM (KeepBut.blk hk (fm BK429.out) NB429_433.out (by simp)); replace BK447 := aM (KeepBut.blk hk (fm BK447.out) NB447_433.out (by simp)); replace BK454 := aM (KeepBut.blk hk (g' := gb454) (o := .cells #[.int .i64 t448, .int .i64 t449, .int .i64 t450, .int .i64 t451] 36 (0, 0)) (bm BK454.out) NB454_433.out (by simp)); replace HB := aM (hb); replace HI433 := aM (hi); (try clear hb); (try clear hk); (try clear hi)))
  replace BK428 := aM (blk_drew BK428.out)
  replace BK429 := aM (blk_drew BK429.out)
  replace BK447 := aM (blk_drew BK447.out)
  replace BK454 := aM (blk_drew BK454.out)
  replace HI433 := aM (IsS91.drew HI433.out)
  replace HB := aM (below_drew1 HB.out)
  refine start_ (n := 8) (S := fun w' => cT11 w' gb447 (.bool t434) (.bool t435) (.int .i64 t436) (.int .i64 t437) (.int .i64 t438) (.int .i64 t439) (.int .i64 t440) (.int .i64 t441) (.int .i64 t442) (.int .i64 t443) (.bool t444) (cS4 w' gb454 (.int .i64 t448) (.int .i64 t449) (.int .i64 t450) (.int .i64 t451))) (ds := []) (dn 8 0) (by kernel_rfl) rfl rfl ⟨cI BK447.out 0, cI BK447.out 1, cI BK447.out 2, cI BK447.out 3, cI BK447.out 4, cI BK447.out 5, cI BK447.out 6, cI BK447.out 7, cI BK447.out 8, cI BK447.out 9, cI BK447.out 10, cI BK454.out 0, cI BK454.out 1, cI BK454.out 2, cI BK454.out 3⟩ (fun hHeld => ?_); refine with_tabW spec_DrawClaim.tab7 spec_DrawClaim.bits7 (fun HT_ HW_ => ?_)
  generalize w105.drew = w106 at BK428 BK429 BK447 BK454 HI433 HB hHeld ⊢
  refine pY (i := 2) (N := some 30) #[U,U,Y,U,U,U,U,U] HT_ ?_
  refine aY (i := 0) (N := some 28) #[Y,U,Y,U,U,U,U,U] HT_ HW_ hHeld ?_
  refine aY (i := 1) (N := some 29) #[Y,Y,Y,U,U,U,U,U] HT_ HW_ hHeld ?_
  refine one_ (i := 3) (N := some 31) #[Y,Y,Y,Y,U,U,U,U] rfl rfl (one_of HT_.out (by kernel_rfl)) (by decide) (fun K hK => ?_)
  refine Kd.R_lit_step (Kd.int .i64) _ 3 ?hg (N := 31) ?hd (xs := ([0, 1, 8, 9, (-1)] : List Int)) (inner := [.int .i64 0, .int .i64 1, .int .i64 8, .int .i64 9, .int .i64 (-1)]) (ok := fun _ => True) (okp := fun _ => True) ?hr ?hp (fun _ hk => hk) trivial (Below.refl _ _) (Nat.le_refl _) (by simp) ?_; (case hd => rfl); (case hg => rfl); (case hr => first | (go_simp; done) | (go_simp; rfl)); (case hp => exact (Reps.one (show Kd.M (Kd.int .i64) _ _ _ 0 [.int .i64 0] from rfl) (Reps.one (show Kd.M (Kd.int .i64) _ _ _ 1 [.int .i64 1] from rfl) (Reps.one (show Kd.M (Kd.int .i64) _ _ _ 8 [.int .i64 8] from rfl) (Reps.one (show Kd.M (Kd.int .i64) _ _ _ 9 [.int .i64 9] from rfl) (Reps.one (show Kd.M (Kd.int .i64) _ _ _ (-1) [.int .i64 (-1)] from rfl) (Reps.none _ _)))))))
  intro v471 w107 ho108 hb hg_ hnew_
  clear hg_ hnew_
  (first | rw [← Ny470.out] at ho108 | (simp only [Int.reduceToNat] at ho108; rw [← Ny470.out] at ho108))
  have HO472 := aM (Kd.R_lower ho108 (below_size (IsS91.bl HB.out)))
  replace BK428 := aM (bB (bk BK428.out) hb)
  replace BK429 := aM (bB (bk BK429.out) hb)
  replace HI433 := aM (IsS91.below (IsS91.mv HI433.out) hb)
  replace BK447 := aM (bB (bk BK447.out) hb)
  replace BK454 := aM (bB (bk BK454.out) hb)
  replace HB := aM (bS (IsS91.bl HB.out) hb)
  clear hb ho108
  obtain ⟨Ao109, co109, eo109⟩ := Kd.R_slice HO472.out
  (first | subst eo109 | (injection eo109 with f1_ f2_ f3_; have f4_ := f1_.symm; have f5_ := f3_.symm; clear f1_ f2_ f3_; subst f4_; subst f5_))
  refine hK.out _ _ ⟨cI BK447.out 0, cI BK447.out 1, cI BK447.out 2, cI BK447.out 3, cI BK447.out 4, cI BK447.out 5, cI BK447.out 6, cI BK447.out 7, cI BK447.out 8, cI BK447.out 9, cI BK447.out 10, cI BK454.out 0, cI BK454.out 1, cI BK454.out 2, cI BK454.out 3⟩ (fun hHeld => ?_)
  clear hK K
  refine norm_ (a' := ?_) ?_ ?_
  rotate_left
  ·show Act.put _ (some 31) _ = _
   simp only [Act.put, sA, sZ, sS, i64_w, i32_w]
   rfl
  refine one_ (i := 4) (N := some 32) #[Y,Y,Y,Y,Y,U,U,U] rfl rfl (one_of HT_.out (by kernel_rfl)) (by decide) (fun K hK => ?_)
  refine goes_ Try.func60 (by kernel_rfl) rfl #[.pointer (some ⟨g433, 0, none⟩), .slice Ao109 y470.length co109] (by rfl) rfl rfl xR ?_
  with_reducible refine (spec_l1PickInt.calls g433 t430 t456 t457 _ _ y470 t473 t474 t475 w _ ?side1 ?side2 ?side3 ?side4 ?side5 A88.out).mono ?_
  (case side1 => exact IsS91.mv HI433.out)
  (case side2 => exact IsS91.bl HB.out)
  (case side3 => repeat (first | exact (Kd.R_reads' HO472.out).2.2 | (with_reducible refine Kd.C_alloc ?_ _) | (with_reducible refine Kd.C_drewN ?_ _) | (with_reducible refine Kd.C_drew ?_)))
  (case side4 => exact (Kd.R_reads' HO472.out).2.1)
  (case side5 => exact far_slice (IsS91.own_ne HI433.out HO472.out (by decide)))
  rintro e w110 ⟨rfl, hi, hb, hk⟩
  refine ⟨_, rfl, ?_⟩
  replace BK428 := aM (KeepBut.blk hk (bk BK428.out) NB428_433.out (by simp))
  replace BK429 := aM (KeepBut.blk hk (bk BK429.out) NB429_433.out (by simp))
  replace BK447 := aM (KeepBut.blk hk (bk BK447.out) NB447_433.out (by simp))
  replace BK454 := aM (KeepBut.blk hk (bk BK454.out) NB454_433.out (by simp))
  replace HO472 := aM (Kd.R_mono (Kd.R_keep (IsS91.apart (show IsS91 w _ g433 t430 t456 t457 from IsS91.mv HI433.out) (kr HO472.out) (by decide)) hk (fun _ h => h.2)) (fun _ h => h.1))
  replace HB := aM (hb)
  replace HI433 := aM (hi)
  (try clear hb)
  (try clear hb2)
  (try clear hk)
  (try clear hi)
  refine hK.out _ _ ⟨cI BK447.out 0, cI BK447.out 1, cI BK447.out 2, cI BK447.out 3, cI BK447.out 4, cI BK447.out 5, cI BK447.out 6, cI BK447.out 7, cI BK447.out 8, cI BK447.out 9, cI BK447.out 10, cI BK454.out 0, cI BK454.out 1, cI BK454.out 2, cI BK454.out 3⟩ (fun hHeld => ?_)
  clear hK K
  refine norm_ (a' := ?_) ?_ ?_
  rotate_left
  ·show Act.put _ (some 32) _ = _
   simp only [Act.put, sA, sZ, sS, i64_w, i32_w]
   rfl
  refine one_ (i := 5) (N := none) #[Y,Y,Y,Y,Y,Y,U,U] rfl rfl (one_of HT_.out (by kernel_rfl)) (by decide) (fun K hK => ?_)
  have hs111 := cI BK428.out 0
  have hfs111 := bF BK428.out 0
  have hns111_1 := NB429_428.out
  have hns111_2 := NB447_428.out
  have hns111_3 := NB454_428.out
  have hms111_1 := NB428_429.out
  have hms111_2 := NB428_447.out
  have hms111_3 := NB428_454.out
  have hs112 := cI BK428.out 1
  have hfs112 := bF BK428.out 1
  have hns112_1 := NB429_428.out
  have hns112_2 := NB447_428.out
  have hns112_3 := NB454_428.out
  have hms112_1 := NB428_429.out
  have hms112_2 := NB428_447.out
  have hms112_3 := NB428_454.out
  have hs113 := cI BK428.out 2
  have hfs113 := bF BK428.out 2
  have hns113_1 := NB429_428.out
  have hns113_2 := NB447_428.out
  have hns113_3 := NB454_428.out
  have hms113_1 := NB428_429.out
  have hms113_2 := NB428_447.out
  have hms113_3 := NB428_454.out
  have hs114 := cI BK428.out 3
  have hfs114 := bF BK428.out 3
  have hns114_1 := NB429_428.out
  have hns114_2 := NB447_428.out
  have hns114_3 := NB454_428.out
  have hms114_1 := NB428_429.out
  have hms114_2 := NB428_447.out
  have hms114_3 := NB428_454.out
  have hs115 := cI BK428.out 4
  have hfs115 := bF BK428.out 4
  have hns115_1 := NB429_428.out
  have hns115_2 := NB447_428.out
  have hns115_3 := NB454_428.out
  have hms115_1 := NB428_429.out
  have hms115_2 := NB428_447.out
  have hms115_3 := NB428_454.out
  have hs116 := cI BK428.out 5
  have hfs116 := bF BK428.out 5
  have hns116_1 := NB429_428.out
  have hns116_2 := NB447_428.out
  have hns116_3 := NB454_428.out
  have hms116_1 := NB428_429.out
  have hms116_2 := NB428_447.out
  have hms116_3 := NB428_454.out
  have hs117 := cI BK428.out 6
  have hfs117 := bF BK428.out 6
  have hns117_1 := NB429_428.out
  have hns117_2 := NB447_428.out
  have hns117_3 := NB454_428.out
  have hms117_1 := NB428_429.out
  have hms117_2 := NB428_447.out
  have hms117_3 := NB428_454.out
  have hs118 := cI BK428.out 7
  have hfs118 := bF BK428.out 7
  have hns118_1 := NB429_428.out
  have hns118_2 := NB447_428.out
  have hns118_3 := NB454_428.out
  have hms118_1 := NB428_429.out
  have hms118_2 := NB428_447.out
  have hms118_3 := NB428_454.out
  have hs119 := cI BK428.out 8
  have hfs119 := bF BK428.out 8
  have hns119_1 := NB429_428.out
  have hns119_2 := NB447_428.out
  have hns119_3 := NB454_428.out
  have hms119_1 := NB428_429.out
  have hms119_2 := NB428_447.out
  have hms119_3 := NB428_454.out
  have hs120 := cI BK428.out 9
  have hfs120 := bF BK428.out 9
  have hns120_1 := NB429_428.out
  have hns120_2 := NB447_428.out
  have hns120_3 := NB454_428.out
  have hms120_1 := NB428_429.out
  have hms120_2 := NB428_447.out
  have hms120_3 := NB428_454.out
  have hs121 := cI BK428.out 10
  have hfs121 := bF BK428.out 10
  have hns121_1 := NB429_428.out
  have hns121_2 := NB447_428.out
  have hns121_3 := NB454_428.out
  have hms121_1 := NB428_429.out
  have hms121_2 := NB428_447.out
  have hms121_3 := NB428_454.out
  refine skip_ (w1 := ?_) (by rfl) rfl ?_ ?_
  rotate_left
  ·go_simp
   rfl
  refine hK.out _ _ ⟨(cm (hHeld.1)), (cm (hHeld.2.1)), (cm (hHeld.2.2.1)), (cm (hHeld.2.2.2.1)), (cm (hHeld.2.2.2.2.1)), (cm (hHeld.2.2.2.2.2.1)), (cm (hHeld.2.2.2.2.2.2.1)), (cm (hHeld.2.2.2.2.2.2.2.1)), (cm (hHeld.2.2.2.2.2.2.2.2.1)), (cm (hHeld.2.2.2.2.2.2.2.2.2.1)), (cm (hHeld.2.2.2.2.2.2.2.2.2.2.1)), (cm (hHeld.2.2.2.2.2.2.2.2.2.2.2.1)), (cm (hHeld.2.2.2.2.2.2.2.2.2.2.2.2.1)), (cm (hHeld.2.2.2.2.2.2.2.2.2.2.2.2.2.1)), (cm (hHeld.2.2.2.2.2.2.2.2.2.2.2.2.2.2))⟩ (fun hHeld => ?_)
  clear hK K
  refine spec_DrawClaim.nAS hHeld (fun W => Aside0 (W.heap[gb428]? = some (.cells #[.bool t434, .bool t435, .int .i64 t436, .int .i64 t437, .int .i64 t438, .int .i64 t439, .int .i64 t440, .int .i64 t441, .int .i64 t442, .int .i64 t443, .bool t444] 38 (0, 0))) ∧ Aside0 (W.heap[gb429]? = some (.cells #[.int .i64 0, .int .i64 0, .int .i64 0, .int .i64 0] 36 (0, 0))) ∧ Aside0 (Below w.heap.size w W)) ⟨⟨spec_DrawClaim.bp (spec_DrawClaim.bp (spec_DrawClaim.bp (spec_DrawClaim.bp (spec_DrawClaim.bp (spec_DrawClaim.bp (spec_DrawClaim.bp (spec_DrawClaim.bp (spec_DrawClaim.bp (spec_DrawClaim.bp (spec_DrawClaim.bp (spec_DrawClaim.fm BK428.out)))))))))))⟩, ⟨spec_DrawClaim.fm BK429.out⟩, ⟨IsS91.bl HB.out⟩⟩ ?_
  clear hHeld
  intro W9 hHeld hW9
  clear HB BK428 BK429
  have BK428 := hW9.1
  have BK429 := hW9.2.1
  have HB := hW9.2.2
  clear hW9
  refine one_ (i := 6) (N := none) #[Y,Y,Y,Y,Y,Y,Y,U] rfl rfl (one_of HT_.out (by kernel_rfl)) (by decide) (fun K hK => ?_)
  have hs122 := cI BK429.out 0
  have hfs122 := bF BK429.out 0
  have hns122_0 := NB428_429.out
  have hns122_2 := NB447_429.out
  have hns122_3 := NB454_429.out
  have hms122_0 := NB429_428.out
  have hms122_2 := NB429_447.out
  have hms122_3 := NB429_454.out
  have hs123 := cI BK429.out 1
  have hfs123 := bF BK429.out 1
  have hns123_0 := NB428_429.out
  have hns123_2 := NB447_429.out
  have hns123_3 := NB454_429.out
  have hms123_0 := NB429_428.out
  have hms123_2 := NB429_447.out
  have hms123_3 := NB429_454.out
  have hs124 := cI BK429.out 2
  have hfs124 := bF BK429.out 2
  have hns124_0 := NB428_429.out
  have hns124_2 := NB447_429.out
  have hns124_3 := NB454_429.out
  have hms124_0 := NB429_428.out
  have hms124_2 := NB429_447.out
  have hms124_3 := NB429_454.out
  have hs125 := cI BK429.out 3
  have hfs125 := bF BK429.out 3
  have hns125_0 := NB428_429.out
  have hns125_2 := NB447_429.out
  have hns125_3 := NB454_429.out
  have hms125_0 := NB429_428.out
  have hms125_2 := NB429_447.out
  have hms125_3 := NB429_454.out
  refine skip_ (w1 := ?_) (by rfl) rfl ?_ ?_
  rotate_left
  ·go_simp
   rfl
  refine hK.out _ _ ⟨(cm (hHeld.1)), (cm (hHeld.2.1)), (cm (hHeld.2.2.1)), (cm (hHeld.2.2.2.1)), (cm (hHeld.2.2.2.2.1)), (cm (hHeld.2.2.2.2.2.1)), (cm (hHeld.2.2.2.2.2.2.1)), (cm (hHeld.2.2.2.2.2.2.2.1)), (cm (hHeld.2.2.2.2.2.2.2.2.1)), (cm (hHeld.2.2.2.2.2.2.2.2.2.1)), (cm (hHeld.2.2.2.2.2.2.2.2.2.2.1)), (cm (hHeld.2.2.2.2.2.2.2.2.2.2.2.1)), (cm (hHeld.2.2.2.2.2.2.2.2.2.2.2.2.1)), (cm (hHeld.2.2.2.2.2.2.2.2.2.2.2.2.2.1)), (cm (hHeld.2.2.2.2.2.2.2.2.2.2.2.2.2.2))⟩ (fun hHeld => ?_)
  clear hK K
  refine pY (i := 7) (N := some 4) #[Y,Y,Y,Y,Y,Y,Y,Y] HT_ ?_
  refine done_ (done_of HT_.out (by kernel_rfl)) ?_
  try go_wp2
  refine bodyPost_ret (results_list (rs := [.cell 2 38, .cell 3 36, .tmp 4]) rfl (by simp) (.cell gb428 38 #[.bool t434, .bool t435, .int .i64 t436, .int .i64 t437, .int .i64 t438, .int .i64 t439, .int .i64 t440, .int .i64 t441, .int .i64 t442, .int .i64 t443, .bool t444] (0, 0) _ rfl (spec_DrawClaim.fm BK428.out) Try.underlying38 rfl (by kernel_rfl) (.cell gb429 36 #[.int .i64 t448, .int .i64 t449, .int .i64 t450, .int .i64 t451] (0, 0) _ rfl (spec_DrawClaim.bp (spec_DrawClaim.bp (spec_DrawClaim.bp (spec_DrawClaim.bp (spec_DrawClaim.fm BK429.out))))) Try.underlying36 rfl (by kernel_rfl) (.tmp .nil)))) rfl ?_
  exact ⟨xW, IsS91.bl HB.out⟩
 subst c6
 replace H := hP H rfl
 by_cases c7 : t435 = true
 case neg =>
  replace c7 := Bool.eq_false_iff.mpr c7
  subst c7
  replace H := hN H (show ¬ (false = true) by decide)
  obtain ⟨y464, hy464⟩ : ∃ y_ : List Int, y_ = (([0, 1, 8, 9, (-1)] : List Int)) := ⟨_, rfl⟩
  replace H : ((spec_l1PickInt.f t430 t456 t457 y464).bind fun bt467 => (some (t434, false, t436, t437, t438, t439, t440, t441, t442, t443, t444, t448, t449, t450, t451, bt467.1))) = some (r1, r2, r3, r4, r5, r6, r7, r8, r9, r10, r11, r12, r13, r14, r15, r16) := by first | (rw [hy464]; with_reducible exact H) | (have H2_ := (Option.bind_some _ _).symm.trans H; rw [hy464]; with_reducible exact H2_) | (have H2_ := (Option.bind_some _ _).symm.trans H; with_reducible exact H2_) | with_reducible exact H | (rw [hy464]; exact H) | exact H
  have Ny464 := aM hy464
  clear hy464
  obtain ⟨⟨t467, t468, t469⟩, A490, H⟩ := hB H
  try dsimp only at H
  have A49 := aM A490
  clear A490
  simp only [Option.some.injEq, Prod.mk.injEq] at H
  obtain ⟨rfl, rfl, rfl, rfl, rfl, rfl, rfl, rfl, rfl, rfl, rfl, rfl, rfl, rfl, rfl, rfl⟩ := H
  go_enter Try.func18, Try.ntmps18
  try go_wp2_with (first | ((with_reducible refine gD (N := 2) rfl ?_); refine bE (N := 2) (cs := #[.bool false, .bool false, .int .i64 0, .int .i64 0, .int .i64 0, .int .i64 0, .int .i64 0, .int .i64 0, .int .i64 0, .int .i64 0, .bool false]) (t := 38) ?_; intro gb428 hg w50 hbox hb; have BK428 := aM (hbox); have GW428 := gE hg (below_size (bl HB.out)); have GE428 := gE hg (below_size (bl HB.out)); replace HB := aM (bS (bl HB.out) hb); clear hb hbox hg) | ((with_reducible refine gD (N := 3) rfl ?_); refine bE (N := 3) (cs := #[.int .i64 0, .int .i64 0, .int .i64 0, .int .i64 0]) (t := 36) ?_; intro gb429 hg w51 hbox hb; have BK429 := aM (hbox); have GW429 := gE hg (below_size (bl HB.out)); have GE429 := gE hg (below_size (bl HB.out)); have NB428_429 := nL hg (blk_lt (bk BK428.out)); have NB429_428 := nG hg (blk_lt (bk BK428.out)); replace BK428 := aM (bB (bk BK428.out) hb); replace HB := aM (bS (bl HB.out) hb); clear hb hbox hg) | ((with_reducible refine gC (f := 40) rfl ?_); refine gL (some 9) Try.func40 #[.slice A0 l0.length c0] ?_; (with_reducible refine (spec_l1New.calls k _ _ l0 t430 t431 t432 w _ ?side1 ?side2 ?side3 A2.out).mono ?_); (case side1 => exact bl HB.out); (case side2 => exact HR0.out); (case side3 => exact HC0.out); rintro e w52 ⟨g433, rfl, hi, hb, hb2⟩; refine ⟨_, rfl, ?_⟩; have HI433 := aM (hi); have NB433_428 := aM (IsS91.ne_blk hi (bB (bk BK428.out) hb2) (by decide)); have NB428_433 := aM (Ne.symm (IsS91.ne_blk hi (bB (bk BK428.out) hb2) (by decide))); have NB433_429 := aM (IsS91.ne_blk hi (bB (bk BK429.out) hb2) (by decide)); have NB429_433 := aM (Ne.symm (IsS91.ne_blk hi (bB (bk BK429.out) hb2) (by decide))); replace BK428 := aM (bB (bk BK428.out) hb2); replace BK429 := aM (bB (bk BK429.out) hb2); replace HB := aM (hb); (try clear hb); (try clear hb2); (try clear hi)) | ((with_reducible refine gC (f := 58) rfl ?_); refine gL (some 11) Try.func58 #[.pointer (some ⟨g433, 0, none⟩)] ?_; (with_reducible refine (spec_l7Draw.calls k g433 t430 t431 t432 t434 false t436 t437 t438 t439 t440 t441 t442 t443 t444 t445 t446 w _ ?side1 ?side2 A3.out).mono ?_); (case side1 => exact IsS91.mv HI433.out); (case side2 => exact IsS91.bl HB.out); rintro e w53 ⟨rfl, hi, hb, hk⟩; refine ⟨_, rfl, ?_⟩; replace BK428 := aM (KeepBut.blk hk (bk BK428.out) NB428_433.out (by simp)); replace BK429 := aM (KeepBut.blk hk (bk BK429.out) NB429_433.out (by simp)); replace HB := aM (hb); replace HI433 := aM (hi); (try clear hb); (try clear hk); (try clear hi)) | ((with_reducible refine gD (N := 6) rfl ?_); refine bE (N := 6) (cs := #[.bool false, .bool false, .int .i64 0, .int .i64 0, .int .i64 0, .int .i64 0, .int .i64 0, .int .i64 0, .int .i64 0, .int .i64 0, .bool false]) (t := 38) ?_; intro gb447 hg w54 hbox hb; have BK447 := aM (hbox); have GW447 := gE hg (below_size (IsS91.bl HB.out)); have GE447 := gE hg (below_size (IsS91.bl HB.out)); have NB428_447 := nL hg (blk_lt (bk BK428.out)); have NB447_428 := nG hg (blk_lt (bk BK428.out)); have NB429_447 := nL hg (blk_lt (bk BK429.out)); have NB447_429 := nG hg (blk_lt (bk BK429.out)); have NB433_447 := nL hg (IsS91.lt (show IsS91 w _ g433 t430 t445 t446 from IsS91.mv HI433.out)); have NB447_433 := nG hg (IsS91.lt (show IsS91 w _ g433 t430 t445 t446 from IsS91.mv HI433.out)); replace BK428 := aM (bB (bk BK428.out) hb); replace BK429 := aM (bB (bk BK429.out) hb); replace HI433 := aM (IsS91.below (IsS91.mv HI433.out) hb); replace HB := aM (bS (IsS91.bl HB.out) hb); clear hb hbox hg; have hnb55 := NB447_428.out; have hnc55 := NB428_447.out; have hnb56 := NB447_429.out; have hnc56 := NB429_447.out; have hnb57 := NB447_433.out; have hnc57 := NB433_447.out; have hcz58 := cA11 BK447.out) | ((with_reducible refine gC (f := 59) rfl ?_); refine gL (some 13) Try.func59 #[.pointer (some ⟨g433, 0, none⟩)] ?_; (with_reducible refine (spec_l6Draw.calls g433 t430 t445 t446 t448 t449 t450 t451 t452 t453 w _ ?side1 ?side2 A4.out).mono ?_); (case side1 => exact IsS91.mv HI433.out); (case side2 => exact IsS91.bl HB.out); rintro e w59 ⟨rfl, hi, hb, hk⟩; refine ⟨_, rfl, ?_⟩; replace BK428 := aM (KeepBut.blk hk (fm BK428.out) NB428_433.out (by simp)); replace BK429 := aM (KeepBut.blk hk (fm BK429.out) NB429_433.out (by simp)); replace BK447 := aM (KeepBut.blk hk (g' := gb447) (o := .cells #[.bool t434, .bool false, .int .i64 t436, .int .i64 t437, .int .i64 t438, .int .i64 t439, .int .i64 t440, .int .i64 t441, .int .i64 t442, .int .i64 t443, .bool t444] 38 (0, 0)) (bm BK447.out) NB447_433.out (by simp)); replace HB := aM (hb); replace HI433 := aM (hi); (try clear hb); (try clear hk); (try clear hi)) | ((with_reducible refine gD (N := 7) rfl ?_); refine bE (N := 7) (cs := #[.int .i64 0, .int .i64 0, .int .i64 0, .int .i64 0]) (t := 36) ?_; intro gb454 hg w60 hbox hb; have BK454 := aM (hbox); have GW454 := gE hg (below_size (IsS91.bl HB.out)); have GE454 := gE hg (below_size (IsS91.bl HB.out)); have NB428_454 := nL hg (blk_lt (bk BK428.out)); have NB454_428 := nG hg (blk_lt (bk BK428.out)); have NB429_454 := nL hg (blk_lt (bk BK429.out)); have NB454_429 := nG hg (blk_lt (bk BK429.out)); have NB447_454 := nL hg (blk_lt (bk BK447.out)); have NB454_447 := nG hg (blk_lt (bk BK447.out)); have NB433_454 := nL hg (IsS91.lt (show IsS91 w _ g433 t430 t452 t453 from IsS91.mv HI433.out)); have NB454_433 := nG hg (IsS91.lt (show IsS91 w _ g433 t430 t452 t453 from IsS91.mv HI433.out)); replace BK428 := aM (bB (bk BK428.out) hb); replace BK429 := aM (bB (bk BK429.out) hb); replace HI433 := aM (IsS91.below (IsS91.mv HI433.out) hb); replace BK447 := aM (bB (bk BK447.out) hb); replace HB := aM (bS (IsS91.bl HB.out) hb); clear hb hbox hg; have hnb61 := NB454_428.out; have hnc61 := NB428_454.out; have hnb62 := NB454_429.out; have hnc62 := NB429_454.out; have hnb63 := NB454_447.out; have hnc63 := NB447_454.out; have hnb64 := NB454_433.out; have hnc64 := NB433_454.out; have hcz65 := cA4 BK454.out) | ((with_reducible refine gC (f := 50) rfl ?_); refine gL (some 15) Try.func50 #[.pointer (some ⟨g433, 0, none⟩), .int .i64 3] ?_; (with_reducible refine (spec_l1Once.calls g433 t430 t452 t453 3 true t456 t457 w _ ?side1 ?side2 A5.out).mono ?_); (case side1 => exact IsS91.mv HI433.out); (case side2 => exact IsS91.bl HB.out); rintro e w66 ⟨rfl, hi, hb, hk⟩; refine ⟨_, rfl, ?_⟩; replace BK428 := aM (KeepBut.blk hk (fm BK428.out) NB428_433.out (by simp)); replace BK429 := aM (KeepBut.blk hk (fm BK429.out) NB429_433.out (by simp)); replace BK447 := aM (KeepBut.blk hk (fm BK447.out) NB447_433.out (by simp)); replace BK454 := aM (KeepBut.blk hk (g' := gb454) (o := .cells #[.int .i64 t448, .int .i64 t449, .int .i64 t450, .int .i64 t451] 36 (0, 0)) (bm BK454.out) NB454_433.out (by simp)); replace HB := aM (hb); replace HI433 := aM (hi); (try clear hb); (try clear hk); (try clear hi); have hcz67 := cA11 BK447.out))
  replace BK428 := aM (blk_drew BK428.out)
  replace BK429 := aM (blk_drew BK429.out)
  replace BK447 := aM (blk_drew BK447.out)
  replace BK454 := aM (blk_drew BK454.out)
  replace HI433 := aM (IsS91.drew HI433.out)
  replace HB := aM (below_drew1 HB.out)
  refine start_ (n := 8) (S := fun w' => cT11 w' gb447 (.bool t434) (.bool false) (.int .i64 t436) (.int .i64 t437) (.int .i64 t438) (.int .i64 t439) (.int .i64 t440) (.int .i64 t441) (.int .i64 t442) (.int .i64 t443) (.bool t444) (cS4 w' gb454 (.int .i64 t448) (.int .i64 t449) (.int .i64 t450) (.int .i64 t451))) (ds := []) (dn 8 0) (by kernel_rfl) rfl rfl ⟨cI BK447.out 0, cI BK447.out 1, cI BK447.out 2, cI BK447.out 3, cI BK447.out 4, cI BK447.out 5, cI BK447.out 6, cI BK447.out 7, cI BK447.out 8, cI BK447.out 9, cI BK447.out 10, cI BK454.out 0, cI BK454.out 1, cI BK454.out 2, cI BK454.out 3⟩ (fun hHeld => ?_); refine with_tabW spec_DrawClaim.tab7 spec_DrawClaim.bits7 (fun HT_ HW_ => ?_)
  generalize w66.drew = w68 at BK428 BK429 BK447 BK454 HI433 HB hHeld ⊢
  refine pY (i := 2) (N := some 30) #[U,U,Y,U,U,U,U,U] HT_ ?_
  refine aY (i := 0) (N := some 28) #[Y,U,Y,U,U,U,U,U] HT_ HW_ hHeld ?_
  refine aY (i := 1) (N := some 29) #[Y,Y,Y,U,U,U,U,U] HT_ HW_ hHeld ?_
  refine one_ (i := 3) (N := some 31) #[Y,Y,Y,Y,U,U,U,U] rfl rfl (one_of HT_.out (by kernel_rfl)) (by decide) (fun K hK => ?_)
  refine Kd.R_lit_step (Kd.int .i64) _ 3 ?hg (N := 31) ?hd (xs := ([0, 1, 8, 9, (-1)] : List Int)) (inner := [.int .i64 0, .int .i64 1, .int .i64 8, .int .i64 9, .int .i64 (-1)]) (ok := fun _ => True) (okp := fun _ => True) ?hr ?hp (fun _ hk => hk) trivial (Below.refl _ _) (Nat.le_refl _) (by simp) ?_; (case hd => rfl); (case hg => rfl); (case hr => first | (go_simp; done) | (go_simp; rfl)); (case hp => exact (Reps.one (show Kd.M (Kd.int .i64) _ _ _ 0 [.int .i64 0] from rfl) (Reps.one (show Kd.M (Kd.int .i64) _ _ _ 1 [.int .i64 1] from rfl) (Reps.one (show Kd.M (Kd.int .i64) _ _ _ 8 [.int .i64 8] from rfl) (Reps.one (show Kd.M (Kd.int .i64) _ _ _ 9 [.int .i64 9] from rfl) (Reps.one (show Kd.M (Kd.int .i64) _ _ _ (-1) [.int .i64 (-1)] from rfl) (Reps.none _ _)))))))
  intro v465 w69 ho70 hb hg_ hnew_
  clear hg_ hnew_
  (first | rw [← Ny464.out] at ho70 | (simp only [Int.reduceToNat] at ho70; rw [← Ny464.out] at ho70))
  have HO466 := aM (Kd.R_lower ho70 (below_size (IsS91.bl HB.out)))
  replace BK428 := aM (bB (bk BK428.out) hb)
  replace BK429 := aM (bB (bk BK429.out) hb)
  replace HI433 := aM (IsS91.below (IsS91.mv HI433.out) hb)
  replace BK447 := aM (bB (bk BK447.out) hb)
  replace BK454 := aM (bB (bk BK454.out) hb)
  replace HB := aM (bS (IsS91.bl HB.out) hb)
  clear hb ho70
  obtain ⟨Ao71, co71, eo71⟩ := Kd.R_slice HO466.out
  (first | subst eo71 | (injection eo71 with f1_ f2_ f3_; have f4_ := f1_.symm; have f5_ := f3_.symm; clear f1_ f2_ f3_; subst f4_; subst f5_))
  refine hK.out _ _ ⟨cI BK447.out 0, cI BK447.out 1, cI BK447.out 2, cI BK447.out 3, cI BK447.out 4, cI BK447.out 5, cI BK447.out 6, cI BK447.out 7, cI BK447.out 8, cI BK447.out 9, cI BK447.out 10, cI BK454.out 0, cI BK454.out 1, cI BK454.out 2, cI BK454.out 3⟩ (fun hHeld => ?_)
  clear hK K
  refine norm_ (a' := ?_) ?_ ?_
  rotate_left
  ·show Act.put _ (some 31) _ = _
   simp only [Act.put, sA, sZ, sS, i64_w, i32_w]
   rfl
  refine one_ (i := 4) (N := some 32) #[Y,Y,Y,Y,Y,U,U,U] rfl rfl (one_of HT_.out (by kernel_rfl)) (by decide) (fun K hK => ?_)
  refine goes_ Try.func60 (by kernel_rfl) rfl #[.pointer (some ⟨g433, 0, none⟩), .slice Ao71 y464.length co71] (by rfl) rfl rfl xR ?_
  with_reducible refine (spec_l1PickInt.calls g433 t430 t456 t457 _ _ y464 t467 t468 t469 w _ ?side1 ?side2 ?side3 ?side4 ?side5 A49.out).mono ?_
  (case side1 => exact IsS91.mv HI433.out)
  (case side2 => exact IsS91.bl HB.out)
  (case side3 => repeat (first | exact (Kd.R_reads' HO466.out).2.2 | (with_reducible refine Kd.C_alloc ?_ _) | (with_reducible refine Kd.C_drewN ?_ _) | (with_reducible refine Kd.C_drew ?_)))
  (case side4 => exact (Kd.R_reads' HO466.out).2.1)
  (case side5 => exact far_slice (IsS91.own_ne HI433.out HO466.out (by decide)))
  rintro e w72 ⟨rfl, hi, hb, hk⟩
  refine ⟨_, rfl, ?_⟩
  replace BK428 := aM (KeepBut.blk hk (bk BK428.out) NB428_433.out (by simp))
  replace BK429 := aM (KeepBut.blk hk (bk BK429.out) NB429_433.out (by simp))
  replace BK447 := aM (KeepBut.blk hk (bk BK447.out) NB447_433.out (by simp))
  replace BK454 := aM (KeepBut.blk hk (bk BK454.out) NB454_433.out (by simp))
  replace HO466 := aM (Kd.R_mono (Kd.R_keep (IsS91.apart (show IsS91 w _ g433 t430 t456 t457 from IsS91.mv HI433.out) (kr HO466.out) (by decide)) hk (fun _ h => h.2)) (fun _ h => h.1))
  replace HB := aM (hb)
  replace HI433 := aM (hi)
  (try clear hb)
  (try clear hb2)
  (try clear hk)
  (try clear hi)
  refine hK.out _ _ ⟨cI BK447.out 0, cI BK447.out 1, cI BK447.out 2, cI BK447.out 3, cI BK447.out 4, cI BK447.out 5, cI BK447.out 6, cI BK447.out 7, cI BK447.out 8, cI BK447.out 9, cI BK447.out 10, cI BK454.out 0, cI BK454.out 1, cI BK454.out 2, cI BK454.out 3⟩ (fun hHeld => ?_)
  clear hK K
  refine norm_ (a' := ?_) ?_ ?_
  rotate_left
  ·show Act.put _ (some 32) _ = _
   simp only [Act.put, sA, sZ, sS, i64_w, i32_w]
   rfl
  refine one_ (i := 5) (N := none) #[Y,Y,Y,Y,Y,Y,U,U] rfl rfl (one_of HT_.out (by kernel_rfl)) (by decide) (fun K hK => ?_)
  have hs73 := cI BK428.out 0
  have hfs73 := bF BK428.out 0
  have hns73_1 := NB429_428.out
  have hns73_2 := NB447_428.out
  have hns73_3 := NB454_428.out
  have hms73_1 := NB428_429.out
  have hms73_2 := NB428_447.out
  have hms73_3 := NB428_454.out
  have hs74 := cI BK428.out 1
  have hfs74 := bF BK428.out 1
  have hns74_1 := NB429_428.out
  have hns74_2 := NB447_428.out
  have hns74_3 := NB454_428.out
  have hms74_1 := NB428_429.out
  have hms74_2 := NB428_447.out
  have hms74_3 := NB428_454.out
  have hs75 := cI BK428.out 2
  have hfs75 := bF BK428.out 2
  have hns75_1 := NB429_428.out
  have hns75_2 := NB447_428.out
  have hns75_3 := NB454_428.out
  have hms75_1 := NB428_429.out
  have hms75_2 := NB428_447.out
  have hms75_3 := NB428_454.out
  have hs76 := cI BK428.out 3
  have hfs76 := bF BK428.out 3
  have hns76_1 := NB429_428.out
  have hns76_2 := NB447_428.out
  have hns76_3 := NB454_428.out
  have hms76_1 := NB428_429.out
  have hms76_2 := NB428_447.out
  have hms76_3 := NB428_454.out
  have hs77 := cI BK428.out 4
  have hfs77 := bF BK428.out 4
  have hns77_1 := NB429_428.out
  have hns77_2 := NB447_428.out
  have hns77_3 := NB454_428.out
  have hms77_1 := NB428_429.out
  have hms77_2 := NB428_447.out
  have hms77_3 := NB428_454.out
  have hs78 := cI BK428.out 5
  have hfs78 := bF BK428.out 5
  have hns78_1 := NB429_428.out
  have hns78_2 := NB447_428.out
  have hns78_3 := NB454_428.out
  have hms78_1 := NB428_429.out
  have hms78_2 := NB428_447.out
  have hms78_3 := NB428_454.out
  have hs79 := cI BK428.out 6
  have hfs79 := bF BK428.out 6
  have hns79_1 := NB429_428.out
  have hns79_2 := NB447_428.out
  have hns79_3 := NB454_428.out
  have hms79_1 := NB428_429.out
  have hms79_2 := NB428_447.out
  have hms79_3 := NB428_454.out
  have hs80 := cI BK428.out 7
  have hfs80 := bF BK428.out 7
  have hns80_1 := NB429_428.out
  have hns80_2 := NB447_428.out
  have hns80_3 := NB454_428.out
  have hms80_1 := NB428_429.out
  have hms80_2 := NB428_447.out
  have hms80_3 := NB428_454.out
  have hs81 := cI BK428.out 8
  have hfs81 := bF BK428.out 8
  have hns81_1 := NB429_428.out
  have hns81_2 := NB447_428.out
  have hns81_3 := NB454_428.out
  have hms81_1 := NB428_429.out
  have hms81_2 := NB428_447.out
  have hms81_3 := NB428_454.out
  have hs82 := cI BK428.out 9
  have hfs82 := bF BK428.out 9
  have hns82_1 := NB429_428.out
  have hns82_2 := NB447_428.out
  have hns82_3 := NB454_428.out
  have hms82_1 := NB428_429.out
  have hms82_2 := NB428_447.out
  have hms82_3 := NB428_454.out
  have hs83 := cI BK428.out 10
  have hfs83 := bF BK428.out 10
  have hns83_1 := NB429_428.out
  have hns83_2 := NB447_428.out
  have hns83_3 := NB454_428.out
  have hms83_1 := NB428_429.out
  have hms83_2 := NB428_447.out
  have hms83_3 := NB428_454.out
  refine skip_ (w1 := ?_) (by rfl) rfl ?_ ?_
  rotate_left
  ·go_simp
   rfl
  refine hK.out _ _ ⟨(cm (hHeld.1)), (cm (hHeld.2.1)), (cm (hHeld.2.2.1)), (cm (hHeld.2.2.2.1)), (cm (hHeld.2.2.2.2.1)), (cm (hHeld.2.2.2.2.2.1)), (cm (hHeld.2.2.2.2.2.2.1)), (cm (hHeld.2.2.2.2.2.2.2.1)), (cm (hHeld.2.2.2.2.2.2.2.2.1)), (cm (hHeld.2.2.2.2.2.2.2.2.2.1)), (cm (hHeld.2.2.2.2.2.2.2.2.2.2.1)), (cm (hHeld.2.2.2.2.2.2.2.2.2.2.2.1)), (cm (hHeld.2.2.2.2.2.2.2.2.2.2.2.2.1)), (cm (hHeld.2.2.2.2.2.2.2.2.2.2.2.2.2.1)), (cm (hHeld.2.2.2.2.2.2.2.2.2.2.2.2.2.2))⟩ (fun hHeld => ?_)
  clear hK K
  refine spec_DrawClaim.nAS hHeld (fun W => Aside0 (W.heap[gb428]? = some (.cells #[.bool t434, .bool false, .int .i64 t436, .int .i64 t437, .int .i64 t438, .int .i64 t439, .int .i64 t440, .int .i64 t441, .int .i64 t442, .int .i64 t443, .bool t444] 38 (0, 0))) ∧ Aside0 (W.heap[gb429]? = some (.cells #[.int .i64 0, .int .i64 0, .int .i64 0, .int .i64 0] 36 (0, 0))) ∧ Aside0 (Below w.heap.size w W)) ⟨⟨spec_DrawClaim.bp (spec_DrawClaim.bp (spec_DrawClaim.bp (spec_DrawClaim.bp (spec_DrawClaim.bp (spec_DrawClaim.bp (spec_DrawClaim.bp (spec_DrawClaim.bp (spec_DrawClaim.bp (spec_DrawClaim.bp (spec_DrawClaim.bp (spec_DrawClaim.fm BK428.out)))))))))))⟩, ⟨spec_DrawClaim.fm BK429.out⟩, ⟨IsS91.bl HB.out⟩⟩ ?_
  clear hHeld
  intro W9 hHeld hW9
  clear HB BK428 BK429
  have BK428 := hW9.1
  have BK429 := hW9.2.1
  have HB := hW9.2.2
  clear hW9
  refine one_ (i := 6) (N := none) #[Y,Y,Y,Y,Y,Y,Y,U] rfl rfl (one_of HT_.out (by kernel_rfl)) (by decide) (fun K hK => ?_)
  have hs84 := cI BK429.out 0
  have hfs84 := bF BK429.out 0
  have hns84_0 := NB428_429.out
  have hns84_2 := NB447_429.out
  have hns84_3 := NB454_429.out
  have hms84_0 := NB429_428.out
  have hms84_2 := NB429_447.out
  have hms84_3 := NB429_454.out
  have hs85 := cI BK429.out 1
  have hfs85 := bF BK429.out 1
  have hns85_0 := NB428_429.out
  have hns85_2 := NB447_429.out
  have hns85_3 := NB454_429.out
  have hms85_0 := NB429_428.out
  have hms85_2 := NB429_447.out
  have hms85_3 := NB429_454.out
  have hs86 := cI BK429.out 2
  have hfs86 := bF BK429.out 2
  have hns86_0 := NB428_429.out
  have hns86_2 := NB447_429.out
  have hns86_3 := NB454_429.out
  have hms86_0 := NB429_428.out
  have hms86_2 := NB429_447.out
  have hms86_3 := NB429_454.out
  have hs87 := cI BK429.out 3
  have hfs87 := bF BK429.out 3
  have hns87_0 := NB428_429.out
  have hns87_2 := NB447_429.out
  have hns87_3 := NB454_429.out
  have hms87_0 := NB429_428.out
  have hms87_2 := NB429_447.out
  have hms87_3 := NB429_454.out
  refine skip_ (w1 := ?_) (by rfl) rfl ?_ ?_
  rotate_left
  ·go_simp
   rfl
  refine hK.out _ _ ⟨(cm (hHeld.1)), (cm (hHeld.2.1)), (cm (hHeld.2.2.1)), (cm (hHeld.2.2.2.1)), (cm (hHeld.2.2.2.2.1)), (cm (hHeld.2.2.2.2.2.1)), (cm (hHeld.2.2.2.2.2.2.1)), (cm (hHeld.2.2.2.2.2.2.2.1)), (cm (hHeld.2.2.2.2.2.2.2.2.1)), (cm (hHeld.2.2.2.2.2.2.2.2.2.1)), (cm (hHeld.2.2.2.2.2.2.2.2.2.2.1)), (cm (hHeld.2.2.2.2.2.2.2.2.2.2.2.1)), (cm (hHeld.2.2.2.2.2.2.2.2.2.2.2.2.1)), (cm (hHeld.2.2.2.2.2.2.2.2.2.2.2.2.2.1)), (cm (hHeld.2.2.2.2.2.2.2.2.2.2.2.2.2.2))⟩ (fun hHeld => ?_)
  clear hK K
  refine pY (i := 7) (N := some 4) #[Y,Y,Y,Y,Y,Y,Y,Y] HT_ ?_
  refine done_ (done_of HT_.out (by kernel_rfl)) ?_
  try go_wp2
  refine bodyPost_ret (results_list (rs := [.cell 2 38, .cell 3 36, .tmp 4]) rfl (by simp) (.cell gb428 38 #[.bool t434, .bool false, .int .i64 t436, .int .i64 t437, .int .i64 t438, .int .i64 t439, .int .i64 t440, .int .i64 t441, .int .i64 t442, .int .i64 t443, .bool t444] (0, 0) _ rfl (spec_DrawClaim.fm BK428.out) Try.underlying38 rfl (by kernel_rfl) (.cell gb429 36 #[.int .i64 t448, .int .i64 t449, .int .i64 t450, .int .i64 t451] (0, 0) _ rfl (spec_DrawClaim.bp (spec_DrawClaim.bp (spec_DrawClaim.bp (spec_DrawClaim.bp (spec_DrawClaim.fm BK429.out))))) Try.underlying36 rfl (by kernel_rfl) (.tmp .nil)))) rfl ?_
  exact ⟨xW, IsS91.bl HB.out⟩
 subst c7
 replace H := hP H rfl
 obtain ⟨y458, hy458⟩ : ∃ y_ : List Int, y_ = (([0, 1, 8, 9, (-1)] : List Int)) := ⟨_, rfl⟩
 replace H : ((spec_l1PickInt.f t430 t456 t457 y458).bind fun bt461 => (some (t434, true, t436, t437, t438, t439, t440, t441, t442, t443, t444, t448, t449, t438, t439, bt461.1))) = some (r1, r2, r3, r4, r5, r6, r7, r8, r9, r10, r11, r12, r13, r14, r15, r16) := by first | (rw [hy458]; with_reducible exact H) | (have H2_ := (Option.bind_some _ _).symm.trans H; rw [hy458]; with_reducible exact H2_) | (have H2_ := (Option.bind_some _ _).symm.trans H; with_reducible exact H2_) | with_reducible exact H | (rw [hy458]; exact H) | exact H
 have Ny458 := aM hy458
 clear hy458
 obtain ⟨⟨t461, t462, t463⟩, A80, H⟩ := hB H
 try dsimp only at H
 have A8 := aM A80
 clear A80
 simp only [Option.some.injEq, Prod.mk.injEq] at H
 obtain ⟨rfl, rfl, rfl, rfl, rfl, rfl, rfl, rfl, rfl, rfl, rfl, rfl, rfl, rfl, rfl, rfl⟩ := H
 go_enter Try.func18, Try.ntmps18
 try go_wp2_with (first | ((with_reducible refine gD (N := 2) rfl ?_); refine bE (N := 2) (cs := #[.bool false, .bool false, .int .i64 0, .int .i64 0, .int .i64 0, .int .i64 0, .int .i64 0, .int .i64 0, .int .i64 0, .int .i64 0, .bool false]) (t := 38) ?_; intro gb428 hg w9 hbox hb; have BK428 := aM (hbox); have GW428 := gE hg (below_size (bl HB.out)); have GE428 := gE hg (below_size (bl HB.out)); replace HB := aM (bS (bl HB.out) hb); clear hb hbox hg) | ((with_reducible refine gD (N := 3) rfl ?_); refine bE (N := 3) (cs := #[.int .i64 0, .int .i64 0, .int .i64 0, .int .i64 0]) (t := 36) ?_; intro gb429 hg w10 hbox hb; have BK429 := aM (hbox); have GW429 := gE hg (below_size (bl HB.out)); have GE429 := gE hg (below_size (bl HB.out)); have NB428_429 := nL hg (blk_lt (bk BK428.out)); have NB429_428 := nG hg (blk_lt (bk BK428.out)); replace BK428 := aM (bB (bk BK428.out) hb); replace HB := aM (bS (bl HB.out) hb); clear hb hbox hg) | ((with_reducible refine gC (f := 40) rfl ?_); refine gL (some 9) Try.func40 #[.slice A0 l0.length c0] ?_; (with_reducible refine (spec_l1New.calls k _ _ l0 t430 t431 t432 w _ ?side1 ?side2 ?side3 A2.out).mono ?_); (case side1 => exact bl HB.out); (case side2 => exact HR0.out); (case side3 => exact HC0.out); rintro e w11 ⟨g433, rfl, hi, hb, hb2⟩; refine ⟨_, rfl, ?_⟩; have HI433 := aM (hi); have NB433_428 := aM (IsS91.ne_blk hi (bB (bk BK428.out) hb2) (by decide)); have NB428_433 := aM (Ne.symm (IsS91.ne_blk hi (bB (bk BK428.out) hb2) (by decide))); have NB433_429 := aM (IsS91.ne_blk hi (bB (bk BK429.out) hb2) (by decide)); have NB429_433 := aM (Ne.symm (IsS91.ne_blk hi (bB (bk BK429.out) hb2) (by decide))); replace BK428 := aM (bB (bk BK428.out) hb2); replace BK429 := aM (bB (bk BK429.out) hb2); replace HB := aM (hb); (try clear hb); (try clear hb2); (try clear hi)) | ((with_reducible refine gC (f := 58) rfl ?_); refine gL (some 11) Try.func58 #[.pointer (some ⟨g433, 0, none⟩)] ?_; (with_reducible refine (spec_l7Draw.calls k g433 t430 t431 t432 t434 true t436 t437 t438 t439 t440 t441 t442 t443 t444 t445 t446 w _ ?side1 ?side2 A3.out).mono ?_); (case side1 => exact IsS91.mv HI433.out); (case side2 => exact IsS91.bl HB.out); rintro e w12 ⟨rfl, hi, hb, hk⟩; refine ⟨_, rfl, ?_⟩; replace BK428 := aM (KeepBut.blk hk (bk BK428.out) NB428_433.out (by simp)); replace BK429 := aM (KeepBut.blk hk (bk BK429.out) NB429_433.out (by simp)); replace HB := aM (hb); replace HI433 := aM (hi); (try clear hb); (try clear hk); (try clear hi)) | ((with_reducible refine gD (N := 6) rfl ?_); refine bE (N := 6) (cs := #[.bool false, .bool false, .int .i64 0, .int .i64 0, .int .i64 0, .int .i64 0, .int .i64 0, .int .i64 0, .int .i64 0, .int .i64 0, .bool false]) (t := 38) ?_; intro gb447 hg w13 hbox hb; have BK447 := aM (hbox); have GW447 := gE hg (below_size (IsS91.bl HB.out)); have GE447 := gE hg (below_size (IsS91.bl HB.out)); have NB428_447 := nL hg (blk_lt (bk BK428.out)); have NB447_428 := nG hg (blk_lt (bk BK428.out)); have NB429_447 := nL hg (blk_lt (bk BK429.out)); have NB447_429 := nG hg (blk_lt (bk BK429.out)); have NB433_447 := nL hg (IsS91.lt (show IsS91 w _ g433 t430 t445 t446 from IsS91.mv HI433.out)); have NB447_433 := nG hg (IsS91.lt (show IsS91 w _ g433 t430 t445 t446 from IsS91.mv HI433.out)); replace BK428 := aM (bB (bk BK428.out) hb); replace BK429 := aM (bB (bk BK429.out) hb); replace HI433 := aM (IsS91.below (IsS91.mv HI433.out) hb); replace HB := aM (bS (IsS91.bl HB.out) hb); clear hb hbox hg; have hnb14 := NB447_428.out; have hnc14 := NB428_447.out; have hnb15 := NB447_429.out; have hnc15 := NB429_447.out; have hnb16 := NB447_433.out; have hnc16 := NB433_447.out; have hcz17 := cA11 BK447.out) | ((with_reducible refine gC (f := 59) rfl ?_); refine gL (some 13) Try.func59 #[.pointer (some ⟨g433, 0, none⟩)] ?_; (with_reducible refine (spec_l6Draw.calls g433 t430 t445 t446 t448 t449 t450 t451 t452 t453 w _ ?side1 ?side2 A4.out).mono ?_); (case side1 => exact IsS91.mv HI433.out); (case side2 => exact IsS91.bl HB.out); rintro e w18 ⟨rfl, hi, hb, hk⟩; refine ⟨_, rfl, ?_⟩; replace BK428 := aM (KeepBut.blk hk (fm BK428.out) NB428_433.out (by simp)); replace BK429 := aM (KeepBut.blk hk (fm BK429.out) NB429_433.out (by simp)); replace BK447 := aM (KeepBut.blk hk (g' := gb447) (o := .cells #[.bool t434, .bool true, .int .i64 t436, .int .i64 t437, .int .i64 t438, .int .i64 t439, .int .i64 t440, .int .i64 t441, .int .i64 t442, .int .i64 t443, .bool t444] 38 (0, 0)) (bm BK447.out) NB447_433.out (by simp)); replace HB := aM (hb); replace HI433 := aM (hi); (try clear hb); (try clear hk); (try clear hi)) | ((with_reducible refine gD (N := 7) rfl ?_); refine bE (N := 7) (cs := #[.int .i64 0, .int .i64 0, .int .i64 0, .int .i64 0]) (t := 36) ?_; intro gb454 hg w19 hbox hb; have BK454 := aM (hbox); have GW454 := gE hg (below_size (IsS91.bl HB.out)); have GE454 := gE hg (below_size (IsS91.bl HB.out)); have NB428_454 := nL hg (blk_lt (bk BK428.out)); have NB454_428 := nG hg (blk_lt (bk BK428.out)); have NB429_454 := nL hg (blk_lt (bk BK429.out)); have NB454_429 := nG hg (blk_lt (bk BK429.out)); have NB447_454 := nL hg (blk_lt (bk BK447.out)); have NB454_447 := nG hg (blk_lt (bk BK447.out)); have NB433_454 := nL hg (IsS91.lt (show IsS91 w _ g433 t430 t452 t453 from IsS91.mv HI433.out)); have NB454_433 := nG hg (IsS91.lt (show IsS91 w _ g433 t430 t452 t453 from IsS91.mv HI433.out)); replace BK428 := aM (bB (bk BK428.out) hb); replace BK429 := aM (bB (bk BK429.out) hb); replace HI433 := aM (IsS91.below (IsS91.mv HI433.out) hb); replace BK447 := aM (bB (bk BK447.out) hb); replace HB := aM (bS (IsS91.bl HB.out) hb); clear hb hbox hg; have hnb20 := NB454_428.out; have hnc20 := NB428_454.out; have hnb21 := NB454_429.out; have hnc21 := NB429_454.out; have hnb22 := NB454_447.out; have hnc22 := NB447_454.out; have hnb23 := NB454_433.out; have hnc23 := NB433_454.out; have hcz24 := cA4 BK454.out) | ((with_reducible refine gC (f := 50) rfl ?_); refine gL (some 15) Try.func50 #[.pointer (some ⟨g433, 0, none⟩), .int .i64 3] ?_; (with_reducible refine (spec_l1Once.calls g433 t430 t452 t453 3 true t456 t457 w _ ?side1 ?side2 A5.out).mono ?_); (case side1 => exact IsS91.mv HI433.out); (case side2 => exact IsS91.bl HB.out); rintro e w25 ⟨rfl, hi, hb, hk⟩; refine ⟨_, rfl, ?_⟩; replace BK428 := aM (KeepBut.blk hk (fm BK428.out) NB428_433.out (by simp)); replace BK429 := aM (KeepBut.blk hk (fm BK429.out) NB429_433.out (by simp)); replace BK447 := aM (KeepBut.blk hk (fm BK447.out) NB447_433.out (by simp)); replace BK454 := aM (KeepBut.blk hk (g' := gb454) (o := .cells #[.int .i64 t448, .int .i64 t449, .int .i64 t450, .int .i64 t451] 36 (0, 0)) (bm BK454.out) NB454_433.out (by simp)); replace HB := aM (hb); replace HI433 := aM (hi); (try clear hb); (try clear hk); (try clear hi); have hcz26 := cA11 BK447.out; have hcz27 := cA4 BK454.out))
 refine nW (fun W => Aside0 (W.heap[gb428]? = some (.cells #[.bool false, .bool false, .int .i64 0, .int .i64 0, .int .i64 0, .int .i64 0, .int .i64 0, .int .i64 0, .int .i64 0, .int .i64 0, .bool false] 38 (0, 0))) ∧ Aside0 (W.heap[gb429]? = some (.cells #[.int .i64 0, .int .i64 0, .int .i64 0, .int .i64 0] 36 (0, 0))) ∧ Aside0 (W.heap[gb447]? = some (.cells #[.bool t434, .bool true, .int .i64 t436, .int .i64 t437, .int .i64 t438, .int .i64 t439, .int .i64 t440, .int .i64 t441, .int .i64 t442, .int .i64 t443, .bool t444] 38 (0, 0))) ∧ Aside0 (W.heap[gb454]? = some (.cells #[.int .i64 t448, .int .i64 t449, .int .i64 t438, .int .i64 t439] 36 (0, 0))) ∧ Aside0 (IsS91 w W g433 t430 t456 t457) ∧ Aside0 (Below w.heap.size w W)) ⟨⟨fm BK428.out⟩, ⟨fm BK429.out⟩, ⟨fm BK447.out⟩, ⟨by (with_reducible repeat (first | refine blk_drewN ?_ _ | refine blk_drew ?_ | refine blk_alloc ?_ _)); refine blk_put (cs := #[.int .i64 t448, .int .i64 t449, .int .i64 t438, .int .i64 t451]) ?_ 3 _ rfl; (with_reducible repeat (first | refine blk_drewN ?_ _ | refine blk_drew ?_ | refine blk_alloc ?_ _)); refine blk_put (cs := #[.int .i64 t448, .int .i64 t449, .int .i64 t450, .int .i64 t451]) ?_ 2 _ rfl; (with_reducible repeat (first | refine blk_drewN ?_ _ | refine blk_drew ?_ | refine blk_alloc ?_ _)); exact BK454.out⟩, ⟨IsS91.mv HI433.out⟩, ⟨IsS91.bl HB.out⟩⟩ ?_
 intro w28 nn_
 replace BK428 := nn_.1
 replace BK429 := nn_.2.1
 replace BK447 := nn_.2.2.1
 replace BK454 := nn_.2.2.2.1
 replace HI433 := nn_.2.2.2.2.1
 replace HB := nn_.2.2.2.2.2
 clear nn_
 replace BK428 := aM (blk_drew BK428.out)
 replace BK429 := aM (blk_drew BK429.out)
 replace BK447 := aM (blk_drew BK447.out)
 replace BK454 := aM (blk_drew BK454.out)
 replace HI433 := aM (IsS91.drew HI433.out)
 replace HB := aM (below_drew1 HB.out)
 refine start_ (n := 8) (S := fun w' => cT11 w' gb447 (.bool t434) (.bool true) (.int .i64 t436) (.int .i64 t437) (.int .i64 t438) (.int .i64 t439) (.int .i64 t440) (.int .i64 t441) (.int .i64 t442) (.int .i64 t443) (.bool t444) (cS4 w' gb454 (.int .i64 t448) (.int .i64 t449) (.int .i64 t438) (.int .i64 t439))) (ds := []) (dn 8 0) (by kernel_rfl) rfl rfl ⟨cI BK447.out 0, cI BK447.out 1, cI BK447.out 2, cI BK447.out 3, cI BK447.out 4, cI BK447.out 5, cI BK447.out 6, cI BK447.out 7, cI BK447.out 8, cI BK447.out 9, cI BK447.out 10, cI BK454.out 0, cI BK454.out 1, cI BK454.out 2, cI BK454.out 3⟩ (fun hHeld => ?_); refine with_tabW spec_DrawClaim.tab7 spec_DrawClaim.bits7 (fun HT_ HW_ => ?_)
 generalize w28.drew = w29 at BK428 BK429 BK447 BK454 HI433 HB hHeld ⊢
 refine pY (i := 2) (N := some 30) #[U,U,Y,U,U,U,U,U] HT_ ?_
 refine aY (i := 0) (N := some 28) #[Y,U,Y,U,U,U,U,U] HT_ HW_ hHeld ?_
 refine aY (i := 1) (N := some 29) #[Y,Y,Y,U,U,U,U,U] HT_ HW_ hHeld ?_
 refine one_ (i := 3) (N := some 31) #[Y,Y,Y,Y,U,U,U,U] rfl rfl (one_of HT_.out (by kernel_rfl)) (by decide) (fun K hK => ?_)
 refine Kd.R_lit_step (Kd.int .i64) _ 3 ?hg (N := 31) ?hd (xs := ([0, 1, 8, 9, (-1)] : List Int)) (inner := [.int .i64 0, .int .i64 1, .int .i64 8, .int .i64 9, .int .i64 (-1)]) (ok := fun _ => True) (okp := fun _ => True) ?hr ?hp (fun _ hk => hk) trivial (Below.refl _ _) (Nat.le_refl _) (by simp) ?_; (case hd => rfl); (case hg => rfl); (case hr => first | (go_simp; done) | (go_simp; rfl)); (case hp => exact (Reps.one (show Kd.M (Kd.int .i64) _ _ _ 0 [.int .i64 0] from rfl) (Reps.one (show Kd.M (Kd.int .i64) _ _ _ 1 [.int .i64 1] from rfl) (Reps.one (show Kd.M (Kd.int .i64) _ _ _ 8 [.int .i64 8] from rfl) (Reps.one (show Kd.M (Kd.int .i64) _ _ _ 9 [.int .i64 9] from rfl) (Reps.one (show Kd.M (Kd.int .i64) _ _ _ (-1) [.int .i64 (-1)] from rfl) (Reps.none _ _)))))))
 intro v459 w30 ho31 hb hg_ hnew_
 clear hg_ hnew_
 (first | rw [← Ny458.out] at ho31 | (simp only [Int.reduceToNat] at ho31; rw [← Ny458.out] at ho31))
 have HO460 := aM (Kd.R_lower ho31 (below_size (IsS91.bl HB.out)))
 replace BK428 := aM (bB (bk BK428.out) hb)
 replace BK429 := aM (bB (bk BK429.out) hb)
 replace HI433 := aM (IsS91.below (IsS91.mv HI433.out) hb)
 replace BK447 := aM (bB (bk BK447.out) hb)
 replace BK454 := aM (bB (bk BK454.out) hb)
 replace HB := aM (bS (IsS91.bl HB.out) hb)
 clear hb ho31
 obtain ⟨Ao32, co32, eo32⟩ := Kd.R_slice HO460.out
 (first | subst eo32 | (injection eo32 with f1_ f2_ f3_; have f4_ := f1_.symm; have f5_ := f3_.symm; clear f1_ f2_ f3_; subst f4_; subst f5_))
 refine hK.out _ _ ⟨cI BK447.out 0, cI BK447.out 1, cI BK447.out 2, cI BK447.out 3, cI BK447.out 4, cI BK447.out 5, cI BK447.out 6, cI BK447.out 7, cI BK447.out 8, cI BK447.out 9, cI BK447.out 10, cI BK454.out 0, cI BK454.out 1, cI BK454.out 2, cI BK454.out 3⟩ (fun hHeld => ?_)
 clear hK K
 refine norm_ (a' := ?_) ?_ ?_
 rotate_left
 ·show Act.put _ (some 31) _ = _
  simp only [Act.put, sA, sZ, sS, i64_w, i32_w]
  rfl
 refine one_ (i := 4) (N := some 32) #[Y,Y,Y,Y,Y,U,U,U] rfl rfl (one_of HT_.out (by kernel_rfl)) (by decide) (fun K hK => ?_)
 refine goes_ Try.func60 (by kernel_rfl) rfl #[.pointer (some ⟨g433, 0, none⟩), .slice Ao32 y458.length co32] (by rfl) rfl rfl xR ?_
 with_reducible refine (spec_l1PickInt.calls g433 t430 t456 t457 _ _ y458 t461 t462 t463 w _ ?side1 ?side2 ?side3 ?side4 ?side5 A8.out).mono ?_
 (case side1 => exact IsS91.mv HI433.out)
 (case side2 => exact IsS91.bl HB.out)
 (case side3 => repeat (first | exact (Kd.R_reads' HO460.out).2.2 | (with_reducible refine Kd.C_alloc ?_ _) | (with_reducible refine Kd.C_drewN ?_ _) | (with_reducible refine Kd.C_drew ?_)))
 (case side4 => exact (Kd.R_reads' HO460.out).2.1)
 (case side5 => exact far_slice (IsS91.own_ne HI433.out HO460.out (by decide)))
 rintro e w33 ⟨rfl, hi, hb, hk⟩
 refine ⟨_, rfl, ?_⟩
 replace BK428 := aM (KeepBut.blk hk (bk BK428.out) NB428_433.out (by simp))
 replace BK429 := aM (KeepBut.blk hk (bk BK429.out) NB429_433.out (by simp))
 replace BK447 := aM (KeepBut.blk hk (bk BK447.out) NB447_433.out (by simp))
 replace BK454 := aM (KeepBut.blk hk (bk BK454.out) NB454_433.out (by simp))
 replace HO460 := aM (Kd.R_mono (Kd.R_keep (IsS91.apart (show IsS91 w _ g433 t430 t456 t457 from IsS91.mv HI433.out) (kr HO460.out) (by decide)) hk (fun _ h => h.2)) (fun _ h => h.1))
 replace HB := aM (hb)
 replace HI433 := aM (hi)
 (try clear hb)
 (try clear hb2)
 (try clear hk)
 (try clear hi)
 refine hK.out _ _ ⟨cI BK447.out 0, cI BK447.out 1, cI BK447.out 2, cI BK447.out 3, cI BK447.out 4, cI BK447.out 5, cI BK447.out 6, cI BK447.out 7, cI BK447.out 8, cI BK447.out 9, cI BK447.out 10, cI BK454.out 0, cI BK454.out 1, cI BK454.out 2, cI BK454.out 3⟩ (fun hHeld => ?_)
 clear hK K
 refine norm_ (a' := ?_) ?_ ?_
 rotate_left
 ·show Act.put _ (some 32) _ = _
  simp only [Act.put, sA, sZ, sS, i64_w, i32_w]
  rfl
 refine one_ (i := 5) (N := none) #[Y,Y,Y,Y,Y,Y,U,U] rfl rfl (one_of HT_.out (by kernel_rfl)) (by decide) (fun K hK => ?_)
 have hs34 := cI BK428.out 0
 have hfs34 := bF BK428.out 0
 have hns34_1 := NB429_428.out
 have hns34_2 := NB447_428.out
 have hns34_3 := NB454_428.out
 have hms34_1 := NB428_429.out
 have hms34_2 := NB428_447.out
 have hms34_3 := NB428_454.out
 have hs35 := cI BK428.out 1
 have hfs35 := bF BK428.out 1
 have hns35_1 := NB429_428.out
 have hns35_2 := NB447_428.out
 have hns35_3 := NB454_428.out
 have hms35_1 := NB428_429.out
 have hms35_2 := NB428_447.out
 have hms35_3 := NB428_454.out
 have hs36 := cI BK428.out 2
 have hfs36 := bF BK428.out 2
 have hns36_1 := NB429_428.out
 have hns36_2 := NB447_428.out
 have hns36_3 := NB454_428.out
 have hms36_1 := NB428_429.out
 have hms36_2 := NB428_447.out
 have hms36_3 := NB428_454.out
 have hs37 := cI BK428.out 3
 have hfs37 := bF BK428.out 3
 have hns37_1 := NB429_428.out
 have hns37_2 := NB447_428.out
 have hns37_3 := NB454_428.out
 have hms37_1 := NB428_429.out
 have hms37_2 := NB428_447.out
 have hms37_3 := NB428_454.out
 have hs38 := cI BK428.out 4
 have hfs38 := bF BK428.out 4
 have hns38_1 := NB429_428.out
 have hns38_2 := NB447_428.out
 have hns38_3 := NB454_428.out
 have hms38_1 := NB428_429.out
 have hms38_2 := NB428_447.out
 have hms38_3 := NB428_454.out
 have hs39 := cI BK428.out 5
 have hfs39 := bF BK428.out 5
 have hns39_1 := NB429_428.out
 have hns39_2 := NB447_428.out
 have hns39_3 := NB454_428.out
 have hms39_1 := NB428_429.out
 have hms39_2 := NB428_447.out
 have hms39_3 := NB428_454.out
 have hs40 := cI BK428.out 6
 have hfs40 := bF BK428.out 6
 have hns40_1 := NB429_428.out
 have hns40_2 := NB447_428.out
 have hns40_3 := NB454_428.out
 have hms40_1 := NB428_429.out
 have hms40_2 := NB428_447.out
 have hms40_3 := NB428_454.out
 have hs41 := cI BK428.out 7
 have hfs41 := bF BK428.out 7
 have hns41_1 := NB429_428.out
 have hns41_2 := NB447_428.out
 have hns41_3 := NB454_428.out
 have hms41_1 := NB428_429.out
 have hms41_2 := NB428_447.out
 have hms41_3 := NB428_454.out
 have hs42 := cI BK428.out 8
 have hfs42 := bF BK428.out 8
 have hns42_1 := NB429_428.out
 have hns42_2 := NB447_428.out
 have hns42_3 := NB454_428.out
 have hms42_1 := NB428_429.out
 have hms42_2 := NB428_447.out
 have hms42_3 := NB428_454.out
 have hs43 := cI BK428.out 9
 have hfs43 := bF BK428.out 9
 have hns43_1 := NB429_428.out
 have hns43_2 := NB447_428.out
 have hns43_3 := NB454_428.out
 have hms43_1 := NB428_429.out
 have hms43_2 := NB428_447.out
 have hms43_3 := NB428_454.out
 have hs44 := cI BK428.out 10
 have hfs44 := bF BK428.out 10
 have hns44_1 := NB429_428.out
 have hns44_2 := NB447_428.out
 have hns44_3 := NB454_428.out
 have hms44_1 := NB428_429.out
 have hms44_2 := NB428_447.out
 have hms44_3 := NB428_454.out
 refine skip_ (w1 := ?_) (by rfl) rfl ?_ ?_
 rotate_left
 ·go_simp
  rfl
 refine hK.out _ _ ⟨(cm (hHeld.1)), (cm (hHeld.2.1)), (cm (hHeld.2.2.1)), (cm (hHeld.2.2.2.1)), (cm (hHeld.2.2.2.2.1)), (cm (hHeld.2.2.2.2.2.1)), (cm (hHeld.2.2.2.2.2.2.1)), (cm (hHeld.2.2.2.2.2.2.2.1)), (cm (hHeld.2.2.2.2.2.2.2.2.1)), (cm (hHeld.2.2.2.2.2.2.2.2.2.1)), (cm (hHeld.2.2.2.2.2.2.2.2.2.2.1)), (cm (hHeld.2.2.2.2.2.2.2.2.2.2.2.1)), (cm (hHeld.2.2.2.2.2.2.2.2.2.2.2.2.1)), (cm (hHeld.2.2.2.2.2.2.2.2.2.2.2.2.2.1)), (cm (hHeld.2.2.2.2.2.2.2.2.2.2.2.2.2.2))⟩ (fun hHeld => ?_)
 clear hK K
 refine spec_DrawClaim.nAS hHeld (fun W => Aside0 (W.heap[gb428]? = some (.cells #[.bool t434, .bool true, .int .i64 t436, .int .i64 t437, .int .i64 t438, .int .i64 t439, .int .i64 t440, .int .i64 t441, .int .i64 t442, .int .i64 t443, .bool t444] 38 (0, 0))) ∧ Aside0 (W.heap[gb429]? = some (.cells #[.int .i64 0, .int .i64 0, .int .i64 0, .int .i64 0] 36 (0, 0))) ∧ Aside0 (Below w.heap.size w W)) ⟨⟨spec_DrawClaim.bp (spec_DrawClaim.bp (spec_DrawClaim.bp (spec_DrawClaim.bp (spec_DrawClaim.bp (spec_DrawClaim.bp (spec_DrawClaim.bp (spec_DrawClaim.bp (spec_DrawClaim.bp (spec_DrawClaim.bp (spec_DrawClaim.bp (spec_DrawClaim.fm BK428.out)))))))))))⟩, ⟨spec_DrawClaim.fm BK429.out⟩, ⟨IsS91.bl HB.out⟩⟩ ?_
 clear hHeld
 intro W9 hHeld hW9
 clear HB BK428 BK429
 have BK428 := hW9.1
 have BK429 := hW9.2.1
 have HB := hW9.2.2
 clear hW9
 refine one_ (i := 6) (N := none) #[Y,Y,Y,Y,Y,Y,Y,U] rfl rfl (one_of HT_.out (by kernel_rfl)) (by decide) (fun K hK => ?_)
 have hs45 := cI BK429.out 0
 have hfs45 := bF BK429.out 0
 have hns45_0 := NB428_429.out
 have hns45_2 := NB447_429.out
 have hns45_3 := NB454_429.out
 have hms45_0 := NB429_428.out
 have hms45_2 := NB429_447.out
 have hms45_3 := NB429_454.out
 have hs46 := cI BK429.out 1
 have hfs46 := bF BK429.out 1
 have hns46_0 := NB428_429.out
 have hns46_2 := NB447_429.out
 have hns46_3 := NB454_429.out
 have hms46_0 := NB429_428.out
 have hms46_2 := NB429_447.out
 have hms46_3 := NB429_454.out
 have hs47 := cI BK429.out 2
 have hfs47 := bF BK429.out 2
 have hns47_0 := NB428_429.out
 have hns47_2 := NB447_429.out
 have hns47_3 := NB454_429.out
 have hms47_0 := NB429_428.out
 have hms47_2 := NB429_447.out
 have hms47_3 := NB429_454.out
 have hs48 := cI BK429.out 3
 have hfs48 := bF BK429.out 3
 have hns48_0 := NB428_429.out
 have hns48_2 := NB447_429.out
 have hns48_3 := NB454_429.out
 have hms48_0 := NB429_428.out
 have hms48_2 := NB429_447.out
 have hms48_3 := NB429_454.out
 refine skip_ (w1 := ?_) (by rfl) rfl ?_ ?_
 rotate_left
 ·go_simp
  rfl
 refine hK.out _ _ ⟨(cm (hHeld.1)), (cm (hHeld.2.1)), (cm (hHeld.2.2.1)), (cm (hHeld.2.2.2.1)), (cm (hHeld.2.2.2.2.1)), (cm (hHeld.2.2.2.2.2.1)), (cm (hHeld.2.2.2.2.2.2.1)), (cm (hHeld.2.2.2.2.2.2.2.1)), (cm (hHeld.2.2.2.2.2.2.2.2.1)), (cm (hHeld.2.2.2.2.2.2.2.2.2.1)), (cm (hHeld.2.2.2.2.2.2.2.2.2.2.1)), (cm (hHeld.2.2.2.2.2.2.2.2.2.2.2.1)), (cm (hHeld.2.2.2.2.2.2.2.2.2.2.2.2.1)), (cm (hHeld.2.2.2.2.2.2.2.2.2.2.2.2.2.1)), (cm (hHeld.2.2.2.2.2.2.2.2.2.2.2.2.2.2))⟩ (fun hHeld => ?_)
 clear hK K
 refine pY (i := 7) (N := some 4) #[Y,Y,Y,Y,Y,Y,Y,Y] HT_ ?_
 refine done_ (done_of HT_.out (by kernel_rfl)) ?_
 try go_wp2
 refine bodyPost_ret (results_list (rs := [.cell 2 38, .cell 3 36, .tmp 4]) rfl (by simp) (.cell gb428 38 #[.bool t434, .bool true, .int .i64 t436, .int .i64 t437, .int .i64 t438, .int .i64 t439, .int .i64 t440, .int .i64 t441, .int .i64 t442, .int .i64 t443, .bool t444] (0, 0) _ rfl (spec_DrawClaim.fm BK428.out) Try.underlying38 rfl (by kernel_rfl) (.cell gb429 36 #[.int .i64 t448, .int .i64 t449, .int .i64 t438, .int .i64 t439] (0, 0) _ rfl (spec_DrawClaim.bp (spec_DrawClaim.bp (spec_DrawClaim.bp (spec_DrawClaim.bp (spec_DrawClaim.fm BK429.out))))) Try.underlying36 rfl (by kernel_rfl) (.tmp .nil)))) rfl ?_
 exact ⟨xW, IsS91.bl HB.out⟩

end Go.Proofs.Ytaoipjdmmamkmaa.PFnPorts

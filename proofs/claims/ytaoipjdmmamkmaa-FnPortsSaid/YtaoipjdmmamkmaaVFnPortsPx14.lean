/- Of the proof of laws.FnPorts: a part. No condition beyond what its theorems say. -/
import Derived.Test.YtaoipjdmmamkmaaVFnPortsWTight
import Derived.Test.YtaoipjdmmamkmaaVFnPortsPx0
import Derived.Test.YtaoipjdmmamkmaaVFnPortsPx11
import Derived.Test.YtaoipjdmmamkmaaVFnPortsPx12
import Derived.Test.YtaoipjdmmamkmaaVFnPortsPx13
namespace Go.Proofs.Ytaoipjdmmamkmaa.PFnPorts
open Go.RowKit Go.Proofs.YtaoipjdmmamkmaaW.PrintWords Go.Proofs.YtaoipjdmmamkmaaW.PrintLast Go.Proofs.YtaoipjdmmamkmaaW.PrintMore
attribute [local go_sem] max2_int min2_int max_two min_two max_three min_three max_four min_four   -- for this text's walks alone
set_option linter.unusedVariables false
set_option linter.unusedSimpArgs false

mutual
def impl_Claim.j0 : Nat → Int → Bool → Bool → Bool → Int → Int → Int → Int → Int → Int → Int → Int → Bool → Int → Int → Int → Int → Option (Bool × Bool × Int × Int × Int × Int × Int × Int × Int × Int × Bool)
 | 0, _, _, _, _, _, _, _, _, _, _, _, _, _, _, _, _, _ => none
 | k + 1, x2, x25, x505000, x505001, x505002, x505003, x505004, x505005, x505006, x505007, x505008, x505009, x505010, x506000, x506001, x506002, x506003 => if x25 = true then (some (x505000, x505001, x505002, x505003, x505004, x505005, x505006, x505007, x505008, x505009, x505010)) else (if x506002 = x505004 then (if x505001 = true then ((impl_Better.f k x505002 x505003 x505004 x505005 x506000 x506001 x506002 x506003).bind fun t510 => (if t510 = true then (impl_Claim.j1 k x2 (!(x506003 == x505005)) x505000 x505001 x505002 x505003 x505004 x505005 x505006 x505007 x505008 x505009 x505010 x506000 x506001 x506002 x506003) else (impl_Claim.j1 k x2 false x505000 x505001 x505002 x505003 x505004 x505005 x505006 x505007 x505008 x505009 x505010 x506000 x506001 x506002 x506003))) else (impl_Claim.j1 k x2 false x505000 x505001 x505002 x505003 x505004 x505005 x505006 x505007 x505008 x505009 x505010 x506000 x506001 x506002 x506003)) else (if x505001 = true then ((impl_Better.f k x505002 x505003 x505004 x505005 x506000 x506001 x506002 x506003).bind fun t511 => (if t511 = true then (impl_Claim.j2 k x2 (!false) x505000 x505001 x505002 x505003 x505004 x505005 x505006 x505007 x505008 x505009 x505010 x506000 x506001 x506002 x506003) else (impl_Claim.j2 k x2 false x505000 x505001 x505002 x505003 x505004 x505005 x505006 x505007 x505008 x505009 x505010 x506000 x506001 x506002 x506003))) else (impl_Claim.j2 k x2 false x505000 x505001 x505002 x505003 x505004 x505005 x505006 x505007 x505008 x505009 x505010 x506000 x506001 x506002 x506003)))
def impl_Claim.j1 : Nat → Int → Bool → Bool → Bool → Int → Int → Int → Int → Int → Int → Int → Int → Bool → Int → Int → Int → Int → Option (Bool × Bool × Int × Int × Int × Int × Int × Int × Int × Int × Bool)
 | 0, _, _, _, _, _, _, _, _, _, _, _, _, _, _, _, _, _ => none
 | k + 1, x2, x52, x505000, x505001, x505002, x505003, x505004, x505005, x505006, x505007, x505008, x505009, x505010, x506000, x506001, x506002, x506003 => if x52 = true then (some (x505000, x505001, x505002, x505003, x505004, x505005, x505006, x505007, x505008, x505009, x505010)) else (some (x505000, true, x506000, x506001, x506002, x506003, x2, 3, x505008, x505009, x505010))
def impl_Claim.j2 : Nat → Int → Bool → Bool → Bool → Int → Int → Int → Int → Int → Int → Int → Int → Bool → Int → Int → Int → Int → Option (Bool × Bool × Int × Int × Int × Int × Int × Int × Int × Int × Bool)
 | 0, _, _, _, _, _, _, _, _, _, _, _, _, _, _, _, _, _ => none
 | k + 1, x2, x52, x505000, x505001, x505002, x505003, x505004, x505005, x505006, x505007, x505008, x505009, x505010, x506000, x506001, x506002, x506003 => if x52 = true then (some (x505000, x505001, x505002, x505003, x505004, x505005, x505006, x505007, x505008, x505009, x505010)) else (some (x505000, true, x506000, x506001, x506002, x506003, x2, 3, x505008, x505009, x505010))
end
def impl_Claim.f (k : Nat) (a0_0 : Bool) (a0_1 : Bool) (a0_2 : Int) (a0_3 : Int) (a0_4 : Int) (a0_5 : Int) (a0_6 : Int) (a0_7 : Int) (a0_8 : Int) (a0_9 : Int) (a0_10 : Bool) (a1_0 : Int) (a1_1 : Int) (a1_2 : Int) (a1_3 : Int) (a2 : Int) : Option (Bool × Bool × Int × Int × Int × Int × Int × Int × Int × Int × Bool) := if a0_0 = true then ((impl_isHops.f a2).bind fun t507 => (if t507 = true then ((impl_VecOk.f a1_0 a1_1 a1_2 a1_3).bind fun t508 => (if t508 = true then ((impl_PortOk.f k a0_0 a0_1 a0_2 a0_3 a0_4 a0_5 a0_6 a0_7 a0_8 a0_9 a0_10).bind fun t509 => (impl_Claim.j0 k a2 (!t509) a0_0 a0_1 a0_2 a0_3 a0_4 a0_5 a0_6 a0_7 a0_8 a0_9 a0_10 a1_0 a1_1 a1_2 a1_3)) else (impl_Claim.j0 k a2 true a0_0 a0_1 a0_2 a0_3 a0_4 a0_5 a0_6 a0_7 a0_8 a0_9 a0_10 a1_0 a1_1 a1_2 a1_3))) else (impl_Claim.j0 k a2 true a0_0 a0_1 a0_2 a0_3 a0_4 a0_5 a0_6 a0_7 a0_8 a0_9 a0_10 a1_0 a1_1 a1_2 a1_3))) else (impl_Claim.j0 k a2 true a0_0 a0_1 a0_2 a0_3 a0_4 a0_5 a0_6 a0_7 a0_8 a0_9 a0_10 a1_0 a1_1 a1_2 a1_3)
theorem impl_Claim.mono_l : ∀ k, (∀ y0 y1 y2 y3 y4 y5 y6 y7 y8 y9 y10 y11 y12 y13 y14 y15 y16, LeO (impl_Claim.j0 k y0 y1 y2 y3 y4 y5 y6 y7 y8 y9 y10 y11 y12 y13 y14 y15 y16) (impl_Claim.j0 (k + 1) y0 y1 y2 y3 y4 y5 y6 y7 y8 y9 y10 y11 y12 y13 y14 y15 y16)) ∧ (∀ y0 y1 y2 y3 y4 y5 y6 y7 y8 y9 y10 y11 y12 y13 y14 y15 y16, LeO (impl_Claim.j1 k y0 y1 y2 y3 y4 y5 y6 y7 y8 y9 y10 y11 y12 y13 y14 y15 y16) (impl_Claim.j1 (k + 1) y0 y1 y2 y3 y4 y5 y6 y7 y8 y9 y10 y11 y12 y13 y14 y15 y16)) ∧ (∀ y0 y1 y2 y3 y4 y5 y6 y7 y8 y9 y10 y11 y12 y13 y14 y15 y16, LeO (impl_Claim.j2 k y0 y1 y2 y3 y4 y5 y6 y7 y8 y9 y10 y11 y12 y13 y14 y15 y16) (impl_Claim.j2 (k + 1) y0 y1 y2 y3 y4 y5 y6 y7 y8 y9 y10 y11 y12 y13 y14 y15 y16))
 | 0 => ⟨fun _ _ _ _ _ _ _ _ _ _ _ _ _ _ _ _ _ r h => by simp [impl_Claim.j0] at h, fun _ _ _ _ _ _ _ _ _ _ _ _ _ _ _ _ _ r h => by simp [impl_Claim.j1] at h, fun _ _ _ _ _ _ _ _ _ _ _ _ _ _ _ _ _ r h => by simp [impl_Claim.j2] at h⟩
 | k + 1 => by
  obtain ⟨ih0, ih1, ih2⟩ := impl_Claim.mono_l k
  refine ⟨?_, ?_, ?_⟩
  ·intro y0 y1 y2 y3 y4 y5 y6 y7 y8 y9 y10 y11 y12 y13 y14 y15 y16
   unfold impl_Claim.j0
   repeat' first
   | (with_reducible exact ih0 _ _ _ _ _ _ _ _ _ _ _ _ _ _ _ _ _)
   | (with_reducible exact ih1 _ _ _ _ _ _ _ _ _ _ _ _ _ _ _ _ _)
   | (with_reducible exact ih2 _ _ _ _ _ _ _ _ _ _ _ _ _ _ _ _ _)
   | (with_reducible exact impl_Better.mono _ _ _ _ _ _ _ _ _)
   | (with_reducible exact impl_PortOk.mono _ _ _ _ _ _ _ _ _ _ _ _)
   | (with_reducible exact LeO.refl _)
   | (with_reducible exact LeO.none _)
   | (with_reducible refine LeO.ite ?_ ?_)
   | (with_reducible refine LeO.bind ?_ (fun _ => ?_))
   | exact ih0 _ _ _ _ _ _ _ _ _ _ _ _ _ _ _ _ _
   | exact ih1 _ _ _ _ _ _ _ _ _ _ _ _ _ _ _ _ _
   | exact ih2 _ _ _ _ _ _ _ _ _ _ _ _ _ _ _ _ _
   | exact impl_Better.mono _ _ _ _ _ _ _ _ _
   | exact impl_PortOk.mono _ _ _ _ _ _ _ _ _ _ _ _
   | exact LeO.none _
   | refine LeO.ite ?_ ?_
   | refine LeO.bind ?_ (fun _ => ?_)
  ·intro y0 y1 y2 y3 y4 y5 y6 y7 y8 y9 y10 y11 y12 y13 y14 y15 y16
   unfold impl_Claim.j1
   repeat' first
   | (with_reducible exact ih0 _ _ _ _ _ _ _ _ _ _ _ _ _ _ _ _ _)
   | (with_reducible exact ih1 _ _ _ _ _ _ _ _ _ _ _ _ _ _ _ _ _)
   | (with_reducible exact ih2 _ _ _ _ _ _ _ _ _ _ _ _ _ _ _ _ _)
   | (with_reducible exact impl_Better.mono _ _ _ _ _ _ _ _ _)
   | (with_reducible exact impl_PortOk.mono _ _ _ _ _ _ _ _ _ _ _ _)
   | (with_reducible exact LeO.refl _)
   | (with_reducible exact LeO.none _)
   | (with_reducible refine LeO.ite ?_ ?_)
   | (with_reducible refine LeO.bind ?_ (fun _ => ?_))
   | exact ih0 _ _ _ _ _ _ _ _ _ _ _ _ _ _ _ _ _
   | exact ih1 _ _ _ _ _ _ _ _ _ _ _ _ _ _ _ _ _
   | exact ih2 _ _ _ _ _ _ _ _ _ _ _ _ _ _ _ _ _
   | exact impl_Better.mono _ _ _ _ _ _ _ _ _
   | exact impl_PortOk.mono _ _ _ _ _ _ _ _ _ _ _ _
   | exact LeO.none _
   | refine LeO.ite ?_ ?_
   | refine LeO.bind ?_ (fun _ => ?_)
  ·intro y0 y1 y2 y3 y4 y5 y6 y7 y8 y9 y10 y11 y12 y13 y14 y15 y16
   unfold impl_Claim.j2
   repeat' first
   | (with_reducible exact ih0 _ _ _ _ _ _ _ _ _ _ _ _ _ _ _ _ _)
   | (with_reducible exact ih1 _ _ _ _ _ _ _ _ _ _ _ _ _ _ _ _ _)
   | (with_reducible exact ih2 _ _ _ _ _ _ _ _ _ _ _ _ _ _ _ _ _)
   | (with_reducible exact impl_Better.mono _ _ _ _ _ _ _ _ _)
   | (with_reducible exact impl_PortOk.mono _ _ _ _ _ _ _ _ _ _ _ _)
   | (with_reducible exact LeO.refl _)
   | (with_reducible exact LeO.none _)
   | (with_reducible refine LeO.ite ?_ ?_)
   | (with_reducible refine LeO.bind ?_ (fun _ => ?_))
   | exact ih0 _ _ _ _ _ _ _ _ _ _ _ _ _ _ _ _ _
   | exact ih1 _ _ _ _ _ _ _ _ _ _ _ _ _ _ _ _ _
   | exact ih2 _ _ _ _ _ _ _ _ _ _ _ _ _ _ _ _ _
   | exact impl_Better.mono _ _ _ _ _ _ _ _ _
   | exact impl_PortOk.mono _ _ _ _ _ _ _ _ _ _ _ _
   | exact LeO.none _
   | refine LeO.ite ?_ ?_
   | refine LeO.bind ?_ (fun _ => ?_)
theorem impl_Claim.mono : ∀ a0 a1 a2 a3 a4 a5 a6 a7 a8 a9 a10 a11 a12 a13 a14 a15 k, LeO (impl_Claim.f k a0 a1 a2 a3 a4 a5 a6 a7 a8 a9 a10 a11 a12 a13 a14 a15) (impl_Claim.f (k + 1) a0 a1 a2 a3 a4 a5 a6 a7 a8 a9 a10 a11 a12 a13 a14 a15) := by
 intro a0 a1 a2 a3 a4 a5 a6 a7 a8 a9 a10 a11 a12 a13 a14 a15 k
 obtain ⟨ih0, ih1, ih2⟩ := impl_Claim.mono_l k
 unfold impl_Claim.f
 repeat' first
   | (with_reducible exact ih0 _ _ _ _ _ _ _ _ _ _ _ _ _ _ _ _ _)
   | (with_reducible exact ih1 _ _ _ _ _ _ _ _ _ _ _ _ _ _ _ _ _)
   | (with_reducible exact ih2 _ _ _ _ _ _ _ _ _ _ _ _ _ _ _ _ _)
   | (with_reducible exact impl_Better.mono _ _ _ _ _ _ _ _ _)
   | (with_reducible exact impl_PortOk.mono _ _ _ _ _ _ _ _ _ _ _ _)
   | (with_reducible exact LeO.refl _)
   | (with_reducible exact LeO.none _)
   | (with_reducible refine LeO.ite ?_ ?_)
   | (with_reducible refine LeO.bind ?_ (fun _ => ?_))
   | exact ih0 _ _ _ _ _ _ _ _ _ _ _ _ _ _ _ _ _
   | exact ih1 _ _ _ _ _ _ _ _ _ _ _ _ _ _ _ _ _
   | exact ih2 _ _ _ _ _ _ _ _ _ _ _ _ _ _ _ _ _
   | exact impl_Better.mono _ _ _ _ _ _ _ _ _
   | exact impl_PortOk.mono _ _ _ _ _ _ _ _ _ _ _ _
   | exact LeO.none _
   | refine LeO.ite ?_ ?_
   | refine LeO.bind ?_ (fun _ => ?_)
def impl_Claim.T6 : Bool × List (List Nat × List Nat) := (true, [([], []), ([], []), ([], []), ([2], [2]), ([0, 2, 3], []), ([4, 0, 3, 0, 2, 3], [0, 4]), ([0, 1, 2, 3, 4, 5], []), ([6, 1, 5, 0, 1, 2, 3, 4, 5], [1, 6]), ([0, 1, 2, 3, 4, 5, 6, 7], []), ([8, 7, 0, 1, 2, 3, 4, 5, 6, 7], [8])])
def impl_Claim.B6 : List Nat := [0, 0, 0, 4, 13, 29, 63, 127, 255, 511]
theorem impl_Claim.tab6 : rtab .any (opsOf Try.f19 6) = impl_Claim.T6 := by kernel_rfl
theorem impl_Claim.bits6 : waitsOk impl_Claim.T6.2 impl_Claim.B6 = true := by kernel_rfl
set_option maxHeartbeats 60000000 in
set_option maxRecDepth 100000 in
theorem impl_Claim.calls (k : Nat) (a0_0 : Bool) (a0_1 : Bool) (a0_2 : Int) (a0_3 : Int) (a0_4 : Int) (a0_5 : Int) (a0_6 : Int) (a0_7 : Int) (a0_8 : Int) (a0_9 : Int) (a0_10 : Bool) (a1_0 : Int) (a1_1 : Int) (a1_2 : Int) (a1_3 : Int) (a2 : Int) (r1 : Bool) (r2 : Bool) (r3 : Int) (r4 : Int) (r5 : Int) (r6 : Int) (r7 : Int) (r8 : Int) (r9 : Int) (r10 : Int) (r11 : Bool) (w : World) (h : impl_Claim.f k a0_0 a0_1 a0_2 a0_3 a0_4 a0_5 a0_6 a0_7 a0_8 a0_9 a0_10 a1_0 a1_1 a1_2 a1_3 a2 = some (r1, r2, r3, r4, r5, r6, r7, r8, r9, r10, r11)) :
  Calls Try.prog 19 #[.agg #[.bool a0_0, .bool a0_1, .int .i64 a0_2, .int .i64 a0_3, .int .i64 a0_4, .int .i64 a0_5, .int .i64 a0_6, .int .i64 a0_7, .int .i64 a0_8, .int .i64 a0_9, .bool a0_10], .agg #[.int .i64 a1_0, .int .i64 a1_1, .int .i64 a1_2, .int .i64 a1_3], .int .i64 a2] w fun e w' => e = .returned (.agg #[.bool r1, .bool r2, .int .i64 r3, .int .i64 r4, .int .i64 r5, .int .i64 r6, .int .i64 r7, .int .i64 r8, .int .i64 r9, .int .i64 r10, .bool r11]) ∧ Below w.heap.size w w' := by
 have hu38 := Try.underlying38
 have hu36 := Try.underlying36
 have HB := aM (Below.refl w.heap.size w)
 have H : (if a0_0 = true then ((impl_isHops.f a2).bind fun t507 => (if t507 = true then ((impl_VecOk.f a1_0 a1_1 a1_2 a1_3).bind fun t508 => (if t508 = true then ((impl_PortOk.f k a0_0 a0_1 a0_2 a0_3 a0_4 a0_5 a0_6 a0_7 a0_8 a0_9 a0_10).bind fun t509 => (impl_Claim.j0 k a2 (!t509) a0_0 a0_1 a0_2 a0_3 a0_4 a0_5 a0_6 a0_7 a0_8 a0_9 a0_10 a1_0 a1_1 a1_2 a1_3)) else (impl_Claim.j0 k a2 true a0_0 a0_1 a0_2 a0_3 a0_4 a0_5 a0_6 a0_7 a0_8 a0_9 a0_10 a1_0 a1_1 a1_2 a1_3))) else (impl_Claim.j0 k a2 true a0_0 a0_1 a0_2 a0_3 a0_4 a0_5 a0_6 a0_7 a0_8 a0_9 a0_10 a1_0 a1_1 a1_2 a1_3))) else (impl_Claim.j0 k a2 true a0_0 a0_1 a0_2 a0_3 a0_4 a0_5 a0_6 a0_7 a0_8 a0_9 a0_10 a1_0 a1_1 a1_2 a1_3)) = some (r1, r2, r3, r4, r5, r6, r7, r8, r9, r10, r11) := h
 clear h
 have HC4 := aM H
 clear H
 go_enter Try.func19, Try.ntmps19
 go_upto_region 1 with (first | ((with_reducible refine gD (N := 3) rfl ?_); refine bE (N := 3) (cs := #[.bool a0_0, .bool a0_1, .int .i64 a0_2, .int .i64 a0_3, .int .i64 a0_4, .int .i64 a0_5, .int .i64 a0_6, .int .i64 a0_7, .int .i64 a0_8, .int .i64 a0_9, .bool a0_10]) (t := 38) ?_; intro gb504 hg w5 hbox hb; have BK504 := aM (hbox); have GW504 := gE hg (below_size (bl HB.out)); have GE504 := gE hg (below_size (bl HB.out)); replace HB := aM (bS (bl HB.out) hb); clear hb hbox hg) | ((with_reducible refine gD (N := 4) rfl ?_); refine bE (N := 4) (cs := #[.int .i64 a1_0, .int .i64 a1_1, .int .i64 a1_2, .int .i64 a1_3]) (t := 36) ?_; intro gb505 hg w6 hbox hb; have BK505 := aM (hbox); have GW505 := gE hg (below_size (bl HB.out)); have GE505 := gE hg (below_size (bl HB.out)); have NB504_505 := nL hg (blk_lt (bk BK504.out)); have NB505_504 := nG hg (blk_lt (bk BK504.out)); replace BK504 := aM (bB (bk BK504.out) hb); replace HB := aM (bS (bl HB.out) hb); clear hb hbox hg) | ((with_reducible refine gD (N := 6) rfl ?_); refine bE (N := 6) (cs := #[.bool false, .bool false, .int .i64 0, .int .i64 0, .int .i64 0, .int .i64 0, .int .i64 0, .int .i64 0, .int .i64 0, .int .i64 0, .bool false]) (t := 38) ?_; intro gb506 hg w7 hbox hb; have BK506 := aM (hbox); have GW506 := gE hg (below_size (bl HB.out)); have GE506 := gE hg (below_size (bl HB.out)); have NB504_506 := nL hg (blk_lt (bk BK504.out)); have NB506_504 := nG hg (blk_lt (bk BK504.out)); have NB505_506 := nL hg (blk_lt (bk BK505.out)); have NB506_505 := nG hg (blk_lt (bk BK505.out)); replace BK504 := aM (bB (bk BK504.out) hb); replace BK505 := aM (bB (bk BK505.out) hb); replace HB := aM (bS (bl HB.out) hb); clear hb hbox hg))
 (try simp only [Act.put, sA, sZ, sS])
 go_cut [25] (fun v25 wc => ∃ (kq : Nat) (x25_3 : Bool), v25 = .bool x25_3 ∧ Aside0 (impl_Claim.j0 kq a2 x25_3 a0_0 a0_1 a0_2 a0_3 a0_4 a0_5 a0_6 a0_7 a0_8 a0_9 a0_10 a1_0 a1_1 a1_2 a1_3 = some (r1, r2, r3, r4, r5, r6, r7, r8, r9, r10, r11)) ∧ Aside0 (kq ≤ k) ∧ Aside0 (wc.heap[gb504]? = some (.cells #[.bool a0_0, .bool a0_1, .int .i64 a0_2, .int .i64 a0_3, .int .i64 a0_4, .int .i64 a0_5, .int .i64 a0_6, .int .i64 a0_7, .int .i64 a0_8, .int .i64 a0_9, .bool a0_10] 38 (0, 0))) ∧ Aside0 (wc.heap[gb505]? = some (.cells #[.int .i64 a1_0, .int .i64 a1_1, .int .i64 a1_2, .int .i64 a1_3] 36 (0, 0))) ∧ Aside0 (wc.heap[gb506]? = some (.cells #[.bool false, .bool false, .int .i64 0, .int .i64 0, .int .i64 0, .int .i64 0, .int .i64 0, .int .i64 0, .int .i64 0, .int .i64 0, .bool false] 38 (0, 0))) ∧ Aside0 (Below w.heap.size w wc))
 case first =>
  have H := HC4.out
  clear HC4
  by_cases c8 : a0_0 = true
  case neg =>
   replace c8 := Bool.eq_false_iff.mpr c8
   subst c8
   replace H := hN H (show ¬ (false = true) by decide)
   have H' := aM H
   clear H
   have hnb31 := NB504_505.out
   have hnc31 := NB505_504.out
   have hnb32 := NB504_506.out
   have hnc32 := NB506_504.out
   have hcz33 := cA11 BK504.out
   go_wp2
   go_meet
   case rel => exact ⟨_, (true), xE, H', ⟨by first | omega | exact Nat.le_refl _⟩, ⟨by (with_reducible repeat (first | refine blk_drewN ?_ _ | refine blk_drew ?_ | refine blk_alloc ?_ _)); exact BK504.out⟩, ⟨by (with_reducible repeat (first | refine blk_drewN ?_ _ | refine blk_drew ?_ | refine blk_alloc ?_ _)); exact BK505.out⟩, ⟨by (with_reducible repeat (first | refine blk_drewN ?_ _ | refine blk_drew ?_ | refine blk_alloc ?_ _)); exact BK506.out⟩, ⟨bl HB.out⟩⟩
  subst c8
  replace H := hP H rfl
  obtain ⟨t507, A90, H⟩ := hB H
  have A9 := aM A90
  clear A90
  by_cases c10 : t507 = true
  case neg =>
   replace c10 := Bool.eq_false_iff.mpr c10
   subst c10
   replace H := hN H (show ¬ (false = true) by decide)
   have H' := aM H
   clear H
   have hnb28 := NB504_505.out
   have hnc28 := NB505_504.out
   have hnb29 := NB504_506.out
   have hnc29 := NB506_504.out
   have hcz30 := cA11 BK504.out
   go_wp2_with (first | (go_at_call 61; (with_reducible refine (impl_isHops.calls a2 false _ A9.out).mono ?_); rintro e w' ⟨rfl, ⟨nd, rfl⟩⟩))
   go_meet
   case rel => exact ⟨_, (true), xE, H', ⟨by first | omega | exact Nat.le_refl _⟩, ⟨by (with_reducible repeat (first | refine blk_drewN ?_ _ | refine blk_drew ?_ | refine blk_alloc ?_ _)); exact BK504.out⟩, ⟨by (with_reducible repeat (first | refine blk_drewN ?_ _ | refine blk_drew ?_ | refine blk_alloc ?_ _)); exact BK505.out⟩, ⟨by (with_reducible repeat (first | refine blk_drewN ?_ _ | refine blk_drew ?_ | refine blk_alloc ?_ _)); exact BK506.out⟩, ⟨bl HB.out⟩⟩
  subst c10
  replace H := hP H rfl
  obtain ⟨t508, A110, H⟩ := hB H
  have A11 := aM A110
  clear A110
  by_cases c12 : t508 = true
  case neg =>
   replace c12 := Bool.eq_false_iff.mpr c12
   subst c12
   replace H := hN H (show ¬ (false = true) by decide)
   have H' := aM H
   clear H
   have hnb22 := NB504_505.out
   have hnc22 := NB505_504.out
   have hnb23 := NB504_506.out
   have hnc23 := NB506_504.out
   have hcz24 := cA11 BK504.out
   go_wp2_with (first | (go_at_call 61; (with_reducible refine (impl_isHops.calls a2 true _ A9.out).mono ?_); rintro e w' ⟨rfl, ⟨nd, rfl⟩⟩; have hnb25 := NB505_506.out; have hnc25 := NB506_505.out; have hcz26 := cA4 BK505.out) | (go_at_call 62; (with_reducible refine (impl_VecOk.calls a1_0 a1_1 a1_2 a1_3 false _ A11.out).mono ?_); rintro e w27 ⟨rfl, hb⟩; replace BK504 := aM (bB (bk BK504.out) hb); replace BK505 := aM (bB (bk BK505.out) hb); replace BK506 := aM (bB (bk BK506.out) hb); replace HB := aM (bS (bl HB.out) hb); (try clear hb)))
   go_meet
   case rel => exact ⟨_, (true), xE, H', ⟨by first | omega | exact Nat.le_refl _⟩, ⟨by (with_reducible repeat (first | refine blk_drewN ?_ _ | refine blk_drew ?_ | refine blk_alloc ?_ _)); exact BK504.out⟩, ⟨by (with_reducible repeat (first | refine blk_drewN ?_ _ | refine blk_drew ?_ | refine blk_alloc ?_ _)); exact BK505.out⟩, ⟨by (with_reducible repeat (first | refine blk_drewN ?_ _ | refine blk_drew ?_ | refine blk_alloc ?_ _)); exact BK506.out⟩, ⟨bl HB.out⟩⟩
  subst c12
  replace H := hP H rfl
  obtain ⟨t509, A130, H⟩ := hB H
  have A13 := aM A130
  clear A130
  have H' := aM H
  clear H
  have hnb14 := NB504_505.out
  have hnc14 := NB505_504.out
  have hnb15 := NB504_506.out
  have hnc15 := NB506_504.out
  have hcz16 := cA11 BK504.out
  go_wp2_with (first | (go_at_call 61; (with_reducible refine (impl_isHops.calls a2 true _ A9.out).mono ?_); rintro e w' ⟨rfl, ⟨nd, rfl⟩⟩; have hnb17 := NB505_506.out; have hnc17 := NB506_505.out; have hcz18 := cA4 BK505.out) | (go_at_call 62; (with_reducible refine (impl_VecOk.calls a1_0 a1_1 a1_2 a1_3 true _ A11.out).mono ?_); rintro e w19 ⟨rfl, hb⟩; replace BK504 := aM (bB (bk BK504.out) hb); replace BK505 := aM (bB (bk BK505.out) hb); replace BK506 := aM (bB (bk BK506.out) hb); replace HB := aM (bS (bl HB.out) hb); (try clear hb); have hcz20 := cA11 BK504.out) | (go_at_call 28; (with_reducible refine (impl_PortOk.calls k true a0_1 a0_2 a0_3 a0_4 a0_5 a0_6 a0_7 a0_8 a0_9 a0_10 t509 _ A13.out).mono ?_); rintro e w21 ⟨rfl, hb⟩; replace BK504 := aM (bB (bk BK504.out) hb); replace BK505 := aM (bB (bk BK505.out) hb); replace BK506 := aM (bB (bk BK506.out) hb); replace HB := aM (bS (bl HB.out) hb); (try clear hb)))
  go_meet
  case rel => exact ⟨_, (!t509), xE, H', ⟨by first | omega | exact Nat.le_refl _⟩, ⟨by (with_reducible repeat (first | refine blk_drewN ?_ _ | refine blk_drew ?_ | refine blk_alloc ?_ _)); exact BK504.out⟩, ⟨by (with_reducible repeat (first | refine blk_drewN ?_ _ | refine blk_drew ?_ | refine blk_alloc ?_ _)); exact BK505.out⟩, ⟨by (with_reducible repeat (first | refine blk_drewN ?_ _ | refine blk_drew ?_ | refine blk_alloc ?_ _)); exact BK506.out⟩, ⟨bl HB.out⟩⟩
 case rest =>
  clear HC4
  try clear c1
  try clear c2
  try clear p2
  try clear c3
  try clear c8
  try clear c10
  try clear c12
  try clear c14
  try clear c15
  try clear c17
  try clear c19
  try clear c22
  try clear c23
  try clear c25
  try clear c28
  try clear c29
  try clear c31
  try clear c32
  try clear hcz16
  try clear hcz16_1
  try clear hcz16_10
  try clear hcz16_2
  try clear hcz16_3
  try clear hcz16_4
  try clear hcz16_5
  try clear hcz16_6
  try clear hcz16_7
  try clear hcz16_8
  try clear hcz16_9
  try clear hcz18
  try clear hcz20
  try clear hcz24
  try clear hcz24_1
  try clear hcz24_10
  try clear hcz24_2
  try clear hcz24_3
  try clear hcz24_4
  try clear hcz24_5
  try clear hcz24_6
  try clear hcz24_7
  try clear hcz24_8
  try clear hcz24_9
  try clear hcz26
  try clear hcz30
  try clear hcz30_1
  try clear hcz30_10
  try clear hcz30_2
  try clear hcz30_3
  try clear hcz30_4
  try clear hcz30_5
  try clear hcz30_6
  try clear hcz30_7
  try clear hcz30_8
  try clear hcz30_9
  try clear hcz33
  try clear hcz33_1
  try clear hcz33_10
  try clear hcz33_2
  try clear hcz33_3
  try clear hcz33_4
  try clear hcz33_5
  try clear hcz33_6
  try clear hcz33_7
  try clear hcz33_8
  try clear hcz33_9
  try clear hfz16_0
  try clear hfz16_1
  try clear hfz16_10
  try clear hfz16_2
  try clear hfz16_3
  try clear hfz16_4
  try clear hfz16_5
  try clear hfz16_6
  try clear hfz16_7
  try clear hfz16_8
  try clear hfz16_9
  try clear hfz24_0
  try clear hfz24_1
  try clear hfz24_10
  try clear hfz24_2
  try clear hfz24_3
  try clear hfz24_4
  try clear hfz24_5
  try clear hfz24_6
  try clear hfz24_7
  try clear hfz24_8
  try clear hfz24_9
  try clear hfz30_0
  try clear hfz30_1
  try clear hfz30_10
  try clear hfz30_2
  try clear hfz30_3
  try clear hfz30_4
  try clear hfz30_5
  try clear hfz30_6
  try clear hfz30_7
  try clear hfz30_8
  try clear hfz30_9
  try clear hfz33_0
  try clear hfz33_1
  try clear hfz33_10
  try clear hfz33_2
  try clear hfz33_3
  try clear hfz33_4
  try clear hfz33_5
  try clear hfz33_6
  try clear hfz33_7
  try clear hfz33_8
  try clear hfz33_9
  obtain ⟨kq, x25_3, rfl, HA, HJ3, BK504, BK505, BK506, HB⟩ := hcut
  cases kq with
  | zero => exact absurd HA.out (by simp [impl_Claim.j0])
  | succ kj3 =>
   have H := HA.out
   clear HA
   simp only [impl_Claim.j0] at H
   by_cases c34 : x25_3 = true
   case pos =>
    subst c34
    replace H := hP H rfl
    simp only [Option.some.injEq, Prod.mk.injEq] at H
    obtain ⟨rfl, rfl, rfl, rfl, rfl, rfl, rfl, rfl, rfl, rfl, rfl⟩ := H
    have hnb35 := NB504_505.out
    have hnc35 := NB505_504.out
    have hnb36 := NB504_506.out
    have hnc36 := NB506_504.out
    have hcz37 := cA11 BK504.out
    have hnb38 := NB506_505.out
    have hnc38 := NB505_506.out
    have hcz39 := cA11 BK506.out
    go_wp2
    refine bodyPost_ret (results_cell_row rfl _ _ gb506 38 #[.bool a0_0, .bool a0_1, .int .i64 a0_2, .int .i64 a0_3, .int .i64 a0_4, .int .i64 a0_5, .int .i64 a0_6, .int .i64 a0_7, .int .i64 a0_8, .int .i64 a0_9, .bool a0_10] (0, 0) _ rfl (bm BK506.out) Try.underlying38 rfl (by kernel_rfl)) rfl ?_
    exact ⟨xW, bl HB.out⟩
   replace c34 := Bool.eq_false_iff.mpr c34
   subst c34
   replace H := hN H (show ¬ (false = true) by decide)
   by_cases c40 : a1_2 = a0_4
   case pos =>
    rw [if_pos c40] at H
    have c40b0 : (a1_2 == a0_4) = true := beq_iff_eq.mpr c40
    have c40b1 : (a1_2 != a0_4) = false := bne_eq_false_iff_eq.mpr c40
    clear c40
    have HC41 := aM H
    clear H
    have hnb42 := NB505_504.out
    have hnc42 := NB504_505.out
    have hnb43 := NB505_506.out
    have hnc43 := NB506_505.out
    have hcz44 := cA4 BK505.out
    have hnb45 := NB504_506.out
    have hnc45 := NB506_504.out
    have hcz46 := cA11 BK504.out
    go_upto_region 4 with (fail)
    go_cut [52] (fun v52 wc => ∃ (kq : Nat) (x52_40 : Bool), v52 = .bool x52_40 ∧ Aside0 (impl_Claim.j1 kq a2 x52_40 a0_0 a0_1 a0_2 a0_3 a0_4 a0_5 a0_6 a0_7 a0_8 a0_9 a0_10 a1_0 a1_1 a1_2 a1_3 = some (r1, r2, r3, r4, r5, r6, r7, r8, r9, r10, r11)) ∧ Aside0 (kq ≤ kj3) ∧ Aside0 (wc.heap[gb504]? = some (.cells #[.bool a0_0, .bool a0_1, .int .i64 a0_2, .int .i64 a0_3, .int .i64 a0_4, .int .i64 a0_5, .int .i64 a0_6, .int .i64 a0_7, .int .i64 a0_8, .int .i64 a0_9, .bool a0_10] 38 (0, 0))) ∧ Aside0 (wc.heap[gb505]? = some (.cells #[.int .i64 a1_0, .int .i64 a1_1, .int .i64 a1_2, .int .i64 a1_3] 36 (0, 0))) ∧ Aside0 (wc.heap[gb506]? = some (.cells #[.bool false, .bool false, .int .i64 0, .int .i64 0, .int .i64 0, .int .i64 0, .int .i64 0, .int .i64 0, .int .i64 0, .int .i64 0, .bool false] 38 (0, 0))) ∧ Aside0 (Below w.heap.size w wc))
    case first =>
     have H := HC41.out
     clear HC41
     by_cases c47 : a0_1 = true
     case neg =>
      replace c47 := Bool.eq_false_iff.mpr c47
      subst c47
      replace H := hN H (show ¬ (false = true) by decide)
      have H' := aM H
      clear H
      have hnb62 := NB504_505.out
      have hnc62 := NB505_504.out
      have hnb63 := NB504_506.out
      have hnc63 := NB506_504.out
      have hcz64 := cA11 BK504.out
      go_wp2
      go_meet
      case rel => exact ⟨_, (false), xE, H', ⟨by have := HJ3.out; first | omega | exact Nat.le_refl _⟩, ⟨by (with_reducible repeat (first | refine blk_drewN ?_ _ | refine blk_drew ?_ | refine blk_alloc ?_ _)); exact BK504.out⟩, ⟨by (with_reducible repeat (first | refine blk_drewN ?_ _ | refine blk_drew ?_ | refine blk_alloc ?_ _)); exact BK505.out⟩, ⟨by (with_reducible repeat (first | refine blk_drewN ?_ _ | refine blk_drew ?_ | refine blk_alloc ?_ _)); exact BK506.out⟩, ⟨bl HB.out⟩⟩
     subst c47
     replace H := hP H rfl
     obtain ⟨t510, A480, H⟩ := hB H
     have A48 := aM A480
     clear A480
     by_cases c49 : t510 = true
     case pos =>
      subst c49
      replace H := hP H rfl
      have H' := aM H
      clear H
      have hnb50 := NB504_505.out
      have hnc50 := NB505_504.out
      have hnb51 := NB504_506.out
      have hnc51 := NB506_504.out
      have hcz52 := cA11 BK504.out
      have hnb53 := NB505_506.out
      have hnc53 := NB506_505.out
      have hcz54 := cA4 BK505.out
      go_wp2_with (first | (go_at_call 63; (with_reducible refine (impl_Better.calls kj3 a0_2 a0_3 a0_4 a0_5 a1_0 a1_1 a1_2 a1_3 true _ A48.out).mono ?_); rintro e w55 ⟨rfl, hb⟩; replace BK504 := aM (bB (bk BK504.out) hb); replace BK505 := aM (bB (bk BK505.out) hb); replace BK506 := aM (bB (bk BK506.out) hb); replace HB := aM (bS (bl HB.out) hb); (try clear hb)))
      go_meet
      case rel => exact ⟨_, (!(a1_3 == a0_5)), xE, H', ⟨by have := HJ3.out; first | omega | exact Nat.le_refl _⟩, ⟨by (with_reducible repeat (first | refine blk_drewN ?_ _ | refine blk_drew ?_ | refine blk_alloc ?_ _)); exact BK504.out⟩, ⟨by (with_reducible repeat (first | refine blk_drewN ?_ _ | refine blk_drew ?_ | refine blk_alloc ?_ _)); exact BK505.out⟩, ⟨by (with_reducible repeat (first | refine blk_drewN ?_ _ | refine blk_drew ?_ | refine blk_alloc ?_ _)); exact BK506.out⟩, ⟨bl HB.out⟩⟩
     replace c49 := Bool.eq_false_iff.mpr c49
     subst c49
     replace H := hN H (show ¬ (false = true) by decide)
     have H' := aM H
     clear H
     have hnb56 := NB504_505.out
     have hnc56 := NB505_504.out
     have hnb57 := NB504_506.out
     have hnc57 := NB506_504.out
     have hcz58 := cA11 BK504.out
     have hnb59 := NB505_506.out
     have hnc59 := NB506_505.out
     have hcz60 := cA4 BK505.out
     go_wp2_with (first | (go_at_call 63; (with_reducible refine (impl_Better.calls kj3 a0_2 a0_3 a0_4 a0_5 a1_0 a1_1 a1_2 a1_3 false _ A48.out).mono ?_); rintro e w61 ⟨rfl, hb⟩; replace BK504 := aM (bB (bk BK504.out) hb); replace BK505 := aM (bB (bk BK505.out) hb); replace BK506 := aM (bB (bk BK506.out) hb); replace HB := aM (bS (bl HB.out) hb); (try clear hb)))
     go_meet
     case rel => exact ⟨_, (false), xE, H', ⟨by have := HJ3.out; first | omega | exact Nat.le_refl _⟩, ⟨by (with_reducible repeat (first | refine blk_drewN ?_ _ | refine blk_drew ?_ | refine blk_alloc ?_ _)); exact BK504.out⟩, ⟨by (with_reducible repeat (first | refine blk_drewN ?_ _ | refine blk_drew ?_ | refine blk_alloc ?_ _)); exact BK505.out⟩, ⟨by (with_reducible repeat (first | refine blk_drewN ?_ _ | refine blk_drew ?_ | refine blk_alloc ?_ _)); exact BK506.out⟩, ⟨bl HB.out⟩⟩
    case rest =>
     clear HC41
     try clear c1
     try clear c2
     try clear p2
     try clear c3
     try clear c4
     try clear c5
     try clear c6
     try clear c8
     try clear c10
     try clear c12
     try clear c14
     try clear c15
     try clear c17
     try clear c19
     try clear c22
     try clear c23
     try clear c25
     try clear c28
     try clear c29
     try clear c31
     try clear c32
     try clear c34
     try clear c35
     try clear c36
     try clear c38
     try clear c40
     try clear c40b0
     try clear c40b1
     try clear c42
     try clear c43
     try clear c45
     try clear c47
     try clear c49
     try clear c50
     try clear c51
     try clear c53
     try clear c56
     try clear c57
     try clear c59
     try clear c62
     try clear c63
     try clear hcz16
     try clear hcz16_1
     try clear hcz16_10
     try clear hcz16_2
     try clear hcz16_3
     try clear hcz16_4
     try clear hcz16_5
     try clear hcz16_6
     try clear hcz16_7
     try clear hcz16_8
     try clear hcz16_9
     try clear hcz18
     try clear hcz20
     try clear hcz24
     try clear hcz24_1
     try clear hcz24_10
     try clear hcz24_2
     try clear hcz24_3
     try clear hcz24_4
     try clear hcz24_5
     try clear hcz24_6
     try clear hcz24_7
     try clear hcz24_8
     try clear hcz24_9
     try clear hcz26
     try clear hcz30
     try clear hcz30_1
     try clear hcz30_10
     try clear hcz30_2
     try clear hcz30_3
     try clear hcz30_4
     try clear hcz30_5
     try clear hcz30_6
     try clear hcz30_7
     try clear hcz30_8
     try clear hcz30_9
     try clear hcz33
     try clear hcz33_1
     try clear hcz33_10
     try clear hcz33_2
     try clear hcz33_3
     try clear hcz33_4
     try clear hcz33_5
     try clear hcz33_6
     try clear hcz33_7
     try clear hcz33_8
     try clear hcz33_9
     try clear hcz37
     try clear hcz37_1
     try clear hcz37_10
     try clear hcz37_2
     try clear hcz37_3
     try clear hcz37_4
     try clear hcz37_5
     try clear hcz37_6
     try clear hcz37_7
     try clear hcz37_8
     try clear hcz37_9
     try clear hcz39
     try clear hcz39_1
     try clear hcz39_10
     try clear hcz39_2
     try clear hcz39_3
     try clear hcz39_4
     try clear hcz39_5
     try clear hcz39_6
     try clear hcz39_7
     try clear hcz39_8
     try clear hcz39_9
     try clear hcz44
     try clear hcz44_1
     try clear hcz44_2
     try clear hcz44_3
     try clear hcz46
     try clear hcz46_1
     try clear hcz46_10
     try clear hcz46_2
     try clear hcz46_3
     try clear hcz46_4
     try clear hcz46_5
     try clear hcz46_6
     try clear hcz46_7
     try clear hcz46_8
     try clear hcz46_9
     try clear hcz52
     try clear hcz52_1
     try clear hcz52_10
     try clear hcz52_2
     try clear hcz52_3
     try clear hcz52_4
     try clear hcz52_5
     try clear hcz52_6
     try clear hcz52_7
     try clear hcz52_8
     try clear hcz52_9
     try clear hcz54
     try clear hcz54_1
     try clear hcz54_2
     try clear hcz54_3
     try clear hcz58
     try clear hcz58_1
     try clear hcz58_10
     try clear hcz58_2
     try clear hcz58_3
     try clear hcz58_4
     try clear hcz58_5
     try clear hcz58_6
     try clear hcz58_7
     try clear hcz58_8
     try clear hcz58_9
     try clear hcz60
     try clear hcz60_1
     try clear hcz60_2
     try clear hcz60_3
     try clear hcz64
     try clear hcz64_1
     try clear hcz64_10
     try clear hcz64_2
     try clear hcz64_3
     try clear hcz64_4
     try clear hcz64_5
     try clear hcz64_6
     try clear hcz64_7
     try clear hcz64_8
     try clear hcz64_9
     try clear hfz16_0
     try clear hfz16_1
     try clear hfz16_10
     try clear hfz16_2
     try clear hfz16_3
     try clear hfz16_4
     try clear hfz16_5
     try clear hfz16_6
     try clear hfz16_7
     try clear hfz16_8
     try clear hfz16_9
     try clear hfz24_0
     try clear hfz24_1
     try clear hfz24_10
     try clear hfz24_2
     try clear hfz24_3
     try clear hfz24_4
     try clear hfz24_5
     try clear hfz24_6
     try clear hfz24_7
     try clear hfz24_8
     try clear hfz24_9
     try clear hfz30_0
     try clear hfz30_1
     try clear hfz30_10
     try clear hfz30_2
     try clear hfz30_3
     try clear hfz30_4
     try clear hfz30_5
     try clear hfz30_6
     try clear hfz30_7
     try clear hfz30_8
     try clear hfz30_9
     try clear hfz33_0
     try clear hfz33_1
     try clear hfz33_10
     try clear hfz33_2
     try clear hfz33_3
     try clear hfz33_4
     try clear hfz33_5
     try clear hfz33_6
     try clear hfz33_7
     try clear hfz33_8
     try clear hfz33_9
     try clear hfz37_0
     try clear hfz37_1
     try clear hfz37_10
     try clear hfz37_2
     try clear hfz37_3
     try clear hfz37_4
     try clear hfz37_5
     try clear hfz37_6
     try clear hfz37_7
     try clear hfz37_8
     try clear hfz37_9
     try clear hfz39_0
     try clear hfz39_1
     try clear hfz39_10
     try clear hfz39_2
     try clear hfz39_3
     try clear hfz39_4
     try clear hfz39_5
     try clear hfz39_6
     try clear hfz39_7
     try clear hfz39_8
     try clear hfz39_9
     try clear hfz44_0
     try clear hfz44_1
     try clear hfz44_2
     try clear hfz44_3
     try clear hfz46_0
     try clear hfz46_1
     try clear hfz46_10
     try clear hfz46_2
     try clear hfz46_3
     try clear hfz46_4
     try clear hfz46_5
     try clear hfz46_6
     try clear hfz46_7
     try clear hfz46_8
     try clear hfz46_9
     try clear hfz52_0
     try clear hfz52_1
     try clear hfz52_10
     try clear hfz52_2
     try clear hfz52_3
     try clear hfz52_4
     try clear hfz52_5
     try clear hfz52_6
     try clear hfz52_7
     try clear hfz52_8
     try clear hfz52_9
     try clear hfz54_0
     try clear hfz54_1
     try clear hfz54_2
     try clear hfz54_3
     try clear hfz58_0
     try clear hfz58_1
     try clear hfz58_10
     try clear hfz58_2
     try clear hfz58_3
     try clear hfz58_4
     try clear hfz58_5
     try clear hfz58_6
     try clear hfz58_7
     try clear hfz58_8
     try clear hfz58_9
     try clear hfz60_0
     try clear hfz60_1
     try clear hfz60_2
     try clear hfz60_3
     try clear hfz64_0
     try clear hfz64_1
     try clear hfz64_10
     try clear hfz64_2
     try clear hfz64_3
     try clear hfz64_4
     try clear hfz64_5
     try clear hfz64_6
     try clear hfz64_7
     try clear hfz64_8
     try clear hfz64_9
     try clear p2
     obtain ⟨kq, x52_40, rfl, HA, HJ40, BK504, BK505, BK506, HB⟩ := hcut
     cases kq with
     | zero => exact absurd HA.out (by simp [impl_Claim.j1])
     | succ kj40 =>
      have H := HA.out
      clear HA
      simp only [impl_Claim.j1] at H
      by_cases c65 : x52_40 = true
      case pos =>
       subst c65
       replace H := hP H rfl
       simp only [Option.some.injEq, Prod.mk.injEq] at H
       obtain ⟨rfl, rfl, rfl, rfl, rfl, rfl, rfl, rfl, rfl, rfl, rfl⟩ := H
       have hnb66 := NB504_505.out
       have hnc66 := NB505_504.out
       have hnb67 := NB504_506.out
       have hnc67 := NB506_504.out
       have hcz68 := cA11 BK504.out
       have hnb69 := NB506_505.out
       have hnc69 := NB505_506.out
       have hcz70 := cA11 BK506.out
       go_wp2
       refine bodyPost_ret (results_cell_row rfl _ _ gb506 38 #[.bool a0_0, .bool a0_1, .int .i64 a0_2, .int .i64 a0_3, .int .i64 a0_4, .int .i64 a0_5, .int .i64 a0_6, .int .i64 a0_7, .int .i64 a0_8, .int .i64 a0_9, .bool a0_10] (0, 0) _ rfl (bm BK506.out) Try.underlying38 rfl (by kernel_rfl)) rfl ?_
       exact ⟨xW, bl HB.out⟩
      replace c65 := Bool.eq_false_iff.mpr c65
      subst c65
      replace H := hN H (show ¬ (false = true) by decide)
      simp only [Option.some.injEq, Prod.mk.injEq] at H
      obtain ⟨rfl, rfl, rfl, rfl, rfl, rfl, rfl, rfl, rfl, rfl, rfl⟩ := H
      try go_wp2
      replace BK504 := aM (blk_drew BK504.out)
      replace BK505 := aM (blk_drew BK505.out)
      replace BK506 := aM (blk_drew BK506.out)
      replace HB := aM (below_drew1 HB.out)
      refine start_ (n := 10) (S := fun w' => cS4 w' gb505 (.int .i64 a1_0) (.int .i64 a1_1) (.int .i64 a1_2) (.int .i64 a1_3)) (ds := []) (dn 10 0) (by kernel_rfl) rfl rfl ⟨cI BK505.out 0, cI BK505.out 1, cI BK505.out 2, cI BK505.out 3⟩ (fun hHeld => ?_); refine with_tabW impl_Claim.tab6 impl_Claim.bits6 (fun HT_ HW_ => ?_)
      generalize wc.drew = w71 at BK504 BK505 BK506 HB hHeld ⊢
      refine pY (i := 1) (N := some 55) #[U,Y,U,U,U,U,U,U,U,U] HT_ ?_
      refine pY (i := 2) (N := some 56) #[U,Y,Y,U,U,U,U,U,U,U] HT_ ?_
      refine aY (i := 0) (N := some 54) #[Y,Y,Y,U,U,U,U,U,U,U] HT_ HW_ hHeld ?_
      refine one_ (i := 3) (N := none) #[Y,Y,Y,Y,U,U,U,U,U,U] rfl rfl (one_of HT_.out (by kernel_rfl)) (by decide) (fun K hK => ?_)
      have hs72 := cI BK504.out 1
      have hfs72 := bF BK504.out 1
      have hns72_1 := NB505_504.out
      have hns72_2 := NB506_504.out
      have hms72_1 := NB504_505.out
      have hms72_2 := NB504_506.out
      refine skip_ (w1 := ?_) (by rfl) rfl ?_ ?_
      rotate_left
      ·go_simp
       rfl
      refine hK.out _ _ ⟨(cm (hHeld.1)), (cm (hHeld.2.1)), (cm (hHeld.2.2.1)), (cm (hHeld.2.2.2))⟩ (fun hHeld => ?_)
      clear hK K
      refine pY (i := 4) (N := some 57) #[Y,Y,Y,Y,Y,U,U,U,U,U] HT_ ?_
      refine one_ (i := 5) (N := none) #[Y,Y,Y,Y,Y,Y,U,U,U,U] rfl rfl (one_of HT_.out (by kernel_rfl)) (by decide) (fun K hK => ?_)
      have hs73 := cI BK504.out 2
      have hfs73 := bF BK504.out 2
      have hns73_1 := NB505_504.out
      have hns73_2 := NB506_504.out
      have hms73_1 := NB504_505.out
      have hms73_2 := NB504_506.out
      have hs74 := cI BK504.out 3
      have hfs74 := bF BK504.out 3
      have hns74_1 := NB505_504.out
      have hns74_2 := NB506_504.out
      have hms74_1 := NB504_505.out
      have hms74_2 := NB504_506.out
      have hs75 := cI BK504.out 4
      have hfs75 := bF BK504.out 4
      have hns75_1 := NB505_504.out
      have hns75_2 := NB506_504.out
      have hms75_1 := NB504_505.out
      have hms75_2 := NB504_506.out
      have hs76 := cI BK504.out 5
      have hfs76 := bF BK504.out 5
      have hns76_1 := NB505_504.out
      have hns76_2 := NB506_504.out
      have hms76_1 := NB504_505.out
      have hms76_2 := NB504_506.out
      refine skip_ (w1 := ?_) (by rfl) rfl ?_ ?_
      rotate_left
      ·go_simp
       rfl
      refine hK.out _ _ ⟨(cm (hHeld.1)), (cm (hHeld.2.1)), (cm (hHeld.2.2.1)), (cm (hHeld.2.2.2))⟩ (fun hHeld => ?_)
      clear hK K
      refine pY (i := 6) (N := some 58) #[Y,Y,Y,Y,Y,Y,Y,U,U,U] HT_ ?_
      refine one_ (i := 7) (N := none) #[Y,Y,Y,Y,Y,Y,Y,Y,U,U] rfl rfl (one_of HT_.out (by kernel_rfl)) (by decide) (fun K hK => ?_)
      have hs77 := cI BK504.out 6
      have hfs77 := bF BK504.out 6
      have hns77_1 := NB505_504.out
      have hns77_2 := NB506_504.out
      have hms77_1 := NB504_505.out
      have hms77_2 := NB504_506.out
      refine skip_ (w1 := ?_) (by rfl) rfl ?_ ?_
      rotate_left
      ·go_simp
       rfl
      refine hK.out _ _ ⟨(cm (hHeld.1)), (cm (hHeld.2.1)), (cm (hHeld.2.2.1)), (cm (hHeld.2.2.2))⟩ (fun hHeld => ?_)
      clear hK K
      refine pY (i := 8) (N := some 59) #[Y,Y,Y,Y,Y,Y,Y,Y,Y,U] HT_ ?_
      refine one_ (i := 9) (N := none) #[Y,Y,Y,Y,Y,Y,Y,Y,Y,Y] rfl rfl (one_of HT_.out (by kernel_rfl)) (by decide) (fun K hK => ?_)
      have hs78 := cI BK504.out 7
      have hfs78 := bF BK504.out 7
      have hns78_1 := NB505_504.out
      have hns78_2 := NB506_504.out
      have hms78_1 := NB504_505.out
      have hms78_2 := NB504_506.out
      refine skip_ (w1 := ?_) (by rfl) rfl ?_ ?_
      rotate_left
      ·go_simp
       rfl
      refine hK.out _ _ ⟨(cm (hHeld.1)), (cm (hHeld.2.1)), (cm (hHeld.2.2.1)), (cm (hHeld.2.2.2))⟩ (fun hHeld => ?_)
      clear hK K
      refine done_ (done_of HT_.out (by kernel_rfl)) ?_
      have hnb79 := NB504_505.out
      have hnc79 := NB505_504.out
      have hnb80 := NB504_506.out
      have hnc80 := NB506_504.out
      have hcz81 := cA11 BK504.out
      have hnb82 := NB506_505.out
      have hnc82 := NB505_506.out
      have hcz83 := cA11 BK506.out
      try go_wp2
      refine bodyPost_ret (results_cell_row rfl _ _ gb506 38 #[.bool a0_0, .bool true, .int .i64 a1_0, .int .i64 a1_1, .int .i64 a1_2, .int .i64 a1_3, .int .i64 a2, .int .i64 3, .int .i64 a0_8, .int .i64 a0_9, .bool a0_10] (0, 0) _ rfl (bm BK506.out) Try.underlying38 rfl (by kernel_rfl)) rfl ?_
      exact ⟨xW, bl HB.out⟩
   rw [if_neg c40] at H
   have c40b0 : (a1_2 == a0_4) = false := beq_eq_false_iff_ne.mpr c40
   have c40b1 : (a1_2 != a0_4) = true := bne_iff_ne.mpr c40
   have HC84 := aM H
   clear H
   have hnb85 := NB505_504.out
   have hnc85 := NB504_505.out
   have hnb86 := NB505_506.out
   have hnc86 := NB506_505.out
   have hcz87 := cA4 BK505.out
   have hnb88 := NB504_506.out
   have hnc88 := NB506_504.out
   have hcz89 := cA11 BK504.out
   go_upto_region 4 with (fail)
   go_cut [52] (fun v52 wc => ∃ (kq : Nat) (x52_83 : Bool), v52 = .bool x52_83 ∧ Aside0 (impl_Claim.j2 kq a2 x52_83 a0_0 a0_1 a0_2 a0_3 a0_4 a0_5 a0_6 a0_7 a0_8 a0_9 a0_10 a1_0 a1_1 a1_2 a1_3 = some (r1, r2, r3, r4, r5, r6, r7, r8, r9, r10, r11)) ∧ Aside0 (kq ≤ kj3) ∧ Aside0 (wc.heap[gb504]? = some (.cells #[.bool a0_0, .bool a0_1, .int .i64 a0_2, .int .i64 a0_3, .int .i64 a0_4, .int .i64 a0_5, .int .i64 a0_6, .int .i64 a0_7, .int .i64 a0_8, .int .i64 a0_9, .bool a0_10] 38 (0, 0))) ∧ Aside0 (wc.heap[gb505]? = some (.cells #[.int .i64 a1_0, .int .i64 a1_1, .int .i64 a1_2, .int .i64 a1_3] 36 (0, 0))) ∧ Aside0 (wc.heap[gb506]? = some (.cells #[.bool false, .bool false, .int .i64 0, .int .i64 0, .int .i64 0, .int .i64 0, .int .i64 0, .int .i64 0, .int .i64 0, .int .i64 0, .bool false] 38 (0, 0))) ∧ Aside0 (Below w.heap.size w wc))
   case first =>
    have H := HC84.out
    clear HC84
    by_cases c90 : a0_1 = true
    case neg =>
     replace c90 := Bool.eq_false_iff.mpr c90
     subst c90
     replace H := hN H (show ¬ (false = true) by decide)
     have H' := aM H
     clear H
     have hnb105 := NB504_505.out
     have hnc105 := NB505_504.out
     have hnb106 := NB504_506.out
     have hnc106 := NB506_504.out
     have hcz107 := cA11 BK504.out
     go_wp2
     go_meet
     case rel => exact ⟨_, (false), xE, H', ⟨by have := HJ3.out; first | omega | exact Nat.le_refl _⟩, ⟨by (with_reducible repeat (first | refine blk_drewN ?_ _ | refine blk_drew ?_ | refine blk_alloc ?_ _)); exact BK504.out⟩, ⟨by (with_reducible repeat (first | refine blk_drewN ?_ _ | refine blk_drew ?_ | refine blk_alloc ?_ _)); exact BK505.out⟩, ⟨by (with_reducible repeat (first | refine blk_drewN ?_ _ | refine blk_drew ?_ | refine blk_alloc ?_ _)); exact BK506.out⟩, ⟨bl HB.out⟩⟩
    subst c90
    replace H := hP H rfl
    obtain ⟨t511, A910, H⟩ := hB H
    have A91 := aM A910
    clear A910
    by_cases c92 : t511 = true
    case pos =>
     subst c92
     replace H := hP H rfl
     have H' := aM H
     clear H
     have hnb93 := NB504_505.out
     have hnc93 := NB505_504.out
     have hnb94 := NB504_506.out
     have hnc94 := NB506_504.out
     have hcz95 := cA11 BK504.out
     have hnb96 := NB505_506.out
     have hnc96 := NB506_505.out
     have hcz97 := cA4 BK505.out
     go_wp2_with (first | (go_at_call 63; (with_reducible refine (impl_Better.calls kj3 a0_2 a0_3 a0_4 a0_5 a1_0 a1_1 a1_2 a1_3 true _ A91.out).mono ?_); rintro e w98 ⟨rfl, hb⟩; replace BK504 := aM (bB (bk BK504.out) hb); replace BK505 := aM (bB (bk BK505.out) hb); replace BK506 := aM (bB (bk BK506.out) hb); replace HB := aM (bS (bl HB.out) hb); (try clear hb)))
     go_meet
     case rel => exact ⟨_, (!false), xE, H', ⟨by have := HJ3.out; first | omega | exact Nat.le_refl _⟩, ⟨by (with_reducible repeat (first | refine blk_drewN ?_ _ | refine blk_drew ?_ | refine blk_alloc ?_ _)); exact BK504.out⟩, ⟨by (with_reducible repeat (first | refine blk_drewN ?_ _ | refine blk_drew ?_ | refine blk_alloc ?_ _)); exact BK505.out⟩, ⟨by (with_reducible repeat (first | refine blk_drewN ?_ _ | refine blk_drew ?_ | refine blk_alloc ?_ _)); exact BK506.out⟩, ⟨bl HB.out⟩⟩
    replace c92 := Bool.eq_false_iff.mpr c92
    subst c92
    replace H := hN H (show ¬ (false = true) by decide)
    have H' := aM H
    clear H
    have hnb99 := NB504_505.out
    have hnc99 := NB505_504.out
    have hnb100 := NB504_506.out
    have hnc100 := NB506_504.out
    have hcz101 := cA11 BK504.out
    have hnb102 := NB505_506.out
    have hnc102 := NB506_505.out
    have hcz103 := cA4 BK505.out
    go_wp2_with (first | (go_at_call 63; (with_reducible refine (impl_Better.calls kj3 a0_2 a0_3 a0_4 a0_5 a1_0 a1_1 a1_2 a1_3 false _ A91.out).mono ?_); rintro e w104 ⟨rfl, hb⟩; replace BK504 := aM (bB (bk BK504.out) hb); replace BK505 := aM (bB (bk BK505.out) hb); replace BK506 := aM (bB (bk BK506.out) hb); replace HB := aM (bS (bl HB.out) hb); (try clear hb)))
    go_meet
    case rel => exact ⟨_, (false), xE, H', ⟨by have := HJ3.out; first | omega | exact Nat.le_refl _⟩, ⟨by (with_reducible repeat (first | refine blk_drewN ?_ _ | refine blk_drew ?_ | refine blk_alloc ?_ _)); exact BK504.out⟩, ⟨by (with_reducible repeat (first | refine blk_drewN ?_ _ | refine blk_drew ?_ | refine blk_alloc ?_ _)); exact BK505.out⟩, ⟨by (with_reducible repeat (first | refine blk_drewN ?_ _ | refine blk_drew ?_ | refine blk_alloc ?_ _)); exact BK506.out⟩, ⟨bl HB.out⟩⟩
   case rest =>
    clear HC84
    try clear c1
    try clear p2
    try clear c4
    try clear c6
    try clear c7
    try clear c8
    try clear c9
    try clear c10
    try clear c40
    try clear c40b0
    try clear c40b1
    try clear c65
    try clear c66
    try clear c67
    try clear c69
    try clear c79
    try clear c80
    try clear c82
    try clear c85
    try clear c86
    try clear c88
    try clear c90
    try clear c92
    try clear c93
    try clear c94
    try clear c96
    try clear c99
    try clear c100
    try clear c102
    try clear c105
    try clear c106
    try clear hcz101
    try clear hcz101_1
    try clear hcz101_10
    try clear hcz101_2
    try clear hcz101_3
    try clear hcz101_4
    try clear hcz101_5
    try clear hcz101_6
    try clear hcz101_7
    try clear hcz101_8
    try clear hcz101_9
    try clear hcz103
    try clear hcz103_1
    try clear hcz103_2
    try clear hcz103_3
    try clear hcz107
    try clear hcz107_1
    try clear hcz107_10
    try clear hcz107_2
    try clear hcz107_3
    try clear hcz107_4
    try clear hcz107_5
    try clear hcz107_6
    try clear hcz107_7
    try clear hcz107_8
    try clear hcz107_9
    try clear hcz64_6
    try clear hcz64_7
    try clear hcz64_8
    try clear hcz64_9
    try clear hcz68
    try clear hcz68_1
    try clear hcz68_10
    try clear hcz68_2
    try clear hcz68_3
    try clear hcz68_4
    try clear hcz68_5
    try clear hcz68_6
    try clear hcz68_7
    try clear hcz68_8
    try clear hcz68_9
    try clear hcz70
    try clear hcz70_1
    try clear hcz70_10
    try clear hcz70_2
    try clear hcz70_3
    try clear hcz70_4
    try clear hcz70_5
    try clear hcz70_6
    try clear hcz70_7
    try clear hcz70_8
    try clear hcz70_9
    try clear hcz81
    try clear hcz81_1
    try clear hcz81_10
    try clear hcz81_2
    try clear hcz81_3
    try clear hcz81_4
    try clear hcz81_5
    try clear hcz81_6
    try clear hcz81_7
    try clear hcz81_8
    try clear hcz81_9
    try clear hcz83
    try clear hcz83_1
    try clear hcz83_10
    try clear hcz83_2
    try clear hcz83_3
    try clear hcz83_4
    try clear hcz83_5
    try clear hcz83_6
    try clear hcz83_7
    try clear hcz83_8
    try clear hcz83_9
    try clear hcz87
    try clear hcz87_1
    try clear hcz87_2
    try clear hcz87_3
    try clear hcz89
    try clear hcz89_1
    try clear hcz89_10
    try clear hcz89_2
    try clear hcz89_3
    try clear hcz89_4
    try clear hcz89_5
    try clear hcz89_6
    try clear hcz89_7
    try clear hcz89_8
    try clear hcz89_9
    try clear hcz95
    try clear hcz95_1
    try clear hcz95_10
    try clear hcz95_2
    try clear hcz95_3
    try clear hcz95_4
    try clear hcz95_5
    try clear hcz95_6
    try clear hcz95_7
    try clear hcz95_8
    try clear hcz95_9
    try clear hcz97
    try clear hcz97_1
    try clear hcz97_2
    try clear hcz97_3
    try clear hfz101_0
    try clear hfz101_1
    try clear hfz101_10
    try clear hfz101_2
    try clear hfz101_3
    try clear hfz101_4
    try clear hfz101_5
    try clear hfz101_6
    try clear hfz101_7
    try clear hfz101_8
    try clear hfz101_9
    try clear hfz103_0
    try clear hfz103_1
    try clear hfz103_2
    try clear hfz103_3
    try clear hfz107_0
    try clear hfz107_1
    try clear hfz107_10
    try clear hfz107_2
    try clear hfz107_3
    try clear hfz107_4
    try clear hfz107_5
    try clear hfz107_6
    try clear hfz107_7
    try clear hfz107_8
    try clear hfz107_9
    try clear hfz16_0
    try clear hfz16_1
    try clear hfz16_10
    try clear hfz16_2
    try clear hfz16_3
    try clear hfz16_4
    try clear hfz16_5
    try clear hfz16_6
    try clear hfz16_7
    try clear hfz16_8
    try clear hfz16_9
    try clear hfz24_0
    try clear hfz24_1
    try clear hfz24_10
    try clear hfz24_2
    try clear hfz24_3
    try clear hfz24_4
    try clear hfz24_5
    try clear hfz24_6
    try clear hfz24_7
    try clear hfz24_8
    try clear hfz24_9
    try clear hfz30_0
    try clear hfz30_1
    try clear hfz30_10
    try clear hfz30_2
    try clear hfz30_3
    try clear hfz30_4
    try clear hfz30_5
    try clear hfz30_6
    try clear hfz30_7
    try clear hfz30_8
    try clear hfz30_9
    try clear hfz33_0
    try clear hfz33_1
    try clear hfz33_10
    try clear hfz33_2
    try clear hfz33_3
    try clear hfz33_4
    try clear hfz33_5
    try clear hfz33_6
    try clear hfz33_7
    try clear hfz33_8
    try clear hfz33_9
    try clear hfz37_0
    try clear hfz37_1
    try clear hfz37_10
    try clear hfz37_2
    try clear hfz37_3
    try clear hfz37_4
    try clear hfz37_5
    try clear hfz37_6
    try clear hfz37_7
    try clear hfz37_8
    try clear hfz37_9
    try clear hfz39_0
    try clear hfz39_1
    try clear hfz39_10
    try clear hfz39_2
    try clear hfz39_3
    try clear hfz39_4
    try clear hfz39_5
    try clear hfz39_6
    try clear hfz39_7
    try clear hfz39_8
    try clear hfz39_9
    try clear hfz44_0
    try clear hfz44_1
    try clear hfz44_2
    try clear hfz44_3
    try clear hfz46_0
    try clear hfz46_1
    try clear hfz46_10
    try clear hfz46_2
    try clear hfz46_3
    try clear hfz46_4
    try clear hfz46_5
    try clear hfz46_6
    try clear hfz46_7
    try clear hfz46_8
    try clear hfz46_9
    try clear hfz52_0
    try clear hfz52_1
    try clear hfz52_10
    try clear hfz52_2
    try clear hfz52_3
    try clear hfz52_4
    try clear hfz52_5
    try clear hfz52_6
    try clear hfz52_7
    try clear hfz52_8
    try clear hfz52_9
    try clear hfz54_0
    try clear hfz54_1
    try clear hfz54_2
    try clear hfz54_3
    try clear hfz58_0
    try clear hfz58_1
    try clear hfz58_10
    try clear hfz58_2
    try clear hfz58_3
    try clear hfz58_4
    try clear hfz58_5
    try clear hfz58_6
    try clear hfz58_7
    try clear hfz58_8
    try clear hfz58_9
    try clear hfz60_0
    try clear hfz60_1
    try clear hfz60_2
    try clear hfz60_3
    try clear hfz64_0
    try clear hfz64_1
    try clear hfz64_10
    try clear hfz64_2
    try clear hfz64_3
    try clear hfz64_4
    try clear hfz64_5
    try clear hfz64_6
    try clear hfz64_7
    try clear hfz64_8
    try clear hfz64_9
    try clear hfz68_0
    try clear hfz68_1
    try clear hfz68_10
    try clear hfz68_2
    try clear hfz68_3
    try clear hfz68_4
    try clear hfz68_5
    try clear hfz68_6
    try clear hfz68_7
    try clear hfz68_8
    try clear hfz68_9
    try clear hfz70_0
    try clear hfz70_1
    try clear hfz70_10
    try clear hfz70_2
    try clear hfz70_3
    try clear hfz70_4
    try clear hfz70_5
    try clear hfz70_6
    try clear hfz70_7
    try clear hfz70_8
    try clear hfz70_9
    try clear hfz81_0
    try clear hfz81_1
    try clear hfz81_10
    try clear hfz81_2
    try clear hfz81_3
    try clear hfz81_4
    try clear hfz81_5
    try clear hfz81_6
    try clear hfz81_7
    try clear hfz81_8
    try clear hfz81_9
    try clear hfz83_0
    try clear hfz83_1
    try clear hfz83_10
    try clear hfz83_2
    try clear hfz83_3
    try clear hfz83_4
    try clear hfz83_5
    try clear hfz83_6
    try clear hfz83_7
    try clear hfz83_8
    try clear hfz83_9
    try clear hfz87_0
    try clear hfz87_1
    try clear hfz87_2
    try clear hfz87_3
    try clear hfz89_0
    try clear hfz89_1
    try clear hfz89_10
    try clear hfz89_2
    try clear hfz89_3
    try clear hfz89_4
    try clear hfz89_5
    try clear hfz89_6
    try clear hfz89_7
    try clear hfz89_8
    try clear hfz89_9
    try clear hfz95_0
    try clear hfz95_1
    try clear hfz95_10
    try clear hfz95_2
    try clear hfz95_3
    try clear hfz95_4
    try clear hfz95_5
    try clear hfz95_6
    try clear hfz95_7
    try clear hfz95_8
    try clear hfz95_9
    try clear hfz97_0
    try clear hfz97_1
    try clear hfz97_2
    try clear hfz97_3
    try clear p2
    obtain ⟨kq, x52_83, rfl, HA, HJ83, BK504, BK505, BK506, HB⟩ := hcut
    cases kq with
    | zero => exact absurd HA.out (by simp [impl_Claim.j2])
    | succ kj83 =>
     have H := HA.out
     clear HA
     simp only [impl_Claim.j2] at H
     by_cases c108 : x52_83 = true
     case pos =>
      subst c108
      replace H := hP H rfl
      simp only [Option.some.injEq, Prod.mk.injEq] at H
      obtain ⟨rfl, rfl, rfl, rfl, rfl, rfl, rfl, rfl, rfl, rfl, rfl⟩ := H
      have hnb109 := NB504_505.out
      have hnc109 := NB505_504.out
      have hnb110 := NB504_506.out
      have hnc110 := NB506_504.out
      have hcz111 := cA11 BK504.out
      have hnb112 := NB506_505.out
      have hnc112 := NB505_506.out
      have hcz113 := cA11 BK506.out
      go_wp2
      refine bodyPost_ret (results_cell_row rfl _ _ gb506 38 #[.bool a0_0, .bool a0_1, .int .i64 a0_2, .int .i64 a0_3, .int .i64 a0_4, .int .i64 a0_5, .int .i64 a0_6, .int .i64 a0_7, .int .i64 a0_8, .int .i64 a0_9, .bool a0_10] (0, 0) _ rfl (bm BK506.out) Try.underlying38 rfl (by kernel_rfl)) rfl ?_
      exact ⟨xW, bl HB.out⟩
     replace c108 := Bool.eq_false_iff.mpr c108
     subst c108
     replace H := hN H (show ¬ (false = true) by decide)
     simp only [Option.some.injEq, Prod.mk.injEq] at H
     obtain ⟨rfl, rfl, rfl, rfl, rfl, rfl, rfl, rfl, rfl, rfl, rfl⟩ := H
     try go_wp2
     replace BK504 := aM (blk_drew BK504.out)
     replace BK505 := aM (blk_drew BK505.out)
     replace BK506 := aM (blk_drew BK506.out)
     replace HB := aM (below_drew1 HB.out)
     refine start_ (n := 10) (S := fun w' => cS4 w' gb505 (.int .i64 a1_0) (.int .i64 a1_1) (.int .i64 a1_2) (.int .i64 a1_3)) (ds := []) (dn 10 0) (by kernel_rfl) rfl rfl ⟨cI BK505.out 0, cI BK505.out 1, cI BK505.out 2, cI BK505.out 3⟩ (fun hHeld => ?_); refine with_tabW impl_Claim.tab6 impl_Claim.bits6 (fun HT_ HW_ => ?_)
     generalize wc.drew = w114 at BK504 BK505 BK506 HB hHeld ⊢
     refine pY (i := 1) (N := some 55) #[U,Y,U,U,U,U,U,U,U,U] HT_ ?_
     refine pY (i := 2) (N := some 56) #[U,Y,Y,U,U,U,U,U,U,U] HT_ ?_
     refine aY (i := 0) (N := some 54) #[Y,Y,Y,U,U,U,U,U,U,U] HT_ HW_ hHeld ?_
     refine one_ (i := 3) (N := none) #[Y,Y,Y,Y,U,U,U,U,U,U] rfl rfl (one_of HT_.out (by kernel_rfl)) (by decide) (fun K hK => ?_)
     have hs115 := cI BK504.out 1
     have hfs115 := bF BK504.out 1
     have hns115_1 := NB505_504.out
     have hns115_2 := NB506_504.out
     have hms115_1 := NB504_505.out
     have hms115_2 := NB504_506.out
     refine skip_ (w1 := ?_) (by rfl) rfl ?_ ?_
     rotate_left
     ·go_simp
      rfl
     refine hK.out _ _ ⟨(cm (hHeld.1)), (cm (hHeld.2.1)), (cm (hHeld.2.2.1)), (cm (hHeld.2.2.2))⟩ (fun hHeld => ?_)
     clear hK K
     refine pY (i := 4) (N := some 57) #[Y,Y,Y,Y,Y,U,U,U,U,U] HT_ ?_
     refine one_ (i := 5) (N := none) #[Y,Y,Y,Y,Y,Y,U,U,U,U] rfl rfl (one_of HT_.out (by kernel_rfl)) (by decide) (fun K hK => ?_)
     have hs116 := cI BK504.out 2
     have hfs116 := bF BK504.out 2
     have hns116_1 := NB505_504.out
     have hns116_2 := NB506_504.out
     have hms116_1 := NB504_505.out
     have hms116_2 := NB504_506.out
     have hs117 := cI BK504.out 3
     have hfs117 := bF BK504.out 3
     have hns117_1 := NB505_504.out
     have hns117_2 := NB506_504.out
     have hms117_1 := NB504_505.out
     have hms117_2 := NB504_506.out
     have hs118 := cI BK504.out 4
     have hfs118 := bF BK504.out 4
     have hns118_1 := NB505_504.out
     have hns118_2 := NB506_504.out
     have hms118_1 := NB504_505.out
     have hms118_2 := NB504_506.out
     have hs119 := cI BK504.out 5
     have hfs119 := bF BK504.out 5
     have hns119_1 := NB505_504.out
     have hns119_2 := NB506_504.out
     have hms119_1 := NB504_505.out
     have hms119_2 := NB504_506.out
     refine skip_ (w1 := ?_) (by rfl) rfl ?_ ?_
     rotate_left
     ·go_simp
      rfl
     refine hK.out _ _ ⟨(cm (hHeld.1)), (cm (hHeld.2.1)), (cm (hHeld.2.2.1)), (cm (hHeld.2.2.2))⟩ (fun hHeld => ?_)
     clear hK K
     refine pY (i := 6) (N := some 58) #[Y,Y,Y,Y,Y,Y,Y,U,U,U] HT_ ?_
     refine one_ (i := 7) (N := none) #[Y,Y,Y,Y,Y,Y,Y,Y,U,U] rfl rfl (one_of HT_.out (by kernel_rfl)) (by decide) (fun K hK => ?_)
     have hs120 := cI BK504.out 6
     have hfs120 := bF BK504.out 6
     have hns120_1 := NB505_504.out
     have hns120_2 := NB506_504.out
     have hms120_1 := NB504_505.out
     have hms120_2 := NB504_506.out
     refine skip_ (w1 := ?_) (by rfl) rfl ?_ ?_
     rotate_left
     ·go_simp
      rfl
     refine hK.out _ _ ⟨(cm (hHeld.1)), (cm (hHeld.2.1)), (cm (hHeld.2.2.1)), (cm (hHeld.2.2.2))⟩ (fun hHeld => ?_)
     clear hK K
     refine pY (i := 8) (N := some 59) #[Y,Y,Y,Y,Y,Y,Y,Y,Y,U] HT_ ?_
     refine one_ (i := 9) (N := none) #[Y,Y,Y,Y,Y,Y,Y,Y,Y,Y] rfl rfl (one_of HT_.out (by kernel_rfl)) (by decide) (fun K hK => ?_)
     have hs121 := cI BK504.out 7
     have hfs121 := bF BK504.out 7
     have hns121_1 := NB505_504.out
     have hns121_2 := NB506_504.out
     have hms121_1 := NB504_505.out
     have hms121_2 := NB504_506.out
     refine skip_ (w1 := ?_) (by rfl) rfl ?_ ?_
     rotate_left
     ·go_simp
      rfl
     refine hK.out _ _ ⟨(cm (hHeld.1)), (cm (hHeld.2.1)), (cm (hHeld.2.2.1)), (cm (hHeld.2.2.2))⟩ (fun hHeld => ?_)
     clear hK K
     refine done_ (done_of HT_.out (by kernel_rfl)) ?_
     have hnb122 := NB504_505.out
     have hnc122 := NB505_504.out
     have hnb123 := NB504_506.out
     have hnc123 := NB506_504.out
     have hcz124 := cA11 BK504.out
     have hnb125 := NB506_505.out
     have hnc125 := NB505_506.out
     have hcz126 := cA11 BK506.out
     try go_wp2
     refine bodyPost_ret (results_cell_row rfl _ _ gb506 38 #[.bool a0_0, .bool true, .int .i64 a1_0, .int .i64 a1_1, .int .i64 a1_2, .int .i64 a1_3, .int .i64 a2, .int .i64 3, .int .i64 a0_8, .int .i64 a0_9, .bool a0_10] (0, 0) _ rfl (bm BK506.out) Try.underlying38 rfl (by kernel_rfl)) rfl ?_
     exact ⟨xW, bl HB.out⟩

end Go.Proofs.Ytaoipjdmmamkmaa.PFnPorts

/- Of the proof of laws.FnExactAllOf: a part. No condition beyond what its theorems say. -/
import Derived.Test.YtjaldondohddpaaVFnExactAllOfPx0
import Derived.Test.YtjaldondohddpaaVFnExactAllOfPx5
import Derived.Test.YtjaldondohddpaaVFnExactAllOfPx6
namespace Go.Proofs.Ytjaldondohddpaa.PFnExactAllOf
open Go.RowKit Go.Proofs.YtjaldondohddpaaW.PrintWords Go.Proofs.YtjaldondohddpaaW.PrintLast Go.Proofs.YtjaldondohddpaaW.PrintMore
attribute [local go_sem] max2_int min2_int max_two min_two max_three min_three max_four min_four   -- for this text's walks alone
set_option linter.unusedVariables false
set_option linter.unusedSimpArgs false

mutual
def spec_InOf.j0 : Nat → List Int → Int → List Int → Int → Bool → Int → Int → Int → Int → Int → Int → Int → Bool → Option (Int × Int × Int × Int × Int × Int × Int × Bool × Int × Bool)
 | 0, _, _, _, _, _, _, _, _, _, _, _, _, _ => none
 | k + 1, x0, x1, x216000, x216001, x216002, x217000, x217001, x217002, x217003, x217004, x217005, x217006, x217007 => (spec_InBytes.f k x217000 x217001 x217002 x217003 x217004 x217005 x217006 x217007).bind fun t241 => (if x216002 = true then (if (t241.length : Int) = 0 then (spec_InOf.j1 k x1 t241 true x217000 x217001 x217002 x217003 x217004 x217005 x217006 x217007) else (if (t241.length : Int) > (wrap64 ((x0.length : Int) - x1)) then (spec_InOf.j1 k x1 t241 true x217000 x217001 x217002 x217003 x217004 x217005 x217006 x217007) else (if 0 ≤ x1 then (if x1 ≤ (wrap64 (x1 + (t241.length : Int))) then (if (wrap64 (x1 + (t241.length : Int))) ≤ (x0.length : Int) then (spec_InOf.j1 k x1 t241 ((strOfNums ((x0.take ((wrap64 (x1 + (t241.length : Int))) : Int).toNat).drop (x1 : Int).toNat)).toList != (strOfNums t241).toList) x217000 x217001 x217002 x217003 x217004 x217005 x217006 x217007) else (none)) else (none)) else (none)))) else (spec_InOf.j1 k x1 t241 true x217000 x217001 x217002 x217003 x217004 x217005 x217006 x217007))
def spec_InOf.j1 : Nat → Int → List Int → Bool → Int → Int → Int → Int → Int → Int → Int → Bool → Option (Int × Int × Int × Int × Int × Int × Int × Bool × Int × Bool)
 | 0, _, _, _, _, _, _, _, _, _, _, _ => none
 | k + 1, x1, x9, x83, x217000, x217001, x217002, x217003, x217004, x217005, x217006, x217007 => if x83 = true then (some (0, 0, 0, 0, 0, 0, 0, false, 0, false)) else (some (x217000, x217001, x217002, x217003, x217004, x217005, x217006, x217007, wrap64 (x1 + (x9.length : Int)), true))
end
def spec_InOf.f (k : Nat) (l0 : List Int) (a1 : Int) : Option (Int × Int × Int × Int × Int × Int × Int × Bool × Int × Bool) := (spec_l9Num.f k l0 a1 true).bind fun bt217 => ((spec_l9Num.f k l0 bt217.2.1 bt217.2.2).bind fun bt220 => (if bt217.1 = 1 then ((spec_l9Num.f k l0 bt220.2.1 bt220.2.2).bind fun bt223 => ((spec_l9Num.f k l0 bt223.2.1 bt223.2.2).bind fun bt226 => ((spec_l9Num.f k l0 bt226.2.1 bt226.2.2).bind fun bt229 => ((spec_l9Num.f k l0 bt229.2.1 bt229.2.2).bind fun bt232 => ((spec_l9Num.f k l0 bt232.2.1 bt232.2.2).bind fun bt235 => (spec_InOf.j0 k l0 a1 l0 bt235.2.1 bt235.2.2 bt217.1 bt220.1 bt223.1 bt226.1 bt229.1 bt232.1 bt235.1 false)))))) else (if bt217.1 = 3 then ((spec_l9Num.f k l0 bt220.2.1 bt220.2.2).bind fun bt238 => (spec_InOf.j0 k l0 a1 l0 bt238.2.1 bt238.2.2 bt217.1 bt220.1 0 0 0 0 0 (bt238.1 == 1))) else (spec_InOf.j0 k l0 a1 l0 bt220.2.1 bt220.2.2 bt217.1 bt220.1 0 0 0 0 0 false))))
theorem spec_InOf.mono_l : ∀ k, (∀ y0 y1 y2 y3 y4 y5 y6 y7 y8 y9 y10 y11 y12, LeO (spec_InOf.j0 k y0 y1 y2 y3 y4 y5 y6 y7 y8 y9 y10 y11 y12) (spec_InOf.j0 (k + 1) y0 y1 y2 y3 y4 y5 y6 y7 y8 y9 y10 y11 y12)) ∧ (∀ y0 y1 y2 y3 y4 y5 y6 y7 y8 y9 y10, LeO (spec_InOf.j1 k y0 y1 y2 y3 y4 y5 y6 y7 y8 y9 y10) (spec_InOf.j1 (k + 1) y0 y1 y2 y3 y4 y5 y6 y7 y8 y9 y10))
 | 0 => ⟨fun _ _ _ _ _ _ _ _ _ _ _ _ _ r h => by simp [spec_InOf.j0] at h, fun _ _ _ _ _ _ _ _ _ _ _ r h => by simp [spec_InOf.j1] at h⟩
 | k + 1 => by
  obtain ⟨ih0, ih1⟩ := spec_InOf.mono_l k
  refine ⟨?_, ?_⟩
  ·intro y0 y1 y2 y3 y4 y5 y6 y7 y8 y9 y10 y11 y12
   unfold spec_InOf.j0
   repeat' first
   | (with_reducible exact ih0 _ _ _ _ _ _ _ _ _ _ _ _ _)
   | (with_reducible exact ih1 _ _ _ _ _ _ _ _ _ _ _)
   | (with_reducible exact spec_InBytes.mono _ _ _ _ _ _ _ _ _)
   | (with_reducible exact spec_l9Num.mono _ _ _ _)
   | (with_reducible exact LeO.refl _)
   | (with_reducible exact LeO.none _)
   | (with_reducible refine LeO.ite ?_ ?_)
   | (with_reducible refine LeO.bind ?_ (fun _ => ?_))
   | exact ih0 _ _ _ _ _ _ _ _ _ _ _ _ _
   | exact ih1 _ _ _ _ _ _ _ _ _ _ _
   | exact spec_InBytes.mono _ _ _ _ _ _ _ _ _
   | exact spec_l9Num.mono _ _ _ _
   | exact LeO.none _
   | refine LeO.ite ?_ ?_
   | refine LeO.bind ?_ (fun _ => ?_)
  ·intro y0 y1 y2 y3 y4 y5 y6 y7 y8 y9 y10
   unfold spec_InOf.j1
   repeat' first
   | (with_reducible exact ih0 _ _ _ _ _ _ _ _ _ _ _ _ _)
   | (with_reducible exact ih1 _ _ _ _ _ _ _ _ _ _ _)
   | (with_reducible exact spec_InBytes.mono _ _ _ _ _ _ _ _ _)
   | (with_reducible exact spec_l9Num.mono _ _ _ _)
   | (with_reducible exact LeO.refl _)
   | (with_reducible exact LeO.none _)
   | (with_reducible refine LeO.ite ?_ ?_)
   | (with_reducible refine LeO.bind ?_ (fun _ => ?_))
   | exact ih0 _ _ _ _ _ _ _ _ _ _ _ _ _
   | exact ih1 _ _ _ _ _ _ _ _ _ _ _
   | exact spec_InBytes.mono _ _ _ _ _ _ _ _ _
   | exact spec_l9Num.mono _ _ _ _
   | exact LeO.none _
   | refine LeO.ite ?_ ?_
   | refine LeO.bind ?_ (fun _ => ?_)
theorem spec_InOf.mono : ∀ a0 a1 k, LeO (spec_InOf.f k a0 a1) (spec_InOf.f (k + 1) a0 a1) := by
 intro a0 a1 k
 obtain ⟨ih0, ih1⟩ := spec_InOf.mono_l k
 unfold spec_InOf.f
 repeat' first
   | (with_reducible exact ih0 _ _ _ _ _ _ _ _ _ _ _ _ _)
   | (with_reducible exact ih1 _ _ _ _ _ _ _ _ _ _ _)
   | (with_reducible exact spec_InBytes.mono _ _ _ _ _ _ _ _ _)
   | (with_reducible exact spec_l9Num.mono _ _ _ _)
   | (with_reducible exact LeO.refl _)
   | (with_reducible exact LeO.none _)
   | (with_reducible refine LeO.ite ?_ ?_)
   | (with_reducible refine LeO.bind ?_ (fun _ => ?_))
   | exact ih0 _ _ _ _ _ _ _ _ _ _ _ _ _
   | exact ih1 _ _ _ _ _ _ _ _ _ _ _
   | exact spec_InBytes.mono _ _ _ _ _ _ _ _ _
   | exact spec_l9Num.mono _ _ _ _
   | exact LeO.none _
   | refine LeO.ite ?_ ?_
   | refine LeO.bind ?_ (fun _ => ?_)
set_option maxHeartbeats 60000000 in
set_option maxRecDepth 100000 in
theorem spec_InOf.calls (k : Nat) (A0 : Option Addr) (c0 : Nat) (l0 : List Int) (a1 : Int) (r1 : Int) (r2 : Int) (r3 : Int) (r4 : Int) (r5 : Int) (r6 : Int) (r7 : Int) (r8 : Bool) (r9 : Int) (r10 : Bool) (w : World) (hr0 : Kd.C (Kd.int .u8) w A0 l0.length l0) (hc0 : l0.length ≤ c0) (h : spec_InOf.f k l0 a1 = some (r1, r2, r3, r4, r5, r6, r7, r8, r9, r10)) :
  Calls Try.prog 58 #[.slice A0 l0.length c0, .int .i64 a1] w fun e w' => e = .returned (.tuple #[.agg #[.int .i64 r1, .int .i64 r2, .int .i64 r3, .int .i64 r4, .int .i64 r5, .int .i64 r6, .int .i64 r7, .bool r8], .int .i64 r9, .bool r10]) ∧ Below w.heap.size w w' := by
 have hu82 := Try.underlying82
 have hu139 := Try.underlying139
 have HR0 := aM hr0
 have HC0 := aM hc0
 clear hr0 hc0
 have HB := aM (Below.refl w.heap.size w)
 have H : ((spec_l9Num.f k l0 a1 true).bind fun bt217 => ((spec_l9Num.f k l0 bt217.2.1 bt217.2.2).bind fun bt220 => (if bt217.1 = 1 then ((spec_l9Num.f k l0 bt220.2.1 bt220.2.2).bind fun bt223 => ((spec_l9Num.f k l0 bt223.2.1 bt223.2.2).bind fun bt226 => ((spec_l9Num.f k l0 bt226.2.1 bt226.2.2).bind fun bt229 => ((spec_l9Num.f k l0 bt229.2.1 bt229.2.2).bind fun bt232 => ((spec_l9Num.f k l0 bt232.2.1 bt232.2.2).bind fun bt235 => (spec_InOf.j0 k l0 a1 l0 bt235.2.1 bt235.2.2 bt217.1 bt220.1 bt223.1 bt226.1 bt229.1 bt232.1 bt235.1 false)))))) else (if bt217.1 = 3 then ((spec_l9Num.f k l0 bt220.2.1 bt220.2.2).bind fun bt238 => (spec_InOf.j0 k l0 a1 l0 bt238.2.1 bt238.2.2 bt217.1 bt220.1 0 0 0 0 0 (bt238.1 == 1))) else (spec_InOf.j0 k l0 a1 l0 bt220.2.1 bt220.2.2 bt217.1 bt220.1 0 0 0 0 0 false))))) = some (r1, r2, r3, r4, r5, r6, r7, r8, r9, r10) := h
 clear h
 replace H := Option.bind_eq_some_iff.mp H
 obtain ⟨⟨t217, t218, t219⟩, A30, H⟩ := H
 replace H : ((spec_l9Num.f k l0 t218 t219).bind fun bt220 => (if t217 = 1 then ((spec_l9Num.f k l0 bt220.2.1 bt220.2.2).bind fun bt223 => ((spec_l9Num.f k l0 bt223.2.1 bt223.2.2).bind fun bt226 => ((spec_l9Num.f k l0 bt226.2.1 bt226.2.2).bind fun bt229 => ((spec_l9Num.f k l0 bt229.2.1 bt229.2.2).bind fun bt232 => ((spec_l9Num.f k l0 bt232.2.1 bt232.2.2).bind fun bt235 => (spec_InOf.j0 k l0 a1 l0 bt235.2.1 bt235.2.2 t217 bt220.1 bt223.1 bt226.1 bt229.1 bt232.1 bt235.1 false)))))) else (if t217 = 3 then ((spec_l9Num.f k l0 bt220.2.1 bt220.2.2).bind fun bt238 => (spec_InOf.j0 k l0 a1 l0 bt238.2.1 bt238.2.2 t217 bt220.1 0 0 0 0 0 (bt238.1 == 1))) else (spec_InOf.j0 k l0 a1 l0 bt220.2.1 bt220.2.2 t217 bt220.1 0 0 0 0 0 false)))) = some (r1, r2, r3, r4, r5, r6, r7, r8, r9, r10) := H
 have A3 := aM A30
 clear A30
 replace H := Option.bind_eq_some_iff.mp H
 obtain ⟨⟨t220, t221, t222⟩, A40, H⟩ := H
 replace H : (if t217 = 1 then ((spec_l9Num.f k l0 t221 t222).bind fun bt223 => ((spec_l9Num.f k l0 bt223.2.1 bt223.2.2).bind fun bt226 => ((spec_l9Num.f k l0 bt226.2.1 bt226.2.2).bind fun bt229 => ((spec_l9Num.f k l0 bt229.2.1 bt229.2.2).bind fun bt232 => ((spec_l9Num.f k l0 bt232.2.1 bt232.2.2).bind fun bt235 => (spec_InOf.j0 k l0 a1 l0 bt235.2.1 bt235.2.2 t217 t220 bt223.1 bt226.1 bt229.1 bt232.1 bt235.1 false)))))) else (if t217 = 3 then ((spec_l9Num.f k l0 t221 t222).bind fun bt238 => (spec_InOf.j0 k l0 a1 l0 bt238.2.1 bt238.2.2 t217 t220 0 0 0 0 0 (bt238.1 == 1))) else (spec_InOf.j0 k l0 a1 l0 t221 t222 t217 t220 0 0 0 0 0 false))) = some (r1, r2, r3, r4, r5, r6, r7, r8, r9, r10) := H
 have A4 := aM A40
 clear A40
 have HC5 := aM H
 clear H
 go_enter Try.func58, Try.ntmps58
 go_upto_block 0 with (first | ((with_reducible refine gate_dst (N := 4) rfl ?_); (try (refine gate_guard (by rfl) ?_; dsimp only)); refine box_event ?hg (N := 4) ?hd (cs := #[.int .i64 0, .int .i64 0, .int .i64 0, .int .i64 0, .int .i64 0, .int .i64 0, .int .i64 0, .bool false]) (t := 82) ?hr ?_; (case hd => rfl); (case hg => rfl); (case hr => first | (go_simp; done) | (go_simp; rfl)); intro gb214 hg w6 hbox hb; have n0_ := aM (bS (bl HB.out) hb); have n1_ := aM (hbox); have n2_ := aM ((by rw [hg]; exact (below_size (bl HB.out)) : w.heap.size ≤ gb214)); have n3_ := aM ((by rw [hg]; exact (below_size (bl HB.out)) : w.heap.size ≤ gb214)); clear HB; have HB := n0_; have BK214 := n1_; have GW214 := n2_; have GE214 := n3_; clear n0_ n1_ n2_ n3_; clear hb hbox hg) | ((with_reducible refine gate_dst (N := 13) rfl ?_); (try (refine gate_guard (by rfl) ?_; dsimp only)); refine box_event ?hg (N := 13) ?hd (cs := #[.slice A0 l0.length c0, .int .i64 a1, .bool true]) (t := 139) ?hr ?_; (case hd => rfl); (case hg => rfl); (case hr => first | (go_simp; done) | (go_simp; rfl)); intro gb215 hg w7 hbox hb; have n0_ := aM (bB (g := gb214) (o := .cells #[.int .i64 0, .int .i64 0, .int .i64 0, .int .i64 0, .int .i64 0, .int .i64 0, .int .i64 0, .bool false] 82 (0, 0)) (bk BK214.out) hb); have n1_ := aM (bS (bl HB.out) hb); have n2_ := aM ((by rw [hg]; exact Nat.ne_of_lt (blk_lt (g := gb214) (o := .cells #[.int .i64 0, .int .i64 0, .int .i64 0, .int .i64 0, .int .i64 0, .int .i64 0, .int .i64 0, .bool false] 82 (0, 0)) (bk BK214.out)) : gb214 ≠ gb215)); have n3_ := aM ((by rw [hg]; exact Nat.ne_of_gt (blk_lt (g := gb214) (o := .cells #[.int .i64 0, .int .i64 0, .int .i64 0, .int .i64 0, .int .i64 0, .int .i64 0, .int .i64 0, .bool false] 82 (0, 0)) (bk BK214.out)) : gb215 ≠ gb214)); have n4_ := aM ((show IsS139 w w7 gb215 l0 a1 true from ⟨_, _, hbox, (by rw [hg]; exact (below_size (bl HB.out)) : w.heap.size ≤ gb215), ⟨HR0.out, HC0.out⟩⟩)); clear BK214 HB; have BK214 := n0_; have HB := n1_; have NB214_215 := n2_; have NB215_214 := n3_; have HI215 := n4_; clear n0_ n1_ n2_ n3_ n4_; clear hb hbox hg) | ((with_reducible refine gate_dst (N := 8) rfl ?_); (try (refine gate_guard (by rfl) ?_; dsimp only)); refine box_event ?hg (N := 8) ?hd (cs := #[.int .i64 0, .int .i64 0, .int .i64 0, .int .i64 0, .int .i64 0, .int .i64 0, .int .i64 0, .bool false]) (t := 82) ?hr ?_; (case hd => rfl); (case hg => rfl); (case hr => first | (go_simp; done) | (go_simp; rfl)); intro gb216 hg w8 hbox hb; have n0_ := aM (bB (g := gb214) (o := .cells #[.int .i64 0, .int .i64 0, .int .i64 0, .int .i64 0, .int .i64 0, .int .i64 0, .int .i64 0, .bool false] 82 (0, 0)) (bk BK214.out) hb); have n1_ := aM (IsS139.below (by repeat (first | (with_reducible first | exact HI215.out | apply IsS139.alloc | apply IsS139.drewN | apply IsS139.drew | apply IsS139.set_1 | apply IsS139.set_2 | refine IsS139.far ?_ NB215_214.out _) | exact HI215.out)) hb); have n2_ := aM (bS (by repeat (first | (with_reducible first | exact HB.out | apply below_alloc | apply pw_below_drewN | apply below_drew1 | refine below_set ?_ (IsS139.ge HI215.out) | refine below_set ?_ GE214.out) | exact HB.out)) hb); have n3_ := aM (hbox); have n4_ := aM ((by rw [hg]; exact (below_size (by repeat (first | (with_reducible first | exact HB.out | apply below_alloc | apply pw_below_drewN | apply below_drew1 | refine below_set ?_ (IsS139.ge HI215.out) | refine below_set ?_ GE214.out) | exact HB.out))) : w.heap.size ≤ gb216)); have n5_ := aM ((by rw [hg]; exact (below_size (by repeat (first | (with_reducible first | exact HB.out | apply below_alloc | apply pw_below_drewN | apply below_drew1 | refine below_set ?_ (IsS139.ge HI215.out) | refine below_set ?_ GE214.out) | exact HB.out))) : w.heap.size ≤ gb216)); have n6_ := aM ((by rw [hg]; exact Nat.ne_of_lt (blk_lt (g := gb214) (o := .cells #[.int .i64 0, .int .i64 0, .int .i64 0, .int .i64 0, .int .i64 0, .int .i64 0, .int .i64 0, .bool false] 82 (0, 0)) (bk BK214.out)) : gb214 ≠ gb216)); have n7_ := aM ((by rw [hg]; exact Nat.ne_of_gt (blk_lt (g := gb214) (o := .cells #[.int .i64 0, .int .i64 0, .int .i64 0, .int .i64 0, .int .i64 0, .int .i64 0, .int .i64 0, .bool false] 82 (0, 0)) (bk BK214.out)) : gb216 ≠ gb214)); have n8_ := aM ((by rw [hg]; exact Nat.ne_of_lt (IsS139.lt (show IsS139 w _ gb215 l0 a1 true from by repeat (first | (with_reducible first | exact HI215.out | apply IsS139.alloc | apply IsS139.drewN | apply IsS139.drew | apply IsS139.set_1 | apply IsS139.set_2 | refine IsS139.far ?_ NB215_214.out _) | exact HI215.out))) : gb215 ≠ gb216)); have n9_ := aM ((by rw [hg]; exact Nat.ne_of_gt (IsS139.lt (show IsS139 w _ gb215 l0 a1 true from by repeat (first | (with_reducible first | exact HI215.out | apply IsS139.alloc | apply IsS139.drewN | apply IsS139.drew | apply IsS139.set_1 | apply IsS139.set_2 | refine IsS139.far ?_ NB215_214.out _) | exact HI215.out))) : gb216 ≠ gb215)); clear BK214 HI215 HB; have BK214 := n0_; have HI215 := n1_; have HB := n2_; have BK216 := n3_; have GW216 := n4_; have GE216 := n5_; have NB214_216 := n6_; have NB216_214 := n7_; have NB215_216 := n8_; have NB216_215 := n9_; clear n0_ n1_ n2_ n3_ n4_ n5_ n6_ n7_ n8_ n9_; clear hb hbox hg; have hnb9 := NB216_214.out; have hnc9 := NB214_216.out; have hnb10 := NB216_215.out; have hnc10 := NB215_216.out; have hcz11_0 := cI BK216.out 0; have hcz11_1 := cI BK216.out 1; have hcz11_2 := cI BK216.out 2; have hcz11_3 := cI BK216.out 3; have hcz11_4 := cI BK216.out 4; have hcz11_5 := cI BK216.out 5; have hcz11_6 := cI BK216.out 6; have hcz11_7 := cI BK216.out 7; have hfz11_0 := bF BK216.out 0; have hfz11_1 := bF BK216.out 1; have hfz11_2 := bF BK216.out 2; have hfz11_3 := bF BK216.out 3; have hfz11_4 := bF BK216.out 4; have hfz11_5 := bF BK216.out 5; have hfz11_6 := bF BK216.out 6; have hfz11_7 := bF BK216.out 7) | (go_at_call 114; (with_reducible refine (spec_l9Num.calls k gb215 l0 a1 true t217 t218 t219 w _ ?side1 ?side2 A3.out).mono ?_); (case side1 => repeat (first | (with_reducible first | exact HI215.out | apply IsS139.alloc | apply IsS139.drewN | apply IsS139.drew | apply IsS139.set_1 | apply IsS139.set_2 | refine IsS139.far ?_ NB215_214.out _ | refine IsS139.far ?_ NB215_216.out _) | exact HI215.out)); (case side2 => repeat (first | (with_reducible first | exact HB.out | apply below_alloc | apply pw_below_drewN | apply below_drew1 | refine below_set ?_ (IsS139.ge HI215.out) | refine below_set ?_ GE214.out | refine below_set ?_ GE216.out) | exact HB.out)); rintro e w12 ⟨rfl, hi, hb, hk⟩; have n0_ := aM (KeepBut.blk hk (g' := gb214) (o := .cells #[.int .i64 0, .int .i64 0, .int .i64 0, .int .i64 0, .int .i64 0, .int .i64 0, .int .i64 0, .bool false] 82 (0, 0)) (by (with_reducible repeat (first | refine blk_drewN ?_ _ | refine blk_drew ?_ | refine blk_alloc ?_ _)); refine blk_far ?_ NB214_216.out _; (with_reducible repeat (first | refine blk_drewN ?_ _ | refine blk_drew ?_ | refine blk_alloc ?_ _)); refine blk_far ?_ NB214_216.out _; (with_reducible repeat (first | refine blk_drewN ?_ _ | refine blk_drew ?_ | refine blk_alloc ?_ _)); refine blk_far ?_ NB214_216.out _; (with_reducible repeat (first | refine blk_drewN ?_ _ | refine blk_drew ?_ | refine blk_alloc ?_ _)); refine blk_far ?_ NB214_216.out _; (with_reducible repeat (first | refine blk_drewN ?_ _ | refine blk_drew ?_ | refine blk_alloc ?_ _)); refine blk_far ?_ NB214_216.out _; (with_reducible repeat (first | refine blk_drewN ?_ _ | refine blk_drew ?_ | refine blk_alloc ?_ _)); refine blk_far ?_ NB214_216.out _; (with_reducible repeat (first | refine blk_drewN ?_ _ | refine blk_drew ?_ | refine blk_alloc ?_ _)); refine blk_far ?_ NB214_216.out _; (with_reducible repeat (first | refine blk_drewN ?_ _ | refine blk_drew ?_ | refine blk_alloc ?_ _)); refine blk_far ?_ NB214_216.out _; (with_reducible repeat (first | refine blk_drewN ?_ _ | refine blk_drew ?_ | refine blk_alloc ?_ _)); exact BK214.out) NB214_215.out (by simp)); have n1_ := aM (KeepBut.blk hk (g' := gb216) (o := .cells #[.int .i64 0, .int .i64 0, .int .i64 0, .int .i64 0, .int .i64 0, .int .i64 0, .int .i64 0, .bool false] 82 (0, 0)) (by (with_reducible repeat (first | refine blk_drewN ?_ _ | refine blk_drew ?_ | refine blk_alloc ?_ _)); refine blk_put (cs := #[.int .i64 0, .int .i64 0, .int .i64 0, .int .i64 0, .int .i64 0, .int .i64 0, .int .i64 0, .bool false]) ?_ 7 _ rfl; (with_reducible repeat (first | refine blk_drewN ?_ _ | refine blk_drew ?_ | refine blk_alloc ?_ _)); refine blk_put (cs := #[.int .i64 0, .int .i64 0, .int .i64 0, .int .i64 0, .int .i64 0, .int .i64 0, .int .i64 0, .bool false]) ?_ 6 _ rfl; (with_reducible repeat (first | refine blk_drewN ?_ _ | refine blk_drew ?_ | refine blk_alloc ?_ _)); refine blk_put (cs := #[.int .i64 0, .int .i64 0, .int .i64 0, .int .i64 0, .int .i64 0, .int .i64 0, .int .i64 0, .bool false]) ?_ 5 _ rfl; (with_reducible repeat (first | refine blk_drewN ?_ _ | refine blk_drew ?_ | refine blk_alloc ?_ _)); refine blk_put (cs := #[.int .i64 0, .int .i64 0, .int .i64 0, .int .i64 0, .int .i64 0, .int .i64 0, .int .i64 0, .bool false]) ?_ 4 _ rfl; (with_reducible repeat (first | refine blk_drewN ?_ _ | refine blk_drew ?_ | refine blk_alloc ?_ _)); refine blk_put (cs := #[.int .i64 0, .int .i64 0, .int .i64 0, .int .i64 0, .int .i64 0, .int .i64 0, .int .i64 0, .bool false]) ?_ 3 _ rfl; (with_reducible repeat (first | refine blk_drewN ?_ _ | refine blk_drew ?_ | refine blk_alloc ?_ _)); refine blk_put (cs := #[.int .i64 0, .int .i64 0, .int .i64 0, .int .i64 0, .int .i64 0, .int .i64 0, .int .i64 0, .bool false]) ?_ 2 _ rfl; (with_reducible repeat (first | refine blk_drewN ?_ _ | refine blk_drew ?_ | refine blk_alloc ?_ _)); refine blk_put (cs := #[.int .i64 0, .int .i64 0, .int .i64 0, .int .i64 0, .int .i64 0, .int .i64 0, .int .i64 0, .bool false]) ?_ 1 _ rfl; (with_reducible repeat (first | refine blk_drewN ?_ _ | refine blk_drew ?_ | refine blk_alloc ?_ _)); refine blk_put (cs := #[.int .i64 0, .int .i64 0, .int .i64 0, .int .i64 0, .int .i64 0, .int .i64 0, .int .i64 0, .bool false]) ?_ 0 _ rfl; (with_reducible repeat (first | refine blk_drewN ?_ _ | refine blk_drew ?_ | refine blk_alloc ?_ _)); exact BK216.out) NB216_215.out (by simp)); have n2_ := aM (hb); have n3_ := aM (hi); clear BK214 BK216; clear HB HI215; have BK214 := n0_; have BK216 := n1_; have HB := n2_; have HI215 := n3_; clear n0_ n1_ n2_ n3_; (try clear hb); (try clear hk); (try clear hi); have hcz13_0 := cI BK216.out 0; have hcz13_1 := cI BK216.out 1; have hcz13_2 := cI BK216.out 2; have hcz13_3 := cI BK216.out 3; have hcz13_4 := cI BK216.out 4; have hcz13_5 := cI BK216.out 5; have hcz13_6 := cI BK216.out 6; have hcz13_7 := cI BK216.out 7; have hfz13_0 := bF BK216.out 0; have hfz13_1 := bF BK216.out 1; have hfz13_2 := bF BK216.out 2; have hfz13_3 := bF BK216.out 3; have hfz13_4 := bF BK216.out 4; have hfz13_5 := bF BK216.out 5; have hfz13_6 := bF BK216.out 6; have hfz13_7 := bF BK216.out 7) | (go_at_call 114; (with_reducible refine (spec_l9Num.calls k gb215 l0 t218 t219 t220 t221 t222 w _ ?side1 ?side2 A4.out).mono ?_); (case side1 => repeat (first | (with_reducible first | exact HI215.out | apply IsS139.alloc | apply IsS139.drewN | apply IsS139.drew | apply IsS139.set_1 | apply IsS139.set_2 | refine IsS139.far ?_ NB215_214.out _ | refine IsS139.far ?_ NB215_216.out _) | exact HI215.out)); (case side2 => repeat (first | (with_reducible first | exact HB.out | apply below_alloc | apply pw_below_drewN | apply below_drew1 | refine below_set ?_ (IsS139.ge HI215.out) | refine below_set ?_ GE214.out | refine below_set ?_ GE216.out) | exact HB.out)); rintro e w14 ⟨rfl, hi, hb, hk⟩; have n0_ := aM (KeepBut.blk hk (g' := gb214) (o := .cells #[.int .i64 0, .int .i64 0, .int .i64 0, .int .i64 0, .int .i64 0, .int .i64 0, .int .i64 0, .bool false] 82 (0, 0)) (by (with_reducible repeat (first | refine blk_drewN ?_ _ | refine blk_drew ?_ | refine blk_alloc ?_ _)); refine blk_far ?_ NB214_216.out _; (with_reducible repeat (first | refine blk_drewN ?_ _ | refine blk_drew ?_ | refine blk_alloc ?_ _)); exact BK214.out) NB214_215.out (by simp)); have n1_ := aM (KeepBut.blk hk (g' := gb216) (o := .cells #[.int .i64 t217, .int .i64 0, .int .i64 0, .int .i64 0, .int .i64 0, .int .i64 0, .int .i64 0, .bool false] 82 (0, 0)) (by (with_reducible repeat (first | refine blk_drewN ?_ _ | refine blk_drew ?_ | refine blk_alloc ?_ _)); refine blk_put (cs := #[.int .i64 0, .int .i64 0, .int .i64 0, .int .i64 0, .int .i64 0, .int .i64 0, .int .i64 0, .bool false]) ?_ 0 _ rfl; (with_reducible repeat (first | refine blk_drewN ?_ _ | refine blk_drew ?_ | refine blk_alloc ?_ _)); exact BK216.out) NB216_215.out (by simp)); have n2_ := aM (hb); have n3_ := aM (hi); clear BK214 BK216; clear HB HI215; have BK214 := n0_; have BK216 := n1_; have HB := n2_; have HI215 := n3_; clear n0_ n1_ n2_ n3_; (try clear hb); (try clear hk); (try clear hi); have hcz15_0 := cI BK216.out 0; have hcz15_1 := cI BK216.out 1; have hcz15_2 := cI BK216.out 2; have hcz15_3 := cI BK216.out 3; have hcz15_4 := cI BK216.out 4; have hcz15_5 := cI BK216.out 5; have hcz15_6 := cI BK216.out 6; have hcz15_7 := cI BK216.out 7; have hfz15_0 := bF BK216.out 0; have hfz15_1 := bF BK216.out 1; have hfz15_2 := bF BK216.out 2; have hfz15_3 := bF BK216.out 3; have hfz15_4 := bF BK216.out 4; have hfz15_5 := bF BK216.out 5; have hfz15_6 := bF BK216.out 6; have hfz15_7 := bF BK216.out 7))
 repeat (go_quiet (first | ((with_reducible refine gate_dst (N := 4) rfl ?_); (try (refine gate_guard (by rfl) ?_; dsimp only)); refine box_event ?hg (N := 4) ?hd (cs := #[.int .i64 0, .int .i64 0, .int .i64 0, .int .i64 0, .int .i64 0, .int .i64 0, .int .i64 0, .bool false]) (t := 82) ?hr ?_; (case hd => rfl); (case hg => rfl); (case hr => first | (go_simp; done) | (go_simp; rfl)); intro gb214 hg w6 hbox hb; have n0_ := aM (bS (bl HB.out) hb); have n1_ := aM (hbox); have n2_ := aM ((by rw [hg]; exact (below_size (bl HB.out)) : w.heap.size ≤ gb214)); have n3_ := aM ((by rw [hg]; exact (below_size (bl HB.out)) : w.heap.size ≤ gb214)); clear HB; have HB := n0_; have BK214 := n1_; have GW214 := n2_; have GE214 := n3_; clear n0_ n1_ n2_ n3_; clear hb hbox hg) | ((with_reducible refine gate_dst (N := 13) rfl ?_); (try (refine gate_guard (by rfl) ?_; dsimp only)); refine box_event ?hg (N := 13) ?hd (cs := #[.slice A0 l0.length c0, .int .i64 a1, .bool true]) (t := 139) ?hr ?_; (case hd => rfl); (case hg => rfl); (case hr => first | (go_simp; done) | (go_simp; rfl)); intro gb215 hg w7 hbox hb; have n0_ := aM (bB (g := gb214) (o := .cells #[.int .i64 0, .int .i64 0, .int .i64 0, .int .i64 0, .int .i64 0, .int .i64 0, .int .i64 0, .bool false] 82 (0, 0)) (bk BK214.out) hb); have n1_ := aM (bS (bl HB.out) hb); have n2_ := aM ((by rw [hg]; exact Nat.ne_of_lt (blk_lt (g := gb214) (o := .cells #[.int .i64 0, .int .i64 0, .int .i64 0, .int .i64 0, .int .i64 0, .int .i64 0, .int .i64 0, .bool false] 82 (0, 0)) (bk BK214.out)) : gb214 ≠ gb215)); have n3_ := aM ((by rw [hg]; exact Nat.ne_of_gt (blk_lt (g := gb214) (o := .cells #[.int .i64 0, .int .i64 0, .int .i64 0, .int .i64 0, .int .i64 0, .int .i64 0, .int .i64 0, .bool false] 82 (0, 0)) (bk BK214.out)) : gb215 ≠ gb214)); have n4_ := aM ((show IsS139 w w7 gb215 l0 a1 true from ⟨_, _, hbox, (by rw [hg]; exact (below_size (bl HB.out)) : w.heap.size ≤ gb215), ⟨HR0.out, HC0.out⟩⟩)); clear BK214 HB; have BK214 := n0_; have HB := n1_; have NB214_215 := n2_; have NB215_214 := n3_; have HI215 := n4_; clear n0_ n1_ n2_ n3_ n4_; clear hb hbox hg) | ((with_reducible refine gate_dst (N := 8) rfl ?_); (try (refine gate_guard (by rfl) ?_; dsimp only)); refine box_event ?hg (N := 8) ?hd (cs := #[.int .i64 0, .int .i64 0, .int .i64 0, .int .i64 0, .int .i64 0, .int .i64 0, .int .i64 0, .bool false]) (t := 82) ?hr ?_; (case hd => rfl); (case hg => rfl); (case hr => first | (go_simp; done) | (go_simp; rfl)); intro gb216 hg w8 hbox hb; have n0_ := aM (bB (g := gb214) (o := .cells #[.int .i64 0, .int .i64 0, .int .i64 0, .int .i64 0, .int .i64 0, .int .i64 0, .int .i64 0, .bool false] 82 (0, 0)) (bk BK214.out) hb); have n1_ := aM (IsS139.below (by repeat (first | (with_reducible first | exact HI215.out | apply IsS139.alloc | apply IsS139.drewN | apply IsS139.drew | apply IsS139.set_1 | apply IsS139.set_2 | refine IsS139.far ?_ NB215_214.out _) | exact HI215.out)) hb); have n2_ := aM (bS (by repeat (first | (with_reducible first | exact HB.out | apply below_alloc | apply pw_below_drewN | apply below_drew1 | refine below_set ?_ (IsS139.ge HI215.out) | refine below_set ?_ GE214.out) | exact HB.out)) hb); have n3_ := aM (hbox); have n4_ := aM ((by rw [hg]; exact (below_size (by repeat (first | (with_reducible first | exact HB.out | apply below_alloc | apply pw_below_drewN | apply below_drew1 | refine below_set ?_ (IsS139.ge HI215.out) | refine below_set ?_ GE214.out) | exact HB.out))) : w.heap.size ≤ gb216)); have n5_ := aM ((by rw [hg]; exact (below_size (by repeat (first | (with_reducible first | exact HB.out | apply below_alloc | apply pw_below_drewN | apply below_drew1 | refine below_set ?_ (IsS139.ge HI215.out) | refine below_set ?_ GE214.out) | exact HB.out))) : w.heap.size ≤ gb216)); have n6_ := aM ((by rw [hg]; exact Nat.ne_of_lt (blk_lt (g := gb214) (o := .cells #[.int .i64 0, .int .i64 0, .int .i64 0, .int .i64 0, .int .i64 0, .int .i64 0, .int .i64 0, .bool false] 82 (0, 0)) (bk BK214.out)) : gb214 ≠ gb216)); have n7_ := aM ((by rw [hg]; exact Nat.ne_of_gt (blk_lt (g := gb214) (o := .cells #[.int .i64 0, .int .i64 0, .int .i64 0, .int .i64 0, .int .i64 0, .int .i64 0, .int .i64 0, .bool false] 82 (0, 0)) (bk BK214.out)) : gb216 ≠ gb214)); have n8_ := aM ((by rw [hg]; exact Nat.ne_of_lt (IsS139.lt (show IsS139 w _ gb215 l0 a1 true from by repeat (first | (with_reducible first | exact HI215.out | apply IsS139.alloc | apply IsS139.drewN | apply IsS139.drew | apply IsS139.set_1 | apply IsS139.set_2 | refine IsS139.far ?_ NB215_214.out _) | exact HI215.out))) : gb215 ≠ gb216)); have n9_ := aM ((by rw [hg]; exact Nat.ne_of_gt (IsS139.lt (show IsS139 w _ gb215 l0 a1 true from by repeat (first | (with_reducible first | exact HI215.out | apply IsS139.alloc | apply IsS139.drewN | apply IsS139.drew | apply IsS139.set_1 | apply IsS139.set_2 | refine IsS139.far ?_ NB215_214.out _) | exact HI215.out))) : gb216 ≠ gb215)); clear BK214 HI215 HB; have BK214 := n0_; have HI215 := n1_; have HB := n2_; have BK216 := n3_; have GW216 := n4_; have GE216 := n5_; have NB214_216 := n6_; have NB216_214 := n7_; have NB215_216 := n8_; have NB216_215 := n9_; clear n0_ n1_ n2_ n3_ n4_ n5_ n6_ n7_ n8_ n9_; clear hb hbox hg; have hnb9 := NB216_214.out; have hnc9 := NB214_216.out; have hnb10 := NB216_215.out; have hnc10 := NB215_216.out; have hcz11_0 := cI BK216.out 0; have hcz11_1 := cI BK216.out 1; have hcz11_2 := cI BK216.out 2; have hcz11_3 := cI BK216.out 3; have hcz11_4 := cI BK216.out 4; have hcz11_5 := cI BK216.out 5; have hcz11_6 := cI BK216.out 6; have hcz11_7 := cI BK216.out 7; have hfz11_0 := bF BK216.out 0; have hfz11_1 := bF BK216.out 1; have hfz11_2 := bF BK216.out 2; have hfz11_3 := bF BK216.out 3; have hfz11_4 := bF BK216.out 4; have hfz11_5 := bF BK216.out 5; have hfz11_6 := bF BK216.out 6; have hfz11_7 := bF BK216.out 7) | (go_at_call 114; (with_reducible refine (spec_l9Num.calls k gb215 l0 a1 true t217 t218 t219 w _ ?side1 ?side2 A3.out).mono ?_); (case side1 => repeat (first | (with_reducible first | exact HI215.out | apply IsS139.alloc | apply IsS139.drewN | apply IsS139.drew | apply IsS139.set_1 | apply IsS139.set_2 | refine IsS139.far ?_ NB215_214.out _ | refine IsS139.far ?_ NB215_216.out _) | exact HI215.out)); (case side2 => repeat (first | (with_reducible first | exact HB.out | apply below_alloc | apply pw_below_drewN | apply below_drew1 | refine below_set ?_ (IsS139.ge HI215.out) | refine below_set ?_ GE214.out | refine below_set ?_ GE216.out) | exact HB.out)); rintro e w12 ⟨rfl, hi, hb, hk⟩; have n0_ := aM (KeepBut.blk hk (g' := gb214) (o := .cells #[.int .i64 0, .int .i64 0, .int .i64 0, .int .i64 0, .int .i64 0, .int .i64 0, .int .i64 0, .bool false] 82 (0, 0)) (by (with_reducible repeat (first | refine blk_drewN ?_ _ | refine blk_drew ?_ | refine blk_alloc ?_ _)); refine blk_far ?_ NB214_216.out _; (with_reducible repeat (first | refine blk_drewN ?_ _ | refine blk_drew ?_ | refine blk_alloc ?_ _)); refine blk_far ?_ NB214_216.out _; (with_reducible repeat (first | refine blk_drewN ?_ _ | refine blk_drew ?_ | refine blk_alloc ?_ _)); refine blk_far ?_ NB214_216.out _; (with_reducible repeat (first | refine blk_drewN ?_ _ | refine blk_drew ?_ | refine blk_alloc ?_ _)); refine blk_far ?_ NB214_216.out _; (with_reducible repeat (first | refine blk_drewN ?_ _ | refine blk_drew ?_ | refine blk_alloc ?_ _)); refine blk_far ?_ NB214_216.out _; (with_reducible repeat (first | refine blk_drewN ?_ _ | refine blk_drew ?_ | refine blk_alloc ?_ _)); refine blk_far ?_ NB214_216.out _; (with_reducible repeat (first | refine blk_drewN ?_ _ | refine blk_drew ?_ | refine blk_alloc ?_ _)); refine blk_far ?_ NB214_216.out _; (with_reducible repeat (first | refine blk_drewN ?_ _ | refine blk_drew ?_ | refine blk_alloc ?_ _)); refine blk_far ?_ NB214_216.out _; (with_reducible repeat (first | refine blk_drewN ?_ _ | refine blk_drew ?_ | refine blk_alloc ?_ _)); exact BK214.out) NB214_215.out (by simp)); have n1_ := aM (KeepBut.blk hk (g' := gb216) (o := .cells #[.int .i64 0, .int .i64 0, .int .i64 0, .int .i64 0, .int .i64 0, .int .i64 0, .int .i64 0, .bool false] 82 (0, 0)) (by (with_reducible repeat (first | refine blk_drewN ?_ _ | refine blk_drew ?_ | refine blk_alloc ?_ _)); refine blk_put (cs := #[.int .i64 0, .int .i64 0, .int .i64 0, .int .i64 0, .int .i64 0, .int .i64 0, .int .i64 0, .bool false]) ?_ 7 _ rfl; (with_reducible repeat (first | refine blk_drewN ?_ _ | refine blk_drew ?_ | refine blk_alloc ?_ _)); refine blk_put (cs := #[.int .i64 0, .int .i64 0, .int .i64 0, .int .i64 0, .int .i64 0, .int .i64 0, .int .i64 0, .bool false]) ?_ 6 _ rfl; (with_reducible repeat (first | refine blk_drewN ?_ _ | refine blk_drew ?_ | refine blk_alloc ?_ _)); refine blk_put (cs := #[.int .i64 0, .int .i64 0, .int .i64 0, .int .i64 0, .int .i64 0, .int .i64 0, .int .i64 0, .bool false]) ?_ 5 _ rfl; (with_reducible repeat (first | refine blk_drewN ?_ _ | refine blk_drew ?_ | refine blk_alloc ?_ _)); refine blk_put (cs := #[.int .i64 0, .int .i64 0, .int .i64 0, .int .i64 0, .int .i64 0, .int .i64 0, .int .i64 0, .bool false]) ?_ 4 _ rfl; (with_reducible repeat (first | refine blk_drewN ?_ _ | refine blk_drew ?_ | refine blk_alloc ?_ _)); refine blk_put (cs := #[.int .i64 0, .int .i64 0, .int .i64 0, .int .i64 0, .int .i64 0, .int .i64 0, .int .i64 0, .bool false]) ?_ 3 _ rfl; (with_reducible repeat (first | refine blk_drewN ?_ _ | refine blk_drew ?_ | refine blk_alloc ?_ _)); refine blk_put (cs := #[.int .i64 0, .int .i64 0, .int .i64 0, .int .i64 0, .int .i64 0, .int .i64 0, .int .i64 0, .bool false]) ?_ 2 _ rfl; (with_reducible repeat (first | refine blk_drewN ?_ _ | refine blk_drew ?_ | refine blk_alloc ?_ _)); refine blk_put (cs := #[.int .i64 0, .int .i64 0, .int .i64 0, .int .i64 0, .int .i64 0, .int .i64 0, .int .i64 0, .bool false]) ?_ 1 _ rfl; (with_reducible repeat (first | refine blk_drewN ?_ _ | refine blk_drew ?_ | refine blk_alloc ?_ _)); refine blk_put (cs := #[.int .i64 0, .int .i64 0, .int .i64 0, .int .i64 0, .int .i64 0, .int .i64 0, .int .i64 0, .bool false]) ?_ 0 _ rfl; (with_reducible repeat (first | refine blk_drewN ?_ _ | refine blk_drew ?_ | refine blk_alloc ?_ _)); exact BK216.out) NB216_215.out (by simp)); have n2_ := aM (hb); have n3_ := aM (hi); clear BK214 BK216; clear HB HI215; have BK214 := n0_; have BK216 := n1_; have HB := n2_; have HI215 := n3_; clear n0_ n1_ n2_ n3_; (try clear hb); (try clear hk); (try clear hi); have hcz13_0 := cI BK216.out 0; have hcz13_1 := cI BK216.out 1; have hcz13_2 := cI BK216.out 2; have hcz13_3 := cI BK216.out 3; have hcz13_4 := cI BK216.out 4; have hcz13_5 := cI BK216.out 5; have hcz13_6 := cI BK216.out 6; have hcz13_7 := cI BK216.out 7; have hfz13_0 := bF BK216.out 0; have hfz13_1 := bF BK216.out 1; have hfz13_2 := bF BK216.out 2; have hfz13_3 := bF BK216.out 3; have hfz13_4 := bF BK216.out 4; have hfz13_5 := bF BK216.out 5; have hfz13_6 := bF BK216.out 6; have hfz13_7 := bF BK216.out 7) | (go_at_call 114; (with_reducible refine (spec_l9Num.calls k gb215 l0 t218 t219 t220 t221 t222 w _ ?side1 ?side2 A4.out).mono ?_); (case side1 => repeat (first | (with_reducible first | exact HI215.out | apply IsS139.alloc | apply IsS139.drewN | apply IsS139.drew | apply IsS139.set_1 | apply IsS139.set_2 | refine IsS139.far ?_ NB215_214.out _ | refine IsS139.far ?_ NB215_216.out _) | exact HI215.out)); (case side2 => repeat (first | (with_reducible first | exact HB.out | apply below_alloc | apply pw_below_drewN | apply below_drew1 | refine below_set ?_ (IsS139.ge HI215.out) | refine below_set ?_ GE214.out | refine below_set ?_ GE216.out) | exact HB.out)); rintro e w14 ⟨rfl, hi, hb, hk⟩; have n0_ := aM (KeepBut.blk hk (g' := gb214) (o := .cells #[.int .i64 0, .int .i64 0, .int .i64 0, .int .i64 0, .int .i64 0, .int .i64 0, .int .i64 0, .bool false] 82 (0, 0)) (by (with_reducible repeat (first | refine blk_drewN ?_ _ | refine blk_drew ?_ | refine blk_alloc ?_ _)); refine blk_far ?_ NB214_216.out _; (with_reducible repeat (first | refine blk_drewN ?_ _ | refine blk_drew ?_ | refine blk_alloc ?_ _)); exact BK214.out) NB214_215.out (by simp)); have n1_ := aM (KeepBut.blk hk (g' := gb216) (o := .cells #[.int .i64 t217, .int .i64 0, .int .i64 0, .int .i64 0, .int .i64 0, .int .i64 0, .int .i64 0, .bool false] 82 (0, 0)) (by (with_reducible repeat (first | refine blk_drewN ?_ _ | refine blk_drew ?_ | refine blk_alloc ?_ _)); refine blk_put (cs := #[.int .i64 0, .int .i64 0, .int .i64 0, .int .i64 0, .int .i64 0, .int .i64 0, .int .i64 0, .bool false]) ?_ 0 _ rfl; (with_reducible repeat (first | refine blk_drewN ?_ _ | refine blk_drew ?_ | refine blk_alloc ?_ _)); exact BK216.out) NB216_215.out (by simp)); have n2_ := aM (hb); have n3_ := aM (hi); clear BK214 BK216; clear HB HI215; have BK214 := n0_; have BK216 := n1_; have HB := n2_; have HI215 := n3_; clear n0_ n1_ n2_ n3_; (try clear hb); (try clear hk); (try clear hi); have hcz15_0 := cI BK216.out 0; have hcz15_1 := cI BK216.out 1; have hcz15_2 := cI BK216.out 2; have hcz15_3 := cI BK216.out 3; have hcz15_4 := cI BK216.out 4; have hcz15_5 := cI BK216.out 5; have hcz15_6 := cI BK216.out 6; have hcz15_7 := cI BK216.out 7; have hfz15_0 := bF BK216.out 0; have hfz15_1 := bF BK216.out 1; have hfz15_2 := bF BK216.out 2; have hfz15_3 := bF BK216.out 3; have hfz15_4 := bF BK216.out 4; have hfz15_5 := bF BK216.out 5; have hfz15_6 := bF BK216.out 6; have hfz15_7 := bF BK216.out 7)); go_upto_block 0 with (first | ((with_reducible refine gate_dst (N := 4) rfl ?_); (try (refine gate_guard (by rfl) ?_; dsimp only)); refine box_event ?hg (N := 4) ?hd (cs := #[.int .i64 0, .int .i64 0, .int .i64 0, .int .i64 0, .int .i64 0, .int .i64 0, .int .i64 0, .bool false]) (t := 82) ?hr ?_; (case hd => rfl); (case hg => rfl); (case hr => first | (go_simp; done) | (go_simp; rfl)); intro gb214 hg w6 hbox hb; have n0_ := aM (bS (bl HB.out) hb); have n1_ := aM (hbox); have n2_ := aM ((by rw [hg]; exact (below_size (bl HB.out)) : w.heap.size ≤ gb214)); have n3_ := aM ((by rw [hg]; exact (below_size (bl HB.out)) : w.heap.size ≤ gb214)); clear HB; have HB := n0_; have BK214 := n1_; have GW214 := n2_; have GE214 := n3_; clear n0_ n1_ n2_ n3_; clear hb hbox hg) | ((with_reducible refine gate_dst (N := 13) rfl ?_); (try (refine gate_guard (by rfl) ?_; dsimp only)); refine box_event ?hg (N := 13) ?hd (cs := #[.slice A0 l0.length c0, .int .i64 a1, .bool true]) (t := 139) ?hr ?_; (case hd => rfl); (case hg => rfl); (case hr => first | (go_simp; done) | (go_simp; rfl)); intro gb215 hg w7 hbox hb; have n0_ := aM (bB (g := gb214) (o := .cells #[.int .i64 0, .int .i64 0, .int .i64 0, .int .i64 0, .int .i64 0, .int .i64 0, .int .i64 0, .bool false] 82 (0, 0)) (bk BK214.out) hb); have n1_ := aM (bS (bl HB.out) hb); have n2_ := aM ((by rw [hg]; exact Nat.ne_of_lt (blk_lt (g := gb214) (o := .cells #[.int .i64 0, .int .i64 0, .int .i64 0, .int .i64 0, .int .i64 0, .int .i64 0, .int .i64 0, .bool false] 82 (0, 0)) (bk BK214.out)) : gb214 ≠ gb215)); have n3_ := aM ((by rw [hg]; exact Nat.ne_of_gt (blk_lt (g := gb214) (o := .cells #[.int .i64 0, .int .i64 0, .int .i64 0, .int .i64 0, .int .i64 0, .int .i64 0, .int .i64 0, .bool false] 82 (0, 0)) (bk BK214.out)) : gb215 ≠ gb214)); have n4_ := aM ((show IsS139 w w7 gb215 l0 a1 true from ⟨_, _, hbox, (by rw [hg]; exact (below_size (bl HB.out)) : w.heap.size ≤ gb215), ⟨HR0.out, HC0.out⟩⟩)); clear BK214 HB; have BK214 := n0_; have HB := n1_; have NB214_215 := n2_; have NB215_214 := n3_; have HI215 := n4_; clear n0_ n1_ n2_ n3_ n4_; clear hb hbox hg) | ((with_reducible refine gate_dst (N := 8) rfl ?_); (try (refine gate_guard (by rfl) ?_; dsimp only)); refine box_event ?hg (N := 8) ?hd (cs := #[.int .i64 0, .int .i64 0, .int .i64 0, .int .i64 0, .int .i64 0, .int .i64 0, .int .i64 0, .bool false]) (t := 82) ?hr ?_; (case hd => rfl); (case hg => rfl); (case hr => first | (go_simp; done) | (go_simp; rfl)); intro gb216 hg w8 hbox hb; have n0_ := aM (bB (g := gb214) (o := .cells #[.int .i64 0, .int .i64 0, .int .i64 0, .int .i64 0, .int .i64 0, .int .i64 0, .int .i64 0, .bool false] 82 (0, 0)) (bk BK214.out) hb); have n1_ := aM (IsS139.below (by repeat (first | (with_reducible first | exact HI215.out | apply IsS139.alloc | apply IsS139.drewN | apply IsS139.drew | apply IsS139.set_1 | apply IsS139.set_2 | refine IsS139.far ?_ NB215_214.out _) | exact HI215.out)) hb); have n2_ := aM (bS (by repeat (first | (with_reducible first | exact HB.out | apply below_alloc | apply pw_below_drewN | apply below_drew1 | refine below_set ?_ (IsS139.ge HI215.out) | refine below_set ?_ GE214.out) | exact HB.out)) hb); have n3_ := aM (hbox); have n4_ := aM ((by rw [hg]; exact (below_size (by repeat (first | (with_reducible first | exact HB.out | apply below_alloc | apply pw_below_drewN | apply below_drew1 | refine below_set ?_ (IsS139.ge HI215.out) | refine below_set ?_ GE214.out) | exact HB.out))) : w.heap.size ≤ gb216)); have n5_ := aM ((by rw [hg]; exact (below_size (by repeat (first | (with_reducible first | exact HB.out | apply below_alloc | apply pw_below_drewN | apply below_drew1 | refine below_set ?_ (IsS139.ge HI215.out) | refine below_set ?_ GE214.out) | exact HB.out))) : w.heap.size ≤ gb216)); have n6_ := aM ((by rw [hg]; exact Nat.ne_of_lt (blk_lt (g := gb214) (o := .cells #[.int .i64 0, .int .i64 0, .int .i64 0, .int .i64 0, .int .i64 0, .int .i64 0, .int .i64 0, .bool false] 82 (0, 0)) (bk BK214.out)) : gb214 ≠ gb216)); have n7_ := aM ((by rw [hg]; exact Nat.ne_of_gt (blk_lt (g := gb214) (o := .cells #[.int .i64 0, .int .i64 0, .int .i64 0, .int .i64 0, .int .i64 0, .int .i64 0, .int .i64 0, .bool false] 82 (0, 0)) (bk BK214.out)) : gb216 ≠ gb214)); have n8_ := aM ((by rw [hg]; exact Nat.ne_of_lt (IsS139.lt (show IsS139 w _ gb215 l0 a1 true from by repeat (first | (with_reducible first | exact HI215.out | apply IsS139.alloc | apply IsS139.drewN | apply IsS139.drew | apply IsS139.set_1 | apply IsS139.set_2 | refine IsS139.far ?_ NB215_214.out _) | exact HI215.out))) : gb215 ≠ gb216)); have n9_ := aM ((by rw [hg]; exact Nat.ne_of_gt (IsS139.lt (show IsS139 w _ gb215 l0 a1 true from by repeat (first | (with_reducible first | exact HI215.out | apply IsS139.alloc | apply IsS139.drewN | apply IsS139.drew | apply IsS139.set_1 | apply IsS139.set_2 | refine IsS139.far ?_ NB215_214.out _) | exact HI215.out))) : gb216 ≠ gb215)); clear BK214 HI215 HB; have BK214 := n0_; have HI215 := n1_; have HB := n2_; have BK216 := n3_; have GW216 := n4_; have GE216 := n5_; have NB214_216 := n6_; have NB216_214 := n7_; have NB215_216 := n8_; have NB216_215 := n9_; clear n0_ n1_ n2_ n3_ n4_ n5_ n6_ n7_ n8_ n9_; clear hb hbox hg; have hnb9 := NB216_214.out; have hnc9 := NB214_216.out; have hnb10 := NB216_215.out; have hnc10 := NB215_216.out; have hcz11_0 := cI BK216.out 0; have hcz11_1 := cI BK216.out 1; have hcz11_2 := cI BK216.out 2; have hcz11_3 := cI BK216.out 3; have hcz11_4 := cI BK216.out 4; have hcz11_5 := cI BK216.out 5; have hcz11_6 := cI BK216.out 6; have hcz11_7 := cI BK216.out 7; have hfz11_0 := bF BK216.out 0; have hfz11_1 := bF BK216.out 1; have hfz11_2 := bF BK216.out 2; have hfz11_3 := bF BK216.out 3; have hfz11_4 := bF BK216.out 4; have hfz11_5 := bF BK216.out 5; have hfz11_6 := bF BK216.out 6; have hfz11_7 := bF BK216.out 7) | (go_at_call 114; (with_reducible refine (spec_l9Num.calls k gb215 l0 a1 true t217 t218 t219 w _ ?side1 ?side2 A3.out).mono ?_); (case side1 => repeat (first | (with_reducible first | exact HI215.out | apply IsS139.alloc | apply IsS139.drewN | apply IsS139.drew | apply IsS139.set_1 | apply IsS139.set_2 | refine IsS139.far ?_ NB215_214.out _ | refine IsS139.far ?_ NB215_216.out _) | exact HI215.out)); (case side2 => repeat (first | (with_reducible first | exact HB.out | apply below_alloc | apply pw_below_drewN | apply below_drew1 | refine below_set ?_ (IsS139.ge HI215.out) | refine below_set ?_ GE214.out | refine below_set ?_ GE216.out) | exact HB.out)); rintro e w12 ⟨rfl, hi, hb, hk⟩; have n0_ := aM (KeepBut.blk hk (g' := gb214) (o := .cells #[.int .i64 0, .int .i64 0, .int .i64 0, .int .i64 0, .int .i64 0, .int .i64 0, .int .i64 0, .bool false] 82 (0, 0)) (by (with_reducible repeat (first | refine blk_drewN ?_ _ | refine blk_drew ?_ | refine blk_alloc ?_ _)); refine blk_far ?_ NB214_216.out _; (with_reducible repeat (first | refine blk_drewN ?_ _ | refine blk_drew ?_ | refine blk_alloc ?_ _)); refine blk_far ?_ NB214_216.out _; (with_reducible repeat (first | refine blk_drewN ?_ _ | refine blk_drew ?_ | refine blk_alloc ?_ _)); refine blk_far ?_ NB214_216.out _; (with_reducible repeat (first | refine blk_drewN ?_ _ | refine blk_drew ?_ | refine blk_alloc ?_ _)); refine blk_far ?_ NB214_216.out _; (with_reducible repeat (first | refine blk_drewN ?_ _ | refine blk_drew ?_ | refine blk_alloc ?_ _)); refine blk_far ?_ NB214_216.out _; (with_reducible repeat (first | refine blk_drewN ?_ _ | refine blk_drew ?_ | refine blk_alloc ?_ _)); refine blk_far ?_ NB214_216.out _; (with_reducible repeat (first | refine blk_drewN ?_ _ | refine blk_drew ?_ | refine blk_alloc ?_ _)); refine blk_far ?_ NB214_216.out _; (with_reducible repeat (first | refine blk_drewN ?_ _ | refine blk_drew ?_ | refine blk_alloc ?_ _)); refine blk_far ?_ NB214_216.out _; (with_reducible repeat (first | refine blk_drewN ?_ _ | refine blk_drew ?_ | refine blk_alloc ?_ _)); exact BK214.out) NB214_215.out (by simp)); have n1_ := aM (KeepBut.blk hk (g' := gb216) (o := .cells #[.int .i64 0, .int .i64 0, .int .i64 0, .int .i64 0, .int .i64 0, .int .i64 0, .int .i64 0, .bool false] 82 (0, 0)) (by (with_reducible repeat (first | refine blk_drewN ?_ _ | refine blk_drew ?_ | refine blk_alloc ?_ _)); refine blk_put (cs := #[.int .i64 0, .int .i64 0, .int .i64 0, .int .i64 0, .int .i64 0, .int .i64 0, .int .i64 0, .bool false]) ?_ 7 _ rfl; (with_reducible repeat (first | refine blk_drewN ?_ _ | refine blk_drew ?_ | refine blk_alloc ?_ _)); refine blk_put (cs := #[.int .i64 0, .int .i64 0, .int .i64 0, .int .i64 0, .int .i64 0, .int .i64 0, .int .i64 0, .bool false]) ?_ 6 _ rfl; (with_reducible repeat (first | refine blk_drewN ?_ _ | refine blk_drew ?_ | refine blk_alloc ?_ _)); refine blk_put (cs := #[.int .i64 0, .int .i64 0, .int .i64 0, .int .i64 0, .int .i64 0, .int .i64 0, .int .i64 0, .bool false]) ?_ 5 _ rfl; (with_reducible repeat (first | refine blk_drewN ?_ _ | refine blk_drew ?_ | refine blk_alloc ?_ _)); refine blk_put (cs := #[.int .i64 0, .int .i64 0, .int .i64 0, .int .i64 0, .int .i64 0, .int .i64 0, .int .i64 0, .bool false]) ?_ 4 _ rfl; (with_reducible repeat (first | refine blk_drewN ?_ _ | refine blk_drew ?_ | refine blk_alloc ?_ _)); refine blk_put (cs := #[.int .i64 0, .int .i64 0, .int .i64 0, .int .i64 0, .int .i64 0, .int .i64 0, .int .i64 0, .bool false]) ?_ 3 _ rfl; (with_reducible repeat (first | refine blk_drewN ?_ _ | refine blk_drew ?_ | refine blk_alloc ?_ _)); refine blk_put (cs := #[.int .i64 0, .int .i64 0, .int .i64 0, .int .i64 0, .int .i64 0, .int .i64 0, .int .i64 0, .bool false]) ?_ 2 _ rfl; (with_reducible repeat (first | refine blk_drewN ?_ _ | refine blk_drew ?_ | refine blk_alloc ?_ _)); refine blk_put (cs := #[.int .i64 0, .int .i64 0, .int .i64 0, .int .i64 0, .int .i64 0, .int .i64 0, .int .i64 0, .bool false]) ?_ 1 _ rfl; (with_reducible repeat (first | refine blk_drewN ?_ _ | refine blk_drew ?_ | refine blk_alloc ?_ _)); refine blk_put (cs := #[.int .i64 0, .int .i64 0, .int .i64 0, .int .i64 0, .int .i64 0, .int .i64 0, .int .i64 0, .bool false]) ?_ 0 _ rfl; (with_reducible repeat (first | refine blk_drewN ?_ _ | refine blk_drew ?_ | refine blk_alloc ?_ _)); exact BK216.out) NB216_215.out (by simp)); have n2_ := aM (hb); have n3_ := aM (hi); clear BK214 BK216; clear HB HI215; have BK214 := n0_; have BK216 := n1_; have HB := n2_; have HI215 := n3_; clear n0_ n1_ n2_ n3_; (try clear hb); (try clear hk); (try clear hi); have hcz13_0 := cI BK216.out 0; have hcz13_1 := cI BK216.out 1; have hcz13_2 := cI BK216.out 2; have hcz13_3 := cI BK216.out 3; have hcz13_4 := cI BK216.out 4; have hcz13_5 := cI BK216.out 5; have hcz13_6 := cI BK216.out 6; have hcz13_7 := cI BK216.out 7; have hfz13_0 := bF BK216.out 0; have hfz13_1 := bF BK216.out 1; have hfz13_2 := bF BK216.out 2; have hfz13_3 := bF BK216.out 3; have hfz13_4 := bF BK216.out 4; have hfz13_5 := bF BK216.out 5; have hfz13_6 := bF BK216.out 6; have hfz13_7 := bF BK216.out 7) | (go_at_call 114; (with_reducible refine (spec_l9Num.calls k gb215 l0 t218 t219 t220 t221 t222 w _ ?side1 ?side2 A4.out).mono ?_); (case side1 => repeat (first | (with_reducible first | exact HI215.out | apply IsS139.alloc | apply IsS139.drewN | apply IsS139.drew | apply IsS139.set_1 | apply IsS139.set_2 | refine IsS139.far ?_ NB215_214.out _ | refine IsS139.far ?_ NB215_216.out _) | exact HI215.out)); (case side2 => repeat (first | (with_reducible first | exact HB.out | apply below_alloc | apply pw_below_drewN | apply below_drew1 | refine below_set ?_ (IsS139.ge HI215.out) | refine below_set ?_ GE214.out | refine below_set ?_ GE216.out) | exact HB.out)); rintro e w14 ⟨rfl, hi, hb, hk⟩; have n0_ := aM (KeepBut.blk hk (g' := gb214) (o := .cells #[.int .i64 0, .int .i64 0, .int .i64 0, .int .i64 0, .int .i64 0, .int .i64 0, .int .i64 0, .bool false] 82 (0, 0)) (by (with_reducible repeat (first | refine blk_drewN ?_ _ | refine blk_drew ?_ | refine blk_alloc ?_ _)); refine blk_far ?_ NB214_216.out _; (with_reducible repeat (first | refine blk_drewN ?_ _ | refine blk_drew ?_ | refine blk_alloc ?_ _)); exact BK214.out) NB214_215.out (by simp)); have n1_ := aM (KeepBut.blk hk (g' := gb216) (o := .cells #[.int .i64 t217, .int .i64 0, .int .i64 0, .int .i64 0, .int .i64 0, .int .i64 0, .int .i64 0, .bool false] 82 (0, 0)) (by (with_reducible repeat (first | refine blk_drewN ?_ _ | refine blk_drew ?_ | refine blk_alloc ?_ _)); refine blk_put (cs := #[.int .i64 0, .int .i64 0, .int .i64 0, .int .i64 0, .int .i64 0, .int .i64 0, .int .i64 0, .bool false]) ?_ 0 _ rfl; (with_reducible repeat (first | refine blk_drewN ?_ _ | refine blk_drew ?_ | refine blk_alloc ?_ _)); exact BK216.out) NB216_215.out (by simp)); have n2_ := aM (hb); have n3_ := aM (hi); clear BK214 BK216; clear HB HI215; have BK214 := n0_; have BK216 := n1_; have HB := n2_; have HI215 := n3_; clear n0_ n1_ n2_ n3_; (try clear hb); (try clear hk); (try clear hi); have hcz15_0 := cI BK216.out 0; have hcz15_1 := cI BK216.out 1; have hcz15_2 := cI BK216.out 2; have hcz15_3 := cI BK216.out 3; have hcz15_4 := cI BK216.out 4; have hcz15_5 := cI BK216.out 5; have hcz15_6 := cI BK216.out 6; have hcz15_7 := cI BK216.out 7; have hfz15_0 := bF BK216.out 0; have hfz15_1 := bF BK216.out 1; have hfz15_2 := bF BK216.out 2; have hfz15_3 := bF BK216.out 3; have hfz15_4 := bF BK216.out 4; have hfz15_5 := bF BK216.out 5; have hfz15_6 := bF BK216.out 6; have hfz15_7 := bF BK216.out 7)))
 (try simp only [Act.put, sA, sZ, sS])
 go_cut [] (fun wc => ∃ (kq : Nat) (x216001_4 : Int) (x216002_4 : Bool) (x217002_4 : Int) (x217003_4 : Int) (x217004_4 : Int) (x217005_4 : Int) (x217006_4 : Int) (x217007_4 : Bool), Aside0 (spec_InOf.j0 kq l0 a1 l0 x216001_4 x216002_4 t217 t220 x217002_4 x217003_4 x217004_4 x217005_4 x217006_4 x217007_4 = some (r1, r2, r3, r4, r5, r6, r7, r8, r9, r10)) ∧ Aside0 (kq ≤ k) ∧ Aside0 (wc.heap[gb214]? = some (.cells #[.int .i64 0, .int .i64 0, .int .i64 0, .int .i64 0, .int .i64 0, .int .i64 0, .int .i64 0, .bool false] 82 (0, 0))) ∧ Aside0 (wc.heap[gb216]? = some (.cells #[.int .i64 t217, .int .i64 t220, .int .i64 x217002_4, .int .i64 x217003_4, .int .i64 x217004_4, .int .i64 x217005_4, .int .i64 x217006_4, .bool x217007_4] 82 (0, 0))) ∧ Aside0 (IsS139 w wc gb215 l0 x216001_4 x216002_4) ∧ Aside0 (Below w.heap.size w wc))
 case first =>
  have H := HC5.out
  clear HC5
  by_cases c16 : t217 = 1
  case neg =>
   rw [if_neg c16] at H
   have c16b0 : (t217 == 1) = false := beq_eq_false_iff_ne.mpr c16
   have c16b1 : (t217 != 1) = true := bne_iff_ne.mpr c16
   (first | rw [c16b0] | (simp only [i64_w, i32_w]; rw [c16b0]) | skip)
   by_cases c34 : t217 = 3
   case neg =>
    rw [if_neg c34] at H
    have c34b0 : (t217 == 3) = false := beq_eq_false_iff_ne.mpr c34
    have c34b1 : (t217 != 3) = true := bne_iff_ne.mpr c34
    have H' := aM H
    clear H
    go_wp2
    (try (go_big_region; try go_wp2))
    go_meet
    case rel => exact ⟨_, (t221), (t222), (0), (0), (0), (0), (0), (false), H', ⟨by first | omega | exact Nat.le_refl _⟩, ⟨by (with_reducible repeat (first | refine blk_drewN ?_ _ | refine blk_drew ?_ | refine blk_alloc ?_ _)); refine blk_far ?_ NB214_216.out _; (with_reducible repeat (first | refine blk_drewN ?_ _ | refine blk_drew ?_ | refine blk_alloc ?_ _)); exact BK214.out⟩, ⟨by (with_reducible repeat (first | refine blk_drewN ?_ _ | refine blk_drew ?_ | refine blk_alloc ?_ _)); refine blk_put (cs := #[.int .i64 t217, .int .i64 0, .int .i64 0, .int .i64 0, .int .i64 0, .int .i64 0, .int .i64 0, .bool false]) ?_ 1 _ rfl; (with_reducible repeat (first | refine blk_drewN ?_ _ | refine blk_drew ?_ | refine blk_alloc ?_ _)); exact BK216.out⟩, ⟨by repeat (first | (with_reducible first | exact HI215.out | apply IsS139.alloc | apply IsS139.drewN | apply IsS139.drew | apply IsS139.set_1 | apply IsS139.set_2 | refine IsS139.far ?_ NB215_214.out _ | refine IsS139.far ?_ NB215_216.out _) | exact HI215.out)⟩, ⟨by repeat (first | (with_reducible first | exact HB.out | apply below_alloc | apply pw_below_drewN | apply below_drew1 | refine below_set ?_ (IsS139.ge HI215.out) | refine below_set ?_ GE214.out | refine below_set ?_ GE216.out) | exact HB.out)⟩⟩
   rw [if_pos c34] at H
   have c34b0 : (t217 == 3) = true := beq_iff_eq.mpr c34
   have c34b1 : (t217 != 3) = false := bne_eq_false_iff_eq.mpr c34
   clear c34
   replace H := Option.bind_eq_some_iff.mp H
   obtain ⟨⟨t238, t239, t240⟩, A350, H⟩ := H
   replace H : (spec_InOf.j0 k l0 a1 l0 t239 t240 t217 t220 0 0 0 0 0 (t238 == 1)) = some (r1, r2, r3, r4, r5, r6, r7, r8, r9, r10) := H
   have A35 := aM A350
   clear A350
   have H' := aM H
   clear H
   go_wp2_with (first | (go_at_call 114; (with_reducible refine (spec_l9Num.calls k gb215 l0 t221 t222 t238 t239 t240 w _ ?side1 ?side2 A35.out).mono ?_); (case side1 => repeat (first | (with_reducible first | exact HI215.out | apply IsS139.alloc | apply IsS139.drewN | apply IsS139.drew | apply IsS139.set_1 | apply IsS139.set_2 | refine IsS139.far ?_ NB215_214.out _ | refine IsS139.far ?_ NB215_216.out _) | exact HI215.out)); (case side2 => repeat (first | (with_reducible first | exact HB.out | apply below_alloc | apply pw_below_drewN | apply below_drew1 | refine below_set ?_ (IsS139.ge HI215.out) | refine below_set ?_ GE214.out | refine below_set ?_ GE216.out) | exact HB.out)); rintro e w36 ⟨rfl, hi, hb, hk⟩; have n0_ := aM (KeepBut.blk hk (g' := gb214) (o := .cells #[.int .i64 0, .int .i64 0, .int .i64 0, .int .i64 0, .int .i64 0, .int .i64 0, .int .i64 0, .bool false] 82 (0, 0)) (by (with_reducible repeat (first | refine blk_drewN ?_ _ | refine blk_drew ?_ | refine blk_alloc ?_ _)); refine blk_far ?_ NB214_216.out _; (with_reducible repeat (first | refine blk_drewN ?_ _ | refine blk_drew ?_ | refine blk_alloc ?_ _)); exact BK214.out) NB214_215.out (by simp)); have n1_ := aM (KeepBut.blk hk (g' := gb216) (o := .cells #[.int .i64 t217, .int .i64 t220, .int .i64 0, .int .i64 0, .int .i64 0, .int .i64 0, .int .i64 0, .bool false] 82 (0, 0)) (by (with_reducible repeat (first | refine blk_drewN ?_ _ | refine blk_drew ?_ | refine blk_alloc ?_ _)); refine blk_put (cs := #[.int .i64 t217, .int .i64 0, .int .i64 0, .int .i64 0, .int .i64 0, .int .i64 0, .int .i64 0, .bool false]) ?_ 1 _ rfl; (with_reducible repeat (first | refine blk_drewN ?_ _ | refine blk_drew ?_ | refine blk_alloc ?_ _)); exact BK216.out) NB216_215.out (by simp)); have n2_ := aM (hb); have n3_ := aM (hi); clear BK214 BK216; clear HB HI215; have BK214 := n0_; have BK216 := n1_; have HB := n2_; have HI215 := n3_; clear n0_ n1_ n2_ n3_; (try clear hb); (try clear hk); (try clear hi); have hnb37 := NB216_214.out; have hnc37 := NB214_216.out; have hnb38 := NB216_215.out; have hnc38 := NB215_216.out; have hcz39_0 := cI BK216.out 0; have hcz39_1 := cI BK216.out 1; have hcz39_2 := cI BK216.out 2; have hcz39_3 := cI BK216.out 3; have hcz39_4 := cI BK216.out 4; have hcz39_5 := cI BK216.out 5; have hcz39_6 := cI BK216.out 6; have hcz39_7 := cI BK216.out 7; have hfz39_0 := bF BK216.out 0; have hfz39_1 := bF BK216.out 1; have hfz39_2 := bF BK216.out 2; have hfz39_3 := bF BK216.out 3; have hfz39_4 := bF BK216.out 4; have hfz39_5 := bF BK216.out 5; have hfz39_6 := bF BK216.out 6; have hfz39_7 := bF BK216.out 7))
   repeat (go_quiet (first | (go_at_call 114; (with_reducible refine (spec_l9Num.calls k gb215 l0 t221 t222 t238 t239 t240 w _ ?side1 ?side2 A35.out).mono ?_); (case side1 => repeat (first | (with_reducible first | exact HI215.out | apply IsS139.alloc | apply IsS139.drewN | apply IsS139.drew | apply IsS139.set_1 | apply IsS139.set_2 | refine IsS139.far ?_ NB215_214.out _ | refine IsS139.far ?_ NB215_216.out _) | exact HI215.out)); (case side2 => repeat (first | (with_reducible first | exact HB.out | apply below_alloc | apply pw_below_drewN | apply below_drew1 | refine below_set ?_ (IsS139.ge HI215.out) | refine below_set ?_ GE214.out | refine below_set ?_ GE216.out) | exact HB.out)); rintro e w36 ⟨rfl, hi, hb, hk⟩; have n0_ := aM (KeepBut.blk hk (g' := gb214) (o := .cells #[.int .i64 0, .int .i64 0, .int .i64 0, .int .i64 0, .int .i64 0, .int .i64 0, .int .i64 0, .bool false] 82 (0, 0)) (by (with_reducible repeat (first | refine blk_drewN ?_ _ | refine blk_drew ?_ | refine blk_alloc ?_ _)); refine blk_far ?_ NB214_216.out _; (with_reducible repeat (first | refine blk_drewN ?_ _ | refine blk_drew ?_ | refine blk_alloc ?_ _)); exact BK214.out) NB214_215.out (by simp)); have n1_ := aM (KeepBut.blk hk (g' := gb216) (o := .cells #[.int .i64 t217, .int .i64 t220, .int .i64 0, .int .i64 0, .int .i64 0, .int .i64 0, .int .i64 0, .bool false] 82 (0, 0)) (by (with_reducible repeat (first | refine blk_drewN ?_ _ | refine blk_drew ?_ | refine blk_alloc ?_ _)); refine blk_put (cs := #[.int .i64 t217, .int .i64 0, .int .i64 0, .int .i64 0, .int .i64 0, .int .i64 0, .int .i64 0, .bool false]) ?_ 1 _ rfl; (with_reducible repeat (first | refine blk_drewN ?_ _ | refine blk_drew ?_ | refine blk_alloc ?_ _)); exact BK216.out) NB216_215.out (by simp)); have n2_ := aM (hb); have n3_ := aM (hi); clear BK214 BK216; clear HB HI215; have BK214 := n0_; have BK216 := n1_; have HB := n2_; have HI215 := n3_; clear n0_ n1_ n2_ n3_; (try clear hb); (try clear hk); (try clear hi); have hnb37 := NB216_214.out; have hnc37 := NB214_216.out; have hnb38 := NB216_215.out; have hnc38 := NB215_216.out; have hcz39_0 := cI BK216.out 0; have hcz39_1 := cI BK216.out 1; have hcz39_2 := cI BK216.out 2; have hcz39_3 := cI BK216.out 3; have hcz39_4 := cI BK216.out 4; have hcz39_5 := cI BK216.out 5; have hcz39_6 := cI BK216.out 6; have hcz39_7 := cI BK216.out 7; have hfz39_0 := bF BK216.out 0; have hfz39_1 := bF BK216.out 1; have hfz39_2 := bF BK216.out 2; have hfz39_3 := bF BK216.out 3; have hfz39_4 := bF BK216.out 4; have hfz39_5 := bF BK216.out 5; have hfz39_6 := bF BK216.out 6; have hfz39_7 := bF BK216.out 7)); try go_wp2_with (first | (go_at_call 114; (with_reducible refine (spec_l9Num.calls k gb215 l0 t221 t222 t238 t239 t240 w _ ?side1 ?side2 A35.out).mono ?_); (case side1 => repeat (first | (with_reducible first | exact HI215.out | apply IsS139.alloc | apply IsS139.drewN | apply IsS139.drew | apply IsS139.set_1 | apply IsS139.set_2 | refine IsS139.far ?_ NB215_214.out _ | refine IsS139.far ?_ NB215_216.out _) | exact HI215.out)); (case side2 => repeat (first | (with_reducible first | exact HB.out | apply below_alloc | apply pw_below_drewN | apply below_drew1 | refine below_set ?_ (IsS139.ge HI215.out) | refine below_set ?_ GE214.out | refine below_set ?_ GE216.out) | exact HB.out)); rintro e w36 ⟨rfl, hi, hb, hk⟩; have n0_ := aM (KeepBut.blk hk (g' := gb214) (o := .cells #[.int .i64 0, .int .i64 0, .int .i64 0, .int .i64 0, .int .i64 0, .int .i64 0, .int .i64 0, .bool false] 82 (0, 0)) (by (with_reducible repeat (first | refine blk_drewN ?_ _ | refine blk_drew ?_ | refine blk_alloc ?_ _)); refine blk_far ?_ NB214_216.out _; (with_reducible repeat (first | refine blk_drewN ?_ _ | refine blk_drew ?_ | refine blk_alloc ?_ _)); exact BK214.out) NB214_215.out (by simp)); have n1_ := aM (KeepBut.blk hk (g' := gb216) (o := .cells #[.int .i64 t217, .int .i64 t220, .int .i64 0, .int .i64 0, .int .i64 0, .int .i64 0, .int .i64 0, .bool false] 82 (0, 0)) (by (with_reducible repeat (first | refine blk_drewN ?_ _ | refine blk_drew ?_ | refine blk_alloc ?_ _)); refine blk_put (cs := #[.int .i64 t217, .int .i64 0, .int .i64 0, .int .i64 0, .int .i64 0, .int .i64 0, .int .i64 0, .bool false]) ?_ 1 _ rfl; (with_reducible repeat (first | refine blk_drewN ?_ _ | refine blk_drew ?_ | refine blk_alloc ?_ _)); exact BK216.out) NB216_215.out (by simp)); have n2_ := aM (hb); have n3_ := aM (hi); clear BK214 BK216; clear HB HI215; have BK214 := n0_; have BK216 := n1_; have HB := n2_; have HI215 := n3_; clear n0_ n1_ n2_ n3_; (try clear hb); (try clear hk); (try clear hi); have hnb37 := NB216_214.out; have hnc37 := NB214_216.out; have hnb38 := NB216_215.out; have hnc38 := NB215_216.out; have hcz39_0 := cI BK216.out 0; have hcz39_1 := cI BK216.out 1; have hcz39_2 := cI BK216.out 2; have hcz39_3 := cI BK216.out 3; have hcz39_4 := cI BK216.out 4; have hcz39_5 := cI BK216.out 5; have hcz39_6 := cI BK216.out 6; have hcz39_7 := cI BK216.out 7; have hfz39_0 := bF BK216.out 0; have hfz39_1 := bF BK216.out 1; have hfz39_2 := bF BK216.out 2; have hfz39_3 := bF BK216.out 3; have hfz39_4 := bF BK216.out 4; have hfz39_5 := bF BK216.out 5; have hfz39_6 := bF BK216.out 6; have hfz39_7 := bF BK216.out 7)))
   go_meet
   case rel => exact ⟨_, (t239), (t240), (0), (0), (0), (0), (0), ((t238 == 1)), H', ⟨by first | omega | exact Nat.le_refl _⟩, ⟨by (with_reducible repeat (first | refine blk_drewN ?_ _ | refine blk_drew ?_ | refine blk_alloc ?_ _)); refine blk_far ?_ NB214_216.out _; (with_reducible repeat (first | refine blk_drewN ?_ _ | refine blk_drew ?_ | refine blk_alloc ?_ _)); exact BK214.out⟩, ⟨by (with_reducible repeat (first | refine blk_drewN ?_ _ | refine blk_drew ?_ | refine blk_alloc ?_ _)); refine blk_put (cs := #[.int .i64 t217, .int .i64 t220, .int .i64 0, .int .i64 0, .int .i64 0, .int .i64 0, .int .i64 0, .bool false]) ?_ 7 _ rfl; (with_reducible repeat (first | refine blk_drewN ?_ _ | refine blk_drew ?_ | refine blk_alloc ?_ _)); exact BK216.out⟩, ⟨by repeat (first | (with_reducible first | exact HI215.out | apply IsS139.alloc | apply IsS139.drewN | apply IsS139.drew | apply IsS139.set_1 | apply IsS139.set_2 | refine IsS139.far ?_ NB215_214.out _ | refine IsS139.far ?_ NB215_216.out _) | exact HI215.out)⟩, ⟨by repeat (first | (with_reducible first | exact HB.out | apply below_alloc | apply pw_below_drewN | apply below_drew1 | refine below_set ?_ (IsS139.ge HI215.out) | refine below_set ?_ GE214.out | refine below_set ?_ GE216.out) | exact HB.out)⟩⟩
  rw [if_pos c16] at H
  have c16b0 : (t217 == 1) = true := beq_iff_eq.mpr c16
  have c16b1 : (t217 != 1) = false := bne_eq_false_iff_eq.mpr c16
  clear c16
  (first | rw [c16b0] | (simp only [i64_w, i32_w]; rw [c16b0]) | skip)
  replace H := Option.bind_eq_some_iff.mp H
  obtain ⟨⟨t223, t224, t225⟩, A170, H⟩ := H
  replace H : ((spec_l9Num.f k l0 t224 t225).bind fun bt226 => ((spec_l9Num.f k l0 bt226.2.1 bt226.2.2).bind fun bt229 => ((spec_l9Num.f k l0 bt229.2.1 bt229.2.2).bind fun bt232 => ((spec_l9Num.f k l0 bt232.2.1 bt232.2.2).bind fun bt235 => (spec_InOf.j0 k l0 a1 l0 bt235.2.1 bt235.2.2 t217 t220 t223 bt226.1 bt229.1 bt232.1 bt235.1 false))))) = some (r1, r2, r3, r4, r5, r6, r7, r8, r9, r10) := H
  have A17 := aM A170
  clear A170
  replace H := Option.bind_eq_some_iff.mp H
  obtain ⟨⟨t226, t227, t228⟩, A180, H⟩ := H
  replace H : ((spec_l9Num.f k l0 t227 t228).bind fun bt229 => ((spec_l9Num.f k l0 bt229.2.1 bt229.2.2).bind fun bt232 => ((spec_l9Num.f k l0 bt232.2.1 bt232.2.2).bind fun bt235 => (spec_InOf.j0 k l0 a1 l0 bt235.2.1 bt235.2.2 t217 t220 t223 t226 bt229.1 bt232.1 bt235.1 false)))) = some (r1, r2, r3, r4, r5, r6, r7, r8, r9, r10) := H
  have A18 := aM A180
  clear A180
  replace H := Option.bind_eq_some_iff.mp H
  obtain ⟨⟨t229, t230, t231⟩, A190, H⟩ := H
  replace H : ((spec_l9Num.f k l0 t230 t231).bind fun bt232 => ((spec_l9Num.f k l0 bt232.2.1 bt232.2.2).bind fun bt235 => (spec_InOf.j0 k l0 a1 l0 bt235.2.1 bt235.2.2 t217 t220 t223 t226 t229 bt232.1 bt235.1 false))) = some (r1, r2, r3, r4, r5, r6, r7, r8, r9, r10) := H
  have A19 := aM A190
  clear A190
  replace H := Option.bind_eq_some_iff.mp H
  obtain ⟨⟨t232, t233, t234⟩, A200, H⟩ := H
  replace H : ((spec_l9Num.f k l0 t233 t234).bind fun bt235 => (spec_InOf.j0 k l0 a1 l0 bt235.2.1 bt235.2.2 t217 t220 t223 t226 t229 t232 bt235.1 false)) = some (r1, r2, r3, r4, r5, r6, r7, r8, r9, r10) := H
  have A20 := aM A200
  clear A200
  replace H := Option.bind_eq_some_iff.mp H
  obtain ⟨⟨t235, t236, t237⟩, A210, H⟩ := H
  replace H : (spec_InOf.j0 k l0 a1 l0 t236 t237 t217 t220 t223 t226 t229 t232 t235 false) = some (r1, r2, r3, r4, r5, r6, r7, r8, r9, r10) := H
  have A21 := aM A210
  clear A210
  have H' := aM H
  clear H
  go_wp2_with (first | (go_at_call 114; (with_reducible refine (spec_l9Num.calls k gb215 l0 t221 t222 t223 t224 t225 w _ ?side1 ?side2 A17.out).mono ?_); (case side1 => repeat (first | (with_reducible first | exact HI215.out | apply IsS139.alloc | apply IsS139.drewN | apply IsS139.drew | apply IsS139.set_1 | apply IsS139.set_2 | refine IsS139.far ?_ NB215_214.out _ | refine IsS139.far ?_ NB215_216.out _) | exact HI215.out)); (case side2 => repeat (first | (with_reducible first | exact HB.out | apply below_alloc | apply pw_below_drewN | apply below_drew1 | refine below_set ?_ (IsS139.ge HI215.out) | refine below_set ?_ GE214.out | refine below_set ?_ GE216.out) | exact HB.out)); rintro e w22 ⟨rfl, hi, hb, hk⟩; have n0_ := aM (KeepBut.blk hk (g' := gb214) (o := .cells #[.int .i64 0, .int .i64 0, .int .i64 0, .int .i64 0, .int .i64 0, .int .i64 0, .int .i64 0, .bool false] 82 (0, 0)) (by (with_reducible repeat (first | refine blk_drewN ?_ _ | refine blk_drew ?_ | refine blk_alloc ?_ _)); refine blk_far ?_ NB214_216.out _; (with_reducible repeat (first | refine blk_drewN ?_ _ | refine blk_drew ?_ | refine blk_alloc ?_ _)); exact BK214.out) NB214_215.out (by simp)); have n1_ := aM (KeepBut.blk hk (g' := gb216) (o := .cells #[.int .i64 t217, .int .i64 t220, .int .i64 0, .int .i64 0, .int .i64 0, .int .i64 0, .int .i64 0, .bool false] 82 (0, 0)) (by (with_reducible repeat (first | refine blk_drewN ?_ _ | refine blk_drew ?_ | refine blk_alloc ?_ _)); refine blk_put (cs := #[.int .i64 t217, .int .i64 0, .int .i64 0, .int .i64 0, .int .i64 0, .int .i64 0, .int .i64 0, .bool false]) ?_ 1 _ rfl; (with_reducible repeat (first | refine blk_drewN ?_ _ | refine blk_drew ?_ | refine blk_alloc ?_ _)); exact BK216.out) NB216_215.out (by simp)); have n2_ := aM (hb); have n3_ := aM (hi); clear BK214 BK216; clear HB HI215; have BK214 := n0_; have BK216 := n1_; have HB := n2_; have HI215 := n3_; clear n0_ n1_ n2_ n3_; (try clear hb); (try clear hk); (try clear hi); have hnb23 := NB216_214.out; have hnc23 := NB214_216.out; have hnb24 := NB216_215.out; have hnc24 := NB215_216.out; have hcz25_0 := cI BK216.out 0; have hcz25_1 := cI BK216.out 1; have hcz25_2 := cI BK216.out 2; have hcz25_3 := cI BK216.out 3; have hcz25_4 := cI BK216.out 4; have hcz25_5 := cI BK216.out 5; have hcz25_6 := cI BK216.out 6; have hcz25_7 := cI BK216.out 7; have hfz25_0 := bF BK216.out 0; have hfz25_1 := bF BK216.out 1; have hfz25_2 := bF BK216.out 2; have hfz25_3 := bF BK216.out 3; have hfz25_4 := bF BK216.out 4; have hfz25_5 := bF BK216.out 5; have hfz25_6 := bF BK216.out 6; have hfz25_7 := bF BK216.out 7) | (go_at_call 114; (with_reducible refine (spec_l9Num.calls k gb215 l0 t224 t225 t226 t227 t228 w _ ?side1 ?side2 A18.out).mono ?_); (case side1 => repeat (first | (with_reducible first | exact HI215.out | apply IsS139.alloc | apply IsS139.drewN | apply IsS139.drew | apply IsS139.set_1 | apply IsS139.set_2 | refine IsS139.far ?_ NB215_214.out _ | refine IsS139.far ?_ NB215_216.out _) | exact HI215.out)); (case side2 => repeat (first | (with_reducible first | exact HB.out | apply below_alloc | apply pw_below_drewN | apply below_drew1 | refine below_set ?_ (IsS139.ge HI215.out) | refine below_set ?_ GE214.out | refine below_set ?_ GE216.out) | exact HB.out)); rintro e w26 ⟨rfl, hi, hb, hk⟩; have n0_ := aM (KeepBut.blk hk (g' := gb214) (o := .cells #[.int .i64 0, .int .i64 0, .int .i64 0, .int .i64 0, .int .i64 0, .int .i64 0, .int .i64 0, .bool false] 82 (0, 0)) (by (with_reducible repeat (first | refine blk_drewN ?_ _ | refine blk_drew ?_ | refine blk_alloc ?_ _)); refine blk_far ?_ NB214_216.out _; (with_reducible repeat (first | refine blk_drewN ?_ _ | refine blk_drew ?_ | refine blk_alloc ?_ _)); exact BK214.out) NB214_215.out (by simp)); have n1_ := aM (KeepBut.blk hk (g' := gb216) (o := .cells #[.int .i64 t217, .int .i64 t220, .int .i64 t223, .int .i64 0, .int .i64 0, .int .i64 0, .int .i64 0, .bool false] 82 (0, 0)) (by (with_reducible repeat (first | refine blk_drewN ?_ _ | refine blk_drew ?_ | refine blk_alloc ?_ _)); refine blk_put (cs := #[.int .i64 t217, .int .i64 t220, .int .i64 0, .int .i64 0, .int .i64 0, .int .i64 0, .int .i64 0, .bool false]) ?_ 2 _ rfl; (with_reducible repeat (first | refine blk_drewN ?_ _ | refine blk_drew ?_ | refine blk_alloc ?_ _)); exact BK216.out) NB216_215.out (by simp)); have n2_ := aM (hb); have n3_ := aM (hi); clear BK214 BK216; clear HB HI215; have BK214 := n0_; have BK216 := n1_; have HB := n2_; have HI215 := n3_; clear n0_ n1_ n2_ n3_; (try clear hb); (try clear hk); (try clear hi); have hcz27_0 := cI BK216.out 0; have hcz27_1 := cI BK216.out 1; have hcz27_2 := cI BK216.out 2; have hcz27_3 := cI BK216.out 3; have hcz27_4 := cI BK216.out 4; have hcz27_5 := cI BK216.out 5; have hcz27_6 := cI BK216.out 6; have hcz27_7 := cI BK216.out 7; have hfz27_0 := bF BK216.out 0; have hfz27_1 := bF BK216.out 1; have hfz27_2 := bF BK216.out 2; have hfz27_3 := bF BK216.out 3; have hfz27_4 := bF BK216.out 4; have hfz27_5 := bF BK216.out 5; have hfz27_6 := bF BK216.out 6; have hfz27_7 := bF BK216.out 7) | (go_at_call 114; (with_reducible refine (spec_l9Num.calls k gb215 l0 t227 t228 t229 t230 t231 w _ ?side1 ?side2 A19.out).mono ?_); (case side1 => repeat (first | (with_reducible first | exact HI215.out | apply IsS139.alloc | apply IsS139.drewN | apply IsS139.drew | apply IsS139.set_1 | apply IsS139.set_2 | refine IsS139.far ?_ NB215_214.out _ | refine IsS139.far ?_ NB215_216.out _) | exact HI215.out)); (case side2 => repeat (first | (with_reducible first | exact HB.out | apply below_alloc | apply pw_below_drewN | apply below_drew1 | refine below_set ?_ (IsS139.ge HI215.out) | refine below_set ?_ GE214.out | refine below_set ?_ GE216.out) | exact HB.out)); rintro e w28 ⟨rfl, hi, hb, hk⟩; have n0_ := aM (KeepBut.blk hk (g' := gb214) (o := .cells #[.int .i64 0, .int .i64 0, .int .i64 0, .int .i64 0, .int .i64 0, .int .i64 0, .int .i64 0, .bool false] 82 (0, 0)) (by (with_reducible repeat (first | refine blk_drewN ?_ _ | refine blk_drew ?_ | refine blk_alloc ?_ _)); refine blk_far ?_ NB214_216.out _; (with_reducible repeat (first | refine blk_drewN ?_ _ | refine blk_drew ?_ | refine blk_alloc ?_ _)); exact BK214.out) NB214_215.out (by simp)); have n1_ := aM (KeepBut.blk hk (g' := gb216) (o := .cells #[.int .i64 t217, .int .i64 t220, .int .i64 t223, .int .i64 t226, .int .i64 0, .int .i64 0, .int .i64 0, .bool false] 82 (0, 0)) (by (with_reducible repeat (first | refine blk_drewN ?_ _ | refine blk_drew ?_ | refine blk_alloc ?_ _)); refine blk_put (cs := #[.int .i64 t217, .int .i64 t220, .int .i64 t223, .int .i64 0, .int .i64 0, .int .i64 0, .int .i64 0, .bool false]) ?_ 3 _ rfl; (with_reducible repeat (first | refine blk_drewN ?_ _ | refine blk_drew ?_ | refine blk_alloc ?_ _)); exact BK216.out) NB216_215.out (by simp)); have n2_ := aM (hb); have n3_ := aM (hi); clear BK214 BK216; clear HB HI215; have BK214 := n0_; have BK216 := n1_; have HB := n2_; have HI215 := n3_; clear n0_ n1_ n2_ n3_; (try clear hb); (try clear hk); (try clear hi); have hcz29_0 := cI BK216.out 0; have hcz29_1 := cI BK216.out 1; have hcz29_2 := cI BK216.out 2; have hcz29_3 := cI BK216.out 3; have hcz29_4 := cI BK216.out 4; have hcz29_5 := cI BK216.out 5; have hcz29_6 := cI BK216.out 6; have hcz29_7 := cI BK216.out 7; have hfz29_0 := bF BK216.out 0; have hfz29_1 := bF BK216.out 1; have hfz29_2 := bF BK216.out 2; have hfz29_3 := bF BK216.out 3; have hfz29_4 := bF BK216.out 4; have hfz29_5 := bF BK216.out 5; have hfz29_6 := bF BK216.out 6; have hfz29_7 := bF BK216.out 7) | (go_at_call 114; (with_reducible refine (spec_l9Num.calls k gb215 l0 t230 t231 t232 t233 t234 w _ ?side1 ?side2 A20.out).mono ?_); (case side1 => repeat (first | (with_reducible first | exact HI215.out | apply IsS139.alloc | apply IsS139.drewN | apply IsS139.drew | apply IsS139.set_1 | apply IsS139.set_2 | refine IsS139.far ?_ NB215_214.out _ | refine IsS139.far ?_ NB215_216.out _) | exact HI215.out)); (case side2 => repeat (first | (with_reducible first | exact HB.out | apply below_alloc | apply pw_below_drewN | apply below_drew1 | refine below_set ?_ (IsS139.ge HI215.out) | refine below_set ?_ GE214.out | refine below_set ?_ GE216.out) | exact HB.out)); rintro e w30 ⟨rfl, hi, hb, hk⟩; have n0_ := aM (KeepBut.blk hk (g' := gb214) (o := .cells #[.int .i64 0, .int .i64 0, .int .i64 0, .int .i64 0, .int .i64 0, .int .i64 0, .int .i64 0, .bool false] 82 (0, 0)) (by (with_reducible repeat (first | refine blk_drewN ?_ _ | refine blk_drew ?_ | refine blk_alloc ?_ _)); refine blk_far ?_ NB214_216.out _; (with_reducible repeat (first | refine blk_drewN ?_ _ | refine blk_drew ?_ | refine blk_alloc ?_ _)); exact BK214.out) NB214_215.out (by simp)); have n1_ := aM (KeepBut.blk hk (g' := gb216) (o := .cells #[.int .i64 t217, .int .i64 t220, .int .i64 t223, .int .i64 t226, .int .i64 t229, .int .i64 0, .int .i64 0, .bool false] 82 (0, 0)) (by (with_reducible repeat (first | refine blk_drewN ?_ _ | refine blk_drew ?_ | refine blk_alloc ?_ _)); refine blk_put (cs := #[.int .i64 t217, .int .i64 t220, .int .i64 t223, .int .i64 t226, .int .i64 0, .int .i64 0, .int .i64 0, .bool false]) ?_ 4 _ rfl; (with_reducible repeat (first | refine blk_drewN ?_ _ | refine blk_drew ?_ | refine blk_alloc ?_ _)); exact BK216.out) NB216_215.out (by simp)); have n2_ := aM (hb); have n3_ := aM (hi); clear BK214 BK216; clear HB HI215; have BK214 := n0_; have BK216 := n1_; have HB := n2_; have HI215 := n3_; clear n0_ n1_ n2_ n3_; (try clear hb); (try clear hk); (try clear hi); have hcz31_0 := cI BK216.out 0; have hcz31_1 := cI BK216.out 1; have hcz31_2 := cI BK216.out 2; have hcz31_3 := cI BK216.out 3; have hcz31_4 := cI BK216.out 4; have hcz31_5 := cI BK216.out 5; have hcz31_6 := cI BK216.out 6; have hcz31_7 := cI BK216.out 7; have hfz31_0 := bF BK216.out 0; have hfz31_1 := bF BK216.out 1; have hfz31_2 := bF BK216.out 2; have hfz31_3 := bF BK216.out 3; have hfz31_4 := bF BK216.out 4; have hfz31_5 := bF BK216.out 5; have hfz31_6 := bF BK216.out 6; have hfz31_7 := bF BK216.out 7) | (go_at_call 114; (with_reducible refine (spec_l9Num.calls k gb215 l0 t233 t234 t235 t236 t237 w _ ?side1 ?side2 A21.out).mono ?_); (case side1 => repeat (first | (with_reducible first | exact HI215.out | apply IsS139.alloc | apply IsS139.drewN | apply IsS139.drew | apply IsS139.set_1 | apply IsS139.set_2 | refine IsS139.far ?_ NB215_214.out _ | refine IsS139.far ?_ NB215_216.out _) | exact HI215.out)); (case side2 => repeat (first | (with_reducible first | exact HB.out | apply below_alloc | apply pw_below_drewN | apply below_drew1 | refine below_set ?_ (IsS139.ge HI215.out) | refine below_set ?_ GE214.out | refine below_set ?_ GE216.out) | exact HB.out)); rintro e w32 ⟨rfl, hi, hb, hk⟩; have n0_ := aM (KeepBut.blk hk (g' := gb214) (o := .cells #[.int .i64 0, .int .i64 0, .int .i64 0, .int .i64 0, .int .i64 0, .int .i64 0, .int .i64 0, .bool false] 82 (0, 0)) (by (with_reducible repeat (first | refine blk_drewN ?_ _ | refine blk_drew ?_ | refine blk_alloc ?_ _)); refine blk_far ?_ NB214_216.out _; (with_reducible repeat (first | refine blk_drewN ?_ _ | refine blk_drew ?_ | refine blk_alloc ?_ _)); exact BK214.out) NB214_215.out (by simp)); have n1_ := aM (KeepBut.blk hk (g' := gb216) (o := .cells #[.int .i64 t217, .int .i64 t220, .int .i64 t223, .int .i64 t226, .int .i64 t229, .int .i64 t232, .int .i64 0, .bool false] 82 (0, 0)) (by (with_reducible repeat (first | refine blk_drewN ?_ _ | refine blk_drew ?_ | refine blk_alloc ?_ _)); refine blk_put (cs := #[.int .i64 t217, .int .i64 t220, .int .i64 t223, .int .i64 t226, .int .i64 t229, .int .i64 0, .int .i64 0, .bool false]) ?_ 5 _ rfl; (with_reducible repeat (first | refine blk_drewN ?_ _ | refine blk_drew ?_ | refine blk_alloc ?_ _)); exact BK216.out) NB216_215.out (by simp)); have n2_ := aM (hb); have n3_ := aM (hi); clear BK214 BK216; clear HB HI215; have BK214 := n0_; have BK216 := n1_; have HB := n2_; have HI215 := n3_; clear n0_ n1_ n2_ n3_; (try clear hb); (try clear hk); (try clear hi); have hcz33_0 := cI BK216.out 0; have hcz33_1 := cI BK216.out 1; have hcz33_2 := cI BK216.out 2; have hcz33_3 := cI BK216.out 3; have hcz33_4 := cI BK216.out 4; have hcz33_5 := cI BK216.out 5; have hcz33_6 := cI BK216.out 6; have hcz33_7 := cI BK216.out 7; have hfz33_0 := bF BK216.out 0; have hfz33_1 := bF BK216.out 1; have hfz33_2 := bF BK216.out 2; have hfz33_3 := bF BK216.out 3; have hfz33_4 := bF BK216.out 4; have hfz33_5 := bF BK216.out 5; have hfz33_6 := bF BK216.out 6; have hfz33_7 := bF BK216.out 7))
  repeat (go_quiet (first | (go_at_call 114; (with_reducible refine (spec_l9Num.calls k gb215 l0 t221 t222 t223 t224 t225 w _ ?side1 ?side2 A17.out).mono ?_); (case side1 => repeat (first | (with_reducible first | exact HI215.out | apply IsS139.alloc | apply IsS139.drewN | apply IsS139.drew | apply IsS139.set_1 | apply IsS139.set_2 | refine IsS139.far ?_ NB215_214.out _ | refine IsS139.far ?_ NB215_216.out _) | exact HI215.out)); (case side2 => repeat (first | (with_reducible first | exact HB.out | apply below_alloc | apply pw_below_drewN | apply below_drew1 | refine below_set ?_ (IsS139.ge HI215.out) | refine below_set ?_ GE214.out | refine below_set ?_ GE216.out) | exact HB.out)); rintro e w22 ⟨rfl, hi, hb, hk⟩; have n0_ := aM (KeepBut.blk hk (g' := gb214) (o := .cells #[.int .i64 0, .int .i64 0, .int .i64 0, .int .i64 0, .int .i64 0, .int .i64 0, .int .i64 0, .bool false] 82 (0, 0)) (by (with_reducible repeat (first | refine blk_drewN ?_ _ | refine blk_drew ?_ | refine blk_alloc ?_ _)); refine blk_far ?_ NB214_216.out _; (with_reducible repeat (first | refine blk_drewN ?_ _ | refine blk_drew ?_ | refine blk_alloc ?_ _)); exact BK214.out) NB214_215.out (by simp)); have n1_ := aM (KeepBut.blk hk (g' := gb216) (o := .cells #[.int .i64 t217, .int .i64 t220, .int .i64 0, .int .i64 0, .int .i64 0, .int .i64 0, .int .i64 0, .bool false] 82 (0, 0)) (by (with_reducible repeat (first | refine blk_drewN ?_ _ | refine blk_drew ?_ | refine blk_alloc ?_ _)); refine blk_put (cs := #[.int .i64 t217, .int .i64 0, .int .i64 0, .int .i64 0, .int .i64 0, .int .i64 0, .int .i64 0, .bool false]) ?_ 1 _ rfl; (with_reducible repeat (first | refine blk_drewN ?_ _ | refine blk_drew ?_ | refine blk_alloc ?_ _)); exact BK216.out) NB216_215.out (by simp)); have n2_ := aM (hb); have n3_ := aM (hi); clear BK214 BK216; clear HB HI215; have BK214 := n0_; have BK216 := n1_; have HB := n2_; have HI215 := n3_; clear n0_ n1_ n2_ n3_; (try clear hb); (try clear hk); (try clear hi); have hnb23 := NB216_214.out; have hnc23 := NB214_216.out; have hnb24 := NB216_215.out; have hnc24 := NB215_216.out; have hcz25_0 := cI BK216.out 0; have hcz25_1 := cI BK216.out 1; have hcz25_2 := cI BK216.out 2; have hcz25_3 := cI BK216.out 3; have hcz25_4 := cI BK216.out 4; have hcz25_5 := cI BK216.out 5; have hcz25_6 := cI BK216.out 6; have hcz25_7 := cI BK216.out 7; have hfz25_0 := bF BK216.out 0; have hfz25_1 := bF BK216.out 1; have hfz25_2 := bF BK216.out 2; have hfz25_3 := bF BK216.out 3; have hfz25_4 := bF BK216.out 4; have hfz25_5 := bF BK216.out 5; have hfz25_6 := bF BK216.out 6; have hfz25_7 := bF BK216.out 7) | (go_at_call 114; (with_reducible refine (spec_l9Num.calls k gb215 l0 t224 t225 t226 t227 t228 w _ ?side1 ?side2 A18.out).mono ?_); (case side1 => repeat (first | (with_reducible first | exact HI215.out | apply IsS139.alloc | apply IsS139.drewN | apply IsS139.drew | apply IsS139.set_1 | apply IsS139.set_2 | refine IsS139.far ?_ NB215_214.out _ | refine IsS139.far ?_ NB215_216.out _) | exact HI215.out)); (case side2 => repeat (first | (with_reducible first | exact HB.out | apply below_alloc | apply pw_below_drewN | apply below_drew1 | refine below_set ?_ (IsS139.ge HI215.out) | refine below_set ?_ GE214.out | refine below_set ?_ GE216.out) | exact HB.out)); rintro e w26 ⟨rfl, hi, hb, hk⟩; have n0_ := aM (KeepBut.blk hk (g' := gb214) (o := .cells #[.int .i64 0, .int .i64 0, .int .i64 0, .int .i64 0, .int .i64 0, .int .i64 0, .int .i64 0, .bool false] 82 (0, 0)) (by (with_reducible repeat (first | refine blk_drewN ?_ _ | refine blk_drew ?_ | refine blk_alloc ?_ _)); refine blk_far ?_ NB214_216.out _; (with_reducible repeat (first | refine blk_drewN ?_ _ | refine blk_drew ?_ | refine blk_alloc ?_ _)); exact BK214.out) NB214_215.out (by simp)); have n1_ := aM (KeepBut.blk hk (g' := gb216) (o := .cells #[.int .i64 t217, .int .i64 t220, .int .i64 t223, .int .i64 0, .int .i64 0, .int .i64 0, .int .i64 0, .bool false] 82 (0, 0)) (by (with_reducible repeat (first | refine blk_drewN ?_ _ | refine blk_drew ?_ | refine blk_alloc ?_ _)); refine blk_put (cs := #[.int .i64 t217, .int .i64 t220, .int .i64 0, .int .i64 0, .int .i64 0, .int .i64 0, .int .i64 0, .bool false]) ?_ 2 _ rfl; (with_reducible repeat (first | refine blk_drewN ?_ _ | refine blk_drew ?_ | refine blk_alloc ?_ _)); exact BK216.out) NB216_215.out (by simp)); have n2_ := aM (hb); have n3_ := aM (hi); clear BK214 BK216; clear HB HI215; have BK214 := n0_; have BK216 := n1_; have HB := n2_; have HI215 := n3_; clear n0_ n1_ n2_ n3_; (try clear hb); (try clear hk); (try clear hi); have hcz27_0 := cI BK216.out 0; have hcz27_1 := cI BK216.out 1; have hcz27_2 := cI BK216.out 2; have hcz27_3 := cI BK216.out 3; have hcz27_4 := cI BK216.out 4; have hcz27_5 := cI BK216.out 5; have hcz27_6 := cI BK216.out 6; have hcz27_7 := cI BK216.out 7; have hfz27_0 := bF BK216.out 0; have hfz27_1 := bF BK216.out 1; have hfz27_2 := bF BK216.out 2; have hfz27_3 := bF BK216.out 3; have hfz27_4 := bF BK216.out 4; have hfz27_5 := bF BK216.out 5; have hfz27_6 := bF BK216.out 6; have hfz27_7 := bF BK216.out 7) | (go_at_call 114; (with_reducible refine (spec_l9Num.calls k gb215 l0 t227 t228 t229 t230 t231 w _ ?side1 ?side2 A19.out).mono ?_); (case side1 => repeat (first | (with_reducible first | exact HI215.out | apply IsS139.alloc | apply IsS139.drewN | apply IsS139.drew | apply IsS139.set_1 | apply IsS139.set_2 | refine IsS139.far ?_ NB215_214.out _ | refine IsS139.far ?_ NB215_216.out _) | exact HI215.out)); (case side2 => repeat (first | (with_reducible first | exact HB.out | apply below_alloc | apply pw_below_drewN | apply below_drew1 | refine below_set ?_ (IsS139.ge HI215.out) | refine below_set ?_ GE214.out | refine below_set ?_ GE216.out) | exact HB.out)); rintro e w28 ⟨rfl, hi, hb, hk⟩; have n0_ := aM (KeepBut.blk hk (g' := gb214) (o := .cells #[.int .i64 0, .int .i64 0, .int .i64 0, .int .i64 0, .int .i64 0, .int .i64 0, .int .i64 0, .bool false] 82 (0, 0)) (by (with_reducible repeat (first | refine blk_drewN ?_ _ | refine blk_drew ?_ | refine blk_alloc ?_ _)); refine blk_far ?_ NB214_216.out _; (with_reducible repeat (first | refine blk_drewN ?_ _ | refine blk_drew ?_ | refine blk_alloc ?_ _)); exact BK214.out) NB214_215.out (by simp)); have n1_ := aM (KeepBut.blk hk (g' := gb216) (o := .cells #[.int .i64 t217, .int .i64 t220, .int .i64 t223, .int .i64 t226, .int .i64 0, .int .i64 0, .int .i64 0, .bool false] 82 (0, 0)) (by (with_reducible repeat (first | refine blk_drewN ?_ _ | refine blk_drew ?_ | refine blk_alloc ?_ _)); refine blk_put (cs := #[.int .i64 t217, .int .i64 t220, .int .i64 t223, .int .i64 0, .int .i64 0, .int .i64 0, .int .i64 0, .bool false]) ?_ 3 _ rfl; (with_reducible repeat (first | refine blk_drewN ?_ _ | refine blk_drew ?_ | refine blk_alloc ?_ _)); exact BK216.out) NB216_215.out (by simp)); have n2_ := aM (hb); have n3_ := aM (hi); clear BK214 BK216; clear HB HI215; have BK214 := n0_; have BK216 := n1_; have HB := n2_; have HI215 := n3_; clear n0_ n1_ n2_ n3_; (try clear hb); (try clear hk); (try clear hi); have hcz29_0 := cI BK216.out 0; have hcz29_1 := cI BK216.out 1; have hcz29_2 := cI BK216.out 2; have hcz29_3 := cI BK216.out 3; have hcz29_4 := cI BK216.out 4; have hcz29_5 := cI BK216.out 5; have hcz29_6 := cI BK216.out 6; have hcz29_7 := cI BK216.out 7; have hfz29_0 := bF BK216.out 0; have hfz29_1 := bF BK216.out 1; have hfz29_2 := bF BK216.out 2; have hfz29_3 := bF BK216.out 3; have hfz29_4 := bF BK216.out 4; have hfz29_5 := bF BK216.out 5; have hfz29_6 := bF BK216.out 6; have hfz29_7 := bF BK216.out 7) | (go_at_call 114; (with_reducible refine (spec_l9Num.calls k gb215 l0 t230 t231 t232 t233 t234 w _ ?side1 ?side2 A20.out).mono ?_); (case side1 => repeat (first | (with_reducible first | exact HI215.out | apply IsS139.alloc | apply IsS139.drewN | apply IsS139.drew | apply IsS139.set_1 | apply IsS139.set_2 | refine IsS139.far ?_ NB215_214.out _ | refine IsS139.far ?_ NB215_216.out _) | exact HI215.out)); (case side2 => repeat (first | (with_reducible first | exact HB.out | apply below_alloc | apply pw_below_drewN | apply below_drew1 | refine below_set ?_ (IsS139.ge HI215.out) | refine below_set ?_ GE214.out | refine below_set ?_ GE216.out) | exact HB.out)); rintro e w30 ⟨rfl, hi, hb, hk⟩; have n0_ := aM (KeepBut.blk hk (g' := gb214) (o := .cells #[.int .i64 0, .int .i64 0, .int .i64 0, .int .i64 0, .int .i64 0, .int .i64 0, .int .i64 0, .bool false] 82 (0, 0)) (by (with_reducible repeat (first | refine blk_drewN ?_ _ | refine blk_drew ?_ | refine blk_alloc ?_ _)); refine blk_far ?_ NB214_216.out _; (with_reducible repeat (first | refine blk_drewN ?_ _ | refine blk_drew ?_ | refine blk_alloc ?_ _)); exact BK214.out) NB214_215.out (by simp)); have n1_ := aM (KeepBut.blk hk (g' := gb216) (o := .cells #[.int .i64 t217, .int .i64 t220, .int .i64 t223, .int .i64 t226, .int .i64 t229, .int .i64 0, .int .i64 0, .bool false] 82 (0, 0)) (by (with_reducible repeat (first | refine blk_drewN ?_ _ | refine blk_drew ?_ | refine blk_alloc ?_ _)); refine blk_put (cs := #[.int .i64 t217, .int .i64 t220, .int .i64 t223, .int .i64 t226, .int .i64 0, .int .i64 0, .int .i64 0, .bool false]) ?_ 4 _ rfl; (with_reducible repeat (first | refine blk_drewN ?_ _ | refine blk_drew ?_ | refine blk_alloc ?_ _)); exact BK216.out) NB216_215.out (by simp)); have n2_ := aM (hb); have n3_ := aM (hi); clear BK214 BK216; clear HB HI215; have BK214 := n0_; have BK216 := n1_; have HB := n2_; have HI215 := n3_; clear n0_ n1_ n2_ n3_; (try clear hb); (try clear hk); (try clear hi); have hcz31_0 := cI BK216.out 0; have hcz31_1 := cI BK216.out 1; have hcz31_2 := cI BK216.out 2; have hcz31_3 := cI BK216.out 3; have hcz31_4 := cI BK216.out 4; have hcz31_5 := cI BK216.out 5; have hcz31_6 := cI BK216.out 6; have hcz31_7 := cI BK216.out 7; have hfz31_0 := bF BK216.out 0; have hfz31_1 := bF BK216.out 1; have hfz31_2 := bF BK216.out 2; have hfz31_3 := bF BK216.out 3; have hfz31_4 := bF BK216.out 4; have hfz31_5 := bF BK216.out 5; have hfz31_6 := bF BK216.out 6; have hfz31_7 := bF BK216.out 7) | (go_at_call 114; (with_reducible refine (spec_l9Num.calls k gb215 l0 t233 t234 t235 t236 t237 w _ ?side1 ?side2 A21.out).mono ?_); (case side1 => repeat (first | (with_reducible first | exact HI215.out | apply IsS139.alloc | apply IsS139.drewN | apply IsS139.drew | apply IsS139.set_1 | apply IsS139.set_2 | refine IsS139.far ?_ NB215_214.out _ | refine IsS139.far ?_ NB215_216.out _) | exact HI215.out)); (case side2 => repeat (first | (with_reducible first | exact HB.out | apply below_alloc | apply pw_below_drewN | apply below_drew1 | refine below_set ?_ (IsS139.ge HI215.out) | refine below_set ?_ GE214.out | refine below_set ?_ GE216.out) | exact HB.out)); rintro e w32 ⟨rfl, hi, hb, hk⟩; have n0_ := aM (KeepBut.blk hk (g' := gb214) (o := .cells #[.int .i64 0, .int .i64 0, .int .i64 0, .int .i64 0, .int .i64 0, .int .i64 0, .int .i64 0, .bool false] 82 (0, 0)) (by (with_reducible repeat (first | refine blk_drewN ?_ _ | refine blk_drew ?_ | refine blk_alloc ?_ _)); refine blk_far ?_ NB214_216.out _; (with_reducible repeat (first | refine blk_drewN ?_ _ | refine blk_drew ?_ | refine blk_alloc ?_ _)); exact BK214.out) NB214_215.out (by simp)); have n1_ := aM (KeepBut.blk hk (g' := gb216) (o := .cells #[.int .i64 t217, .int .i64 t220, .int .i64 t223, .int .i64 t226, .int .i64 t229, .int .i64 t232, .int .i64 0, .bool false] 82 (0, 0)) (by (with_reducible repeat (first | refine blk_drewN ?_ _ | refine blk_drew ?_ | refine blk_alloc ?_ _)); refine blk_put (cs := #[.int .i64 t217, .int .i64 t220, .int .i64 t223, .int .i64 t226, .int .i64 t229, .int .i64 0, .int .i64 0, .bool false]) ?_ 5 _ rfl; (with_reducible repeat (first | refine blk_drewN ?_ _ | refine blk_drew ?_ | refine blk_alloc ?_ _)); exact BK216.out) NB216_215.out (by simp)); have n2_ := aM (hb); have n3_ := aM (hi); clear BK214 BK216; clear HB HI215; have BK214 := n0_; have BK216 := n1_; have HB := n2_; have HI215 := n3_; clear n0_ n1_ n2_ n3_; (try clear hb); (try clear hk); (try clear hi); have hcz33_0 := cI BK216.out 0; have hcz33_1 := cI BK216.out 1; have hcz33_2 := cI BK216.out 2; have hcz33_3 := cI BK216.out 3; have hcz33_4 := cI BK216.out 4; have hcz33_5 := cI BK216.out 5; have hcz33_6 := cI BK216.out 6; have hcz33_7 := cI BK216.out 7; have hfz33_0 := bF BK216.out 0; have hfz33_1 := bF BK216.out 1; have hfz33_2 := bF BK216.out 2; have hfz33_3 := bF BK216.out 3; have hfz33_4 := bF BK216.out 4; have hfz33_5 := bF BK216.out 5; have hfz33_6 := bF BK216.out 6; have hfz33_7 := bF BK216.out 7)); try go_wp2_with (first | (go_at_call 114; (with_reducible refine (spec_l9Num.calls k gb215 l0 t221 t222 t223 t224 t225 w _ ?side1 ?side2 A17.out).mono ?_); (case side1 => repeat (first | (with_reducible first | exact HI215.out | apply IsS139.alloc | apply IsS139.drewN | apply IsS139.drew | apply IsS139.set_1 | apply IsS139.set_2 | refine IsS139.far ?_ NB215_214.out _ | refine IsS139.far ?_ NB215_216.out _) | exact HI215.out)); (case side2 => repeat (first | (with_reducible first | exact HB.out | apply below_alloc | apply pw_below_drewN | apply below_drew1 | refine below_set ?_ (IsS139.ge HI215.out) | refine below_set ?_ GE214.out | refine below_set ?_ GE216.out) | exact HB.out)); rintro e w22 ⟨rfl, hi, hb, hk⟩; have n0_ := aM (KeepBut.blk hk (g' := gb214) (o := .cells #[.int .i64 0, .int .i64 0, .int .i64 0, .int .i64 0, .int .i64 0, .int .i64 0, .int .i64 0, .bool false] 82 (0, 0)) (by (with_reducible repeat (first | refine blk_drewN ?_ _ | refine blk_drew ?_ | refine blk_alloc ?_ _)); refine blk_far ?_ NB214_216.out _; (with_reducible repeat (first | refine blk_drewN ?_ _ | refine blk_drew ?_ | refine blk_alloc ?_ _)); exact BK214.out) NB214_215.out (by simp)); have n1_ := aM (KeepBut.blk hk (g' := gb216) (o := .cells #[.int .i64 t217, .int .i64 t220, .int .i64 0, .int .i64 0, .int .i64 0, .int .i64 0, .int .i64 0, .bool false] 82 (0, 0)) (by (with_reducible repeat (first | refine blk_drewN ?_ _ | refine blk_drew ?_ | refine blk_alloc ?_ _)); refine blk_put (cs := #[.int .i64 t217, .int .i64 0, .int .i64 0, .int .i64 0, .int .i64 0, .int .i64 0, .int .i64 0, .bool false]) ?_ 1 _ rfl; (with_reducible repeat (first | refine blk_drewN ?_ _ | refine blk_drew ?_ | refine blk_alloc ?_ _)); exact BK216.out) NB216_215.out (by simp)); have n2_ := aM (hb); have n3_ := aM (hi); clear BK214 BK216; clear HB HI215; have BK214 := n0_; have BK216 := n1_; have HB := n2_; have HI215 := n3_; clear n0_ n1_ n2_ n3_; (try clear hb); (try clear hk); (try clear hi); have hnb23 := NB216_214.out; have hnc23 := NB214_216.out; have hnb24 := NB216_215.out; have hnc24 := NB215_216.out; have hcz25_0 := cI BK216.out 0; have hcz25_1 := cI BK216.out 1; have hcz25_2 := cI BK216.out 2; have hcz25_3 := cI BK216.out 3; have hcz25_4 := cI BK216.out 4; have hcz25_5 := cI BK216.out 5; have hcz25_6 := cI BK216.out 6; have hcz25_7 := cI BK216.out 7; have hfz25_0 := bF BK216.out 0; have hfz25_1 := bF BK216.out 1; have hfz25_2 := bF BK216.out 2; have hfz25_3 := bF BK216.out 3; have hfz25_4 := bF BK216.out 4; have hfz25_5 := bF BK216.out 5; have hfz25_6 := bF BK216.out 6; have hfz25_7 := bF BK216.out 7) | (go_at_call 114; (with_reducible refine (spec_l9Num.calls k gb215 l0 t224 t225 t226 t227 t228 w _ ?side1 ?side2 A18.out).mono ?_); (case side1 => repeat (first | (with_reducible first | exact HI215.out | apply IsS139.alloc | apply IsS139.drewN | apply IsS139.drew | apply IsS139.set_1 | apply IsS139.set_2 | refine IsS139.far ?_ NB215_214.out _ | refine IsS139.far ?_ NB215_216.out _) | exact HI215.out)); (case side2 => repeat (first | (with_reducible first | exact HB.out | apply below_alloc | apply pw_below_drewN | apply below_drew1 | refine below_set ?_ (IsS139.ge HI215.out) | refine below_set ?_ GE214.out | refine below_set ?_ GE216.out) | exact HB.out)); rintro e w26 ⟨rfl, hi, hb, hk⟩; have n0_ := aM (KeepBut.blk hk (g' := gb214) (o := .cells #[.int .i64 0, .int .i64 0, .int .i64 0, .int .i64 0, .int .i64 0, .int .i64 0, .int .i64 0, .bool false] 82 (0, 0)) (by (with_reducible repeat (first | refine blk_drewN ?_ _ | refine blk_drew ?_ | refine blk_alloc ?_ _)); refine blk_far ?_ NB214_216.out _; (with_reducible repeat (first | refine blk_drewN ?_ _ | refine blk_drew ?_ | refine blk_alloc ?_ _)); exact BK214.out) NB214_215.out (by simp)); have n1_ := aM (KeepBut.blk hk (g' := gb216) (o := .cells #[.int .i64 t217, .int .i64 t220, .int .i64 t223, .int .i64 0, .int .i64 0, .int .i64 0, .int .i64 0, .bool false] 82 (0, 0)) (by (with_reducible repeat (first | refine blk_drewN ?_ _ | refine blk_drew ?_ | refine blk_alloc ?_ _)); refine blk_put (cs := #[.int .i64 t217, .int .i64 t220, .int .i64 0, .int .i64 0, .int .i64 0, .int .i64 0, .int .i64 0, .bool false]) ?_ 2 _ rfl; (with_reducible repeat (first | refine blk_drewN ?_ _ | refine blk_drew ?_ | refine blk_alloc ?_ _)); exact BK216.out) NB216_215.out (by simp)); have n2_ := aM (hb); have n3_ := aM (hi); clear BK214 BK216; clear HB HI215; have BK214 := n0_; have BK216 := n1_; have HB := n2_; have HI215 := n3_; clear n0_ n1_ n2_ n3_; (try clear hb); (try clear hk); (try clear hi); have hcz27_0 := cI BK216.out 0; have hcz27_1 := cI BK216.out 1; have hcz27_2 := cI BK216.out 2; have hcz27_3 := cI BK216.out 3; have hcz27_4 := cI BK216.out 4; have hcz27_5 := cI BK216.out 5; have hcz27_6 := cI BK216.out 6; have hcz27_7 := cI BK216.out 7; have hfz27_0 := bF BK216.out 0; have hfz27_1 := bF BK216.out 1; have hfz27_2 := bF BK216.out 2; have hfz27_3 := bF BK216.out 3; have hfz27_4 := bF BK216.out 4; have hfz27_5 := bF BK216.out 5; have hfz27_6 := bF BK216.out 6; have hfz27_7 := bF BK216.out 7) | (go_at_call 114; (with_reducible refine (spec_l9Num.calls k gb215 l0 t227 t228 t229 t230 t231 w _ ?side1 ?side2 A19.out).mono ?_); (case side1 => repeat (first | (with_reducible first | exact HI215.out | apply IsS139.alloc | apply IsS139.drewN | apply IsS139.drew | apply IsS139.set_1 | apply IsS139.set_2 | refine IsS139.far ?_ NB215_214.out _ | refine IsS139.far ?_ NB215_216.out _) | exact HI215.out)); (case side2 => repeat (first | (with_reducible first | exact HB.out | apply below_alloc | apply pw_below_drewN | apply below_drew1 | refine below_set ?_ (IsS139.ge HI215.out) | refine below_set ?_ GE214.out | refine below_set ?_ GE216.out) | exact HB.out)); rintro e w28 ⟨rfl, hi, hb, hk⟩; have n0_ := aM (KeepBut.blk hk (g' := gb214) (o := .cells #[.int .i64 0, .int .i64 0, .int .i64 0, .int .i64 0, .int .i64 0, .int .i64 0, .int .i64 0, .bool false] 82 (0, 0)) (by (with_reducible repeat (first | refine blk_drewN ?_ _ | refine blk_drew ?_ | refine blk_alloc ?_ _)); refine blk_far ?_ NB214_216.out _; (with_reducible repeat (first | refine blk_drewN ?_ _ | refine blk_drew ?_ | refine blk_alloc ?_ _)); exact BK214.out) NB214_215.out (by simp)); have n1_ := aM (KeepBut.blk hk (g' := gb216) (o := .cells #[.int .i64 t217, .int .i64 t220, .int .i64 t223, .int .i64 t226, .int .i64 0, .int .i64 0, .int .i64 0, .bool false] 82 (0, 0)) (by (with_reducible repeat (first | refine blk_drewN ?_ _ | refine blk_drew ?_ | refine blk_alloc ?_ _)); refine blk_put (cs := #[.int .i64 t217, .int .i64 t220, .int .i64 t223, .int .i64 0, .int .i64 0, .int .i64 0, .int .i64 0, .bool false]) ?_ 3 _ rfl; (with_reducible repeat (first | refine blk_drewN ?_ _ | refine blk_drew ?_ | refine blk_alloc ?_ _)); exact BK216.out) NB216_215.out (by simp)); have n2_ := aM (hb); have n3_ := aM (hi); clear BK214 BK216; clear HB HI215; have BK214 := n0_; have BK216 := n1_; have HB := n2_; have HI215 := n3_; clear n0_ n1_ n2_ n3_; (try clear hb); (try clear hk); (try clear hi); have hcz29_0 := cI BK216.out 0; have hcz29_1 := cI BK216.out 1; have hcz29_2 := cI BK216.out 2; have hcz29_3 := cI BK216.out 3; have hcz29_4 := cI BK216.out 4; have hcz29_5 := cI BK216.out 5; have hcz29_6 := cI BK216.out 6; have hcz29_7 := cI BK216.out 7; have hfz29_0 := bF BK216.out 0; have hfz29_1 := bF BK216.out 1; have hfz29_2 := bF BK216.out 2; have hfz29_3 := bF BK216.out 3; have hfz29_4 := bF BK216.out 4; have hfz29_5 := bF BK216.out 5; have hfz29_6 := bF BK216.out 6; have hfz29_7 := bF BK216.out 7) | (go_at_call 114; (with_reducible refine (spec_l9Num.calls k gb215 l0 t230 t231 t232 t233 t234 w _ ?side1 ?side2 A20.out).mono ?_); (case side1 => repeat (first | (with_reducible first | exact HI215.out | apply IsS139.alloc | apply IsS139.drewN | apply IsS139.drew | apply IsS139.set_1 | apply IsS139.set_2 | refine IsS139.far ?_ NB215_214.out _ | refine IsS139.far ?_ NB215_216.out _) | exact HI215.out)); (case side2 => repeat (first | (with_reducible first | exact HB.out | apply below_alloc | apply pw_below_drewN | apply below_drew1 | refine below_set ?_ (IsS139.ge HI215.out) | refine below_set ?_ GE214.out | refine below_set ?_ GE216.out) | exact HB.out)); rintro e w30 ⟨rfl, hi, hb, hk⟩; have n0_ := aM (KeepBut.blk hk (g' := gb214) (o := .cells #[.int .i64 0, .int .i64 0, .int .i64 0, .int .i64 0, .int .i64 0, .int .i64 0, .int .i64 0, .bool false] 82 (0, 0)) (by (with_reducible repeat (first | refine blk_drewN ?_ _ | refine blk_drew ?_ | refine blk_alloc ?_ _)); refine blk_far ?_ NB214_216.out _; (with_reducible repeat (first | refine blk_drewN ?_ _ | refine blk_drew ?_ | refine blk_alloc ?_ _)); exact BK214.out) NB214_215.out (by simp)); have n1_ := aM (KeepBut.blk hk (g' := gb216) (o := .cells #[.int .i64 t217, .int .i64 t220, .int .i64 t223, .int .i64 t226, .int .i64 t229, .int .i64 0, .int .i64 0, .bool false] 82 (0, 0)) (by (with_reducible repeat (first | refine blk_drewN ?_ _ | refine blk_drew ?_ | refine blk_alloc ?_ _)); refine blk_put (cs := #[.int .i64 t217, .int .i64 t220, .int .i64 t223, .int .i64 t226, .int .i64 0, .int .i64 0, .int .i64 0, .bool false]) ?_ 4 _ rfl; (with_reducible repeat (first | refine blk_drewN ?_ _ | refine blk_drew ?_ | refine blk_alloc ?_ _)); exact BK216.out) NB216_215.out (by simp)); have n2_ := aM (hb); have n3_ := aM (hi); clear BK214 BK216; clear HB HI215; have BK214 := n0_; have BK216 := n1_; have HB := n2_; have HI215 := n3_; clear n0_ n1_ n2_ n3_; (try clear hb); (try clear hk); (try clear hi); have hcz31_0 := cI BK216.out 0; have hcz31_1 := cI BK216.out 1; have hcz31_2 := cI BK216.out 2; have hcz31_3 := cI BK216.out 3; have hcz31_4 := cI BK216.out 4; have hcz31_5 := cI BK216.out 5; have hcz31_6 := cI BK216.out 6; have hcz31_7 := cI BK216.out 7; have hfz31_0 := bF BK216.out 0; have hfz31_1 := bF BK216.out 1; have hfz31_2 := bF BK216.out 2; have hfz31_3 := bF BK216.out 3; have hfz31_4 := bF BK216.out 4; have hfz31_5 := bF BK216.out 5; have hfz31_6 := bF BK216.out 6; have hfz31_7 := bF BK216.out 7) | (go_at_call 114; (with_reducible refine (spec_l9Num.calls k gb215 l0 t233 t234 t235 t236 t237 w _ ?side1 ?side2 A21.out).mono ?_); (case side1 => repeat (first | (with_reducible first | exact HI215.out | apply IsS139.alloc | apply IsS139.drewN | apply IsS139.drew | apply IsS139.set_1 | apply IsS139.set_2 | refine IsS139.far ?_ NB215_214.out _ | refine IsS139.far ?_ NB215_216.out _) | exact HI215.out)); (case side2 => repeat (first | (with_reducible first | exact HB.out | apply below_alloc | apply pw_below_drewN | apply below_drew1 | refine below_set ?_ (IsS139.ge HI215.out) | refine below_set ?_ GE214.out | refine below_set ?_ GE216.out) | exact HB.out)); rintro e w32 ⟨rfl, hi, hb, hk⟩; have n0_ := aM (KeepBut.blk hk (g' := gb214) (o := .cells #[.int .i64 0, .int .i64 0, .int .i64 0, .int .i64 0, .int .i64 0, .int .i64 0, .int .i64 0, .bool false] 82 (0, 0)) (by (with_reducible repeat (first | refine blk_drewN ?_ _ | refine blk_drew ?_ | refine blk_alloc ?_ _)); refine blk_far ?_ NB214_216.out _; (with_reducible repeat (first | refine blk_drewN ?_ _ | refine blk_drew ?_ | refine blk_alloc ?_ _)); exact BK214.out) NB214_215.out (by simp)); have n1_ := aM (KeepBut.blk hk (g' := gb216) (o := .cells #[.int .i64 t217, .int .i64 t220, .int .i64 t223, .int .i64 t226, .int .i64 t229, .int .i64 t232, .int .i64 0, .bool false] 82 (0, 0)) (by (with_reducible repeat (first | refine blk_drewN ?_ _ | refine blk_drew ?_ | refine blk_alloc ?_ _)); refine blk_put (cs := #[.int .i64 t217, .int .i64 t220, .int .i64 t223, .int .i64 t226, .int .i64 t229, .int .i64 0, .int .i64 0, .bool false]) ?_ 5 _ rfl; (with_reducible repeat (first | refine blk_drewN ?_ _ | refine blk_drew ?_ | refine blk_alloc ?_ _)); exact BK216.out) NB216_215.out (by simp)); have n2_ := aM (hb); have n3_ := aM (hi); clear BK214 BK216; clear HB HI215; have BK214 := n0_; have BK216 := n1_; have HB := n2_; have HI215 := n3_; clear n0_ n1_ n2_ n3_; (try clear hb); (try clear hk); (try clear hi); have hcz33_0 := cI BK216.out 0; have hcz33_1 := cI BK216.out 1; have hcz33_2 := cI BK216.out 2; have hcz33_3 := cI BK216.out 3; have hcz33_4 := cI BK216.out 4; have hcz33_5 := cI BK216.out 5; have hcz33_6 := cI BK216.out 6; have hcz33_7 := cI BK216.out 7; have hfz33_0 := bF BK216.out 0; have hfz33_1 := bF BK216.out 1; have hfz33_2 := bF BK216.out 2; have hfz33_3 := bF BK216.out 3; have hfz33_4 := bF BK216.out 4; have hfz33_5 := bF BK216.out 5; have hfz33_6 := bF BK216.out 6; have hfz33_7 := bF BK216.out 7)))
  go_meet
  case rel => exact ⟨_, (t236), (t237), (t223), (t226), (t229), (t232), (t235), (false), H', ⟨by first | omega | exact Nat.le_refl _⟩, ⟨by (with_reducible repeat (first | refine blk_drewN ?_ _ | refine blk_drew ?_ | refine blk_alloc ?_ _)); refine blk_far ?_ NB214_216.out _; (with_reducible repeat (first | refine blk_drewN ?_ _ | refine blk_drew ?_ | refine blk_alloc ?_ _)); exact BK214.out⟩, ⟨by (with_reducible repeat (first | refine blk_drewN ?_ _ | refine blk_drew ?_ | refine blk_alloc ?_ _)); refine blk_put (cs := #[.int .i64 t217, .int .i64 t220, .int .i64 t223, .int .i64 t226, .int .i64 t229, .int .i64 t232, .int .i64 0, .bool false]) ?_ 6 _ rfl; (with_reducible repeat (first | refine blk_drewN ?_ _ | refine blk_drew ?_ | refine blk_alloc ?_ _)); exact BK216.out⟩, ⟨by repeat (first | (with_reducible first | exact HI215.out | apply IsS139.alloc | apply IsS139.drewN | apply IsS139.drew | apply IsS139.set_1 | apply IsS139.set_2 | refine IsS139.far ?_ NB215_214.out _ | refine IsS139.far ?_ NB215_216.out _) | exact HI215.out)⟩, ⟨by repeat (first | (with_reducible first | exact HB.out | apply below_alloc | apply pw_below_drewN | apply below_drew1 | refine below_set ?_ (IsS139.ge HI215.out) | refine below_set ?_ GE214.out | refine below_set ?_ GE216.out) | exact HB.out)⟩⟩
 case rest =>
  clear HC5
  try clear c1
  try clear c2
  try clear p2
  try clear c3
  try clear c5
  try clear c9
  try clear c10
  try clear c16
  try clear c16b0
  try clear c16b1
  try clear c23
  try clear c24
  try clear c34
  try clear c34b0
  try clear c34b1
  try clear c37
  try clear c38
  try clear hcz11_0
  try clear hcz11_1
  try clear hcz11_2
  try clear hcz11_3
  try clear hcz11_4
  try clear hcz11_5
  try clear hcz11_6
  try clear hcz11_7
  try clear hcz13_0
  try clear hcz13_1
  try clear hcz13_2
  try clear hcz13_3
  try clear hcz13_4
  try clear hcz13_5
  try clear hcz13_6
  try clear hcz13_7
  try clear hcz15_0
  try clear hcz15_1
  try clear hcz15_2
  try clear hcz15_3
  try clear hcz15_4
  try clear hcz15_5
  try clear hcz15_6
  try clear hcz15_7
  try clear hcz25_0
  try clear hcz25_1
  try clear hcz25_2
  try clear hcz25_3
  try clear hcz25_4
  try clear hcz25_5
  try clear hcz25_6
  try clear hcz25_7
  try clear hcz27_0
  try clear hcz27_1
  try clear hcz27_2
  try clear hcz27_3
  try clear hcz27_4
  try clear hcz27_5
  try clear hcz27_6
  try clear hcz27_7
  try clear hcz29_0
  try clear hcz29_1
  try clear hcz29_2
  try clear hcz29_3
  try clear hcz29_4
  try clear hcz29_5
  try clear hcz29_6
  try clear hcz29_7
  try clear hcz31_0
  try clear hcz31_1
  try clear hcz31_2
  try clear hcz31_3
  try clear hcz31_4
  try clear hcz31_5
  try clear hcz31_6
  try clear hcz31_7
  try clear hcz33_0
  try clear hcz33_1
  try clear hcz33_2
  try clear hcz33_3
  try clear hcz33_4
  try clear hcz33_5
  try clear hcz33_6
  try clear hcz33_7
  try clear hcz39_0
  try clear hcz39_1
  try clear hcz39_2
  try clear hcz39_3
  try clear hcz39_4
  try clear hcz39_5
  try clear hcz39_6
  try clear hcz39_7
  try clear hfz11_0
  try clear hfz11_1
  try clear hfz11_2
  try clear hfz11_3
  try clear hfz11_4
  try clear hfz11_5
  try clear hfz11_6
  try clear hfz11_7
  try clear hfz13_0
  try clear hfz13_1
  try clear hfz13_2
  try clear hfz13_3
  try clear hfz13_4
  try clear hfz13_5
  try clear hfz13_6
  try clear hfz13_7
  try clear hfz15_0
  try clear hfz15_1
  try clear hfz15_2
  try clear hfz15_3
  try clear hfz15_4
  try clear hfz15_5
  try clear hfz15_6
  try clear hfz15_7
  try clear hfz25_0
  try clear hfz25_1
  try clear hfz25_2
  try clear hfz25_3
  try clear hfz25_4
  try clear hfz25_5
  try clear hfz25_6
  try clear hfz25_7
  try clear hfz27_0
  try clear hfz27_1
  try clear hfz27_2
  try clear hfz27_3
  try clear hfz27_4
  try clear hfz27_5
  try clear hfz27_6
  try clear hfz27_7
  try clear hfz29_0
  try clear hfz29_1
  try clear hfz29_2
  try clear hfz29_3
  try clear hfz29_4
  try clear hfz29_5
  try clear hfz29_6
  try clear hfz29_7
  try clear hfz31_0
  try clear hfz31_1
  try clear hfz31_2
  try clear hfz31_3
  try clear hfz31_4
  try clear hfz31_5
  try clear hfz31_6
  try clear hfz31_7
  try clear hfz33_0
  try clear hfz33_1
  try clear hfz33_2
  try clear hfz33_3
  try clear hfz33_4
  try clear hfz33_5
  try clear hfz33_6
  try clear hfz33_7
  try clear hfz39_0
  try clear hfz39_1
  try clear hfz39_2
  try clear hfz39_3
  try clear hfz39_4
  try clear hfz39_5
  try clear hfz39_6
  try clear hfz39_7
  obtain ⟨kq, x216001_4, x216002_4, x217002_4, x217003_4, x217004_4, x217005_4, x217006_4, x217007_4, HA, HJ4, BK214, BK216, HI215, HB⟩ := hcut
  cases kq with
  | zero => exact absurd HA.out (by simp [spec_InOf.j0])
  | succ kj4 =>
   have H := HA.out
   clear HA
   simp only [spec_InOf.j0] at H
   replace H := Option.bind_eq_some_iff.mp H
   obtain ⟨t241, A400, H⟩ := H
   replace H : (if x216002_4 = true then (if (t241.length : Int) = 0 then (spec_InOf.j1 kj4 a1 t241 true t217 t220 x217002_4 x217003_4 x217004_4 x217005_4 x217006_4 x217007_4) else (if (t241.length : Int) > (wrap64 ((l0.length : Int) - a1)) then (spec_InOf.j1 kj4 a1 t241 true t217 t220 x217002_4 x217003_4 x217004_4 x217005_4 x217006_4 x217007_4) else (if 0 ≤ a1 then (if a1 ≤ (wrap64 (a1 + (t241.length : Int))) then (if (wrap64 (a1 + (t241.length : Int))) ≤ (l0.length : Int) then (spec_InOf.j1 kj4 a1 t241 ((strOfNums ((l0.take ((wrap64 (a1 + (t241.length : Int))) : Int).toNat).drop (a1 : Int).toNat)).toList != (strOfNums t241).toList) t217 t220 x217002_4 x217003_4 x217004_4 x217005_4 x217006_4 x217007_4) else (none)) else (none)) else (none)))) else (spec_InOf.j1 kj4 a1 t241 true t217 t220 x217002_4 x217003_4 x217004_4 x217005_4 x217006_4 x217007_4)) = some (r1, r2, r3, r4, r5, r6, r7, r8, r9, r10) := H
   have A40 := aM A400
   clear A400
   have HC41 := aM H
   clear H
   have hnb42 := NB216_214.out
   have hnc42 := NB214_216.out
   have hnb43 := NB216_215.out
   have hnc43 := NB215_216.out
   have hcz44_0 := cI BK216.out 0
   have hcz44_1 := cI BK216.out 1
   have hcz44_2 := cI BK216.out 2
   have hcz44_3 := cI BK216.out 3
   have hcz44_4 := cI BK216.out 4
   have hcz44_5 := cI BK216.out 5
   have hcz44_6 := cI BK216.out 6
   have hcz44_7 := cI BK216.out 7
   have hfz44_0 := bF BK216.out 0
   have hfz44_1 := bF BK216.out 1
   have hfz44_2 := bF BK216.out 2
   have hfz44_3 := bF BK216.out 3
   have hfz44_4 := bF BK216.out 4
   have hfz44_5 := bF BK216.out 5
   have hfz44_6 := bF BK216.out 6
   have hfz44_7 := bF BK216.out 7
   go_upto_region 15 with (first | (go_at_call 96; (with_reducible refine (spec_InBytes.calls kj4 t217 t220 x217002_4 x217003_4 x217004_4 x217005_4 x217006_4 x217007_4 t241 _ A40.out).mono ?_); rintro e w45 ⟨v242, rfl, ho0, hb⟩; have n0_ := aM (Kd.R_lower ho0 (below_size (by repeat (first | (with_reducible first | exact HB.out | apply below_alloc | apply pw_below_drewN | apply below_drew1 | refine below_set ?_ (IsS139.ge HI215.out) | refine below_set ?_ GE214.out | refine below_set ?_ GE216.out) | exact HB.out)))); have n1_ := aM (bB (g := gb214) (o := .cells #[.int .i64 0, .int .i64 0, .int .i64 0, .int .i64 0, .int .i64 0, .int .i64 0, .int .i64 0, .bool false] 82 (0, 0)) (bk BK214.out) hb); have n2_ := aM (bB (g := gb216) (o := .cells #[.int .i64 t217, .int .i64 t220, .int .i64 x217002_4, .int .i64 x217003_4, .int .i64 x217004_4, .int .i64 x217005_4, .int .i64 x217006_4, .bool x217007_4] 82 (0, 0)) (bk BK216.out) hb); have n3_ := aM (IsS139.below (by repeat (first | (with_reducible first | exact HI215.out | apply IsS139.alloc | apply IsS139.drewN | apply IsS139.drew | apply IsS139.set_1 | apply IsS139.set_2 | refine IsS139.far ?_ NB215_214.out _ | refine IsS139.far ?_ NB215_216.out _) | exact HI215.out)) hb); have n4_ := aM (bS (by repeat (first | (with_reducible first | exact HB.out | apply below_alloc | apply pw_below_drewN | apply below_drew1 | refine below_set ?_ (IsS139.ge HI215.out) | refine below_set ?_ GE214.out | refine below_set ?_ GE216.out) | exact HB.out)) hb); clear BK214 BK216; clear HI215 HB; have HO243 := n0_; have BK214 := n1_; have BK216 := n2_; have HI215 := n3_; have HB := n4_; clear n0_ n1_ n2_ n3_ n4_; (try clear hb); (try clear ho0)))
   repeat (go_quiet (first | (go_at_call 96; (with_reducible refine (spec_InBytes.calls kj4 t217 t220 x217002_4 x217003_4 x217004_4 x217005_4 x217006_4 x217007_4 t241 _ A40.out).mono ?_); rintro e w45 ⟨v242, rfl, ho0, hb⟩; have n0_ := aM (Kd.R_lower ho0 (below_size (by repeat (first | (with_reducible first | exact HB.out | apply below_alloc | apply pw_below_drewN | apply below_drew1 | refine below_set ?_ (IsS139.ge HI215.out) | refine below_set ?_ GE214.out | refine below_set ?_ GE216.out) | exact HB.out)))); have n1_ := aM (bB (g := gb214) (o := .cells #[.int .i64 0, .int .i64 0, .int .i64 0, .int .i64 0, .int .i64 0, .int .i64 0, .int .i64 0, .bool false] 82 (0, 0)) (bk BK214.out) hb); have n2_ := aM (bB (g := gb216) (o := .cells #[.int .i64 t217, .int .i64 t220, .int .i64 x217002_4, .int .i64 x217003_4, .int .i64 x217004_4, .int .i64 x217005_4, .int .i64 x217006_4, .bool x217007_4] 82 (0, 0)) (bk BK216.out) hb); have n3_ := aM (IsS139.below (by repeat (first | (with_reducible first | exact HI215.out | apply IsS139.alloc | apply IsS139.drewN | apply IsS139.drew | apply IsS139.set_1 | apply IsS139.set_2 | refine IsS139.far ?_ NB215_214.out _ | refine IsS139.far ?_ NB215_216.out _) | exact HI215.out)) hb); have n4_ := aM (bS (by repeat (first | (with_reducible first | exact HB.out | apply below_alloc | apply pw_below_drewN | apply below_drew1 | refine below_set ?_ (IsS139.ge HI215.out) | refine below_set ?_ GE214.out | refine below_set ?_ GE216.out) | exact HB.out)) hb); clear BK214 BK216; clear HI215 HB; have HO243 := n0_; have BK214 := n1_; have BK216 := n2_; have HI215 := n3_; have HB := n4_; clear n0_ n1_ n2_ n3_ n4_; (try clear hb); (try clear ho0))); go_upto_region 15 with (first | (go_at_call 96; (with_reducible refine (spec_InBytes.calls kj4 t217 t220 x217002_4 x217003_4 x217004_4 x217005_4 x217006_4 x217007_4 t241 _ A40.out).mono ?_); rintro e w45 ⟨v242, rfl, ho0, hb⟩; have n0_ := aM (Kd.R_lower ho0 (below_size (by repeat (first | (with_reducible first | exact HB.out | apply below_alloc | apply pw_below_drewN | apply below_drew1 | refine below_set ?_ (IsS139.ge HI215.out) | refine below_set ?_ GE214.out | refine below_set ?_ GE216.out) | exact HB.out)))); have n1_ := aM (bB (g := gb214) (o := .cells #[.int .i64 0, .int .i64 0, .int .i64 0, .int .i64 0, .int .i64 0, .int .i64 0, .int .i64 0, .bool false] 82 (0, 0)) (bk BK214.out) hb); have n2_ := aM (bB (g := gb216) (o := .cells #[.int .i64 t217, .int .i64 t220, .int .i64 x217002_4, .int .i64 x217003_4, .int .i64 x217004_4, .int .i64 x217005_4, .int .i64 x217006_4, .bool x217007_4] 82 (0, 0)) (bk BK216.out) hb); have n3_ := aM (IsS139.below (by repeat (first | (with_reducible first | exact HI215.out | apply IsS139.alloc | apply IsS139.drewN | apply IsS139.drew | apply IsS139.set_1 | apply IsS139.set_2 | refine IsS139.far ?_ NB215_214.out _ | refine IsS139.far ?_ NB215_216.out _) | exact HI215.out)) hb); have n4_ := aM (bS (by repeat (first | (with_reducible first | exact HB.out | apply below_alloc | apply pw_below_drewN | apply below_drew1 | refine below_set ?_ (IsS139.ge HI215.out) | refine below_set ?_ GE214.out | refine below_set ?_ GE216.out) | exact HB.out)) hb); clear BK214 BK216; clear HI215 HB; have HO243 := n0_; have BK214 := n1_; have BK216 := n2_; have HI215 := n3_; have HB := n4_; clear n0_ n1_ n2_ n3_ n4_; (try clear hb); (try clear ho0))))
   (try simp only [Act.put, sA, sZ, sS])
   go_cut [83] (fun v83 wc => ∃ (kq : Nat) (x83_40 : Bool), v83 = .bool x83_40 ∧ Aside0 (spec_InOf.j1 kq a1 t241 x83_40 t217 t220 x217002_4 x217003_4 x217004_4 x217005_4 x217006_4 x217007_4 = some (r1, r2, r3, r4, r5, r6, r7, r8, r9, r10)) ∧ Aside0 (kq ≤ kj4) ∧ Aside0 (Kd.R (Kd.int .u8) 5 wc w.heap.size (fun _ => True) v242 t241) ∧ Aside0 (wc.heap[gb214]? = some (.cells #[.int .i64 0, .int .i64 0, .int .i64 0, .int .i64 0, .int .i64 0, .int .i64 0, .int .i64 0, .bool false] 82 (0, 0))) ∧ Aside0 (wc.heap[gb216]? = some (.cells #[.int .i64 t217, .int .i64 t220, .int .i64 x217002_4, .int .i64 x217003_4, .int .i64 x217004_4, .int .i64 x217005_4, .int .i64 x217006_4, .bool x217007_4] 82 (0, 0))) ∧ Aside0 (Below w.heap.size w wc))
   case first =>
    have H := HC41.out
    clear HC41
    by_cases c46 : x216002_4 = true
    case neg =>
     replace c46 := Bool.eq_false_iff.mpr c46
     subst c46
     have H1 : (spec_InOf.j1 kj4 a1 t241 true t217 t220 x217002_4 x217003_4 x217004_4 x217005_4 x217006_4 x217007_4) = some (r1, r2, r3, r4, r5, r6, r7, r8, r9, r10) := by rw [if_neg (show ¬ (false = true) by decide)] at H; exact H
     clear H
     have H := H1
     clear H1
     have H' := aM H
     clear H
     obtain ⟨ASz61_0, cSz61_0, HGz61, hgz61, HSz61_0⟩ := HI215.out
     have hcz61_0 := cellS139_0 HGz61
     have hcz61_1 := cellS139_1 HGz61
     have hcz61_2 := cellS139_2 HGz61
     have hfz61_0 := bF HGz61 0
     have hfz61_1 := bF HGz61 1
     have hfz61_2 := bF HGz61 2
     clear HGz61 hgz61
     go_wp2
     (try (go_big_region; try go_wp2))
     go_meet
     case rel => exact ⟨_, (true), xE, H', ⟨by have := HJ4.out; first | omega | exact Nat.le_refl _⟩, ⟨kr HO243.out⟩, ⟨by (with_reducible repeat (first | refine blk_drewN ?_ _ | refine blk_drew ?_ | refine blk_alloc ?_ _)); exact BK214.out⟩, ⟨by (with_reducible repeat (first | refine blk_drewN ?_ _ | refine blk_drew ?_ | refine blk_alloc ?_ _)); exact BK216.out⟩, ⟨by repeat (first | (with_reducible first | exact HB.out | apply below_alloc | apply pw_below_drewN | apply below_drew1 | refine below_set ?_ (IsS139.ge HI215.out) | refine below_set ?_ GE214.out | refine below_set ?_ GE216.out) | exact HB.out)⟩⟩
    subst c46
    have H1 : (if (t241.length : Int) = 0 then (spec_InOf.j1 kj4 a1 t241 true t217 t220 x217002_4 x217003_4 x217004_4 x217005_4 x217006_4 x217007_4) else (if (t241.length : Int) > (wrap64 ((l0.length : Int) - a1)) then (spec_InOf.j1 kj4 a1 t241 true t217 t220 x217002_4 x217003_4 x217004_4 x217005_4 x217006_4 x217007_4) else (if 0 ≤ a1 then (if a1 ≤ (wrap64 (a1 + (t241.length : Int))) then (if (wrap64 (a1 + (t241.length : Int))) ≤ (l0.length : Int) then (spec_InOf.j1 kj4 a1 t241 ((strOfNums ((l0.take ((wrap64 (a1 + (t241.length : Int))) : Int).toNat).drop (a1 : Int).toNat)).toList != (strOfNums t241).toList) t217 t220 x217002_4 x217003_4 x217004_4 x217005_4 x217006_4 x217007_4) else (none)) else (none)) else (none)))) = some (r1, r2, r3, r4, r5, r6, r7, r8, r9, r10) := by rw [if_pos rfl] at H; exact H
    clear H
    have H := H1
    clear H1
    by_cases c47 : (t241.length : Int) = 0
    case pos =>
     rw [if_pos c47] at H
     have c47b0 : ((t241.length : Int) == 0) = true := beq_iff_eq.mpr c47
     have c47b1 : ((t241.length : Int) != 0) = false := bne_eq_false_iff_eq.mpr c47
     clear c47
     (first | rw [c47b0] | (simp only [i64_w, i32_w]; rw [c47b0]) | skip)
     have H' := aM H
     clear H
     obtain ⟨ASz48_0, cSz48_0, HGz48, hgz48, HSz48_0⟩ := HI215.out
     have hcz48_0 := cellS139_0 HGz48
     have hcz48_1 := cellS139_1 HGz48
     have hcz48_2 := cellS139_2 HGz48
     have hfz48_0 := bF HGz48 0
     have hfz48_1 := bF HGz48 1
     have hfz48_2 := bF HGz48 2
     clear HGz48 hgz48
     obtain ⟨Ao49, co49, eo49⟩ := Kd.R_slice HO243.out
     subst eo49
     go_wp2
     (try (go_big_region; try go_wp2))
     go_meet
     case rel => exact ⟨_, (true), xE, H', ⟨by have := HJ4.out; first | omega | exact Nat.le_refl _⟩, ⟨kr HO243.out⟩, ⟨by (with_reducible repeat (first | refine blk_drewN ?_ _ | refine blk_drew ?_ | refine blk_alloc ?_ _)); exact BK214.out⟩, ⟨by (with_reducible repeat (first | refine blk_drewN ?_ _ | refine blk_drew ?_ | refine blk_alloc ?_ _)); exact BK216.out⟩, ⟨by repeat (first | (with_reducible first | exact HB.out | apply below_alloc | apply pw_below_drewN | apply below_drew1 | refine below_set ?_ (IsS139.ge HI215.out) | refine below_set ?_ GE214.out | refine below_set ?_ GE216.out) | exact HB.out)⟩⟩
    rw [if_neg c47] at H
    have c47b0 : ((t241.length : Int) == 0) = false := beq_eq_false_iff_ne.mpr c47
    have c47b1 : ((t241.length : Int) != 0) = true := bne_iff_ne.mpr c47
    have c47b2 : ¬ (t241 = []) := fun h_ => c47 (by rw [h_]; rfl)
    (first | rw [c47b0] | (simp only [i64_w, i32_w]; rw [c47b0]) | skip)
    by_cases c50 : (t241.length : Int) > (wrap64 ((l0.length : Int) - a1))
    case pos =>
     rw [if_pos c50] at H
     have c50b0 : decide ((wrap64 ((l0.length : Int) - a1)) < (t241.length : Int)) = true := decide_eq_true c50
     clear c50
     have H' := aM H
     clear H
     obtain ⟨ASz51_0, cSz51_0, HGz51, hgz51, HSz51_0⟩ := HI215.out
     have hcz51_0 := cellS139_0 HGz51
     have hcz51_1 := cellS139_1 HGz51
     have hcz51_2 := cellS139_2 HGz51
     have hfz51_0 := bF HGz51 0
     have hfz51_1 := bF HGz51 1
     have hfz51_2 := bF HGz51 2
     clear HGz51 hgz51
     obtain ⟨Ao52, co52, eo52⟩ := Kd.R_slice HO243.out
     subst eo52
     go_wp2
     (try (go_big_region; try go_wp2))
     go_meet
     case rel => exact ⟨_, (true), xE, H', ⟨by have := HJ4.out; first | omega | exact Nat.le_refl _⟩, ⟨kr HO243.out⟩, ⟨by (with_reducible repeat (first | refine blk_drewN ?_ _ | refine blk_drew ?_ | refine blk_alloc ?_ _)); exact BK214.out⟩, ⟨by (with_reducible repeat (first | refine blk_drewN ?_ _ | refine blk_drew ?_ | refine blk_alloc ?_ _)); exact BK216.out⟩, ⟨by repeat (first | (with_reducible first | exact HB.out | apply below_alloc | apply pw_below_drewN | apply below_drew1 | refine below_set ?_ (IsS139.ge HI215.out) | refine below_set ?_ GE214.out | refine below_set ?_ GE216.out) | exact HB.out)⟩⟩
    rw [if_neg c50] at H
    have c50b0 : decide ((wrap64 ((l0.length : Int) - a1)) < (t241.length : Int)) = false := decide_eq_false c50
    clear c50
    by_cases c53 : 0 ≤ a1
    case neg =>
     rw [if_neg c53] at H
     exact absurd H (by simp)
    rw [if_pos c53] at H
    have c53b0 := eq_true c53
    have c53b1 : decide (0 ≤ a1) = true := decide_eq_true c53
    clear c53
    by_cases c54 : a1 ≤ (wrap64 (a1 + (t241.length : Int)))
    case neg =>
     rw [if_neg c54] at H
     exact absurd H (by simp)
    rw [if_pos c54] at H
    have c54b0 := eq_true c54
    have c54b1 : decide (a1 ≤ (wrap64 (a1 + (t241.length : Int)))) = true := decide_eq_true c54
    by_cases c55 : (wrap64 (a1 + (t241.length : Int))) ≤ (l0.length : Int)
    case neg =>
     rw [if_neg c55] at H
     exact absurd H (by simp)
    rw [if_pos c55] at H
    have c55b0 := eq_true c55
    have c55b1 : decide ((wrap64 (a1 + (t241.length : Int))) ≤ (l0.length : Int)) = true := decide_eq_true c55
    have H' := aM H
    clear H
    obtain ⟨ASz56_0, cSz56_0, HGz56, hgz56, HSz56_0⟩ := HI215.out
    have hcz56_0 := cellS139_0 HGz56
    have hcz56_1 := cellS139_1 HGz56
    have hcz56_2 := cellS139_2 HGz56
    have hfz56_0 := bF HGz56 0
    have hfz56_1 := bF HGz56 1
    have hfz56_2 := bF HGz56 2
    clear HGz56 hgz56
    obtain ⟨Ao57, co57, eo57⟩ := Kd.R_slice HO243.out
    subst eo57
    obtain ⟨i058, hi058, _, hsz58, _⟩ := info_parts info5
    obtain ⟨A58, hcut58, hA58, hC58⟩ := print_mid_of (P := Try.prog) (Value.int .u8) 0 22 5 .i64 .i64 Try.underlying22 hi058 hsz58 A0 c0 l0 a1 (wrap64 (a1 + (t241.length : Int))) (of_decide_eq_true (by first | (with_reducible assumption) | assumption)) (by first | omega | exact of_decide_eq_true (by first | (with_reducible assumption) | assumption)) (of_decide_eq_true (by first | (with_reducible assumption) | assumption)) HC0.out
    have HR244 := aM (Kd.C_of_reads (h1 := fun _ => rfl) (hA58 _ (Kd.reads_of_C HR0.out)))
    have HC244 := aM hC58
    clear hA58 hC58 hi058 hsz58
    obtain ⟨tk58, hTK58⟩ : ∃ t_, t_ = ((l0.take ((wrap64 (a1 + (t241.length : Int))) : Int).toNat).drop (a1 : Int).toNat) := ⟨_, rfl⟩
    rw [← hTK58] at hcut58
    rw [← hTK58] at HR244
    rw [← hTK58] at HC244
    try rw [← hTK58] at H'
    clear hTK58
    have hcv59 := Kd.C_string (P := Try.prog) (A := A58) (c := (c0 - a1.toNat)) Try.underlying22 Try.underlying5 Try.underlying9 (cB HR244.out HB.out)
    have hcv59d := Kd.C_string (P := Try.prog) (A := A58) (c := (c0 - a1.toNat)) Try.underlying22 Try.underlying5 Try.underlying9 (Kd.C_drew (cB HR244.out HB.out))
    have hcv60 := own_string (P := Try.prog) Try.underlying22 Try.underlying5 Try.underlying9 (Kd.own_of_R HO243.out)
    have hcv60d := own_string (P := Try.prog) Try.underlying22 Try.underlying5 Try.underlying9 (Kd.own_of_R (Kd.R_drew HO243.out))
    go_wp2
    (try (go_big_region; try go_wp2))
    go_meet
    case rel => exact ⟨_, (((strOfNums tk58).toList != (strOfNums t241).toList)), xE, H', ⟨by have := HJ4.out; first | omega | exact Nat.le_refl _⟩, ⟨kr HO243.out⟩, ⟨by (with_reducible repeat (first | refine blk_drewN ?_ _ | refine blk_drew ?_ | refine blk_alloc ?_ _)); exact BK214.out⟩, ⟨by (with_reducible repeat (first | refine blk_drewN ?_ _ | refine blk_drew ?_ | refine blk_alloc ?_ _)); exact BK216.out⟩, ⟨by repeat (first | (with_reducible first | exact HB.out | apply below_alloc | apply pw_below_drewN | apply below_drew1 | refine below_set ?_ (IsS139.ge HI215.out) | refine below_set ?_ GE214.out | refine below_set ?_ GE216.out) | exact HB.out)⟩⟩
   case rest =>
    clear HC41
    try clear c1
    try clear c2
    try clear p2
    try clear c3
    try clear c4
    try clear c5
    try clear hcv5
    try clear p6
    try clear hcv6
    try clear c9
    try clear c10
    try clear c16
    try clear c16b0
    try clear c16b1
    try clear c23
    try clear c24
    try clear c34
    try clear c34b0
    try clear c34b1
    try clear c37
    try clear c38
    try clear c42
    try clear c43
    try clear c46
    try clear c47
    try clear c47b0
    try clear c47b1
    try clear c47b2
    try clear c50
    try clear c50b0
    try clear c53
    try clear c53b0
    try clear c53b1
    try clear c54
    try clear c54b0
    try clear c54b1
    try clear c55
    try clear c55b0
    try clear c55b1
    try clear c58
    try clear hcv59
    try clear hcv60
    try clear hcz11_0
    try clear hcz11_1
    try clear hcz11_2
    try clear hcz11_3
    try clear hcz11_4
    try clear hcz11_5
    try clear hcz11_6
    try clear hcz11_7
    try clear hcz13_0
    try clear hcz13_1
    try clear hcz13_2
    try clear hcz13_3
    try clear hcz13_4
    try clear hcz13_5
    try clear hcz13_6
    try clear hcz13_7
    try clear hcz15_0
    try clear hcz15_1
    try clear hcz15_2
    try clear hcz15_3
    try clear hcz15_4
    try clear hcz15_5
    try clear hcz15_6
    try clear hcz15_7
    try clear hcz25_0
    try clear hcz25_1
    try clear hcz25_2
    try clear hcz25_3
    try clear hcz25_4
    try clear hcz25_5
    try clear hcz25_6
    try clear hcz25_7
    try clear hcz27_0
    try clear hcz27_1
    try clear hcz27_2
    try clear hcz27_3
    try clear hcz27_4
    try clear hcz27_5
    try clear hcz27_6
    try clear hcz27_7
    try clear hcz29_0
    try clear hcz29_1
    try clear hcz29_2
    try clear hcz29_3
    try clear hcz29_4
    try clear hcz29_5
    try clear hcz29_6
    try clear hcz29_7
    try clear hcz31_0
    try clear hcz31_1
    try clear hcz31_2
    try clear hcz31_3
    try clear hcz31_4
    try clear hcz31_5
    try clear hcz31_6
    try clear hcz31_7
    try clear hcz33_0
    try clear hcz33_1
    try clear hcz33_2
    try clear hcz33_3
    try clear hcz33_4
    try clear hcz33_5
    try clear hcz33_6
    try clear hcz33_7
    try clear hcz39_0
    try clear hcz39_1
    try clear hcz39_2
    try clear hcz39_3
    try clear hcz39_4
    try clear hcz39_5
    try clear hcz39_6
    try clear hcz39_7
    try clear hcz44_0
    try clear hcz44_1
    try clear hcz44_2
    try clear hcz44_3
    try clear hcz44_4
    try clear hcz44_5
    try clear hcz44_6
    try clear hcz44_7
    try clear hcz48_0
    try clear hcz48_1
    try clear hcz48_2
    try clear hcz51_0
    try clear hcz51_1
    try clear hcz51_2
    try clear hcz56_0
    try clear hcz56_1
    try clear hcz56_2
    try clear hcz61_0
    try clear hcz61_1
    try clear hcz61_2
    try clear hfz11_0
    try clear hfz11_1
    try clear hfz11_2
    try clear hfz11_3
    try clear hfz11_4
    try clear hfz11_5
    try clear hfz11_6
    try clear hfz11_7
    try clear hfz13_0
    try clear hfz13_1
    try clear hfz13_2
    try clear hfz13_3
    try clear hfz13_4
    try clear hfz13_5
    try clear hfz13_6
    try clear hfz13_7
    try clear hfz15_0
    try clear hfz15_1
    try clear hfz15_2
    try clear hfz15_3
    try clear hfz15_4
    try clear hfz15_5
    try clear hfz15_6
    try clear hfz15_7
    try clear hfz25_0
    try clear hfz25_1
    try clear hfz25_2
    try clear hfz25_3
    try clear hfz25_4
    try clear hfz25_5
    try clear hfz25_6
    try clear hfz25_7
    try clear hfz27_0
    try clear hfz27_1
    try clear hfz27_2
    try clear hfz27_3
    try clear hfz27_4
    try clear hfz27_5
    try clear hfz27_6
    try clear hfz27_7
    try clear hfz29_0
    try clear hfz29_1
    try clear hfz29_2
    try clear hfz29_3
    try clear hfz29_4
    try clear hfz29_5
    try clear hfz29_6
    try clear hfz29_7
    try clear hfz31_0
    try clear hfz31_1
    try clear hfz31_2
    try clear hfz31_3
    try clear hfz31_4
    try clear hfz31_5
    try clear hfz31_6
    try clear hfz31_7
    try clear hfz33_0
    try clear hfz33_1
    try clear hfz33_2
    try clear hfz33_3
    try clear hfz33_4
    try clear hfz33_5
    try clear hfz33_6
    try clear hfz33_7
    try clear hfz39_0
    try clear hfz39_1
    try clear hfz39_2
    try clear hfz39_3
    try clear hfz39_4
    try clear hfz39_5
    try clear hfz39_6
    try clear hfz39_7
    try clear hfz44_0
    try clear hfz44_1
    try clear hfz44_2
    try clear hfz44_3
    try clear hfz44_4
    try clear hfz44_5
    try clear hfz44_6
    try clear hfz44_7
    try clear hfz48_0
    try clear hfz48_1
    try clear hfz48_2
    try clear hfz51_0
    try clear hfz51_1
    try clear hfz51_2
    try clear hfz56_0
    try clear hfz56_1
    try clear hfz56_2
    try clear hfz61_0
    try clear hfz61_1
    try clear hfz61_2
    try clear p2
    obtain ⟨kq, x83_40, rfl, HA, HJ40, HO_9, BK214, BK216, HB⟩ := hcut
    cases kq with
    | zero => exact absurd HA.out (by simp [spec_InOf.j1])
    | succ kj40 =>
     have H := HA.out
     clear HA
     simp only [spec_InOf.j1] at H
     by_cases c62 : x83_40 = true
     case pos =>
      subst c62
      have H1 : (some (0, 0, 0, 0, 0, 0, 0, false, 0, false)) = some (r1, r2, r3, r4, r5, r6, r7, r8, r9, r10) := by rw [if_pos rfl] at H; exact H
      clear H
      have H := H1
      clear H1
      simp only [Option.some.injEq, Prod.mk.injEq] at H
      obtain ⟨rfl, rfl, rfl, rfl, rfl, rfl, rfl, rfl, rfl, rfl⟩ := H
      have hnb63 := NB214_216.out
      have hnc63 := NB216_214.out
      have hcz64_0 := cI BK214.out 0
      have hcz64_1 := cI BK214.out 1
      have hcz64_2 := cI BK214.out 2
      have hcz64_3 := cI BK214.out 3
      have hcz64_4 := cI BK214.out 4
      have hcz64_5 := cI BK214.out 5
      have hcz64_6 := cI BK214.out 6
      have hcz64_7 := cI BK214.out 7
      have hfz64_0 := bF BK214.out 0
      have hfz64_1 := bF BK214.out 1
      have hfz64_2 := bF BK214.out 2
      have hfz64_3 := bF BK214.out 3
      have hfz64_4 := bF BK214.out 4
      have hfz64_5 := bF BK214.out 5
      have hfz64_6 := bF BK214.out 6
      have hfz64_7 := bF BK214.out 7
      go_wp2
      (try (go_big_region; try go_wp2))
      refine bodyPost_ret (results_ctt rfl _ _ gb214 82 #[.int .i64 0, .int .i64 0, .int .i64 0, .int .i64 0, .int .i64 0, .int .i64 0, .int .i64 0, .bool false] (0, 0) _ rfl (by (with_reducible repeat (first | refine blk_drewN ?_ _ | refine blk_drew ?_ | refine blk_alloc ?_ _)); refine blk_put (cs := #[.int .i64 0, .int .i64 0, .int .i64 0, .int .i64 0, .int .i64 0, .int .i64 0, .int .i64 0, .bool false]) ?_ 7 _ rfl; (with_reducible repeat (first | refine blk_drewN ?_ _ | refine blk_drew ?_ | refine blk_alloc ?_ _)); refine blk_put (cs := #[.int .i64 0, .int .i64 0, .int .i64 0, .int .i64 0, .int .i64 0, .int .i64 0, .int .i64 0, .bool false]) ?_ 6 _ rfl; (with_reducible repeat (first | refine blk_drewN ?_ _ | refine blk_drew ?_ | refine blk_alloc ?_ _)); refine blk_put (cs := #[.int .i64 0, .int .i64 0, .int .i64 0, .int .i64 0, .int .i64 0, .int .i64 0, .int .i64 0, .bool false]) ?_ 5 _ rfl; (with_reducible repeat (first | refine blk_drewN ?_ _ | refine blk_drew ?_ | refine blk_alloc ?_ _)); refine blk_put (cs := #[.int .i64 0, .int .i64 0, .int .i64 0, .int .i64 0, .int .i64 0, .int .i64 0, .int .i64 0, .bool false]) ?_ 4 _ rfl; (with_reducible repeat (first | refine blk_drewN ?_ _ | refine blk_drew ?_ | refine blk_alloc ?_ _)); refine blk_put (cs := #[.int .i64 0, .int .i64 0, .int .i64 0, .int .i64 0, .int .i64 0, .int .i64 0, .int .i64 0, .bool false]) ?_ 3 _ rfl; (with_reducible repeat (first | refine blk_drewN ?_ _ | refine blk_drew ?_ | refine blk_alloc ?_ _)); refine blk_put (cs := #[.int .i64 0, .int .i64 0, .int .i64 0, .int .i64 0, .int .i64 0, .int .i64 0, .int .i64 0, .bool false]) ?_ 2 _ rfl; (with_reducible repeat (first | refine blk_drewN ?_ _ | refine blk_drew ?_ | refine blk_alloc ?_ _)); refine blk_put (cs := #[.int .i64 0, .int .i64 0, .int .i64 0, .int .i64 0, .int .i64 0, .int .i64 0, .int .i64 0, .bool false]) ?_ 1 _ rfl; (with_reducible repeat (first | refine blk_drewN ?_ _ | refine blk_drew ?_ | refine blk_alloc ?_ _)); refine blk_put (cs := #[.int .i64 0, .int .i64 0, .int .i64 0, .int .i64 0, .int .i64 0, .int .i64 0, .int .i64 0, .bool false]) ?_ 0 _ rfl; (with_reducible repeat (first | refine blk_drewN ?_ _ | refine blk_drew ?_ | refine blk_alloc ?_ _)); exact BK214.out) Try.underlying82 rfl (by kernel_rfl)) rfl ?_
      exact ⟨xW, bl HB.out⟩
     replace c62 := Bool.eq_false_iff.mpr c62
     subst c62
     have H1 : (some (t217, t220, x217002_4, x217003_4, x217004_4, x217005_4, x217006_4, x217007_4, wrap64 (a1 + (t241.length : Int)), true)) = some (r1, r2, r3, r4, r5, r6, r7, r8, r9, r10) := by rw [if_neg (show ¬ (false = true) by decide)] at H; exact H
     clear H
     have H := H1
     clear H1
     simp only [Option.some.injEq, Prod.mk.injEq] at H
     obtain ⟨rfl, rfl, rfl, rfl, rfl, rfl, rfl, rfl, rfl, rfl⟩ := H
     have hnb65 := NB216_214.out
     have hnc65 := NB214_216.out
     have hcz66_0 := cI BK216.out 0
     have hcz66_1 := cI BK216.out 1
     have hcz66_2 := cI BK216.out 2
     have hcz66_3 := cI BK216.out 3
     have hcz66_4 := cI BK216.out 4
     have hcz66_5 := cI BK216.out 5
     have hcz66_6 := cI BK216.out 6
     have hcz66_7 := cI BK216.out 7
     have hfz66_0 := bF BK216.out 0
     have hfz66_1 := bF BK216.out 1
     have hfz66_2 := bF BK216.out 2
     have hfz66_3 := bF BK216.out 3
     have hfz66_4 := bF BK216.out 4
     have hfz66_5 := bF BK216.out 5
     have hfz66_6 := bF BK216.out 6
     have hfz66_7 := bF BK216.out 7
     obtain ⟨Ao67, co67, eo67⟩ := Kd.R_slice HO_9.out
     subst eo67
     have hcz68_0 := cI BK214.out 0
     have hcz68_1 := cI BK214.out 1
     have hcz68_2 := cI BK214.out 2
     have hcz68_3 := cI BK214.out 3
     have hcz68_4 := cI BK214.out 4
     have hcz68_5 := cI BK214.out 5
     have hcz68_6 := cI BK214.out 6
     have hcz68_7 := cI BK214.out 7
     have hfz68_0 := bF BK214.out 0
     have hfz68_1 := bF BK214.out 1
     have hfz68_2 := bF BK214.out 2
     have hfz68_3 := bF BK214.out 3
     have hfz68_4 := bF BK214.out 4
     have hfz68_5 := bF BK214.out 5
     have hfz68_6 := bF BK214.out 6
     have hfz68_7 := bF BK214.out 7
     go_wp2
     (try (go_big_region; try go_wp2))
     refine bodyPost_ret (results_ctt rfl _ _ gb214 82 #[.int .i64 t217, .int .i64 t220, .int .i64 x217002_4, .int .i64 x217003_4, .int .i64 x217004_4, .int .i64 x217005_4, .int .i64 x217006_4, .bool x217007_4] (0, 0) _ rfl (by (with_reducible repeat (first | refine blk_drewN ?_ _ | refine blk_drew ?_ | refine blk_alloc ?_ _)); refine blk_put (cs := #[.int .i64 t217, .int .i64 t220, .int .i64 x217002_4, .int .i64 x217003_4, .int .i64 x217004_4, .int .i64 x217005_4, .int .i64 x217006_4, .bool false]) ?_ 7 _ rfl; (with_reducible repeat (first | refine blk_drewN ?_ _ | refine blk_drew ?_ | refine blk_alloc ?_ _)); refine blk_put (cs := #[.int .i64 t217, .int .i64 t220, .int .i64 x217002_4, .int .i64 x217003_4, .int .i64 x217004_4, .int .i64 x217005_4, .int .i64 0, .bool false]) ?_ 6 _ rfl; (with_reducible repeat (first | refine blk_drewN ?_ _ | refine blk_drew ?_ | refine blk_alloc ?_ _)); refine blk_put (cs := #[.int .i64 t217, .int .i64 t220, .int .i64 x217002_4, .int .i64 x217003_4, .int .i64 x217004_4, .int .i64 0, .int .i64 0, .bool false]) ?_ 5 _ rfl; (with_reducible repeat (first | refine blk_drewN ?_ _ | refine blk_drew ?_ | refine blk_alloc ?_ _)); refine blk_put (cs := #[.int .i64 t217, .int .i64 t220, .int .i64 x217002_4, .int .i64 x217003_4, .int .i64 0, .int .i64 0, .int .i64 0, .bool false]) ?_ 4 _ rfl; (with_reducible repeat (first | refine blk_drewN ?_ _ | refine blk_drew ?_ | refine blk_alloc ?_ _)); refine blk_put (cs := #[.int .i64 t217, .int .i64 t220, .int .i64 x217002_4, .int .i64 0, .int .i64 0, .int .i64 0, .int .i64 0, .bool false]) ?_ 3 _ rfl; (with_reducible repeat (first | refine blk_drewN ?_ _ | refine blk_drew ?_ | refine blk_alloc ?_ _)); refine blk_put (cs := #[.int .i64 t217, .int .i64 t220, .int .i64 0, .int .i64 0, .int .i64 0, .int .i64 0, .int .i64 0, .bool false]) ?_ 2 _ rfl; (with_reducible repeat (first | refine blk_drewN ?_ _ | refine blk_drew ?_ | refine blk_alloc ?_ _)); refine blk_put (cs := #[.int .i64 t217, .int .i64 0, .int .i64 0, .int .i64 0, .int .i64 0, .int .i64 0, .int .i64 0, .bool false]) ?_ 1 _ rfl; (with_reducible repeat (first | refine blk_drewN ?_ _ | refine blk_drew ?_ | refine blk_alloc ?_ _)); refine blk_put (cs := #[.int .i64 0, .int .i64 0, .int .i64 0, .int .i64 0, .int .i64 0, .int .i64 0, .int .i64 0, .bool false]) ?_ 0 _ rfl; (with_reducible repeat (first | refine blk_drewN ?_ _ | refine blk_drew ?_ | refine blk_alloc ?_ _)); exact BK214.out) Try.underlying82 rfl (by kernel_rfl)) rfl ?_
     exact ⟨xW, bl HB.out⟩

end Go.Proofs.Ytjaldondohddpaa.PFnExactAllOf

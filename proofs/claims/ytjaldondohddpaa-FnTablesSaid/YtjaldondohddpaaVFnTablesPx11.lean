/- Of the proof of laws.FnTables: a part. No condition beyond what its theorems say. -/
import Derived.Test.YtjaldondohddpaaVFnTablesPx0
import Derived.Test.YtjaldondohddpaaVFnTablesPx2
import Derived.Test.YtjaldondohddpaaVFnTablesPx3
import Derived.Test.YtjaldondohddpaaVFnTablesPx4
import Derived.Test.YtjaldondohddpaaVFnTablesPx5
import Derived.Test.YtjaldondohddpaaVFnTablesPx6
import Derived.Test.YtjaldondohddpaaVFnTablesPx8
import Derived.Test.YtjaldondohddpaaVFnTablesPx9
import Derived.Test.YtjaldondohddpaaVFnTablesPx10
namespace Go.Proofs.Ytjaldondohddpaa.PFnTables
open Go.RowKit Go.Proofs.YtjaldondohddpaaW.PrintWords Go.Proofs.YtjaldondohddpaaW.PrintLast Go.Proofs.YtjaldondohddpaaW.PrintMore
attribute [local go_sem] max2_int min2_int max_two min_two max_three min_three max_four min_four   -- for this text's walks alone
set_option linter.unusedVariables false
set_option linter.unusedSimpArgs false

mutual
def laws_FnTables.j0 : Nat → List (S40) → Int → Int → Int → List (S40) → List (S40) → Int → List (S40) → Bool → Option (Bool)
 | 0, _, _, _, _, _, _, _, _, _ => none
 | k + 1, x3, x4, x5, x6, x7, x8, x11, x12, x112 => if x112 = true then (some false) else (laws_FnTables.l0 k x3 x4 x5 x6 x7 x8 x11 x12 0)
def laws_FnTables.l0 : Nat → List (S40) → Int → Int → Int → List (S40) → List (S40) → Int → List (S40) → Int → Option (Bool)
 | 0, _, _, _, _, _, _, _, _, _ => none
 | k + 1, x3, x4, x5, x6, x7, x8, x11, x12, x21 => if x21 < (x12.length : Int) then (if 0 ≤ x21 then (if ((rd_T40 x12 x21).f2) = x11 then (some false) else (laws_FnTables.l0 k x3 x4 x5 x6 x7 x8 x11 x12 (wrap64 (x21 + 1)))) else (none)) else ((impl_TableOk.f k x8).bind fun t459 => (if t459 = true then (laws_FnTables.l1 k x3 x4 x5 x6 x7 x8 0) else (laws_FnTables.j3 k x3 x4 x5 x6 x7)))
def laws_FnTables.j3 : Nat → List (S40) → Int → Int → Int → List (S40) → Option (Bool)
 | 0, _, _, _, _, _ => none
 | k + 1, x3, x4, x5, x6, x7 => (impl_TableOk.f k x3).bind fun t463 => (if t463 = true then ((laws_sameHeard.f k x7 x3).bind fun t464 => (laws_FnTables.j4 k x4 x5 x6 x7 t464)) else (laws_FnTables.j4 k x4 x5 x6 x7 true))
def laws_FnTables.j4 : Nat → Int → Int → Int → List (S40) → Bool → Option (Bool)
 | 0, _, _, _, _, _ => none
 | k + 1, x4, x5, x6, x7, x144 => if x144 = true then (some true) else ((impl_Where.f k x7 x4 x5).bind fun bt465 => ((impl_TableOk.f k x7).bind fun t467 => (if t467 = true then (if bt465.2 = true then (some (bt465.1 == x6)) else (some false)) else (some false))))
def laws_FnTables.l1 : Nat → List (S40) → Int → Int → Int → List (S40) → List (S40) → Int → Option (Bool)
 | 0, _, _, _, _, _, _, _ => none
 | k + 1, x3, x4, x5, x6, x7, x8, x22 => if x22 < 20 then ((impl_Age.f k x8).bind fun t460 => (laws_FnTables.l1 k x3 x4 x5 x6 x7 t460 (wrap64 (x22 + 1)))) else (if (x8.length : Int) = 0 then (laws_FnTables.j3 k x3 x4 x5 x6 x7) else (some false))
end
def laws_FnTables.f (k : Nat) (l0 : List Int) : Option (Bool) := (laws_big.f l0).bind fun t409 => (if t409 = true then (some true) else ((spec_DrawHear.f k l0).bind fun bt410 => ((impl_Hear.f k bt410.1 bt410.2.1 bt410.2.2.1 bt410.2.2.2).bind fun t416 => ((spec_DrawAge.f k l0).bind fun t419 => ((impl_Age.f k t419).bind fun t422 => ((spec_DrawForget.f k l0).bind fun bt425 => ((impl_Forget.f k bt425.1 bt425.2).bind fun t429 => ((spec_DrawWhere.f k l0).bind fun bt432 => ((impl_Where.f k bt432.1 bt432.2.1 bt432.2.2).bind fun bt437 => ((spec_Where.f k bt432.1 bt432.2.1 bt432.2.2).bind fun bt439 => ((spec_DrawTableOk.f k l0).bind fun t441 => ((spec_Hear.f k bt410.1 bt410.2.1 bt410.2.2.1 bt410.2.2.2).bind fun t444 => ((laws_sameHeard.f k t416 t444).bind fun t447 => (if t447 = true then ((spec_Age.f k t419).bind fun t448 => ((laws_sameHeard.f k t422 t448).bind fun t451 => (if t451 = true then ((spec_Forget.f k bt425.1 bt425.2).bind fun t452 => ((laws_sameHeard.f k t429 t452).bind fun t455 => (if t455 = true then (if bt437.1 = bt439.1 then (if (bt437.2 != bt439.2) = true then (laws_FnTables.j0 k bt410.1 bt410.2.1 bt410.2.2.1 bt410.2.2.2 t416 t419 bt425.2 t429 true) else ((impl_TableOk.f k t441).bind fun t456 => ((spec_TableOk.f k t441).bind fun t457 => (laws_FnTables.j0 k bt410.1 bt410.2.1 bt410.2.2.1 bt410.2.2.2 t416 t419 bt425.2 t429 (t456 != t457))))) else (laws_FnTables.j0 k bt410.1 bt410.2.1 bt410.2.2.1 bt410.2.2.2 t416 t419 bt425.2 t429 true)) else (laws_FnTables.j0 k bt410.1 bt410.2.1 bt410.2.2.1 bt410.2.2.2 t416 t419 bt425.2 t429 true)))) else (laws_FnTables.j0 k bt410.1 bt410.2.1 bt410.2.2.1 bt410.2.2.2 t416 t419 bt425.2 t429 true)))) else (laws_FnTables.j0 k bt410.1 bt410.2.1 bt410.2.2.1 bt410.2.2.2 t416 t419 bt425.2 t429 true)))))))))))))))
theorem laws_FnTables.mono_l : ∀ k, (∀ y0 y1 y2 y3 y4 y5 y6 y7 y8, LeO (laws_FnTables.j0 k y0 y1 y2 y3 y4 y5 y6 y7 y8) (laws_FnTables.j0 (k + 1) y0 y1 y2 y3 y4 y5 y6 y7 y8)) ∧ (∀ y0 y1 y2 y3 y4 y5 y6 y7 y8, LeO (laws_FnTables.l0 k y0 y1 y2 y3 y4 y5 y6 y7 y8) (laws_FnTables.l0 (k + 1) y0 y1 y2 y3 y4 y5 y6 y7 y8)) ∧ (∀ y0 y1 y2 y3 y4, LeO (laws_FnTables.j3 k y0 y1 y2 y3 y4) (laws_FnTables.j3 (k + 1) y0 y1 y2 y3 y4)) ∧ (∀ y0 y1 y2 y3 y4, LeO (laws_FnTables.j4 k y0 y1 y2 y3 y4) (laws_FnTables.j4 (k + 1) y0 y1 y2 y3 y4)) ∧ (∀ y0 y1 y2 y3 y4 y5 y6, LeO (laws_FnTables.l1 k y0 y1 y2 y3 y4 y5 y6) (laws_FnTables.l1 (k + 1) y0 y1 y2 y3 y4 y5 y6))
 | 0 => ⟨fun _ _ _ _ _ _ _ _ _ r h => by simp [laws_FnTables.j0] at h, fun _ _ _ _ _ _ _ _ _ r h => by simp [laws_FnTables.l0] at h, fun _ _ _ _ _ r h => by simp [laws_FnTables.j3] at h, fun _ _ _ _ _ r h => by simp [laws_FnTables.j4] at h, fun _ _ _ _ _ _ _ r h => by simp [laws_FnTables.l1] at h⟩
 | k + 1 => by
  obtain ⟨ih0, ih1, ih2, ih3, ih4⟩ := laws_FnTables.mono_l k
  refine ⟨?_, ?_, ?_, ?_, ?_⟩
  ·intro y0 y1 y2 y3 y4 y5 y6 y7 y8
   unfold laws_FnTables.j0
   repeat' first
   | (with_reducible exact ih0 _ _ _ _ _ _ _ _ _)
   | (with_reducible exact ih1 _ _ _ _ _ _ _ _ _)
   | (with_reducible exact ih2 _ _ _ _ _)
   | (with_reducible exact ih3 _ _ _ _ _)
   | (with_reducible exact ih4 _ _ _ _ _ _ _)
   | (with_reducible exact impl_Age.mono _ _)
   | (with_reducible exact impl_Forget.mono _ _ _)
   | (with_reducible exact impl_Hear.mono _ _ _ _ _)
   | (with_reducible exact impl_TableOk.mono _ _)
   | (with_reducible exact impl_Where.mono _ _ _ _)
   | (with_reducible exact laws_sameHeard.mono _ _ _)
   | (with_reducible exact spec_Age.mono _ _)
   | (with_reducible exact spec_DrawAge.mono _ _)
   | (with_reducible exact spec_DrawForget.mono _ _)
   | (with_reducible exact spec_DrawHear.mono _ _)
   | (with_reducible exact spec_DrawTableOk.mono _ _)
   | (with_reducible exact spec_DrawWhere.mono _ _)
   | (with_reducible exact spec_Forget.mono _ _ _)
   | (with_reducible exact spec_Hear.mono _ _ _ _ _)
   | (with_reducible exact spec_TableOk.mono _ _)
   | (with_reducible exact spec_Where.mono _ _ _ _)
   | (with_reducible exact LeO.refl _)
   | (with_reducible exact LeO.none _)
   | (with_reducible refine LeO.ite ?_ ?_)
   | (with_reducible refine LeO.bind ?_ (fun _ => ?_))
   | exact ih0 _ _ _ _ _ _ _ _ _
   | exact ih1 _ _ _ _ _ _ _ _ _
   | exact ih2 _ _ _ _ _
   | exact ih3 _ _ _ _ _
   | exact ih4 _ _ _ _ _ _ _
   | exact impl_Age.mono _ _
   | exact impl_Forget.mono _ _ _
   | exact impl_Hear.mono _ _ _ _ _
   | exact impl_TableOk.mono _ _
   | exact impl_Where.mono _ _ _ _
   | exact laws_sameHeard.mono _ _ _
   | exact spec_Age.mono _ _
   | exact spec_DrawAge.mono _ _
   | exact spec_DrawForget.mono _ _
   | exact spec_DrawHear.mono _ _
   | exact spec_DrawTableOk.mono _ _
   | exact spec_DrawWhere.mono _ _
   | exact spec_Forget.mono _ _ _
   | exact spec_Hear.mono _ _ _ _ _
   | exact spec_TableOk.mono _ _
   | exact spec_Where.mono _ _ _ _
   | exact LeO.none _
   | refine LeO.ite ?_ ?_
   | refine LeO.bind ?_ (fun _ => ?_)
  ·intro y0 y1 y2 y3 y4 y5 y6 y7 y8
   unfold laws_FnTables.l0
   repeat' first
   | (with_reducible exact ih0 _ _ _ _ _ _ _ _ _)
   | (with_reducible exact ih1 _ _ _ _ _ _ _ _ _)
   | (with_reducible exact ih2 _ _ _ _ _)
   | (with_reducible exact ih3 _ _ _ _ _)
   | (with_reducible exact ih4 _ _ _ _ _ _ _)
   | (with_reducible exact impl_Age.mono _ _)
   | (with_reducible exact impl_Forget.mono _ _ _)
   | (with_reducible exact impl_Hear.mono _ _ _ _ _)
   | (with_reducible exact impl_TableOk.mono _ _)
   | (with_reducible exact impl_Where.mono _ _ _ _)
   | (with_reducible exact laws_sameHeard.mono _ _ _)
   | (with_reducible exact spec_Age.mono _ _)
   | (with_reducible exact spec_DrawAge.mono _ _)
   | (with_reducible exact spec_DrawForget.mono _ _)
   | (with_reducible exact spec_DrawHear.mono _ _)
   | (with_reducible exact spec_DrawTableOk.mono _ _)
   | (with_reducible exact spec_DrawWhere.mono _ _)
   | (with_reducible exact spec_Forget.mono _ _ _)
   | (with_reducible exact spec_Hear.mono _ _ _ _ _)
   | (with_reducible exact spec_TableOk.mono _ _)
   | (with_reducible exact spec_Where.mono _ _ _ _)
   | (with_reducible exact LeO.refl _)
   | (with_reducible exact LeO.none _)
   | (with_reducible refine LeO.ite ?_ ?_)
   | (with_reducible refine LeO.bind ?_ (fun _ => ?_))
   | exact ih0 _ _ _ _ _ _ _ _ _
   | exact ih1 _ _ _ _ _ _ _ _ _
   | exact ih2 _ _ _ _ _
   | exact ih3 _ _ _ _ _
   | exact ih4 _ _ _ _ _ _ _
   | exact impl_Age.mono _ _
   | exact impl_Forget.mono _ _ _
   | exact impl_Hear.mono _ _ _ _ _
   | exact impl_TableOk.mono _ _
   | exact impl_Where.mono _ _ _ _
   | exact laws_sameHeard.mono _ _ _
   | exact spec_Age.mono _ _
   | exact spec_DrawAge.mono _ _
   | exact spec_DrawForget.mono _ _
   | exact spec_DrawHear.mono _ _
   | exact spec_DrawTableOk.mono _ _
   | exact spec_DrawWhere.mono _ _
   | exact spec_Forget.mono _ _ _
   | exact spec_Hear.mono _ _ _ _ _
   | exact spec_TableOk.mono _ _
   | exact spec_Where.mono _ _ _ _
   | exact LeO.none _
   | refine LeO.ite ?_ ?_
   | refine LeO.bind ?_ (fun _ => ?_)
  ·intro y0 y1 y2 y3 y4
   unfold laws_FnTables.j3
   repeat' first
   | (with_reducible exact ih0 _ _ _ _ _ _ _ _ _)
   | (with_reducible exact ih1 _ _ _ _ _ _ _ _ _)
   | (with_reducible exact ih2 _ _ _ _ _)
   | (with_reducible exact ih3 _ _ _ _ _)
   | (with_reducible exact ih4 _ _ _ _ _ _ _)
   | (with_reducible exact impl_Age.mono _ _)
   | (with_reducible exact impl_Forget.mono _ _ _)
   | (with_reducible exact impl_Hear.mono _ _ _ _ _)
   | (with_reducible exact impl_TableOk.mono _ _)
   | (with_reducible exact impl_Where.mono _ _ _ _)
   | (with_reducible exact laws_sameHeard.mono _ _ _)
   | (with_reducible exact spec_Age.mono _ _)
   | (with_reducible exact spec_DrawAge.mono _ _)
   | (with_reducible exact spec_DrawForget.mono _ _)
   | (with_reducible exact spec_DrawHear.mono _ _)
   | (with_reducible exact spec_DrawTableOk.mono _ _)
   | (with_reducible exact spec_DrawWhere.mono _ _)
   | (with_reducible exact spec_Forget.mono _ _ _)
   | (with_reducible exact spec_Hear.mono _ _ _ _ _)
   | (with_reducible exact spec_TableOk.mono _ _)
   | (with_reducible exact spec_Where.mono _ _ _ _)
   | (with_reducible exact LeO.refl _)
   | (with_reducible exact LeO.none _)
   | (with_reducible refine LeO.ite ?_ ?_)
   | (with_reducible refine LeO.bind ?_ (fun _ => ?_))
   | exact ih0 _ _ _ _ _ _ _ _ _
   | exact ih1 _ _ _ _ _ _ _ _ _
   | exact ih2 _ _ _ _ _
   | exact ih3 _ _ _ _ _
   | exact ih4 _ _ _ _ _ _ _
   | exact impl_Age.mono _ _
   | exact impl_Forget.mono _ _ _
   | exact impl_Hear.mono _ _ _ _ _
   | exact impl_TableOk.mono _ _
   | exact impl_Where.mono _ _ _ _
   | exact laws_sameHeard.mono _ _ _
   | exact spec_Age.mono _ _
   | exact spec_DrawAge.mono _ _
   | exact spec_DrawForget.mono _ _
   | exact spec_DrawHear.mono _ _
   | exact spec_DrawTableOk.mono _ _
   | exact spec_DrawWhere.mono _ _
   | exact spec_Forget.mono _ _ _
   | exact spec_Hear.mono _ _ _ _ _
   | exact spec_TableOk.mono _ _
   | exact spec_Where.mono _ _ _ _
   | exact LeO.none _
   | refine LeO.ite ?_ ?_
   | refine LeO.bind ?_ (fun _ => ?_)
  ·intro y0 y1 y2 y3 y4
   unfold laws_FnTables.j4
   repeat' first
   | (with_reducible exact ih0 _ _ _ _ _ _ _ _ _)
   | (with_reducible exact ih1 _ _ _ _ _ _ _ _ _)
   | (with_reducible exact ih2 _ _ _ _ _)
   | (with_reducible exact ih3 _ _ _ _ _)
   | (with_reducible exact ih4 _ _ _ _ _ _ _)
   | (with_reducible exact impl_Age.mono _ _)
   | (with_reducible exact impl_Forget.mono _ _ _)
   | (with_reducible exact impl_Hear.mono _ _ _ _ _)
   | (with_reducible exact impl_TableOk.mono _ _)
   | (with_reducible exact impl_Where.mono _ _ _ _)
   | (with_reducible exact laws_sameHeard.mono _ _ _)
   | (with_reducible exact spec_Age.mono _ _)
   | (with_reducible exact spec_DrawAge.mono _ _)
   | (with_reducible exact spec_DrawForget.mono _ _)
   | (with_reducible exact spec_DrawHear.mono _ _)
   | (with_reducible exact spec_DrawTableOk.mono _ _)
   | (with_reducible exact spec_DrawWhere.mono _ _)
   | (with_reducible exact spec_Forget.mono _ _ _)
   | (with_reducible exact spec_Hear.mono _ _ _ _ _)
   | (with_reducible exact spec_TableOk.mono _ _)
   | (with_reducible exact spec_Where.mono _ _ _ _)
   | (with_reducible exact LeO.refl _)
   | (with_reducible exact LeO.none _)
   | (with_reducible refine LeO.ite ?_ ?_)
   | (with_reducible refine LeO.bind ?_ (fun _ => ?_))
   | exact ih0 _ _ _ _ _ _ _ _ _
   | exact ih1 _ _ _ _ _ _ _ _ _
   | exact ih2 _ _ _ _ _
   | exact ih3 _ _ _ _ _
   | exact ih4 _ _ _ _ _ _ _
   | exact impl_Age.mono _ _
   | exact impl_Forget.mono _ _ _
   | exact impl_Hear.mono _ _ _ _ _
   | exact impl_TableOk.mono _ _
   | exact impl_Where.mono _ _ _ _
   | exact laws_sameHeard.mono _ _ _
   | exact spec_Age.mono _ _
   | exact spec_DrawAge.mono _ _
   | exact spec_DrawForget.mono _ _
   | exact spec_DrawHear.mono _ _
   | exact spec_DrawTableOk.mono _ _
   | exact spec_DrawWhere.mono _ _
   | exact spec_Forget.mono _ _ _
   | exact spec_Hear.mono _ _ _ _ _
   | exact spec_TableOk.mono _ _
   | exact spec_Where.mono _ _ _ _
   | exact LeO.none _
   | refine LeO.ite ?_ ?_
   | refine LeO.bind ?_ (fun _ => ?_)
  ·intro y0 y1 y2 y3 y4 y5 y6
   unfold laws_FnTables.l1
   repeat' first
   | (with_reducible exact ih0 _ _ _ _ _ _ _ _ _)
   | (with_reducible exact ih1 _ _ _ _ _ _ _ _ _)
   | (with_reducible exact ih2 _ _ _ _ _)
   | (with_reducible exact ih3 _ _ _ _ _)
   | (with_reducible exact ih4 _ _ _ _ _ _ _)
   | (with_reducible exact impl_Age.mono _ _)
   | (with_reducible exact impl_Forget.mono _ _ _)
   | (with_reducible exact impl_Hear.mono _ _ _ _ _)
   | (with_reducible exact impl_TableOk.mono _ _)
   | (with_reducible exact impl_Where.mono _ _ _ _)
   | (with_reducible exact laws_sameHeard.mono _ _ _)
   | (with_reducible exact spec_Age.mono _ _)
   | (with_reducible exact spec_DrawAge.mono _ _)
   | (with_reducible exact spec_DrawForget.mono _ _)
   | (with_reducible exact spec_DrawHear.mono _ _)
   | (with_reducible exact spec_DrawTableOk.mono _ _)
   | (with_reducible exact spec_DrawWhere.mono _ _)
   | (with_reducible exact spec_Forget.mono _ _ _)
   | (with_reducible exact spec_Hear.mono _ _ _ _ _)
   | (with_reducible exact spec_TableOk.mono _ _)
   | (with_reducible exact spec_Where.mono _ _ _ _)
   | (with_reducible exact LeO.refl _)
   | (with_reducible exact LeO.none _)
   | (with_reducible refine LeO.ite ?_ ?_)
   | (with_reducible refine LeO.bind ?_ (fun _ => ?_))
   | exact ih0 _ _ _ _ _ _ _ _ _
   | exact ih1 _ _ _ _ _ _ _ _ _
   | exact ih2 _ _ _ _ _
   | exact ih3 _ _ _ _ _
   | exact ih4 _ _ _ _ _ _ _
   | exact impl_Age.mono _ _
   | exact impl_Forget.mono _ _ _
   | exact impl_Hear.mono _ _ _ _ _
   | exact impl_TableOk.mono _ _
   | exact impl_Where.mono _ _ _ _
   | exact laws_sameHeard.mono _ _ _
   | exact spec_Age.mono _ _
   | exact spec_DrawAge.mono _ _
   | exact spec_DrawForget.mono _ _
   | exact spec_DrawHear.mono _ _
   | exact spec_DrawTableOk.mono _ _
   | exact spec_DrawWhere.mono _ _
   | exact spec_Forget.mono _ _ _
   | exact spec_Hear.mono _ _ _ _ _
   | exact spec_TableOk.mono _ _
   | exact spec_Where.mono _ _ _ _
   | exact LeO.none _
   | refine LeO.ite ?_ ?_
   | refine LeO.bind ?_ (fun _ => ?_)
theorem laws_FnTables.mono : ∀ a0 k, LeO (laws_FnTables.f k a0) (laws_FnTables.f (k + 1) a0) := by
 intro a0 k
 obtain ⟨ih0, ih1, ih2, ih3, ih4⟩ := laws_FnTables.mono_l k
 unfold laws_FnTables.f
 repeat' first
   | (with_reducible exact ih0 _ _ _ _ _ _ _ _ _)
   | (with_reducible exact ih1 _ _ _ _ _ _ _ _ _)
   | (with_reducible exact ih2 _ _ _ _ _)
   | (with_reducible exact ih3 _ _ _ _ _)
   | (with_reducible exact ih4 _ _ _ _ _ _ _)
   | (with_reducible exact impl_Age.mono _ _)
   | (with_reducible exact impl_Forget.mono _ _ _)
   | (with_reducible exact impl_Hear.mono _ _ _ _ _)
   | (with_reducible exact impl_TableOk.mono _ _)
   | (with_reducible exact impl_Where.mono _ _ _ _)
   | (with_reducible exact laws_sameHeard.mono _ _ _)
   | (with_reducible exact spec_Age.mono _ _)
   | (with_reducible exact spec_DrawAge.mono _ _)
   | (with_reducible exact spec_DrawForget.mono _ _)
   | (with_reducible exact spec_DrawHear.mono _ _)
   | (with_reducible exact spec_DrawTableOk.mono _ _)
   | (with_reducible exact spec_DrawWhere.mono _ _)
   | (with_reducible exact spec_Forget.mono _ _ _)
   | (with_reducible exact spec_Hear.mono _ _ _ _ _)
   | (with_reducible exact spec_TableOk.mono _ _)
   | (with_reducible exact spec_Where.mono _ _ _ _)
   | (with_reducible exact LeO.refl _)
   | (with_reducible exact LeO.none _)
   | (with_reducible refine LeO.ite ?_ ?_)
   | (with_reducible refine LeO.bind ?_ (fun _ => ?_))
   | exact ih0 _ _ _ _ _ _ _ _ _
   | exact ih1 _ _ _ _ _ _ _ _ _
   | exact ih2 _ _ _ _ _
   | exact ih3 _ _ _ _ _
   | exact ih4 _ _ _ _ _ _ _
   | exact impl_Age.mono _ _
   | exact impl_Forget.mono _ _ _
   | exact impl_Hear.mono _ _ _ _ _
   | exact impl_TableOk.mono _ _
   | exact impl_Where.mono _ _ _ _
   | exact laws_sameHeard.mono _ _ _
   | exact spec_Age.mono _ _
   | exact spec_DrawAge.mono _ _
   | exact spec_DrawForget.mono _ _
   | exact spec_DrawHear.mono _ _
   | exact spec_DrawTableOk.mono _ _
   | exact spec_DrawWhere.mono _ _
   | exact spec_Forget.mono _ _ _
   | exact spec_Hear.mono _ _ _ _ _
   | exact spec_TableOk.mono _ _
   | exact spec_Where.mono _ _ _ _
   | exact LeO.none _
   | refine LeO.ite ?_ ?_
   | refine LeO.bind ?_ (fun _ => ?_)
set_option maxHeartbeats 60000000 in
set_option maxRecDepth 100000 in
theorem laws_FnTables.calls (k : Nat) (A0 : Option Addr) (c0 : Nat) (l0 : List Int) (r : Bool) (w : World) (hr0 : Kd.C (Kd.int .u8) w A0 l0.length l0) (hc0 : l0.length ≤ c0) (h : laws_FnTables.f k l0 = some r) :
  Calls Try.prog 3 #[.slice A0 l0.length c0] w fun e w' => e = .returned (.bool r) ∧ Below w.heap.size w w' := by
 have HR0 := aM hr0
 have HC0 := aM hc0
 clear hr0 hc0
 have HB := aM (Below.refl w.heap.size w)
 have H : ((laws_big.f l0).bind fun t409 => (if t409 = true then (some true) else ((spec_DrawHear.f k l0).bind fun bt410 => ((impl_Hear.f k bt410.1 bt410.2.1 bt410.2.2.1 bt410.2.2.2).bind fun t416 => ((spec_DrawAge.f k l0).bind fun t419 => ((impl_Age.f k t419).bind fun t422 => ((spec_DrawForget.f k l0).bind fun bt425 => ((impl_Forget.f k bt425.1 bt425.2).bind fun t429 => ((spec_DrawWhere.f k l0).bind fun bt432 => ((impl_Where.f k bt432.1 bt432.2.1 bt432.2.2).bind fun bt437 => ((spec_Where.f k bt432.1 bt432.2.1 bt432.2.2).bind fun bt439 => ((spec_DrawTableOk.f k l0).bind fun t441 => ((spec_Hear.f k bt410.1 bt410.2.1 bt410.2.2.1 bt410.2.2.2).bind fun t444 => ((laws_sameHeard.f k t416 t444).bind fun t447 => (if t447 = true then ((spec_Age.f k t419).bind fun t448 => ((laws_sameHeard.f k t422 t448).bind fun t451 => (if t451 = true then ((spec_Forget.f k bt425.1 bt425.2).bind fun t452 => ((laws_sameHeard.f k t429 t452).bind fun t455 => (if t455 = true then (if bt437.1 = bt439.1 then (if (bt437.2 != bt439.2) = true then (laws_FnTables.j0 k bt410.1 bt410.2.1 bt410.2.2.1 bt410.2.2.2 t416 t419 bt425.2 t429 true) else ((impl_TableOk.f k t441).bind fun t456 => ((spec_TableOk.f k t441).bind fun t457 => (laws_FnTables.j0 k bt410.1 bt410.2.1 bt410.2.2.1 bt410.2.2.2 t416 t419 bt425.2 t429 (t456 != t457))))) else (laws_FnTables.j0 k bt410.1 bt410.2.1 bt410.2.2.1 bt410.2.2.2 t416 t419 bt425.2 t429 true)) else (laws_FnTables.j0 k bt410.1 bt410.2.1 bt410.2.2.1 bt410.2.2.2 t416 t419 bt425.2 t429 true)))) else (laws_FnTables.j0 k bt410.1 bt410.2.1 bt410.2.2.1 bt410.2.2.2 t416 t419 bt425.2 t429 true)))) else (laws_FnTables.j0 k bt410.1 bt410.2.1 bt410.2.2.1 bt410.2.2.2 t416 t419 bt425.2 t429 true)))))))))))))))) = some r := h
 clear h
 replace H := Option.bind_eq_some_iff.mp H
 obtain ⟨t409, A20, H⟩ := H
 replace H : (if t409 = true then (some true) else ((spec_DrawHear.f k l0).bind fun bt410 => ((impl_Hear.f k bt410.1 bt410.2.1 bt410.2.2.1 bt410.2.2.2).bind fun t416 => ((spec_DrawAge.f k l0).bind fun t419 => ((impl_Age.f k t419).bind fun t422 => ((spec_DrawForget.f k l0).bind fun bt425 => ((impl_Forget.f k bt425.1 bt425.2).bind fun t429 => ((spec_DrawWhere.f k l0).bind fun bt432 => ((impl_Where.f k bt432.1 bt432.2.1 bt432.2.2).bind fun bt437 => ((spec_Where.f k bt432.1 bt432.2.1 bt432.2.2).bind fun bt439 => ((spec_DrawTableOk.f k l0).bind fun t441 => ((spec_Hear.f k bt410.1 bt410.2.1 bt410.2.2.1 bt410.2.2.2).bind fun t444 => ((laws_sameHeard.f k t416 t444).bind fun t447 => (if t447 = true then ((spec_Age.f k t419).bind fun t448 => ((laws_sameHeard.f k t422 t448).bind fun t451 => (if t451 = true then ((spec_Forget.f k bt425.1 bt425.2).bind fun t452 => ((laws_sameHeard.f k t429 t452).bind fun t455 => (if t455 = true then (if bt437.1 = bt439.1 then (if (bt437.2 != bt439.2) = true then (laws_FnTables.j0 k bt410.1 bt410.2.1 bt410.2.2.1 bt410.2.2.2 t416 t419 bt425.2 t429 true) else ((impl_TableOk.f k t441).bind fun t456 => ((spec_TableOk.f k t441).bind fun t457 => (laws_FnTables.j0 k bt410.1 bt410.2.1 bt410.2.2.1 bt410.2.2.2 t416 t419 bt425.2 t429 (t456 != t457))))) else (laws_FnTables.j0 k bt410.1 bt410.2.1 bt410.2.2.1 bt410.2.2.2 t416 t419 bt425.2 t429 true)) else (laws_FnTables.j0 k bt410.1 bt410.2.1 bt410.2.2.1 bt410.2.2.2 t416 t419 bt425.2 t429 true)))) else (laws_FnTables.j0 k bt410.1 bt410.2.1 bt410.2.2.1 bt410.2.2.2 t416 t419 bt425.2 t429 true)))) else (laws_FnTables.j0 k bt410.1 bt410.2.1 bt410.2.2.1 bt410.2.2.2 t416 t419 bt425.2 t429 true))))))))))))))) = some r := H
 have A2 := aM A20
 clear A20
 by_cases c3 : t409 = true
 case pos =>
  subst c3
  have H1 : (some true) = some r := by rw [if_pos rfl] at H; exact H
  clear H
  have H := H1
  clear H1
  obtain rfl := Option.some.inj H
  go_enter Try.func3, Try.ntmps3
  go_wp2_with (first | ((with_reducible refine gate_callee (f := 11) rfl ?_); refine goesL_ (some 26) rfl rfl Try.func11 (by kernel_rfl) rfl #[.slice A0 l0.length c0] rfl xR ?_; (with_reducible refine (laws_big.calls _ _ l0 true _ ?side1 ?side2 A2.out).mono ?_); (case side1 => repeat (first | exact HR0.out | (with_reducible refine Kd.C_alloc ?_ _) | (with_reducible refine Kd.C_drewN ?_ _) | (with_reducible refine Kd.C_drew ?_))); (case side2 => exact HC0.out); rintro e w' ⟨rfl, ⟨nd, rfl⟩⟩; refine ⟨_, rfl, ?_⟩))
  go_ret
  exact ⟨xW, bl HB.out⟩
 replace c3 := Bool.eq_false_iff.mpr c3
 subst c3
 have H1 : ((spec_DrawHear.f k l0).bind fun bt410 => ((impl_Hear.f k bt410.1 bt410.2.1 bt410.2.2.1 bt410.2.2.2).bind fun t416 => ((spec_DrawAge.f k l0).bind fun t419 => ((impl_Age.f k t419).bind fun t422 => ((spec_DrawForget.f k l0).bind fun bt425 => ((impl_Forget.f k bt425.1 bt425.2).bind fun t429 => ((spec_DrawWhere.f k l0).bind fun bt432 => ((impl_Where.f k bt432.1 bt432.2.1 bt432.2.2).bind fun bt437 => ((spec_Where.f k bt432.1 bt432.2.1 bt432.2.2).bind fun bt439 => ((spec_DrawTableOk.f k l0).bind fun t441 => ((spec_Hear.f k bt410.1 bt410.2.1 bt410.2.2.1 bt410.2.2.2).bind fun t444 => ((laws_sameHeard.f k t416 t444).bind fun t447 => (if t447 = true then ((spec_Age.f k t419).bind fun t448 => ((laws_sameHeard.f k t422 t448).bind fun t451 => (if t451 = true then ((spec_Forget.f k bt425.1 bt425.2).bind fun t452 => ((laws_sameHeard.f k t429 t452).bind fun t455 => (if t455 = true then (if bt437.1 = bt439.1 then (if (bt437.2 != bt439.2) = true then (laws_FnTables.j0 k bt410.1 bt410.2.1 bt410.2.2.1 bt410.2.2.2 t416 t419 bt425.2 t429 true) else ((impl_TableOk.f k t441).bind fun t456 => ((spec_TableOk.f k t441).bind fun t457 => (laws_FnTables.j0 k bt410.1 bt410.2.1 bt410.2.2.1 bt410.2.2.2 t416 t419 bt425.2 t429 (t456 != t457))))) else (laws_FnTables.j0 k bt410.1 bt410.2.1 bt410.2.2.1 bt410.2.2.2 t416 t419 bt425.2 t429 true)) else (laws_FnTables.j0 k bt410.1 bt410.2.1 bt410.2.2.1 bt410.2.2.2 t416 t419 bt425.2 t429 true)))) else (laws_FnTables.j0 k bt410.1 bt410.2.1 bt410.2.2.1 bt410.2.2.2 t416 t419 bt425.2 t429 true)))) else (laws_FnTables.j0 k bt410.1 bt410.2.1 bt410.2.2.1 bt410.2.2.2 t416 t419 bt425.2 t429 true)))))))))))))) = some r := by rw [if_neg (show ¬ (false = true) by decide)] at H; exact H
 clear H
 have H := H1
 clear H1
 replace H := Option.bind_eq_some_iff.mp H
 obtain ⟨⟨t410, t411, t412, t413⟩, A40, H⟩ := H
 replace H : ((impl_Hear.f k t410 t411 t412 t413).bind fun t416 => ((spec_DrawAge.f k l0).bind fun t419 => ((impl_Age.f k t419).bind fun t422 => ((spec_DrawForget.f k l0).bind fun bt425 => ((impl_Forget.f k bt425.1 bt425.2).bind fun t429 => ((spec_DrawWhere.f k l0).bind fun bt432 => ((impl_Where.f k bt432.1 bt432.2.1 bt432.2.2).bind fun bt437 => ((spec_Where.f k bt432.1 bt432.2.1 bt432.2.2).bind fun bt439 => ((spec_DrawTableOk.f k l0).bind fun t441 => ((spec_Hear.f k t410 t411 t412 t413).bind fun t444 => ((laws_sameHeard.f k t416 t444).bind fun t447 => (if t447 = true then ((spec_Age.f k t419).bind fun t448 => ((laws_sameHeard.f k t422 t448).bind fun t451 => (if t451 = true then ((spec_Forget.f k bt425.1 bt425.2).bind fun t452 => ((laws_sameHeard.f k t429 t452).bind fun t455 => (if t455 = true then (if bt437.1 = bt439.1 then (if (bt437.2 != bt439.2) = true then (laws_FnTables.j0 k t410 t411 t412 t413 t416 t419 bt425.2 t429 true) else ((impl_TableOk.f k t441).bind fun t456 => ((spec_TableOk.f k t441).bind fun t457 => (laws_FnTables.j0 k t410 t411 t412 t413 t416 t419 bt425.2 t429 (t456 != t457))))) else (laws_FnTables.j0 k t410 t411 t412 t413 t416 t419 bt425.2 t429 true)) else (laws_FnTables.j0 k t410 t411 t412 t413 t416 t419 bt425.2 t429 true)))) else (laws_FnTables.j0 k t410 t411 t412 t413 t416 t419 bt425.2 t429 true)))) else (laws_FnTables.j0 k t410 t411 t412 t413 t416 t419 bt425.2 t429 true))))))))))))) = some r := H
 have A4 := aM A40
 clear A40
 replace H := Option.bind_eq_some_iff.mp H
 obtain ⟨t416, A50, H⟩ := H
 replace H : ((spec_DrawAge.f k l0).bind fun t419 => ((impl_Age.f k t419).bind fun t422 => ((spec_DrawForget.f k l0).bind fun bt425 => ((impl_Forget.f k bt425.1 bt425.2).bind fun t429 => ((spec_DrawWhere.f k l0).bind fun bt432 => ((impl_Where.f k bt432.1 bt432.2.1 bt432.2.2).bind fun bt437 => ((spec_Where.f k bt432.1 bt432.2.1 bt432.2.2).bind fun bt439 => ((spec_DrawTableOk.f k l0).bind fun t441 => ((spec_Hear.f k t410 t411 t412 t413).bind fun t444 => ((laws_sameHeard.f k t416 t444).bind fun t447 => (if t447 = true then ((spec_Age.f k t419).bind fun t448 => ((laws_sameHeard.f k t422 t448).bind fun t451 => (if t451 = true then ((spec_Forget.f k bt425.1 bt425.2).bind fun t452 => ((laws_sameHeard.f k t429 t452).bind fun t455 => (if t455 = true then (if bt437.1 = bt439.1 then (if (bt437.2 != bt439.2) = true then (laws_FnTables.j0 k t410 t411 t412 t413 t416 t419 bt425.2 t429 true) else ((impl_TableOk.f k t441).bind fun t456 => ((spec_TableOk.f k t441).bind fun t457 => (laws_FnTables.j0 k t410 t411 t412 t413 t416 t419 bt425.2 t429 (t456 != t457))))) else (laws_FnTables.j0 k t410 t411 t412 t413 t416 t419 bt425.2 t429 true)) else (laws_FnTables.j0 k t410 t411 t412 t413 t416 t419 bt425.2 t429 true)))) else (laws_FnTables.j0 k t410 t411 t412 t413 t416 t419 bt425.2 t429 true)))) else (laws_FnTables.j0 k t410 t411 t412 t413 t416 t419 bt425.2 t429 true)))))))))))) = some r := H
 have A5 := aM A50
 clear A50
 replace H := Option.bind_eq_some_iff.mp H
 obtain ⟨t419, A60, H⟩ := H
 replace H : ((impl_Age.f k t419).bind fun t422 => ((spec_DrawForget.f k l0).bind fun bt425 => ((impl_Forget.f k bt425.1 bt425.2).bind fun t429 => ((spec_DrawWhere.f k l0).bind fun bt432 => ((impl_Where.f k bt432.1 bt432.2.1 bt432.2.2).bind fun bt437 => ((spec_Where.f k bt432.1 bt432.2.1 bt432.2.2).bind fun bt439 => ((spec_DrawTableOk.f k l0).bind fun t441 => ((spec_Hear.f k t410 t411 t412 t413).bind fun t444 => ((laws_sameHeard.f k t416 t444).bind fun t447 => (if t447 = true then ((spec_Age.f k t419).bind fun t448 => ((laws_sameHeard.f k t422 t448).bind fun t451 => (if t451 = true then ((spec_Forget.f k bt425.1 bt425.2).bind fun t452 => ((laws_sameHeard.f k t429 t452).bind fun t455 => (if t455 = true then (if bt437.1 = bt439.1 then (if (bt437.2 != bt439.2) = true then (laws_FnTables.j0 k t410 t411 t412 t413 t416 t419 bt425.2 t429 true) else ((impl_TableOk.f k t441).bind fun t456 => ((spec_TableOk.f k t441).bind fun t457 => (laws_FnTables.j0 k t410 t411 t412 t413 t416 t419 bt425.2 t429 (t456 != t457))))) else (laws_FnTables.j0 k t410 t411 t412 t413 t416 t419 bt425.2 t429 true)) else (laws_FnTables.j0 k t410 t411 t412 t413 t416 t419 bt425.2 t429 true)))) else (laws_FnTables.j0 k t410 t411 t412 t413 t416 t419 bt425.2 t429 true)))) else (laws_FnTables.j0 k t410 t411 t412 t413 t416 t419 bt425.2 t429 true))))))))))) = some r := H
 have A6 := aM A60
 clear A60
 replace H := Option.bind_eq_some_iff.mp H
 obtain ⟨t422, A70, H⟩ := H
 replace H : ((spec_DrawForget.f k l0).bind fun bt425 => ((impl_Forget.f k bt425.1 bt425.2).bind fun t429 => ((spec_DrawWhere.f k l0).bind fun bt432 => ((impl_Where.f k bt432.1 bt432.2.1 bt432.2.2).bind fun bt437 => ((spec_Where.f k bt432.1 bt432.2.1 bt432.2.2).bind fun bt439 => ((spec_DrawTableOk.f k l0).bind fun t441 => ((spec_Hear.f k t410 t411 t412 t413).bind fun t444 => ((laws_sameHeard.f k t416 t444).bind fun t447 => (if t447 = true then ((spec_Age.f k t419).bind fun t448 => ((laws_sameHeard.f k t422 t448).bind fun t451 => (if t451 = true then ((spec_Forget.f k bt425.1 bt425.2).bind fun t452 => ((laws_sameHeard.f k t429 t452).bind fun t455 => (if t455 = true then (if bt437.1 = bt439.1 then (if (bt437.2 != bt439.2) = true then (laws_FnTables.j0 k t410 t411 t412 t413 t416 t419 bt425.2 t429 true) else ((impl_TableOk.f k t441).bind fun t456 => ((spec_TableOk.f k t441).bind fun t457 => (laws_FnTables.j0 k t410 t411 t412 t413 t416 t419 bt425.2 t429 (t456 != t457))))) else (laws_FnTables.j0 k t410 t411 t412 t413 t416 t419 bt425.2 t429 true)) else (laws_FnTables.j0 k t410 t411 t412 t413 t416 t419 bt425.2 t429 true)))) else (laws_FnTables.j0 k t410 t411 t412 t413 t416 t419 bt425.2 t429 true)))) else (laws_FnTables.j0 k t410 t411 t412 t413 t416 t419 bt425.2 t429 true)))))))))) = some r := H
 have A7 := aM A70
 clear A70
 replace H := Option.bind_eq_some_iff.mp H
 obtain ⟨⟨t425, t426⟩, A80, H⟩ := H
 replace H : ((impl_Forget.f k t425 t426).bind fun t429 => ((spec_DrawWhere.f k l0).bind fun bt432 => ((impl_Where.f k bt432.1 bt432.2.1 bt432.2.2).bind fun bt437 => ((spec_Where.f k bt432.1 bt432.2.1 bt432.2.2).bind fun bt439 => ((spec_DrawTableOk.f k l0).bind fun t441 => ((spec_Hear.f k t410 t411 t412 t413).bind fun t444 => ((laws_sameHeard.f k t416 t444).bind fun t447 => (if t447 = true then ((spec_Age.f k t419).bind fun t448 => ((laws_sameHeard.f k t422 t448).bind fun t451 => (if t451 = true then ((spec_Forget.f k t425 t426).bind fun t452 => ((laws_sameHeard.f k t429 t452).bind fun t455 => (if t455 = true then (if bt437.1 = bt439.1 then (if (bt437.2 != bt439.2) = true then (laws_FnTables.j0 k t410 t411 t412 t413 t416 t419 t426 t429 true) else ((impl_TableOk.f k t441).bind fun t456 => ((spec_TableOk.f k t441).bind fun t457 => (laws_FnTables.j0 k t410 t411 t412 t413 t416 t419 t426 t429 (t456 != t457))))) else (laws_FnTables.j0 k t410 t411 t412 t413 t416 t419 t426 t429 true)) else (laws_FnTables.j0 k t410 t411 t412 t413 t416 t419 t426 t429 true)))) else (laws_FnTables.j0 k t410 t411 t412 t413 t416 t419 t426 t429 true)))) else (laws_FnTables.j0 k t410 t411 t412 t413 t416 t419 t426 t429 true))))))))) = some r := H
 have A8 := aM A80
 clear A80
 replace H := Option.bind_eq_some_iff.mp H
 obtain ⟨t429, A90, H⟩ := H
 replace H : ((spec_DrawWhere.f k l0).bind fun bt432 => ((impl_Where.f k bt432.1 bt432.2.1 bt432.2.2).bind fun bt437 => ((spec_Where.f k bt432.1 bt432.2.1 bt432.2.2).bind fun bt439 => ((spec_DrawTableOk.f k l0).bind fun t441 => ((spec_Hear.f k t410 t411 t412 t413).bind fun t444 => ((laws_sameHeard.f k t416 t444).bind fun t447 => (if t447 = true then ((spec_Age.f k t419).bind fun t448 => ((laws_sameHeard.f k t422 t448).bind fun t451 => (if t451 = true then ((spec_Forget.f k t425 t426).bind fun t452 => ((laws_sameHeard.f k t429 t452).bind fun t455 => (if t455 = true then (if bt437.1 = bt439.1 then (if (bt437.2 != bt439.2) = true then (laws_FnTables.j0 k t410 t411 t412 t413 t416 t419 t426 t429 true) else ((impl_TableOk.f k t441).bind fun t456 => ((spec_TableOk.f k t441).bind fun t457 => (laws_FnTables.j0 k t410 t411 t412 t413 t416 t419 t426 t429 (t456 != t457))))) else (laws_FnTables.j0 k t410 t411 t412 t413 t416 t419 t426 t429 true)) else (laws_FnTables.j0 k t410 t411 t412 t413 t416 t419 t426 t429 true)))) else (laws_FnTables.j0 k t410 t411 t412 t413 t416 t419 t426 t429 true)))) else (laws_FnTables.j0 k t410 t411 t412 t413 t416 t419 t426 t429 true)))))))) = some r := H
 have A9 := aM A90
 clear A90
 replace H := Option.bind_eq_some_iff.mp H
 obtain ⟨⟨t432, t433, t434⟩, A100, H⟩ := H
 replace H : ((impl_Where.f k t432 t433 t434).bind fun bt437 => ((spec_Where.f k t432 t433 t434).bind fun bt439 => ((spec_DrawTableOk.f k l0).bind fun t441 => ((spec_Hear.f k t410 t411 t412 t413).bind fun t444 => ((laws_sameHeard.f k t416 t444).bind fun t447 => (if t447 = true then ((spec_Age.f k t419).bind fun t448 => ((laws_sameHeard.f k t422 t448).bind fun t451 => (if t451 = true then ((spec_Forget.f k t425 t426).bind fun t452 => ((laws_sameHeard.f k t429 t452).bind fun t455 => (if t455 = true then (if bt437.1 = bt439.1 then (if (bt437.2 != bt439.2) = true then (laws_FnTables.j0 k t410 t411 t412 t413 t416 t419 t426 t429 true) else ((impl_TableOk.f k t441).bind fun t456 => ((spec_TableOk.f k t441).bind fun t457 => (laws_FnTables.j0 k t410 t411 t412 t413 t416 t419 t426 t429 (t456 != t457))))) else (laws_FnTables.j0 k t410 t411 t412 t413 t416 t419 t426 t429 true)) else (laws_FnTables.j0 k t410 t411 t412 t413 t416 t419 t426 t429 true)))) else (laws_FnTables.j0 k t410 t411 t412 t413 t416 t419 t426 t429 true)))) else (laws_FnTables.j0 k t410 t411 t412 t413 t416 t419 t426 t429 true))))))) = some r := H
 have A10 := aM A100
 clear A100
 replace H := Option.bind_eq_some_iff.mp H
 obtain ⟨⟨t437, t438⟩, A110, H⟩ := H
 replace H : ((spec_Where.f k t432 t433 t434).bind fun bt439 => ((spec_DrawTableOk.f k l0).bind fun t441 => ((spec_Hear.f k t410 t411 t412 t413).bind fun t444 => ((laws_sameHeard.f k t416 t444).bind fun t447 => (if t447 = true then ((spec_Age.f k t419).bind fun t448 => ((laws_sameHeard.f k t422 t448).bind fun t451 => (if t451 = true then ((spec_Forget.f k t425 t426).bind fun t452 => ((laws_sameHeard.f k t429 t452).bind fun t455 => (if t455 = true then (if t437 = bt439.1 then (if (t438 != bt439.2) = true then (laws_FnTables.j0 k t410 t411 t412 t413 t416 t419 t426 t429 true) else ((impl_TableOk.f k t441).bind fun t456 => ((spec_TableOk.f k t441).bind fun t457 => (laws_FnTables.j0 k t410 t411 t412 t413 t416 t419 t426 t429 (t456 != t457))))) else (laws_FnTables.j0 k t410 t411 t412 t413 t416 t419 t426 t429 true)) else (laws_FnTables.j0 k t410 t411 t412 t413 t416 t419 t426 t429 true)))) else (laws_FnTables.j0 k t410 t411 t412 t413 t416 t419 t426 t429 true)))) else (laws_FnTables.j0 k t410 t411 t412 t413 t416 t419 t426 t429 true)))))) = some r := H
 have A11 := aM A110
 clear A110
 replace H := Option.bind_eq_some_iff.mp H
 obtain ⟨⟨t439, t440⟩, A120, H⟩ := H
 replace H : ((spec_DrawTableOk.f k l0).bind fun t441 => ((spec_Hear.f k t410 t411 t412 t413).bind fun t444 => ((laws_sameHeard.f k t416 t444).bind fun t447 => (if t447 = true then ((spec_Age.f k t419).bind fun t448 => ((laws_sameHeard.f k t422 t448).bind fun t451 => (if t451 = true then ((spec_Forget.f k t425 t426).bind fun t452 => ((laws_sameHeard.f k t429 t452).bind fun t455 => (if t455 = true then (if t437 = t439 then (if (t438 != t440) = true then (laws_FnTables.j0 k t410 t411 t412 t413 t416 t419 t426 t429 true) else ((impl_TableOk.f k t441).bind fun t456 => ((spec_TableOk.f k t441).bind fun t457 => (laws_FnTables.j0 k t410 t411 t412 t413 t416 t419 t426 t429 (t456 != t457))))) else (laws_FnTables.j0 k t410 t411 t412 t413 t416 t419 t426 t429 true)) else (laws_FnTables.j0 k t410 t411 t412 t413 t416 t419 t426 t429 true)))) else (laws_FnTables.j0 k t410 t411 t412 t413 t416 t419 t426 t429 true)))) else (laws_FnTables.j0 k t410 t411 t412 t413 t416 t419 t426 t429 true))))) = some r := H
 have A12 := aM A120
 clear A120
 replace H := Option.bind_eq_some_iff.mp H
 obtain ⟨t441, A130, H⟩ := H
 replace H : ((spec_Hear.f k t410 t411 t412 t413).bind fun t444 => ((laws_sameHeard.f k t416 t444).bind fun t447 => (if t447 = true then ((spec_Age.f k t419).bind fun t448 => ((laws_sameHeard.f k t422 t448).bind fun t451 => (if t451 = true then ((spec_Forget.f k t425 t426).bind fun t452 => ((laws_sameHeard.f k t429 t452).bind fun t455 => (if t455 = true then (if t437 = t439 then (if (t438 != t440) = true then (laws_FnTables.j0 k t410 t411 t412 t413 t416 t419 t426 t429 true) else ((impl_TableOk.f k t441).bind fun t456 => ((spec_TableOk.f k t441).bind fun t457 => (laws_FnTables.j0 k t410 t411 t412 t413 t416 t419 t426 t429 (t456 != t457))))) else (laws_FnTables.j0 k t410 t411 t412 t413 t416 t419 t426 t429 true)) else (laws_FnTables.j0 k t410 t411 t412 t413 t416 t419 t426 t429 true)))) else (laws_FnTables.j0 k t410 t411 t412 t413 t416 t419 t426 t429 true)))) else (laws_FnTables.j0 k t410 t411 t412 t413 t416 t419 t426 t429 true)))) = some r := H
 have A13 := aM A130
 clear A130
 have HC14 := aM H
 clear H
 go_enter Try.func3, Try.ntmps3
 go_upto_region 13 with (first | ((with_reducible refine gate_callee (f := 11) rfl ?_); refine goesL_ (some 26) rfl rfl Try.func11 (by kernel_rfl) rfl #[.slice A0 l0.length c0] rfl xR ?_; (with_reducible refine (laws_big.calls _ _ l0 false _ ?side1 ?side2 A2.out).mono ?_); (case side1 => repeat (first | exact HR0.out | (with_reducible refine Kd.C_alloc ?_ _) | (with_reducible refine Kd.C_drewN ?_ _) | (with_reducible refine Kd.C_drew ?_))); (case side2 => exact HC0.out); rintro e w' ⟨rfl, ⟨nd, rfl⟩⟩; refine ⟨_, rfl, ?_⟩) | ((with_reducible refine gate_callee (f := 12) rfl ?_); refine goesL_ (some 29) rfl rfl Try.func12 (by kernel_rfl) rfl #[.slice A0 l0.length c0] rfl xR ?_; (with_reducible refine (spec_DrawHear.calls k _ _ l0 t410 t411 t412 t413 _ ?side1 ?side2 A4.out).mono ?_); (case side1 => repeat (first | exact HR0.out | (with_reducible refine Kd.C_alloc ?_ _) | (with_reducible refine Kd.C_drewN ?_ _) | (with_reducible refine Kd.C_drew ?_))); (case side2 => exact HC0.out); rintro e w15 ⟨v414, rfl, ho0, hb⟩; refine ⟨_, rfl, ?_⟩; have n0_ := aM (Kd.R_lower ho0 (below_size (bl HB.out))); have n1_ := aM (bS (bl HB.out) hb); clear HB; have HO415 := n0_; have HB := n1_; clear n0_ n1_; (try clear hb); (try clear ho0); obtain ⟨Ao16, co16, eo16⟩ := Kd.R_slice HO415.out; subst eo16) | ((with_reducible refine gate_callee (f := 13) rfl ?_); refine goesL_ (some 38) rfl rfl Try.func13 (by kernel_rfl) rfl #[.slice Ao16 t410.length co16, .int .i64 t411, .int .i64 t412, .int .i64 t413] rfl xR ?_; (with_reducible refine (impl_Hear.calls k _ _ t410 t411 t412 t413 t416 _ ?side1 ?side2 A5.out).mono ?_); (case side1 => repeat (first | exact (Kd.R_reads' HO415.out).2.2 | (with_reducible refine Kd.C_alloc ?_ _) | (with_reducible refine Kd.C_drewN ?_ _) | (with_reducible refine Kd.C_drew ?_))); (case side2 => exact (Kd.R_reads' HO415.out).2.1); rintro e w17 ⟨v417, rfl, ho0, hb⟩; refine ⟨_, rfl, ?_⟩; have n0_ := aM (Kd.R_elder' (kr HO415.out) (Kd.R_base ho0) hb); have n1_ := aM (Kd.R_lower (Kd.R_new' ho0 (Kd.R_lt (kr HO415.out))) (below_size (bl HB.out))); have n2_ := aM (bS (bl HB.out) hb); clear HO415 HB; have HO415 := n0_; have HO418 := n1_; have HB := n2_; clear n0_ n1_ n2_; (try clear hb); (try clear ho0)) | ((with_reducible refine gate_callee (f := 14) rfl ?_); refine goesL_ (some 40) rfl rfl Try.func14 (by kernel_rfl) rfl #[.slice A0 l0.length c0] rfl xR ?_; (with_reducible refine (spec_DrawAge.calls k _ _ l0 t419 _ ?side1 ?side2 A6.out).mono ?_); (case side1 => repeat (first | exact (cB HR0.out HB.out) | (with_reducible refine Kd.C_alloc ?_ _) | (with_reducible refine Kd.C_drewN ?_ _) | (with_reducible refine Kd.C_drew ?_))); (case side2 => exact HC0.out); rintro e w18 ⟨v420, rfl, ho0, hb⟩; refine ⟨_, rfl, ?_⟩; have n0_ := aM (Kd.R_elder' (kr HO415.out) (Kd.R_base ho0) hb); have n1_ := aM (Kd.R_elder' (kr HO418.out) (Kd.R_base ho0) hb); have n2_ := aM (Kd.R_lower (Kd.R_new' (Kd.R_new' ho0 (Kd.R_lt (kr HO415.out))) (Kd.R_lt (kr HO418.out))) (below_size (bl HB.out))); have n3_ := aM (bS (bl HB.out) hb); clear HO415 HO418 HB; have HO415 := n0_; have HO418 := n1_; have HO421 := n2_; have HB := n3_; clear n0_ n1_ n2_ n3_; (try clear hb); (try clear ho0); obtain ⟨Ao19, co19, eo19⟩ := Kd.R_slice HO421.out; subst eo19) | ((with_reducible refine gate_callee (f := 15) rfl ?_); refine goesL_ (some 42) rfl rfl Try.func15 (by kernel_rfl) rfl #[.slice Ao19 t419.length co19] rfl xR ?_; (with_reducible refine (impl_Age.calls k _ _ t419 t422 _ ?side1 ?side2 A7.out).mono ?_); (case side1 => repeat (first | exact (Kd.R_reads' HO421.out).2.2 | (with_reducible refine Kd.C_alloc ?_ _) | (with_reducible refine Kd.C_drewN ?_ _) | (with_reducible refine Kd.C_drew ?_))); (case side2 => exact (Kd.R_reads' HO421.out).2.1); rintro e w20 ⟨v423, rfl, ho0, hb⟩; refine ⟨_, rfl, ?_⟩; have n0_ := aM (Kd.R_elder' (kr HO415.out) (Kd.R_base ho0) hb); have n1_ := aM (Kd.R_elder' (kr HO418.out) (Kd.R_base ho0) hb); have n2_ := aM (Kd.R_elder' (kr HO421.out) (Kd.R_base ho0) hb); have n3_ := aM (Kd.R_lower (Kd.R_new' (Kd.R_new' (Kd.R_new' ho0 (Kd.R_lt (kr HO415.out))) (Kd.R_lt (kr HO418.out))) (Kd.R_lt (kr HO421.out))) (below_size (bl HB.out))); have n4_ := aM (bS (bl HB.out) hb); clear HO415 HO418; clear HO421 HB; have HO415 := n0_; have HO418 := n1_; have HO421 := n2_; have HO424 := n3_; have HB := n4_; clear n0_ n1_ n2_ n3_ n4_; (try clear hb); (try clear ho0)) | ((with_reducible refine gate_callee (f := 16) rfl ?_); refine goesL_ (some 45) rfl rfl Try.func16 (by kernel_rfl) rfl #[.slice A0 l0.length c0] rfl xR ?_; (with_reducible refine (spec_DrawForget.calls k _ _ l0 t425 t426 _ ?side1 ?side2 A8.out).mono ?_); (case side1 => repeat (first | exact (cB HR0.out HB.out) | (with_reducible refine Kd.C_alloc ?_ _) | (with_reducible refine Kd.C_drewN ?_ _) | (with_reducible refine Kd.C_drew ?_))); (case side2 => exact HC0.out); rintro e w21 ⟨v427, rfl, ho0, hb⟩; refine ⟨_, rfl, ?_⟩; have n0_ := aM (Kd.R_elder' (kr HO415.out) (Kd.R_base ho0) hb); have n1_ := aM (Kd.R_elder' (kr HO418.out) (Kd.R_base ho0) hb); have n2_ := aM (Kd.R_elder' (kr HO421.out) (Kd.R_base ho0) hb); have n3_ := aM (Kd.R_elder' (kr HO424.out) (Kd.R_base ho0) hb); have n4_ := aM (Kd.R_lower (Kd.R_new' (Kd.R_new' (Kd.R_new' (Kd.R_new' ho0 (Kd.R_lt (kr HO415.out))) (Kd.R_lt (kr HO418.out))) (Kd.R_lt (kr HO421.out))) (Kd.R_lt (kr HO424.out))) (below_size (bl HB.out))); have n5_ := aM (bS (bl HB.out) hb); clear HO415 HO418; clear HO421 HO424 HB; have HO415 := n0_; have HO418 := n1_; have HO421 := n2_; have HO424 := n3_; have HO428 := n4_; have HB := n5_; clear n0_ n1_ n2_ n3_ n4_ n5_; (try clear hb); (try clear ho0); obtain ⟨Ao22, co22, eo22⟩ := Kd.R_slice HO428.out; subst eo22) | ((with_reducible refine gate_callee (f := 17) rfl ?_); refine goesL_ (some 50) rfl rfl Try.func17 (by kernel_rfl) rfl #[.slice Ao22 t425.length co22, .int .i64 t426] rfl xR ?_; (with_reducible refine (impl_Forget.calls k _ _ t425 t426 t429 _ ?side1 ?side2 A9.out).mono ?_); (case side1 => repeat (first | exact (Kd.R_reads' HO428.out).2.2 | (with_reducible refine Kd.C_alloc ?_ _) | (with_reducible refine Kd.C_drewN ?_ _) | (with_reducible refine Kd.C_drew ?_))); (case side2 => exact (Kd.R_reads' HO428.out).2.1); rintro e w23 ⟨v430, rfl, ho0, hb⟩; refine ⟨_, rfl, ?_⟩; have n0_ := aM (Kd.R_elder' (kr HO415.out) (Kd.R_base ho0) hb); have n1_ := aM (Kd.R_elder' (kr HO418.out) (Kd.R_base ho0) hb); have n2_ := aM (Kd.R_elder' (kr HO421.out) (Kd.R_base ho0) hb); have n3_ := aM (Kd.R_elder' (kr HO424.out) (Kd.R_base ho0) hb); have n4_ := aM (Kd.R_elder' (kr HO428.out) (Kd.R_base ho0) hb); have n5_ := aM (Kd.R_lower (Kd.R_new' (Kd.R_new' (Kd.R_new' (Kd.R_new' (Kd.R_new' ho0 (Kd.R_lt (kr HO415.out))) (Kd.R_lt (kr HO418.out))) (Kd.R_lt (kr HO421.out))) (Kd.R_lt (kr HO424.out))) (Kd.R_lt (kr HO428.out))) (below_size (bl HB.out))); have n6_ := aM (bS (bl HB.out) hb); clear HO415 HO418; clear HO421 HO424; clear HO428 HB; have HO415 := n0_; have HO418 := n1_; have HO421 := n2_; have HO424 := n3_; have HO428 := n4_; have HO431 := n5_; have HB := n6_; clear n0_ n1_ n2_ n3_ n4_ n5_ n6_; (try clear hb); (try clear ho0)) | ((with_reducible refine gate_callee (f := 18) rfl ?_); refine goesL_ (some 53) rfl rfl Try.func18 (by kernel_rfl) rfl #[.slice A0 l0.length c0] rfl xR ?_; (with_reducible refine (spec_DrawWhere.calls k _ _ l0 t432 t433 t434 _ ?side1 ?side2 A10.out).mono ?_); (case side1 => repeat (first | exact (cB HR0.out HB.out) | (with_reducible refine Kd.C_alloc ?_ _) | (with_reducible refine Kd.C_drewN ?_ _) | (with_reducible refine Kd.C_drew ?_))); (case side2 => exact HC0.out); rintro e w24 ⟨v435, rfl, ho0, hb⟩; refine ⟨_, rfl, ?_⟩; have n0_ := aM (Kd.R_elder' (kr HO415.out) (Kd.R_base ho0) hb); have n1_ := aM (Kd.R_elder' (kr HO418.out) (Kd.R_base ho0) hb); have n2_ := aM (Kd.R_elder' (kr HO421.out) (Kd.R_base ho0) hb); have n3_ := aM (Kd.R_elder' (kr HO424.out) (Kd.R_base ho0) hb); have n4_ := aM (Kd.R_elder' (kr HO428.out) (Kd.R_base ho0) hb); have n5_ := aM (Kd.R_elder' (kr HO431.out) (Kd.R_base ho0) hb); have n6_ := aM (Kd.R_lower (Kd.R_new' (Kd.R_new' (Kd.R_new' (Kd.R_new' (Kd.R_new' (Kd.R_new' ho0 (Kd.R_lt (kr HO415.out))) (Kd.R_lt (kr HO418.out))) (Kd.R_lt (kr HO421.out))) (Kd.R_lt (kr HO424.out))) (Kd.R_lt (kr HO428.out))) (Kd.R_lt (kr HO431.out))) (below_size (bl HB.out))); have n7_ := aM (bS (bl HB.out) hb); clear HO415 HO418; clear HO421 HO424; clear HO428 HO431 HB; have HO415 := n0_; have HO418 := n1_; have HO421 := n2_; have HO424 := n3_; have HO428 := n4_; have HO431 := n5_; have HO436 := n6_; have HB := n7_; clear n0_ n1_ n2_ n3_ n4_ n5_ n6_ n7_; (try clear hb); (try clear ho0); obtain ⟨Ao25, co25, eo25⟩ := Kd.R_slice HO436.out; subst eo25) | ((with_reducible refine gate_callee (f := 19) rfl ?_); refine goesL_ (some 61) rfl rfl Try.func19 (by kernel_rfl) rfl #[.slice Ao25 t432.length co25, .int .i64 t433, .int .i64 t434] rfl xR ?_; (with_reducible refine (impl_Where.calls k _ _ t432 t433 t434 t437 t438 _ ?side1 ?side2 A11.out).mono ?_); (case side1 => repeat (first | exact (Kd.R_reads' HO436.out).2.2 | (with_reducible refine Kd.C_alloc ?_ _) | (with_reducible refine Kd.C_drewN ?_ _) | (with_reducible refine Kd.C_drew ?_))); (case side2 => exact (Kd.R_reads' HO436.out).2.1); rintro e w26 ⟨rfl, hb⟩; refine ⟨_, rfl, ?_⟩; have n0_ := aM (kB (kr HO415.out) hb); have n1_ := aM (kB (kr HO418.out) hb); have n2_ := aM (kB (kr HO421.out) hb); have n3_ := aM (kB (kr HO424.out) hb); have n4_ := aM (kB (kr HO428.out) hb); have n5_ := aM (kB (kr HO431.out) hb); have n6_ := aM (kB (kr HO436.out) hb); have n7_ := aM (bS (bl HB.out) hb); clear HO415 HO418; clear HO421 HO424; clear HO428 HO431; clear HO436 HB; have HO415 := n0_; have HO418 := n1_; have HO421 := n2_; have HO424 := n3_; have HO428 := n4_; have HO431 := n5_; have HO436 := n6_; have HB := n7_; clear n0_ n1_ n2_ n3_ n4_ n5_ n6_ n7_; (try clear hb)) | ((with_reducible refine gate_callee (f := 20) rfl ?_); refine goesL_ (some 68) rfl rfl Try.func20 (by kernel_rfl) rfl #[.slice Ao25 t432.length co25, .int .i64 t433, .int .i64 t434] rfl xR ?_; (with_reducible refine (spec_Where.calls k _ _ t432 t433 t434 t439 t440 _ ?side1 ?side2 A12.out).mono ?_); (case side1 => repeat (first | exact (Kd.R_reads' HO436.out).2.2 | (with_reducible refine Kd.C_alloc ?_ _) | (with_reducible refine Kd.C_drewN ?_ _) | (with_reducible refine Kd.C_drew ?_))); (case side2 => exact (Kd.R_reads' HO436.out).2.1); rintro e w' ⟨rfl, ⟨nd, rfl⟩⟩; refine ⟨_, rfl, ?_⟩) | ((with_reducible refine gate_callee (f := 21) rfl ?_); refine goesL_ (some 72) rfl rfl Try.func21 (by kernel_rfl) rfl #[.slice A0 l0.length c0] rfl xR ?_; (with_reducible refine (spec_DrawTableOk.calls k _ _ l0 t441 _ ?side1 ?side2 A13.out).mono ?_); (case side1 => repeat (first | exact (cB HR0.out (bl HB.out)) | (with_reducible refine Kd.C_alloc ?_ _) | (with_reducible refine Kd.C_drewN ?_ _) | (with_reducible refine Kd.C_drew ?_))); (case side2 => exact HC0.out); rintro e w27 ⟨v442, rfl, ho0, hb⟩; refine ⟨_, rfl, ?_⟩; have n0_ := aM (Kd.R_elder' (kr HO415.out) (Kd.R_base ho0) hb); have n1_ := aM (Kd.R_elder' (kr HO418.out) (Kd.R_base ho0) hb); have n2_ := aM (Kd.R_elder' (kr HO421.out) (Kd.R_base ho0) hb); have n3_ := aM (Kd.R_elder' (kr HO424.out) (Kd.R_base ho0) hb); have n4_ := aM (Kd.R_elder' (kr HO428.out) (Kd.R_base ho0) hb); have n5_ := aM (Kd.R_elder' (kr HO431.out) (Kd.R_base ho0) hb); have n6_ := aM (Kd.R_elder' (kr HO436.out) (Kd.R_base ho0) hb); have n7_ := aM (Kd.R_lower (Kd.R_new' (Kd.R_new' (Kd.R_new' (Kd.R_new' (Kd.R_new' (Kd.R_new' (Kd.R_new' ho0 (Kd.R_lt (kr HO415.out))) (Kd.R_lt (kr HO418.out))) (Kd.R_lt (kr HO421.out))) (Kd.R_lt (kr HO424.out))) (Kd.R_lt (kr HO428.out))) (Kd.R_lt (kr HO431.out))) (Kd.R_lt (kr HO436.out))) (below_size (bl HB.out))); have n8_ := aM (bS (bl HB.out) hb); clear HO415 HO418; clear HO421 HO424; clear HO428 HO431; clear HO436 HB; have HO415 := n0_; have HO418 := n1_; have HO421 := n2_; have HO424 := n3_; have HO428 := n4_; have HO431 := n5_; have HO436 := n6_; have HO443 := n7_; have HB := n8_; clear n0_ n1_ n2_ n3_ n4_ n5_ n6_ n7_ n8_; (try clear hb); (try clear ho0)))
 (try simp only [Act.put, sA, sZ, sS])
 go_cut [112] (fun v112 wc => ∃ (kq : Nat) (x112_13 : Bool), v112 = .bool x112_13 ∧ Aside0 (laws_FnTables.j0 kq t410 t411 t412 t413 t416 t419 t426 t429 x112_13 = some r) ∧ Aside0 (kq ≤ k) ∧ Aside0 (Kd.R k40 40 wc w.heap.size (fun k_ => some k_ ≠ (v417 : Value).ownBlock ∧ some k_ ≠ ((.slice Ao19 t419.length co19) : Value).ownBlock ∧ some k_ ≠ (v430 : Value).ownBlock) (.slice Ao16 t410.length co16) t410) ∧ Aside0 (Kd.R k40 40 wc w.heap.size (fun k_ => some k_ ≠ ((.slice Ao16 t410.length co16) : Value).ownBlock ∧ some k_ ≠ ((.slice Ao19 t419.length co19) : Value).ownBlock ∧ some k_ ≠ (v430 : Value).ownBlock) v417 t416) ∧ Aside0 (Kd.R k40 40 wc w.heap.size (fun k_ => some k_ ≠ ((.slice Ao16 t410.length co16) : Value).ownBlock ∧ some k_ ≠ (v417 : Value).ownBlock ∧ some k_ ≠ (v430 : Value).ownBlock) (.slice Ao19 t419.length co19) t419) ∧ Aside0 (Kd.R k40 40 wc w.heap.size (fun k_ => some k_ ≠ ((.slice Ao16 t410.length co16) : Value).ownBlock ∧ some k_ ≠ (v417 : Value).ownBlock ∧ some k_ ≠ ((.slice Ao19 t419.length co19) : Value).ownBlock) v430 t429) ∧ Aside0 (Below w.heap.size w wc))
 case first =>
  have H := HC14.out
  clear HC14
  replace H := Option.bind_eq_some_iff.mp H
  obtain ⟨t444, A280, H⟩ := H
  replace H : ((laws_sameHeard.f k t416 t444).bind fun t447 => (if t447 = true then ((spec_Age.f k t419).bind fun t448 => ((laws_sameHeard.f k t422 t448).bind fun t451 => (if t451 = true then ((spec_Forget.f k t425 t426).bind fun t452 => ((laws_sameHeard.f k t429 t452).bind fun t455 => (if t455 = true then (if t437 = t439 then (if (t438 != t440) = true then (laws_FnTables.j0 k t410 t411 t412 t413 t416 t419 t426 t429 true) else ((impl_TableOk.f k t441).bind fun t456 => ((spec_TableOk.f k t441).bind fun t457 => (laws_FnTables.j0 k t410 t411 t412 t413 t416 t419 t426 t429 (t456 != t457))))) else (laws_FnTables.j0 k t410 t411 t412 t413 t416 t419 t426 t429 true)) else (laws_FnTables.j0 k t410 t411 t412 t413 t416 t419 t426 t429 true)))) else (laws_FnTables.j0 k t410 t411 t412 t413 t416 t419 t426 t429 true)))) else (laws_FnTables.j0 k t410 t411 t412 t413 t416 t419 t426 t429 true))) = some r := H
  have A28 := aM A280
  clear A280
  replace H := Option.bind_eq_some_iff.mp H
  obtain ⟨t447, A290, H⟩ := H
  replace H : (if t447 = true then ((spec_Age.f k t419).bind fun t448 => ((laws_sameHeard.f k t422 t448).bind fun t451 => (if t451 = true then ((spec_Forget.f k t425 t426).bind fun t452 => ((laws_sameHeard.f k t429 t452).bind fun t455 => (if t455 = true then (if t437 = t439 then (if (t438 != t440) = true then (laws_FnTables.j0 k t410 t411 t412 t413 t416 t419 t426 t429 true) else ((impl_TableOk.f k t441).bind fun t456 => ((spec_TableOk.f k t441).bind fun t457 => (laws_FnTables.j0 k t410 t411 t412 t413 t416 t419 t426 t429 (t456 != t457))))) else (laws_FnTables.j0 k t410 t411 t412 t413 t416 t419 t426 t429 true)) else (laws_FnTables.j0 k t410 t411 t412 t413 t416 t419 t426 t429 true)))) else (laws_FnTables.j0 k t410 t411 t412 t413 t416 t419 t426 t429 true)))) else (laws_FnTables.j0 k t410 t411 t412 t413 t416 t419 t426 t429 true)) = some r := H
  have A29 := aM A290
  clear A290
  by_cases c30 : t447 = true
  case neg =>
   replace c30 := Bool.eq_false_iff.mpr c30
   subst c30
   have H1 : (laws_FnTables.j0 k t410 t411 t412 t413 t416 t419 t426 t429 true) = some r := by rw [if_neg (show ¬ (false = true) by decide)] at H; exact H
   clear H
   have H := H1
   clear H1
   have H' := aM H
   clear H
   go_wp2_with (first | ((with_reducible refine gate_callee (f := 23) rfl ?_); refine goesL_ (some 78) rfl rfl Try.func23 (by kernel_rfl) rfl #[.slice Ao16 t410.length co16, .int .i64 t411, .int .i64 t412, .int .i64 t413] rfl xR ?_; (with_reducible refine (spec_Hear.calls k _ _ t410 t411 t412 t413 t444 _ ?side1 ?side2 A28.out).mono ?_); (case side1 => repeat (first | exact (Kd.R_reads' HO415.out).2.2 | (with_reducible refine Kd.C_alloc ?_ _) | (with_reducible refine Kd.C_drewN ?_ _) | (with_reducible refine Kd.C_drew ?_))); (case side2 => exact (Kd.R_reads' HO415.out).2.1); rintro e w86 ⟨v445, rfl, ho0, hb⟩; refine ⟨_, rfl, ?_⟩; have n0_ := aM (Kd.R_elder' (kr HO415.out) (Kd.R_base ho0) hb); have n1_ := aM (Kd.R_elder' (kr HO418.out) (Kd.R_base ho0) hb); have n2_ := aM (Kd.R_elder' (kr HO421.out) (Kd.R_base ho0) hb); have n3_ := aM (Kd.R_elder' (kr HO424.out) (Kd.R_base ho0) hb); have n4_ := aM (Kd.R_elder' (kr HO428.out) (Kd.R_base ho0) hb); have n5_ := aM (Kd.R_elder' (kr HO431.out) (Kd.R_base ho0) hb); have n6_ := aM (Kd.R_elder' (kr HO436.out) (Kd.R_base ho0) hb); have n7_ := aM (Kd.R_elder' (kr HO443.out) (Kd.R_base ho0) hb); have n8_ := aM (Kd.R_lower (Kd.R_new' (Kd.R_new' (Kd.R_new' (Kd.R_new' (Kd.R_new' (Kd.R_new' (Kd.R_new' (Kd.R_new' ho0 (Kd.R_lt (kr HO415.out))) (Kd.R_lt (kr HO418.out))) (Kd.R_lt (kr HO421.out))) (Kd.R_lt (kr HO424.out))) (Kd.R_lt (kr HO428.out))) (Kd.R_lt (kr HO431.out))) (Kd.R_lt (kr HO436.out))) (Kd.R_lt (kr HO443.out))) (below_size (bl HB.out))); have n9_ := aM (bS (bl HB.out) hb); clear HO415 HO418; clear HO421 HO424; clear HO428 HO431; clear HO436 HO443 HB; have HO415 := n0_; have HO418 := n1_; have HO421 := n2_; have HO424 := n3_; have HO428 := n4_; have HO431 := n5_; have HO436 := n6_; have HO443 := n7_; have HO446 := n8_; have HB := n9_; clear n0_ n1_ n2_ n3_ n4_ n5_ n6_ n7_ n8_ n9_; (try clear hb); (try clear ho0); obtain ⟨Ao87, co87, eo87⟩ := Kd.R_slice HO418.out; subst eo87; obtain ⟨Ao88, co88, eo88⟩ := Kd.R_slice HO446.out; subst eo88) | ((with_reducible refine gate_callee (f := 22) rfl ?_); refine goesL_ (some 79) rfl rfl Try.func22 (by kernel_rfl) rfl #[.slice Ao87 t416.length co87, .slice Ao88 t444.length co88] rfl xR ?_; (with_reducible refine (laws_sameHeard.calls k _ _ t416 _ _ t444 false _ ?side1 ?side2 ?side3 ?side4 A29.out).mono ?_); (case side1 => repeat (first | exact (Kd.R_reads' HO418.out).2.2 | (with_reducible refine Kd.C_alloc ?_ _) | (with_reducible refine Kd.C_drewN ?_ _) | (with_reducible refine Kd.C_drew ?_))); (case side2 => exact (Kd.R_reads' HO418.out).2.1); (case side3 => repeat (first | exact (Kd.R_reads' HO446.out).2.2 | (with_reducible refine Kd.C_alloc ?_ _) | (with_reducible refine Kd.C_drewN ?_ _) | (with_reducible refine Kd.C_drew ?_))); (case side4 => exact (Kd.R_reads' HO446.out).2.1); rintro e w' ⟨rfl, ⟨nd, rfl⟩⟩; refine ⟨_, rfl, ?_⟩))
   go_meet
   case rel => exact ⟨_, (true), xE, H', ⟨by first | omega | exact Nat.le_refl _⟩, ⟨kr (Kd.R_mono HO415.out (fun _ hk => ⟨hk.1.1.1.1.1.1.1.2, ⟨hk.1.1.1.1.1.1.2, hk.1.1.1.2⟩⟩))⟩, ⟨kr (Kd.R_mono HO418.out (fun _ hk => ⟨hk.1.1.1.1.1.1.1.2, ⟨hk.1.1.1.1.1.1.2, hk.1.1.1.2⟩⟩))⟩, ⟨kr (Kd.R_mono HO421.out (fun _ hk => ⟨hk.1.1.1.1.1.1.1.2, ⟨hk.1.1.1.1.1.1.2, hk.1.1.1.2⟩⟩))⟩, ⟨kr (Kd.R_mono HO431.out (fun _ hk => ⟨hk.1.1.1.1.1.1.1.2, ⟨hk.1.1.1.1.1.1.2, hk.1.1.1.1.1.2⟩⟩))⟩, ⟨bl HB.out⟩⟩
  subst c30
  have H1 : ((spec_Age.f k t419).bind fun t448 => ((laws_sameHeard.f k t422 t448).bind fun t451 => (if t451 = true then ((spec_Forget.f k t425 t426).bind fun t452 => ((laws_sameHeard.f k t429 t452).bind fun t455 => (if t455 = true then (if t437 = t439 then (if (t438 != t440) = true then (laws_FnTables.j0 k t410 t411 t412 t413 t416 t419 t426 t429 true) else ((impl_TableOk.f k t441).bind fun t456 => ((spec_TableOk.f k t441).bind fun t457 => (laws_FnTables.j0 k t410 t411 t412 t413 t416 t419 t426 t429 (t456 != t457))))) else (laws_FnTables.j0 k t410 t411 t412 t413 t416 t419 t426 t429 true)) else (laws_FnTables.j0 k t410 t411 t412 t413 t416 t419 t426 t429 true)))) else (laws_FnTables.j0 k t410 t411 t412 t413 t416 t419 t426 t429 true)))) = some r := by rw [if_pos rfl] at H; exact H
  clear H
  have H := H1
  clear H1
  replace H := Option.bind_eq_some_iff.mp H
  obtain ⟨t448, A310, H⟩ := H
  replace H : ((laws_sameHeard.f k t422 t448).bind fun t451 => (if t451 = true then ((spec_Forget.f k t425 t426).bind fun t452 => ((laws_sameHeard.f k t429 t452).bind fun t455 => (if t455 = true then (if t437 = t439 then (if (t438 != t440) = true then (laws_FnTables.j0 k t410 t411 t412 t413 t416 t419 t426 t429 true) else ((impl_TableOk.f k t441).bind fun t456 => ((spec_TableOk.f k t441).bind fun t457 => (laws_FnTables.j0 k t410 t411 t412 t413 t416 t419 t426 t429 (t456 != t457))))) else (laws_FnTables.j0 k t410 t411 t412 t413 t416 t419 t426 t429 true)) else (laws_FnTables.j0 k t410 t411 t412 t413 t416 t419 t426 t429 true)))) else (laws_FnTables.j0 k t410 t411 t412 t413 t416 t419 t426 t429 true))) = some r := H
  have A31 := aM A310
  clear A310
  replace H := Option.bind_eq_some_iff.mp H
  obtain ⟨t451, A320, H⟩ := H
  replace H : (if t451 = true then ((spec_Forget.f k t425 t426).bind fun t452 => ((laws_sameHeard.f k t429 t452).bind fun t455 => (if t455 = true then (if t437 = t439 then (if (t438 != t440) = true then (laws_FnTables.j0 k t410 t411 t412 t413 t416 t419 t426 t429 true) else ((impl_TableOk.f k t441).bind fun t456 => ((spec_TableOk.f k t441).bind fun t457 => (laws_FnTables.j0 k t410 t411 t412 t413 t416 t419 t426 t429 (t456 != t457))))) else (laws_FnTables.j0 k t410 t411 t412 t413 t416 t419 t426 t429 true)) else (laws_FnTables.j0 k t410 t411 t412 t413 t416 t419 t426 t429 true)))) else (laws_FnTables.j0 k t410 t411 t412 t413 t416 t419 t426 t429 true)) = some r := H
  have A32 := aM A320
  clear A320
  by_cases c33 : t451 = true
  case neg =>
   replace c33 := Bool.eq_false_iff.mpr c33
   subst c33
   have H1 : (laws_FnTables.j0 k t410 t411 t412 t413 t416 t419 t426 t429 true) = some r := by rw [if_neg (show ¬ (false = true) by decide)] at H; exact H
   clear H
   have H := H1
   clear H1
   have H' := aM H
   clear H
   go_wp2_with (first | ((with_reducible refine gate_callee (f := 23) rfl ?_); refine goesL_ (some 78) rfl rfl Try.func23 (by kernel_rfl) rfl #[.slice Ao16 t410.length co16, .int .i64 t411, .int .i64 t412, .int .i64 t413] rfl xR ?_; (with_reducible refine (spec_Hear.calls k _ _ t410 t411 t412 t413 t444 _ ?side1 ?side2 A28.out).mono ?_); (case side1 => repeat (first | exact (Kd.R_reads' HO415.out).2.2 | (with_reducible refine Kd.C_alloc ?_ _) | (with_reducible refine Kd.C_drewN ?_ _) | (with_reducible refine Kd.C_drew ?_))); (case side2 => exact (Kd.R_reads' HO415.out).2.1); rintro e w80 ⟨v445, rfl, ho0, hb⟩; refine ⟨_, rfl, ?_⟩; have n0_ := aM (Kd.R_elder' (kr HO415.out) (Kd.R_base ho0) hb); have n1_ := aM (Kd.R_elder' (kr HO418.out) (Kd.R_base ho0) hb); have n2_ := aM (Kd.R_elder' (kr HO421.out) (Kd.R_base ho0) hb); have n3_ := aM (Kd.R_elder' (kr HO424.out) (Kd.R_base ho0) hb); have n4_ := aM (Kd.R_elder' (kr HO428.out) (Kd.R_base ho0) hb); have n5_ := aM (Kd.R_elder' (kr HO431.out) (Kd.R_base ho0) hb); have n6_ := aM (Kd.R_elder' (kr HO436.out) (Kd.R_base ho0) hb); have n7_ := aM (Kd.R_elder' (kr HO443.out) (Kd.R_base ho0) hb); have n8_ := aM (Kd.R_lower (Kd.R_new' (Kd.R_new' (Kd.R_new' (Kd.R_new' (Kd.R_new' (Kd.R_new' (Kd.R_new' (Kd.R_new' ho0 (Kd.R_lt (kr HO415.out))) (Kd.R_lt (kr HO418.out))) (Kd.R_lt (kr HO421.out))) (Kd.R_lt (kr HO424.out))) (Kd.R_lt (kr HO428.out))) (Kd.R_lt (kr HO431.out))) (Kd.R_lt (kr HO436.out))) (Kd.R_lt (kr HO443.out))) (below_size (bl HB.out))); have n9_ := aM (bS (bl HB.out) hb); clear HO415 HO418; clear HO421 HO424; clear HO428 HO431; clear HO436 HO443 HB; have HO415 := n0_; have HO418 := n1_; have HO421 := n2_; have HO424 := n3_; have HO428 := n4_; have HO431 := n5_; have HO436 := n6_; have HO443 := n7_; have HO446 := n8_; have HB := n9_; clear n0_ n1_ n2_ n3_ n4_ n5_ n6_ n7_ n8_ n9_; (try clear hb); (try clear ho0); obtain ⟨Ao81, co81, eo81⟩ := Kd.R_slice HO418.out; subst eo81; obtain ⟨Ao82, co82, eo82⟩ := Kd.R_slice HO446.out; subst eo82) | ((with_reducible refine gate_callee (f := 22) rfl ?_); refine goesL_ (some 79) rfl rfl Try.func22 (by kernel_rfl) rfl #[.slice Ao81 t416.length co81, .slice Ao82 t444.length co82] rfl xR ?_; (with_reducible refine (laws_sameHeard.calls k _ _ t416 _ _ t444 true _ ?side1 ?side2 ?side3 ?side4 A29.out).mono ?_); (case side1 => repeat (first | exact (Kd.R_reads' HO418.out).2.2 | (with_reducible refine Kd.C_alloc ?_ _) | (with_reducible refine Kd.C_drewN ?_ _) | (with_reducible refine Kd.C_drew ?_))); (case side2 => exact (Kd.R_reads' HO418.out).2.1); (case side3 => repeat (first | exact (Kd.R_reads' HO446.out).2.2 | (with_reducible refine Kd.C_alloc ?_ _) | (with_reducible refine Kd.C_drewN ?_ _) | (with_reducible refine Kd.C_drew ?_))); (case side4 => exact (Kd.R_reads' HO446.out).2.1); rintro e w' ⟨rfl, ⟨nd, rfl⟩⟩; refine ⟨_, rfl, ?_⟩) | (go_at_call 24; (with_reducible refine (spec_Age.calls k _ _ t419 t448 _ ?side1 ?side2 A31.out).mono ?_); (case side1 => repeat (first | exact (Kd.R_reads' HO421.out).2.2 | (with_reducible refine Kd.C_alloc ?_ _) | (with_reducible refine Kd.C_drewN ?_ _) | (with_reducible refine Kd.C_drew ?_))); (case side2 => exact (Kd.R_reads' HO421.out).2.1); rintro e w83 ⟨v449, rfl, ho0, hb⟩; have n0_ := aM (Kd.R_elder' (kr HO415.out) (Kd.R_base ho0) hb); have n1_ := aM (Kd.R_elder' (kr HO418.out) (Kd.R_base ho0) hb); have n2_ := aM (Kd.R_elder' (kr HO421.out) (Kd.R_base ho0) hb); have n3_ := aM (Kd.R_elder' (kr HO424.out) (Kd.R_base ho0) hb); have n4_ := aM (Kd.R_elder' (kr HO428.out) (Kd.R_base ho0) hb); have n5_ := aM (Kd.R_elder' (kr HO431.out) (Kd.R_base ho0) hb); have n6_ := aM (Kd.R_elder' (kr HO436.out) (Kd.R_base ho0) hb); have n7_ := aM (Kd.R_elder' (kr HO443.out) (Kd.R_base ho0) hb); have n8_ := aM (Kd.R_elder' (kr HO446.out) (Kd.R_base ho0) hb); have n9_ := aM (Kd.R_lower (Kd.R_new' (Kd.R_new' (Kd.R_new' (Kd.R_new' (Kd.R_new' (Kd.R_new' (Kd.R_new' (Kd.R_new' (Kd.R_new' ho0 (Kd.R_lt (kr HO415.out))) (Kd.R_lt (kr HO418.out))) (Kd.R_lt (kr HO421.out))) (Kd.R_lt (kr HO424.out))) (Kd.R_lt (kr HO428.out))) (Kd.R_lt (kr HO431.out))) (Kd.R_lt (kr HO436.out))) (Kd.R_lt (kr HO443.out))) (Kd.R_lt (kr HO446.out))) (below_size (bl HB.out))); have n10_ := aM (bS (bl HB.out) hb); clear HO415 HO418; clear HO421 HO424; clear HO428 HO431; clear HO436 HO443; clear HO446 HB; have HO415 := n0_; have HO418 := n1_; have HO421 := n2_; have HO424 := n3_; have HO428 := n4_; have HO431 := n5_; have HO436 := n6_; have HO443 := n7_; have HO446 := n8_; have HO450 := n9_; have HB := n10_; clear n0_ n1_ n2_ n3_ n4_ n5_ n6_ n7_ n8_ n9_ n10_; (try clear hb); (try clear ho0); obtain ⟨Ao84, co84, eo84⟩ := Kd.R_slice HO424.out; subst eo84; obtain ⟨Ao85, co85, eo85⟩ := Kd.R_slice HO450.out; subst eo85) | (go_at_call 22; (with_reducible refine (laws_sameHeard.calls k _ _ t422 _ _ t448 false _ ?side1 ?side2 ?side3 ?side4 A32.out).mono ?_); (case side1 => repeat (first | exact (Kd.R_reads' HO424.out).2.2 | (with_reducible refine Kd.C_alloc ?_ _) | (with_reducible refine Kd.C_drewN ?_ _) | (with_reducible refine Kd.C_drew ?_))); (case side2 => exact (Kd.R_reads' HO424.out).2.1); (case side3 => repeat (first | exact (Kd.R_reads' HO450.out).2.2 | (with_reducible refine Kd.C_alloc ?_ _) | (with_reducible refine Kd.C_drewN ?_ _) | (with_reducible refine Kd.C_drew ?_))); (case side4 => exact (Kd.R_reads' HO450.out).2.1); rintro e w' ⟨rfl, ⟨nd, rfl⟩⟩))
   go_meet
   case rel => exact ⟨_, (true), xE, H', ⟨by first | omega | exact Nat.le_refl _⟩, ⟨kr (Kd.R_mono HO415.out (fun _ hk => ⟨hk.1.1.1.1.1.1.1.1.2, ⟨hk.1.1.1.1.1.1.1.2, hk.1.1.1.1.2⟩⟩))⟩, ⟨kr (Kd.R_mono HO418.out (fun _ hk => ⟨hk.1.1.1.1.1.1.1.1.2, ⟨hk.1.1.1.1.1.1.1.2, hk.1.1.1.1.2⟩⟩))⟩, ⟨kr (Kd.R_mono HO421.out (fun _ hk => ⟨hk.1.1.1.1.1.1.1.1.2, ⟨hk.1.1.1.1.1.1.1.2, hk.1.1.1.1.2⟩⟩))⟩, ⟨kr (Kd.R_mono HO431.out (fun _ hk => ⟨hk.1.1.1.1.1.1.1.1.2, ⟨hk.1.1.1.1.1.1.1.2, hk.1.1.1.1.1.1.2⟩⟩))⟩, ⟨bl HB.out⟩⟩
  subst c33
  have H1 : ((spec_Forget.f k t425 t426).bind fun t452 => ((laws_sameHeard.f k t429 t452).bind fun t455 => (if t455 = true then (if t437 = t439 then (if (t438 != t440) = true then (laws_FnTables.j0 k t410 t411 t412 t413 t416 t419 t426 t429 true) else ((impl_TableOk.f k t441).bind fun t456 => ((spec_TableOk.f k t441).bind fun t457 => (laws_FnTables.j0 k t410 t411 t412 t413 t416 t419 t426 t429 (t456 != t457))))) else (laws_FnTables.j0 k t410 t411 t412 t413 t416 t419 t426 t429 true)) else (laws_FnTables.j0 k t410 t411 t412 t413 t416 t419 t426 t429 true)))) = some r := by rw [if_pos rfl] at H; exact H
  clear H
  have H := H1
  clear H1
  replace H := Option.bind_eq_some_iff.mp H
  obtain ⟨t452, A340, H⟩ := H
  replace H : ((laws_sameHeard.f k t429 t452).bind fun t455 => (if t455 = true then (if t437 = t439 then (if (t438 != t440) = true then (laws_FnTables.j0 k t410 t411 t412 t413 t416 t419 t426 t429 true) else ((impl_TableOk.f k t441).bind fun t456 => ((spec_TableOk.f k t441).bind fun t457 => (laws_FnTables.j0 k t410 t411 t412 t413 t416 t419 t426 t429 (t456 != t457))))) else (laws_FnTables.j0 k t410 t411 t412 t413 t416 t419 t426 t429 true)) else (laws_FnTables.j0 k t410 t411 t412 t413 t416 t419 t426 t429 true))) = some r := H
  have A34 := aM A340
  clear A340
  replace H := Option.bind_eq_some_iff.mp H
  obtain ⟨t455, A350, H⟩ := H
  replace H : (if t455 = true then (if t437 = t439 then (if (t438 != t440) = true then (laws_FnTables.j0 k t410 t411 t412 t413 t416 t419 t426 t429 true) else ((impl_TableOk.f k t441).bind fun t456 => ((spec_TableOk.f k t441).bind fun t457 => (laws_FnTables.j0 k t410 t411 t412 t413 t416 t419 t426 t429 (t456 != t457))))) else (laws_FnTables.j0 k t410 t411 t412 t413 t416 t419 t426 t429 true)) else (laws_FnTables.j0 k t410 t411 t412 t413 t416 t419 t426 t429 true)) = some r := H
  have A35 := aM A350
  clear A350
  by_cases c36 : t455 = true
  case neg =>
   replace c36 := Bool.eq_false_iff.mpr c36
   subst c36
   have H1 : (laws_FnTables.j0 k t410 t411 t412 t413 t416 t419 t426 t429 true) = some r := by rw [if_neg (show ¬ (false = true) by decide)] at H; exact H
   clear H
   have H := H1
   clear H1
   have H' := aM H
   clear H
   go_wp2_with (first | ((with_reducible refine gate_callee (f := 23) rfl ?_); refine goesL_ (some 78) rfl rfl Try.func23 (by kernel_rfl) rfl #[.slice Ao16 t410.length co16, .int .i64 t411, .int .i64 t412, .int .i64 t413] rfl xR ?_; (with_reducible refine (spec_Hear.calls k _ _ t410 t411 t412 t413 t444 _ ?side1 ?side2 A28.out).mono ?_); (case side1 => repeat (first | exact (Kd.R_reads' HO415.out).2.2 | (with_reducible refine Kd.C_alloc ?_ _) | (with_reducible refine Kd.C_drewN ?_ _) | (with_reducible refine Kd.C_drew ?_))); (case side2 => exact (Kd.R_reads' HO415.out).2.1); rintro e w71 ⟨v445, rfl, ho0, hb⟩; refine ⟨_, rfl, ?_⟩; have n0_ := aM (Kd.R_elder' (kr HO415.out) (Kd.R_base ho0) hb); have n1_ := aM (Kd.R_elder' (kr HO418.out) (Kd.R_base ho0) hb); have n2_ := aM (Kd.R_elder' (kr HO421.out) (Kd.R_base ho0) hb); have n3_ := aM (Kd.R_elder' (kr HO424.out) (Kd.R_base ho0) hb); have n4_ := aM (Kd.R_elder' (kr HO428.out) (Kd.R_base ho0) hb); have n5_ := aM (Kd.R_elder' (kr HO431.out) (Kd.R_base ho0) hb); have n6_ := aM (Kd.R_elder' (kr HO436.out) (Kd.R_base ho0) hb); have n7_ := aM (Kd.R_elder' (kr HO443.out) (Kd.R_base ho0) hb); have n8_ := aM (Kd.R_lower (Kd.R_new' (Kd.R_new' (Kd.R_new' (Kd.R_new' (Kd.R_new' (Kd.R_new' (Kd.R_new' (Kd.R_new' ho0 (Kd.R_lt (kr HO415.out))) (Kd.R_lt (kr HO418.out))) (Kd.R_lt (kr HO421.out))) (Kd.R_lt (kr HO424.out))) (Kd.R_lt (kr HO428.out))) (Kd.R_lt (kr HO431.out))) (Kd.R_lt (kr HO436.out))) (Kd.R_lt (kr HO443.out))) (below_size (bl HB.out))); have n9_ := aM (bS (bl HB.out) hb); clear HO415 HO418; clear HO421 HO424; clear HO428 HO431; clear HO436 HO443 HB; have HO415 := n0_; have HO418 := n1_; have HO421 := n2_; have HO424 := n3_; have HO428 := n4_; have HO431 := n5_; have HO436 := n6_; have HO443 := n7_; have HO446 := n8_; have HB := n9_; clear n0_ n1_ n2_ n3_ n4_ n5_ n6_ n7_ n8_ n9_; (try clear hb); (try clear ho0); obtain ⟨Ao72, co72, eo72⟩ := Kd.R_slice HO418.out; subst eo72; obtain ⟨Ao73, co73, eo73⟩ := Kd.R_slice HO446.out; subst eo73) | ((with_reducible refine gate_callee (f := 22) rfl ?_); refine goesL_ (some 79) rfl rfl Try.func22 (by kernel_rfl) rfl #[.slice Ao72 t416.length co72, .slice Ao73 t444.length co73] rfl xR ?_; (with_reducible refine (laws_sameHeard.calls k _ _ t416 _ _ t444 true _ ?side1 ?side2 ?side3 ?side4 A29.out).mono ?_); (case side1 => repeat (first | exact (Kd.R_reads' HO418.out).2.2 | (with_reducible refine Kd.C_alloc ?_ _) | (with_reducible refine Kd.C_drewN ?_ _) | (with_reducible refine Kd.C_drew ?_))); (case side2 => exact (Kd.R_reads' HO418.out).2.1); (case side3 => repeat (first | exact (Kd.R_reads' HO446.out).2.2 | (with_reducible refine Kd.C_alloc ?_ _) | (with_reducible refine Kd.C_drewN ?_ _) | (with_reducible refine Kd.C_drew ?_))); (case side4 => exact (Kd.R_reads' HO446.out).2.1); rintro e w' ⟨rfl, ⟨nd, rfl⟩⟩; refine ⟨_, rfl, ?_⟩) | (go_at_call 24; (with_reducible refine (spec_Age.calls k _ _ t419 t448 _ ?side1 ?side2 A31.out).mono ?_); (case side1 => repeat (first | exact (Kd.R_reads' HO421.out).2.2 | (with_reducible refine Kd.C_alloc ?_ _) | (with_reducible refine Kd.C_drewN ?_ _) | (with_reducible refine Kd.C_drew ?_))); (case side2 => exact (Kd.R_reads' HO421.out).2.1); rintro e w74 ⟨v449, rfl, ho0, hb⟩; have n0_ := aM (Kd.R_elder' (kr HO415.out) (Kd.R_base ho0) hb); have n1_ := aM (Kd.R_elder' (kr HO418.out) (Kd.R_base ho0) hb); have n2_ := aM (Kd.R_elder' (kr HO421.out) (Kd.R_base ho0) hb); have n3_ := aM (Kd.R_elder' (kr HO424.out) (Kd.R_base ho0) hb); have n4_ := aM (Kd.R_elder' (kr HO428.out) (Kd.R_base ho0) hb); have n5_ := aM (Kd.R_elder' (kr HO431.out) (Kd.R_base ho0) hb); have n6_ := aM (Kd.R_elder' (kr HO436.out) (Kd.R_base ho0) hb); have n7_ := aM (Kd.R_elder' (kr HO443.out) (Kd.R_base ho0) hb); have n8_ := aM (Kd.R_elder' (kr HO446.out) (Kd.R_base ho0) hb); have n9_ := aM (Kd.R_lower (Kd.R_new' (Kd.R_new' (Kd.R_new' (Kd.R_new' (Kd.R_new' (Kd.R_new' (Kd.R_new' (Kd.R_new' (Kd.R_new' ho0 (Kd.R_lt (kr HO415.out))) (Kd.R_lt (kr HO418.out))) (Kd.R_lt (kr HO421.out))) (Kd.R_lt (kr HO424.out))) (Kd.R_lt (kr HO428.out))) (Kd.R_lt (kr HO431.out))) (Kd.R_lt (kr HO436.out))) (Kd.R_lt (kr HO443.out))) (Kd.R_lt (kr HO446.out))) (below_size (bl HB.out))); have n10_ := aM (bS (bl HB.out) hb); clear HO415 HO418; clear HO421 HO424; clear HO428 HO431; clear HO436 HO443; clear HO446 HB; have HO415 := n0_; have HO418 := n1_; have HO421 := n2_; have HO424 := n3_; have HO428 := n4_; have HO431 := n5_; have HO436 := n6_; have HO443 := n7_; have HO446 := n8_; have HO450 := n9_; have HB := n10_; clear n0_ n1_ n2_ n3_ n4_ n5_ n6_ n7_ n8_ n9_ n10_; (try clear hb); (try clear ho0); obtain ⟨Ao75, co75, eo75⟩ := Kd.R_slice HO424.out; subst eo75; obtain ⟨Ao76, co76, eo76⟩ := Kd.R_slice HO450.out; subst eo76) | (go_at_call 22; (with_reducible refine (laws_sameHeard.calls k _ _ t422 _ _ t448 true _ ?side1 ?side2 ?side3 ?side4 A32.out).mono ?_); (case side1 => repeat (first | exact (Kd.R_reads' HO424.out).2.2 | (with_reducible refine Kd.C_alloc ?_ _) | (with_reducible refine Kd.C_drewN ?_ _) | (with_reducible refine Kd.C_drew ?_))); (case side2 => exact (Kd.R_reads' HO424.out).2.1); (case side3 => repeat (first | exact (Kd.R_reads' HO450.out).2.2 | (with_reducible refine Kd.C_alloc ?_ _) | (with_reducible refine Kd.C_drewN ?_ _) | (with_reducible refine Kd.C_drew ?_))); (case side4 => exact (Kd.R_reads' HO450.out).2.1); rintro e w' ⟨rfl, ⟨nd, rfl⟩⟩) | (go_at_call 25; (with_reducible refine (spec_Forget.calls k _ _ t425 t426 t452 _ ?side1 ?side2 A34.out).mono ?_); (case side1 => repeat (first | exact (Kd.R_reads' HO428.out).2.2 | (with_reducible refine Kd.C_alloc ?_ _) | (with_reducible refine Kd.C_drewN ?_ _) | (with_reducible refine Kd.C_drew ?_))); (case side2 => exact (Kd.R_reads' HO428.out).2.1); rintro e w77 ⟨v453, rfl, ho0, hb⟩; have n0_ := aM (Kd.R_elder' (kr HO415.out) (Kd.R_base ho0) hb); have n1_ := aM (Kd.R_elder' (kr HO418.out) (Kd.R_base ho0) hb); have n2_ := aM (Kd.R_elder' (kr HO421.out) (Kd.R_base ho0) hb); have n3_ := aM (Kd.R_elder' (kr HO424.out) (Kd.R_base ho0) hb); have n4_ := aM (Kd.R_elder' (kr HO428.out) (Kd.R_base ho0) hb); have n5_ := aM (Kd.R_elder' (kr HO431.out) (Kd.R_base ho0) hb); have n6_ := aM (Kd.R_elder' (kr HO436.out) (Kd.R_base ho0) hb); have n7_ := aM (Kd.R_elder' (kr HO443.out) (Kd.R_base ho0) hb); have n8_ := aM (Kd.R_elder' (kr HO446.out) (Kd.R_base ho0) hb); have n9_ := aM (Kd.R_elder' (kr HO450.out) (Kd.R_base ho0) hb); have n10_ := aM (Kd.R_lower (Kd.R_new' (Kd.R_new' (Kd.R_new' (Kd.R_new' (Kd.R_new' (Kd.R_new' (Kd.R_new' (Kd.R_new' (Kd.R_new' (Kd.R_new' ho0 (Kd.R_lt (kr HO415.out))) (Kd.R_lt (kr HO418.out))) (Kd.R_lt (kr HO421.out))) (Kd.R_lt (kr HO424.out))) (Kd.R_lt (kr HO428.out))) (Kd.R_lt (kr HO431.out))) (Kd.R_lt (kr HO436.out))) (Kd.R_lt (kr HO443.out))) (Kd.R_lt (kr HO446.out))) (Kd.R_lt (kr HO450.out))) (below_size (bl HB.out))); have n11_ := aM (bS (bl HB.out) hb); clear HO415 HO418; clear HO421 HO424; clear HO428 HO431; clear HO436 HO443; clear HO446 HO450 HB; have HO415 := n0_; have HO418 := n1_; have HO421 := n2_; have HO424 := n3_; have HO428 := n4_; have HO431 := n5_; have HO436 := n6_; have HO443 := n7_; have HO446 := n8_; have HO450 := n9_; have HO454 := n10_; have HB := n11_; clear n0_ n1_ n2_ n3_ n4_ n5_ n6_ n7_ n8_ n9_ n10_ n11_; (try clear hb); (try clear ho0); obtain ⟨Ao78, co78, eo78⟩ := Kd.R_slice HO431.out; subst eo78; obtain ⟨Ao79, co79, eo79⟩ := Kd.R_slice HO454.out; subst eo79) | (go_at_call 22; (with_reducible refine (laws_sameHeard.calls k _ _ t429 _ _ t452 false _ ?side1 ?side2 ?side3 ?side4 A35.out).mono ?_); (case side1 => repeat (first | exact (Kd.R_reads' HO431.out).2.2 | (with_reducible refine Kd.C_alloc ?_ _) | (with_reducible refine Kd.C_drewN ?_ _) | (with_reducible refine Kd.C_drew ?_))); (case side2 => exact (Kd.R_reads' HO431.out).2.1); (case side3 => repeat (first | exact (Kd.R_reads' HO454.out).2.2 | (with_reducible refine Kd.C_alloc ?_ _) | (with_reducible refine Kd.C_drewN ?_ _) | (with_reducible refine Kd.C_drew ?_))); (case side4 => exact (Kd.R_reads' HO454.out).2.1); rintro e w' ⟨rfl, ⟨nd, rfl⟩⟩))
   go_meet
   case rel => exact ⟨_, (true), xE, H', ⟨by first | omega | exact Nat.le_refl _⟩, ⟨kr (Kd.R_mono HO415.out (fun _ hk => ⟨hk.1.1.1.1.1.1.1.1.1.2, ⟨hk.1.1.1.1.1.1.1.1.2, hk.1.1.1.1.1.2⟩⟩))⟩, ⟨kr (Kd.R_mono HO418.out (fun _ hk => ⟨hk.1.1.1.1.1.1.1.1.1.2, ⟨hk.1.1.1.1.1.1.1.1.2, hk.1.1.1.1.1.2⟩⟩))⟩, ⟨kr (Kd.R_mono HO421.out (fun _ hk => ⟨hk.1.1.1.1.1.1.1.1.1.2, ⟨hk.1.1.1.1.1.1.1.1.2, hk.1.1.1.1.1.2⟩⟩))⟩, ⟨kr (Kd.R_mono HO431.out (fun _ hk => ⟨hk.1.1.1.1.1.1.1.1.1.2, ⟨hk.1.1.1.1.1.1.1.1.2, hk.1.1.1.1.1.1.1.2⟩⟩))⟩, ⟨bl HB.out⟩⟩
  subst c36
  have H1 : (if t437 = t439 then (if (t438 != t440) = true then (laws_FnTables.j0 k t410 t411 t412 t413 t416 t419 t426 t429 true) else ((impl_TableOk.f k t441).bind fun t456 => ((spec_TableOk.f k t441).bind fun t457 => (laws_FnTables.j0 k t410 t411 t412 t413 t416 t419 t426 t429 (t456 != t457))))) else (laws_FnTables.j0 k t410 t411 t412 t413 t416 t419 t426 t429 true)) = some r := by rw [if_pos rfl] at H; exact H
  clear H
  have H := H1
  clear H1
  by_cases c37 : t437 = t439
  case neg =>
   rw [if_neg c37] at H
   have c37b0 : (t437 == t439) = false := beq_eq_false_iff_ne.mpr c37
   have c37b1 : (t437 != t439) = true := bne_iff_ne.mpr c37
   (first | rw [c37b0] | (simp only [i64_w, i32_w]; rw [c37b0]) | skip)
   have H' := aM H
   clear H
   go_wp2_with (first | ((with_reducible refine gate_callee (f := 23) rfl ?_); refine goesL_ (some 78) rfl rfl Try.func23 (by kernel_rfl) rfl #[.slice Ao16 t410.length co16, .int .i64 t411, .int .i64 t412, .int .i64 t413] rfl xR ?_; (with_reducible refine (spec_Hear.calls k _ _ t410 t411 t412 t413 t444 _ ?side1 ?side2 A28.out).mono ?_); (case side1 => repeat (first | exact (Kd.R_reads' HO415.out).2.2 | (with_reducible refine Kd.C_alloc ?_ _) | (with_reducible refine Kd.C_drewN ?_ _) | (with_reducible refine Kd.C_drew ?_))); (case side2 => exact (Kd.R_reads' HO415.out).2.1); rintro e w62 ⟨v445, rfl, ho0, hb⟩; refine ⟨_, rfl, ?_⟩; have n0_ := aM (Kd.R_elder' (kr HO415.out) (Kd.R_base ho0) hb); have n1_ := aM (Kd.R_elder' (kr HO418.out) (Kd.R_base ho0) hb); have n2_ := aM (Kd.R_elder' (kr HO421.out) (Kd.R_base ho0) hb); have n3_ := aM (Kd.R_elder' (kr HO424.out) (Kd.R_base ho0) hb); have n4_ := aM (Kd.R_elder' (kr HO428.out) (Kd.R_base ho0) hb); have n5_ := aM (Kd.R_elder' (kr HO431.out) (Kd.R_base ho0) hb); have n6_ := aM (Kd.R_elder' (kr HO436.out) (Kd.R_base ho0) hb); have n7_ := aM (Kd.R_elder' (kr HO443.out) (Kd.R_base ho0) hb); have n8_ := aM (Kd.R_lower (Kd.R_new' (Kd.R_new' (Kd.R_new' (Kd.R_new' (Kd.R_new' (Kd.R_new' (Kd.R_new' (Kd.R_new' ho0 (Kd.R_lt (kr HO415.out))) (Kd.R_lt (kr HO418.out))) (Kd.R_lt (kr HO421.out))) (Kd.R_lt (kr HO424.out))) (Kd.R_lt (kr HO428.out))) (Kd.R_lt (kr HO431.out))) (Kd.R_lt (kr HO436.out))) (Kd.R_lt (kr HO443.out))) (below_size (bl HB.out))); have n9_ := aM (bS (bl HB.out) hb); clear HO415 HO418; clear HO421 HO424; clear HO428 HO431; clear HO436 HO443 HB; have HO415 := n0_; have HO418 := n1_; have HO421 := n2_; have HO424 := n3_; have HO428 := n4_; have HO431 := n5_; have HO436 := n6_; have HO443 := n7_; have HO446 := n8_; have HB := n9_; clear n0_ n1_ n2_ n3_ n4_ n5_ n6_ n7_ n8_ n9_; (try clear hb); (try clear ho0); obtain ⟨Ao63, co63, eo63⟩ := Kd.R_slice HO418.out; subst eo63; obtain ⟨Ao64, co64, eo64⟩ := Kd.R_slice HO446.out; subst eo64) | ((with_reducible refine gate_callee (f := 22) rfl ?_); refine goesL_ (some 79) rfl rfl Try.func22 (by kernel_rfl) rfl #[.slice Ao63 t416.length co63, .slice Ao64 t444.length co64] rfl xR ?_; (with_reducible refine (laws_sameHeard.calls k _ _ t416 _ _ t444 true _ ?side1 ?side2 ?side3 ?side4 A29.out).mono ?_); (case side1 => repeat (first | exact (Kd.R_reads' HO418.out).2.2 | (with_reducible refine Kd.C_alloc ?_ _) | (with_reducible refine Kd.C_drewN ?_ _) | (with_reducible refine Kd.C_drew ?_))); (case side2 => exact (Kd.R_reads' HO418.out).2.1); (case side3 => repeat (first | exact (Kd.R_reads' HO446.out).2.2 | (with_reducible refine Kd.C_alloc ?_ _) | (with_reducible refine Kd.C_drewN ?_ _) | (with_reducible refine Kd.C_drew ?_))); (case side4 => exact (Kd.R_reads' HO446.out).2.1); rintro e w' ⟨rfl, ⟨nd, rfl⟩⟩; refine ⟨_, rfl, ?_⟩) | (go_at_call 24; (with_reducible refine (spec_Age.calls k _ _ t419 t448 _ ?side1 ?side2 A31.out).mono ?_); (case side1 => repeat (first | exact (Kd.R_reads' HO421.out).2.2 | (with_reducible refine Kd.C_alloc ?_ _) | (with_reducible refine Kd.C_drewN ?_ _) | (with_reducible refine Kd.C_drew ?_))); (case side2 => exact (Kd.R_reads' HO421.out).2.1); rintro e w65 ⟨v449, rfl, ho0, hb⟩; have n0_ := aM (Kd.R_elder' (kr HO415.out) (Kd.R_base ho0) hb); have n1_ := aM (Kd.R_elder' (kr HO418.out) (Kd.R_base ho0) hb); have n2_ := aM (Kd.R_elder' (kr HO421.out) (Kd.R_base ho0) hb); have n3_ := aM (Kd.R_elder' (kr HO424.out) (Kd.R_base ho0) hb); have n4_ := aM (Kd.R_elder' (kr HO428.out) (Kd.R_base ho0) hb); have n5_ := aM (Kd.R_elder' (kr HO431.out) (Kd.R_base ho0) hb); have n6_ := aM (Kd.R_elder' (kr HO436.out) (Kd.R_base ho0) hb); have n7_ := aM (Kd.R_elder' (kr HO443.out) (Kd.R_base ho0) hb); have n8_ := aM (Kd.R_elder' (kr HO446.out) (Kd.R_base ho0) hb); have n9_ := aM (Kd.R_lower (Kd.R_new' (Kd.R_new' (Kd.R_new' (Kd.R_new' (Kd.R_new' (Kd.R_new' (Kd.R_new' (Kd.R_new' (Kd.R_new' ho0 (Kd.R_lt (kr HO415.out))) (Kd.R_lt (kr HO418.out))) (Kd.R_lt (kr HO421.out))) (Kd.R_lt (kr HO424.out))) (Kd.R_lt (kr HO428.out))) (Kd.R_lt (kr HO431.out))) (Kd.R_lt (kr HO436.out))) (Kd.R_lt (kr HO443.out))) (Kd.R_lt (kr HO446.out))) (below_size (bl HB.out))); have n10_ := aM (bS (bl HB.out) hb); clear HO415 HO418; clear HO421 HO424; clear HO428 HO431; clear HO436 HO443; clear HO446 HB; have HO415 := n0_; have HO418 := n1_; have HO421 := n2_; have HO424 := n3_; have HO428 := n4_; have HO431 := n5_; have HO436 := n6_; have HO443 := n7_; have HO446 := n8_; have HO450 := n9_; have HB := n10_; clear n0_ n1_ n2_ n3_ n4_ n5_ n6_ n7_ n8_ n9_ n10_; (try clear hb); (try clear ho0); obtain ⟨Ao66, co66, eo66⟩ := Kd.R_slice HO424.out; subst eo66; obtain ⟨Ao67, co67, eo67⟩ := Kd.R_slice HO450.out; subst eo67) | (go_at_call 22; (with_reducible refine (laws_sameHeard.calls k _ _ t422 _ _ t448 true _ ?side1 ?side2 ?side3 ?side4 A32.out).mono ?_); (case side1 => repeat (first | exact (Kd.R_reads' HO424.out).2.2 | (with_reducible refine Kd.C_alloc ?_ _) | (with_reducible refine Kd.C_drewN ?_ _) | (with_reducible refine Kd.C_drew ?_))); (case side2 => exact (Kd.R_reads' HO424.out).2.1); (case side3 => repeat (first | exact (Kd.R_reads' HO450.out).2.2 | (with_reducible refine Kd.C_alloc ?_ _) | (with_reducible refine Kd.C_drewN ?_ _) | (with_reducible refine Kd.C_drew ?_))); (case side4 => exact (Kd.R_reads' HO450.out).2.1); rintro e w' ⟨rfl, ⟨nd, rfl⟩⟩) | (go_at_call 25; (with_reducible refine (spec_Forget.calls k _ _ t425 t426 t452 _ ?side1 ?side2 A34.out).mono ?_); (case side1 => repeat (first | exact (Kd.R_reads' HO428.out).2.2 | (with_reducible refine Kd.C_alloc ?_ _) | (with_reducible refine Kd.C_drewN ?_ _) | (with_reducible refine Kd.C_drew ?_))); (case side2 => exact (Kd.R_reads' HO428.out).2.1); rintro e w68 ⟨v453, rfl, ho0, hb⟩; have n0_ := aM (Kd.R_elder' (kr HO415.out) (Kd.R_base ho0) hb); have n1_ := aM (Kd.R_elder' (kr HO418.out) (Kd.R_base ho0) hb); have n2_ := aM (Kd.R_elder' (kr HO421.out) (Kd.R_base ho0) hb); have n3_ := aM (Kd.R_elder' (kr HO424.out) (Kd.R_base ho0) hb); have n4_ := aM (Kd.R_elder' (kr HO428.out) (Kd.R_base ho0) hb); have n5_ := aM (Kd.R_elder' (kr HO431.out) (Kd.R_base ho0) hb); have n6_ := aM (Kd.R_elder' (kr HO436.out) (Kd.R_base ho0) hb); have n7_ := aM (Kd.R_elder' (kr HO443.out) (Kd.R_base ho0) hb); have n8_ := aM (Kd.R_elder' (kr HO446.out) (Kd.R_base ho0) hb); have n9_ := aM (Kd.R_elder' (kr HO450.out) (Kd.R_base ho0) hb); have n10_ := aM (Kd.R_lower (Kd.R_new' (Kd.R_new' (Kd.R_new' (Kd.R_new' (Kd.R_new' (Kd.R_new' (Kd.R_new' (Kd.R_new' (Kd.R_new' (Kd.R_new' ho0 (Kd.R_lt (kr HO415.out))) (Kd.R_lt (kr HO418.out))) (Kd.R_lt (kr HO421.out))) (Kd.R_lt (kr HO424.out))) (Kd.R_lt (kr HO428.out))) (Kd.R_lt (kr HO431.out))) (Kd.R_lt (kr HO436.out))) (Kd.R_lt (kr HO443.out))) (Kd.R_lt (kr HO446.out))) (Kd.R_lt (kr HO450.out))) (below_size (bl HB.out))); have n11_ := aM (bS (bl HB.out) hb); clear HO415 HO418; clear HO421 HO424; clear HO428 HO431; clear HO436 HO443; clear HO446 HO450 HB; have HO415 := n0_; have HO418 := n1_; have HO421 := n2_; have HO424 := n3_; have HO428 := n4_; have HO431 := n5_; have HO436 := n6_; have HO443 := n7_; have HO446 := n8_; have HO450 := n9_; have HO454 := n10_; have HB := n11_; clear n0_ n1_ n2_ n3_ n4_ n5_ n6_ n7_ n8_ n9_ n10_ n11_; (try clear hb); (try clear ho0); obtain ⟨Ao69, co69, eo69⟩ := Kd.R_slice HO431.out; subst eo69; obtain ⟨Ao70, co70, eo70⟩ := Kd.R_slice HO454.out; subst eo70) | (go_at_call 22; (with_reducible refine (laws_sameHeard.calls k _ _ t429 _ _ t452 true _ ?side1 ?side2 ?side3 ?side4 A35.out).mono ?_); (case side1 => repeat (first | exact (Kd.R_reads' HO431.out).2.2 | (with_reducible refine Kd.C_alloc ?_ _) | (with_reducible refine Kd.C_drewN ?_ _) | (with_reducible refine Kd.C_drew ?_))); (case side2 => exact (Kd.R_reads' HO431.out).2.1); (case side3 => repeat (first | exact (Kd.R_reads' HO454.out).2.2 | (with_reducible refine Kd.C_alloc ?_ _) | (with_reducible refine Kd.C_drewN ?_ _) | (with_reducible refine Kd.C_drew ?_))); (case side4 => exact (Kd.R_reads' HO454.out).2.1); rintro e w' ⟨rfl, ⟨nd, rfl⟩⟩))
   go_meet
   case rel => exact ⟨_, (true), xE, H', ⟨by first | omega | exact Nat.le_refl _⟩, ⟨kr (Kd.R_mono HO415.out (fun _ hk => ⟨hk.1.1.1.1.1.1.1.1.1.2, ⟨hk.1.1.1.1.1.1.1.1.2, hk.1.1.1.1.1.2⟩⟩))⟩, ⟨kr (Kd.R_mono HO418.out (fun _ hk => ⟨hk.1.1.1.1.1.1.1.1.1.2, ⟨hk.1.1.1.1.1.1.1.1.2, hk.1.1.1.1.1.2⟩⟩))⟩, ⟨kr (Kd.R_mono HO421.out (fun _ hk => ⟨hk.1.1.1.1.1.1.1.1.1.2, ⟨hk.1.1.1.1.1.1.1.1.2, hk.1.1.1.1.1.2⟩⟩))⟩, ⟨kr (Kd.R_mono HO431.out (fun _ hk => ⟨hk.1.1.1.1.1.1.1.1.1.2, ⟨hk.1.1.1.1.1.1.1.1.2, hk.1.1.1.1.1.1.1.2⟩⟩))⟩, ⟨bl HB.out⟩⟩
  rw [if_pos c37] at H
  have c37b0 : (t437 == t439) = true := beq_iff_eq.mpr c37
  have c37b1 : (t437 != t439) = false := bne_eq_false_iff_eq.mpr c37
  clear c37
  (first | rw [c37b0] | (simp only [i64_w, i32_w]; rw [c37b0]) | skip)
  by_cases c38 : (t438 != t440) = true
  case pos =>
   rw [if_pos c38] at H
   have c38b0 : (t438 != t440) = true := c38
   (try (have c38b1 : decide (t438 = t440) = false := by simpa using c38))
   (try (have c38b2 : (t438 == t440) = false := by simpa using c38))
   (try (have c38b3 : ¬ (t438 = t440) := by simpa using c38))
   clear c38
   have H' := aM H
   clear H
   go_wp2_with (first | ((with_reducible refine gate_callee (f := 23) rfl ?_); refine goesL_ (some 78) rfl rfl Try.func23 (by kernel_rfl) rfl #[.slice Ao16 t410.length co16, .int .i64 t411, .int .i64 t412, .int .i64 t413] rfl xR ?_; (with_reducible refine (spec_Hear.calls k _ _ t410 t411 t412 t413 t444 _ ?side1 ?side2 A28.out).mono ?_); (case side1 => repeat (first | exact (Kd.R_reads' HO415.out).2.2 | (with_reducible refine Kd.C_alloc ?_ _) | (with_reducible refine Kd.C_drewN ?_ _) | (with_reducible refine Kd.C_drew ?_))); (case side2 => exact (Kd.R_reads' HO415.out).2.1); rintro e w39 ⟨v445, rfl, ho0, hb⟩; refine ⟨_, rfl, ?_⟩; have n0_ := aM (Kd.R_elder' (kr HO415.out) (Kd.R_base ho0) hb); have n1_ := aM (Kd.R_elder' (kr HO418.out) (Kd.R_base ho0) hb); have n2_ := aM (Kd.R_elder' (kr HO421.out) (Kd.R_base ho0) hb); have n3_ := aM (Kd.R_elder' (kr HO424.out) (Kd.R_base ho0) hb); have n4_ := aM (Kd.R_elder' (kr HO428.out) (Kd.R_base ho0) hb); have n5_ := aM (Kd.R_elder' (kr HO431.out) (Kd.R_base ho0) hb); have n6_ := aM (Kd.R_elder' (kr HO436.out) (Kd.R_base ho0) hb); have n7_ := aM (Kd.R_elder' (kr HO443.out) (Kd.R_base ho0) hb); have n8_ := aM (Kd.R_lower (Kd.R_new' (Kd.R_new' (Kd.R_new' (Kd.R_new' (Kd.R_new' (Kd.R_new' (Kd.R_new' (Kd.R_new' ho0 (Kd.R_lt (kr HO415.out))) (Kd.R_lt (kr HO418.out))) (Kd.R_lt (kr HO421.out))) (Kd.R_lt (kr HO424.out))) (Kd.R_lt (kr HO428.out))) (Kd.R_lt (kr HO431.out))) (Kd.R_lt (kr HO436.out))) (Kd.R_lt (kr HO443.out))) (below_size (bl HB.out))); have n9_ := aM (bS (bl HB.out) hb); clear HO415 HO418; clear HO421 HO424; clear HO428 HO431; clear HO436 HO443 HB; have HO415 := n0_; have HO418 := n1_; have HO421 := n2_; have HO424 := n3_; have HO428 := n4_; have HO431 := n5_; have HO436 := n6_; have HO443 := n7_; have HO446 := n8_; have HB := n9_; clear n0_ n1_ n2_ n3_ n4_ n5_ n6_ n7_ n8_ n9_; (try clear hb); (try clear ho0); obtain ⟨Ao40, co40, eo40⟩ := Kd.R_slice HO418.out; subst eo40; obtain ⟨Ao41, co41, eo41⟩ := Kd.R_slice HO446.out; subst eo41) | ((with_reducible refine gate_callee (f := 22) rfl ?_); refine goesL_ (some 79) rfl rfl Try.func22 (by kernel_rfl) rfl #[.slice Ao40 t416.length co40, .slice Ao41 t444.length co41] rfl xR ?_; (with_reducible refine (laws_sameHeard.calls k _ _ t416 _ _ t444 true _ ?side1 ?side2 ?side3 ?side4 A29.out).mono ?_); (case side1 => repeat (first | exact (Kd.R_reads' HO418.out).2.2 | (with_reducible refine Kd.C_alloc ?_ _) | (with_reducible refine Kd.C_drewN ?_ _) | (with_reducible refine Kd.C_drew ?_))); (case side2 => exact (Kd.R_reads' HO418.out).2.1); (case side3 => repeat (first | exact (Kd.R_reads' HO446.out).2.2 | (with_reducible refine Kd.C_alloc ?_ _) | (with_reducible refine Kd.C_drewN ?_ _) | (with_reducible refine Kd.C_drew ?_))); (case side4 => exact (Kd.R_reads' HO446.out).2.1); rintro e w' ⟨rfl, ⟨nd, rfl⟩⟩; refine ⟨_, rfl, ?_⟩) | (go_at_call 24; (with_reducible refine (spec_Age.calls k _ _ t419 t448 _ ?side1 ?side2 A31.out).mono ?_); (case side1 => repeat (first | exact (Kd.R_reads' HO421.out).2.2 | (with_reducible refine Kd.C_alloc ?_ _) | (with_reducible refine Kd.C_drewN ?_ _) | (with_reducible refine Kd.C_drew ?_))); (case side2 => exact (Kd.R_reads' HO421.out).2.1); rintro e w42 ⟨v449, rfl, ho0, hb⟩; have n0_ := aM (Kd.R_elder' (kr HO415.out) (Kd.R_base ho0) hb); have n1_ := aM (Kd.R_elder' (kr HO418.out) (Kd.R_base ho0) hb); have n2_ := aM (Kd.R_elder' (kr HO421.out) (Kd.R_base ho0) hb); have n3_ := aM (Kd.R_elder' (kr HO424.out) (Kd.R_base ho0) hb); have n4_ := aM (Kd.R_elder' (kr HO428.out) (Kd.R_base ho0) hb); have n5_ := aM (Kd.R_elder' (kr HO431.out) (Kd.R_base ho0) hb); have n6_ := aM (Kd.R_elder' (kr HO436.out) (Kd.R_base ho0) hb); have n7_ := aM (Kd.R_elder' (kr HO443.out) (Kd.R_base ho0) hb); have n8_ := aM (Kd.R_elder' (kr HO446.out) (Kd.R_base ho0) hb); have n9_ := aM (Kd.R_lower (Kd.R_new' (Kd.R_new' (Kd.R_new' (Kd.R_new' (Kd.R_new' (Kd.R_new' (Kd.R_new' (Kd.R_new' (Kd.R_new' ho0 (Kd.R_lt (kr HO415.out))) (Kd.R_lt (kr HO418.out))) (Kd.R_lt (kr HO421.out))) (Kd.R_lt (kr HO424.out))) (Kd.R_lt (kr HO428.out))) (Kd.R_lt (kr HO431.out))) (Kd.R_lt (kr HO436.out))) (Kd.R_lt (kr HO443.out))) (Kd.R_lt (kr HO446.out))) (below_size (bl HB.out))); have n10_ := aM (bS (bl HB.out) hb); clear HO415 HO418; clear HO421 HO424; clear HO428 HO431; clear HO436 HO443; clear HO446 HB; have HO415 := n0_; have HO418 := n1_; have HO421 := n2_; have HO424 := n3_; have HO428 := n4_; have HO431 := n5_; have HO436 := n6_; have HO443 := n7_; have HO446 := n8_; have HO450 := n9_; have HB := n10_; clear n0_ n1_ n2_ n3_ n4_ n5_ n6_ n7_ n8_ n9_ n10_; (try clear hb); (try clear ho0); obtain ⟨Ao43, co43, eo43⟩ := Kd.R_slice HO424.out; subst eo43; obtain ⟨Ao44, co44, eo44⟩ := Kd.R_slice HO450.out; subst eo44) | (go_at_call 22; (with_reducible refine (laws_sameHeard.calls k _ _ t422 _ _ t448 true _ ?side1 ?side2 ?side3 ?side4 A32.out).mono ?_); (case side1 => repeat (first | exact (Kd.R_reads' HO424.out).2.2 | (with_reducible refine Kd.C_alloc ?_ _) | (with_reducible refine Kd.C_drewN ?_ _) | (with_reducible refine Kd.C_drew ?_))); (case side2 => exact (Kd.R_reads' HO424.out).2.1); (case side3 => repeat (first | exact (Kd.R_reads' HO450.out).2.2 | (with_reducible refine Kd.C_alloc ?_ _) | (with_reducible refine Kd.C_drewN ?_ _) | (with_reducible refine Kd.C_drew ?_))); (case side4 => exact (Kd.R_reads' HO450.out).2.1); rintro e w' ⟨rfl, ⟨nd, rfl⟩⟩) | (go_at_call 25; (with_reducible refine (spec_Forget.calls k _ _ t425 t426 t452 _ ?side1 ?side2 A34.out).mono ?_); (case side1 => repeat (first | exact (Kd.R_reads' HO428.out).2.2 | (with_reducible refine Kd.C_alloc ?_ _) | (with_reducible refine Kd.C_drewN ?_ _) | (with_reducible refine Kd.C_drew ?_))); (case side2 => exact (Kd.R_reads' HO428.out).2.1); rintro e w45 ⟨v453, rfl, ho0, hb⟩; have n0_ := aM (Kd.R_elder' (kr HO415.out) (Kd.R_base ho0) hb); have n1_ := aM (Kd.R_elder' (kr HO418.out) (Kd.R_base ho0) hb); have n2_ := aM (Kd.R_elder' (kr HO421.out) (Kd.R_base ho0) hb); have n3_ := aM (Kd.R_elder' (kr HO424.out) (Kd.R_base ho0) hb); have n4_ := aM (Kd.R_elder' (kr HO428.out) (Kd.R_base ho0) hb); have n5_ := aM (Kd.R_elder' (kr HO431.out) (Kd.R_base ho0) hb); have n6_ := aM (Kd.R_elder' (kr HO436.out) (Kd.R_base ho0) hb); have n7_ := aM (Kd.R_elder' (kr HO443.out) (Kd.R_base ho0) hb); have n8_ := aM (Kd.R_elder' (kr HO446.out) (Kd.R_base ho0) hb); have n9_ := aM (Kd.R_elder' (kr HO450.out) (Kd.R_base ho0) hb); have n10_ := aM (Kd.R_lower (Kd.R_new' (Kd.R_new' (Kd.R_new' (Kd.R_new' (Kd.R_new' (Kd.R_new' (Kd.R_new' (Kd.R_new' (Kd.R_new' (Kd.R_new' ho0 (Kd.R_lt (kr HO415.out))) (Kd.R_lt (kr HO418.out))) (Kd.R_lt (kr HO421.out))) (Kd.R_lt (kr HO424.out))) (Kd.R_lt (kr HO428.out))) (Kd.R_lt (kr HO431.out))) (Kd.R_lt (kr HO436.out))) (Kd.R_lt (kr HO443.out))) (Kd.R_lt (kr HO446.out))) (Kd.R_lt (kr HO450.out))) (below_size (bl HB.out))); have n11_ := aM (bS (bl HB.out) hb); clear HO415 HO418; clear HO421 HO424; clear HO428 HO431; clear HO436 HO443; clear HO446 HO450 HB; have HO415 := n0_; have HO418 := n1_; have HO421 := n2_; have HO424 := n3_; have HO428 := n4_; have HO431 := n5_; have HO436 := n6_; have HO443 := n7_; have HO446 := n8_; have HO450 := n9_; have HO454 := n10_; have HB := n11_; clear n0_ n1_ n2_ n3_ n4_ n5_ n6_ n7_ n8_ n9_ n10_ n11_; (try clear hb); (try clear ho0); obtain ⟨Ao46, co46, eo46⟩ := Kd.R_slice HO431.out; subst eo46; obtain ⟨Ao47, co47, eo47⟩ := Kd.R_slice HO454.out; subst eo47) | (go_at_call 22; (with_reducible refine (laws_sameHeard.calls k _ _ t429 _ _ t452 true _ ?side1 ?side2 ?side3 ?side4 A35.out).mono ?_); (case side1 => repeat (first | exact (Kd.R_reads' HO431.out).2.2 | (with_reducible refine Kd.C_alloc ?_ _) | (with_reducible refine Kd.C_drewN ?_ _) | (with_reducible refine Kd.C_drew ?_))); (case side2 => exact (Kd.R_reads' HO431.out).2.1); (case side3 => repeat (first | exact (Kd.R_reads' HO454.out).2.2 | (with_reducible refine Kd.C_alloc ?_ _) | (with_reducible refine Kd.C_drewN ?_ _) | (with_reducible refine Kd.C_drew ?_))); (case side4 => exact (Kd.R_reads' HO454.out).2.1); rintro e w' ⟨rfl, ⟨nd, rfl⟩⟩))
   go_meet
   case rel => exact ⟨_, (true), xE, H', ⟨by first | omega | exact Nat.le_refl _⟩, ⟨kr (Kd.R_mono HO415.out (fun _ hk => ⟨hk.1.1.1.1.1.1.1.1.1.2, ⟨hk.1.1.1.1.1.1.1.1.2, hk.1.1.1.1.1.2⟩⟩))⟩, ⟨kr (Kd.R_mono HO418.out (fun _ hk => ⟨hk.1.1.1.1.1.1.1.1.1.2, ⟨hk.1.1.1.1.1.1.1.1.2, hk.1.1.1.1.1.2⟩⟩))⟩, ⟨kr (Kd.R_mono HO421.out (fun _ hk => ⟨hk.1.1.1.1.1.1.1.1.1.2, ⟨hk.1.1.1.1.1.1.1.1.2, hk.1.1.1.1.1.2⟩⟩))⟩, ⟨kr (Kd.R_mono HO431.out (fun _ hk => ⟨hk.1.1.1.1.1.1.1.1.1.2, ⟨hk.1.1.1.1.1.1.1.1.2, hk.1.1.1.1.1.1.1.2⟩⟩))⟩, ⟨bl HB.out⟩⟩
  rw [if_neg c38] at H
  have c38b0 : (t438 != t440) = false := by simpa using c38
  (try (have c38b1 : decide (t438 = t440) = true := by simpa using c38))
  (try (have c38b2 : (t438 == t440) = true := by simpa using c38))
  clear c38
  replace H := Option.bind_eq_some_iff.mp H
  obtain ⟨t456, A480, H⟩ := H
  replace H : ((spec_TableOk.f k t441).bind fun t457 => (laws_FnTables.j0 k t410 t411 t412 t413 t416 t419 t426 t429 (t456 != t457))) = some r := H
  have A48 := aM A480
  clear A480
  replace H := Option.bind_eq_some_iff.mp H
  obtain ⟨t457, A490, H⟩ := H
  replace H : (laws_FnTables.j0 k t410 t411 t412 t413 t416 t419 t426 t429 (t456 != t457)) = some r := H
  have A49 := aM A490
  clear A490
  have H' := aM H
  clear H
  go_wp2_with (first | ((with_reducible refine gate_callee (f := 23) rfl ?_); refine goesL_ (some 78) rfl rfl Try.func23 (by kernel_rfl) rfl #[.slice Ao16 t410.length co16, .int .i64 t411, .int .i64 t412, .int .i64 t413] rfl xR ?_; (with_reducible refine (spec_Hear.calls k _ _ t410 t411 t412 t413 t444 _ ?side1 ?side2 A28.out).mono ?_); (case side1 => repeat (first | exact (Kd.R_reads' HO415.out).2.2 | (with_reducible refine Kd.C_alloc ?_ _) | (with_reducible refine Kd.C_drewN ?_ _) | (with_reducible refine Kd.C_drew ?_))); (case side2 => exact (Kd.R_reads' HO415.out).2.1); rintro e w50 ⟨v445, rfl, ho0, hb⟩; refine ⟨_, rfl, ?_⟩; have n0_ := aM (Kd.R_elder' (kr HO415.out) (Kd.R_base ho0) hb); have n1_ := aM (Kd.R_elder' (kr HO418.out) (Kd.R_base ho0) hb); have n2_ := aM (Kd.R_elder' (kr HO421.out) (Kd.R_base ho0) hb); have n3_ := aM (Kd.R_elder' (kr HO424.out) (Kd.R_base ho0) hb); have n4_ := aM (Kd.R_elder' (kr HO428.out) (Kd.R_base ho0) hb); have n5_ := aM (Kd.R_elder' (kr HO431.out) (Kd.R_base ho0) hb); have n6_ := aM (Kd.R_elder' (kr HO436.out) (Kd.R_base ho0) hb); have n7_ := aM (Kd.R_elder' (kr HO443.out) (Kd.R_base ho0) hb); have n8_ := aM (Kd.R_lower (Kd.R_new' (Kd.R_new' (Kd.R_new' (Kd.R_new' (Kd.R_new' (Kd.R_new' (Kd.R_new' (Kd.R_new' ho0 (Kd.R_lt (kr HO415.out))) (Kd.R_lt (kr HO418.out))) (Kd.R_lt (kr HO421.out))) (Kd.R_lt (kr HO424.out))) (Kd.R_lt (kr HO428.out))) (Kd.R_lt (kr HO431.out))) (Kd.R_lt (kr HO436.out))) (Kd.R_lt (kr HO443.out))) (below_size (bl HB.out))); have n9_ := aM (bS (bl HB.out) hb); clear HO415 HO418; clear HO421 HO424; clear HO428 HO431; clear HO436 HO443 HB; have HO415 := n0_; have HO418 := n1_; have HO421 := n2_; have HO424 := n3_; have HO428 := n4_; have HO431 := n5_; have HO436 := n6_; have HO443 := n7_; have HO446 := n8_; have HB := n9_; clear n0_ n1_ n2_ n3_ n4_ n5_ n6_ n7_ n8_ n9_; (try clear hb); (try clear ho0); obtain ⟨Ao51, co51, eo51⟩ := Kd.R_slice HO418.out; subst eo51; obtain ⟨Ao52, co52, eo52⟩ := Kd.R_slice HO446.out; subst eo52) | ((with_reducible refine gate_callee (f := 22) rfl ?_); refine goesL_ (some 79) rfl rfl Try.func22 (by kernel_rfl) rfl #[.slice Ao51 t416.length co51, .slice Ao52 t444.length co52] rfl xR ?_; (with_reducible refine (laws_sameHeard.calls k _ _ t416 _ _ t444 true _ ?side1 ?side2 ?side3 ?side4 A29.out).mono ?_); (case side1 => repeat (first | exact (Kd.R_reads' HO418.out).2.2 | (with_reducible refine Kd.C_alloc ?_ _) | (with_reducible refine Kd.C_drewN ?_ _) | (with_reducible refine Kd.C_drew ?_))); (case side2 => exact (Kd.R_reads' HO418.out).2.1); (case side3 => repeat (first | exact (Kd.R_reads' HO446.out).2.2 | (with_reducible refine Kd.C_alloc ?_ _) | (with_reducible refine Kd.C_drewN ?_ _) | (with_reducible refine Kd.C_drew ?_))); (case side4 => exact (Kd.R_reads' HO446.out).2.1); rintro e w' ⟨rfl, ⟨nd, rfl⟩⟩; refine ⟨_, rfl, ?_⟩) | (go_at_call 24; (with_reducible refine (spec_Age.calls k _ _ t419 t448 _ ?side1 ?side2 A31.out).mono ?_); (case side1 => repeat (first | exact (Kd.R_reads' HO421.out).2.2 | (with_reducible refine Kd.C_alloc ?_ _) | (with_reducible refine Kd.C_drewN ?_ _) | (with_reducible refine Kd.C_drew ?_))); (case side2 => exact (Kd.R_reads' HO421.out).2.1); rintro e w53 ⟨v449, rfl, ho0, hb⟩; have n0_ := aM (Kd.R_elder' (kr HO415.out) (Kd.R_base ho0) hb); have n1_ := aM (Kd.R_elder' (kr HO418.out) (Kd.R_base ho0) hb); have n2_ := aM (Kd.R_elder' (kr HO421.out) (Kd.R_base ho0) hb); have n3_ := aM (Kd.R_elder' (kr HO424.out) (Kd.R_base ho0) hb); have n4_ := aM (Kd.R_elder' (kr HO428.out) (Kd.R_base ho0) hb); have n5_ := aM (Kd.R_elder' (kr HO431.out) (Kd.R_base ho0) hb); have n6_ := aM (Kd.R_elder' (kr HO436.out) (Kd.R_base ho0) hb); have n7_ := aM (Kd.R_elder' (kr HO443.out) (Kd.R_base ho0) hb); have n8_ := aM (Kd.R_elder' (kr HO446.out) (Kd.R_base ho0) hb); have n9_ := aM (Kd.R_lower (Kd.R_new' (Kd.R_new' (Kd.R_new' (Kd.R_new' (Kd.R_new' (Kd.R_new' (Kd.R_new' (Kd.R_new' (Kd.R_new' ho0 (Kd.R_lt (kr HO415.out))) (Kd.R_lt (kr HO418.out))) (Kd.R_lt (kr HO421.out))) (Kd.R_lt (kr HO424.out))) (Kd.R_lt (kr HO428.out))) (Kd.R_lt (kr HO431.out))) (Kd.R_lt (kr HO436.out))) (Kd.R_lt (kr HO443.out))) (Kd.R_lt (kr HO446.out))) (below_size (bl HB.out))); have n10_ := aM (bS (bl HB.out) hb); clear HO415 HO418; clear HO421 HO424; clear HO428 HO431; clear HO436 HO443; clear HO446 HB; have HO415 := n0_; have HO418 := n1_; have HO421 := n2_; have HO424 := n3_; have HO428 := n4_; have HO431 := n5_; have HO436 := n6_; have HO443 := n7_; have HO446 := n8_; have HO450 := n9_; have HB := n10_; clear n0_ n1_ n2_ n3_ n4_ n5_ n6_ n7_ n8_ n9_ n10_; (try clear hb); (try clear ho0); obtain ⟨Ao54, co54, eo54⟩ := Kd.R_slice HO424.out; subst eo54; obtain ⟨Ao55, co55, eo55⟩ := Kd.R_slice HO450.out; subst eo55) | (go_at_call 22; (with_reducible refine (laws_sameHeard.calls k _ _ t422 _ _ t448 true _ ?side1 ?side2 ?side3 ?side4 A32.out).mono ?_); (case side1 => repeat (first | exact (Kd.R_reads' HO424.out).2.2 | (with_reducible refine Kd.C_alloc ?_ _) | (with_reducible refine Kd.C_drewN ?_ _) | (with_reducible refine Kd.C_drew ?_))); (case side2 => exact (Kd.R_reads' HO424.out).2.1); (case side3 => repeat (first | exact (Kd.R_reads' HO450.out).2.2 | (with_reducible refine Kd.C_alloc ?_ _) | (with_reducible refine Kd.C_drewN ?_ _) | (with_reducible refine Kd.C_drew ?_))); (case side4 => exact (Kd.R_reads' HO450.out).2.1); rintro e w' ⟨rfl, ⟨nd, rfl⟩⟩) | (go_at_call 25; (with_reducible refine (spec_Forget.calls k _ _ t425 t426 t452 _ ?side1 ?side2 A34.out).mono ?_); (case side1 => repeat (first | exact (Kd.R_reads' HO428.out).2.2 | (with_reducible refine Kd.C_alloc ?_ _) | (with_reducible refine Kd.C_drewN ?_ _) | (with_reducible refine Kd.C_drew ?_))); (case side2 => exact (Kd.R_reads' HO428.out).2.1); rintro e w56 ⟨v453, rfl, ho0, hb⟩; have n0_ := aM (Kd.R_elder' (kr HO415.out) (Kd.R_base ho0) hb); have n1_ := aM (Kd.R_elder' (kr HO418.out) (Kd.R_base ho0) hb); have n2_ := aM (Kd.R_elder' (kr HO421.out) (Kd.R_base ho0) hb); have n3_ := aM (Kd.R_elder' (kr HO424.out) (Kd.R_base ho0) hb); have n4_ := aM (Kd.R_elder' (kr HO428.out) (Kd.R_base ho0) hb); have n5_ := aM (Kd.R_elder' (kr HO431.out) (Kd.R_base ho0) hb); have n6_ := aM (Kd.R_elder' (kr HO436.out) (Kd.R_base ho0) hb); have n7_ := aM (Kd.R_elder' (kr HO443.out) (Kd.R_base ho0) hb); have n8_ := aM (Kd.R_elder' (kr HO446.out) (Kd.R_base ho0) hb); have n9_ := aM (Kd.R_elder' (kr HO450.out) (Kd.R_base ho0) hb); have n10_ := aM (Kd.R_lower (Kd.R_new' (Kd.R_new' (Kd.R_new' (Kd.R_new' (Kd.R_new' (Kd.R_new' (Kd.R_new' (Kd.R_new' (Kd.R_new' (Kd.R_new' ho0 (Kd.R_lt (kr HO415.out))) (Kd.R_lt (kr HO418.out))) (Kd.R_lt (kr HO421.out))) (Kd.R_lt (kr HO424.out))) (Kd.R_lt (kr HO428.out))) (Kd.R_lt (kr HO431.out))) (Kd.R_lt (kr HO436.out))) (Kd.R_lt (kr HO443.out))) (Kd.R_lt (kr HO446.out))) (Kd.R_lt (kr HO450.out))) (below_size (bl HB.out))); have n11_ := aM (bS (bl HB.out) hb); clear HO415 HO418; clear HO421 HO424; clear HO428 HO431; clear HO436 HO443; clear HO446 HO450 HB; have HO415 := n0_; have HO418 := n1_; have HO421 := n2_; have HO424 := n3_; have HO428 := n4_; have HO431 := n5_; have HO436 := n6_; have HO443 := n7_; have HO446 := n8_; have HO450 := n9_; have HO454 := n10_; have HB := n11_; clear n0_ n1_ n2_ n3_ n4_ n5_ n6_ n7_ n8_ n9_ n10_ n11_; (try clear hb); (try clear ho0); obtain ⟨Ao57, co57, eo57⟩ := Kd.R_slice HO431.out; subst eo57; obtain ⟨Ao58, co58, eo58⟩ := Kd.R_slice HO454.out; subst eo58) | (go_at_call 22; (with_reducible refine (laws_sameHeard.calls k _ _ t429 _ _ t452 true _ ?side1 ?side2 ?side3 ?side4 A35.out).mono ?_); (case side1 => repeat (first | exact (Kd.R_reads' HO431.out).2.2 | (with_reducible refine Kd.C_alloc ?_ _) | (with_reducible refine Kd.C_drewN ?_ _) | (with_reducible refine Kd.C_drew ?_))); (case side2 => exact (Kd.R_reads' HO431.out).2.1); (case side3 => repeat (first | exact (Kd.R_reads' HO454.out).2.2 | (with_reducible refine Kd.C_alloc ?_ _) | (with_reducible refine Kd.C_drewN ?_ _) | (with_reducible refine Kd.C_drew ?_))); (case side4 => exact (Kd.R_reads' HO454.out).2.1); rintro e w' ⟨rfl, ⟨nd, rfl⟩⟩; obtain ⟨Ao59, co59, eo59⟩ := Kd.R_slice HO443.out; subst eo59) | (go_at_call 26; (with_reducible refine (impl_TableOk.calls k _ _ t441 t456 _ ?side1 ?side2 A48.out).mono ?_); (case side1 => repeat (first | exact (Kd.R_reads' HO443.out).2.2 | (with_reducible refine Kd.C_alloc ?_ _) | (with_reducible refine Kd.C_drewN ?_ _) | (with_reducible refine Kd.C_drew ?_))); (case side2 => exact (Kd.R_reads' HO443.out).2.1); rintro e w60 ⟨rfl, hb⟩; have n0_ := aM (kB (kr HO415.out) hb); have n1_ := aM (kB (kr HO418.out) hb); have n2_ := aM (kB (kr HO421.out) hb); have n3_ := aM (kB (kr HO424.out) hb); have n4_ := aM (kB (kr HO428.out) hb); have n5_ := aM (kB (kr HO431.out) hb); have n6_ := aM (kB (kr HO436.out) hb); have n7_ := aM (kB (kr HO443.out) hb); have n8_ := aM (kB (kr HO446.out) hb); have n9_ := aM (kB (kr HO450.out) hb); have n10_ := aM (kB (kr HO454.out) hb); have n11_ := aM (bS (bl HB.out) hb); clear HO415 HO418; clear HO421 HO424; clear HO428 HO431; clear HO436 HO443; clear HO446 HO450; clear HO454 HB; have HO415 := n0_; have HO418 := n1_; have HO421 := n2_; have HO424 := n3_; have HO428 := n4_; have HO431 := n5_; have HO436 := n6_; have HO443 := n7_; have HO446 := n8_; have HO450 := n9_; have HO454 := n10_; have HB := n11_; clear n0_ n1_ n2_ n3_ n4_ n5_ n6_ n7_ n8_ n9_ n10_ n11_; (try clear hb)) | (go_at_call 27; (with_reducible refine (spec_TableOk.calls k _ _ t441 t457 _ ?side1 ?side2 A49.out).mono ?_); (case side1 => repeat (first | exact (Kd.R_reads' HO443.out).2.2 | (with_reducible refine Kd.C_alloc ?_ _) | (with_reducible refine Kd.C_drewN ?_ _) | (with_reducible refine Kd.C_drew ?_))); (case side2 => exact (Kd.R_reads' HO443.out).2.1); rintro e w61 ⟨rfl, hb⟩; have n0_ := aM (kB (kr HO415.out) hb); have n1_ := aM (kB (kr HO418.out) hb); have n2_ := aM (kB (kr HO421.out) hb); have n3_ := aM (kB (kr HO424.out) hb); have n4_ := aM (kB (kr HO428.out) hb); have n5_ := aM (kB (kr HO431.out) hb); have n6_ := aM (kB (kr HO436.out) hb); have n7_ := aM (kB (kr HO443.out) hb); have n8_ := aM (kB (kr HO446.out) hb); have n9_ := aM (kB (kr HO450.out) hb); have n10_ := aM (kB (kr HO454.out) hb); have n11_ := aM (bS (bl HB.out) hb); clear HO415 HO418; clear HO421 HO424; clear HO428 HO431; clear HO436 HO443; clear HO446 HO450; clear HO454 HB; have HO415 := n0_; have HO418 := n1_; have HO421 := n2_; have HO424 := n3_; have HO428 := n4_; have HO431 := n5_; have HO436 := n6_; have HO443 := n7_; have HO446 := n8_; have HO450 := n9_; have HO454 := n10_; have HB := n11_; clear n0_ n1_ n2_ n3_ n4_ n5_ n6_ n7_ n8_ n9_ n10_ n11_; (try clear hb)))
  go_meet
  case rel => exact ⟨_, ((t456 != t457)), xE, H', ⟨by first | omega | exact Nat.le_refl _⟩, ⟨kr (Kd.R_mono HO415.out (fun _ hk => ⟨hk.1.1.1.1.1.1.1.1.1.2, ⟨hk.1.1.1.1.1.1.1.1.2, hk.1.1.1.1.1.2⟩⟩))⟩, ⟨kr (Kd.R_mono HO418.out (fun _ hk => ⟨hk.1.1.1.1.1.1.1.1.1.2, ⟨hk.1.1.1.1.1.1.1.1.2, hk.1.1.1.1.1.2⟩⟩))⟩, ⟨kr (Kd.R_mono HO421.out (fun _ hk => ⟨hk.1.1.1.1.1.1.1.1.1.2, ⟨hk.1.1.1.1.1.1.1.1.2, hk.1.1.1.1.1.2⟩⟩))⟩, ⟨kr (Kd.R_mono HO431.out (fun _ hk => ⟨hk.1.1.1.1.1.1.1.1.1.2, ⟨hk.1.1.1.1.1.1.1.1.2, hk.1.1.1.1.1.1.1.2⟩⟩))⟩, ⟨bl HB.out⟩⟩
 case rest =>
  clear HC14
  try clear c1
  try clear c2
  try clear p2
  try clear c3
  try clear c11
  try clear c12
  try clear c13
  try clear c14
  try clear c15
  try clear c16
  try clear c17
  try clear c18
  try clear c19
  try clear c20
  try clear c21
  try clear c22
  try clear c23
  try clear c30
  try clear c33
  try clear c36
  try clear c37
  try clear c37b0
  try clear c37b1
  try clear c38
  try clear c38b0
  try clear c38b1
  try clear c38b2
  obtain ⟨kq, x112_13, rfl, HA, HJ13, HO_3, HO_7, HO_8, HO_12, HB⟩ := hcut
  cases kq with
  | zero => exact absurd HA.out (by simp [laws_FnTables.j0])
  | succ kj13 =>
   have H := HA.out
   clear HA
   simp only [laws_FnTables.j0] at H
   by_cases c89 : x112_13 = true
   case pos =>
    subst c89
    have H1 : (some false) = some r := by rw [if_pos rfl] at H; exact H
    clear H
    have H := H1
    clear H1
    obtain rfl := Option.some.inj H
    go_wp2
    go_ret
    exact ⟨xW, bl HB.out⟩
   replace c89 := Bool.eq_false_iff.mpr c89
   subst c89
   have H1 : (laws_FnTables.l0 kj13 t410 t411 t412 t413 t416 t419 t426 t429 0) = some r := by rw [if_neg (show ¬ (false = true) by decide)] at H; exact H
   clear H
   have H := H1
   clear H1
   have H' := aM H
   clear H
   go_wp2
   go_loopg [21] kj13 (fun kq v21 w' => ∃ (x21_2 : Int), v21 = .int .i64 x21_2 ∧ Aside0 (laws_FnTables.l0 kq t410 t411 t412 t413 t416 t419 t426 t429 x21_2 = some r) ∧ Aside0 (kq ≤ kj13) ∧ Aside0 (Kd.R k40 40 w' w.heap.size (fun k_ => some k_ ≠ (v417 : Value).ownBlock ∧ some k_ ≠ ((.slice Ao19 t419.length co19) : Value).ownBlock ∧ some k_ ≠ (v430 : Value).ownBlock) (.slice Ao16 t410.length co16) t410) ∧ Aside0 (Kd.R k40 40 w' w.heap.size (fun k_ => some k_ ≠ ((.slice Ao16 t410.length co16) : Value).ownBlock ∧ some k_ ≠ ((.slice Ao19 t419.length co19) : Value).ownBlock ∧ some k_ ≠ (v430 : Value).ownBlock) v417 t416) ∧ Aside0 (Kd.R k40 40 w' w.heap.size (fun k_ => some k_ ≠ ((.slice Ao16 t410.length co16) : Value).ownBlock ∧ some k_ ≠ (v417 : Value).ownBlock ∧ some k_ ≠ (v430 : Value).ownBlock) (.slice Ao19 t419.length co19) t419) ∧ Aside0 (Kd.R k40 40 w' w.heap.size (fun k_ => some k_ ≠ ((.slice Ao16 t410.length co16) : Value).ownBlock ∧ some k_ ≠ (v417 : Value).ownBlock ∧ some k_ ≠ ((.slice Ao19 t419.length co19) : Value).ownBlock) v430 t429) ∧ Aside0 (Below w.heap.size w w'))
   case atStart => exact ⟨(0), xE, H', ⟨Nat.le_refl _⟩, ⟨kr HO_3.out⟩, ⟨kr HO_7.out⟩, ⟨kr HO_8.out⟩, ⟨kr HO_12.out⟩, ⟨bl HB.out⟩⟩
   case round =>
    clear H'
    try clear c1
    try clear c2
    try clear p2
    try clear c3
    try clear c8
    try clear c11
    try clear c12
    try clear c13
    try clear c14
    try clear c15
    try clear c16
    try clear c17
    try clear c18
    try clear c19
    try clear c20
    try clear c21
    try clear c22
    try clear c23
    try clear c30
    try clear c33
    try clear c36
    try clear c37
    try clear c37b0
    try clear c37b1
    try clear c38
    try clear c38b0
    try clear c38b1
    try clear c38b2
    try clear c89
    try clear p2
    obtain ⟨x21_2, rfl, HA, HK2, HO_3, HO_7, HO_8, HO_12, HB⟩ := hrel
    cases gk with
    | zero => exact absurd HA.out (by simp [laws_FnTables.l0])
    | succ k2 =>
     have H := HA.out
     clear HA
     simp only [laws_FnTables.l0] at H
     by_cases c90 : x21_2 < (t429.length : Int)
     case pos =>
      rw [if_pos c90] at H
      have c90b0 : decide (x21_2 < (t429.length : Int)) = true := decide_eq_true c90
      clear c90
      by_cases c91 : 0 ≤ x21_2
      case neg =>
       rw [if_neg c91] at H
       exact absurd H (by simp)
      rw [if_pos c91] at H
      have c91b0 : decide (0 ≤ x21_2) = true := decide_eq_true c91
      clear c91
      by_cases c92 : ((rd_T40 t429 x21_2).f2) = t426
      case pos =>
       rw [if_pos c92] at H
       have c92b0 : (((rd_T40 t429 x21_2).f2) == t426) = true := beq_iff_eq.mpr c92
       have c92b1 : (((rd_T40 t429 x21_2).f2) != t426) = false := bne_eq_false_iff_eq.mpr c92
       clear c92
       obtain rfl := Option.some.inj H
       obtain ⟨Ao93, co93, eo93⟩ := Kd.R_slice HO_12.out
       subst eo93
       have p458 : 0 ≤ (x21_2 : Int) := of_decide_eq_true (by first | (with_reducible assumption) | assumption)
       have q458 : x21_2 < (t429.length : Int) := of_decide_eq_true (by first | (with_reducible assumption) | assumption)
       obtain ⟨ad458, e458, hx458_0, hx458_1, hx458_2, hx458_3⟩ := at_T40 (Kd.R_reads' HO_12.out).2.2 x21_2 p458 q458
       cases e458
       replace p458 := eq_true p458
       replace q458 := eq_true q458
       go_wp2
       go_ret
       exact ⟨xW, bl HB.out⟩
      rw [if_neg c92] at H
      have c92b0 : (((rd_T40 t429 x21_2).f2) == t426) = false := beq_eq_false_iff_ne.mpr c92
      have c92b1 : (((rd_T40 t429 x21_2).f2) != t426) = true := bne_iff_ne.mpr c92
      have H' := aM H
      clear H
      obtain ⟨Ao94, co94, eo94⟩ := Kd.R_slice HO_12.out
      subst eo94
      have p458 : 0 ≤ (x21_2 : Int) := of_decide_eq_true (by first | (with_reducible assumption) | assumption)
      have q458 : x21_2 < (t429.length : Int) := of_decide_eq_true (by first | (with_reducible assumption) | assumption)
      obtain ⟨ad458, e458, hx458_0, hx458_1, hx458_2, hx458_3⟩ := at_T40 (Kd.R_reads' HO_12.out).2.2 x21_2 p458 q458
      cases e458
      replace p458 := eq_true p458
      replace q458 := eq_true q458
      go_wp2
      go_roundg k2
      case measure => have := HJ13.out; have := HK2.out; omega
      case rel => exact ⟨(wrap64 (x21_2 + 1)), xE, H', ⟨by have := HJ13.out; have := HK2.out; omega⟩, ⟨kr HO_3.out⟩, ⟨kr HO_7.out⟩, ⟨kr HO_8.out⟩, ⟨kr HO_12.out⟩, ⟨bl HB.out⟩⟩
     rw [if_neg c90] at H
     have c90b0 : decide (x21_2 < (t429.length : Int)) = false := decide_eq_false c90
     clear c90
     replace H := Option.bind_eq_some_iff.mp H
     obtain ⟨t459, A950, H⟩ := H
     replace H : (if t459 = true then (laws_FnTables.l1 k2 t410 t411 t412 t413 t416 t419 0) else (laws_FnTables.j3 k2 t410 t411 t412 t413 t416)) = some r := H
     have A95 := aM A950
     clear A950
     have HC96 := aM H
     clear H
     obtain ⟨Ao97, co97, eo97⟩ := Kd.R_slice HO_12.out
     subst eo97
     go_upto_if 127 with (first | ((with_reducible refine gate_callee (f := 26) rfl ?_); refine goesL_ (some 127) rfl rfl Try.func26 (by kernel_rfl) rfl #[.slice Ao19 t419.length co19] rfl xR ?_; (with_reducible refine (impl_TableOk.calls k2 _ _ t419 t459 _ ?side1 ?side2 A95.out).mono ?_); (case side1 => repeat (first | exact (Kd.R_reads' HO_8.out).2.2 | (with_reducible refine Kd.C_alloc ?_ _) | (with_reducible refine Kd.C_drewN ?_ _) | (with_reducible refine Kd.C_drew ?_))); (case side2 => exact (Kd.R_reads' HO_8.out).2.1); rintro e w98 ⟨rfl, hb⟩; refine ⟨_, rfl, ?_⟩; have n0_ := aM (kB (kr HO_3.out) hb); have n1_ := aM (kB (kr HO_7.out) hb); have n2_ := aM (kB (kr HO_8.out) hb); have n3_ := aM (kB (kr HO_12.out) hb); have n4_ := aM (bS (bl HB.out) hb); clear HO_3 HO_7; clear HO_8 HO_12 HB; have HO_3 := n0_; have HO_7 := n1_; have HO_8 := n2_; have HO_12 := n3_; have HB := n4_; clear n0_ n1_ n2_ n3_ n4_; (try clear hb)))
     (try simp only [Act.put, sA, sZ, sS])
     go_cut [] (fun wc => ∃ (kq : Nat), Aside0 (laws_FnTables.j3 kq t410 t411 t412 t413 t416 = some r) ∧ Aside0 (kq ≤ k2) ∧ Aside0 (Kd.R k40 40 wc w.heap.size (fun k_ => some k_ ≠ (v417 : Value).ownBlock) (.slice Ao16 t410.length co16) t410) ∧ Aside0 (Kd.R k40 40 wc w.heap.size (fun k_ => some k_ ≠ ((.slice Ao16 t410.length co16) : Value).ownBlock) v417 t416) ∧ Aside0 (Below w.heap.size w wc))
     case first =>
      have H := HC96.out
      clear HC96
      by_cases c99 : t459 = true
      case neg =>
       replace c99 := Bool.eq_false_iff.mpr c99
       subst c99
       have H1 : (laws_FnTables.j3 k2 t410 t411 t412 t413 t416) = some r := by rw [if_neg (show ¬ (false = true) by decide)] at H; exact H
       clear H
       have H := H1
       clear H1
       have H' := aM H
       clear H
       go_wp2
       go_meet
       case rel => exact ⟨_, H', ⟨by have := HJ13.out; have := HK2.out; first | omega | exact Nat.le_refl _⟩, ⟨kr (Kd.R_mono HO_3.out (fun _ hk => hk.1))⟩, ⟨kr (Kd.R_mono HO_7.out (fun _ hk => hk.1))⟩, ⟨bl HB.out⟩⟩
      subst c99
      have H1 : (laws_FnTables.l1 k2 t410 t411 t412 t413 t416 t419 0) = some r := by rw [if_pos rfl] at H; exact H
      clear H
      have H := H1
      clear H1
      have H' := aM H
      clear H
      go_wp2
      go_loopg [8, 22] k2 (fun kq v8 v22 w' => ∃ (x8_3 : List (S40)) (x22_3 : Int), v22 = .int .i64 x22_3 ∧ Aside0 (laws_FnTables.l1 kq t410 t411 t412 t413 t416 x8_3 x22_3 = some r) ∧ Aside0 (kq ≤ k2) ∧ Aside0 (Kd.R k40 40 w' w.heap.size (fun k_ => some k_ ≠ (v417 : Value).ownBlock ∧ some k_ ≠ (v8 : Value).ownBlock) (.slice Ao16 t410.length co16) t410) ∧ Aside0 (Kd.R k40 40 w' w.heap.size (fun k_ => some k_ ≠ ((.slice Ao16 t410.length co16) : Value).ownBlock ∧ some k_ ≠ (v8 : Value).ownBlock) v417 t416) ∧ Aside0 (Kd.R k40 40 w' w.heap.size (fun k_ => some k_ ≠ ((.slice Ao16 t410.length co16) : Value).ownBlock ∧ some k_ ≠ (v417 : Value).ownBlock) v8 x8_3) ∧ Aside0 (Below w.heap.size w w'))
      case atStart => exact ⟨(t419), (0), xE, H', ⟨Nat.le_refl _⟩, ⟨kr (Kd.R_mono HO_3.out (fun _ hk => ⟨hk.1, hk.2.1⟩))⟩, ⟨kr (Kd.R_mono HO_7.out (fun _ hk => ⟨hk.1, hk.2.1⟩))⟩, ⟨kr (Kd.R_mono HO_8.out (fun _ hk => ⟨hk.1, hk.2.1⟩))⟩, ⟨bl HB.out⟩⟩
      case round =>
       clear H'
       try clear c1
       try clear c2
       try clear p2
       try clear c3
       try clear p4
       try clear q4
       try clear hx4
       try clear p6
       try clear c8
       try clear c9
       try clear c11
       try clear c12
       try clear c13
       try clear c14
       try clear c15
       try clear c16
       try clear c17
       try clear c18
       try clear c19
       try clear c20
       try clear c21
       try clear c22
       try clear c23
       try clear c26
       try clear c30
       try clear c33
       try clear c36
       try clear c37
       try clear c37b0
       try clear c37b1
       try clear c38
       try clear c38b0
       try clear c38b1
       try clear c38b2
       try clear p45
       try clear q45
       try clear hx45
       try clear p64
       try clear c89
       try clear c90
       try clear c90b0
       try clear c91
       try clear c91b0
       try clear c92
       try clear c92b0
       try clear c92b1
       try clear c99
       try clear hx458_0
       try clear hx458_1
       try clear hx458_2
       try clear hx458_3
       try clear p2
       try clear p458
       try clear q458
       obtain ⟨x8_3, x22_3, rfl, HA, HK3, HO_3, HO_7, HO_8, HB⟩ := hrel
       cases gk with
       | zero => exact absurd HA.out (by simp [laws_FnTables.l1])
       | succ k3 =>
        have H := HA.out
        clear HA
        simp only [laws_FnTables.l1] at H
        by_cases c100 : x22_3 < 20
        case pos =>
         rw [if_pos c100] at H
         have c100b0 : decide (x22_3 < 20) = true := decide_eq_true c100
         clear c100
         (first | rw [c100b0] | (simp only [i64_w, i32_w]; rw [c100b0]) | skip)
         replace H := Option.bind_eq_some_iff.mp H
         obtain ⟨t460, A1010, H⟩ := H
         replace H : (laws_FnTables.l1 k3 t410 t411 t412 t413 t416 t460 (wrap64 (x22_3 + 1))) = some r := H
         have A101 := aM A1010
         clear A1010
         have H' := aM H
         clear H
         obtain ⟨Ao102, co102, eo102⟩ := Kd.R_slice HO_8.out
         subst eo102
         go_wp2_with (first | ((with_reducible refine gate_callee (f := 15) rfl ?_); refine goesL_ (some 133) rfl rfl Try.func15 (by kernel_rfl) rfl #[.slice Ao102 x8_3.length co102] rfl xR ?_; (with_reducible refine (impl_Age.calls k3 _ _ x8_3 t460 _ ?side1 ?side2 A101.out).mono ?_); (case side1 => repeat (first | exact (Kd.R_reads' HO_8.out).2.2 | (with_reducible refine Kd.C_alloc ?_ _) | (with_reducible refine Kd.C_drewN ?_ _) | (with_reducible refine Kd.C_drew ?_))); (case side2 => exact (Kd.R_reads' HO_8.out).2.1); rintro e w103 ⟨v461, rfl, ho0, hb⟩; refine ⟨_, rfl, ?_⟩; have n0_ := aM (Kd.R_elder' (kr HO_3.out) (Kd.R_base ho0) hb); have n1_ := aM (Kd.R_elder' (kr HO_7.out) (Kd.R_base ho0) hb); have n2_ := aM (Kd.R_elder' (kr HO_8.out) (Kd.R_base ho0) hb); have n3_ := aM (Kd.R_lower (Kd.R_new' (Kd.R_new' (Kd.R_new' ho0 (Kd.R_lt (kr HO_3.out))) (Kd.R_lt (kr HO_7.out))) (Kd.R_lt (kr HO_8.out))) (below_size (bl HB.out))); have n4_ := aM (bS (bl HB.out) hb); clear HO_3 HO_7; clear HO_8 HB; have HO_3 := n0_; have HO_7 := n1_; have HO_8 := n2_; have HO462 := n3_; have HB := n4_; clear n0_ n1_ n2_ n3_ n4_; (try clear hb); (try clear ho0)))
         go_roundg k3
         case measure => have := HJ13.out; have := HK2.out; have := HK3.out; omega
         case rel => exact ⟨(t460), (wrap64 (x22_3 + 1)), xE, H', ⟨by have := HJ13.out; have := HK2.out; have := HK3.out; omega⟩, ⟨kr (Kd.R_mono HO_3.out (fun _ hk => ⟨hk.1.1, hk.2⟩))⟩, ⟨kr (Kd.R_mono HO_7.out (fun _ hk => ⟨hk.1.1, hk.2⟩))⟩, ⟨kr (Kd.R_mono HO462.out (fun _ hk => ⟨hk.1.1.2, hk.1.2⟩))⟩, ⟨bl HB.out⟩⟩
        rw [if_neg c100] at H
        have c100b0 : decide (x22_3 < 20) = false := decide_eq_false c100
        clear c100
        (first | rw [c100b0] | (simp only [i64_w, i32_w]; rw [c100b0]) | skip)
        by_cases c104 : (x8_3.length : Int) = 0
        case neg =>
         rw [if_neg c104] at H
         have c104b0 : ((x8_3.length : Int) == 0) = false := beq_eq_false_iff_ne.mpr c104
         have c104b1 : ((x8_3.length : Int) != 0) = true := bne_iff_ne.mpr c104
         have c104b2 : ¬ (x8_3 = []) := fun h_ => c104 (by rw [h_]; rfl)
         obtain rfl := Option.some.inj H
         obtain ⟨Ao106, co106, eo106⟩ := Kd.R_slice HO_8.out
         subst eo106
         go_wp2
         go_ret
         exact ⟨xW, bl HB.out⟩
        rw [if_pos c104] at H
        have c104b0 : ((x8_3.length : Int) == 0) = true := beq_iff_eq.mpr c104
        have c104b1 : ((x8_3.length : Int) != 0) = false := bne_eq_false_iff_eq.mpr c104
        clear c104
        have H' := aM H
        clear H
        obtain ⟨Ao105, co105, eo105⟩ := Kd.R_slice HO_8.out
        subst eo105
        go_wp2
        go_meet
        case rel => exact ⟨_, H', ⟨by have := HJ13.out; have := HK2.out; have := HK3.out; first | omega | exact Nat.le_refl _⟩, ⟨kr (Kd.R_mono HO_3.out (fun _ hk => hk.1))⟩, ⟨kr (Kd.R_mono HO_7.out (fun _ hk => hk.1))⟩, ⟨bl HB.out⟩⟩
     case rest =>
      clear HC96
      try clear c1
      try clear c2
      try clear p2
      try clear c3
      try clear p4
      try clear q4
      try clear hx4
      try clear p6
      try clear c8
      try clear c9
      try clear c10
      try clear c11
      try clear c12
      try clear c13
      try clear c14
      try clear c15
      try clear c16
      try clear c17
      try clear c18
      try clear c19
      try clear c20
      try clear c21
      try clear c22
      try clear c23
      try clear c26
      try clear c30
      try clear c33
      try clear c36
      try clear c37
      try clear c37b0
      try clear c37b1
      try clear c38
      try clear c38b0
      try clear c38b1
      try clear c38b2
      try clear p45
      try clear q45
      try clear hx45
      try clear p64
      try clear c89
      try clear c90
      try clear c90b0
      try clear c91
      try clear c91b0
      try clear c92
      try clear c92b0
      try clear c92b1
      try clear c99
      try clear c100
      try clear c100b0
      try clear c104
      try clear c104b0
      try clear c104b1
      try clear c104b2
      try clear hx458_0
      try clear hx458_1
      try clear hx458_2
      try clear hx458_3
      try clear p2
      try clear p4
      try clear p45
      try clear p458
      try clear p6
      try clear p64
      try clear q4
      try clear q45
      try clear q458
      obtain ⟨kq, HA, HJ95, HO_3, HO_7, HB⟩ := hcut
      cases kq with
      | zero => exact absurd HA.out (by simp [laws_FnTables.j3])
      | succ kj95 =>
       have H := HA.out
       clear HA
       simp only [laws_FnTables.j3] at H
       have HC107 := aM H
       clear H
       go_upto_region 27 with (fail)
       go_cut [144] (fun v144 wc => ∃ (kq : Nat) (x144_106 : Bool), v144 = .bool x144_106 ∧ Aside0 (laws_FnTables.j4 kq t411 t412 t413 t416 x144_106 = some r) ∧ Aside0 (kq ≤ kj95) ∧ Aside0 (Kd.R k40 40 wc w.heap.size (fun _ => True) v417 t416) ∧ Aside0 (Below w.heap.size w wc))
       case first =>
        have H := HC107.out
        clear HC107
        replace H := Option.bind_eq_some_iff.mp H
        obtain ⟨t463, A1080, H⟩ := H
        replace H : (if t463 = true then ((laws_sameHeard.f kj95 t416 t410).bind fun t464 => (laws_FnTables.j4 kj95 t411 t412 t413 t416 t464)) else (laws_FnTables.j4 kj95 t411 t412 t413 t416 true)) = some r := H
        have A108 := aM A1080
        clear A1080
        by_cases c109 : t463 = true
        case neg =>
         replace c109 := Bool.eq_false_iff.mpr c109
         subst c109
         have H1 : (laws_FnTables.j4 kj95 t411 t412 t413 t416 true) = some r := by rw [if_neg (show ¬ (false = true) by decide)] at H; exact H
         clear H
         have H := H1
         clear H1
         have H' := aM H
         clear H
         go_wp2_with (first | ((with_reducible refine gate_callee (f := 26) rfl ?_); refine goesL_ (some 138) rfl rfl Try.func26 (by kernel_rfl) rfl #[.slice Ao16 t410.length co16] rfl xR ?_; (with_reducible refine (impl_TableOk.calls kj95 _ _ t410 false _ ?side1 ?side2 A108.out).mono ?_); (case side1 => repeat (first | exact (Kd.R_reads' HO_3.out).2.2 | (with_reducible refine Kd.C_alloc ?_ _) | (with_reducible refine Kd.C_drewN ?_ _) | (with_reducible refine Kd.C_drew ?_))); (case side2 => exact (Kd.R_reads' HO_3.out).2.1); rintro e w113 ⟨rfl, hb⟩; refine ⟨_, rfl, ?_⟩; have n0_ := aM (kB (kr HO_3.out) hb); have n1_ := aM (kB (kr HO_7.out) hb); have n2_ := aM (bS (bl HB.out) hb); clear HO_3 HO_7 HB; have HO_3 := n0_; have HO_7 := n1_; have HB := n2_; clear n0_ n1_ n2_; (try clear hb)))
         go_meet
         case rel => exact ⟨_, (true), xE, H', ⟨by have := HJ13.out; have := HK2.out; have := HJ95.out; first | omega | exact Nat.le_refl _⟩, ⟨kr (Kd.R_mono HO_7.out (fun _ hk => trivial))⟩, ⟨bl HB.out⟩⟩
        subst c109
        have H1 : ((laws_sameHeard.f kj95 t416 t410).bind fun t464 => (laws_FnTables.j4 kj95 t411 t412 t413 t416 t464)) = some r := by rw [if_pos rfl] at H; exact H
        clear H
        have H := H1
        clear H1
        replace H := Option.bind_eq_some_iff.mp H
        obtain ⟨t464, A1100, H⟩ := H
        replace H : (laws_FnTables.j4 kj95 t411 t412 t413 t416 t464) = some r := H
        have A110 := aM A1100
        clear A1100
        have H' := aM H
        clear H
        go_wp2_with (first | ((with_reducible refine gate_callee (f := 26) rfl ?_); refine goesL_ (some 138) rfl rfl Try.func26 (by kernel_rfl) rfl #[.slice Ao16 t410.length co16] rfl xR ?_; (with_reducible refine (impl_TableOk.calls kj95 _ _ t410 true _ ?side1 ?side2 A108.out).mono ?_); (case side1 => repeat (first | exact (Kd.R_reads' HO_3.out).2.2 | (with_reducible refine Kd.C_alloc ?_ _) | (with_reducible refine Kd.C_drewN ?_ _) | (with_reducible refine Kd.C_drew ?_))); (case side2 => exact (Kd.R_reads' HO_3.out).2.1); rintro e w111 ⟨rfl, hb⟩; refine ⟨_, rfl, ?_⟩; have n0_ := aM (kB (kr HO_3.out) hb); have n1_ := aM (kB (kr HO_7.out) hb); have n2_ := aM (bS (bl HB.out) hb); clear HO_3 HO_7 HB; have HO_3 := n0_; have HO_7 := n1_; have HB := n2_; clear n0_ n1_ n2_; (try clear hb); obtain ⟨Ao112, co112, eo112⟩ := Kd.R_slice HO_7.out; subst eo112) | (go_at_call 22; (with_reducible refine (laws_sameHeard.calls kj95 _ _ t416 _ _ t410 t464 _ ?side1 ?side2 ?side3 ?side4 A110.out).mono ?_); (case side1 => repeat (first | exact (Kd.R_reads' HO_7.out).2.2 | (with_reducible refine Kd.C_alloc ?_ _) | (with_reducible refine Kd.C_drewN ?_ _) | (with_reducible refine Kd.C_drew ?_))); (case side2 => exact (Kd.R_reads' HO_7.out).2.1); (case side3 => repeat (first | exact (Kd.R_reads' HO_3.out).2.2 | (with_reducible refine Kd.C_alloc ?_ _) | (with_reducible refine Kd.C_drewN ?_ _) | (with_reducible refine Kd.C_drew ?_))); (case side4 => exact (Kd.R_reads' HO_3.out).2.1); rintro e w' ⟨rfl, ⟨nd, rfl⟩⟩))
        go_meet
        case rel => exact ⟨_, (t464), xE, H', ⟨by have := HJ13.out; have := HK2.out; have := HJ95.out; first | omega | exact Nat.le_refl _⟩, ⟨kr (Kd.R_mono HO_7.out (fun _ hk => trivial))⟩, ⟨bl HB.out⟩⟩
       case rest =>
        clear HC107
        try clear c1
        try clear c2
        try clear p2
        try clear c3
        try clear p4
        try clear q4
        try clear hx4
        try clear p6
        try clear c8
        try clear c9
        try clear c10
        try clear c11
        try clear c12
        try clear c13
        try clear c14
        try clear c15
        try clear c16
        try clear c17
        try clear c18
        try clear c19
        try clear c20
        try clear c21
        try clear c22
        try clear c23
        try clear c26
        try clear c30
        try clear c33
        try clear c36
        try clear c37
        try clear c37b0
        try clear c37b1
        try clear c38
        try clear c38b0
        try clear c38b1
        try clear c38b2
        try clear p45
        try clear q45
        try clear hx45
        try clear p64
        try clear c89
        try clear c90
        try clear c90b0
        try clear c91
        try clear c91b0
        try clear c92
        try clear c92b0
        try clear c92b1
        try clear c99
        try clear c100
        try clear c100b0
        try clear c104
        try clear c104b0
        try clear c104b1
        try clear c104b2
        try clear c109
        try clear hx458_0
        try clear hx458_1
        try clear hx458_2
        try clear hx458_3
        try clear p2
        try clear p4
        try clear p45
        try clear p458
        try clear p6
        try clear p64
        try clear q4
        try clear q45
        try clear q458
        obtain ⟨kq, x144_106, rfl, HA, HJ106, HO_7, HB⟩ := hcut
        cases kq with
        | zero => exact absurd HA.out (by simp [laws_FnTables.j4])
        | succ kj106 =>
         have H := HA.out
         clear HA
         simp only [laws_FnTables.j4] at H
         by_cases c114 : x144_106 = true
         case pos =>
          subst c114
          have H1 : (some true) = some r := by rw [if_pos rfl] at H; exact H
          clear H
          have H := H1
          clear H1
          obtain rfl := Option.some.inj H
          go_wp2
          go_ret
          exact ⟨xW, bl HB.out⟩
         replace c114 := Bool.eq_false_iff.mpr c114
         subst c114
         have H1 : ((impl_Where.f kj106 t416 t411 t412).bind fun bt465 => ((impl_TableOk.f kj106 t416).bind fun t467 => (if t467 = true then (if bt465.2 = true then (some (bt465.1 == t413)) else (some false)) else (some false)))) = some r := by rw [if_neg (show ¬ (false = true) by decide)] at H; exact H
         clear H
         have H := H1
         clear H1
         replace H := Option.bind_eq_some_iff.mp H
         obtain ⟨⟨t465, t466⟩, A1150, H⟩ := H
         replace H : ((impl_TableOk.f kj106 t416).bind fun t467 => (if t467 = true then (if t466 = true then (some (t465 == t413)) else (some false)) else (some false))) = some r := H
         have A115 := aM A1150
         clear A1150
         replace H := Option.bind_eq_some_iff.mp H
         obtain ⟨t467, A1160, H⟩ := H
         replace H : (if t467 = true then (if t466 = true then (some (t465 == t413)) else (some false)) else (some false)) = some r := H
         have A116 := aM A1160
         clear A1160
         by_cases c117 : t467 = true
         case neg =>
          replace c117 := Bool.eq_false_iff.mpr c117
          subst c117
          have H1 : (some false) = some r := by rw [if_neg (show ¬ (false = true) by decide)] at H; exact H
          clear H
          have H := H1
          clear H1
          obtain rfl := Option.some.inj H
          obtain ⟨Ao125, co125, eo125⟩ := Kd.R_slice HO_7.out
          subst eo125
          go_wp2_with (first | ((with_reducible refine gate_callee (f := 19) rfl ?_); refine goesL_ (some 149) rfl rfl Try.func19 (by kernel_rfl) rfl #[.slice Ao125 t416.length co125, .int .i64 t411, .int .i64 t412] rfl xR ?_; (with_reducible refine (impl_Where.calls kj106 _ _ t416 t411 t412 t465 t466 _ ?side1 ?side2 A115.out).mono ?_); (case side1 => repeat (first | exact (Kd.R_reads' HO_7.out).2.2 | (with_reducible refine Kd.C_alloc ?_ _) | (with_reducible refine Kd.C_drewN ?_ _) | (with_reducible refine Kd.C_drew ?_))); (case side2 => exact (Kd.R_reads' HO_7.out).2.1); rintro e w126 ⟨rfl, hb⟩; refine ⟨_, rfl, ?_⟩; have n0_ := aM (kB (kr HO_7.out) hb); have n1_ := aM (bS (bl HB.out) hb); clear HO_7 HB; have HO_7 := n0_; have HB := n1_; clear n0_ n1_; (try clear hb)) | ((with_reducible refine gate_callee (f := 26) rfl ?_); refine goesL_ (some 153) rfl rfl Try.func26 (by kernel_rfl) rfl #[.slice Ao125 t416.length co125] rfl xR ?_; (with_reducible refine (impl_TableOk.calls kj106 _ _ t416 false _ ?side1 ?side2 A116.out).mono ?_); (case side1 => repeat (first | exact (Kd.R_reads' HO_7.out).2.2 | (with_reducible refine Kd.C_alloc ?_ _) | (with_reducible refine Kd.C_drewN ?_ _) | (with_reducible refine Kd.C_drew ?_))); (case side2 => exact (Kd.R_reads' HO_7.out).2.1); rintro e w127 ⟨rfl, hb⟩; refine ⟨_, rfl, ?_⟩; have n0_ := aM (kB (kr HO_7.out) hb); have n1_ := aM (bS (bl HB.out) hb); clear HO_7 HB; have HO_7 := n0_; have HB := n1_; clear n0_ n1_; (try clear hb)))
          go_ret
          exact ⟨xW, bl HB.out⟩
         subst c117
         have H1 : (if t466 = true then (some (t465 == t413)) else (some false)) = some r := by rw [if_pos rfl] at H; exact H
         clear H
         have H := H1
         clear H1
         by_cases c118 : t466 = true
         case pos =>
          subst c118
          have H1 : (some (t465 == t413)) = some r := by rw [if_pos rfl] at H; exact H
          clear H
          have H := H1
          clear H1
          obtain rfl := Option.some.inj H
          obtain ⟨Ao119, co119, eo119⟩ := Kd.R_slice HO_7.out
          subst eo119
          go_wp2_with (first | ((with_reducible refine gate_callee (f := 19) rfl ?_); refine goesL_ (some 149) rfl rfl Try.func19 (by kernel_rfl) rfl #[.slice Ao119 t416.length co119, .int .i64 t411, .int .i64 t412] rfl xR ?_; (with_reducible refine (impl_Where.calls kj106 _ _ t416 t411 t412 t465 true _ ?side1 ?side2 A115.out).mono ?_); (case side1 => repeat (first | exact (Kd.R_reads' HO_7.out).2.2 | (with_reducible refine Kd.C_alloc ?_ _) | (with_reducible refine Kd.C_drewN ?_ _) | (with_reducible refine Kd.C_drew ?_))); (case side2 => exact (Kd.R_reads' HO_7.out).2.1); rintro e w120 ⟨rfl, hb⟩; refine ⟨_, rfl, ?_⟩; have n0_ := aM (kB (kr HO_7.out) hb); have n1_ := aM (bS (bl HB.out) hb); clear HO_7 HB; have HO_7 := n0_; have HB := n1_; clear n0_ n1_; (try clear hb)) | ((with_reducible refine gate_callee (f := 26) rfl ?_); refine goesL_ (some 153) rfl rfl Try.func26 (by kernel_rfl) rfl #[.slice Ao119 t416.length co119] rfl xR ?_; (with_reducible refine (impl_TableOk.calls kj106 _ _ t416 true _ ?side1 ?side2 A116.out).mono ?_); (case side1 => repeat (first | exact (Kd.R_reads' HO_7.out).2.2 | (with_reducible refine Kd.C_alloc ?_ _) | (with_reducible refine Kd.C_drewN ?_ _) | (with_reducible refine Kd.C_drew ?_))); (case side2 => exact (Kd.R_reads' HO_7.out).2.1); rintro e w121 ⟨rfl, hb⟩; refine ⟨_, rfl, ?_⟩; have n0_ := aM (kB (kr HO_7.out) hb); have n1_ := aM (bS (bl HB.out) hb); clear HO_7 HB; have HO_7 := n0_; have HB := n1_; clear n0_ n1_; (try clear hb)))
          go_ret
          exact ⟨xW, bl HB.out⟩
         replace c118 := Bool.eq_false_iff.mpr c118
         subst c118
         have H1 : (some false) = some r := by rw [if_neg (show ¬ (false = true) by decide)] at H; exact H
         clear H
         have H := H1
         clear H1
         obtain rfl := Option.some.inj H
         obtain ⟨Ao122, co122, eo122⟩ := Kd.R_slice HO_7.out
         subst eo122
         go_wp2_with (first | ((with_reducible refine gate_callee (f := 19) rfl ?_); refine goesL_ (some 149) rfl rfl Try.func19 (by kernel_rfl) rfl #[.slice Ao122 t416.length co122, .int .i64 t411, .int .i64 t412] rfl xR ?_; (with_reducible refine (impl_Where.calls kj106 _ _ t416 t411 t412 t465 false _ ?side1 ?side2 A115.out).mono ?_); (case side1 => repeat (first | exact (Kd.R_reads' HO_7.out).2.2 | (with_reducible refine Kd.C_alloc ?_ _) | (with_reducible refine Kd.C_drewN ?_ _) | (with_reducible refine Kd.C_drew ?_))); (case side2 => exact (Kd.R_reads' HO_7.out).2.1); rintro e w123 ⟨rfl, hb⟩; refine ⟨_, rfl, ?_⟩; have n0_ := aM (kB (kr HO_7.out) hb); have n1_ := aM (bS (bl HB.out) hb); clear HO_7 HB; have HO_7 := n0_; have HB := n1_; clear n0_ n1_; (try clear hb)) | ((with_reducible refine gate_callee (f := 26) rfl ?_); refine goesL_ (some 153) rfl rfl Try.func26 (by kernel_rfl) rfl #[.slice Ao122 t416.length co122] rfl xR ?_; (with_reducible refine (impl_TableOk.calls kj106 _ _ t416 true _ ?side1 ?side2 A116.out).mono ?_); (case side1 => repeat (first | exact (Kd.R_reads' HO_7.out).2.2 | (with_reducible refine Kd.C_alloc ?_ _) | (with_reducible refine Kd.C_drewN ?_ _) | (with_reducible refine Kd.C_drew ?_))); (case side2 => exact (Kd.R_reads' HO_7.out).2.1); rintro e w124 ⟨rfl, hb⟩; refine ⟨_, rfl, ?_⟩; have n0_ := aM (kB (kr HO_7.out) hb); have n1_ := aM (bS (bl HB.out) hb); clear HO_7 HB; have HO_7 := n0_; have HB := n1_; clear n0_ n1_; (try clear hb)))
         go_ret
         exact ⟨xW, bl HB.out⟩

/-- THE ONE PURE STATEMENT of laws_FnTables: yours. -/
def laws_FnTables.Pure : Prop := ∀ (l0 : List Int), l0.length ≤ maxLen → l0.length * 1 ≤ 140737488351232 → (∀ x ∈ l0, (Lit.int .u8 x).wf = true) → ∃ k, laws_FnTables.f k l0 = some true
theorem laws_FnTables.walk (P : laws_FnTables.Pure) (a0 : Option Addr) (len0 cap0 : Nat) (z0 : List Int) (w : World) (w0 : (a0 = none ∧ len0 = 0 ∧ cap0 = 0 ∧ z0 = []) ∨ ∃ x, a0 = some x ∧ len0 ≤ cap0 ∧ cap0 ≤ maxLen ∧ z0.length = cap0 ∧ (∀ i, i < z0.length → w.cell? (x.add i) = some (.int .u8 (z0.getD i 0))) ∧ ∀ n ∈ z0, (Lit.int .u8 n).wf = true) (y0 : len0 * 1 ≤ 140737488351232) :
  Calls Try.prog 3 #[.slice a0 len0 cap0] w fun e w' => e = .returned (.bool true) ∧ Below w.heap.size w w' := by
 obtain ⟨l0, rfl, hr0, hm0, hw0, hc0⟩ := ReadsInt.ofRowC w0
 obtain ⟨k, h⟩ := P l0 hm0 y0 hw0
 refine (laws_FnTables.calls k _ _ l0 true w (Kd.C_of_reads (d := (0 : Int)) (h1 := fun _ => rfl) hr0) hc0 h).mono ?_
 rintro e w' ⟨rfl, hd⟩
 exact ⟨rfl, hd⟩

end Go.Proofs.Ytjaldondohddpaa.PFnTables

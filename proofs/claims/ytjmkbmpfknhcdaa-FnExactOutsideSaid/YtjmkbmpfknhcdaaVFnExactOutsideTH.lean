/- Of the proof of laws.FnExactOutside: a part. No condition beyond what its theorems say. -/
/- The machine side of laws.FnExactOutside: where the plain function of that name answers true, its call returns true. No condition beyond what its arguments read as. -/
import Derived.Test.YtjmkbmpfknhcdaaVFnExactOutsidePx0
import Derived.Test.YtjmkbmpfknhcdaaVFnExactOutsidePx1
import Derived.Test.YtjmkbmpfknhcdaaVFnExactOutsidePx2
import Derived.Test.YtjmkbmpfknhcdaaVFnExactOutsidePx3
import Derived.Test.YtjmkbmpfknhcdaaVFnExactOutsidePx4
namespace Go.Proofs.Ytjmkbmpfknhcdaa.PFnExactOutside
open Go.RowKit Go.Proofs.YtjmkbmpfknhcdaaW.PrintWords Go.Proofs.YtjmkbmpfknhcdaaW.PrintLast Go.Proofs.YtjmkbmpfknhcdaaW.PrintMore
attribute [local go_sem] max2_int min2_int max_two min_two max_three min_three max_four min_four   -- for this text's walks alone
set_option linter.unusedVariables false
set_option linter.unusedSimpArgs false

mutual
def laws_FnExactOutside.j0 : Nat → Bool → Bool → Bool → Int → List Int → Int → Int → Int → List Int → Int → Int → Int → List Int → Int → List Int → Int → Int → Int → List Int → Int → Int → Int → List Int → Option (Bool)
 | 0, _, _, _, _, _, _, _, _, _, _, _, _, _, _, _, _, _, _, _, _, _, _, _ => none
 | k + 1, x7, x11, x53, x220000, x220001, x221000, x221001, x221002, x221003, x241000, x241001, x241002, x241003, x246000, x246001, x253000, x253001, x253002, x253003, x261000, x261001, x261002, x261003 => if x53 = true then (some false) else ((laws_toMember.f k x220000 x220001).bind fun bt262 => ((laws_eqMember.f k x246000 x246001 bt262.1 bt262.2).bind fun t266 => (if t266 = true then ((laws_toFrame.f k x221000 x221001 x221002 x221003).bind fun bt267 => ((laws_eqFrame.f k x253000 x253001 x253002 x253003 bt267.1 bt267.2.1 bt267.2.2.1 bt267.2.2.2).bind fun t273 => (if t273 = true then ((laws_markMember.f k x246000 x246001 1).bind fun bt274 => ((laws_markFrame.f k x253000 x253001 x253002 x253003 bt274.1).bind fun bt276 => (if bt276.1 < 0 then (laws_FnExactOutside.j1 k x7 true x220000 x220001 x221000 x221001 x221002 x221003 x241000 x241001 x241002 x241003 x261000 x261001 x261002 x261003) else ((laws_eqFrame.f k x261000 x261001 x261002 x261003 x241000 x241001 x241002 x241003).bind fun t278 => (if t278 = true then (laws_FnExactOutside.j1 k x7 (x11 != x7) x220000 x220001 x221000 x221001 x221002 x221003 x241000 x241001 x241002 x241003 x261000 x261001 x261002 x261003) else (laws_FnExactOutside.j1 k x7 true x220000 x220001 x221000 x221001 x221002 x221003 x241000 x241001 x241002 x241003 x261000 x261001 x261002 x261003)))))) else (some false)))) else (some false))))
def laws_FnExactOutside.j1 : Nat → Bool → Bool → Int → List Int → Int → Int → Int → List Int → Int → Int → Int → List Int → Int → Int → Int → List Int → Option (Bool)
 | 0, _, _, _, _, _, _, _, _, _, _, _, _, _, _, _, _ => none
 | k + 1, x7, x82, x220000, x220001, x221000, x221001, x221002, x221003, x241000, x241001, x241002, x241003, x261000, x261001, x261002, x261003 => if x82 = true then (some false) else ((laws_markFrame.f k x261000 x261001 x261002 x261003 1).bind fun bt279 => ((laws_heldFrame.f k x261000 x261001 x261002 bt279.2 1).bind fun t281 => (if t281 < 0 then (some false) else (if t281 = bt279.1 then ((laws_toMember.f k x220000 x220001).bind fun bt282 => ((laws_toFrame.f k x221000 x221001 x221002 x221003).bind fun bt286 => ((impl_Outside.f k bt282.1 bt282.2 bt286.1 bt286.2.1 bt286.2.2.1 bt286.2.2.2).bind fun bt292 => ((laws_eqFrame.f k bt292.1 bt292.2.1 bt292.2.2.1 bt292.2.2.2.1 x241000 x241001 x241002 x241003).bind fun t300 => (if t300 = true then (laws_FnExactOutside.j2 k bt279.1 (bt292.2.2.2.2 != x7) x261000 x261001 x261002 bt279.2) else (laws_FnExactOutside.j2 k bt279.1 true x261000 x261001 x261002 bt279.2)))))) else (some false)))))
def laws_FnExactOutside.j2 : Nat → Int → Bool → Int → Int → Int → List Int → Option (Bool)
 | 0, _, _, _, _, _, _ => none
 | k + 1, x13, x110, x261000, x261001, x261002, x261003 => if x110 = true then (some false) else ((laws_heldFrame.f k x261000 x261001 x261002 x261003 1).bind fun t301 => (if t301 < 0 then (some false) else (if t301 = x13 then (some true) else (some false))))
end
def laws_FnExactOutside.f (k : Nat) (a0_0 : Int) (l0_1 : List Int) (a1_0 : Int) (a1_1 : Int) (a1_2 : Int) (l1_3 : List Int) : Option (Bool) := (laws_szMember.f a0_0 l0_1 1048576).bind fun t221 => (if t221 < 0 then (some true) else ((laws_szFrame.f a1_0 a1_1 a1_2 l1_3 t221).bind fun t222 => (if t222 < 0 then (some true) else ((laws_toMember.f k a0_0 l0_1).bind fun bt223 => ((laws_toFrame.f k a1_0 a1_1 a1_2 l1_3).bind fun bt227 => ((spec_Outside.f k bt223.1 bt223.2 bt227.1 bt227.2.1 bt227.2.2.1 bt227.2.2.2).bind fun bt233 => ((laws_toMember.f k a0_0 l0_1).bind fun bt241 => ((laws_toFrame.f k a1_0 a1_1 a1_2 l1_3).bind fun bt246 => ((impl_Outside.f k bt241.1 bt241.2 bt246.1 bt246.2.1 bt246.2.2.1 bt246.2.2.2).bind fun bt253 => ((laws_eqFrame.f k bt253.1 bt253.2.1 bt253.2.2.1 bt253.2.2.2.1 bt233.1 bt233.2.1 bt233.2.2.1 bt233.2.2.2.1).bind fun t261 => (if t261 = true then (laws_FnExactOutside.j0 k bt233.2.2.2.2 bt253.2.2.2.2 (bt253.2.2.2.2 != bt233.2.2.2.2) a0_0 l0_1 a1_0 a1_1 a1_2 l1_3 bt233.1 bt233.2.1 bt233.2.2.1 bt233.2.2.2.1 bt241.1 bt241.2 bt246.1 bt246.2.1 bt246.2.2.1 bt246.2.2.2 bt253.1 bt253.2.1 bt253.2.2.1 bt253.2.2.2.1) else (laws_FnExactOutside.j0 k bt233.2.2.2.2 bt253.2.2.2.2 true a0_0 l0_1 a1_0 a1_1 a1_2 l1_3 bt233.1 bt233.2.1 bt233.2.2.1 bt233.2.2.2.1 bt241.1 bt241.2 bt246.1 bt246.2.1 bt246.2.2.1 bt246.2.2.2 bt253.1 bt253.2.1 bt253.2.2.1 bt253.2.2.2.1))))))))))))
theorem laws_FnExactOutside.mono_l : ∀ k, (∀ y0 y1 y2 y3 y4 y5 y6 y7 y8 y9 y10 y11 y12 y13 y14 y15 y16 y17 y18 y19 y20 y21 y22, LeO (laws_FnExactOutside.j0 k y0 y1 y2 y3 y4 y5 y6 y7 y8 y9 y10 y11 y12 y13 y14 y15 y16 y17 y18 y19 y20 y21 y22) (laws_FnExactOutside.j0 (k + 1) y0 y1 y2 y3 y4 y5 y6 y7 y8 y9 y10 y11 y12 y13 y14 y15 y16 y17 y18 y19 y20 y21 y22)) ∧ (∀ y0 y1 y2 y3 y4 y5 y6 y7 y8 y9 y10 y11 y12 y13 y14 y15, LeO (laws_FnExactOutside.j1 k y0 y1 y2 y3 y4 y5 y6 y7 y8 y9 y10 y11 y12 y13 y14 y15) (laws_FnExactOutside.j1 (k + 1) y0 y1 y2 y3 y4 y5 y6 y7 y8 y9 y10 y11 y12 y13 y14 y15)) ∧ (∀ y0 y1 y2 y3 y4 y5, LeO (laws_FnExactOutside.j2 k y0 y1 y2 y3 y4 y5) (laws_FnExactOutside.j2 (k + 1) y0 y1 y2 y3 y4 y5))
 | 0 => ⟨fun _ _ _ _ _ _ _ _ _ _ _ _ _ _ _ _ _ _ _ _ _ _ _ r h => by simp [laws_FnExactOutside.j0] at h, fun _ _ _ _ _ _ _ _ _ _ _ _ _ _ _ _ r h => by simp [laws_FnExactOutside.j1] at h, fun _ _ _ _ _ _ r h => by simp [laws_FnExactOutside.j2] at h⟩
 | k + 1 => by
  obtain ⟨ih0, ih1, ih2⟩ := laws_FnExactOutside.mono_l k
  refine ⟨?_, ?_, ?_⟩
  ·intro y0 y1 y2 y3 y4 y5 y6 y7 y8 y9 y10 y11 y12 y13 y14 y15 y16 y17 y18 y19 y20 y21 y22
   unfold laws_FnExactOutside.j0
   repeat' first
   | (with_reducible exact ih0 _ _ _ _ _ _ _ _ _ _ _ _ _ _ _ _ _ _ _ _ _ _ _)
   | (with_reducible exact ih1 _ _ _ _ _ _ _ _ _ _ _ _ _ _ _ _)
   | (with_reducible exact ih2 _ _ _ _ _ _)
   | (with_reducible exact impl_Outside.mono _ _ _ _ _ _ _)
   | (with_reducible exact laws_eqFrame.mono _ _ _ _ _ _ _ _ _)
   | (with_reducible exact laws_eqMember.mono _ _ _ _ _)
   | (with_reducible exact laws_heldFrame.mono _ _ _ _ _ _)
   | (with_reducible exact laws_markFrame.mono _ _ _ _ _ _)
   | (with_reducible exact laws_markMember.mono _ _ _ _)
   | (with_reducible exact laws_toFrame.mono _ _ _ _ _)
   | (with_reducible exact laws_toMember.mono _ _ _)
   | (with_reducible exact spec_Outside.mono _ _ _ _ _ _ _)
   | (with_reducible exact LeO.refl _)
   | (with_reducible exact LeO.none _)
   | (with_reducible refine LeO.ite ?_ ?_)
   | (with_reducible refine LeO.bind ?_ (fun _ => ?_))
   | exact ih0 _ _ _ _ _ _ _ _ _ _ _ _ _ _ _ _ _ _ _ _ _ _ _
   | exact ih1 _ _ _ _ _ _ _ _ _ _ _ _ _ _ _ _
   | exact ih2 _ _ _ _ _ _
   | exact impl_Outside.mono _ _ _ _ _ _ _
   | exact laws_eqFrame.mono _ _ _ _ _ _ _ _ _
   | exact laws_eqMember.mono _ _ _ _ _
   | exact laws_heldFrame.mono _ _ _ _ _ _
   | exact laws_markFrame.mono _ _ _ _ _ _
   | exact laws_markMember.mono _ _ _ _
   | exact laws_toFrame.mono _ _ _ _ _
   | exact laws_toMember.mono _ _ _
   | exact spec_Outside.mono _ _ _ _ _ _ _
   | exact LeO.none _
   | refine LeO.ite ?_ ?_
   | refine LeO.bind ?_ (fun _ => ?_)
  ·intro y0 y1 y2 y3 y4 y5 y6 y7 y8 y9 y10 y11 y12 y13 y14 y15
   unfold laws_FnExactOutside.j1
   repeat' first
   | (with_reducible exact ih0 _ _ _ _ _ _ _ _ _ _ _ _ _ _ _ _ _ _ _ _ _ _ _)
   | (with_reducible exact ih1 _ _ _ _ _ _ _ _ _ _ _ _ _ _ _ _)
   | (with_reducible exact ih2 _ _ _ _ _ _)
   | (with_reducible exact impl_Outside.mono _ _ _ _ _ _ _)
   | (with_reducible exact laws_eqFrame.mono _ _ _ _ _ _ _ _ _)
   | (with_reducible exact laws_eqMember.mono _ _ _ _ _)
   | (with_reducible exact laws_heldFrame.mono _ _ _ _ _ _)
   | (with_reducible exact laws_markFrame.mono _ _ _ _ _ _)
   | (with_reducible exact laws_markMember.mono _ _ _ _)
   | (with_reducible exact laws_toFrame.mono _ _ _ _ _)
   | (with_reducible exact laws_toMember.mono _ _ _)
   | (with_reducible exact spec_Outside.mono _ _ _ _ _ _ _)
   | (with_reducible exact LeO.refl _)
   | (with_reducible exact LeO.none _)
   | (with_reducible refine LeO.ite ?_ ?_)
   | (with_reducible refine LeO.bind ?_ (fun _ => ?_))
   | exact ih0 _ _ _ _ _ _ _ _ _ _ _ _ _ _ _ _ _ _ _ _ _ _ _
   | exact ih1 _ _ _ _ _ _ _ _ _ _ _ _ _ _ _ _
   | exact ih2 _ _ _ _ _ _
   | exact impl_Outside.mono _ _ _ _ _ _ _
   | exact laws_eqFrame.mono _ _ _ _ _ _ _ _ _
   | exact laws_eqMember.mono _ _ _ _ _
   | exact laws_heldFrame.mono _ _ _ _ _ _
   | exact laws_markFrame.mono _ _ _ _ _ _
   | exact laws_markMember.mono _ _ _ _
   | exact laws_toFrame.mono _ _ _ _ _
   | exact laws_toMember.mono _ _ _
   | exact spec_Outside.mono _ _ _ _ _ _ _
   | exact LeO.none _
   | refine LeO.ite ?_ ?_
   | refine LeO.bind ?_ (fun _ => ?_)
  ·intro y0 y1 y2 y3 y4 y5
   unfold laws_FnExactOutside.j2
   repeat' first
   | (with_reducible exact ih0 _ _ _ _ _ _ _ _ _ _ _ _ _ _ _ _ _ _ _ _ _ _ _)
   | (with_reducible exact ih1 _ _ _ _ _ _ _ _ _ _ _ _ _ _ _ _)
   | (with_reducible exact ih2 _ _ _ _ _ _)
   | (with_reducible exact impl_Outside.mono _ _ _ _ _ _ _)
   | (with_reducible exact laws_eqFrame.mono _ _ _ _ _ _ _ _ _)
   | (with_reducible exact laws_eqMember.mono _ _ _ _ _)
   | (with_reducible exact laws_heldFrame.mono _ _ _ _ _ _)
   | (with_reducible exact laws_markFrame.mono _ _ _ _ _ _)
   | (with_reducible exact laws_markMember.mono _ _ _ _)
   | (with_reducible exact laws_toFrame.mono _ _ _ _ _)
   | (with_reducible exact laws_toMember.mono _ _ _)
   | (with_reducible exact spec_Outside.mono _ _ _ _ _ _ _)
   | (with_reducible exact LeO.refl _)
   | (with_reducible exact LeO.none _)
   | (with_reducible refine LeO.ite ?_ ?_)
   | (with_reducible refine LeO.bind ?_ (fun _ => ?_))
   | exact ih0 _ _ _ _ _ _ _ _ _ _ _ _ _ _ _ _ _ _ _ _ _ _ _
   | exact ih1 _ _ _ _ _ _ _ _ _ _ _ _ _ _ _ _
   | exact ih2 _ _ _ _ _ _
   | exact impl_Outside.mono _ _ _ _ _ _ _
   | exact laws_eqFrame.mono _ _ _ _ _ _ _ _ _
   | exact laws_eqMember.mono _ _ _ _ _
   | exact laws_heldFrame.mono _ _ _ _ _ _
   | exact laws_markFrame.mono _ _ _ _ _ _
   | exact laws_markMember.mono _ _ _ _
   | exact laws_toFrame.mono _ _ _ _ _
   | exact laws_toMember.mono _ _ _
   | exact spec_Outside.mono _ _ _ _ _ _ _
   | exact LeO.none _
   | refine LeO.ite ?_ ?_
   | refine LeO.bind ?_ (fun _ => ?_)
theorem laws_FnExactOutside.mono : ∀ a0 a1 a2 a3 a4 a5 k, LeO (laws_FnExactOutside.f k a0 a1 a2 a3 a4 a5) (laws_FnExactOutside.f (k + 1) a0 a1 a2 a3 a4 a5) := by
 intro a0 a1 a2 a3 a4 a5 k
 obtain ⟨ih0, ih1, ih2⟩ := laws_FnExactOutside.mono_l k
 unfold laws_FnExactOutside.f
 repeat' first
   | (with_reducible exact ih0 _ _ _ _ _ _ _ _ _ _ _ _ _ _ _ _ _ _ _ _ _ _ _)
   | (with_reducible exact ih1 _ _ _ _ _ _ _ _ _ _ _ _ _ _ _ _)
   | (with_reducible exact ih2 _ _ _ _ _ _)
   | (with_reducible exact impl_Outside.mono _ _ _ _ _ _ _)
   | (with_reducible exact laws_eqFrame.mono _ _ _ _ _ _ _ _ _)
   | (with_reducible exact laws_eqMember.mono _ _ _ _ _)
   | (with_reducible exact laws_heldFrame.mono _ _ _ _ _ _)
   | (with_reducible exact laws_markFrame.mono _ _ _ _ _ _)
   | (with_reducible exact laws_markMember.mono _ _ _ _)
   | (with_reducible exact laws_toFrame.mono _ _ _ _ _)
   | (with_reducible exact laws_toMember.mono _ _ _)
   | (with_reducible exact spec_Outside.mono _ _ _ _ _ _ _)
   | (with_reducible exact LeO.refl _)
   | (with_reducible exact LeO.none _)
   | (with_reducible refine LeO.ite ?_ ?_)
   | (with_reducible refine LeO.bind ?_ (fun _ => ?_))
   | exact ih0 _ _ _ _ _ _ _ _ _ _ _ _ _ _ _ _ _ _ _ _ _ _ _
   | exact ih1 _ _ _ _ _ _ _ _ _ _ _ _ _ _ _ _
   | exact ih2 _ _ _ _ _ _
   | exact impl_Outside.mono _ _ _ _ _ _ _
   | exact laws_eqFrame.mono _ _ _ _ _ _ _ _ _
   | exact laws_eqMember.mono _ _ _ _ _
   | exact laws_heldFrame.mono _ _ _ _ _ _
   | exact laws_markFrame.mono _ _ _ _ _ _
   | exact laws_markMember.mono _ _ _ _
   | exact laws_toFrame.mono _ _ _ _ _
   | exact laws_toMember.mono _ _ _
   | exact spec_Outside.mono _ _ _ _ _ _ _
   | exact LeO.none _
   | refine LeO.ite ?_ ?_
   | refine LeO.bind ?_ (fun _ => ?_)
def laws_FnExactOutside.T8 : Bool × List (List Nat × List Nat) := (true, [([], []), ([0], [0]), ([], []), ([2, 1], [2]), ([1, 3, 3], [1, 3]), ([4], [4]), ([5], [5]), ([5], [5]), ([], []), ([8, 6, 4, 0, 1, 2, 3, 4, 5, 6, 8], [6, 8]), ([7, 9, 0, 1, 2, 3, 4, 5, 6, 7, 8, 9], [7])])
def laws_FnExactOutside.B8 : List Nat := [0, 1, 0, 7, 15, 31, 63, 63, 0, 383, 1023]
theorem laws_FnExactOutside.tab8 : rtab .any (opsOf Try.f5 8) = laws_FnExactOutside.T8 := by kernel_rfl
theorem laws_FnExactOutside.bits8 : waitsOk laws_FnExactOutside.T8.2 laws_FnExactOutside.B8 = true := by kernel_rfl
def laws_FnExactOutside.T31 : Bool × List (List Nat × List Nat) := (true, [([], []), ([0], [0]), ([], []), ([2, 1], [2]), ([1, 3, 3], [1, 3]), ([4], [4]), ([5], [5]), ([5], [5]), ([], []), ([8, 6, 4, 0, 1, 2, 3, 4, 5, 6, 8], [6, 8]), ([7, 9, 0, 1, 2, 3, 4, 5, 6, 7, 8, 9], [7])])
def laws_FnExactOutside.B31 : List Nat := [0, 1, 0, 7, 15, 31, 63, 63, 0, 383, 1023]
theorem laws_FnExactOutside.tab31 : rtab .any (opsOf Try.f5 31) = laws_FnExactOutside.T31 := by kernel_rfl
theorem laws_FnExactOutside.bits31 : waitsOk laws_FnExactOutside.T31.2 laws_FnExactOutside.B31 = true := by kernel_rfl
end Go.Proofs.Ytjmkbmpfknhcdaa.PFnExactOutside

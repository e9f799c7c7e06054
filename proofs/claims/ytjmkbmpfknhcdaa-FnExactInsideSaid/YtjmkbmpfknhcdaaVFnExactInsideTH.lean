/- Of the proof of laws.FnExactInside: a part. No condition beyond what its theorems say. -/
/- The machine side of laws.FnExactInside: where the plain function of that name answers true, its call returns true. No condition beyond what its arguments read as. -/
import Derived.Test.YtjmkbmpfknhcdaaVFnExactInsidePx0
import Derived.Test.YtjmkbmpfknhcdaaVFnExactInsidePx1
import Derived.Test.YtjmkbmpfknhcdaaVFnExactInsidePx2
import Derived.Test.YtjmkbmpfknhcdaaVFnExactInsidePx3
import Derived.Test.YtjmkbmpfknhcdaaVFnExactInsidePx4
namespace Go.Proofs.Ytjmkbmpfknhcdaa.PFnExactInside
open Go.RowKit Go.Proofs.YtjmkbmpfknhcdaaW.PrintWords Go.Proofs.YtjmkbmpfknhcdaaW.PrintLast Go.Proofs.YtjmkbmpfknhcdaaW.PrintMore
attribute [local go_sem] max2_int min2_int max_two min_two max_three min_three max_four min_four   -- for this text's walks alone
set_option linter.unusedVariables false
set_option linter.unusedSimpArgs false

mutual
def laws_FnExactInside.j0 : Nat → Bool → Bool → Bool → Int → List Int → Int → Int → Int → List Int → Int → Int → Int → List Int → Int → List Int → Int → Int → Int → List Int → Int → Int → Int → List Int → Option (Bool)
 | 0, _, _, _, _, _, _, _, _, _, _, _, _, _, _, _, _, _, _, _, _, _, _, _ => none
 | k + 1, x7, x11, x53, x221000, x221001, x222000, x222001, x222002, x222003, x242000, x242001, x242002, x242003, x247000, x247001, x254000, x254001, x254002, x254003, x262000, x262001, x262002, x262003 => if x53 = true then (some false) else ((laws_toMember.f k x221000 x221001).bind fun bt263 => ((laws_eqMember.f k x247000 x247001 bt263.1 bt263.2).bind fun t267 => (if t267 = true then ((laws_toFrame.f k x222000 x222001 x222002 x222003).bind fun bt268 => ((laws_eqFrame.f k x254000 x254001 x254002 x254003 bt268.1 bt268.2.1 bt268.2.2.1 bt268.2.2.2).bind fun t274 => (if t274 = true then ((laws_markMember.f k x247000 x247001 1).bind fun bt275 => ((laws_markFrame.f k x254000 x254001 x254002 x254003 bt275.1).bind fun bt277 => (if bt277.1 < 0 then (laws_FnExactInside.j1 k x7 true x221000 x221001 x222000 x222001 x222002 x222003 x242000 x242001 x242002 x242003 x262000 x262001 x262002 x262003) else ((laws_eqFrame.f k x262000 x262001 x262002 x262003 x242000 x242001 x242002 x242003).bind fun t279 => (if t279 = true then (laws_FnExactInside.j1 k x7 (x11 != x7) x221000 x221001 x222000 x222001 x222002 x222003 x242000 x242001 x242002 x242003 x262000 x262001 x262002 x262003) else (laws_FnExactInside.j1 k x7 true x221000 x221001 x222000 x222001 x222002 x222003 x242000 x242001 x242002 x242003 x262000 x262001 x262002 x262003)))))) else (some false)))) else (some false))))
def laws_FnExactInside.j1 : Nat → Bool → Bool → Int → List Int → Int → Int → Int → List Int → Int → Int → Int → List Int → Int → Int → Int → List Int → Option (Bool)
 | 0, _, _, _, _, _, _, _, _, _, _, _, _, _, _, _, _ => none
 | k + 1, x7, x82, x221000, x221001, x222000, x222001, x222002, x222003, x242000, x242001, x242002, x242003, x262000, x262001, x262002, x262003 => if x82 = true then (some false) else ((laws_markFrame.f k x262000 x262001 x262002 x262003 1).bind fun bt280 => ((laws_heldFrame.f k x262000 x262001 x262002 bt280.2 1).bind fun t282 => (if t282 < 0 then (some false) else (if t282 = bt280.1 then ((laws_toMember.f k x221000 x221001).bind fun bt283 => ((laws_toFrame.f k x222000 x222001 x222002 x222003).bind fun bt287 => ((impl_Inside.f k bt283.1 bt283.2 bt287.1 bt287.2.1 bt287.2.2.1 bt287.2.2.2).bind fun bt293 => ((laws_eqFrame.f k bt293.1 bt293.2.1 bt293.2.2.1 bt293.2.2.2.1 x242000 x242001 x242002 x242003).bind fun t301 => (if t301 = true then (laws_FnExactInside.j2 k bt280.1 (bt293.2.2.2.2 != x7) x262000 x262001 x262002 bt280.2) else (laws_FnExactInside.j2 k bt280.1 true x262000 x262001 x262002 bt280.2)))))) else (some false)))))
def laws_FnExactInside.j2 : Nat → Int → Bool → Int → Int → Int → List Int → Option (Bool)
 | 0, _, _, _, _, _, _ => none
 | k + 1, x13, x110, x262000, x262001, x262002, x262003 => if x110 = true then (some false) else ((laws_heldFrame.f k x262000 x262001 x262002 x262003 1).bind fun t302 => (if t302 < 0 then (some false) else (if t302 = x13 then (some true) else (some false))))
end
def laws_FnExactInside.f (k : Nat) (a0_0 : Int) (l0_1 : List Int) (a1_0 : Int) (a1_1 : Int) (a1_2 : Int) (l1_3 : List Int) : Option (Bool) := (laws_szMember.f a0_0 l0_1 1048576).bind fun t222 => (if t222 < 0 then (some true) else ((laws_szFrame.f a1_0 a1_1 a1_2 l1_3 t222).bind fun t223 => (if t223 < 0 then (some true) else ((laws_toMember.f k a0_0 l0_1).bind fun bt224 => ((laws_toFrame.f k a1_0 a1_1 a1_2 l1_3).bind fun bt228 => ((spec_Inside.f k bt224.1 bt224.2 bt228.1 bt228.2.1 bt228.2.2.1 bt228.2.2.2).bind fun bt234 => ((laws_toMember.f k a0_0 l0_1).bind fun bt242 => ((laws_toFrame.f k a1_0 a1_1 a1_2 l1_3).bind fun bt247 => ((impl_Inside.f k bt242.1 bt242.2 bt247.1 bt247.2.1 bt247.2.2.1 bt247.2.2.2).bind fun bt254 => ((laws_eqFrame.f k bt254.1 bt254.2.1 bt254.2.2.1 bt254.2.2.2.1 bt234.1 bt234.2.1 bt234.2.2.1 bt234.2.2.2.1).bind fun t262 => (if t262 = true then (laws_FnExactInside.j0 k bt234.2.2.2.2 bt254.2.2.2.2 (bt254.2.2.2.2 != bt234.2.2.2.2) a0_0 l0_1 a1_0 a1_1 a1_2 l1_3 bt234.1 bt234.2.1 bt234.2.2.1 bt234.2.2.2.1 bt242.1 bt242.2 bt247.1 bt247.2.1 bt247.2.2.1 bt247.2.2.2 bt254.1 bt254.2.1 bt254.2.2.1 bt254.2.2.2.1) else (laws_FnExactInside.j0 k bt234.2.2.2.2 bt254.2.2.2.2 true a0_0 l0_1 a1_0 a1_1 a1_2 l1_3 bt234.1 bt234.2.1 bt234.2.2.1 bt234.2.2.2.1 bt242.1 bt242.2 bt247.1 bt247.2.1 bt247.2.2.1 bt247.2.2.2 bt254.1 bt254.2.1 bt254.2.2.1 bt254.2.2.2.1))))))))))))
theorem laws_FnExactInside.mono_l : ∀ k, (∀ y0 y1 y2 y3 y4 y5 y6 y7 y8 y9 y10 y11 y12 y13 y14 y15 y16 y17 y18 y19 y20 y21 y22, LeO (laws_FnExactInside.j0 k y0 y1 y2 y3 y4 y5 y6 y7 y8 y9 y10 y11 y12 y13 y14 y15 y16 y17 y18 y19 y20 y21 y22) (laws_FnExactInside.j0 (k + 1) y0 y1 y2 y3 y4 y5 y6 y7 y8 y9 y10 y11 y12 y13 y14 y15 y16 y17 y18 y19 y20 y21 y22)) ∧ (∀ y0 y1 y2 y3 y4 y5 y6 y7 y8 y9 y10 y11 y12 y13 y14 y15, LeO (laws_FnExactInside.j1 k y0 y1 y2 y3 y4 y5 y6 y7 y8 y9 y10 y11 y12 y13 y14 y15) (laws_FnExactInside.j1 (k + 1) y0 y1 y2 y3 y4 y5 y6 y7 y8 y9 y10 y11 y12 y13 y14 y15)) ∧ (∀ y0 y1 y2 y3 y4 y5, LeO (laws_FnExactInside.j2 k y0 y1 y2 y3 y4 y5) (laws_FnExactInside.j2 (k + 1) y0 y1 y2 y3 y4 y5))
 | 0 => ⟨fun _ _ _ _ _ _ _ _ _ _ _ _ _ _ _ _ _ _ _ _ _ _ _ r h => by simp [laws_FnExactInside.j0] at h, fun _ _ _ _ _ _ _ _ _ _ _ _ _ _ _ _ r h => by simp [laws_FnExactInside.j1] at h, fun _ _ _ _ _ _ r h => by simp [laws_FnExactInside.j2] at h⟩
 | k + 1 => by
  obtain ⟨ih0, ih1, ih2⟩ := laws_FnExactInside.mono_l k
  refine ⟨?_, ?_, ?_⟩
  ·intro y0 y1 y2 y3 y4 y5 y6 y7 y8 y9 y10 y11 y12 y13 y14 y15 y16 y17 y18 y19 y20 y21 y22
   unfold laws_FnExactInside.j0
   repeat' first
   | (with_reducible exact ih0 _ _ _ _ _ _ _ _ _ _ _ _ _ _ _ _ _ _ _ _ _ _ _)
   | (with_reducible exact ih1 _ _ _ _ _ _ _ _ _ _ _ _ _ _ _ _)
   | (with_reducible exact ih2 _ _ _ _ _ _)
   | (with_reducible exact impl_Inside.mono _ _ _ _ _ _ _)
   | (with_reducible exact laws_eqFrame.mono _ _ _ _ _ _ _ _ _)
   | (with_reducible exact laws_eqMember.mono _ _ _ _ _)
   | (with_reducible exact laws_heldFrame.mono _ _ _ _ _ _)
   | (with_reducible exact laws_markFrame.mono _ _ _ _ _ _)
   | (with_reducible exact laws_markMember.mono _ _ _ _)
   | (with_reducible exact laws_toFrame.mono _ _ _ _ _)
   | (with_reducible exact laws_toMember.mono _ _ _)
   | (with_reducible exact spec_Inside.mono _ _ _ _ _ _ _)
   | (with_reducible exact LeO.refl _)
   | (with_reducible exact LeO.none _)
   | (with_reducible refine LeO.ite ?_ ?_)
   | (with_reducible refine LeO.bind ?_ (fun _ => ?_))
   | exact ih0 _ _ _ _ _ _ _ _ _ _ _ _ _ _ _ _ _ _ _ _ _ _ _
   | exact ih1 _ _ _ _ _ _ _ _ _ _ _ _ _ _ _ _
   | exact ih2 _ _ _ _ _ _
   | exact impl_Inside.mono _ _ _ _ _ _ _
   | exact laws_eqFrame.mono _ _ _ _ _ _ _ _ _
   | exact laws_eqMember.mono _ _ _ _ _
   | exact laws_heldFrame.mono _ _ _ _ _ _
   | exact laws_markFrame.mono _ _ _ _ _ _
   | exact laws_markMember.mono _ _ _ _
   | exact laws_toFrame.mono _ _ _ _ _
   | exact laws_toMember.mono _ _ _
   | exact spec_Inside.mono _ _ _ _ _ _ _
   | exact LeO.none _
   | refine LeO.ite ?_ ?_
   | refine LeO.bind ?_ (fun _ => ?_)
  ·intro y0 y1 y2 y3 y4 y5 y6 y7 y8 y9 y10 y11 y12 y13 y14 y15
   unfold laws_FnExactInside.j1
   repeat' first
   | (with_reducible exact ih0 _ _ _ _ _ _ _ _ _ _ _ _ _ _ _ _ _ _ _ _ _ _ _)
   | (with_reducible exact ih1 _ _ _ _ _ _ _ _ _ _ _ _ _ _ _ _)
   | (with_reducible exact ih2 _ _ _ _ _ _)
   | (with_reducible exact impl_Inside.mono _ _ _ _ _ _ _)
   | (with_reducible exact laws_eqFrame.mono _ _ _ _ _ _ _ _ _)
   | (with_reducible exact laws_eqMember.mono _ _ _ _ _)
   | (with_reducible exact laws_heldFrame.mono _ _ _ _ _ _)
   | (with_reducible exact laws_markFrame.mono _ _ _ _ _ _)
   | (with_reducible exact laws_markMember.mono _ _ _ _)
   | (with_reducible exact laws_toFrame.mono _ _ _ _ _)
   | (with_reducible exact laws_toMember.mono _ _ _)
   | (with_reducible exact spec_Inside.mono _ _ _ _ _ _ _)
   | (with_reducible exact LeO.refl _)
   | (with_reducible exact LeO.none _)
   | (with_reducible refine LeO.ite ?_ ?_)
   | (with_reducible refine LeO.bind ?_ (fun _ => ?_))
   | exact ih0 _ _ _ _ _ _ _ _ _ _ _ _ _ _ _ _ _ _ _ _ _ _ _
   | exact ih1 _ _ _ _ _ _ _ _ _ _ _ _ _ _ _ _
   | exact ih2 _ _ _ _ _ _
   | exact impl_Inside.mono _ _ _ _ _ _ _
   | exact laws_eqFrame.mono _ _ _ _ _ _ _ _ _
   | exact laws_eqMember.mono _ _ _ _ _
   | exact laws_heldFrame.mono _ _ _ _ _ _
   | exact laws_markFrame.mono _ _ _ _ _ _
   | exact laws_markMember.mono _ _ _ _
   | exact laws_toFrame.mono _ _ _ _ _
   | exact laws_toMember.mono _ _ _
   | exact spec_Inside.mono _ _ _ _ _ _ _
   | exact LeO.none _
   | refine LeO.ite ?_ ?_
   | refine LeO.bind ?_ (fun _ => ?_)
  ·intro y0 y1 y2 y3 y4 y5
   unfold laws_FnExactInside.j2
   repeat' first
   | (with_reducible exact ih0 _ _ _ _ _ _ _ _ _ _ _ _ _ _ _ _ _ _ _ _ _ _ _)
   | (with_reducible exact ih1 _ _ _ _ _ _ _ _ _ _ _ _ _ _ _ _)
   | (with_reducible exact ih2 _ _ _ _ _ _)
   | (with_reducible exact impl_Inside.mono _ _ _ _ _ _ _)
   | (with_reducible exact laws_eqFrame.mono _ _ _ _ _ _ _ _ _)
   | (with_reducible exact laws_eqMember.mono _ _ _ _ _)
   | (with_reducible exact laws_heldFrame.mono _ _ _ _ _ _)
   | (with_reducible exact laws_markFrame.mono _ _ _ _ _ _)
   | (with_reducible exact laws_markMember.mono _ _ _ _)
   | (with_reducible exact laws_toFrame.mono _ _ _ _ _)
   | (with_reducible exact laws_toMember.mono _ _ _)
   | (with_reducible exact spec_Inside.mono _ _ _ _ _ _ _)
   | (with_reducible exact LeO.refl _)
   | (with_reducible exact LeO.none _)
   | (with_reducible refine LeO.ite ?_ ?_)
   | (with_reducible refine LeO.bind ?_ (fun _ => ?_))
   | exact ih0 _ _ _ _ _ _ _ _ _ _ _ _ _ _ _ _ _ _ _ _ _ _ _
   | exact ih1 _ _ _ _ _ _ _ _ _ _ _ _ _ _ _ _
   | exact ih2 _ _ _ _ _ _
   | exact impl_Inside.mono _ _ _ _ _ _ _
   | exact laws_eqFrame.mono _ _ _ _ _ _ _ _ _
   | exact laws_eqMember.mono _ _ _ _ _
   | exact laws_heldFrame.mono _ _ _ _ _ _
   | exact laws_markFrame.mono _ _ _ _ _ _
   | exact laws_markMember.mono _ _ _ _
   | exact laws_toFrame.mono _ _ _ _ _
   | exact laws_toMember.mono _ _ _
   | exact spec_Inside.mono _ _ _ _ _ _ _
   | exact LeO.none _
   | refine LeO.ite ?_ ?_
   | refine LeO.bind ?_ (fun _ => ?_)
theorem laws_FnExactInside.mono : ∀ a0 a1 a2 a3 a4 a5 k, LeO (laws_FnExactInside.f k a0 a1 a2 a3 a4 a5) (laws_FnExactInside.f (k + 1) a0 a1 a2 a3 a4 a5) := by
 intro a0 a1 a2 a3 a4 a5 k
 obtain ⟨ih0, ih1, ih2⟩ := laws_FnExactInside.mono_l k
 unfold laws_FnExactInside.f
 repeat' first
   | (with_reducible exact ih0 _ _ _ _ _ _ _ _ _ _ _ _ _ _ _ _ _ _ _ _ _ _ _)
   | (with_reducible exact ih1 _ _ _ _ _ _ _ _ _ _ _ _ _ _ _ _)
   | (with_reducible exact ih2 _ _ _ _ _ _)
   | (with_reducible exact impl_Inside.mono _ _ _ _ _ _ _)
   | (with_reducible exact laws_eqFrame.mono _ _ _ _ _ _ _ _ _)
   | (with_reducible exact laws_eqMember.mono _ _ _ _ _)
   | (with_reducible exact laws_heldFrame.mono _ _ _ _ _ _)
   | (with_reducible exact laws_markFrame.mono _ _ _ _ _ _)
   | (with_reducible exact laws_markMember.mono _ _ _ _)
   | (with_reducible exact laws_toFrame.mono _ _ _ _ _)
   | (with_reducible exact laws_toMember.mono _ _ _)
   | (with_reducible exact spec_Inside.mono _ _ _ _ _ _ _)
   | (with_reducible exact LeO.refl _)
   | (with_reducible exact LeO.none _)
   | (with_reducible refine LeO.ite ?_ ?_)
   | (with_reducible refine LeO.bind ?_ (fun _ => ?_))
   | exact ih0 _ _ _ _ _ _ _ _ _ _ _ _ _ _ _ _ _ _ _ _ _ _ _
   | exact ih1 _ _ _ _ _ _ _ _ _ _ _ _ _ _ _ _
   | exact ih2 _ _ _ _ _ _
   | exact impl_Inside.mono _ _ _ _ _ _ _
   | exact laws_eqFrame.mono _ _ _ _ _ _ _ _ _
   | exact laws_eqMember.mono _ _ _ _ _
   | exact laws_heldFrame.mono _ _ _ _ _ _
   | exact laws_markFrame.mono _ _ _ _ _ _
   | exact laws_markMember.mono _ _ _ _
   | exact laws_toFrame.mono _ _ _ _ _
   | exact laws_toMember.mono _ _ _
   | exact spec_Inside.mono _ _ _ _ _ _ _
   | exact LeO.none _
   | refine LeO.ite ?_ ?_
   | refine LeO.bind ?_ (fun _ => ?_)
def laws_FnExactInside.T8 : Bool × List (List Nat × List Nat) := (true, [([], []), ([0], [0]), ([], []), ([2, 1], [2]), ([1, 3, 3], [1, 3]), ([4], [4]), ([5], [5]), ([5], [5]), ([], []), ([8, 6, 4, 0, 1, 2, 3, 4, 5, 6, 8], [6, 8]), ([7, 9, 0, 1, 2, 3, 4, 5, 6, 7, 8, 9], [7])])
def laws_FnExactInside.B8 : List Nat := [0, 1, 0, 7, 15, 31, 63, 63, 0, 383, 1023]
theorem laws_FnExactInside.tab8 : rtab .any (opsOf Try.f7 8) = laws_FnExactInside.T8 := by kernel_rfl
theorem laws_FnExactInside.bits8 : waitsOk laws_FnExactInside.T8.2 laws_FnExactInside.B8 = true := by kernel_rfl
def laws_FnExactInside.T31 : Bool × List (List Nat × List Nat) := (true, [([], []), ([0], [0]), ([], []), ([2, 1], [2]), ([1, 3, 3], [1, 3]), ([4], [4]), ([5], [5]), ([5], [5]), ([], []), ([8, 6, 4, 0, 1, 2, 3, 4, 5, 6, 8], [6, 8]), ([7, 9, 0, 1, 2, 3, 4, 5, 6, 7, 8, 9], [7])])
def laws_FnExactInside.B31 : List Nat := [0, 1, 0, 7, 15, 31, 63, 63, 0, 383, 1023]
theorem laws_FnExactInside.tab31 : rtab .any (opsOf Try.f7 31) = laws_FnExactInside.T31 := by kernel_rfl
theorem laws_FnExactInside.bits31 : waitsOk laws_FnExactInside.T31.2 laws_FnExactInside.B31 = true := by kernel_rfl
end Go.Proofs.Ytjmkbmpfknhcdaa.PFnExactInside

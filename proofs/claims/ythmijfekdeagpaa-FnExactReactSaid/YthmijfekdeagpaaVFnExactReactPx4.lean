/- A part of the proof of laws.FnExactReact. No condition beyond what its theorems say. -/
import Derived.Test.YthmijfekdeagpaaVFnExactReactPx3
namespace Go.Proofs.Ythmijfekdeagpaa.PFnExactReact
open Go.RowKit Go.Proofs.YthmijfekdeagpaaW.PrintWords Go.Proofs.YthmijfekdeagpaaW.PrintLast Go.Proofs.YthmijfekdeagpaaW.PrintMore
set_option linter.unusedVariables false
set_option linter.unusedSimpArgs false

def Z19.l0 : Nat → List (S79) → List (S79) → Int → Option (Bool)
 | 0, _, _, _ => none
 | k + 1, x0, x1, x5 => if x5 < (x0.length : Int) then (if 0 ≤ x5 then (if x5 < (x1.length : Int) then ((Z59.f ((rd_T79 x0 x5).f0) ((rd_T79 x0 x5).f1) ((rd_T79 x0 x5).f2.f0) ((rd_T79 x0 x5).f2.f1) ((rd_T79 x0 x5).f2.f2) ((rd_T79 x0 x5).f2.f3) ((rd_T79 x0 x5).f3) ((rd_T79 x0 x5).f4) ((rd_T79 x0 x5).f5) ((rd_T79 x0 x5).f6) ((rd_T79 x0 x5).f7) ((rd_T79 x1 x5).f0) ((rd_T79 x1 x5).f1) ((rd_T79 x1 x5).f2.f0) ((rd_T79 x1 x5).f2.f1) ((rd_T79 x1 x5).f2.f2) ((rd_T79 x1 x5).f2.f3) ((rd_T79 x1 x5).f3) ((rd_T79 x1 x5).f4) ((rd_T79 x1 x5).f5) ((rd_T79 x1 x5).f6) ((rd_T79 x1 x5).f7)).bind fun aA => (if aA = true then (Z19.l0 k x0 x1 (wrap64 (x5 + 1))) else (some false))) else (none)) else (none)) else (some true)
def Z19.f (k : Nat) (l0 : List (S79)) (l1 : List (S79)) : Option (Bool) := if (l0.length : Int) = (l1.length : Int) then (Z19.l0 k l0 l1 0) else (some false)
theorem Z19.mono_l : ∀ k, (∀ y0 y1 y2, LeO (Z19.l0 k y0 y1 y2) (Z19.l0 (k + 1) y0 y1 y2))
 | 0 => fun _ _ _ r h => by simp [Z19.l0] at h
 | k + 1 => by
  have ih0 := Z19.mono_l k
  ·intro y0 y1 y2
   unfold Z19.l0
   repeat' first|(with_reducible first|apply ih0|exact lR _|exact lN _|refine lI ?_ ?_|refine lB ?_ fun _ => ?_)|exact lN _|refine lI ?_ ?_|refine lB ?_ fun _ => ?_
theorem Z19.mono : ∀ a0 a1 k, LeO (Z19.f k a0 a1) (Z19.f (k + 1) a0 a1) := by
 intro a0 a1 k
 have ih0 := Z19.mono_l k
 unfold Z19.f
 repeat' first|(with_reducible first|apply ih0|exact lR _|exact lN _|refine lI ?_ ?_|refine lB ?_ fun _ => ?_)|exact lN _|refine lI ?_ ?_|refine lB ?_ fun _ => ?_
def Z19.T6 : Bool × List (List Nat × List Nat) := (true, [([], []), ([], []), ([0, 1], [0, 1]), ([2], [2]), ([], []), ([], []), ([4, 5], [4, 5]), ([6], [6]), ([3, 7], [3, 7]), ([8], [8])])
def Z19.B6 : List Nat := [0, 0, 3, 7, 0, 0, 48, 112, 255, 511]
theorem Z19.tab6 : rtab .any (opsOf Try.f73 6) = Z19.T6 := by kernel_rfl
theorem Z19.bits6 : waitsOk Z19.T6.2 Z19.B6 = true := by kernel_rfl
set_option maxHeartbeats 60000000 in
set_option maxRecDepth 100000 in
theorem Z19.calls (k : Nat) (A0 : Option Addr) (c0 : Nat) (l0 : List (S79)) (A1 : Option Addr) (c1 : Nat) (l1 : List (S79)) (r : Bool) (w : World) (hr0 : Kd.C k79 w A0 l0.length l0) (hc0 : l0.length ≤ c0) (hr1 : Kd.C k79 w A1 l1.length l1) (hc1 : l1.length ≤ c1) (h : Z19.f k l0 l1 = some r) :
  Calls Try.prog 73 #[.slice A0 l0.length c0, .slice A1 l1.length c1] w fun e w' => e = .returned (.bool r) ∧ Below w.heap.size w w' := by
 have dH := Try.underlying79
 have dB := aM hr0
 have dK := aM hc0
 clear hr0 hc0
 have dC := aM hr1
 have dL := aM hc1
 clear hr1 hc1
 have HB := aM (Below.refl w.heap.size w)
 have H : (if (l0.length : Int) = (l1.length : Int) then (Z19.l0 k l0 l1 0) else (some false)) = some r := h
 clear h
 by_cases c3 : (l0.length : Int) = (l1.length : Int)
 case neg =>
  rw [if_neg c3] at H
  have cX : ((l0.length : Int) == (l1.length : Int)) = false := beq_eq_false_iff_ne.mpr c3
  have cY : ((l0.length : Int) != (l1.length : Int)) = true := bne_iff_ne.mpr c3
  have dA : (l0.length == l1.length) = false := by first | simpa using c3 | (simp at c3 ⊢; omega)
  obtain rfl := Option.some.inj H
  go_enter Try.func73, Try.ntmps73
  go_wp2
  go_ret
  exact ⟨xW, bl HB.out⟩
 rw [if_pos c3] at H
 have cX : ((l0.length : Int) == (l1.length : Int)) = true := beq_iff_eq.mpr c3
 have cY : ((l0.length : Int) != (l1.length : Int)) = false := bne_eq_false_iff_eq.mpr c3
 have dA : (l0.length == l1.length) = true := by first | simpa using c3 | (simp at c3 ⊢; omega)
 clear c3
 have H' := aM H
 clear H
 go_enter Try.func73, Try.ntmps73
 go_wp2
 go_loopg [5] k (fun kq v5 w' => ∃ (aA : Int), v5 = .int .i64 aA ∧ Aside0 (Z19.l0 kq l0 l1 aA = some r) ∧ Aside0 (kq ≤ k) ∧ Aside0 (Below w.heap.size w w'))
 case atStart => exact ⟨(0), xE, H', ⟨Nat.le_refl _⟩, ⟨bl HB.out⟩⟩
 case round =>
  clear H'
  repeat first|clear c1|clear p2|clear c3|clear cX|clear cY|clear dA
  obtain ⟨aA, rfl, HA, dD, HB⟩ := hrel
  cases gk with
  | zero => exact absurd HA.out (by simp [Z19.l0])
  | succ k1 =>
   have H := HA.out
   clear HA
   simp only [Z19.l0] at H
   by_cases c4 : aA < (l0.length : Int)
   case neg =>
    rw [if_neg c4] at H
    have dF := decide_eq_false c4
    clear c4
    obtain rfl := Option.some.inj H
    go_wp2
    go_ret
    exact ⟨xW, bl HB.out⟩
   rw [if_pos c4] at H
   have dF := decide_eq_true c4
   clear c4
   obtain ⟨dI, H⟩ := gI H
   obtain ⟨dJ, H⟩ := gI H
   obtain ⟨dG, dE, H⟩ := hB H
   have A7 := aM dE
   clear dE
   by_cases c8 : dG = true
   case neg =>
    replace c8 := Bool.eq_false_iff.mpr c8
    subst c8
    replace H := hF H
    obtain rfl := Option.some.inj H
    try go_wp2
    replace HB := aM (below_drew1 HB.out)
    have cP : 0 ≤ (aA : Int) := dT
    have cQ : aA < (l0.length : Int) := dT
    obtain ⟨cT, cV, aE, aG, aH, aI, aJ, aK, aN, aQ, aT, aV, aC⟩ := at_T79 dB.out aA cP cQ
    have bM := aC
    have bO := aV
    have bP := aT
    have bQ := aQ
    have bT := aN
    have bU := aK
    have bV := aJ
    have bW := aI
    have bX := aH
    have bY := aG
    have bZ := aE
    cases cV
    replace aE := xB HB aE
    replace aG := xB HB aG
    replace aH := xB HB aH
    replace aI := xB HB aI
    replace aJ := xB HB aJ
    replace aK := xB HB aK
    replace aN := xB HB aN
    replace aQ := xB HB aQ
    replace aT := xB HB aT
    replace aV := xB HB aV
    replace aC := xB HB aC
    replace cP := eq_true cP
    replace cQ := eq_true cQ
    have cR : 0 ≤ (aA : Int) := dT
    have cS : aA < (l1.length : Int) := dT
    obtain ⟨cU, cW, aW, aX, bA, bD, bG, bH, bI, bJ, bK, bL, aD⟩ := at_T79 dC.out aA cR cS
    have bN := aD
    have cA := bL
    have cC := bK
    have cD := bJ
    have cE := bI
    have cG := bH
    have cH := bG
    have cK := bD
    have cL := bA
    have cN := aX
    have cO := aW
    cases cW
    replace aW := xB HB aW
    replace aX := xB HB aX
    replace bA := xB HB bA
    replace bD := xB HB bD
    replace bG := xB HB bG
    replace bH := xB HB bH
    replace bI := xB HB bI
    replace bJ := xB HB bJ
    replace bK := xB HB bK
    replace bL := xB HB bL
    replace aD := xB HB aD
    replace cR := eq_true cR
    replace cS := eq_true cS
    refine start_ (n := 10) (S := fun w' => cF79 w' cT (aA).toNat (rd_T79 l0 aA) (cE79 w' cU (aA).toNat (rd_T79 l1 aA))) (ds := []) (dn 10 0) (by kernel_rfl) rfl rfl ⟨(xB HB bZ), (xB HB bY), (xB HB bX), (xB HB bW), (xB HB bV), (xB HB bU), (xB HB bT), (xB HB bQ), (xB HB bP), (xB HB bO), (xB HB bM), (xB HB cO), (xB HB cN), (xB HB cL), (xB HB cK), (xB HB cH), (xB HB cG), (xB HB cE), (xB HB cD), (xB HB cC), (xB HB cA), (xB HB bN)⟩ (fun hHeld => ?_); refine with_tabW Z19.tab6 Z19.bits6 (fun HT_ HW_ => ?_)
    generalize wr.drew = dM at HB aE aG aC aH aI aJ aK aN aQ aT aV aW aX aD bA bD bG bH bI bJ bK bL hHeld ⊢
    refine nY (N := some 17) HT_ ?_
    refine nY (N := some 18) HT_ ?_
    refine nY (N := some 19) HT_ ?_
    refine pZ 4 21 (bv 10 23) HT_ ?_
    refine pZ 5 22 (bv 10 55) HT_ ?_
    refine pZ 6 23 (bv 10 119) HT_ ?_
    refine aZ 3 20 (bv 10 127) HT_ HW_ hHeld ?_
    refine aZ 7 24 (bv 10 255) HT_ HW_ hHeld ?_
    refine one_ (i := 8) (N := some 25) (bv 10 511) rfl rfl (one_of HT_.out (by kernel_rfl)) (by decide) (fun K hK => ?_)
    refine goes_ Try.func146 (by kernel_rfl) rfl #[.agg #[((rd_T79 l0 aA).f0), ((rd_T79 l0 aA).f1), ((rd_T79 l0 aA).f2.f0), ((rd_T79 l0 aA).f2.f1), ((rd_T79 l0 aA).f2.f2), ((rd_T79 l0 aA).f2.f3), ((rd_T79 l0 aA).f3), ((rd_T79 l0 aA).f4), ((rd_T79 l0 aA).f5), ((rd_T79 l0 aA).f6), ((rd_T79 l0 aA).f7)], .agg #[((rd_T79 l1 aA).f0), ((rd_T79 l1 aA).f1), ((rd_T79 l1 aA).f2.f0), ((rd_T79 l1 aA).f2.f1), ((rd_T79 l1 aA).f2.f2), ((rd_T79 l1 aA).f2.f3), ((rd_T79 l1 aA).f3), ((rd_T79 l1 aA).f4), ((rd_T79 l1 aA).f5), ((rd_T79 l1 aA).f6), ((rd_T79 l1 aA).f7)]] (by rfl) rfl rfl xR ?_
    with_reducible refine (Z59.calls ((rd_T79 l0 aA).f0) ((rd_T79 l0 aA).f1) ((rd_T79 l0 aA).f2.f0) ((rd_T79 l0 aA).f2.f1) ((rd_T79 l0 aA).f2.f2) ((rd_T79 l0 aA).f2.f3) ((rd_T79 l0 aA).f3) ((rd_T79 l0 aA).f4) ((rd_T79 l0 aA).f5) ((rd_T79 l0 aA).f6) ((rd_T79 l0 aA).f7) ((rd_T79 l1 aA).f0) ((rd_T79 l1 aA).f1) ((rd_T79 l1 aA).f2.f0) ((rd_T79 l1 aA).f2.f1) ((rd_T79 l1 aA).f2.f2) ((rd_T79 l1 aA).f2.f3) ((rd_T79 l1 aA).f3) ((rd_T79 l1 aA).f4) ((rd_T79 l1 aA).f5) ((rd_T79 l1 aA).f6) ((rd_T79 l1 aA).f7) false _ A7.out).mono ?_
    rintro e dN ⟨rfl, hb⟩
    refine ⟨_, rfl, ?_⟩
    replace HB := rS HB hb
    (try clear hb)
    (try clear hb2)
    (try clear hk)
    (try clear hi)
    refine hK.out _ _ ⟨(xB HB bZ), (xB HB bY), (xB HB bX), (xB HB bW), (xB HB bV), (xB HB bU), (xB HB bT), (xB HB bQ), (xB HB bP), (xB HB bO), (xB HB bM), (xB HB cO), (xB HB cN), (xB HB cL), (xB HB cK), (xB HB cH), (xB HB cG), (xB HB cE), (xB HB cD), (xB HB cC), (xB HB cA), (xB HB bN)⟩ (fun hHeld => ?_)
    clear hK K
    refine norm_ (a' := ?_) ?_ ?_
    rotate_left
    ·show Act.put _ (some 25) _ = _
     simp only [Act.put, sA, sZ, sS, i64_w, i32_w]
     rfl
    refine pZ 9 26 (bv 10 1023) HT_ ?_
    refine done_ (done_of HT_.out (by kernel_rfl)) ?_
    try go_wp2
    go_ret
    exact ⟨xW, bl HB.out⟩
   subst c8
   replace H := hP H rfl
   have H' := aM H
   clear H
   try go_wp2
   replace HB := aM (below_drew1 HB.out)
   have cP : 0 ≤ (aA : Int) := dT
   have cQ : aA < (l0.length : Int) := dT
   obtain ⟨cT, cV, aE, aG, aH, aI, aJ, aK, aN, aQ, aT, aV, aC⟩ := at_T79 dB.out aA cP cQ
   have bM := aC
   have bO := aV
   have bP := aT
   have bQ := aQ
   have bT := aN
   have bU := aK
   have bV := aJ
   have bW := aI
   have bX := aH
   have bY := aG
   have bZ := aE
   cases cV
   replace aE := xB HB aE
   replace aG := xB HB aG
   replace aH := xB HB aH
   replace aI := xB HB aI
   replace aJ := xB HB aJ
   replace aK := xB HB aK
   replace aN := xB HB aN
   replace aQ := xB HB aQ
   replace aT := xB HB aT
   replace aV := xB HB aV
   replace aC := xB HB aC
   replace cP := eq_true cP
   replace cQ := eq_true cQ
   have cR : 0 ≤ (aA : Int) := dT
   have cS : aA < (l1.length : Int) := dT
   obtain ⟨cU, cW, aW, aX, bA, bD, bG, bH, bI, bJ, bK, bL, aD⟩ := at_T79 dC.out aA cR cS
   have bN := aD
   have cA := bL
   have cC := bK
   have cD := bJ
   have cE := bI
   have cG := bH
   have cH := bG
   have cK := bD
   have cL := bA
   have cN := aX
   have cO := aW
   cases cW
   replace aW := xB HB aW
   replace aX := xB HB aX
   replace bA := xB HB bA
   replace bD := xB HB bD
   replace bG := xB HB bG
   replace bH := xB HB bH
   replace bI := xB HB bI
   replace bJ := xB HB bJ
   replace bK := xB HB bK
   replace bL := xB HB bL
   replace aD := xB HB aD
   replace cR := eq_true cR
   replace cS := eq_true cS
   refine start_ (n := 10) (S := fun w' => cF79 w' cT (aA).toNat (rd_T79 l0 aA) (cE79 w' cU (aA).toNat (rd_T79 l1 aA))) (ds := []) (dn 10 0) (by kernel_rfl) rfl rfl ⟨(xB HB bZ), (xB HB bY), (xB HB bX), (xB HB bW), (xB HB bV), (xB HB bU), (xB HB bT), (xB HB bQ), (xB HB bP), (xB HB bO), (xB HB bM), (xB HB cO), (xB HB cN), (xB HB cL), (xB HB cK), (xB HB cH), (xB HB cG), (xB HB cE), (xB HB cD), (xB HB cC), (xB HB cA), (xB HB bN)⟩ (fun hHeld => ?_); refine with_tabW Z19.tab6 Z19.bits6 (fun HT_ HW_ => ?_)
   generalize wr.drew = w9 at HB aE aG aC aH aI aJ aK aN aQ aT aV aW aX aD bA bD bG bH bI bJ bK bL hHeld ⊢
   refine nY (N := some 17) HT_ ?_
   refine nY (N := some 18) HT_ ?_
   refine nY (N := some 19) HT_ ?_
   refine pZ 4 21 (bv 10 23) HT_ ?_
   refine pZ 5 22 (bv 10 55) HT_ ?_
   refine pZ 6 23 (bv 10 119) HT_ ?_
   refine aZ 3 20 (bv 10 127) HT_ HW_ hHeld ?_
   refine aZ 7 24 (bv 10 255) HT_ HW_ hHeld ?_
   refine one_ (i := 8) (N := some 25) (bv 10 511) rfl rfl (one_of HT_.out (by kernel_rfl)) (by decide) (fun K hK => ?_)
   refine goes_ Try.func146 (by kernel_rfl) rfl #[.agg #[((rd_T79 l0 aA).f0), ((rd_T79 l0 aA).f1), ((rd_T79 l0 aA).f2.f0), ((rd_T79 l0 aA).f2.f1), ((rd_T79 l0 aA).f2.f2), ((rd_T79 l0 aA).f2.f3), ((rd_T79 l0 aA).f3), ((rd_T79 l0 aA).f4), ((rd_T79 l0 aA).f5), ((rd_T79 l0 aA).f6), ((rd_T79 l0 aA).f7)], .agg #[((rd_T79 l1 aA).f0), ((rd_T79 l1 aA).f1), ((rd_T79 l1 aA).f2.f0), ((rd_T79 l1 aA).f2.f1), ((rd_T79 l1 aA).f2.f2), ((rd_T79 l1 aA).f2.f3), ((rd_T79 l1 aA).f3), ((rd_T79 l1 aA).f4), ((rd_T79 l1 aA).f5), ((rd_T79 l1 aA).f6), ((rd_T79 l1 aA).f7)]] (by rfl) rfl rfl xR ?_
   with_reducible refine (Z59.calls ((rd_T79 l0 aA).f0) ((rd_T79 l0 aA).f1) ((rd_T79 l0 aA).f2.f0) ((rd_T79 l0 aA).f2.f1) ((rd_T79 l0 aA).f2.f2) ((rd_T79 l0 aA).f2.f3) ((rd_T79 l0 aA).f3) ((rd_T79 l0 aA).f4) ((rd_T79 l0 aA).f5) ((rd_T79 l0 aA).f6) ((rd_T79 l0 aA).f7) ((rd_T79 l1 aA).f0) ((rd_T79 l1 aA).f1) ((rd_T79 l1 aA).f2.f0) ((rd_T79 l1 aA).f2.f1) ((rd_T79 l1 aA).f2.f2) ((rd_T79 l1 aA).f2.f3) ((rd_T79 l1 aA).f3) ((rd_T79 l1 aA).f4) ((rd_T79 l1 aA).f5) ((rd_T79 l1 aA).f6) ((rd_T79 l1 aA).f7) true _ A7.out).mono ?_
   rintro e dO ⟨rfl, hb⟩
   refine ⟨_, rfl, ?_⟩
   replace HB := rS HB hb
   (try clear hb)
   (try clear hb2)
   (try clear hk)
   (try clear hi)
   refine hK.out _ _ ⟨(xB HB bZ), (xB HB bY), (xB HB bX), (xB HB bW), (xB HB bV), (xB HB bU), (xB HB bT), (xB HB bQ), (xB HB bP), (xB HB bO), (xB HB bM), (xB HB cO), (xB HB cN), (xB HB cL), (xB HB cK), (xB HB cH), (xB HB cG), (xB HB cE), (xB HB cD), (xB HB cC), (xB HB cA), (xB HB bN)⟩ (fun hHeld => ?_)
   clear hK K
   refine norm_ (a' := ?_) ?_ ?_
   rotate_left
   ·show Act.put _ (some 25) _ = _
    simp only [Act.put, sA, sZ, sS, i64_w, i32_w]
    rfl
   refine pZ 9 26 (bv 10 1023) HT_ ?_
   refine done_ (done_of HT_.out (by kernel_rfl)) ?_
   try go_wp2
   go_roundg k1
   case measure => have := dD.out; omega
   case rel => exact ⟨(wS aA), xE, H', ⟨by have := dD.out; omega⟩, ⟨bl HB.out⟩⟩

def Z34.f (k : Nat) (aA : Int) (aC : List (S79)) (aD : Int) (aE : List (S79)) : Option (Bool) := if aA = aD then ((Z19.f k aC aE).bind fun aG => (if aG = true then (some true) else (some false))) else (some false)
theorem Z34.mono : ∀ a0 a1 a2 a3 k, LeO (Z34.f k a0 a1 a2 a3) (Z34.f (k + 1) a0 a1 a2 a3) := by
 intro a0 a1 a2 a3 k
 unfold Z34.f
 repeat' first|(with_reducible first|apply Z19.mono|exact lR _|exact lN _|refine lI ?_ ?_|refine lB ?_ fun _ => ?_)|exact lN _|refine lI ?_ ?_|refine lB ?_ fun _ => ?_
set_option maxHeartbeats 60000000 in
set_option maxRecDepth 100000 in
theorem Z34.calls (k : Nat) (aI : Int) (aK : Option Addr) (aN : Nat) (aC : List (S79)) (aJ : Int) (aQ : Option Addr) (aT : Nat) (aD : List (S79)) (r : Bool) (w : World) (hr0_1 : Kd.C k79 w aK aC.length aC) (hc0_1 : aC.length ≤ aN) (hr1_1 : Kd.C k79 w aQ aD.length aD) (hc1_1 : aD.length ≤ aT) (h : Z34.f k aI aC aJ aD = some r) :
  Calls Try.prog 16 #[.agg #[aI, .slice aK aC.length aN], .agg #[aJ, .slice aQ aD.length aT]] w fun e w' => e = .returned (.bool r) ∧ Below w.heap.size w w' := by
 have cA := Try.underlying28
 have aW := aM hr0_1
 have aX := aM hc0_1
 clear hr0_1 hc0_1
 have bA := aM hr1_1
 have bD := aM hc1_1
 clear hr1_1 hc1_1
 have HB := aM (Below.refl w.heap.size w)
 have H : (if aI = aJ then ((Z19.f k aC aD).bind fun aV => (if aV = true then (some true) else (some false))) else (some false)) = some r := h
 clear h
 by_cases c3 : aI = aJ
 case neg =>
  rw [if_neg c3] at H
  have bN : (aI == aJ) = false := beq_eq_false_iff_ne.mpr c3
  have bO : (aI != aJ) = true := bne_iff_ne.mpr c3
  obtain rfl := Option.some.inj H
  go_enter Try.func16, Try.ntmps16
  go_wp2_with (first | ((with_reducible refine gD (N := 2) rfl ?_); refine bE (N := 2) (cs := #[aI, .slice aK aC.length aN]) (t := 28) ?_; intro bG hg cG hbox hb; have aA := aM (hbox); have bH := gF hg HB; have bI := gF hg HB; replace HB := rS HB hb; clear hb hbox hg) | ((with_reducible refine gD (N := 3) rfl ?_); refine bE (N := 3) (cs := #[aJ, .slice aQ aD.length aT]) (t := 28) ?_; intro bJ hg cH hbox hb; have aH := aM (hbox); have bK := gF hg HB; have bL := gF hg HB; have aE := nM hg aA; have aG := nH hg aA; replace aA := rB aA hb; replace HB := rS HB hb; clear hb hbox hg; have bP := aE.out; have bQ := aG.out; have bT := cA2 aA.out; have bU := cA2 aH.out))
  go_ret
  exact ⟨xW, bl HB.out⟩
 rw [if_pos c3] at H
 have bN : (aI == aJ) = true := beq_iff_eq.mpr c3
 have bO : (aI != aJ) = false := bne_eq_false_iff_eq.mpr c3
 clear c3
 obtain ⟨aV, bM, H⟩ := hB H
 have A4 := aM bM
 clear bM
 by_cases c5 : aV = true
 case pos =>
  subst c5
  replace H := hP H rfl
  obtain rfl := Option.some.inj H
  go_enter Try.func16, Try.ntmps16
  go_wp2_with (first | ((with_reducible refine gD (N := 2) rfl ?_); refine bE (N := 2) (cs := #[aI, .slice aK aC.length aN]) (t := 28) ?_; intro bG hg w6 hbox hb; have aA := aM (hbox); have bH := gF hg HB; have bI := gF hg HB; replace HB := rS HB hb; clear hb hbox hg) | ((with_reducible refine gD (N := 3) rfl ?_); refine bE (N := 3) (cs := #[aJ, .slice aQ aD.length aT]) (t := 28) ?_; intro bJ hg w7 hbox hb; have aH := aM (hbox); have bK := gF hg HB; have bL := gF hg HB; have aE := nM hg aA; have aG := nH hg aA; replace aA := rB aA hb; replace HB := rS HB hb; clear hb hbox hg; have cC := aE.out; have cD := aG.out; have cE := cA2 aA.out; have bV := cA2 aH.out) | ((with_reducible refine gC (f := 73) rfl ?_); refine gL (some 14) Try.func73 #[.slice aK aC.length aN, .slice aQ aD.length aT] ?_; (with_reducible refine (Z19.calls k _ _ aC _ _ aD true _ ?side1 ?side2 ?side3 ?side4 A4.out).mono ?_); (case side1 => exact cM (cB aW.out HB.out)); (case side2 => exact aX.out); (case side3 => exact cM (cB bA.out HB.out)); (case side4 => exact bD.out); rintro e cK ⟨rfl, hb⟩; refine ⟨_, rfl, ?_⟩; replace aA := rB aA hb; replace aH := rB aH hb; replace HB := rS HB hb; (try clear hb)))
  go_ret
  exact ⟨xW, bl HB.out⟩
 replace c5 := Bool.eq_false_iff.mpr c5
 subst c5
 replace H := hF H
 obtain rfl := Option.some.inj H
 go_enter Try.func16, Try.ntmps16
 go_wp2_with (first | ((with_reducible refine gD (N := 2) rfl ?_); refine bE (N := 2) (cs := #[aI, .slice aK aC.length aN]) (t := 28) ?_; intro bG hg cL hbox hb; have aA := aM (hbox); have bH := gF hg HB; have bI := gF hg HB; replace HB := rS HB hb; clear hb hbox hg) | ((with_reducible refine gD (N := 3) rfl ?_); refine bE (N := 3) (cs := #[aJ, .slice aQ aD.length aT]) (t := 28) ?_; intro bJ hg cN hbox hb; have aH := aM (hbox); have bK := gF hg HB; have bL := gF hg HB; have aE := nM hg aA; have aG := nH hg aA; replace aA := rB aA hb; replace HB := rS HB hb; clear hb hbox hg; have bW := aE.out; have bX := aG.out; have bY := cA2 aA.out; have bZ := cA2 aH.out) | ((with_reducible refine gC (f := 73) rfl ?_); refine gL (some 14) Try.func73 #[.slice aK aC.length aN, .slice aQ aD.length aT] ?_; (with_reducible refine (Z19.calls k _ _ aC _ _ aD false _ ?side1 ?side2 ?side3 ?side4 A4.out).mono ?_); (case side1 => exact cM (cB aW.out HB.out)); (case side2 => exact aX.out); (case side3 => exact cM (cB bA.out HB.out)); (case side4 => exact bD.out); rintro e cO ⟨rfl, hb⟩; refine ⟨_, rfl, ?_⟩; replace aA := rB aA hb; replace aH := rB aH hb; replace HB := rS HB hb; (try clear hb)))
 go_ret
 exact ⟨xW, bl HB.out⟩

def Z30.l0 : Nat → List (S79) → Int → Int → Option (Int × (List (S79)))
 | 0, _, _, _ => none
 | k + 1, x0, x1, x5 => if x5 < (x0.length : Int) then (if 0 ≤ x5 then ((some (x0.set (x5 : Int).toNat (⟨((Int.tmod x1 3) == 0), (rd_T79 x0 x5).f1, (⟨(rd_T79 x0 x5).f2.f0, (rd_T79 x0 x5).f2.f1, (rd_T79 x0 x5).f2.f2, (rd_T79 x0 x5).f2.f3⟩ : S73), (rd_T79 x0 x5).f3, (rd_T79 x0 x5).f4, (rd_T79 x0 x5).f5, (rd_T79 x0 x5).f6, (rd_T79 x0 x5).f7⟩ : S79) : List (S79))).bind fun aA => ((some (aA.set (x5 : Int).toNat (⟨(rd_T79 aA x5).f0, ((Int.tmod (wrap64 (x1 + 1)) 3) == 0), (⟨(rd_T79 aA x5).f2.f0, (rd_T79 aA x5).f2.f1, (rd_T79 aA x5).f2.f2, (rd_T79 aA x5).f2.f3⟩ : S73), (rd_T79 aA x5).f3, (rd_T79 aA x5).f4, (rd_T79 aA x5).f5, (rd_T79 aA x5).f6, (rd_T79 aA x5).f7⟩ : S79) : List (S79))).bind fun aC => ((some (aC.set (x5 : Int).toNat (⟨(rd_T79 aC x5).f0, (rd_T79 aC x5).f1, (⟨wrap64 ((wrap64 (x1 + 1)) + 1), (rd_T79 aC x5).f2.f1, (rd_T79 aC x5).f2.f2, (rd_T79 aC x5).f2.f3⟩ : S73), (rd_T79 aC x5).f3, (rd_T79 aC x5).f4, (rd_T79 aC x5).f5, (rd_T79 aC x5).f6, (rd_T79 aC x5).f7⟩ : S79) : List (S79))).bind fun aD => ((some (aD.set (x5 : Int).toNat (⟨(rd_T79 aD x5).f0, (rd_T79 aD x5).f1, (⟨(rd_T79 aD x5).f2.f0, wrap64 ((wrap64 ((wrap64 (x1 + 1)) + 1)) + 1), (rd_T79 aD x5).f2.f2, (rd_T79 aD x5).f2.f3⟩ : S73), (rd_T79 aD x5).f3, (rd_T79 aD x5).f4, (rd_T79 aD x5).f5, (rd_T79 aD x5).f6, (rd_T79 aD x5).f7⟩ : S79) : List (S79))).bind fun aE => ((some (aE.set (x5 : Int).toNat (⟨(rd_T79 aE x5).f0, (rd_T79 aE x5).f1, (⟨(rd_T79 aE x5).f2.f0, (rd_T79 aE x5).f2.f1, wrap64 ((wrap64 ((wrap64 ((wrap64 (x1 + 1)) + 1)) + 1)) + 1), (rd_T79 aE x5).f2.f3⟩ : S73), (rd_T79 aE x5).f3, (rd_T79 aE x5).f4, (rd_T79 aE x5).f5, (rd_T79 aE x5).f6, (rd_T79 aE x5).f7⟩ : S79) : List (S79))).bind fun aG => ((some (aG.set (x5 : Int).toNat (⟨(rd_T79 aG x5).f0, (rd_T79 aG x5).f1, (⟨(rd_T79 aG x5).f2.f0, (rd_T79 aG x5).f2.f1, (rd_T79 aG x5).f2.f2, wrap64 ((wrap64 ((wrap64 ((wrap64 ((wrap64 (x1 + 1)) + 1)) + 1)) + 1)) + 1)⟩ : S73), (rd_T79 aG x5).f3, (rd_T79 aG x5).f4, (rd_T79 aG x5).f5, (rd_T79 aG x5).f6, (rd_T79 aG x5).f7⟩ : S79) : List (S79))).bind fun aH => ((some (aH.set (x5 : Int).toNat (⟨(rd_T79 aH x5).f0, (rd_T79 aH x5).f1, (⟨(rd_T79 aH x5).f2.f0, (rd_T79 aH x5).f2.f1, (rd_T79 aH x5).f2.f2, (rd_T79 aH x5).f2.f3⟩ : S73), wrap64 ((wrap64 ((wrap64 ((wrap64 ((wrap64 ((wrap64 (x1 + 1)) + 1)) + 1)) + 1)) + 1)) + 1), (rd_T79 aH x5).f4, (rd_T79 aH x5).f5, (rd_T79 aH x5).f6, (rd_T79 aH x5).f7⟩ : S79) : List (S79))).bind fun aI => ((some (aI.set (x5 : Int).toNat (⟨(rd_T79 aI x5).f0, (rd_T79 aI x5).f1, (⟨(rd_T79 aI x5).f2.f0, (rd_T79 aI x5).f2.f1, (rd_T79 aI x5).f2.f2, (rd_T79 aI x5).f2.f3⟩ : S73), (rd_T79 aI x5).f3, wrap64 ((wrap64 ((wrap64 ((wrap64 ((wrap64 ((wrap64 ((wrap64 (x1 + 1)) + 1)) + 1)) + 1)) + 1)) + 1)) + 1), (rd_T79 aI x5).f5, (rd_T79 aI x5).f6, (rd_T79 aI x5).f7⟩ : S79) : List (S79))).bind fun aJ => ((some (aJ.set (x5 : Int).toNat (⟨(rd_T79 aJ x5).f0, (rd_T79 aJ x5).f1, (⟨(rd_T79 aJ x5).f2.f0, (rd_T79 aJ x5).f2.f1, (rd_T79 aJ x5).f2.f2, (rd_T79 aJ x5).f2.f3⟩ : S73), (rd_T79 aJ x5).f3, (rd_T79 aJ x5).f4, wrap64 ((wrap64 ((wrap64 ((wrap64 ((wrap64 ((wrap64 ((wrap64 ((wrap64 (x1 + 1)) + 1)) + 1)) + 1)) + 1)) + 1)) + 1)) + 1), (rd_T79 aJ x5).f6, (rd_T79 aJ x5).f7⟩ : S79) : List (S79))).bind fun aK => ((some (aK.set (x5 : Int).toNat (⟨(rd_T79 aK x5).f0, (rd_T79 aK x5).f1, (⟨(rd_T79 aK x5).f2.f0, (rd_T79 aK x5).f2.f1, (rd_T79 aK x5).f2.f2, (rd_T79 aK x5).f2.f3⟩ : S73), (rd_T79 aK x5).f3, (rd_T79 aK x5).f4, (rd_T79 aK x5).f5, wrap64 ((wrap64 ((wrap64 ((wrap64 ((wrap64 ((wrap64 ((wrap64 ((wrap64 ((wrap64 (x1 + 1)) + 1)) + 1)) + 1)) + 1)) + 1)) + 1)) + 1)) + 1), (rd_T79 aK x5).f7⟩ : S79) : List (S79))).bind fun aN => (Z30.l0 k (aN.set (x5 : Int).toNat (⟨(rd_T79 aN x5).f0, (rd_T79 aN x5).f1, (⟨(rd_T79 aN x5).f2.f0, (rd_T79 aN x5).f2.f1, (rd_T79 aN x5).f2.f2, (rd_T79 aN x5).f2.f3⟩ : S73), (rd_T79 aN x5).f3, (rd_T79 aN x5).f4, (rd_T79 aN x5).f5, (rd_T79 aN x5).f6, ((Int.tmod (wrap64 ((wrap64 ((wrap64 ((wrap64 ((wrap64 ((wrap64 ((wrap64 ((wrap64 ((wrap64 ((wrap64 (x1 + 1)) + 1)) + 1)) + 1)) + 1)) + 1)) + 1)) + 1)) + 1)) + 1)) 3) == 0)⟩ : S79)) (wrap64 ((wrap64 ((wrap64 ((wrap64 ((wrap64 ((wrap64 ((wrap64 ((wrap64 ((wrap64 ((wrap64 ((wrap64 (x1 + 1)) + 1)) + 1)) + 1)) + 1)) + 1)) + 1)) + 1)) + 1)) + 1)) + 1)) (wrap64 (x5 + 1))))))))))))) else (none)) else (some (x1, x0))
def Z30.f (k : Nat) (l0 : List (S79)) (a1 : Int) : Option (Int × (List (S79))) := Z30.l0 k l0 a1 0
theorem Z30.mono_l : ∀ k, (∀ y0 y1 y2, LeO (Z30.l0 k y0 y1 y2) (Z30.l0 (k + 1) y0 y1 y2))
 | 0 => fun _ _ _ r h => by simp [Z30.l0] at h
 | k + 1 => by
  have ih0 := Z30.mono_l k
  ·intro y0 y1 y2
   unfold Z30.l0
   repeat' first|(with_reducible first|apply ih0|exact lR _|exact lN _|refine lI ?_ ?_|refine lB ?_ fun _ => ?_)|exact lN _|refine lI ?_ ?_|refine lB ?_ fun _ => ?_
theorem Z30.mono : ∀ a0 a1 k, LeO (Z30.f k a0 a1) (Z30.f (k + 1) a0 a1) := by
 intro a0 a1 k
 have ih0 := Z30.mono_l k
 unfold Z30.f
 repeat' first|(with_reducible first|apply ih0|exact lR _|exact lN _|refine lI ?_ ?_|refine lB ?_ fun _ => ?_)|exact lN _|refine lI ?_ ?_|refine lB ?_ fun _ => ?_
set_option maxHeartbeats 60000000 in
set_option maxRecDepth 100000 in
theorem Z30.calls (k : Nat) (P0_ : Nat → Prop) (bD : Value) (l0 : List (S79)) (a1 r1 : Int) (r2 : List (S79)) (w0 w : World) (hB : Below w0.heap.size w0 w) (ho0 : Kd.R k79 79 w w0.heap.size P0_ bD l0) (h : Z30.f k l0 a1 = some (r1, r2)) :
  Calls Try.prog 74 #[bD, a1] w fun e w' => e = .returned (.int .i64 r1) ∧ Kd.R k79 79 w' w0.heap.size (fun k_ => (P0_ k_ ∨ w.heap.size ≤ k_)) bD r2 ∧ Below w0.heap.size w0 w' ∧ Kept w w' (fun k_ => P0_ k_) := by
 have jM := aM (show Kd.R k79 79 w w0.heap.size (fun k_ => (P0_ k_ ∨ w.heap.size ≤ k_)) bD l0 from Kd.R_mono ho0 (fun k_ hk => (.inl hk)))
 have HK := aM (Kept.refl w (fun k_ => P0_ k_))
 have HW0 := aM hB.size
 have HB := aM hB
 clear hB
 have H : (Z30.l0 k l0 a1 0) = some (r1, r2) := h
 clear h
 have H' := aM H
 clear H
 go_enter Try.func74, Try.ntmps74
 go_wp2
 go_loopg [1, 5] k (fun kq v1 v5 w' => ∃ (aD : List (S79)) (aE : Int) (aA : Int), v1 = .int .i64 aE ∧ v5 = .int .i64 aA ∧ Aside0 (Z30.l0 kq aD aE aA = some (r1, r2)) ∧ Aside0 (kq ≤ k) ∧ Aside0 (Kd.R k79 79 w' w0.heap.size (fun k_ => (P0_ k_ ∨ w.heap.size ≤ k_)) bD aD) ∧ Aside0 (Kept w w' (fun k_ => P0_ k_)) ∧ Aside0 (Below w0.heap.size w0 w'))
 case atStart => exact ⟨(l0), (a1), (0), xE, xE, H', ⟨Nat.le_refl _⟩, ⟨kr jM.out⟩, ⟨kk HK.out⟩, ⟨bl HB.out⟩⟩
 case round =>
  clear H'
  try clear p2
  obtain ⟨aD, aE, aA, rfl, rfl, HA, iH, aC, HK, HB⟩ := hrel
  cases gk with
  | zero => exact absurd HA.out (by simp [Z30.l0])
  | succ k1 =>
   have H := HA.out
   clear HA
   simp only [Z30.l0] at H
   by_cases c3 : aA < (aD.length : Int)
   case neg =>
    rw [if_neg c3] at H
    have iQ := decide_eq_false c3
    clear c3
    simp only [Option.some.injEq, Prod.mk.injEq] at H
    obtain ⟨rfl, rfl⟩ := H
    obtain ⟨uL, uM, iR⟩ := Kd.R_slice aC.out
    subst iR
    go_wp2
    go_ret
    exact ⟨xW, by (with_reducible repeat (first | apply Kd.R_alloc | apply Kd.R_drewN | apply Kd.R_drew)); exact aC.out, bl HB.out, kk HK.out⟩
   rw [if_pos c3] at H
   have iQ := decide_eq_true c3
   clear c3
   obtain ⟨uN, H⟩ := gI H
   obtain ⟨aJ, cW, H⟩ := hS H
   have gY := aM cW
   clear cW
   obtain ⟨aK, cX, H⟩ := hS H
   have gZ := aM cX
   clear cX
   obtain ⟨aN, cY, H⟩ := hS H
   have hD := aM cY
   clear cY
   obtain ⟨aQ, dA, H⟩ := hS H
   have hH := aM dA
   clear dA
   obtain ⟨aT, dB, H⟩ := hS H
   have hJ := aM dB
   clear dB
   obtain ⟨aV, dC, H⟩ := hS H
   have hO := aM dC
   clear dC
   obtain ⟨aW, dD, H⟩ := hS H
   have hU := aM dD
   clear dD
   obtain ⟨aX, dE, H⟩ := hS H
   have hX := aM dE
   clear dE
   obtain ⟨bA, dF, H⟩ := hS H
   have hY := aM dF
   clear dF
   obtain ⟨aH, dG, H⟩ := hS H
   have hZ := aM dG
   clear dG
   obtain ⟨cH, bH⟩ : ∃ y_ : List (S79), y_ = (aH.set (aA : Int).toNat (⟨(rd_T79 aH aA).f0, (rd_T79 aH aA).f1, (⟨(rd_T79 aH aA).f2.f0, (rd_T79 aH aA).f2.f1, (rd_T79 aH aA).f2.f2, (rd_T79 aH aA).f2.f3⟩ : S73), (rd_T79 aH aA).f3, (rd_T79 aH aA).f4, (rd_T79 aH aA).f5, (rd_T79 aH aA).f6, ((Int.tmod (wS (wS (wS (wS (wS (wS (wS (wS (wS (wS aE)))))))))) 3) == 0)⟩ : S79)) := ⟨_, rfl⟩
   replace H : (Z30.l0 k1 cH (wS (wS (wS (wS (wS (wS (wS (wS (wS (wS (wS aE))))))))))) (wS aA)) = some (r1, r2) := by first | (rw [bH]; with_reducible exact H) | (have H2_ := (Option.bind_some _ _).symm.trans H; rw [bH]; with_reducible exact H2_) | (have H2_ := (Option.bind_some _ _).symm.trans H; with_reducible exact H2_) | with_reducible exact H | (rw [bH]; exact H) | exact H
   have iA := aM bH
   clear bH
   have H' := aM H
   clear H
   obtain ⟨uO, aI, iS⟩ := Kd.R_slice aC.out
   subst iS
   have p5 : 0 ≤ (aA : Int) := dT
   have q5 : (aA : Int) < ((aD.length : Int) : Int) := dT
   obtain ⟨aG, vG, iI, iJ, jN, vH, iK⟩ := Kd.R_form aC.out (by omega)
   (first | cases iI | (injection iI with ea_ en_ ec_; (first | subst ea_ | (injection ea_ with ea_; subst ea_)); subst ec_; clear en_))
   have bG := aM iJ
   have vI := aM iK
   clear iJ jN iK
   have HMgo5 := aM (show (P0_ aG ∨ w.heap.size ≤ aG) from (aC.out.1 _ rfl))
   obtain ⟨vJ, iT, iL, eQ, eR⟩ := Kd.R_elem aC.out z79 (aA : Int) p5 q5
   obtain rfl := k79_openM iL
   obtain ⟨qA, qC, qD, qE, qF, qG, qH, qI, qJ, qM, jO, qN, qO, qP, qQ, qS, qT, qV, qW, qX, qY, jP⟩ := eS79 (rd_T79 aD aA) eQ eR
   clear iT eQ eR iL
   replace p5 := eq_true p5
   replace q5 := eq_true q5
   have eS := aM (show Kd.R k79 79 wr w0.heap.size (fun k_ => (P0_ k_ ∨ w.heap.size ≤ k_)) (.slice (some ⟨aG, 0, none⟩) aD.length aI) aD from (kr aC.out))
   obtain ⟨uP, dH, eT, bU, dI⟩ := Kd.R_elem eS.out z79 (aA : Int) (dT) dT
   obtain rfl := k79_openM eT
   have cK := Kd.R_seg eS.out (aA : Int) (dT) dT (seg := [.bool ((Int.tmod aE 3) == 0)]) (j := 0) dH bU (show 1 ≤ 11 from by decide) (x' := (⟨((Int.tmod aE 3) == 0), (rd_T79 aD aA).f1, (⟨(rd_T79 aD aA).f2.f0, (rd_T79 aD aA).f2.f1, (rd_T79 aD aA).f2.f2, (rd_T79 aD aA).f2.f3⟩ : S73), (rd_T79 aD aA).f3, (rd_T79 aD aA).f4, (rd_T79 aD aA).f5, (rd_T79 aD aA).f6, (rd_T79 aD aA).f7⟩ : S79)) (k79_mkM _ _ _ _) (fun _ hk => hk)
   have jQ := cZ 11 (bU 0 _ rfl)
   have jR := fZ 11 (dI 0)
   clear dH bU dI eT
   go_wp2_with (first | ((with_reducible refine gate_store (t := 4) (p := 18) rfl ?_); refine store_event (t := 4) (p := 18) (v := ?vo_w18) (w1 := (wr.setCell ⟨aG, (aA : Int).toNat * 11, none⟩ (.bool ((Int.tmod aE 3) == 0)))) ?hg ?ho ?hn ?hr ?_; (case ho => rfl); (case hg => rfl); (case hn => rfl); (case hr => first | (go_simp; done) | (go_simp; rfl) | (obtain ⟨A_, c_, e_⟩ := Kd.R_slice aC.out; subst e_; (first | (go_simp; done) | (go_simp; rfl))) | (obtain ⟨A_, c_, e_⟩ := Kd.S_slice aC.out; subst e_; (first | (go_simp; done) | (go_simp; rfl)))); intro bI hw; have hg : wr.grownBy bI (some aG) := (by rw [hw]; exact cK.2); have hp_ : Kd.R k79 79 bI w0.heap.size (fun k_ => (P0_ k_ ∨ w.heap.size ≤ k_)) (.slice (some ⟨aG, 0, none⟩) aD.length aI) aJ := (by rw [hw, gY.out]; exact cK.1); clear cK; replace HB := aM ((by rw [hw]; exact below_set (HB.out) bG.out : Below w0.heap.size w0 bI)); replace HK := aM (Kept.of_grown (S := (fun k_ => P0_ k_)) hg (kk HK.out) (fun k_ e_ => (aC.out.1 k_ e_))); replace aC := aM (hp_); clear hg hw hp_; have p6 : 0 ≤ (aA : Int) := dT; have q6 : (aA : Int) < ((aD.length : Int) : Int) := dT; obtain ⟨vK, iU, iM, eU, eV⟩ := Kd.R_elem aC.out z79 (aA : Int) p6 q6; obtain rfl := k79_openM iM; obtain ⟨qZ, rA, rC, rD, rE, rF, rG, rH, rI, rJ, jS, rL, rM, rN, rO, rQ, rR, rT, rV, rW, rX, jT⟩ := eS79 (rd_T79 aJ aA) eU eV; clear iU eU eV iM; replace p6 := eq_true p6; replace q6 := eq_true q6; have eW := aM (show Kd.R k79 79 bI w0.heap.size (fun k_ => (P0_ k_ ∨ w.heap.size ≤ k_)) (.slice (some ⟨aG, 0, none⟩) aD.length aI) aJ from (kr aC.out)); obtain ⟨uQ, dJ, eX, bV, dK⟩ := Kd.R_elem eW.out z79 (aA : Int) (dT) dT; obtain rfl := k79_openM eX; have cL := Kd.R_seg eW.out (aA : Int) (dT) dT (seg := [.bool ((Int.tmod (wS aE) 3) == 0)]) (j := 1) dJ bV (show 2 ≤ 11 from by decide) (x' := (⟨(rd_T79 aJ aA).f0, ((Int.tmod (wS aE) 3) == 0), (⟨(rd_T79 aJ aA).f2.f0, (rd_T79 aJ aA).f2.f1, (rd_T79 aJ aA).f2.f2, (rd_T79 aJ aA).f2.f3⟩ : S73), (rd_T79 aJ aA).f3, (rd_T79 aJ aA).f4, (rd_T79 aJ aA).f5, (rd_T79 aJ aA).f6, (rd_T79 aJ aA).f7⟩ : S79)) (k79_mkM _ _ _ _) (fun _ hk => hk); have jU := cJ 11 (bV 1 _ rfl); have jV := fJ 11 (dK 1); clear dJ bV dK eX) | ((with_reducible refine gate_store (t := 4) (p := 27) rfl ?_); refine store_event (t := 4) (p := 27) (v := ?vo_w20) (w1 := (bI.setCell ⟨aG, (aA : Int).toNat * 11 + 1, none⟩ (.bool ((Int.tmod (wS aE) 3) == 0)))) ?hg ?ho ?hn ?hr ?_; (case ho => rfl); (case hg => rfl); (case hn => rfl); (case hr => first | (go_simp; done) | (go_simp; rfl) | (obtain ⟨A_, c_, e_⟩ := Kd.R_slice aC.out; subst e_; (first | (go_simp; done) | (go_simp; rfl))) | (obtain ⟨A_, c_, e_⟩ := Kd.S_slice aC.out; subst e_; (first | (go_simp; done) | (go_simp; rfl)))); intro bJ hw; have hg : bI.grownBy bJ (some aG) := (by rw [hw]; exact cL.2); have hp_ : Kd.R k79 79 bJ w0.heap.size (fun k_ => (P0_ k_ ∨ w.heap.size ≤ k_)) (.slice (some ⟨aG, 0, none⟩) aD.length aI) aK := (by rw [hw, gZ.out]; exact cL.1); clear cL; replace HB := aM ((by rw [hw]; exact below_set (HB.out) bG.out : Below w0.heap.size w0 bJ)); replace HK := aM (Kept.of_grown (S := (fun k_ => P0_ k_)) hg (kk HK.out) (fun k_ e_ => (aC.out.1 k_ e_))); replace aC := aM (hp_); clear hg hw hp_; have p7 : 0 ≤ (aA : Int) := dT; have q7 : (aA : Int) < ((aD.length : Int) : Int) := dT; obtain ⟨vL, iV, iN, eY, eZ⟩ := Kd.R_elem aC.out z79 (aA : Int) p7 q7; obtain rfl := k79_openM iN; obtain ⟨rY, rZ, sB, sC, sD, sE, sF, sG, sH, sI, jW, sJ, sK, sL, sM, sN, sO, sP, sQ, sR, sT, jX⟩ := eS79 (rd_T79 aK aA) eY eZ; clear iV eY eZ iN; replace p7 := eq_true p7; replace q7 := eq_true q7; have fA := aM (show Kd.R k79 79 bJ w0.heap.size (fun k_ => (P0_ k_ ∨ w.heap.size ≤ k_)) (.slice (some ⟨aG, 0, none⟩) aD.length aI) aK from (kr aC.out)); obtain ⟨uR, dL, fB, bW, dM⟩ := Kd.R_elem fA.out z79 (aA : Int) (dT) dT; obtain rfl := k79_openM fB; have cN := Kd.R_seg fA.out (aA : Int) (dT) dT (seg := [.int .i64 (wS (wS aE))]) (j := 2) dL bW (show 3 ≤ 11 from by decide) (x' := (⟨(rd_T79 aK aA).f0, (rd_T79 aK aA).f1, (⟨wS (wS aE), (rd_T79 aK aA).f2.f1, (rd_T79 aK aA).f2.f2, (rd_T79 aK aA).f2.f3⟩ : S73), (rd_T79 aK aA).f3, (rd_T79 aK aA).f4, (rd_T79 aK aA).f5, (rd_T79 aK aA).f6, (rd_T79 aK aA).f7⟩ : S79)) (k79_mkM _ _ _ _) (fun _ hk => hk); have jY := cJ 11 (bW 2 _ rfl); have jZ := fJ 11 (dM 2); clear dL bW dM fB) | ((with_reducible refine gate_store (t := 3) (p := 35) rfl ?_); refine store_event (t := 3) (p := 35) (v := ?vo_w22) (w1 := (bJ.setCell ⟨aG, (aA : Int).toNat * 11 + 2, none⟩ (.int .i64 (wS (wS aE))))) ?hg ?ho ?hn ?hr ?_; (case ho => rfl); (case hg => rfl); (case hn => rfl); (case hr => first | (go_simp; done) | (go_simp; rfl) | (obtain ⟨A_, c_, e_⟩ := Kd.R_slice aC.out; subst e_; (first | (go_simp; done) | (go_simp; rfl))) | (obtain ⟨A_, c_, e_⟩ := Kd.S_slice aC.out; subst e_; (first | (go_simp; done) | (go_simp; rfl)))); intro bK hw; have hg : bJ.grownBy bK (some aG) := (by rw [hw]; exact cN.2); have hp_ : Kd.R k79 79 bK w0.heap.size (fun k_ => (P0_ k_ ∨ w.heap.size ≤ k_)) (.slice (some ⟨aG, 0, none⟩) aD.length aI) aN := (by rw [hw, hD.out]; exact cN.1); clear cN; replace HB := aM ((by rw [hw]; exact below_set (HB.out) bG.out : Below w0.heap.size w0 bK)); replace HK := aM (Kept.of_grown (S := (fun k_ => P0_ k_)) hg (kk HK.out) (fun k_ e_ => (aC.out.1 k_ e_))); replace aC := aM (hp_); clear hg hw hp_; have p8 : 0 ≤ (aA : Int) := dT; have q8 : (aA : Int) < ((aD.length : Int) : Int) := dT; obtain ⟨vM, iW, iO, fC, fD⟩ := Kd.R_elem aC.out z79 (aA : Int) p8 q8; obtain rfl := k79_openM iO; obtain ⟨sU, sV, sW, sX, sY, tA, tB, tC, tD, tE, kA, tF, tG, tH, tI, tJ, tK, tL, tM, tN, tO, kC⟩ := eS79 (rd_T79 aN aA) fC fD; clear iW fC fD iO; replace p8 := eq_true p8; replace q8 := eq_true q8; have fE := aM (show Kd.R k79 79 bK w0.heap.size (fun k_ => (P0_ k_ ∨ w.heap.size ≤ k_)) (.slice (some ⟨aG, 0, none⟩) aD.length aI) aN from (kr aC.out)); obtain ⟨uS, dN, fF, bX, dO⟩ := Kd.R_elem fE.out z79 (aA : Int) (dT) dT; obtain rfl := k79_openM fF; have cO := Kd.R_seg fE.out (aA : Int) (dT) dT (seg := [.int .i64 (wS (wS (wS aE)))]) (j := 3) dN bX (show 4 ≤ 11 from by decide) (x' := (⟨(rd_T79 aN aA).f0, (rd_T79 aN aA).f1, (⟨(rd_T79 aN aA).f2.f0, wS (wS (wS aE)), (rd_T79 aN aA).f2.f2, (rd_T79 aN aA).f2.f3⟩ : S73), (rd_T79 aN aA).f3, (rd_T79 aN aA).f4, (rd_T79 aN aA).f5, (rd_T79 aN aA).f6, (rd_T79 aN aA).f7⟩ : S79)) (k79_mkM _ _ _ _) (fun _ hk => hk); have kD := cJ 11 (bX 3 _ rfl); have kE := fJ 11 (dO 3); clear dN bX dO fF) | ((with_reducible refine gate_store (t := 3) (p := 43) rfl ?_); refine store_event (t := 3) (p := 43) (v := ?vo_w24) (w1 := (bK.setCell ⟨aG, (aA : Int).toNat * 11 + 3, none⟩ (.int .i64 (wS (wS (wS aE)))))) ?hg ?ho ?hn ?hr ?_; (case ho => rfl); (case hg => rfl); (case hn => rfl); (case hr => first | (go_simp; done) | (go_simp; rfl) | (obtain ⟨A_, c_, e_⟩ := Kd.R_slice aC.out; subst e_; (first | (go_simp; done) | (go_simp; rfl))) | (obtain ⟨A_, c_, e_⟩ := Kd.S_slice aC.out; subst e_; (first | (go_simp; done) | (go_simp; rfl)))); intro bL hw; have hg : bK.grownBy bL (some aG) := (by rw [hw]; exact cO.2); have hp_ : Kd.R k79 79 bL w0.heap.size (fun k_ => (P0_ k_ ∨ w.heap.size ≤ k_)) (.slice (some ⟨aG, 0, none⟩) aD.length aI) aQ := (by rw [hw, hH.out]; exact cO.1); clear cO; replace HB := aM ((by rw [hw]; exact below_set (HB.out) bG.out : Below w0.heap.size w0 bL)); replace HK := aM (Kept.of_grown (S := (fun k_ => P0_ k_)) hg (kk HK.out) (fun k_ e_ => (aC.out.1 k_ e_))); replace aC := aM (hp_); clear hg hw hp_; have p9 : 0 ≤ (aA : Int) := dT; have q9 : (aA : Int) < ((aD.length : Int) : Int) := dT; obtain ⟨vN, iX, iP, fG, fH⟩ := Kd.R_elem aC.out z79 (aA : Int) p9 q9; obtain rfl := k79_openM iP; obtain ⟨tP, tQ, tR, tS, tT, tV, tW, tX, tZ, uA, kG, uB, uC, uD, uE, uF, uG, uH, uI, uJ, uK, kH⟩ := eS79 (rd_T79 aQ aA) fG fH; clear iX fG fH iP; replace p9 := eq_true p9; replace q9 := eq_true q9; have fI := aM (show Kd.R k79 79 bL w0.heap.size (fun k_ => (P0_ k_ ∨ w.heap.size ≤ k_)) (.slice (some ⟨aG, 0, none⟩) aD.length aI) aQ from (kr aC.out)); obtain ⟨uT, dP, fK, bY, dQ⟩ := Kd.R_elem fI.out z79 (aA : Int) (dT) dT; obtain rfl := k79_openM fK; have cP := Kd.R_seg fI.out (aA : Int) (dT) dT (seg := [.int .i64 (wS (wS (wS (wS aE))))]) (j := 4) dP bY (show 5 ≤ 11 from by decide) (x' := (⟨(rd_T79 aQ aA).f0, (rd_T79 aQ aA).f1, (⟨(rd_T79 aQ aA).f2.f0, (rd_T79 aQ aA).f2.f1, wS (wS (wS (wS aE))), (rd_T79 aQ aA).f2.f3⟩ : S73), (rd_T79 aQ aA).f3, (rd_T79 aQ aA).f4, (rd_T79 aQ aA).f5, (rd_T79 aQ aA).f6, (rd_T79 aQ aA).f7⟩ : S79)) (k79_mkM _ _ _ _) (fun _ hk => hk); have kI := cJ 11 (bY 4 _ rfl); have kJ := fJ 11 (dQ 4); clear dP bY dQ fK) | ((with_reducible refine gate_store (t := 3) (p := 51) rfl ?_); refine store_event (t := 3) (p := 51) (v := ?vo_w26) (w1 := (bL.setCell ⟨aG, (aA : Int).toNat * 11 + 4, none⟩ (.int .i64 (wS (wS (wS (wS aE))))))) ?hg ?ho ?hn ?hr ?_; (case ho => rfl); (case hg => rfl); (case hn => rfl); (case hr => first | (go_simp; done) | (go_simp; rfl) | (obtain ⟨A_, c_, e_⟩ := Kd.R_slice aC.out; subst e_; (first | (go_simp; done) | (go_simp; rfl))) | (obtain ⟨A_, c_, e_⟩ := Kd.S_slice aC.out; subst e_; (first | (go_simp; done) | (go_simp; rfl)))); intro bM hw; have hg : bL.grownBy bM (some aG) := (by rw [hw]; exact cP.2); have hp_ : Kd.R k79 79 bM w0.heap.size (fun k_ => (P0_ k_ ∨ w.heap.size ≤ k_)) (.slice (some ⟨aG, 0, none⟩) aD.length aI) aT := (by rw [hw, hJ.out]; exact cP.1); clear cP; replace HB := aM ((by rw [hw]; exact below_set (HB.out) bG.out : Below w0.heap.size w0 bM)); replace HK := aM (Kept.of_grown (S := (fun k_ => P0_ k_)) hg (kk HK.out) (fun k_ e_ => (aC.out.1 k_ e_))); replace aC := aM (hp_); clear hg hw hp_; have fL : 0 ≤ (aA : Int) := dT; have fM : (aA : Int) < ((aD.length : Int) : Int) := dT; obtain ⟨uU, iB, fN, dR, dS⟩ := Kd.R_elem aC.out z79 (aA : Int) fL fM; obtain rfl := k79_openM fN; obtain ⟨kK, kL, kM, kN, kO, kP, kQ, kR, kS, kT, iY, kU, kV, kW, kX, kY, kZ, lA, lC, lD, lE, iZ⟩ := eS79 (rd_T79 aT aA) dR dS; clear iB dR dS fN; replace fL := eq_true fL; replace fM := eq_true fM; have fO := aM (show Kd.R k79 79 bM w0.heap.size (fun k_ => (P0_ k_ ∨ w.heap.size ≤ k_)) (.slice (some ⟨aG, 0, none⟩) aD.length aI) aT from (kr aC.out)); obtain ⟨uV, dU, fP, bZ, dV⟩ := Kd.R_elem fO.out z79 (aA : Int) (dT) dT; obtain rfl := k79_openM fP; have cQ := Kd.R_seg fO.out (aA : Int) (dT) dT (seg := [.int .i64 (wS (wS (wS (wS (wS aE)))))]) (j := 5) dU bZ (show 6 ≤ 11 from by decide) (x' := (⟨(rd_T79 aT aA).f0, (rd_T79 aT aA).f1, (⟨(rd_T79 aT aA).f2.f0, (rd_T79 aT aA).f2.f1, (rd_T79 aT aA).f2.f2, wS (wS (wS (wS (wS aE))))⟩ : S73), (rd_T79 aT aA).f3, (rd_T79 aT aA).f4, (rd_T79 aT aA).f5, (rd_T79 aT aA).f6, (rd_T79 aT aA).f7⟩ : S79)) (k79_mkM _ _ _ _) (fun _ hk => hk); have lF := cJ 11 (bZ 5 _ rfl); have lG := fJ 11 (dV 5); clear dU bZ dV fP) | ((with_reducible refine gate_store (t := 3) (p := 59) rfl ?_); refine store_event (t := 3) (p := 59) (v := ?vo_w28) (w1 := (bM.setCell ⟨aG, (aA : Int).toNat * 11 + 5, none⟩ (.int .i64 (wS (wS (wS (wS (wS aE)))))))) ?hg ?ho ?hn ?hr ?_; (case ho => rfl); (case hg => rfl); (case hn => rfl); (case hr => first | (go_simp; done) | (go_simp; rfl) | (obtain ⟨A_, c_, e_⟩ := Kd.R_slice aC.out; subst e_; (first | (go_simp; done) | (go_simp; rfl))) | (obtain ⟨A_, c_, e_⟩ := Kd.S_slice aC.out; subst e_; (first | (go_simp; done) | (go_simp; rfl)))); intro bN hw; have hg : bM.grownBy bN (some aG) := (by rw [hw]; exact cQ.2); have hp_ : Kd.R k79 79 bN w0.heap.size (fun k_ => (P0_ k_ ∨ w.heap.size ≤ k_)) (.slice (some ⟨aG, 0, none⟩) aD.length aI) aV := (by rw [hw, hO.out]; exact cQ.1); clear cQ; replace HB := aM ((by rw [hw]; exact below_set (HB.out) bG.out : Below w0.heap.size w0 bN)); replace HK := aM (Kept.of_grown (S := (fun k_ => P0_ k_)) hg (kk HK.out) (fun k_ e_ => (aC.out.1 k_ e_))); replace aC := aM (hp_); clear hg hw hp_; have fQ : 0 ≤ (aA : Int) := dT; have fS : (aA : Int) < ((aD.length : Int) : Int) := dT; obtain ⟨uW, iC, fT, dW, dX⟩ := Kd.R_elem aC.out z79 (aA : Int) fQ fS; obtain rfl := k79_openM fT; obtain ⟨lH, lJ, lK, lL, lM, lO, lP, lQ, lS, lT, jA, lU, lV, lW, lX, lY, lZ, mA, mB, mC, mD, jB⟩ := eS79 (rd_T79 aV aA) dW dX; clear iC dW dX fT; replace fQ := eq_true fQ; replace fS := eq_true fS; have fU := aM (show Kd.R k79 79 bN w0.heap.size (fun k_ => (P0_ k_ ∨ w.heap.size ≤ k_)) (.slice (some ⟨aG, 0, none⟩) aD.length aI) aV from (kr aC.out)); obtain ⟨uX, dY, fV, cA, dZ⟩ := Kd.R_elem fU.out z79 (aA : Int) (dT) dT; obtain rfl := k79_openM fV; have cR := Kd.R_seg fU.out (aA : Int) (dT) dT (seg := [.int .i64 (wS (wS (wS (wS (wS (wS aE))))))]) (j := 6) dY cA (show 7 ≤ 11 from by decide) (x' := (⟨(rd_T79 aV aA).f0, (rd_T79 aV aA).f1, (⟨(rd_T79 aV aA).f2.f0, (rd_T79 aV aA).f2.f1, (rd_T79 aV aA).f2.f2, (rd_T79 aV aA).f2.f3⟩ : S73), wS (wS (wS (wS (wS (wS aE))))), (rd_T79 aV aA).f4, (rd_T79 aV aA).f5, (rd_T79 aV aA).f6, (rd_T79 aV aA).f7⟩ : S79)) (k79_mkM _ _ _ _) (fun _ hk => hk); have mE := cJ 11 (cA 6 _ rfl); have mF := fJ 11 (dZ 6); clear dY cA dZ fV) | ((with_reducible refine gate_store (t := 3) (p := 66) rfl ?_); refine store_event (t := 3) (p := 66) (v := ?vo_w30) (w1 := (bN.setCell ⟨aG, (aA : Int).toNat * 11 + 6, none⟩ (.int .i64 (wS (wS (wS (wS (wS (wS aE))))))))) ?hg ?ho ?hn ?hr ?_; (case ho => rfl); (case hg => rfl); (case hn => rfl); (case hr => first | (go_simp; done) | (go_simp; rfl) | (obtain ⟨A_, c_, e_⟩ := Kd.R_slice aC.out; subst e_; (first | (go_simp; done) | (go_simp; rfl))) | (obtain ⟨A_, c_, e_⟩ := Kd.S_slice aC.out; subst e_; (first | (go_simp; done) | (go_simp; rfl)))); intro bO hw; have hg : bN.grownBy bO (some aG) := (by rw [hw]; exact cR.2); have hp_ : Kd.R k79 79 bO w0.heap.size (fun k_ => (P0_ k_ ∨ w.heap.size ≤ k_)) (.slice (some ⟨aG, 0, none⟩) aD.length aI) aW := (by rw [hw, hU.out]; exact cR.1); clear cR; replace HB := aM ((by rw [hw]; exact below_set (HB.out) bG.out : Below w0.heap.size w0 bO)); replace HK := aM (Kept.of_grown (S := (fun k_ => P0_ k_)) hg (kk HK.out) (fun k_ e_ => (aC.out.1 k_ e_))); replace aC := aM (hp_); clear hg hw hp_; have fW : 0 ≤ (aA : Int) := dT; have fX : (aA : Int) < ((aD.length : Int) : Int) := dT; obtain ⟨uY, iD, fY, eA, eB⟩ := Kd.R_elem aC.out z79 (aA : Int) fW fX; obtain rfl := k79_openM fY; obtain ⟨mG, mH, mI, mJ, mK, mL, mM, mN, mO, mP, jC, mQ, mR, mS, mT, mU, mV, mW, mX, mY, mZ, jD⟩ := eS79 (rd_T79 aW aA) eA eB; clear iD eA eB fY; replace fW := eq_true fW; replace fX := eq_true fX; have gA := aM (show Kd.R k79 79 bO w0.heap.size (fun k_ => (P0_ k_ ∨ w.heap.size ≤ k_)) (.slice (some ⟨aG, 0, none⟩) aD.length aI) aW from (kr aC.out)); obtain ⟨uZ, eC, gB, cC, eD⟩ := Kd.R_elem gA.out z79 (aA : Int) (dT) dT; obtain rfl := k79_openM gB; have cS := Kd.R_seg gA.out (aA : Int) (dT) dT (seg := [.int .i64 (wS (wS (wS (wS (wS (wS (wS aE)))))))]) (j := 7) eC cC (show 8 ≤ 11 from by decide) (x' := (⟨(rd_T79 aW aA).f0, (rd_T79 aW aA).f1, (⟨(rd_T79 aW aA).f2.f0, (rd_T79 aW aA).f2.f1, (rd_T79 aW aA).f2.f2, (rd_T79 aW aA).f2.f3⟩ : S73), (rd_T79 aW aA).f3, wS (wS (wS (wS (wS (wS (wS aE)))))), (rd_T79 aW aA).f5, (rd_T79 aW aA).f6, (rd_T79 aW aA).f7⟩ : S79)) (k79_mkM _ _ _ _) (fun _ hk => hk); have nA := cJ 11 (cC 7 _ rfl); have nB := fJ 11 (eD 7); clear eC cC eD gB) | ((with_reducible refine gate_store (t := 3) (p := 73) rfl ?_); refine store_event (t := 3) (p := 73) (v := ?vo_w32) (w1 := (bO.setCell ⟨aG, (aA : Int).toNat * 11 + 7, none⟩ (.int .i64 (wS (wS (wS (wS (wS (wS (wS aE)))))))))) ?hg ?ho ?hn ?hr ?_; (case ho => rfl); (case hg => rfl); (case hn => rfl); (case hr => first | (go_simp; done) | (go_simp; rfl) | (obtain ⟨A_, c_, e_⟩ := Kd.R_slice aC.out; subst e_; (first | (go_simp; done) | (go_simp; rfl))) | (obtain ⟨A_, c_, e_⟩ := Kd.S_slice aC.out; subst e_; (first | (go_simp; done) | (go_simp; rfl)))); intro bP hw; have hg : bO.grownBy bP (some aG) := (by rw [hw]; exact cS.2); have hp_ : Kd.R k79 79 bP w0.heap.size (fun k_ => (P0_ k_ ∨ w.heap.size ≤ k_)) (.slice (some ⟨aG, 0, none⟩) aD.length aI) aX := (by rw [hw, hX.out]; exact cS.1); clear cS; replace HB := aM ((by rw [hw]; exact below_set (HB.out) bG.out : Below w0.heap.size w0 bP)); replace HK := aM (Kept.of_grown (S := (fun k_ => P0_ k_)) hg (kk HK.out) (fun k_ e_ => (aC.out.1 k_ e_))); replace aC := aM (hp_); clear hg hw hp_; have gG : 0 ≤ (aA : Int) := dT; have gH : (aA : Int) < ((aD.length : Int) : Int) := dT; obtain ⟨vA, iE, gJ, eE, eF⟩ := Kd.R_elem aC.out z79 (aA : Int) gG gH; obtain rfl := k79_openM gJ; obtain ⟨nC, nD, nE, nF, nI, nJ, nK, nN, nO, nP, jE, nQ, nR, nS, nT, nV, nZ, oA, oB, oC, oD, jF⟩ := eS79 (rd_T79 aX aA) eE eF; clear iE eE eF gJ; replace gG := eq_true gG; replace gH := eq_true gH; have gK := aM (show Kd.R k79 79 bP w0.heap.size (fun k_ => (P0_ k_ ∨ w.heap.size ≤ k_)) (.slice (some ⟨aG, 0, none⟩) aD.length aI) aX from (kr aC.out)); obtain ⟨vB, eG, gM, cD, eH⟩ := Kd.R_elem gK.out z79 (aA : Int) (dT) dT; obtain rfl := k79_openM gM; have cT := Kd.R_seg gK.out (aA : Int) (dT) dT (seg := [.int .i64 (wS (wS (wS (wS (wS (wS (wS (wS aE))))))))]) (j := 8) eG cD (show 9 ≤ 11 from by decide) (x' := (⟨(rd_T79 aX aA).f0, (rd_T79 aX aA).f1, (⟨(rd_T79 aX aA).f2.f0, (rd_T79 aX aA).f2.f1, (rd_T79 aX aA).f2.f2, (rd_T79 aX aA).f2.f3⟩ : S73), (rd_T79 aX aA).f3, (rd_T79 aX aA).f4, wS (wS (wS (wS (wS (wS (wS (wS aE))))))), (rd_T79 aX aA).f6, (rd_T79 aX aA).f7⟩ : S79)) (k79_mkM _ _ _ _) (fun _ hk => hk); have oE := cJ 11 (cD 8 _ rfl); have oF := fJ 11 (eH 8); clear eG cD eH gM) | ((with_reducible refine gate_store (t := 3) (p := 80) rfl ?_); refine store_event (t := 3) (p := 80) (v := ?vo_w34) (w1 := (bP.setCell ⟨aG, (aA : Int).toNat * 11 + 8, none⟩ (.int .i64 (wS (wS (wS (wS (wS (wS (wS (wS aE))))))))))) ?hg ?ho ?hn ?hr ?_; (case ho => rfl); (case hg => rfl); (case hn => rfl); (case hr => first | (go_simp; done) | (go_simp; rfl) | (obtain ⟨A_, c_, e_⟩ := Kd.R_slice aC.out; subst e_; (first | (go_simp; done) | (go_simp; rfl))) | (obtain ⟨A_, c_, e_⟩ := Kd.S_slice aC.out; subst e_; (first | (go_simp; done) | (go_simp; rfl)))); intro bQ hw; have hg : bP.grownBy bQ (some aG) := (by rw [hw]; exact cT.2); have hp_ : Kd.R k79 79 bQ w0.heap.size (fun k_ => (P0_ k_ ∨ w.heap.size ≤ k_)) (.slice (some ⟨aG, 0, none⟩) aD.length aI) bA := (by rw [hw, hY.out]; exact cT.1); clear cT; replace HB := aM ((by rw [hw]; exact below_set (HB.out) bG.out : Below w0.heap.size w0 bQ)); replace HK := aM (Kept.of_grown (S := (fun k_ => P0_ k_)) hg (kk HK.out) (fun k_ e_ => (aC.out.1 k_ e_))); replace aC := aM (hp_); clear hg hw hp_; have gN : 0 ≤ (aA : Int) := dT; have gO : (aA : Int) < ((aD.length : Int) : Int) := dT; obtain ⟨vC, iF, gP, eI, eJ⟩ := Kd.R_elem aC.out z79 (aA : Int) gN gO; obtain rfl := k79_openM gP; obtain ⟨oG, oH, oI, oJ, oK, oL, oM, oO, oP, oQ, jG, oR, oS, oT, oU, oV, oW, oX, oY, oZ, pA, jH⟩ := eS79 (rd_T79 bA aA) eI eJ; clear iF eI eJ gP; replace gN := eq_true gN; replace gO := eq_true gO; have gQ := aM (show Kd.R k79 79 bQ w0.heap.size (fun k_ => (P0_ k_ ∨ w.heap.size ≤ k_)) (.slice (some ⟨aG, 0, none⟩) aD.length aI) bA from (kr aC.out)); obtain ⟨vD, eK, gR, cE, eL⟩ := Kd.R_elem gQ.out z79 (aA : Int) (dT) dT; obtain rfl := k79_openM gR; have cU := Kd.R_seg gQ.out (aA : Int) (dT) dT (seg := [.int .i64 (wS (wS (wS (wS (wS (wS (wS (wS (wS aE)))))))))]) (j := 9) eK cE (show 10 ≤ 11 from by decide) (x' := (⟨(rd_T79 bA aA).f0, (rd_T79 bA aA).f1, (⟨(rd_T79 bA aA).f2.f0, (rd_T79 bA aA).f2.f1, (rd_T79 bA aA).f2.f2, (rd_T79 bA aA).f2.f3⟩ : S73), (rd_T79 bA aA).f3, (rd_T79 bA aA).f4, (rd_T79 bA aA).f5, wS (wS (wS (wS (wS (wS (wS (wS (wS aE)))))))), (rd_T79 bA aA).f7⟩ : S79)) (k79_mkM _ _ _ _) (fun _ hk => hk); have pB := cJ 11 (cE 9 _ rfl); have pC := fJ 11 (eL 9); clear eK cE eL gR) | ((with_reducible refine gate_store (t := 3) (p := 87) rfl ?_); refine store_event (t := 3) (p := 87) (v := ?vo_w36) (w1 := (bQ.setCell ⟨aG, (aA : Int).toNat * 11 + 9, none⟩ (.int .i64 (wS (wS (wS (wS (wS (wS (wS (wS (wS aE)))))))))))) ?hg ?ho ?hn ?hr ?_; (case ho => rfl); (case hg => rfl); (case hn => rfl); (case hr => first | (go_simp; done) | (go_simp; rfl) | (obtain ⟨A_, c_, e_⟩ := Kd.R_slice aC.out; subst e_; (first | (go_simp; done) | (go_simp; rfl))) | (obtain ⟨A_, c_, e_⟩ := Kd.S_slice aC.out; subst e_; (first | (go_simp; done) | (go_simp; rfl)))); intro bT hw; have hg : bQ.grownBy bT (some aG) := (by rw [hw]; exact cU.2); have hp_ : Kd.R k79 79 bT w0.heap.size (fun k_ => (P0_ k_ ∨ w.heap.size ≤ k_)) (.slice (some ⟨aG, 0, none⟩) aD.length aI) aH := (by rw [hw, hZ.out]; exact cU.1); clear cU; replace HB := aM ((by rw [hw]; exact below_set (HB.out) bG.out : Below w0.heap.size w0 bT)); replace HK := aM (Kept.of_grown (S := (fun k_ => P0_ k_)) hg (kk HK.out) (fun k_ e_ => (aC.out.1 k_ e_))); replace aC := aM (hp_); clear hg hw hp_; have gS : 0 ≤ (aA : Int) := dT; have gT : (aA : Int) < ((aD.length : Int) : Int) := dT; obtain ⟨vE, iG, gU, eM, eN⟩ := Kd.R_elem aC.out z79 (aA : Int) gS gT; obtain rfl := k79_openM gU; obtain ⟨pD, pE, pF, pG, pH, pI, pJ, pK, pL, pM, jI, pN, pO, pP, pQ, pR, pS, pT, pV, pW, pX, jJ⟩ := eS79 (rd_T79 aH aA) eM eN; clear iG eM eN gU; replace gS := eq_true gS; replace gT := eq_true gT; have gV := aM (show Kd.R k79 79 bT w0.heap.size (fun k_ => (P0_ k_ ∨ w.heap.size ≤ k_)) (.slice (some ⟨aG, 0, none⟩) aD.length aI) aH from (kr aC.out)); obtain ⟨vF, eO, gW, cG, eP⟩ := Kd.R_elem gV.out z79 (aA : Int) (dT) dT; obtain rfl := k79_openM gW; have cV := Kd.R_seg gV.out (aA : Int) (dT) dT (seg := [.bool ((Int.tmod (wS (wS (wS (wS (wS (wS (wS (wS (wS (wS aE)))))))))) 3) == 0)]) (j := 10) eO cG (show 11 ≤ 11 from by decide) (x' := (⟨(rd_T79 aH aA).f0, (rd_T79 aH aA).f1, (⟨(rd_T79 aH aA).f2.f0, (rd_T79 aH aA).f2.f1, (rd_T79 aH aA).f2.f2, (rd_T79 aH aA).f2.f3⟩ : S73), (rd_T79 aH aA).f3, (rd_T79 aH aA).f4, (rd_T79 aH aA).f5, (rd_T79 aH aA).f6, ((Int.tmod (wS (wS (wS (wS (wS (wS (wS (wS (wS (wS aE)))))))))) 3) == 0)⟩ : S79)) (k79_mkM _ _ _ _) (fun _ hk => hk); have jK := cJ 11 (cG 10 _ rfl); have jL := fJ 11 (eP 10); clear eO cG eP gW) | ((with_reducible refine gate_store (t := 4) (p := 96) rfl ?_); refine store_event (t := 4) (p := 96) (v := ?vo_w38) (w1 := (bT.setCell ⟨aG, (aA : Int).toNat * 11 + 10, none⟩ (.bool ((Int.tmod (wS (wS (wS (wS (wS (wS (wS (wS (wS (wS aE)))))))))) 3) == 0)))) ?hg ?ho ?hn ?hr ?_; (case ho => rfl); (case hg => rfl); (case hn => rfl); (case hr => first | (go_simp; done) | (go_simp; rfl) | (obtain ⟨A_, c_, e_⟩ := Kd.R_slice aC.out; subst e_; (first | (go_simp; done) | (go_simp; rfl))) | (obtain ⟨A_, c_, e_⟩ := Kd.S_slice aC.out; subst e_; (first | (go_simp; done) | (go_simp; rfl)))); intro gX hw; have hg : bT.grownBy gX (some aG) := (by rw [hw]; exact cV.2); have hp_ : Kd.R k79 79 gX w0.heap.size (fun k_ => (P0_ k_ ∨ w.heap.size ≤ k_)) (.slice (some ⟨aG, 0, none⟩) aD.length aI) cH := (by rw [hw, iA.out]; exact cV.1); clear cV; replace HB := aM ((by rw [hw]; exact below_set (HB.out) bG.out : Below w0.heap.size w0 gX)); replace HK := aM (Kept.of_grown (S := (fun k_ => P0_ k_)) hg (kk HK.out) (fun k_ e_ => (aC.out.1 k_ e_))); replace aC := aM (hp_); clear hg hw hp_))
   go_roundg k1
   case measure => have := iH.out; omega
   case rel => exact ⟨(cH), (wS (wS (wS (wS (wS (wS (wS (wS (wS (wS (wS aE))))))))))), (wS aA), xE, xE, H', ⟨by have := iH.out; omega⟩, ⟨kr aC.out⟩, ⟨kk HK.out⟩, ⟨bl HB.out⟩⟩

def Z39.f (k : Nat) (aD : Int) (aC : List (S79)) (a1 : Int) : Option (Int × (List (S79))) := (Z30.f k aC a1).bind fun aA => (some (aA.1, aA.2))
theorem Z39.mono : ∀ a0 a1 a2 k, LeO (Z39.f k a0 a1 a2) (Z39.f (k + 1) a0 a1 a2) := by
 intro a0 a1 a2 k
 unfold Z39.f
 repeat' first|(with_reducible first|apply Z30.mono|exact lR _|exact lN _|refine lI ?_ ?_|refine lB ?_ fun _ => ?_)|exact lN _|refine lI ?_ ?_|refine lB ?_ fun _ => ?_
set_option maxHeartbeats 60000000 in
set_option maxRecDepth 100000 in
theorem Z39.calls (k : Nat) (aG : Int) (P0_1_ : Nat → Prop) (aD : Value) (aC : List (S79)) (a1 r1 : Int) (r2 : List (S79)) (w0 w : World) (hB : Below w0.heap.size w0 w) (ho0_1 : Kd.R k79 79 w w0.heap.size P0_1_ aD aC) (h : Z39.f k aG aC a1 = some (r1, r2)) :
  Calls Try.prog 17 #[.agg #[aG, aD], a1] w fun e w' => e = .returned (.int .i64 r1) ∧ Kd.R k79 79 w' w0.heap.size (fun k_ => (P0_1_ k_ ∨ w.heap.size ≤ k_)) aD r2 ∧ Below w0.heap.size w0 w' ∧ Kept w w' (fun k_ => P0_1_ k_) := by
 have bD := Try.underlying28
 have aA := aM (show Kd.R k79 79 w w0.heap.size (fun k_ => (P0_1_ k_ ∨ w.heap.size ≤ k_)) aD aC from Kd.R_mono ho0_1 (fun k_ hk => (.inl hk)))
 have HK := aM (Kept.refl w (fun k_ => P0_1_ k_))
 have HW0 := aM hB.size
 have HB := aM hB
 clear hB
 have H : ((Z30.f k aC a1).bind fun aH => (some (aH.1, aH.2))) = some (r1, r2) := h
 clear h
 obtain ⟨⟨aQ, aT⟩, aK, H⟩ := hB H
 try dsimp only at H
 have A3 := aM aK
 clear aK
 simp only [Option.some.injEq, Prod.mk.injEq] at H
 obtain ⟨rfl, rfl⟩ := H
 obtain ⟨aI, aJ, aV⟩ := Kd.R_slice aA.out
 subst aV
 go_enter Try.func17, Try.ntmps17
 go_wp2_with (first | ((with_reducible refine gD (N := 2) rfl ?_); refine bR aA (N := 2) (cs := #[aG, .slice aI aC.length aJ]) (t := 28) ?_; intro aW hg w5 hbox hb; have aE := aM (hbox); have aX := gE hg (kk HK.out).1; have bA := gF hg HB; replace aA := rK aA hb; replace HK := aM (Kept.below (S := (fun k_ => P0_1_ k_)) (kk HK.out) hb); replace HB := rS HB hb; clear hb hbox hg; have bG := cA2 aE.out) | ((with_reducible refine gC (f := 74) rfl ?_); refine gL (some 8) Try.func74 #[.slice aI aC.length aJ, a1] ?_; (with_reducible refine (Z30.calls k (fun k_ => some k_ = (.slice aI aC.length aJ : Value).ownBlock) (.slice aI aC.length aJ) aC a1 aQ aT w0 _ ?side1 ?side2 A3.out).mono ?_); (case side1 => exact bl HB.out); (case side2 => exact Kd.R_tight rfl aA.out); rintro e w7 ⟨rfl, aN, hb, hkp⟩; refine ⟨_, rfl, ?_⟩; replace aE := aM (blk_kept (bk aE.out) hkp (fun hs_ => (fun e_ => (Kd.R_ne aA.out aE.out (by decide)) e_) hs_)); replace HK := aM (Kept.then_ (S := (fun k_ => P0_1_ k_)) (kk HK.out) hkp (fun k_ hs_ => (fun e_ => (aA.out.1 k_ e_.symm)) hs_)); replace aA := aM (Kd.R_reok rfl aN (fun k_ e_ => aA.out.1 k_ e_)); replace HB := aM (hb); (repeat first|clear hb|clear hkp|clear aN)))
 go_ret
 exact ⟨xW, by (with_reducible repeat (first | apply Kd.R_alloc | apply Kd.R_drewN | apply Kd.R_drew)); exact aA.out, bl HB.out, kk HK.out⟩

end Go.Proofs.Ythmijfekdeagpaa.PFnExactReact

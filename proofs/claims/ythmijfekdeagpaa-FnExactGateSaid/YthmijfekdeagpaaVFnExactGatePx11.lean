/- A part of the proof of laws.FnExactGate. No condition beyond what its theorems say. -/
import Derived.Test.YthmijfekdeagpaaVFnExactGatePx10
namespace Go.Proofs.Ythmijfekdeagpaa.PFnExactGate
open Go.RowKit Go.Proofs.YthmijfekdeagpaaW.PrintWords Go.Proofs.YthmijfekdeagpaaW.PrintLast Go.Proofs.YthmijfekdeagpaaW.PrintMore
set_option linter.unusedVariables false
set_option linter.unusedSimpArgs false

def laws_eqMemberS.l0 : Nat → List (S63) → List (S63) → Int → Option (Bool)
 | 0, _, _, _ => none
 | k + 1, x0, x1, x5 => if x5 < (x0.length : Int) then (if 0 ≤ x5 then (if x5 < (x1.length : Int) then ((laws_eqMember.f k ((rd_T63 x0 x5).f0) ((rd_T63 x0 x5).f1) ((rd_T63 x1 x5).f0) ((rd_T63 x1 x5).f1)).bind fun aA => (if aA = true then (laws_eqMemberS.l0 k x0 x1 (wrap64 (x5 + 1))) else (some false))) else (none)) else (none)) else (some true)
def laws_eqMemberS.f (k : Nat) (l0 : List (S63)) (l1 : List (S63)) : Option (Bool) := if (l0.length : Int) = (l1.length : Int) then (laws_eqMemberS.l0 k l0 l1 0) else (some false)
theorem laws_eqMemberS.mono_l : ∀ k, (∀ y0 y1 y2, LeO (laws_eqMemberS.l0 k y0 y1 y2) (laws_eqMemberS.l0 (k + 1) y0 y1 y2))
 | 0 => fun _ _ _ r h => by simp [laws_eqMemberS.l0] at h
 | k + 1 => by
  have ih0 := laws_eqMemberS.mono_l k
  ·intro y0 y1 y2
   unfold laws_eqMemberS.l0
   repeat' first|(with_reducible first|apply ih0|apply laws_eqMember.mono|exact lR _|exact lN _|refine lI ?_ ?_|refine lB ?_ fun _ => ?_)|exact lN _|refine lI ?_ ?_|refine lB ?_ fun _ => ?_
theorem laws_eqMemberS.mono : ∀ a0 a1 k, LeO (laws_eqMemberS.f k a0 a1) (laws_eqMemberS.f (k + 1) a0 a1) := by
 intro a0 a1 k
 have ih0 := laws_eqMemberS.mono_l k
 unfold laws_eqMemberS.f
 repeat' first|(with_reducible first|apply ih0|apply laws_eqMember.mono|exact lR _|exact lN _|refine lI ?_ ?_|refine lB ?_ fun _ => ?_)|exact lN _|refine lI ?_ ?_|refine lB ?_ fun _ => ?_
def laws_eqMemberS.T6 : Bool × List (List Nat × List Nat) := (true, [([], []), ([], []), ([0, 1], [0, 1]), ([2], [2]), ([], []), ([], []), ([4, 5], [4, 5]), ([6], [6]), ([3, 7], [3, 7]), ([8], [8])])
def laws_eqMemberS.B6 : List Nat := [0, 0, 3, 7, 0, 0, 48, 112, 255, 511]
theorem laws_eqMemberS.tab6 : rtab .any (opsOf Try.f89 6) = laws_eqMemberS.T6 := by kernel_rfl
theorem laws_eqMemberS.bits6 : waitsOk laws_eqMemberS.T6.2 laws_eqMemberS.B6 = true := by kernel_rfl
set_option maxHeartbeats 60000000 in
set_option maxRecDepth 100000 in
theorem laws_eqMemberS.calls (k : Nat) (A0 : Option Addr) (c0 : Nat) (l0 : List (S63)) (A1 : Option Addr) (c1 : Nat) (l1 : List (S63)) (r : Bool) (w : World) (hr0 : Kd.C k63 w A0 l0.length l0) (hc0 : l0.length ≤ c0) (hr1 : Kd.C k63 w A1 l1.length l1) (hc1 : l1.length ≤ c1) (h : laws_eqMemberS.f k l0 l1 = some r) :
  Calls Try.prog 89 #[.slice A0 l0.length c0, .slice A1 l1.length c1] w fun e w' => e = .returned (.bool r) ∧ Below w.heap.size w w' := by
 have cK := Try.underlying63
 have cA := aM hr0
 have cO := aM hc0
 clear hr0 hc0
 have cC := aM hr1
 have cP := aM hc1
 clear hr1 hc1
 have HB := aM (Below.refl w.heap.size w)
 have H : (if (l0.length : Int) = (l1.length : Int) then (laws_eqMemberS.l0 k l0 l1 0) else (some false)) = some r := h
 clear h
 by_cases c3 : (l0.length : Int) = (l1.length : Int)
 case neg =>
  rw [if_neg c3] at H
  have bQ : ((l0.length : Int) == (l1.length : Int)) = false := beq_eq_false_iff_ne.mpr c3
  have bU : ((l0.length : Int) != (l1.length : Int)) = true := bne_iff_ne.mpr c3
  have bW : (l0.length == l1.length) = false := by first | simpa using c3 | (simp at c3 ⊢; omega)
  obtain rfl := Option.some.inj H
  go_enter Try.func89, Try.ntmps89
  go_wp2
  go_ret
  exact ⟨xW, bl HB.out⟩
 rw [if_pos c3] at H
 have bQ : ((l0.length : Int) == (l1.length : Int)) = true := beq_iff_eq.mpr c3
 have bU : ((l0.length : Int) != (l1.length : Int)) = false := bne_eq_false_iff_eq.mpr c3
 have bW : (l0.length == l1.length) = true := by first | simpa using c3 | (simp at c3 ⊢; omega)
 clear c3
 have H' := aM H
 clear H
 go_enter Try.func89, Try.ntmps89
 go_wp2
 go_loopg [5] k (fun kq v5 w' => ∃ (aA : Int), v5 = .int .i64 aA ∧ Aside0 (laws_eqMemberS.l0 kq l0 l1 aA = some r) ∧ Aside0 (kq ≤ k) ∧ Aside0 (Below w.heap.size w w'))
 case atStart => exact ⟨(0), xE, H', ⟨Nat.le_refl _⟩, ⟨bl HB.out⟩⟩
 case round =>
  clear H'
  repeat first|clear c1|clear p2|clear c3|clear bQ|clear bU|clear bW
  obtain ⟨aA, rfl, HA, cD, HB⟩ := hrel
  cases gk with
  | zero => exact absurd HA.out (by simp [laws_eqMemberS.l0])
  | succ k1 =>
   have H := HA.out
   clear HA
   simp only [laws_eqMemberS.l0] at H
   by_cases c4 : aA < (l0.length : Int)
   case neg =>
    rw [if_neg c4] at H
    have cG := decide_eq_false c4
    clear c4
    obtain rfl := Option.some.inj H
    go_wp2
    go_ret
    exact ⟨xW, bl HB.out⟩
   rw [if_pos c4] at H
   have cG := decide_eq_true c4
   clear c4
   obtain ⟨cL, H⟩ := gI H
   obtain ⟨cN, H⟩ := gI H
   obtain ⟨cH, cE, H⟩ := hB H
   have A7 := aM cE
   clear cE
   by_cases c8 : cH = true
   case neg =>
    replace c8 := Bool.eq_false_iff.mpr c8
    subst c8
    replace H := hF H
    obtain rfl := Option.some.inj H
    try go_wp2
    replace HB := aM (below_drew1 HB.out)
    have bI : 0 ≤ (aA : Int) := dT
    have bJ : aA < (l0.length : Int) := dT
    obtain ⟨aT, aW, aX, bO, aC, aD, hl327_1, hi327_1⟩ := at_T63 cA.out aA bI bJ
    have aH := aD
    have aI := aC
    cases bO
    replace aC := xB HB aC
    replace aD := xB HB aD
    have aJ := aM hi327_1
    have bM := aM hl327_1
    clear hi327_1 hl327_1
    replace bI := eq_true bI
    replace bJ := eq_true bJ
    have bK : 0 ≤ (aA : Int) := dT
    have bL : aA < (l1.length : Int) := dT
    obtain ⟨aV, bA, bD, bP, aE, aG, hl328_1, hi328_1⟩ := at_T63 cC.out aA bK bL
    have aK := aG
    have aN := aE
    cases bP
    replace aE := xB HB aE
    replace aG := xB HB aG
    have aQ := aM hi328_1
    have bN := aM hl328_1
    clear hi328_1 hl328_1
    replace bK := eq_true bK
    replace bL := eq_true bL
    refine start_ (n := 10) (S := fun w' => w'.cell? (aT.add ((aA).toNat * 2)) = some ((rd_T63 l0 aA).f0) ∧ w'.cell? ⟨(aT.add ((aA).toNat * 2)).block, (aT.add ((aA).toNat * 2)).off + 1, none⟩ = some (.slice aW ((rd_T63 l0 aA).f1).length aX) ∧ w'.cell? (aV.add ((aA).toNat * 2)) = some ((rd_T63 l1 aA).f0) ∧ w'.cell? ⟨(aV.add ((aA).toNat * 2)).block, (aV.add ((aA).toNat * 2)).off + 1, none⟩ = some (.slice bA ((rd_T63 l1 aA).f1).length bD)) (ds := []) (dn 10 0) (by kernel_rfl) rfl rfl ⟨(xB HB aI :), (xB HB aH :), (xB HB aN :), (xB HB aK :)⟩ (fun hHeld => ?_); refine with_tabW laws_eqMemberS.tab6 laws_eqMemberS.bits6 (fun HT_ HW_ => ?_)
    generalize wr.drew = cQ at HB aJ aQ aC aD aE aG hHeld ⊢
    refine nY (N := some 17) HT_ ?_
    refine nY (N := some 18) HT_ ?_
    refine nY (N := some 19) HT_ ?_
    refine pZ 4 21 (bv 10 23) HT_ ?_
    refine pZ 5 22 (bv 10 55) HT_ ?_
    refine pZ 6 23 (bv 10 119) HT_ ?_
    refine aZ 3 20 (bv 10 127) HT_ HW_ hHeld ?_
    refine aZ 7 24 (bv 10 255) HT_ HW_ hHeld ?_
    refine one_ (i := 8) (N := some 25) (bv 10 511) rfl rfl (one_of HT_.out (by kernel_rfl)) (by decide) (fun K hK => ?_)
    refine goes_ Try.func153 (by kernel_rfl) rfl #[.agg #[((rd_T63 l0 aA).f0), .slice aW ((rd_T63 l0 aA).f1).length aX], .agg #[((rd_T63 l1 aA).f0), .slice bA ((rd_T63 l1 aA).f1).length bD]] (by rfl) rfl rfl xR ?_
    with_reducible refine (laws_eqMember.calls k1 ((rd_T63 l0 aA).f0) _ _ ((rd_T63 l0 aA).f1) ((rd_T63 l1 aA).f0) _ _ ((rd_T63 l1 aA).f1) false _ ?side1 ?side2 ?side3 ?side4 A7.out).mono ?_
    (case side1 => exact cM (cB aJ.out HB.out))
    (case side2 => exact bM.out)
    (case side3 => exact cM (cB aQ.out HB.out))
    (case side4 => exact bN.out)
    rintro e cR ⟨rfl, hb⟩
    refine ⟨_, rfl, ?_⟩
    replace HB := rS HB hb
    (try clear hb)
    (try clear hb2)
    (try clear hk)
    (try clear hi)
    refine hK.out _ _ ⟨(xB HB aI :), (xB HB aH :), (xB HB aN :), (xB HB aK :)⟩ (fun hHeld => ?_)
    clear hK K
    refine norm_ (a' := ?_) ?_ ?_
    rotate_left
    ·show Act.put _ (some 25) _ = _
     simp only [Act.put, sA, sZ, sS, i64_w, i32_w]
     rfl
    refine pZ 9 26 (bv 10 1023) HT_ ?_
    refine done_ (done_of HT_.out (by kernel_rfl)) ?_
    try go_wp2
    go_ret
    exact ⟨xW, bl HB.out⟩
   subst c8
   replace H := hP H rfl
   have H' := aM H
   clear H
   try go_wp2
   replace HB := aM (below_drew1 HB.out)
   have bI : 0 ≤ (aA : Int) := dT
   have bJ : aA < (l0.length : Int) := dT
   obtain ⟨aT, aW, aX, bO, aC, aD, hl327_1, hi327_1⟩ := at_T63 cA.out aA bI bJ
   have aH := aD
   have aI := aC
   cases bO
   replace aC := xB HB aC
   replace aD := xB HB aD
   have aJ := aM hi327_1
   have bM := aM hl327_1
   clear hi327_1 hl327_1
   replace bI := eq_true bI
   replace bJ := eq_true bJ
   have bK : 0 ≤ (aA : Int) := dT
   have bL : aA < (l1.length : Int) := dT
   obtain ⟨aV, bA, bD, bP, aE, aG, hl328_1, hi328_1⟩ := at_T63 cC.out aA bK bL
   have aK := aG
   have aN := aE
   cases bP
   replace aE := xB HB aE
   replace aG := xB HB aG
   have aQ := aM hi328_1
   have bN := aM hl328_1
   clear hi328_1 hl328_1
   replace bK := eq_true bK
   replace bL := eq_true bL
   refine start_ (n := 10) (S := fun w' => w'.cell? (aT.add ((aA).toNat * 2)) = some ((rd_T63 l0 aA).f0) ∧ w'.cell? ⟨(aT.add ((aA).toNat * 2)).block, (aT.add ((aA).toNat * 2)).off + 1, none⟩ = some (.slice aW ((rd_T63 l0 aA).f1).length aX) ∧ w'.cell? (aV.add ((aA).toNat * 2)) = some ((rd_T63 l1 aA).f0) ∧ w'.cell? ⟨(aV.add ((aA).toNat * 2)).block, (aV.add ((aA).toNat * 2)).off + 1, none⟩ = some (.slice bA ((rd_T63 l1 aA).f1).length bD)) (ds := []) (dn 10 0) (by kernel_rfl) rfl rfl ⟨(xB HB aI :), (xB HB aH :), (xB HB aN :), (xB HB aK :)⟩ (fun hHeld => ?_); refine with_tabW laws_eqMemberS.tab6 laws_eqMemberS.bits6 (fun HT_ HW_ => ?_)
   generalize wr.drew = w9 at HB aJ aQ aC aD aE aG hHeld ⊢
   refine nY (N := some 17) HT_ ?_
   refine nY (N := some 18) HT_ ?_
   refine nY (N := some 19) HT_ ?_
   refine pZ 4 21 (bv 10 23) HT_ ?_
   refine pZ 5 22 (bv 10 55) HT_ ?_
   refine pZ 6 23 (bv 10 119) HT_ ?_
   refine aZ 3 20 (bv 10 127) HT_ HW_ hHeld ?_
   refine aZ 7 24 (bv 10 255) HT_ HW_ hHeld ?_
   refine one_ (i := 8) (N := some 25) (bv 10 511) rfl rfl (one_of HT_.out (by kernel_rfl)) (by decide) (fun K hK => ?_)
   refine goes_ Try.func153 (by kernel_rfl) rfl #[.agg #[((rd_T63 l0 aA).f0), .slice aW ((rd_T63 l0 aA).f1).length aX], .agg #[((rd_T63 l1 aA).f0), .slice bA ((rd_T63 l1 aA).f1).length bD]] (by rfl) rfl rfl xR ?_
   with_reducible refine (laws_eqMember.calls k1 ((rd_T63 l0 aA).f0) _ _ ((rd_T63 l0 aA).f1) ((rd_T63 l1 aA).f0) _ _ ((rd_T63 l1 aA).f1) true _ ?side1 ?side2 ?side3 ?side4 A7.out).mono ?_
   (case side1 => exact cM (cB aJ.out HB.out))
   (case side2 => exact bM.out)
   (case side3 => exact cM (cB aQ.out HB.out))
   (case side4 => exact bN.out)
   rintro e cS ⟨rfl, hb⟩
   refine ⟨_, rfl, ?_⟩
   replace HB := rS HB hb
   (try clear hb)
   (try clear hb2)
   (try clear hk)
   (try clear hi)
   refine hK.out _ _ ⟨(xB HB aI :), (xB HB aH :), (xB HB aN :), (xB HB aK :)⟩ (fun hHeld => ?_)
   clear hK K
   refine norm_ (a' := ?_) ?_ ?_
   rotate_left
   ·show Act.put _ (some 25) _ = _
    simp only [Act.put, sA, sZ, sS, i64_w, i32_w]
    rfl
   refine pZ 9 26 (bv 10 1023) HT_ ?_
   refine done_ (done_of HT_.out (by kernel_rfl)) ?_
   try go_wp2
   go_roundg k1
   case measure => have := cD.out; omega
   case rel => exact ⟨(wS aA), xE, H', ⟨by have := cD.out; omega⟩, ⟨bl HB.out⟩⟩

def laws_eqHeard.f (aA aC aD aE aG aH aI aJ : Int) : Option (Bool) := if aA = aG then (if aC = aH then (if aD = aI then (if aE = aJ then (some true) else (some false)) else (some false)) else (some false)) else (some false)
set_option maxHeartbeats 60000000 in
set_option maxRecDepth 100000 in
theorem laws_eqHeard.calls (aE aG aH aI aJ aK aN aQ : Int) (r : Bool) (w : World) (h : laws_eqHeard.f aE aG aH aI aJ aK aN aQ = some r) :
  Calls Try.prog 154 #[.agg #[aE, aG, aH, aI], .agg #[aJ, aK, aN, aQ]] w fun e w' => e = .returned (.bool r) ∧ Below w.heap.size w w' := by
 have bU := Try.underlying138
 have HB := aM (Below.refl w.heap.size w)
 have H : (if aE = aJ then (if aG = aK then (if aH = aN then (if aI = aQ then (some true) else (some false)) else (some false)) else (some false)) else (some false)) = some r := h
 clear h
 by_cases c3 : aE = aJ
 case neg =>
  rw [if_neg c3] at H
  have bJ : (aE == aJ) = false := beq_eq_false_iff_ne.mpr c3
  have bK : (aE != aJ) = true := bne_iff_ne.mpr c3
  obtain rfl := Option.some.inj H
  go_enter Try.func154, Try.ntmps154
  go_wp2_with (first | ((with_reducible refine gD (N := 2) rfl ?_); refine bE (N := 2) (cs := #[aE, aG, aH, aI]) (t := 138) ?_; intro aV hg cY hbox hb; have aA := aM (hbox); have aW := gF hg HB; have aX := gF hg HB; replace HB := rS HB hb; clear hb hbox hg) | ((with_reducible refine gD (N := 3) rfl ?_); refine bE (N := 3) (cs := #[aJ, aK, aN, aQ]) (t := 138) ?_; intro bA hg dA hbox hb; have aT := aM (hbox); have bD := gF hg HB; have bI := gF hg HB; have aC := nM hg aA; have aD := nH hg aA; replace aA := rB aA hb; replace HB := rS HB hb; clear hb hbox hg; have bW := aC.out; have cA := aD.out; have cC := cA4 aA.out; have cD := cA4 aT.out))
  go_ret
  exact ⟨xW, bl HB.out⟩
 rw [if_pos c3] at H
 have bJ : (aE == aJ) = true := beq_iff_eq.mpr c3
 have bK : (aE != aJ) = false := bne_eq_false_iff_eq.mpr c3
 clear c3
 by_cases c4 : aG = aK
 case neg =>
  rw [if_neg c4] at H
  have bL : (aG == aK) = false := beq_eq_false_iff_ne.mpr c4
  have bM : (aG != aK) = true := bne_iff_ne.mpr c4
  obtain rfl := Option.some.inj H
  go_enter Try.func154, Try.ntmps154
  go_wp2_with (first | ((with_reducible refine gD (N := 2) rfl ?_); refine bE (N := 2) (cs := #[aE, aG, aH, aI]) (t := 138) ?_; intro aV hg dB hbox hb; have aA := aM (hbox); have aW := gF hg HB; have aX := gF hg HB; replace HB := rS HB hb; clear hb hbox hg) | ((with_reducible refine gD (N := 3) rfl ?_); refine bE (N := 3) (cs := #[aJ, aK, aN, aQ]) (t := 138) ?_; intro bA hg dC hbox hb; have aT := aM (hbox); have bD := gF hg HB; have bI := gF hg HB; have aC := nM hg aA; have aD := nH hg aA; replace aA := rB aA hb; replace HB := rS HB hb; clear hb hbox hg; have cE := aC.out; have cG := aD.out; have cH := cA4 aA.out; have cK := cA4 aT.out))
  go_ret
  exact ⟨xW, bl HB.out⟩
 rw [if_pos c4] at H
 have bL : (aG == aK) = true := beq_iff_eq.mpr c4
 have bM : (aG != aK) = false := bne_eq_false_iff_eq.mpr c4
 clear c4
 by_cases c5 : aH = aN
 case neg =>
  rw [if_neg c5] at H
  have bN : (aH == aN) = false := beq_eq_false_iff_ne.mpr c5
  have bO : (aH != aN) = true := bne_iff_ne.mpr c5
  obtain rfl := Option.some.inj H
  go_enter Try.func154, Try.ntmps154
  go_wp2_with (first | ((with_reducible refine gD (N := 2) rfl ?_); refine bE (N := 2) (cs := #[aE, aG, aH, aI]) (t := 138) ?_; intro aV hg dD hbox hb; have aA := aM (hbox); have aW := gF hg HB; have aX := gF hg HB; replace HB := rS HB hb; clear hb hbox hg) | ((with_reducible refine gD (N := 3) rfl ?_); refine bE (N := 3) (cs := #[aJ, aK, aN, aQ]) (t := 138) ?_; intro bA hg dE hbox hb; have aT := aM (hbox); have bD := gF hg HB; have bI := gF hg HB; have aC := nM hg aA; have aD := nH hg aA; replace aA := rB aA hb; replace HB := rS HB hb; clear hb hbox hg; have cL := aC.out; have cN := aD.out; have cO := cA4 aA.out; have cP := cA4 aT.out))
  go_ret
  exact ⟨xW, bl HB.out⟩
 rw [if_pos c5] at H
 have bN : (aH == aN) = true := beq_iff_eq.mpr c5
 have bO : (aH != aN) = false := bne_eq_false_iff_eq.mpr c5
 clear c5
 by_cases c6 : aI = aQ
 case neg =>
  rw [if_neg c6] at H
  have bP : (aI == aQ) = false := beq_eq_false_iff_ne.mpr c6
  have bQ : (aI != aQ) = true := bne_iff_ne.mpr c6
  obtain rfl := Option.some.inj H
  go_enter Try.func154, Try.ntmps154
  go_wp2_with (first | ((with_reducible refine gD (N := 2) rfl ?_); refine bE (N := 2) (cs := #[aE, aG, aH, aI]) (t := 138) ?_; intro aV hg dF hbox hb; have aA := aM (hbox); have aW := gF hg HB; have aX := gF hg HB; replace HB := rS HB hb; clear hb hbox hg) | ((with_reducible refine gD (N := 3) rfl ?_); refine bE (N := 3) (cs := #[aJ, aK, aN, aQ]) (t := 138) ?_; intro bA hg dG hbox hb; have aT := aM (hbox); have bD := gF hg HB; have bI := gF hg HB; have aC := nM hg aA; have aD := nH hg aA; replace aA := rB aA hb; replace HB := rS HB hb; clear hb hbox hg; have cQ := aC.out; have cR := aD.out; have cS := cA4 aA.out; have cT := cA4 aT.out))
  go_ret
  exact ⟨xW, bl HB.out⟩
 rw [if_pos c6] at H
 have bP : (aI == aQ) = true := beq_iff_eq.mpr c6
 have bQ : (aI != aQ) = false := bne_eq_false_iff_eq.mpr c6
 clear c6
 obtain rfl := Option.some.inj H
 go_enter Try.func154, Try.ntmps154
 go_wp2_with (first | ((with_reducible refine gD (N := 2) rfl ?_); refine bE (N := 2) (cs := #[aE, aG, aH, aI]) (t := 138) ?_; intro aV hg w7 hbox hb; have aA := aM (hbox); have aW := gF hg HB; have aX := gF hg HB; replace HB := rS HB hb; clear hb hbox hg) | ((with_reducible refine gD (N := 3) rfl ?_); refine bE (N := 3) (cs := #[aJ, aK, aN, aQ]) (t := 138) ?_; intro bA hg w8 hbox hb; have aT := aM (hbox); have bD := gF hg HB; have bI := gF hg HB; have aC := nM hg aA; have aD := nH hg aA; replace aA := rB aA hb; replace HB := rS HB hb; clear hb hbox hg; have cW := aC.out; have cX := aD.out; have cU := cA4 aA.out; have cV := cA4 aT.out))
 go_ret
 exact ⟨xW, bl HB.out⟩

def laws_eqHeardS.l0 : Nat → List (S138) → List (S138) → Int → Option (Bool)
 | 0, _, _, _ => none
 | k + 1, x0, x1, x5 => if x5 < (x0.length : Int) then (if 0 ≤ x5 then (if x5 < (x1.length : Int) then ((laws_eqHeard.f ((rd_T138 x0 x5).f0) ((rd_T138 x0 x5).f1) ((rd_T138 x0 x5).f2) ((rd_T138 x0 x5).f3) ((rd_T138 x1 x5).f0) ((rd_T138 x1 x5).f1) ((rd_T138 x1 x5).f2) ((rd_T138 x1 x5).f3)).bind fun aA => (if aA = true then (laws_eqHeardS.l0 k x0 x1 (wrap64 (x5 + 1))) else (some false))) else (none)) else (none)) else (some true)
def laws_eqHeardS.f (k : Nat) (l0 : List (S138)) (l1 : List (S138)) : Option (Bool) := if (l0.length : Int) = (l1.length : Int) then (laws_eqHeardS.l0 k l0 l1 0) else (some false)
theorem laws_eqHeardS.mono_l : ∀ k, (∀ y0 y1 y2, LeO (laws_eqHeardS.l0 k y0 y1 y2) (laws_eqHeardS.l0 (k + 1) y0 y1 y2))
 | 0 => fun _ _ _ r h => by simp [laws_eqHeardS.l0] at h
 | k + 1 => by
  have ih0 := laws_eqHeardS.mono_l k
  ·intro y0 y1 y2
   unfold laws_eqHeardS.l0
   repeat' first|(with_reducible first|apply ih0|exact lR _|exact lN _|refine lI ?_ ?_|refine lB ?_ fun _ => ?_)|exact lN _|refine lI ?_ ?_|refine lB ?_ fun _ => ?_
theorem laws_eqHeardS.mono : ∀ a0 a1 k, LeO (laws_eqHeardS.f k a0 a1) (laws_eqHeardS.f (k + 1) a0 a1) := by
 intro a0 a1 k
 have ih0 := laws_eqHeardS.mono_l k
 unfold laws_eqHeardS.f
 repeat' first|(with_reducible first|apply ih0|exact lR _|exact lN _|refine lI ?_ ?_|refine lB ?_ fun _ => ?_)|exact lN _|refine lI ?_ ?_|refine lB ?_ fun _ => ?_
def laws_eqHeardS.T6 : Bool × List (List Nat × List Nat) := (true, [([], []), ([], []), ([0, 1], [0, 1]), ([2], [2]), ([], []), ([], []), ([4, 5], [4, 5]), ([6], [6]), ([3, 7], [3, 7]), ([8], [8])])
def laws_eqHeardS.B6 : List Nat := [0, 0, 3, 7, 0, 0, 48, 112, 255, 511]
theorem laws_eqHeardS.tab6 : rtab .any (opsOf Try.f90 6) = laws_eqHeardS.T6 := by kernel_rfl
theorem laws_eqHeardS.bits6 : waitsOk laws_eqHeardS.T6.2 laws_eqHeardS.B6 = true := by kernel_rfl
set_option maxHeartbeats 60000000 in
set_option maxRecDepth 100000 in
theorem laws_eqHeardS.calls (k : Nat) (A0 : Option Addr) (c0 : Nat) (l0 : List (S138)) (A1 : Option Addr) (c1 : Nat) (l1 : List (S138)) (r : Bool) (w : World) (hr0 : Kd.C k138 w A0 l0.length l0) (hc0 : l0.length ≤ c0) (hr1 : Kd.C k138 w A1 l1.length l1) (hc1 : l1.length ≤ c1) (h : laws_eqHeardS.f k l0 l1 = some r) :
  Calls Try.prog 90 #[.slice A0 l0.length c0, .slice A1 l1.length c1] w fun e w' => e = .returned (.bool r) ∧ Below w.heap.size w w' := by
 have cK := Try.underlying138
 have cA := aM hr0
 have cO := aM hc0
 clear hr0 hc0
 have cC := aM hr1
 have cP := aM hc1
 clear hr1 hc1
 have HB := aM (Below.refl w.heap.size w)
 have H : (if (l0.length : Int) = (l1.length : Int) then (laws_eqHeardS.l0 k l0 l1 0) else (some false)) = some r := h
 clear h
 by_cases c3 : (l0.length : Int) = (l1.length : Int)
 case neg =>
  rw [if_neg c3] at H
  have bQ : ((l0.length : Int) == (l1.length : Int)) = false := beq_eq_false_iff_ne.mpr c3
  have bU : ((l0.length : Int) != (l1.length : Int)) = true := bne_iff_ne.mpr c3
  have bW : (l0.length == l1.length) = false := by first | simpa using c3 | (simp at c3 ⊢; omega)
  obtain rfl := Option.some.inj H
  go_enter Try.func90, Try.ntmps90
  go_wp2
  go_ret
  exact ⟨xW, bl HB.out⟩
 rw [if_pos c3] at H
 have bQ : ((l0.length : Int) == (l1.length : Int)) = true := beq_iff_eq.mpr c3
 have bU : ((l0.length : Int) != (l1.length : Int)) = false := bne_eq_false_iff_eq.mpr c3
 have bW : (l0.length == l1.length) = true := by first | simpa using c3 | (simp at c3 ⊢; omega)
 clear c3
 have H' := aM H
 clear H
 go_enter Try.func90, Try.ntmps90
 go_wp2
 go_loopg [5] k (fun kq v5 w' => ∃ (aA : Int), v5 = .int .i64 aA ∧ Aside0 (laws_eqHeardS.l0 kq l0 l1 aA = some r) ∧ Aside0 (kq ≤ k) ∧ Aside0 (Below w.heap.size w w'))
 case atStart => exact ⟨(0), xE, H', ⟨Nat.le_refl _⟩, ⟨bl HB.out⟩⟩
 case round =>
  clear H'
  repeat first|clear c1|clear p2|clear c3|clear bQ|clear bU|clear bW
  obtain ⟨aA, rfl, HA, cD, HB⟩ := hrel
  cases gk with
  | zero => exact absurd HA.out (by simp [laws_eqHeardS.l0])
  | succ k1 =>
   have H := HA.out
   clear HA
   simp only [laws_eqHeardS.l0] at H
   by_cases c4 : aA < (l0.length : Int)
   case neg =>
    rw [if_neg c4] at H
    have cG := decide_eq_false c4
    clear c4
    obtain rfl := Option.some.inj H
    go_wp2
    go_ret
    exact ⟨xW, bl HB.out⟩
   rw [if_pos c4] at H
   have cG := decide_eq_true c4
   clear c4
   obtain ⟨cL, H⟩ := gI H
   obtain ⟨cN, H⟩ := gI H
   obtain ⟨cH, cE, H⟩ := hB H
   have A7 := aM cE
   clear cE
   by_cases c8 : cH = true
   case neg =>
    replace c8 := Bool.eq_false_iff.mpr c8
    subst c8
    replace H := hF H
    obtain rfl := Option.some.inj H
    try go_wp2
    replace HB := aM (below_drew1 HB.out)
    have bI : 0 ≤ (aA : Int) := dT
    have bJ : aA < (l0.length : Int) := dT
    obtain ⟨bM, bO, aC, aD, aE, aG⟩ := at_T138 cA.out aA bI bJ
    have aN := aG
    have aQ := aE
    have aT := aD
    have aV := aC
    cases bO
    replace aC := xB HB aC
    replace aD := xB HB aD
    replace aE := xB HB aE
    replace aG := xB HB aG
    replace bI := eq_true bI
    replace bJ := eq_true bJ
    have bK : 0 ≤ (aA : Int) := dT
    have bL : aA < (l1.length : Int) := dT
    obtain ⟨bN, bP, aH, aI, aJ, aK⟩ := at_T138 cC.out aA bK bL
    have aW := aK
    have aX := aJ
    have bA := aI
    have bD := aH
    cases bP
    replace aH := xB HB aH
    replace aI := xB HB aI
    replace aJ := xB HB aJ
    replace aK := xB HB aK
    replace bK := eq_true bK
    replace bL := eq_true bL
    refine start_ (n := 10) (S := fun w' => cF138 w' bM (aA).toNat (rd_T138 l0 aA) (cE138 w' bN (aA).toNat (rd_T138 l1 aA))) (ds := []) (dn 10 0) (by kernel_rfl) rfl rfl ⟨(xB HB aV :), (xB HB aT :), (xB HB aQ :), (xB HB aN :), (xB HB bD :), (xB HB bA :), (xB HB aX :), (xB HB aW :)⟩ (fun hHeld => ?_); refine with_tabW laws_eqHeardS.tab6 laws_eqHeardS.bits6 (fun HT_ HW_ => ?_)
    generalize wr.drew = cQ at HB aC aD aE aG aH aI aJ aK hHeld ⊢
    refine nY (N := some 17) HT_ ?_
    refine nY (N := some 18) HT_ ?_
    refine nY (N := some 19) HT_ ?_
    refine pZ 4 21 (bv 10 23) HT_ ?_
    refine pZ 5 22 (bv 10 55) HT_ ?_
    refine pZ 6 23 (bv 10 119) HT_ ?_
    refine aZ 3 20 (bv 10 127) HT_ HW_ hHeld ?_
    refine aZ 7 24 (bv 10 255) HT_ HW_ hHeld ?_
    refine one_ (i := 8) (N := some 25) (bv 10 511) rfl rfl (one_of HT_.out (by kernel_rfl)) (by decide) (fun K hK => ?_)
    refine goes_ Try.func154 (by kernel_rfl) rfl #[.agg #[((rd_T138 l0 aA).f0), ((rd_T138 l0 aA).f1), ((rd_T138 l0 aA).f2), ((rd_T138 l0 aA).f3)], .agg #[((rd_T138 l1 aA).f0), ((rd_T138 l1 aA).f1), ((rd_T138 l1 aA).f2), ((rd_T138 l1 aA).f3)]] (by rfl) rfl rfl xR ?_
    with_reducible refine (laws_eqHeard.calls ((rd_T138 l0 aA).f0) ((rd_T138 l0 aA).f1) ((rd_T138 l0 aA).f2) ((rd_T138 l0 aA).f3) ((rd_T138 l1 aA).f0) ((rd_T138 l1 aA).f1) ((rd_T138 l1 aA).f2) ((rd_T138 l1 aA).f3) false _ A7.out).mono ?_
    rintro e cR ⟨rfl, hb⟩
    refine ⟨_, rfl, ?_⟩
    replace HB := rS HB hb
    (try clear hb)
    (try clear hb2)
    (try clear hk)
    (try clear hi)
    refine hK.out _ _ ⟨(xB HB aV :), (xB HB aT :), (xB HB aQ :), (xB HB aN :), (xB HB bD :), (xB HB bA :), (xB HB aX :), (xB HB aW :)⟩ (fun hHeld => ?_)
    clear hK K
    refine norm_ (a' := ?_) ?_ ?_
    rotate_left
    ·show Act.put _ (some 25) _ = _
     simp only [Act.put, sA, sZ, sS, i64_w, i32_w]
     rfl
    refine pZ 9 26 (bv 10 1023) HT_ ?_
    refine done_ (done_of HT_.out (by kernel_rfl)) ?_
    try go_wp2
    go_ret
    exact ⟨xW, bl HB.out⟩
   subst c8
   replace H := hP H rfl
   have H' := aM H
   clear H
   try go_wp2
   replace HB := aM (below_drew1 HB.out)
   have bI : 0 ≤ (aA : Int) := dT
   have bJ : aA < (l0.length : Int) := dT
   obtain ⟨bM, bO, aC, aD, aE, aG⟩ := at_T138 cA.out aA bI bJ
   have aN := aG
   have aQ := aE
   have aT := aD
   have aV := aC
   cases bO
   replace aC := xB HB aC
   replace aD := xB HB aD
   replace aE := xB HB aE
   replace aG := xB HB aG
   replace bI := eq_true bI
   replace bJ := eq_true bJ
   have bK : 0 ≤ (aA : Int) := dT
   have bL : aA < (l1.length : Int) := dT
   obtain ⟨bN, bP, aH, aI, aJ, aK⟩ := at_T138 cC.out aA bK bL
   have aW := aK
   have aX := aJ
   have bA := aI
   have bD := aH
   cases bP
   replace aH := xB HB aH
   replace aI := xB HB aI
   replace aJ := xB HB aJ
   replace aK := xB HB aK
   replace bK := eq_true bK
   replace bL := eq_true bL
   refine start_ (n := 10) (S := fun w' => cF138 w' bM (aA).toNat (rd_T138 l0 aA) (cE138 w' bN (aA).toNat (rd_T138 l1 aA))) (ds := []) (dn 10 0) (by kernel_rfl) rfl rfl ⟨(xB HB aV :), (xB HB aT :), (xB HB aQ :), (xB HB aN :), (xB HB bD :), (xB HB bA :), (xB HB aX :), (xB HB aW :)⟩ (fun hHeld => ?_); refine with_tabW laws_eqHeardS.tab6 laws_eqHeardS.bits6 (fun HT_ HW_ => ?_)
   generalize wr.drew = w9 at HB aC aD aE aG aH aI aJ aK hHeld ⊢
   refine nY (N := some 17) HT_ ?_
   refine nY (N := some 18) HT_ ?_
   refine nY (N := some 19) HT_ ?_
   refine pZ 4 21 (bv 10 23) HT_ ?_
   refine pZ 5 22 (bv 10 55) HT_ ?_
   refine pZ 6 23 (bv 10 119) HT_ ?_
   refine aZ 3 20 (bv 10 127) HT_ HW_ hHeld ?_
   refine aZ 7 24 (bv 10 255) HT_ HW_ hHeld ?_
   refine one_ (i := 8) (N := some 25) (bv 10 511) rfl rfl (one_of HT_.out (by kernel_rfl)) (by decide) (fun K hK => ?_)
   refine goes_ Try.func154 (by kernel_rfl) rfl #[.agg #[((rd_T138 l0 aA).f0), ((rd_T138 l0 aA).f1), ((rd_T138 l0 aA).f2), ((rd_T138 l0 aA).f3)], .agg #[((rd_T138 l1 aA).f0), ((rd_T138 l1 aA).f1), ((rd_T138 l1 aA).f2), ((rd_T138 l1 aA).f3)]] (by rfl) rfl rfl xR ?_
   with_reducible refine (laws_eqHeard.calls ((rd_T138 l0 aA).f0) ((rd_T138 l0 aA).f1) ((rd_T138 l0 aA).f2) ((rd_T138 l0 aA).f3) ((rd_T138 l1 aA).f0) ((rd_T138 l1 aA).f1) ((rd_T138 l1 aA).f2) ((rd_T138 l1 aA).f3) true _ A7.out).mono ?_
   rintro e cS ⟨rfl, hb⟩
   refine ⟨_, rfl, ?_⟩
   replace HB := rS HB hb
   (try clear hb)
   (try clear hb2)
   (try clear hk)
   (try clear hi)
   refine hK.out _ _ ⟨(xB HB aV :), (xB HB aT :), (xB HB aQ :), (xB HB aN :), (xB HB bD :), (xB HB bA :), (xB HB aX :), (xB HB aW :)⟩ (fun hHeld => ?_)
   clear hK K
   refine norm_ (a' := ?_) ?_ ?_
   rotate_left
   ·show Act.put _ (some 25) _ = _
    simp only [Act.put, sA, sZ, sS, i64_w, i32_w]
    rfl
   refine pZ 9 26 (bv 10 1023) HT_ ?_
   refine done_ (done_of HT_.out (by kernel_rfl)) ?_
   try go_wp2
   go_roundg k1
   case measure => have := cD.out; omega
   case rel => exact ⟨(wS aA), xE, H', ⟨by have := cD.out; omega⟩, ⟨bl HB.out⟩⟩

end Go.Proofs.Ythmijfekdeagpaa.PFnExactGate

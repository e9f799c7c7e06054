/- A part of the proof of laws.FnFades. No condition beyond what its theorems say. -/
import Derived.Test.YthmijfekdeagpaaVFnFadesPx1
import Derived.Test.YthmijfekdeagpaaVFnFadesPx23
namespace Go.Proofs.Ythmijfekdeagpaa.PFnFades
open Go.RowKit Go.Proofs.YthmijfekdeagpaaW.PrintWords Go.Proofs.YthmijfekdeagpaaW.PrintLast Go.Proofs.YthmijfekdeagpaaW.PrintMore
set_option linter.unusedVariables false
set_option linter.unusedSimpArgs false

attribute [local go_sem high] eqA73 eqA89
def impl_copyBridge.f (aA : Int) (aC : List (S79)) : Option (Int × (List (S79))) := (impl_Port.f aC).bind fun aD => (some (aA, aD))
set_option maxHeartbeats 60000000 in
set_option maxRecDepth 100000 in
theorem impl_copyBridge.calls (aE : Int) (aI : Option Addr) (aJ : Nat) (aD : List (S79)) (r1 : Int) (r2 : List (S79)) (w : World) (hr0_1 : Kd.C k79 w aI aD.length aD) (hc0_1 : aD.length ≤ aJ) (h : impl_copyBridge.f aE aD = some (r1, r2)) :
  Calls Try.prog 71 #[.agg #[aE, .slice aI aD.length aJ]] w fun e w' => ∃ aX : Value, e = .returned (.agg #[r1, aX]) ∧ Kd.R k79 79 w' w.heap.size (fun _ => True) aX r2 ∧ Below w.heap.size w w' := by
 have bM := Try.underlying28
 have aT := aM hr0_1
 have aV := aM hc0_1
 clear hr0_1 hc0_1
 have HB := aM (Below.refl w.heap.size w)
 have H : ((impl_Port.f aD).bind fun aK => (some (aE, aK))) = some (r1, r2) := h
 clear h
 obtain ⟨aK, bA, H⟩ := hB H
 have A2 := aM bA
 clear bA
 simp only [Option.some.injEq, Prod.mk.injEq] at H
 obtain ⟨rfl, rfl⟩ := H
 go_enter Try.func71, Try.ntmps71
 try go_wp2_with (first | ((with_reducible refine gD (N := 1) rfl ?_); refine bE (N := 1) (cs := #[aE, .slice aI aD.length aJ]) (t := 28) ?_; intro aW hg w3 hbox hb; have aA := aM (hbox); have bI := gF hg HB; have bJ := gF hg HB; replace HB := rS HB hb; clear hb hbox hg) | ((with_reducible refine gD (N := 2) rfl ?_); refine bE (N := 2) (cs := #[.int .i64 0, .slice none 0 0]) (t := 28) ?_; intro aN hg w4 hbox hb; have aC := aM (hbox); have bK := gF hg HB; have bL := gF hg HB; have aG := nM hg aA; have aH := nH hg aA; replace aA := rB aA hb; replace HB := rS HB hb; clear hb hbox hg))
 replace aA := aM (blk_drew aA.out)
 replace aC := aM (blk_drew aC.out)
 replace HB := aM (below_drew1 HB.out)
 refine start_ (n := 7) (S := fun w' => cS2 w' aW (.int .i64 aE) (.slice aI aD.length aJ)) (ds := []) (dn 7 0) (by kernel_rfl) rfl rfl ⟨cI aA.out 0, cI aA.out 1⟩ (fun hHeld => ?_)
 generalize w4.drew = w5 at aA aC HB hHeld ⊢
 refine pure_ (i := 0) (N := some 3) (v := ?_) (a' := ?_) (bv 7 1) rfl rfl (by kernel_rfl) (fun _ _ _ h => h) (Or.inl ⟨by rfl, ?_⟩) ?_ ?_
 rotate_left
 ·intro w'
  go_simp
  with_reducible rfl
 rotate_left
 ·simp only [Act.put, sA, sZ, sS, i64_w, i32_w]
  rfl
 refine pure_ (i := 2) (N := some 5) (v := ?_) (a' := ?_) (bv 7 5) rfl rfl (by kernel_rfl) (fun _ _ _ h => h) (Or.inl ⟨by rfl, ?_⟩) ?_ ?_
 rotate_left
 ·intro w'
  go_simp
  with_reducible rfl
 rotate_left
 ·simp only [Act.put, sA, sZ, sS, i64_w, i32_w]
  rfl
 refine take_ (i := 1) (N := some 4) (v := ?_) (a' := ?_) (bv 7 7) rfl rfl (by kernel_rfl) (fun _ _ _ h => h) (Or.inl ⟨by rfl, ?_⟩) hHeld ?_ ?_
 rotate_left
 ·rintro w' ⟨s0, s1⟩
  go_simp
  with_reducible rfl
 rotate_left
 ·simp only [Act.put, sA, sZ, sS, i64_w, i32_w]
  rfl
 refine take_ (i := 3) (N := some 6) (v := ?_) (a' := ?_) (bv 7 15) rfl rfl (by kernel_rfl) (fun _ _ _ h => h) (Or.inl ⟨by rfl, ?_⟩) hHeld ?_ ?_
 rotate_left
 ·rintro w' ⟨s0, s1⟩
  go_simp
  with_reducible rfl
 rotate_left
 ·simp only [Act.put, sA, sZ, sS, i64_w, i32_w]
  rfl
 refine one_ (i := 4) (N := some 7) (bv 7 31) rfl rfl (by kernel_rfl) (by decide) (fun K hK => ?_)
 refine goes_ Try.func144 (by kernel_rfl) rfl #[.slice aI aD.length aJ] (by rfl) rfl rfl xR ?_
 with_reducible refine (impl_Port.calls _ _ aD aK _ ?side1 ?side2 A2.out).mono ?_
 (case side1 => exact cM (cB aT.out HB.out))
 (case side2 => exact aV.out)
 rintro e w6 ⟨bN, rfl, ho0, hb⟩
 refine ⟨_, rfl, ?_⟩
 have aQ := aM (Kd.R_lower ho0 (below_size (bl HB.out)))
 replace aA := rB aA hb
 replace aC := rB aC hb
 replace HB := rS HB hb
 (try clear hb)
 (try clear hb2)
 (try clear hk)
 (try clear hi)
 (try clear ho0)
 obtain ⟨bD, bG, bH⟩ := Kd.R_slice aQ.out
 (first | subst bH | (injection bH with f1_ f2_ f3_; have f4_ := f1_.symm; have f5_ := f3_.symm; clear f1_ f2_ f3_; subst f4_; subst f5_))
 refine hK.out _ _ ⟨cI aA.out 0, cI aA.out 1⟩ (fun hHeld => ?_)
 clear hK K
 refine norm_ (a' := ?_) ?_ ?_
 rotate_left
 ·show Act.put _ (some 7) _ = _
  simp only [Act.put, sA, sZ, sS, i64_w, i32_w]
  rfl
 refine pure_ (i := 5) (N := some 8) (v := ?_) (a' := ?_) (bv 7 63) rfl rfl (by kernel_rfl) (fun _ _ _ h => h) (Or.inl ⟨by rfl, ?_⟩) ?_ ?_
 rotate_left
 ·intro w'
  go_simp
  with_reducible rfl
 rotate_left
 ·simp only [Act.put, sA, sZ, sS, i64_w, i32_w]
  rfl
 refine one_ (i := 6) (N := none) (bv 7 127) rfl rfl (by kernel_rfl) (by decide) (fun K hK => ?_)
 have bO := cI aC.out 0
 have hfs8 := bF aC.out 0
 have hns8_0 := aG.out
 have hms8_0 := aH.out
 have bP := cI aC.out 1
 have hfs9 := bF aC.out 1
 have hns9_0 := aG.out
 have hms9_0 := aH.out
 refine skip_ (w1 := ?_) (by rfl) rfl ?_ ?_
 rotate_left
 ·go_simp
  rfl
 refine hK.out _ _ ⟨(cm (hHeld.1)), (cm (hHeld.2))⟩ (fun hHeld => ?_)
 clear hK K
 refine done_ (by kernel_rfl) ?_
 try go_wp2
 refine bodyPost_ret (results_cell_row rfl _ _ aN 28 #[aE, .slice bD aK.length bG] (0, 0) _ rfl (bm aC.out) Try.underlying28 rfl (by kernel_rfl)) rfl ?_
 exact ⟨_, xW, by (with_reducible repeat (first | apply Kd.R_alloc | apply Kd.R_drewN | apply Kd.R_drew)); exact Kd.R_mono (kF (p := ⟨aN, 1, none⟩) (kF (p := ⟨aN, 0, none⟩) (Kd.R_types aQ.out aC.out (by decide)) (fun _ hk => hk.2) (.int .i64 aE)) (fun _ hk => hk.2) (.slice bD aK.length bG)) (fun _ hk => trivial), bl HB.out⟩

def impl_InOk.f (aA aC aD aE aG aH aI : Int) (aJ : Bool) : Option (Bool) := if aA = 1 then ((impl_isPort.f aC).bind fun aK => (if aK = true then ((impl_VecOk.f aD aE aG aH).bind fun aN => (if aN = true then ((impl_isHops.f aI).bind fun aQ => (if aQ = true then (some (!aJ)) else (some false))) else (some false))) else (some false))) else (if aA = 3 then ((impl_isPort.f aC).bind fun aT => (if aT = true then (if (aD == 0 && (aE == 0 && (aG == 0 && (aH == 0)))) = true then (some (aI == 0)) else (some false)) else (some false))) else (some (aA == 2 && (aC == 0 && ((aD == 0 && (aE == 0 && (aG == 0 && (aH == 0)))) && (aI == 0 && (!aJ)))))))
set_option maxHeartbeats 60000000 in
set_option maxRecDepth 100000 in
theorem impl_InOk.calls (aI aC aD aE aG aH aJ : Int) (aK r : Bool) (w : World) (h : impl_InOk.f aI aC aD aE aG aH aJ aK = some r) :
  Calls Try.prog 130 #[.agg #[aI, aC, aD, aE, aG, aH, aJ, aK]] w fun e w' => e = .returned (.bool r) ∧ Below w.heap.size w w' := by
 have cL := Try.underlying89
 have cN := Try.underlying73
 have HB := aM (Below.refl w.heap.size w)
 have H : (if aI = 1 then ((impl_isPort.f aC).bind fun aX => (if aX = true then ((impl_VecOk.f aD aE aG aH).bind fun bA => (if bA = true then ((impl_isHops.f aJ).bind fun bD => (if bD = true then (some (!aK)) else (some false))) else (some false))) else (some false))) else (if aI = 3 then ((impl_isPort.f aC).bind fun bG => (if bG = true then (if (aD == 0 && (aE == 0 && (aG == 0 && (aH == 0)))) = true then (some (aJ == 0)) else (some false)) else (some false))) else (some (aI == 2 && (aC == 0 && ((aD == 0 && (aE == 0 && (aG == 0 && (aH == 0)))) && (aJ == 0 && (!aK)))))))) = some r := h
 clear h
 by_cases c2 : aI = 1
 case neg =>
  rw [if_neg c2] at H
  have bU : (aI == 1) = false := beq_eq_false_iff_ne.mpr c2
  have bV : (aI != 1) = true := bne_iff_ne.mpr c2
  by_cases aW : aI = 3
  case neg =>
   rw [if_neg aW] at H
   have bK : (aI == 3) = false := beq_eq_false_iff_ne.mpr aW
   have bL : (aI != 3) = true := bne_iff_ne.mpr aW
   obtain rfl := Option.some.inj H
   go_enter Try.func130, Try.ntmps130
   go_wp2_with (first | ((with_reducible refine gD (N := 1) rfl ?_); refine bE (N := 1) (cs := #[aI, aC, aD, aE, aG, aH, aJ, aK]) (t := 89) ?_; intro aN hg cO hbox hb; have aA := aM (hbox); have aQ := gF hg HB; have aT := gF hg HB; replace HB := rS HB hb; clear hb hbox hg; have bW := cA8 aA.out))
   go_ret
   exact ⟨xW, bl HB.out⟩
  rw [if_pos aW] at H
  have bK : (aI == 3) = true := beq_iff_eq.mpr aW
  have bL : (aI != 3) = false := bne_eq_false_iff_eq.mpr aW
  clear aW
  obtain ⟨bG, bI, H⟩ := hB H
  have bJ := aM bI
  clear bI
  by_cases bH : bG = true
  case neg =>
   replace bH := Bool.eq_false_iff.mpr bH
   subst bH
   replace H := hF H
   obtain rfl := Option.some.inj H
   go_enter Try.func130, Try.ntmps130
   go_wp2_with (first | ((with_reducible refine gD (N := 1) rfl ?_); refine bE (N := 1) (cs := #[aI, aC, aD, aE, aG, aH, aJ, aK]) (t := 89) ?_; intro aN hg cP hbox hb; have aA := aM (hbox); have aQ := gF hg HB; have aT := gF hg HB; replace HB := rS HB hb; clear hb hbox hg; have bX := cA8 aA.out) | ((with_reducible refine gC (f := 170) rfl ?_); refine gL (some 29) Try.func170 #[aC] ?_; (with_reducible refine (impl_isPort.calls aC false _ bJ.out).mono ?_); rintro e w' ⟨rfl, ⟨nd, rfl⟩⟩; refine ⟨_, rfl, ?_⟩))
   go_ret
   exact ⟨xW, bl HB.out⟩
  subst bH
  replace H := hP H rfl
  by_cases aV : (aD == 0 && (aE == 0 && (aG == 0 && (aH == 0)))) = true
  case pos =>
   rw [if_pos aV] at H
   have bM : (aD == 0 && (aE == 0 && (aG == 0 && (aH == 0)))) = true := aV
   (try (have bN : decide (aD = 0 && (aE == 0 && (aG == 0 && (aH == 0)))) = true := by simpa using aV))
   (try (have bO : (aD == 0 && (aE == 0 && (aG == 0 && (aH == 0)))) = true := by simpa using aV))
   clear aV
   obtain rfl := Option.some.inj H
   go_enter Try.func130, Try.ntmps130
   go_wp2_with (first | ((with_reducible refine gD (N := 1) rfl ?_); refine bE (N := 1) (cs := #[aI, aC, aD, aE, aG, aH, aJ, aK]) (t := 89) ?_; intro aN hg cQ hbox hb; have aA := aM (hbox); have aQ := gF hg HB; have aT := gF hg HB; replace HB := rS HB hb; clear hb hbox hg; have bY := cA8 aA.out) | ((with_reducible refine gC (f := 170) rfl ?_); refine gL (some 29) Try.func170 #[aC] ?_; (with_reducible refine (impl_isPort.calls aC true _ bJ.out).mono ?_); rintro e w' ⟨rfl, ⟨nd, rfl⟩⟩; refine ⟨_, rfl, ?_⟩))
   go_ret
   exact ⟨xW, bl HB.out⟩
  rw [if_neg aV] at H
  have bM : (aD == 0 && (aE == 0 && (aG == 0 && (aH == 0)))) = false := by simpa using aV
  (try (have bN : decide (aD = 0 && (aE == 0 && (aG == 0 && (aH == 0)))) = false := by simpa using aV))
  (try (have bO : (aD == 0 && (aE == 0 && (aG == 0 && (aH == 0)))) = false := by simpa using aV))
  (try (have bZ : ¬ (aD = 0 && (aE == 0 && (aG == 0 && (aH == 0)))) := by simpa using aV))
  clear aV
  obtain rfl := Option.some.inj H
  go_enter Try.func130, Try.ntmps130
  go_wp2_with (first | ((with_reducible refine gD (N := 1) rfl ?_); refine bE (N := 1) (cs := #[aI, aC, aD, aE, aG, aH, aJ, aK]) (t := 89) ?_; intro aN hg cR hbox hb; have aA := aM (hbox); have aQ := gF hg HB; have aT := gF hg HB; replace HB := rS HB hb; clear hb hbox hg; have cA := cA8 aA.out) | ((with_reducible refine gC (f := 170) rfl ?_); refine gL (some 29) Try.func170 #[aC] ?_; (with_reducible refine (impl_isPort.calls aC true _ bJ.out).mono ?_); rintro e w' ⟨rfl, ⟨nd, rfl⟩⟩; refine ⟨_, rfl, ?_⟩))
  go_ret
  exact ⟨xW, bl HB.out⟩
 rw [if_pos c2] at H
 have bU : (aI == 1) = true := beq_iff_eq.mpr c2
 have bV : (aI != 1) = false := bne_eq_false_iff_eq.mpr c2
 clear c2
 obtain ⟨aX, bP, H⟩ := hB H
 have A3 := aM bP
 clear bP
 by_cases c4 : aX = true
 case neg =>
  replace c4 := Bool.eq_false_iff.mpr c4
  subst c4
  replace H := hF H
  obtain rfl := Option.some.inj H
  go_enter Try.func130, Try.ntmps130
  go_wp2_with (first | ((with_reducible refine gD (N := 1) rfl ?_); refine bE (N := 1) (cs := #[aI, aC, aD, aE, aG, aH, aJ, aK]) (t := 89) ?_; intro aN hg cS hbox hb; have aA := aM (hbox); have aQ := gF hg HB; have aT := gF hg HB; replace HB := rS HB hb; clear hb hbox hg; have cC := cA8 aA.out) | ((with_reducible refine gC (f := 170) rfl ?_); refine gL (some 9) Try.func170 #[aC] ?_; (with_reducible refine (impl_isPort.calls aC false _ A3.out).mono ?_); rintro e w' ⟨rfl, ⟨nd, rfl⟩⟩; refine ⟨_, rfl, ?_⟩))
  go_ret
  exact ⟨xW, bl HB.out⟩
 subst c4
 replace H := hP H rfl
 obtain ⟨bA, bQ, H⟩ := hB H
 have A5 := aM bQ
 clear bQ
 by_cases c6 : bA = true
 case neg =>
  replace c6 := Bool.eq_false_iff.mpr c6
  subst c6
  replace H := hF H
  obtain rfl := Option.some.inj H
  go_enter Try.func130, Try.ntmps130
  go_wp2_with (first | ((with_reducible refine gD (N := 1) rfl ?_); refine bE (N := 1) (cs := #[aI, aC, aD, aE, aG, aH, aJ, aK]) (t := 89) ?_; intro aN hg cT hbox hb; have aA := aM (hbox); have aQ := gF hg HB; have aT := gF hg HB; replace HB := rS HB hb; clear hb hbox hg; have cD := cA8 aA.out) | ((with_reducible refine gC (f := 170) rfl ?_); refine gL (some 9) Try.func170 #[aC] ?_; (with_reducible refine (impl_isPort.calls aC true _ A3.out).mono ?_); rintro e w' ⟨rfl, ⟨nd, rfl⟩⟩; refine ⟨_, rfl, ?_⟩) | (go_at_call 178; (with_reducible refine (impl_VecOk.calls aD aE aG aH false _ A5.out).mono ?_); rintro e cU ⟨rfl, hb⟩; replace aA := rB aA hb; replace HB := rS HB hb; (try clear hb)))
  go_ret
  exact ⟨xW, bl HB.out⟩
 subst c6
 replace H := hP H rfl
 obtain ⟨bD, bT, H⟩ := hB H
 have A7 := aM bT
 clear bT
 by_cases c8 : bD = true
 case pos =>
  subst c8
  replace H := hP H rfl
  obtain rfl := Option.some.inj H
  go_enter Try.func130, Try.ntmps130
  go_wp2_with (first | ((with_reducible refine gD (N := 1) rfl ?_); refine bE (N := 1) (cs := #[aI, aC, aD, aE, aG, aH, aJ, aK]) (t := 89) ?_; intro aN hg w9 hbox hb; have aA := aM (hbox); have aQ := gF hg HB; have aT := gF hg HB; replace HB := rS HB hb; clear hb hbox hg; have cE := cA8 aA.out) | ((with_reducible refine gC (f := 170) rfl ?_); refine gL (some 9) Try.func170 #[aC] ?_; (with_reducible refine (impl_isPort.calls aC true _ A3.out).mono ?_); rintro e w' ⟨rfl, ⟨nd, rfl⟩⟩; refine ⟨_, rfl, ?_⟩) | (go_at_call 178; (with_reducible refine (impl_VecOk.calls aD aE aG aH true _ A5.out).mono ?_); rintro e cV ⟨rfl, hb⟩; replace aA := rB aA hb; replace HB := rS HB hb; (try clear hb); have cG := cA8 aA.out) | (go_at_call 179; (with_reducible refine (impl_isHops.calls aJ true _ A7.out).mono ?_); rintro e w' ⟨rfl, ⟨nd, rfl⟩⟩))
  go_ret
  exact ⟨xW, bl HB.out⟩
 replace c8 := Bool.eq_false_iff.mpr c8
 subst c8
 replace H := hF H
 obtain rfl := Option.some.inj H
 go_enter Try.func130, Try.ntmps130
 go_wp2_with (first | ((with_reducible refine gD (N := 1) rfl ?_); refine bE (N := 1) (cs := #[aI, aC, aD, aE, aG, aH, aJ, aK]) (t := 89) ?_; intro aN hg cW hbox hb; have aA := aM (hbox); have aQ := gF hg HB; have aT := gF hg HB; replace HB := rS HB hb; clear hb hbox hg; have cH := cA8 aA.out) | ((with_reducible refine gC (f := 170) rfl ?_); refine gL (some 9) Try.func170 #[aC] ?_; (with_reducible refine (impl_isPort.calls aC true _ A3.out).mono ?_); rintro e w' ⟨rfl, ⟨nd, rfl⟩⟩; refine ⟨_, rfl, ?_⟩) | (go_at_call 178; (with_reducible refine (impl_VecOk.calls aD aE aG aH true _ A5.out).mono ?_); rintro e cX ⟨rfl, hb⟩; replace aA := rB aA hb; replace HB := rS HB hb; (try clear hb); have cK := cA8 aA.out) | (go_at_call 179; (with_reducible refine (impl_isHops.calls aJ false _ A7.out).mono ?_); rintro e w' ⟨rfl, ⟨nd, rfl⟩⟩))
 go_ret
 exact ⟨xW, bl HB.out⟩

def impl_Turn.j0 : Nat → Int → Bool → Bool → Bool → Int → Int → Int → Int → Int → Int → Int → Int → Bool → Option (Bool × Bool × Int × Int × Int × Int × Int × Int × Int × Int × Bool)
 | 0, _, _, _, _, _, _, _, _, _, _, _, _, _ => none
 | k + 1, x1, aX, aA, aC, aD, aE, aG, aH, aI, aJ, aQ, aN, aK => if aX = true then (some (aA, aC, aD, aE, aG, aH, aI, aJ, aQ, aN, aK)) else (if x1 = 3 then ((impl_Port_isOpenBy.f aA aC aD aE aG aH aI aJ x1 0 aK).bind fun aT => (some (aA, aC, aD, aE, aG, aH, aI, aJ, x1, 0, aT))) else (if aQ = 3 then ((impl_Port_isOpenBy.f aA aC aD aE aG aH aI aJ x1 4 aK).bind fun aV => (some (aA, aC, aD, aE, aG, aH, aI, aJ, x1, 4, aV))) else ((impl_Port_isOpenBy.f aA aC aD aE aG aH aI aJ x1 aN aK).bind fun aW => (some (aA, aC, aD, aE, aG, aH, aI, aJ, x1, aN, aW)))))
def impl_Turn.f (k : Nat) (aC aD : Bool) (aE aG aH aI aJ aK aN aQ : Int) (aA : Bool) (a1 : Int) : Option (Bool × Bool × Int × Int × Int × Int × Int × Int × Int × Int × Bool) := if aC = true then ((impl_inRange.f a1 1 3).bind fun aT => (if aT = true then ((impl_PortOk.f k aC aD aE aG aH aI aJ aK aN aQ aA).bind fun aV => (impl_Turn.j0 k a1 (!aV) aC aD aE aG aH aI aJ aK aN aQ aA)) else (impl_Turn.j0 k a1 true aC aD aE aG aH aI aJ aK aN aQ aA))) else (impl_Turn.j0 k a1 true aC aD aE aG aH aI aJ aK aN aQ aA)
theorem impl_Turn.mono_l : ∀ k, (∀ y0 y1 y2 y3 y4 y5 y6 y7 y8 y9 aA aC aD, LeO (impl_Turn.j0 k y0 y1 y2 y3 y4 y5 y6 y7 y8 y9 aA aC aD) (impl_Turn.j0 (k + 1) y0 y1 y2 y3 y4 y5 y6 y7 y8 y9 aA aC aD))
 | 0 => fun _ _ _ _ _ _ _ _ _ _ _ _ _ r h => by simp [impl_Turn.j0] at h
 | k + 1 => by
  have ih0 := impl_Turn.mono_l k
  ·intro y0 y1 y2 y3 y4 y5 y6 y7 y8 y9 aA aC aD
   unfold impl_Turn.j0
   repeat' first|(with_reducible first|apply ih0|apply impl_PortOk.mono|exact lR _|exact lN _|refine lI ?_ ?_|refine lB ?_ fun _ => ?_)|exact lN _|refine lI ?_ ?_|refine lB ?_ fun _ => ?_
theorem impl_Turn.mono : ∀ a0 a1 a2 a3 a4 a5 a6 a7 a8 a9 aA aC k, LeO (impl_Turn.f k a0 a1 a2 a3 a4 a5 a6 a7 a8 a9 aA aC) (impl_Turn.f (k + 1) a0 a1 a2 a3 a4 a5 a6 a7 a8 a9 aA aC) := by
 intro a0 a1 a2 a3 a4 a5 a6 a7 a8 a9 aA aC k
 have ih0 := impl_Turn.mono_l k
 unfold impl_Turn.f
 repeat' first|(with_reducible first|apply ih0|apply impl_PortOk.mono|exact lR _|exact lN _|refine lI ?_ ?_|refine lB ?_ fun _ => ?_)|exact lN _|refine lI ?_ ?_|refine lB ?_ fun _ => ?_
set_option maxHeartbeats 60000000 in
set_option maxRecDepth 100000 in
theorem impl_Turn.calls (k : Nat) (aD aE : Bool) (aG aH aI aJ aK aN aT aV : Int) (aC : Bool) (a1 : Int) (r1 r2 : Bool) (r3 r4 r5 r6 r7 r8 r9 bL : Int) (bM : Bool) (w : World) (h : impl_Turn.f k aD aE aG aH aI aJ aK aN aT aV aC a1 = some (r1, r2, r3, r4, r5, r6, r7, r8, r9, bL, bM)) :
  Calls Try.prog 145 #[.agg #[aD, aE, aG, aH, aI, aJ, aK, aN, aT, aV, aC], a1] w fun e w' => e = .returned (.agg #[r1, r2, r3, r4, r5, r6, r7, r8, r9, bL, bM]) ∧ Below w.heap.size w w' := by
 have dU := Try.underlying79
 have HB := aM (Below.refl w.heap.size w)
 have H : (if aD = true then ((impl_inRange.f a1 1 3).bind fun bK => (if bK = true then ((impl_PortOk.f k aD aE aG aH aI aJ aK aN aT aV aC).bind fun bJ => (impl_Turn.j0 k a1 (!bJ) aD aE aG aH aI aJ aK aN aT aV aC)) else (impl_Turn.j0 k a1 true aD aE aG aH aI aJ aK aN aT aV aC))) else (impl_Turn.j0 k a1 true aD aE aG aH aI aJ aK aN aT aV aC)) = some (r1, r2, r3, r4, r5, r6, r7, r8, r9, bL, bM) := h
 clear h
 have bO := aM H
 clear H
 go_enter Try.func145, Try.ntmps145
 go_upto_region 1 with (first | ((with_reducible refine gD (N := 2) rfl ?_); refine bE (N := 2) (cs := #[aD, aE, aG, aH, aI, aJ, aK, aN, aT, aV, aC]) (t := 79) ?_; intro bD hg w4 hbox hb; have aA := aM (hbox); have cL := gF hg HB; have cN := gF hg HB; replace HB := rS HB hb; clear hb hbox hg) | ((with_reducible refine gD (N := 4) rfl ?_); refine bE (N := 4) (cs := #[.bool false, .bool false, .int .i64 0, .int .i64 0, .int .i64 0, .int .i64 0, .int .i64 0, .int .i64 0, .int .i64 0, .int .i64 0, .bool false]) (t := 79) ?_; intro bA hg w5 hbox hb; have aQ := aM (hbox); have cO := gF hg HB; have cP := gF hg HB; have aW := nM hg aA; have aX := nH hg aA; replace aA := rB aA hb; replace HB := rS HB hb; clear hb hbox hg))
 (try simp only [Act.put, sA, sZ, sS])
 go_cut [17] (fun cE wc => ∃ (kq : Nat) (bG : Bool), cE = .bool bG ∧ Aside0 (impl_Turn.j0 kq a1 bG aD aE aG aH aI aJ aK aN aT aV aC = some (r1, r2, r3, r4, r5, r6, r7, r8, r9, bL, bM)) ∧ Aside0 (kq ≤ k) ∧ Aside0 (wc.heap[bD]? = some (.cells #[aD, aE, aG, aH, aI, aJ, aK, aN, aT, aV, aC] 79 (0, 0))) ∧ Aside0 (wc.heap[bA]? = some (.cells #[.bool false, .bool false, .int .i64 0, .int .i64 0, .int .i64 0, .int .i64 0, .int .i64 0, .int .i64 0, .int .i64 0, .int .i64 0, .bool false] 79 (0, 0))) ∧ Aside0 (Below w.heap.size w wc))
 case first =>
  have H := bO.out
  clear bO
  by_cases c6 : aD = true
  case neg =>
   replace c6 := Bool.eq_false_iff.mpr c6
   subst c6
   replace H := hF H
   have H' := aM H
   clear H
   have cQ := aW.out
   have cR := aX.out
   have cS := cA11 aA.out
   go_wp2
   go_meet
   case rel => exact ⟨_, (true), xE, H', ⟨by first | omega | exact Nat.le_refl _⟩, ⟨bk aA.out⟩, ⟨bk aQ.out⟩, ⟨bl HB.out⟩⟩
  subst c6
  replace H := hP H rfl
  obtain ⟨bK, cC, H⟩ := hB H
  have A7 := aM cC
  clear cC
  by_cases c8 : bK = true
  case neg =>
   replace c8 := Bool.eq_false_iff.mpr c8
   subst c8
   replace H := hF H
   have H' := aM H
   clear H
   have cT := aW.out
   have cU := aX.out
   have cV := cA11 aA.out
   go_wp2_with (first | (go_at_call 86; (with_reducible refine (impl_inRange.calls a1 1 3 false _ A7.out).mono ?_); rintro e w' ⟨rfl, ⟨nd, rfl⟩⟩))
   go_meet
   case rel => exact ⟨_, (true), xE, H', ⟨by first | omega | exact Nat.le_refl _⟩, ⟨bk aA.out⟩, ⟨bk aQ.out⟩, ⟨bl HB.out⟩⟩
  subst c8
  replace H := hP H rfl
  obtain ⟨bJ, cD, H⟩ := hB H
  have A9 := aM cD
  clear cD
  have H' := aM H
  clear H
  have cW := aW.out
  have cX := aX.out
  have cY := cA11 aA.out
  go_wp2_with (first | (go_at_call 86; (with_reducible refine (impl_inRange.calls a1 1 3 true _ A7.out).mono ?_); rintro e w' ⟨rfl, ⟨nd, rfl⟩⟩) | (go_at_call 122; (with_reducible refine (impl_PortOk.calls k true aE aG aH aI aJ aK aN aT aV aC bJ _ A9.out).mono ?_); rintro e dV ⟨rfl, hb⟩; replace aA := rB aA hb; replace aQ := rB aQ hb; replace HB := rS HB hb; (try clear hb)))
  go_meet
  case rel => exact ⟨_, (!bJ), xE, H', ⟨by first | omega | exact Nat.le_refl _⟩, ⟨bk aA.out⟩, ⟨bk aQ.out⟩, ⟨bl HB.out⟩⟩
 case rest =>
  clear bO
  repeat first|clear c1|clear p2|clear c6|clear c8|clear dW|clear dX|clear dY|clear dZ
  obtain ⟨kq, bG, rfl, HA, HJ2, aA, aQ, HB⟩ := hcut
  cases kq with
  | zero => exact absurd HA.out (by simp [impl_Turn.j0])
  | succ eA =>
   have H := HA.out
   clear HA
   simp only [impl_Turn.j0] at H
   by_cases bN : bG = true
   case pos =>
    subst bN
    replace H := hP H rfl
    simp only [Option.some.injEq, Prod.mk.injEq] at H
    obtain ⟨rfl, rfl, rfl, rfl, rfl, rfl, rfl, rfl, rfl, rfl, rfl⟩ := H
    have dA := aW.out
    have dB := aX.out
    have dC := cA11 aA.out
    have dD := cA11 aQ.out
    go_wp2
    refine bodyPost_ret (results_cell_row rfl _ _ bA 79 #[aD, aE, aG, aH, aI, aJ, aK, aN, aT, aV, aC] (0, 0) _ rfl (bm aQ.out) Try.underlying79 rfl (by kernel_rfl)) rfl ?_
    exact ⟨xW, bl HB.out⟩
   replace bN := Bool.eq_false_iff.mpr bN
   subst bN
   replace H := hF H
   by_cases bH : a1 = 3
   case pos =>
    rw [if_pos bH] at H
    have bX : (a1 == 3) = true := beq_iff_eq.mpr bH
    have bY : (a1 != 3) = false := bne_eq_false_iff_eq.mpr bH
    clear bH
    obtain ⟨bP, bQ, H⟩ := hB H
    have cG := aM bQ
    clear bQ
    simp only [Option.some.injEq, Prod.mk.injEq] at H
    obtain ⟨rfl, rfl, rfl, rfl, rfl, rfl, rfl, rfl, rfl, rfl, rfl⟩ := H
    have dE := aW.out
    have dF := aX.out
    have dG := cA11 aA.out
    go_wp2_with (first | ((with_reducible refine gC (f := 180) rfl ?_); refine gL (some 31) Try.func180 #[.agg #[aD, aE, aG, aH, aI, aJ, aK, aN, a1, .int .i64 0, aC]] ?_; (with_reducible refine (impl_Port_isOpenBy.calls aD aE aG aH aI aJ aK aN a1 0 aC bP _ cG.out).mono ?_); rintro e eB ⟨rfl, hb⟩; refine ⟨_, rfl, ?_⟩; replace aA := aM (bB (g := bD) (o := .cells #[aD, aE, aG, aH, aI, aJ, aK, aN, a1, .int .i64 0, aC] 79 (0, 0)) (by (with_reducible repeat (first | refine blk_drewN ?_ _ | refine blk_drew ?_ | refine blk_alloc ?_ _)); refine blk_put (cs := #[aD, aE, aG, aH, aI, aJ, aK, aN, aT, .int .i64 0, aC]) ?_ 8 _ rfl; (with_reducible repeat (first | refine blk_drewN ?_ _ | refine blk_drew ?_ | refine blk_alloc ?_ _)); refine blk_put (cs := #[aD, aE, aG, aH, aI, aJ, aK, aN, aT, aV, aC]) ?_ 9 _ rfl; (with_reducible repeat (first | refine blk_drewN ?_ _ | refine blk_drew ?_ | refine blk_alloc ?_ _)); exact aA.out) hb); replace aQ := aM (bB (fm aQ.out) hb); replace HB := rS HB hb; (try clear hb); have dH := cA11 aA.out; have dI := cA11 aQ.out))
    refine bodyPost_ret (results_cell_row rfl _ _ bA 79 #[aD, aE, aG, aH, aI, aJ, aK, aN, a1, .int .i64 0, bP] (0, 0) _ rfl (bm aQ.out) Try.underlying79 rfl (by kernel_rfl)) rfl ?_
    exact ⟨xW, bl HB.out⟩
   rw [if_neg bH] at H
   have bX : (a1 == 3) = false := beq_eq_false_iff_ne.mpr bH
   have bY : (a1 != 3) = true := bne_iff_ne.mpr bH
   by_cases bI : aT = 3
   case neg =>
    rw [if_neg bI] at H
    have bZ : (aT == 3) = false := beq_eq_false_iff_ne.mpr bI
    have cA : (aT != 3) = true := bne_iff_ne.mpr bI
    obtain ⟨bT, bU, H⟩ := hB H
    have cH := aM bU
    clear bU
    simp only [Option.some.injEq, Prod.mk.injEq] at H
    obtain ⟨rfl, rfl, rfl, rfl, rfl, rfl, rfl, rfl, rfl, rfl, rfl⟩ := H
    have dJ := aW.out
    have dK := aX.out
    have dL := cA11 aA.out
    go_wp2_with (first | ((with_reducible refine gC (f := 180) rfl ?_); refine gL (some 31) Try.func180 #[.agg #[aD, aE, aG, aH, aI, aJ, aK, aN, a1, aV, aC]] ?_; (with_reducible refine (impl_Port_isOpenBy.calls aD aE aG aH aI aJ aK aN a1 aV aC bT _ cH.out).mono ?_); rintro e eC ⟨rfl, hb⟩; refine ⟨_, rfl, ?_⟩; replace aA := aM (bB (g := bD) (o := .cells #[aD, aE, aG, aH, aI, aJ, aK, aN, a1, aV, aC] 79 (0, 0)) (by (with_reducible repeat (first | refine blk_drewN ?_ _ | refine blk_drew ?_ | refine blk_alloc ?_ _)); refine blk_put (cs := #[aD, aE, aG, aH, aI, aJ, aK, aN, aT, aV, aC]) ?_ 8 _ rfl; (with_reducible repeat (first | refine blk_drewN ?_ _ | refine blk_drew ?_ | refine blk_alloc ?_ _)); exact aA.out) hb); replace aQ := aM (bB (fm aQ.out) hb); replace HB := rS HB hb; (try clear hb); have dM := cA11 aA.out; have dN := cA11 aQ.out))
    refine bodyPost_ret (results_cell_row rfl _ _ bA 79 #[aD, aE, aG, aH, aI, aJ, aK, aN, a1, aV, bT] (0, 0) _ rfl (bm aQ.out) Try.underlying79 rfl (by kernel_rfl)) rfl ?_
    exact ⟨xW, bl HB.out⟩
   rw [if_pos bI] at H
   have bZ : (aT == 3) = true := beq_iff_eq.mpr bI
   have cA : (aT != 3) = false := bne_eq_false_iff_eq.mpr bI
   clear bI
   obtain ⟨bV, bW, H⟩ := hB H
   have cK := aM bW
   clear bW
   simp only [Option.some.injEq, Prod.mk.injEq] at H
   obtain ⟨rfl, rfl, rfl, rfl, rfl, rfl, rfl, rfl, rfl, rfl, rfl⟩ := H
   have dO := aW.out
   have dP := aX.out
   have dQ := cA11 aA.out
   go_wp2_with (first | ((with_reducible refine gC (f := 180) rfl ?_); refine gL (some 31) Try.func180 #[.agg #[aD, aE, aG, aH, aI, aJ, aK, aN, a1, .int .i64 4, aC]] ?_; (with_reducible refine (impl_Port_isOpenBy.calls aD aE aG aH aI aJ aK aN a1 4 aC bV _ cK.out).mono ?_); rintro e eD ⟨rfl, hb⟩; refine ⟨_, rfl, ?_⟩; replace aA := aM (bB (g := bD) (o := .cells #[aD, aE, aG, aH, aI, aJ, aK, aN, a1, .int .i64 4, aC] 79 (0, 0)) (by (with_reducible repeat (first | refine blk_drewN ?_ _ | refine blk_drew ?_ | refine blk_alloc ?_ _)); refine blk_put (cs := #[aD, aE, aG, aH, aI, aJ, aK, aN, aT, .int .i64 4, aC]) ?_ 8 _ rfl; (with_reducible repeat (first | refine blk_drewN ?_ _ | refine blk_drew ?_ | refine blk_alloc ?_ _)); refine blk_put (cs := #[aD, aE, aG, aH, aI, aJ, aK, aN, aT, aV, aC]) ?_ 9 _ rfl; (with_reducible repeat (first | refine blk_drewN ?_ _ | refine blk_drew ?_ | refine blk_alloc ?_ _)); exact aA.out) hb); replace aQ := aM (bB (fm aQ.out) hb); replace HB := rS HB hb; (try clear hb); have dR := cA11 aA.out; have dS := cA11 aQ.out))
   refine bodyPost_ret (results_cell_row rfl _ _ bA 79 #[aD, aE, aG, aH, aI, aJ, aK, aN, a1, .int .i64 4, bV] (0, 0) _ rfl (bm aQ.out) Try.underlying79 rfl (by kernel_rfl)) rfl ?_
   exact ⟨xW, bl HB.out⟩

end Go.Proofs.Ythmijfekdeagpaa.PFnFades

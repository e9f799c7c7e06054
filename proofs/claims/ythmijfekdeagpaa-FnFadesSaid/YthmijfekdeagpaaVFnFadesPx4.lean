/- A part of the proof of laws.FnFades. No condition beyond what its theorems say. -/
import Derived.Test.YthmijfekdeagpaaVFnFadesPx1
import Derived.Test.YthmijfekdeagpaaVFnFadesPx3
namespace Go.Proofs.Ythmijfekdeagpaa.PFnFades
open Go.RowKit Go.Proofs.YthmijfekdeagpaaW.PrintWords Go.Proofs.YthmijfekdeagpaaW.PrintLast Go.Proofs.YthmijfekdeagpaaW.PrintMore
set_option linter.unusedVariables false
set_option linter.unusedSimpArgs false

attribute [local go_sem high] eqA73
mutual
def impl_PortOk.j0 : Nat → Bool → Bool → Bool → Int → Int → Int → Int → Int → Int → Int → Int → Bool → Option (Bool)
 | 0, _, _, _, _, _, _, _, _, _, _, _, _ => none
 | k + 1, aT, aJ, aA, aC, aD, aE, aG, aH, aI, aK, aN, aQ => if aT = true then (some false) else (if aA = true then (impl_PortOk.j1 k false aJ aA aC aD aE aG aH aI aK aN aQ) else (if (!(aC == 0) || (!(aD == 0) || (!(aE == 0) || (!(aG == 0))))) = true then (impl_PortOk.j1 k true aJ aA aC aD aE aG aH aI aK aN aQ) else (if aH = 0 then (impl_PortOk.j1 k (aI != 0) aJ aA aC aD aE aG aH aI aK aN aQ) else (impl_PortOk.j1 k true aJ aA aC aD aE aG aH aI aK aN aQ))))
def impl_PortOk.j1 : Nat → Bool → Bool → Bool → Int → Int → Int → Int → Int → Int → Int → Int → Bool → Option (Bool)
 | 0, _, _, _, _, _, _, _, _, _, _, _, _ => none
 | k + 1, aX, aC, aG, aH, aI, aJ, aK, aN, aQ, aA, aD, aE => if aX = true then (some false) else ((impl_inRange.f aA 0 3).bind fun aT => (if aT = true then (if ((aA == 0) == aC) = true then (some false) else ((impl_inRange.f aD 0 4).bind fun aV => (if aV = true then ((impl_Port_isOpenBy.f aC aG aH aI aJ aK aN aQ aA aD aE).bind fun aW => (some (aE == aW))) else (some false)))) else (some false)))
end
def impl_PortOk.f (k : Nat) (aC aD : Bool) (aE aG aH aI aJ aK aN aQ : Int) (aA : Bool) : Option (Bool) := if aD = true then (if aC = true then ((impl_VecOk.f aE aG aH aI).bind fun aT => (if aT = true then ((impl_isHops.f aJ).bind fun aV => (if aV = true then ((impl_inRange.f aK 1 3).bind fun aW => (impl_PortOk.j0 k (!aW) aC aD aE aG aH aI aJ aK aN aQ aA)) else (impl_PortOk.j0 k true aC aD aE aG aH aI aJ aK aN aQ aA))) else (impl_PortOk.j0 k true aC aD aE aG aH aI aJ aK aN aQ aA))) else (impl_PortOk.j0 k true aC aD aE aG aH aI aJ aK aN aQ aA)) else (impl_PortOk.j0 k false aC aD aE aG aH aI aJ aK aN aQ aA)
theorem impl_PortOk.mono_l : ∀ k, (∀ y0 y1 y2 y3 y4 y5 y6 y7 y8 y9 aA aC, LeO (impl_PortOk.j0 k y0 y1 y2 y3 y4 y5 y6 y7 y8 y9 aA aC) (impl_PortOk.j0 (k + 1) y0 y1 y2 y3 y4 y5 y6 y7 y8 y9 aA aC)) ∧ (∀ y0 y1 y2 y3 y4 y5 y6 y7 y8 y9 aA aC, LeO (impl_PortOk.j1 k y0 y1 y2 y3 y4 y5 y6 y7 y8 y9 aA aC) (impl_PortOk.j1 (k + 1) y0 y1 y2 y3 y4 y5 y6 y7 y8 y9 aA aC))
 | 0 => by refine ⟨?_, ?_⟩ <;> intros <;> intro r h <;> simp [impl_PortOk.j0, impl_PortOk.j1] at h
 | k + 1 => by
  obtain ⟨ih0, ih1⟩ := impl_PortOk.mono_l k
  refine ⟨?_, ?_⟩
  ·intro y0 y1 y2 y3 y4 y5 y6 y7 y8 y9 aA aC
   unfold impl_PortOk.j0
   repeat' first|(with_reducible first|apply ih0|apply ih1|exact lR _|exact lN _|refine lI ?_ ?_|refine lB ?_ fun _ => ?_)|exact lN _|refine lI ?_ ?_|refine lB ?_ fun _ => ?_
  ·intro y0 y1 y2 y3 y4 y5 y6 y7 y8 y9 aA aC
   unfold impl_PortOk.j1
   repeat' first|(with_reducible first|apply ih0|apply ih1|exact lR _|exact lN _|refine lI ?_ ?_|refine lB ?_ fun _ => ?_)|exact lN _|refine lI ?_ ?_|refine lB ?_ fun _ => ?_
theorem impl_PortOk.mono : ∀ a0 a1 a2 a3 a4 a5 a6 a7 a8 a9 aA k, LeO (impl_PortOk.f k a0 a1 a2 a3 a4 a5 a6 a7 a8 a9 aA) (impl_PortOk.f (k + 1) a0 a1 a2 a3 a4 a5 a6 a7 a8 a9 aA) := by
 intro a0 a1 a2 a3 a4 a5 a6 a7 a8 a9 aA k
 obtain ⟨ih0, ih1⟩ := impl_PortOk.mono_l k
 unfold impl_PortOk.f
 repeat' first|(with_reducible first|apply ih0|apply ih1|exact lR _|exact lN _|refine lI ?_ ?_|refine lB ?_ fun _ => ?_)|exact lN _|refine lI ?_ ?_|refine lB ?_ fun _ => ?_
set_option maxHeartbeats 60000000 in
set_option maxRecDepth 100000 in
theorem impl_PortOk.calls (k : Nat) (aD aN : Bool) (aG aH aI aJ aE aQ aC aT : Int) (aK r : Bool) (w : World) (h : impl_PortOk.f k aD aN aG aH aI aJ aE aQ aC aT aK = some r) :
  Calls Try.prog 122 #[.agg #[aD, aN, aG, aH, aI, aJ, aE, aQ, aC, aT, aK]] w fun e w' => e = .returned (.bool r) ∧ Below w.heap.size w w' := by
 have dP := Try.underlying79
 have dQ := Try.underlying73
 have HB := aM (Below.refl w.heap.size w)
 have H : (if aN = true then (if aD = true then ((impl_VecOk.f aG aH aI aJ).bind fun bL => (if bL = true then ((impl_isHops.f aE).bind fun bM => (if bM = true then ((impl_inRange.f aQ 1 3).bind fun bH => (impl_PortOk.j0 k (!bH) aD aN aG aH aI aJ aE aQ aC aT aK)) else (impl_PortOk.j0 k true aD aN aG aH aI aJ aE aQ aC aT aK))) else (impl_PortOk.j0 k true aD aN aG aH aI aJ aE aQ aC aT aK))) else (impl_PortOk.j0 k true aD aN aG aH aI aJ aE aQ aC aT aK)) else (impl_PortOk.j0 k false aD aN aG aH aI aJ aE aQ aC aT aK)) = some r := h
 clear h
 have bW := aM H
 clear H
 go_enter Try.func122, Try.ntmps122
 go_upto_region 1 with (first | ((with_reducible refine gD (N := 1) rfl ?_); refine bE (N := 1) (cs := #[aD, aN, aG, aH, aI, aJ, aE, aQ, aC, aT, aK]) (t := 79) ?_; intro bI hg w3 hbox hb; have aA := aM (hbox); have cW := gF hg HB; have cX := gF hg HB; replace HB := rS HB hb; clear hb hbox hg))
 (try simp only [Act.put, sA, sZ, sS])
 go_cut [27] (fun cP wc => ∃ (kq : Nat) (bD : Bool), cP = .bool bD ∧ Aside0 (impl_PortOk.j0 kq bD aD aN aG aH aI aJ aE aQ aC aT aK = some r) ∧ Aside0 (kq ≤ k) ∧ Aside0 (wc.heap[bI]? = some (.cells #[aD, aN, aG, aH, aI, aJ, aE, aQ, aC, aT, aK] 79 (0, 0))) ∧ Aside0 (Below w.heap.size w wc))
 case first =>
  have H := bW.out
  clear bW
  by_cases c4 : aN = true
  case neg =>
   replace c4 := Bool.eq_false_iff.mpr c4
   subst c4
   replace H := hF H
   have H' := aM H
   clear H
   have cY := cA11 aA.out
   go_wp2
   go_meet
   case rel => exact ⟨_, (false), xE, H', ⟨by first | omega | exact Nat.le_refl _⟩, ⟨bk aA.out⟩, ⟨bl HB.out⟩⟩
  subst c4
  replace H := hP H rfl
  by_cases c5 : aD = true
  case neg =>
   replace c5 := Bool.eq_false_iff.mpr c5
   subst c5
   replace H := hF H
   have H' := aM H
   clear H
   have dA := cA11 aA.out
   go_wp2
   go_meet
   case rel => exact ⟨_, (true), xE, H', ⟨by first | omega | exact Nat.le_refl _⟩, ⟨bk aA.out⟩, ⟨bl HB.out⟩⟩
  subst c5
  replace H := hP H rfl
  obtain ⟨bL, cG, H⟩ := hB H
  have A6 := aM cG
  clear cG
  by_cases c7 : bL = true
  case neg =>
   replace c7 := Bool.eq_false_iff.mpr c7
   subst c7
   replace H := hF H
   have H' := aM H
   clear H
   have dB := cA11 aA.out
   go_wp2_with (first | (go_at_call 178; (with_reducible refine (impl_VecOk.calls aG aH aI aJ false _ A6.out).mono ?_); rintro e dS ⟨rfl, hb⟩; replace aA := rB aA hb; replace HB := rS HB hb; (try clear hb)))
   go_meet
   case rel => exact ⟨_, (true), xE, H', ⟨by first | omega | exact Nat.le_refl _⟩, ⟨bk aA.out⟩, ⟨bl HB.out⟩⟩
  subst c7
  replace H := hP H rfl
  obtain ⟨bM, cH, H⟩ := hB H
  have A8 := aM cH
  clear cH
  by_cases c9 : bM = true
  case neg =>
   replace c9 := Bool.eq_false_iff.mpr c9
   subst c9
   replace H := hF H
   have H' := aM H
   clear H
   have dC := cA11 aA.out
   go_wp2_with (first | (go_at_call 178; (with_reducible refine (impl_VecOk.calls aG aH aI aJ true _ A6.out).mono ?_); rintro e dU ⟨rfl, hb⟩; replace aA := rB aA hb; replace HB := rS HB hb; (try clear hb); have dD := cA11 aA.out) | (go_at_call 179; (with_reducible refine (impl_isHops.calls aE false _ A8.out).mono ?_); rintro e w' ⟨rfl, ⟨nd, rfl⟩⟩))
   go_meet
   case rel => exact ⟨_, (true), xE, H', ⟨by first | omega | exact Nat.le_refl _⟩, ⟨bk aA.out⟩, ⟨bl HB.out⟩⟩
  subst c9
  replace H := hP H rfl
  obtain ⟨bH, bX, H⟩ := hB H
  have cQ := aM bX
  clear bX
  have H' := aM H
  clear H
  have dE := cA11 aA.out
  go_wp2_with (first | (go_at_call 178; (with_reducible refine (impl_VecOk.calls aG aH aI aJ true _ A6.out).mono ?_); rintro e dV ⟨rfl, hb⟩; replace aA := rB aA hb; replace HB := rS HB hb; (try clear hb); have dF := cA11 aA.out) | (go_at_call 179; (with_reducible refine (impl_isHops.calls aE true _ A8.out).mono ?_); rintro e w' ⟨rfl, ⟨nd, rfl⟩⟩) | (go_at_call 86; (with_reducible refine (impl_inRange.calls aQ 1 3 bH _ cQ.out).mono ?_); rintro e w' ⟨rfl, ⟨nd, rfl⟩⟩))
  go_meet
  case rel => exact ⟨_, (!bH), xE, H', ⟨by first | omega | exact Nat.le_refl _⟩, ⟨bk aA.out⟩, ⟨bl HB.out⟩⟩
 case rest =>
  clear bW
  repeat first|clear c1|clear p2|clear c4|clear c5|clear c7|clear c9|clear cR
  obtain ⟨kq, bD, rfl, HA, HJ1, aA, HB⟩ := hcut
  cases kq with
  | zero => exact absurd HA.out (by simp [impl_PortOk.j0])
  | succ cS =>
   have H := HA.out
   clear HA
   simp only [impl_PortOk.j0] at H
   by_cases bJ : bD = true
   case pos =>
    subst bJ
    replace H := hP H rfl
    obtain rfl := Option.some.inj H
    go_wp2
    go_ret
    exact ⟨xW, bl HB.out⟩
   replace bJ := Bool.eq_false_iff.mpr bJ
   subst bJ
   replace H := hF H
   have bN := aM H
   clear H
   go_upto_region 3 with (fail)
   go_cut [46] (fun cT wc => ∃ (kq : Nat) (aX : Bool), cT = .bool aX ∧ Aside0 (impl_PortOk.j1 kq aX aD aN aG aH aI aJ aE aQ aC aT aK = some r) ∧ Aside0 (kq ≤ cS) ∧ Aside0 (wc.heap[bI]? = some (.cells #[aD, aN, aG, aH, aI, aJ, aE, aQ, aC, aT, aK] 79 (0, 0))) ∧ Aside0 (Below w.heap.size w wc))
   case first =>
    have H := bN.out
    clear bN
    by_cases bK : aN = true
    case pos =>
     subst bK
     replace H := hP H rfl
     have H' := aM H
     clear H
     have dG := cA11 aA.out
     go_wp2
     go_meet
     case rel => exact ⟨_, (false), xE, H', ⟨by have := HJ1.out; first | omega | exact Nat.le_refl _⟩, ⟨bk aA.out⟩, ⟨bl HB.out⟩⟩
    replace bK := Bool.eq_false_iff.mpr bK
    subst bK
    replace H := hF H
    by_cases bG : (!(aG == 0) || (!(aH == 0) || (!(aI == 0) || (!(aJ == 0))))) = true
    case pos =>
     rw [if_pos bG] at H
     have aW : (!(aG == 0) || (!(aH == 0) || (!(aI == 0) || (!(aJ == 0))))) = true := bG
     clear bG
     (first | rw [aW] | (simp only [i64_w, i32_w]; rw [aW]) | skip)
     have H' := aM H
     clear H
     have dH := cA11 aA.out
     go_wp2
     go_meet
     case rel => exact ⟨_, (true), xE, H', ⟨by have := HJ1.out; first | omega | exact Nat.le_refl _⟩, ⟨bk aA.out⟩, ⟨bl HB.out⟩⟩
    rw [if_neg bG] at H
    have aW : (!(aG == 0) || (!(aH == 0) || (!(aI == 0) || (!(aJ == 0))))) = false := by simpa using bG
    clear bG
    (first | rw [aW] | (simp only [i64_w, i32_w]; rw [aW]) | skip)
    by_cases bA : aE = 0
    case neg =>
     rw [if_neg bA] at H
     have bO : (aE == 0) = false := beq_eq_false_iff_ne.mpr bA
     have bP : (aE != 0) = true := bne_iff_ne.mpr bA
     have H' := aM H
     clear H
     have dI := cA11 aA.out
     go_wp2
     go_meet
     case rel => exact ⟨_, (true), xE, H', ⟨by have := HJ1.out; first | omega | exact Nat.le_refl _⟩, ⟨bk aA.out⟩, ⟨bl HB.out⟩⟩
    rw [if_pos bA] at H
    have bO : (aE == 0) = true := beq_iff_eq.mpr bA
    have bP : (aE != 0) = false := bne_eq_false_iff_eq.mpr bA
    clear bA
    have H' := aM H
    clear H
    have dJ := cA11 aA.out
    go_wp2
    go_meet
    case rel => exact ⟨_, ((aQ != 0)), xE, H', ⟨by have := HJ1.out; first | omega | exact Nat.le_refl _⟩, ⟨bk aA.out⟩, ⟨bl HB.out⟩⟩
   case rest =>
    clear bN
    repeat first|clear c1|clear c2|clear p2|clear c4|clear c5|clear c7|clear c9|clear cR|clear bJ|clear bK|clear bG|clear aW|clear bA|clear bO|clear bP|clear p2
    obtain ⟨kq, aX, rfl, HA, HJ21, aA, HB⟩ := hcut
    cases kq with
    | zero => exact absurd HA.out (by simp [impl_PortOk.j1])
    | succ dR =>
     have H := HA.out
     clear HA
     simp only [impl_PortOk.j1] at H
     by_cases bQ : aX = true
     case pos =>
      subst bQ
      replace H := hP H rfl
      obtain rfl := Option.some.inj H
      go_wp2
      go_ret
      exact ⟨xW, bl HB.out⟩
     replace bQ := Bool.eq_false_iff.mpr bQ
     subst bQ
     replace H := hF H
     obtain ⟨cL, bY, H⟩ := hB H
     have bT := aM bY
     clear bY
     by_cases bU : cL = true
     case neg =>
      replace bU := Bool.eq_false_iff.mpr bU
      subst bU
      replace H := hF H
      obtain rfl := Option.some.inj H
      have dK := cA11 aA.out
      go_wp2_with (first | ((with_reducible refine gC (f := 86) rfl ?_); refine gL (some 49) Try.func86 #[aC, .int .i64 0, .int .i64 3] ?_; (with_reducible refine (impl_inRange.calls aC 0 3 false _ bT.out).mono ?_); rintro e w' ⟨rfl, ⟨nd, rfl⟩⟩; refine ⟨_, rfl, ?_⟩))
      go_ret
      exact ⟨xW, bl HB.out⟩
     subst bU
     replace H := hP H rfl
     by_cases aV : ((aC == 0) == aD) = true
     case pos =>
      rw [if_pos aV] at H
      have cC : ((aC == 0) == aD) = true := aV
      (try (have cD : decide ((aC == 0) = aD) = true := by simpa using aV))
      (try (have cE : ((aC == 0) == aD) = true := by simpa using aV))
      clear aV
      obtain rfl := Option.some.inj H
      have dL := cA11 aA.out
      go_wp2_with (first | ((with_reducible refine gC (f := 86) rfl ?_); refine gL (some 49) Try.func86 #[aC, .int .i64 0, .int .i64 3] ?_; (with_reducible refine (impl_inRange.calls aC 0 3 true _ bT.out).mono ?_); rintro e w' ⟨rfl, ⟨nd, rfl⟩⟩; refine ⟨_, rfl, ?_⟩))
      go_ret
      exact ⟨xW, bl HB.out⟩
     rw [if_neg aV] at H
     have cC : ((aC == 0) == aD) = false := by simpa using aV
     (try (have cD : decide ((aC == 0) = aD) = false := by simpa using aV))
     (try (have cE : ((aC == 0) == aD) = false := by simpa using aV))
     (try (have dM : ¬ ((aC == 0) = aD) := by simpa using aV))
     clear aV
     obtain ⟨cN, bZ, H⟩ := hB H
     have cK := aM bZ
     clear bZ
     by_cases bV : cN = true
     case neg =>
      replace bV := Bool.eq_false_iff.mpr bV
      subst bV
      replace H := hF H
      obtain rfl := Option.some.inj H
      have dN := cA11 aA.out
      go_wp2_with (first | ((with_reducible refine gC (f := 86) rfl ?_); refine gL (some 49) Try.func86 #[aC, .int .i64 0, .int .i64 3] ?_; (with_reducible refine (impl_inRange.calls aC 0 3 true _ bT.out).mono ?_); rintro e w' ⟨rfl, ⟨nd, rfl⟩⟩; refine ⟨_, rfl, ?_⟩) | (go_at_call 86; (with_reducible refine (impl_inRange.calls aT 0 4 false _ cK.out).mono ?_); rintro e w' ⟨rfl, ⟨nd, rfl⟩⟩))
      go_ret
      exact ⟨xW, bl HB.out⟩
     subst bV
     replace H := hP H rfl
     obtain ⟨cO, cA, H⟩ := hB H
     have cU := aM cA
     clear cA
     obtain rfl := Option.some.inj H
     have dO := cA11 aA.out
     try go_wp2_with (first | ((with_reducible refine gC (f := 86) rfl ?_); refine gL (some 49) Try.func86 #[aC, .int .i64 0, .int .i64 3] ?_; (with_reducible refine (impl_inRange.calls aC 0 3 true _ bT.out).mono ?_); rintro e w' ⟨rfl, ⟨nd, rfl⟩⟩; refine ⟨_, rfl, ?_⟩) | (go_at_call 86; (with_reducible refine (impl_inRange.calls aT 0 4 true _ cK.out).mono ?_); rintro e w' ⟨rfl, ⟨nd, rfl⟩⟩))
     (try (rw [drewN_self wc]; generalize hq_ : World.drewN wc _ = wc; replace aA := qB hq_ (bk aA.out); replace HB := qL hq_ (bl HB.out); clear hq_))
     replace aA := aM (blk_drew aA.out)
     replace HB := aM (below_drew1 HB.out)
     refine start_ (n := 6) (S := fun w' => cS11 w' bI (.bool aD) (.bool aN) (.int .i64 aG) (.int .i64 aH) (.int .i64 aI) (.int .i64 aJ) (.int .i64 aE) (.int .i64 aQ) (.int .i64 aC) (.int .i64 aT) (.bool aK)) (ds := []) (dn 6 0) (by kernel_rfl) rfl rfl ⟨cI aA.out 0, cI aA.out 1, cI aA.out 2, cI aA.out 3, cI aA.out 4, cI aA.out 5, cI aA.out 6, cI aA.out 7, cI aA.out 8, cI aA.out 9, cI aA.out 10⟩ (fun hHeld => ?_)
     generalize wc.drew = dW at aA HB hHeld ⊢
     refine pure_ (i := 0) (N := some 65) (v := ?_) (a' := ?_) (bv 6 1) rfl rfl (by kernel_rfl) (fun _ _ _ h => h) (Or.inl ⟨by rfl, ?_⟩) ?_ ?_
     rotate_left
     ·intro w'
      go_simp
      with_reducible rfl
     rotate_left
     ·simp only [Act.put, sA, sZ, sS, i64_w, i32_w]
      rfl
     refine take_ (i := 1) (N := some 66) (v := ?_) (a' := ?_) (bv 6 3) rfl rfl (by kernel_rfl) (fun _ _ _ h => h) (Or.inl ⟨by rfl, ?_⟩) hHeld ?_ ?_
     rotate_left
     ·rintro w' ⟨s0, s1, s2, s3, s4, s5, s6, s7, s8, s9, cV⟩
      go_simp
      with_reducible rfl
     rotate_left
     ·simp only [Act.put, sA, sZ, sS, i64_w, i32_w]
      rfl
     refine take_ (i := 2) (N := some 67) (v := ?_) (a' := ?_) (bv 6 7) rfl rfl (by kernel_rfl) (fun _ _ _ h => h) (Or.inl ⟨by rfl, ?_⟩) hHeld ?_ ?_
     rotate_left
     ·rintro w' ⟨s0, s1, s2, s3, s4, s5, s6, s7, s8, s9, cV⟩
      go_simp
      with_reducible rfl
     rotate_left
     ·simp only [Act.put, sA, sZ, sS, i64_w, i32_w]
      rfl
     refine one_ (i := 3) (N := some 68) (bv 6 15) rfl rfl (by kernel_rfl) (by decide) (fun K hK => ?_)
     refine goes_ Try.func180 (by kernel_rfl) rfl #[.agg #[aD, aN, aG, aH, aI, aJ, aE, aQ, aC, aT, aK]] (by rfl) rfl rfl xR ?_
     with_reducible refine (impl_Port_isOpenBy.calls aD aN aG aH aI aJ aE aQ aC aT aK cO _ cU.out).mono ?_
     rintro e dX ⟨rfl, hb⟩
     refine ⟨_, rfl, ?_⟩
     replace aA := rB aA hb
     replace HB := rS HB hb
     (try clear hb)
     (try clear hb2)
     (try clear hk)
     (try clear hi)
     refine hK.out _ _ ⟨cI aA.out 0, cI aA.out 1, cI aA.out 2, cI aA.out 3, cI aA.out 4, cI aA.out 5, cI aA.out 6, cI aA.out 7, cI aA.out 8, cI aA.out 9, cI aA.out 10⟩ (fun hHeld => ?_)
     clear hK K
     refine norm_ (a' := ?_) ?_ ?_
     rotate_left
     ·show Act.put _ (some 68) _ = _
      simp only [Act.put, sA, sZ, sS, i64_w, i32_w]
      rfl
     refine pure_ (i := 4) (N := some 69) (v := ?_) (a' := ?_) (bv 6 31) rfl rfl (by kernel_rfl) (fun _ _ _ h => h) (Or.inl ⟨by rfl, ?_⟩) ?_ ?_
     rotate_left
     ·intro w'
      go_simp
      with_reducible rfl
     rotate_left
     ·simp only [Act.put, sA, sZ, sS, i64_w, i32_w]
      rfl
     refine pure_ (i := 5) (N := some 2) (v := ?_) (a' := ?_) (bv 6 63) rfl rfl (by kernel_rfl) (fun _ _ _ h => h) (Or.inl ⟨by rfl, ?_⟩) ?_ ?_
     rotate_left
     ·intro w'
      go_simp
      with_reducible rfl
     rotate_left
     ·simp only [Act.put, sA, sZ, sS, i64_w, i32_w]
      rfl
     refine done_ (by kernel_rfl) ?_
     try go_wp2
     go_ret
     exact ⟨xW, bl HB.out⟩

end Go.Proofs.Ythmijfekdeagpaa.PFnFades

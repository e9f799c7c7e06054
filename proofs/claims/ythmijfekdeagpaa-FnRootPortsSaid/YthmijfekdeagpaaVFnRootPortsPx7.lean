/- Of the proof of laws.FnRootPorts: a part. No condition beyond what its theorems say. -/
import Derived.Test.YthmijfekdeagpaaVFnRootPortsPx6
namespace Go.Proofs.Ythmijfekdeagpaa.PFnRootPorts
open Go.RowKit Go.Proofs.YthmijfekdeagpaaW.PrintWords Go.Proofs.YthmijfekdeagpaaW.PrintLast Go.Proofs.YthmijfekdeagpaaW.PrintMore
attribute [local go_sem] max2_int min2_int max_two min_two max_three min_three max_four min_four   -- for this text's walks alone
set_option linter.unusedVariables false
set_option linter.unusedSimpArgs false

mutual
def spec_RootPort.l0 : Nat → Int → Int → Int → List (S79) → Option (Int × Bool)
 | 0, _, _, _, _ => none
 | k + 1, x4, x5, aC, aA => if x5 < (aA.length : Int) then ((spec_BridgeOk.f k aC aA).bind fun aD => (spec_RootPort.j1 k x4 x5 aD aC aA)) else (spec_RootPort.j1 k x4 x5 false aC aA)
def spec_RootPort.j1 : Nat → Int → Int → Bool → Int → List (S79) → Option (Int × Bool)
 | 0, _, _, _, _, _ => none
 | k + 1, x4, x5, aD, aC, aA => if aD = true then (if 0 ≤ x5 then (if x5 < (aA.length : Int) then (if ((rd_T79 aA x5).f1 = true) then (if ((rd_T79 aA x5).f2.f2) = aC then (spec_RootPort.j2 k x4 x5 true aC aA ((rd_T79 aA x5).f0) ((rd_T79 aA x5).f1) ((rd_T79 aA x5).f2.f0) ((rd_T79 aA x5).f2.f1) ((rd_T79 aA x5).f2.f2) ((rd_T79 aA x5).f2.f3) ((rd_T79 aA x5).f3) ((rd_T79 aA x5).f4) ((rd_T79 aA x5).f5) ((rd_T79 aA x5).f6) ((rd_T79 aA x5).f7)) else (if ((rd_T79 aA x5).f2.f0) ≥ aC then (spec_RootPort.j2 k x4 x5 true aC aA ((rd_T79 aA x5).f0) ((rd_T79 aA x5).f1) ((rd_T79 aA x5).f2.f0) ((rd_T79 aA x5).f2.f1) ((rd_T79 aA x5).f2.f2) ((rd_T79 aA x5).f2.f3) ((rd_T79 aA x5).f3) ((rd_T79 aA x5).f4) ((rd_T79 aA x5).f5) ((rd_T79 aA x5).f6) ((rd_T79 aA x5).f7)) else (if ((rd_T79 aA x5).f2.f1) ≥ 20 then (spec_RootPort.j2 k x4 x5 true aC aA ((rd_T79 aA x5).f0) ((rd_T79 aA x5).f1) ((rd_T79 aA x5).f2.f0) ((rd_T79 aA x5).f2.f1) ((rd_T79 aA x5).f2.f2) ((rd_T79 aA x5).f2.f3) ((rd_T79 aA x5).f3) ((rd_T79 aA x5).f4) ((rd_T79 aA x5).f5) ((rd_T79 aA x5).f6) ((rd_T79 aA x5).f7)) else (spec_RootPort.j2 k x4 x5 (decide (((rd_T79 aA x5).f3) ≥ 8)) aC aA ((rd_T79 aA x5).f0) ((rd_T79 aA x5).f1) ((rd_T79 aA x5).f2.f0) ((rd_T79 aA x5).f2.f1) ((rd_T79 aA x5).f2.f2) ((rd_T79 aA x5).f2.f3) ((rd_T79 aA x5).f3) ((rd_T79 aA x5).f4) ((rd_T79 aA x5).f5) ((rd_T79 aA x5).f6) ((rd_T79 aA x5).f7))))) else (spec_RootPort.j2 k x4 x5 true aC aA ((rd_T79 aA x5).f0) ((rd_T79 aA x5).f1) ((rd_T79 aA x5).f2.f0) ((rd_T79 aA x5).f2.f1) ((rd_T79 aA x5).f2.f2) ((rd_T79 aA x5).f2.f3) ((rd_T79 aA x5).f3) ((rd_T79 aA x5).f4) ((rd_T79 aA x5).f5) ((rd_T79 aA x5).f6) ((rd_T79 aA x5).f7))) else (none)) else (none)) else (some (x4, decide (x4 ≥ 0)))
def spec_RootPort.j2 : Nat → Int → Int → Bool → Int → List (S79) → Bool → Bool → Int → Int → Int → Int → Int → Int → Int → Int → Bool → Option (Int × Bool)
 | 0, _, _, _, _, _, _, _, _, _, _, _, _, _, _, _, _ => none
 | k + 1, x4, x5, aX, aC, aA, aJ, aK, aD, aE, aG, aH, aN, aQ, aT, aV, aW => if aX = true then (spec_RootPort.l0 k x4 (wrap64 (x5 + 1)) aC aA) else (if x4 < 0 then (spec_RootPort.l0 k x5 (wrap64 (x5 + 1)) aC aA) else (if 0 ≤ x4 then (if x4 < (aA.length : Int) then ((spec_Better.f aD aE aG aH ((rd_T79 aA x4).f2.f0) ((rd_T79 aA x4).f2.f1) ((rd_T79 aA x4).f2.f2) ((rd_T79 aA x4).f2.f3)).bind fun aI => (if aI = true then (spec_RootPort.l0 k x5 (wrap64 (x5 + 1)) aC aA) else (spec_RootPort.l0 k x4 (wrap64 (x5 + 1)) aC aA))) else (none)) else (none)))
end
def spec_RootPort.f (k : Nat) (aA : Int) (aC : List (S79)) : Option (Int × Bool) := spec_RootPort.l0 k (-1) 0 aA aC
theorem spec_RootPort.mono_l : ∀ k, (∀ y0 y1 y2 y3, LeO (spec_RootPort.l0 k y0 y1 y2 y3) (spec_RootPort.l0 (k + 1) y0 y1 y2 y3)) ∧ (∀ y0 y1 y2 y3 y4, LeO (spec_RootPort.j1 k y0 y1 y2 y3 y4) (spec_RootPort.j1 (k + 1) y0 y1 y2 y3 y4)) ∧ (∀ y0 y1 y2 y3 y4 y5 y6 y7 y8 y9 aA aC aD aE aG aH, LeO (spec_RootPort.j2 k y0 y1 y2 y3 y4 y5 y6 y7 y8 y9 aA aC aD aE aG aH) (spec_RootPort.j2 (k + 1) y0 y1 y2 y3 y4 y5 y6 y7 y8 y9 aA aC aD aE aG aH))
 | 0 => ⟨fun _ _ _ _ r h => by simp [spec_RootPort.l0] at h, fun _ _ _ _ _ r h => by simp [spec_RootPort.j1] at h, fun _ _ _ _ _ _ _ _ _ _ _ _ _ _ _ _ r h => by simp [spec_RootPort.j2] at h⟩
 | k + 1 => by
  obtain ⟨ih0, ih1, ih2⟩ := spec_RootPort.mono_l k
  refine ⟨?_, ?_, ?_⟩
  ·intro y0 y1 y2 y3
   unfold spec_RootPort.l0
   repeat' first|(with_reducible first|apply ih0|apply ih1|apply ih2|apply spec_BridgeOk.mono|exact LeO.refl _|exact LeO.none _|refine LeO.ite ?_ ?_|refine LeO.bind ?_ (fun _ => ?_))|exact LeO.none _|refine LeO.ite ?_ ?_|refine LeO.bind ?_ (fun _ => ?_)
  ·intro y0 y1 y2 y3 y4
   unfold spec_RootPort.j1
   repeat' first|(with_reducible first|apply ih0|apply ih1|apply ih2|apply spec_BridgeOk.mono|exact LeO.refl _|exact LeO.none _|refine LeO.ite ?_ ?_|refine LeO.bind ?_ (fun _ => ?_))|exact LeO.none _|refine LeO.ite ?_ ?_|refine LeO.bind ?_ (fun _ => ?_)
  ·intro y0 y1 y2 y3 y4 y5 y6 y7 y8 y9 aA aC aD aE aG aH
   unfold spec_RootPort.j2
   repeat' first|(with_reducible first|apply ih0|apply ih1|apply ih2|apply spec_BridgeOk.mono|exact LeO.refl _|exact LeO.none _|refine LeO.ite ?_ ?_|refine LeO.bind ?_ (fun _ => ?_))|exact LeO.none _|refine LeO.ite ?_ ?_|refine LeO.bind ?_ (fun _ => ?_)
theorem spec_RootPort.mono : ∀ a0 a1 k, LeO (spec_RootPort.f k a0 a1) (spec_RootPort.f (k + 1) a0 a1) := by
 intro a0 a1 k
 obtain ⟨ih0, ih1, ih2⟩ := spec_RootPort.mono_l k
 unfold spec_RootPort.f
 repeat' first|(with_reducible first|apply ih0|apply ih1|apply ih2|apply spec_BridgeOk.mono|exact LeO.refl _|exact LeO.none _|refine LeO.ite ?_ ?_|refine LeO.bind ?_ (fun _ => ?_))|exact LeO.none _|refine LeO.ite ?_ ?_|refine LeO.bind ?_ (fun _ => ?_)
def spec_RootPort.T7 : Bool × List (List Nat × List Nat) := (true, [([], []), ([0], [0]), ([1], [1]), ([2], [2]), ([3, 2], [2, 3]), ([2], [2]), ([5, 2], [2, 5]), ([2], [2]), ([6, 7, 2], [2, 6, 7]), ([8, 2], [2, 8]), ([9, 2], [2, 9]), ([4, 10, 2, 2], [2, 4, 10]), ([2, 11], [2, 11])])
def spec_RootPort.B7 : List Nat := [0, 1, 3, 7, 15, 7, 39, 7, 231, 487, 999, 2047, 4095]
theorem spec_RootPort.tab7 : rtab .any (opsOf Try.f36 7) = spec_RootPort.T7 := by kernel_rfl
theorem spec_RootPort.bits7 : waitsOk spec_RootPort.T7.2 spec_RootPort.B7 = true := by kernel_rfl
set_option maxHeartbeats 60000000 in
set_option maxRecDepth 100000 in
theorem spec_RootPort.calls (k : Nat) (aI : Int) (cW : Option Addr) (bW : Nat) (aA : List (S79)) (r1 : Int) (r2 : Bool) (w : World) (hr0_1 : Kd.C k79 w cW aA.length aA) (hc0_1 : aA.length ≤ bW) (h : spec_RootPort.f k aI aA = some (r1, r2)) :
  Calls Try.prog 36 #[.agg #[aI, .slice cW aA.length bW]] w fun e w' => e = .returned (.tuple #[r1, r2]) ∧ Below w.heap.size w w' := by
 have lK := Try.underlying28
 have lL := Try.underlying79
 have lM := Try.underlying73
 have cU := aM hr0_1
 have eC := aM hc0_1
 clear hr0_1 hc0_1
 have HB := aM (Below.refl w.heap.size w)
 have H : (spec_RootPort.l0 k (-1) 0 aI aA) = some (r1, r2) := h
 clear h
 have H' := aM H
 clear H
 go_enter Try.func36, Try.ntmps36
 go_wp2_with (first | ((with_reducible refine gD (N := 1) rfl ?_); refine bE (N := 1) (cs := #[aI, .slice cW aA.length bW]) (t := 28) ?_; intro cD hg w2 hbox hb; have aG := aM (hbox); have kS := gF hg HB; have kT := gF hg HB; replace HB := rS HB hb; clear hb hbox hg))
 go_loopg [4, 5] k (fun kq v4 v5 w' => ∃ (aD : Int) (aC : Int), v4 = .int .i64 aD ∧ v5 = .int .i64 aC ∧ Aside0 (spec_RootPort.l0 kq aD aC aI aA = some (r1, r2)) ∧ Aside0 (kq ≤ k) ∧ Aside0 (w'.heap[cD]? = some (.cells #[aI, (.slice cW aA.length bW)] 28 (0, 0))) ∧ Aside0 (Below w.heap.size w w'))
 case atStart => exact ⟨((-1)), (0), xE, xE, H', ⟨Nat.le_refl _⟩, ⟨bk aG.out⟩, ⟨bl HB.out⟩⟩
 case round =>
  clear H'
  try clear p2
  obtain ⟨aD, aC, rfl, rfl, HA, bV, aG, HB⟩ := hrel
  cases gk with
  | zero => exact absurd HA.out (by simp [spec_RootPort.l0])
  | succ k1 =>
   have H := HA.out
   clear HA
   simp only [spec_RootPort.l0] at H
   have dQ := aM H
   clear H
   go_upto_region 3 with (fail)
   go_cut [15] (fun kQ wc => ∃ (kq : Nat) (cV : Bool), kQ = .bool cV ∧ Aside0 (spec_RootPort.j1 kq aD aC cV aI aA = some (r1, r2)) ∧ Aside0 (kq ≤ k1) ∧ Aside0 (wc.heap[cD]? = some (.cells #[aI, (.slice cW aA.length bW)] 28 (0, 0))) ∧ Aside0 (Below w.heap.size w wc))
   case first =>
    have H := dQ.out
    clear dQ
    by_cases c4 : aC < (aA.length : Int)
    case neg =>
     rw [if_neg c4] at H
     have bX := decide_eq_false c4
     clear c4
     (first | rw [bX] | (simp only [i64_w, i32_w]; rw [bX]) | skip)
     have H' := aM H
     clear H
     have dR := cA2 aG.out
     go_wp2
     go_meet
     case rel => (try rw [← bR.out]); exact ⟨_, (false), xE, H', ⟨by have := bV.out; first | omega | exact Nat.le_refl _⟩, ⟨bk aG.out⟩, ⟨bl HB.out⟩⟩
    rw [if_pos c4] at H
    have bX := decide_eq_true c4
    clear c4
    (first | rw [bX] | (simp only [i64_w, i32_w]; rw [bX]) | skip)
    obtain ⟨dS, eR, H⟩ := hB H
    have A5 := aM eR
    clear eR
    have H' := aM H
    clear H
    have dU := cA2 aG.out
    go_wp2_with (first | (go_at_call 46; (with_reducible refine (spec_BridgeOk.calls k1 aI _ _ aA dS _ ?side1 ?side2 A5.out).mono ?_); (case side1 => exact cM (cB cU.out HB.out)); (case side2 => exact eC.out); rintro e w7 ⟨rfl, hb⟩; replace aG := rB aG hb; replace HB := rS HB hb; (try clear hb)))
    go_meet
    case rel => (try rw [← bR.out]); exact ⟨_, (dS), xE, H', ⟨by have := bV.out; first | omega | exact Nat.le_refl _⟩, ⟨bk aG.out⟩, ⟨bl HB.out⟩⟩
   case rest =>
    clear dQ
    repeat first|clear p2|clear c3|clear c4|clear bX|clear dU|clear dV|clear dR|clear dW|clear dX|clear dY|clear dZ|clear eA|clear p2
    obtain ⟨kq, cV, rfl, HA, HJ2, aG, HB⟩ := hcut
    cases kq with
    | zero => exact absurd HA.out (by simp [spec_RootPort.j1])
    | succ dA =>
     have H := HA.out
     clear HA
     simp only [spec_RootPort.j1] at H
     by_cases c9 : cV = true
     case neg =>
      replace c9 := Bool.eq_false_iff.mpr c9
      subst c9
      replace H := hF H
      simp only [Option.some.injEq, Prod.mk.injEq] at H
      obtain ⟨rfl, rfl⟩ := H
      go_wp2
      go_ret2
      exact ⟨xW, bl HB.out⟩
     subst c9
     replace H := hP H rfl
     obtain ⟨eD, H⟩ := gI H
     obtain ⟨eE, H⟩ := gI H
     have dI := aM H
     clear H
     have eF := cA2 aG.out
     have dC : 0 ≤ (aC : Int) := dT
     have dD : aC < (aA.length : Int) := dT
     obtain ⟨aH, eT, cG, cH, cK, cL, cN, cO, cP, cQ, cR, cS, bY⟩ := at_T79 cU.out aC dC dD
     cases eT
     replace cG := xB HB cG
     replace cH := xB HB cH
     replace cK := xB HB cK
     replace cL := xB HB cL
     replace cN := xB HB cN
     replace cO := xB HB cO
     replace cP := xB HB cP
     replace cQ := xB HB cQ
     replace cR := xB HB cR
     replace cS := xB HB cS
     replace bY := xB HB bY
     replace dC := eq_true dC
     replace dD := eq_true dD
     go_upto_region 6 with (first | ((with_reducible refine gD (N := 6) rfl ?_); refine bE (N := 6) (cs := #[.bool false, .bool false, .int .i64 0, .int .i64 0, .int .i64 0, .int .i64 0, .int .i64 0, .int .i64 0, .int .i64 0, .int .i64 0, .bool false]) (t := 79) ?_; intro dE hg lO hbox hb; have aE := aM (hbox); have kU := gF hg HB; have kV := gF hg HB; have bT := nM hg aG; have bU := nH hg aG; replace aG := rB aG hb; replace HB := rS HB hb; clear hb hbox hg; have kW := bU.out; have kX := bT.out; have eG := cA11 aE.out))
     (try simp only [Act.put, sA, sZ, sS])
     go_cut [52] (fun kR wc => ∃ (kq : Nat) (cE : Bool), kR = .bool cE ∧ Aside0 (spec_RootPort.j2 kq aD aC cE aI aA ((rd_T79 aA aC).f0) ((rd_T79 aA aC).f1) ((rd_T79 aA aC).f2.f0) ((rd_T79 aA aC).f2.f1) ((rd_T79 aA aC).f2.f2) ((rd_T79 aA aC).f2.f3) ((rd_T79 aA aC).f3) ((rd_T79 aA aC).f4) ((rd_T79 aA aC).f5) ((rd_T79 aA aC).f6) ((rd_T79 aA aC).f7) = some (r1, r2)) ∧ Aside0 (kq ≤ dA) ∧ Aside0 (wc.heap[cD]? = some (.cells #[aI, (.slice (some aH) aA.length bW)] 28 (0, 0))) ∧ Aside0 (wc.heap[dE]? = some (.cells #[((rd_T79 aA aC).f0), ((rd_T79 aA aC).f1), ((rd_T79 aA aC).f2.f0), ((rd_T79 aA aC).f2.f1), ((rd_T79 aA aC).f2.f2), ((rd_T79 aA aC).f2.f3), ((rd_T79 aA aC).f3), ((rd_T79 aA aC).f4), ((rd_T79 aA aC).f5), ((rd_T79 aA aC).f6), ((rd_T79 aA aC).f7)] 79 (0, 0))) ∧ Aside0 (Below w.heap.size w wc))
     case first =>
      have H := dI.out
      clear dI
      obtain ⟨bZ, hbq17⟩ : ∃ b_ : Bool, b_ = ((rd_T79 aA aC).f1) := ⟨_, rfl⟩
      replace H : (if (bZ = true) then (if ((rd_T79 aA aC).f2.f2) = aI then (spec_RootPort.j2 dA aD aC true aI aA ((rd_T79 aA aC).f0) bZ ((rd_T79 aA aC).f2.f0) ((rd_T79 aA aC).f2.f1) ((rd_T79 aA aC).f2.f2) ((rd_T79 aA aC).f2.f3) ((rd_T79 aA aC).f3) ((rd_T79 aA aC).f4) ((rd_T79 aA aC).f5) ((rd_T79 aA aC).f6) ((rd_T79 aA aC).f7)) else (if ((rd_T79 aA aC).f2.f0) ≥ aI then (spec_RootPort.j2 dA aD aC true aI aA ((rd_T79 aA aC).f0) bZ ((rd_T79 aA aC).f2.f0) ((rd_T79 aA aC).f2.f1) ((rd_T79 aA aC).f2.f2) ((rd_T79 aA aC).f2.f3) ((rd_T79 aA aC).f3) ((rd_T79 aA aC).f4) ((rd_T79 aA aC).f5) ((rd_T79 aA aC).f6) ((rd_T79 aA aC).f7)) else (if ((rd_T79 aA aC).f2.f1) ≥ 20 then (spec_RootPort.j2 dA aD aC true aI aA ((rd_T79 aA aC).f0) bZ ((rd_T79 aA aC).f2.f0) ((rd_T79 aA aC).f2.f1) ((rd_T79 aA aC).f2.f2) ((rd_T79 aA aC).f2.f3) ((rd_T79 aA aC).f3) ((rd_T79 aA aC).f4) ((rd_T79 aA aC).f5) ((rd_T79 aA aC).f6) ((rd_T79 aA aC).f7)) else (spec_RootPort.j2 dA aD aC (decide (((rd_T79 aA aC).f3) ≥ 8)) aI aA ((rd_T79 aA aC).f0) bZ ((rd_T79 aA aC).f2.f0) ((rd_T79 aA aC).f2.f1) ((rd_T79 aA aC).f2.f2) ((rd_T79 aA aC).f2.f3) ((rd_T79 aA aC).f3) ((rd_T79 aA aC).f4) ((rd_T79 aA aC).f5) ((rd_T79 aA aC).f6) ((rd_T79 aA aC).f7))))) else (spec_RootPort.j2 dA aD aC true aI aA ((rd_T79 aA aC).f0) bZ ((rd_T79 aA aC).f2.f0) ((rd_T79 aA aC).f2.f1) ((rd_T79 aA aC).f2.f2) ((rd_T79 aA aC).f2.f3) ((rd_T79 aA aC).f3) ((rd_T79 aA aC).f4) ((rd_T79 aA aC).f5) ((rd_T79 aA aC).f6) ((rd_T79 aA aC).f7))) = some (r1, r2) := by rw [← hbq17] at H; exact H
      have bR := aM hbq17
      clear hbq17
      (try rw [← bR.out])
      by_cases dH : (bZ = true)
      case neg =>
       replace dH := Bool.eq_false_iff.mpr dH
       subst dH
       replace H := hF H
       have H' := aM H
       clear H
       have kY := bU.out
       have kZ := bT.out
       have eH := cA11 aE.out
       go_wp2
       go_meet
       case rel => (try rw [← bR.out]); exact ⟨_, (true), xE, H', ⟨by have := bV.out; have := HJ2.out; first | omega | exact Nat.le_refl _⟩, ⟨fm aG.out⟩, ⟨bm aE.out⟩, ⟨bl HB.out⟩⟩
      subst dH
      replace H := hP H rfl
      by_cases cT : ((rd_T79 aA aC).f2.f2) = aI
      case pos =>
       rw [if_pos cT] at H
       have dK : (((rd_T79 aA aC).f2.f2) == aI) = true := beq_iff_eq.mpr cT
       have dL : (((rd_T79 aA aC).f2.f2) != aI) = false := bne_eq_false_iff_eq.mpr cT
       clear cT
       have H' := aM H
       clear H
       have lA := bU.out
       have lB := bT.out
       have eI := cA11 aE.out
       have eJ := cA2 aG.out
       go_wp2
       go_meet
       case rel => (try rw [← bR.out]); exact ⟨_, (true), xE, H', ⟨by have := bV.out; have := HJ2.out; first | omega | exact Nat.le_refl _⟩, ⟨fm aG.out⟩, ⟨bm aE.out⟩, ⟨bl HB.out⟩⟩
      rw [if_neg cT] at H
      have dK : (((rd_T79 aA aC).f2.f2) == aI) = false := beq_eq_false_iff_ne.mpr cT
      have dL : (((rd_T79 aA aC).f2.f2) != aI) = true := bne_iff_ne.mpr cT
      by_cases cX : ((rd_T79 aA aC).f2.f0) ≥ aI
      case pos =>
       rw [if_pos cX] at H
       have dM := decide_eq_true cX
       clear cX
       have H' := aM H
       clear H
       have lC := bU.out
       have lD := bT.out
       have eK := cA11 aE.out
       have eL := cA2 aG.out
       go_wp2
       go_meet
       case rel => (try rw [← bR.out]); exact ⟨_, (true), xE, H', ⟨by have := bV.out; have := HJ2.out; first | omega | exact Nat.le_refl _⟩, ⟨fm aG.out⟩, ⟨bm aE.out⟩, ⟨bl HB.out⟩⟩
      rw [if_neg cX] at H
      have dM := decide_eq_false cX
      clear cX
      by_cases cY : ((rd_T79 aA aC).f2.f1) ≥ 20
      case pos =>
       rw [if_pos cY] at H
       have dN := decide_eq_true cY
       clear cY
       have H' := aM H
       clear H
       have lE := bU.out
       have lF := bT.out
       have eM := cA11 aE.out
       have eN := cA2 aG.out
       go_wp2
       go_meet
       case rel => (try rw [← bR.out]); exact ⟨_, (true), xE, H', ⟨by have := bV.out; have := HJ2.out; first | omega | exact Nat.le_refl _⟩, ⟨fm aG.out⟩, ⟨bm aE.out⟩, ⟨bl HB.out⟩⟩
      rw [if_neg cY] at H
      have dN := decide_eq_false cY
      clear cY
      have H' := aM H
      clear H
      have lG := bU.out
      have lH := bT.out
      have eO := cA11 aE.out
      have eP := cA2 aG.out
      go_wp2
      go_meet
      case rel => (try rw [← bR.out]); exact ⟨_, (decide (((rd_T79 aA aC).f3) ≥ 8)), xE, H', ⟨by have := bV.out; have := HJ2.out; first | omega | exact Nat.le_refl _⟩, ⟨fm aG.out⟩, ⟨bm aE.out⟩, ⟨bl HB.out⟩⟩
     case rest =>
      clear dI
      repeat first|clear c1|clear p1|clear q1|clear lP|clear c2|clear p2|clear c3|clear c4|clear bX|clear c9|clear lQ|clear eD|clear lR|clear eE|clear lS|clear lT|clear lN|clear lU|clear lV|clear dH|clear cT|clear dK|clear dL|clear lW|clear cX|clear dM|clear lX|clear cY|clear dN|clear lY|clear lZ|clear mA|clear eF|clear fF|clear eG|clear eI|clear fG|clear eU|clear fH|clear fI|clear fK|clear fL|clear fM|clear fN|clear fO|clear fP|clear eJ|clear fQ|clear eK|clear fS|clear eV|clear fT|clear fU|clear fV|clear fW|clear fX|clear fY|clear gA|clear gB|clear eL|clear gG|clear eM|clear gH|clear eW|clear gJ|clear gK|clear gM|clear gN|clear gO|clear gP|clear gQ|clear gR|clear eN|clear gS|clear eO|clear gT|clear eX|clear gU|clear gV|clear gW|clear gX|clear gY|clear gZ|clear hJ|clear hO|clear eP|clear hU|clear eH|clear hX|clear eY|clear hY|clear hZ|clear iA|clear iB|clear iC|clear iD|clear iE|clear iF|clear dU|clear dV|clear dR|clear dW|clear iG|clear iH|clear iI|clear iJ|clear eZ|clear iK|clear iL|clear iM|clear iN|clear iO|clear iP|clear iQ|clear iR|clear iS|clear iT|clear iU|clear iV|clear fA|clear iW|clear iX|clear iY|clear iZ|clear jA|clear jB|clear jC|clear jD|clear jE|clear jF|clear jG|clear jH|clear fB|clear jI|clear jJ|clear jK|clear jL|clear jM|clear jN|clear jO|clear jP|clear jQ|clear jR|clear jS|clear jT|clear fC|clear jU|clear jV|clear jW|clear jX|clear jY|clear jZ|clear kA|clear kC|clear kD|clear kE|clear kG|clear kH|clear fD|clear kI|clear kJ|clear kK|clear kL|clear kM|clear kN|clear kO|clear kP|clear dX|clear dY|clear dZ|clear eA|clear cG|clear cH|clear bY|clear cK|clear cL|clear cN|clear cO|clear cP|clear cQ|clear cR|clear cS|clear dC|clear p2|clear dD
      obtain ⟨kq, cE, rfl, HA, HJ11, aG, aE, HB⟩ := hcut
      cases kq with
      | zero => exact absurd HA.out (by simp [spec_RootPort.j2])
      | succ dF =>
       have H := HA.out
       clear HA
       simp only [spec_RootPort.j2] at H
       by_cases dO : cE = true
       case pos =>
        subst dO
        replace H := hP H rfl
        have H' := aM H
        clear H
        go_wp2
        go_roundg dF
        case measure => have := bV.out; have := HJ2.out; have := HJ11.out; omega
        case rel => (try rw [← bR.out]); exact ⟨(aD), (wrap64 (aC + 1)), xE, xE, H', ⟨by have := bV.out; have := HJ2.out; have := HJ11.out; omega⟩, ⟨bk aG.out⟩, ⟨bl HB.out⟩⟩
       replace dO := Bool.eq_false_iff.mpr dO
       subst dO
       replace H := hF H
       by_cases dB : aD < 0
       case pos =>
        rw [if_pos dB] at H
        have eQ := decide_eq_true dB
        clear dB
        have H' := aM H
        clear H
        try go_wp2
        replace aG := aM (blk_drew aG.out)
        replace aE := aM (blk_drew aE.out)
        replace HB := aM (below_drew1 HB.out)
        refine start_ (n := 13) (S := fun w' => True) (ds := []) (dn 13 0) (by kernel_rfl) rfl rfl trivial (fun hHeld => ?_); refine with_tabW spec_RootPort.tab7 spec_RootPort.bits7 (fun HT_ HW_ => ?_)
        generalize wc.drew = mB at aG aE HB hHeld ⊢
        refine nY (N := some 53) HT_ ?_
        refine nY (N := some 54) HT_ ?_
        refine nY (N := some 55) HT_ ?_
        refine nU (N := some 56) HT_ ?_
        refine nU (N := some 57) HT_ ?_
        refine nU (N := some 58) HT_ ?_
        refine nU (N := some 59) HT_ ?_
        refine nU (N := some 60) HT_ ?_
        refine nU (N := some 61) HT_ ?_
        refine nU (N := some 62) HT_ ?_
        refine nU (N := some 63) HT_ ?_
        refine nU (N := some 64) HT_ ?_
        refine nY (N := some 65) HT_ ?_
        refine done_ (done_of HT_.out (by kernel_rfl)) ?_
        try go_wp2
        go_roundg dF
        case measure => have := bV.out; have := HJ2.out; have := HJ11.out; omega
        case rel => (try rw [← bR.out]); exact ⟨(aC), (wrap64 (aC + 1)), xE, xE, H', ⟨by have := bV.out; have := HJ2.out; have := HJ11.out; omega⟩, ⟨bk aG.out⟩, ⟨bl HB.out⟩⟩
       rw [if_neg dB] at H
       have eQ := decide_eq_false dB
       clear dB
       obtain ⟨lI, H⟩ := gI H
       obtain ⟨lJ, H⟩ := gI H
       obtain ⟨fE, eB, H⟩ := hB H
       have eS := aM eB
       clear eB
       by_cases dP : fE = true
       case pos =>
        subst dP
        replace H := hP H rfl
        have H' := aM H
        clear H
        try go_wp2
        replace aG := aM (blk_drew aG.out)
        replace aE := aM (blk_drew aE.out)
        replace HB := aM (below_drew1 HB.out)
        have cA : 0 ≤ (aD : Int) := dT
        have cC : aD < (aA.length : Int) := dT
        obtain ⟨dG, dJ, aN, aQ, aT, aV, aW, aX, aZ, bA, bD, bG, aJ⟩ := at_T79 cU.out aD cA cC
        have aK := aJ
        have bH := bG
        have bI := bD
        have bJ := bA
        have bK := aZ
        have bL := aX
        have bM := aW
        have bN := aV
        have bO := aT
        have bP := aQ
        have bQ := aN
        obtain rfl : aH = dG := (by injection dJ)
        replace aN := xB HB aN
        replace aQ := xB HB aQ
        replace aT := xB HB aT
        replace aV := xB HB aV
        replace aW := xB HB aW
        replace aX := xB HB aX
        replace aZ := xB HB aZ
        replace bA := xB HB bA
        replace bD := xB HB bD
        replace bG := xB HB bG
        replace aJ := xB HB aJ
        replace cA := eq_true cA
        replace cC := eq_true cC
        refine start_ (n := 13) (S := fun w' => cT11 w' dE (.bool ((rd_T79 aA aC).f0)) (.bool ((rd_T79 aA aC).f1)) (.int .i64 ((rd_T79 aA aC).f2.f0)) (.int .i64 ((rd_T79 aA aC).f2.f1)) (.int .i64 ((rd_T79 aA aC).f2.f2)) (.int .i64 ((rd_T79 aA aC).f2.f3)) (.int .i64 ((rd_T79 aA aC).f3)) (.int .i64 ((rd_T79 aA aC).f4)) (.int .i64 ((rd_T79 aA aC).f5)) (.int .i64 ((rd_T79 aA aC).f6)) (.bool ((rd_T79 aA aC).f7)) (cT2 w' cD (.int .i64 aI) (.slice (some aH) aA.length bW) (w'.cell? (aH.add ((aD).toNat * 11)) = some ((rd_T79 aA aD).f0) ∧ w'.cell? ⟨(aH.add ((aD).toNat * 11)).block, (aH.add ((aD).toNat * 11)).off + 1, none⟩ = some ((rd_T79 aA aD).f1) ∧ w'.cell? ⟨(aH.add ((aD).toNat * 11)).block, (aH.add ((aD).toNat * 11)).off + 2, none⟩ = some ((rd_T79 aA aD).f2.f0) ∧ w'.cell? ⟨(aH.add ((aD).toNat * 11)).block, (aH.add ((aD).toNat * 11)).off + 3, none⟩ = some ((rd_T79 aA aD).f2.f1) ∧ w'.cell? ⟨(aH.add ((aD).toNat * 11)).block, (aH.add ((aD).toNat * 11)).off + 4, none⟩ = some ((rd_T79 aA aD).f2.f2) ∧ w'.cell? ⟨(aH.add ((aD).toNat * 11)).block, (aH.add ((aD).toNat * 11)).off + 5, none⟩ = some ((rd_T79 aA aD).f2.f3) ∧ w'.cell? ⟨(aH.add ((aD).toNat * 11)).block, (aH.add ((aD).toNat * 11)).off + 6, none⟩ = some ((rd_T79 aA aD).f3) ∧ w'.cell? ⟨(aH.add ((aD).toNat * 11)).block, (aH.add ((aD).toNat * 11)).off + 7, none⟩ = some ((rd_T79 aA aD).f4) ∧ w'.cell? ⟨(aH.add ((aD).toNat * 11)).block, (aH.add ((aD).toNat * 11)).off + 8, none⟩ = some ((rd_T79 aA aD).f5) ∧ w'.cell? ⟨(aH.add ((aD).toNat * 11)).block, (aH.add ((aD).toNat * 11)).off + 9, none⟩ = some ((rd_T79 aA aD).f6) ∧ w'.cell? ⟨(aH.add ((aD).toNat * 11)).block, (aH.add ((aD).toNat * 11)).off + 10, none⟩ = some ((rd_T79 aA aD).f7)))) (ds := []) (dn 13 0) (by kernel_rfl) rfl rfl ⟨cI aE.out 0, cI aE.out 1, cI aE.out 2, cI aE.out 3, cI aE.out 4, cI aE.out 5, cI aE.out 6, cI aE.out 7, cI aE.out 8, cI aE.out 9, cI aE.out 10, cI aG.out 0, cI aG.out 1, ((HB.out.cell (World.block_lt_of_cell? w _ bQ)).trans bQ), ((HB.out.cell (World.block_lt_of_cell? w _ bP)).trans bP), ((HB.out.cell (World.block_lt_of_cell? w _ bO)).trans bO), ((HB.out.cell (World.block_lt_of_cell? w _ bN)).trans bN), ((HB.out.cell (World.block_lt_of_cell? w _ bM)).trans bM), ((HB.out.cell (World.block_lt_of_cell? w _ bL)).trans bL), ((HB.out.cell (World.block_lt_of_cell? w _ bK)).trans bK), ((HB.out.cell (World.block_lt_of_cell? w _ bJ)).trans bJ), ((HB.out.cell (World.block_lt_of_cell? w _ bI)).trans bI), ((HB.out.cell (World.block_lt_of_cell? w _ bH)).trans bH), ((HB.out.cell (World.block_lt_of_cell? w _ aK)).trans aK)⟩ (fun hHeld => ?_); refine with_tabW spec_RootPort.tab7 spec_RootPort.bits7 (fun HT_ HW_ => ?_)
        generalize wc.drew = mC at aG aE HB aN aQ aJ aT aV aW aX aZ bA bD bG hHeld ⊢
        refine nY (N := some 53) HT_ ?_
        refine nY (N := some 54) HT_ ?_
        refine nY (N := some 55) HT_ ?_
        refine nY (N := some 56) HT_ ?_
        refine pY (i := 5) (N := some 58) #[Y,Y,Y,Y,U,Y,U,U,U,U,U,U,U] HT_ ?_
        refine pY (i := 7) (N := some 60) #[Y,Y,Y,Y,U,Y,U,Y,U,U,U,U,U] HT_ ?_
        refine aY (i := 4) (N := some 57) #[Y,Y,Y,Y,Y,Y,U,Y,U,U,U,U,U] HT_ HW_ hHeld ?_
        refine aY (i := 6) (N := some 59) #[Y,Y,Y,Y,Y,Y,Y,Y,U,U,U,U,U] HT_ HW_ hHeld ?_
        refine pY (i := 8) (N := some 61) #[Y,Y,Y,Y,Y,Y,Y,Y,Y,U,U,U,U] HT_ ?_
        refine pY (i := 9) (N := some 62) #[Y,Y,Y,Y,Y,Y,Y,Y,Y,Y,U,U,U] HT_ ?_
        refine aY (i := 10) (N := some 63) #[Y,Y,Y,Y,Y,Y,Y,Y,Y,Y,Y,U,U] HT_ HW_ hHeld ?_
        refine one_ (i := 11) (N := some 64) #[Y,Y,Y,Y,Y,Y,Y,Y,Y,Y,Y,Y,U] rfl rfl (one_of HT_.out (by kernel_rfl)) (by decide) (fun K hK => ?_)
        refine goes_ Try.func68 (by kernel_rfl) rfl #[.agg #[((rd_T79 aA aC).f2.f0), ((rd_T79 aA aC).f2.f1), ((rd_T79 aA aC).f2.f2), ((rd_T79 aA aC).f2.f3)], .agg #[((rd_T79 aA aD).f2.f0), ((rd_T79 aA aD).f2.f1), ((rd_T79 aA aD).f2.f2), ((rd_T79 aA aD).f2.f3)]] (by rfl) rfl rfl xR ?_
        with_reducible refine (spec_Better.calls ((rd_T79 aA aC).f2.f0) ((rd_T79 aA aC).f2.f1) ((rd_T79 aA aC).f2.f2) ((rd_T79 aA aC).f2.f3) ((rd_T79 aA aD).f2.f0) ((rd_T79 aA aD).f2.f1) ((rd_T79 aA aD).f2.f2) ((rd_T79 aA aD).f2.f3) true _ eS.out).mono ?_
        rintro e mD ⟨rfl, hb⟩
        refine ⟨_, rfl, ?_⟩
        replace aG := rB aG hb
        replace aE := rB aE hb
        replace HB := rS HB hb
        (try clear hb)
        (try clear hb2)
        (try clear hk)
        (try clear hi)
        refine hK.out _ _ ⟨cI aE.out 0, cI aE.out 1, cI aE.out 2, cI aE.out 3, cI aE.out 4, cI aE.out 5, cI aE.out 6, cI aE.out 7, cI aE.out 8, cI aE.out 9, cI aE.out 10, cI aG.out 0, cI aG.out 1, ((HB.out.cell (World.block_lt_of_cell? w _ bQ)).trans bQ), ((HB.out.cell (World.block_lt_of_cell? w _ bP)).trans bP), ((HB.out.cell (World.block_lt_of_cell? w _ bO)).trans bO), ((HB.out.cell (World.block_lt_of_cell? w _ bN)).trans bN), ((HB.out.cell (World.block_lt_of_cell? w _ bM)).trans bM), ((HB.out.cell (World.block_lt_of_cell? w _ bL)).trans bL), ((HB.out.cell (World.block_lt_of_cell? w _ bK)).trans bK), ((HB.out.cell (World.block_lt_of_cell? w _ bJ)).trans bJ), ((HB.out.cell (World.block_lt_of_cell? w _ bI)).trans bI), ((HB.out.cell (World.block_lt_of_cell? w _ bH)).trans bH), ((HB.out.cell (World.block_lt_of_cell? w _ aK)).trans aK)⟩ (fun hHeld => ?_)
        clear hK K
        refine norm_ (a' := ?_) ?_ ?_
        rotate_left
        ·show Act.put _ (some 64) _ = _
         simp only [Act.put, sA, sZ, sS, i64_w, i32_w]
         rfl
        refine pY (i := 12) (N := some 65) #[Y,Y,Y,Y,Y,Y,Y,Y,Y,Y,Y,Y,Y] HT_ ?_
        refine done_ (done_of HT_.out (by kernel_rfl)) ?_
        try go_wp2
        go_roundg dF
        case measure => have := bV.out; have := HJ2.out; have := HJ11.out; omega
        case rel => (try rw [← bR.out]); exact ⟨(aC), (wrap64 (aC + 1)), xE, xE, H', ⟨by have := bV.out; have := HJ2.out; have := HJ11.out; omega⟩, ⟨bk aG.out⟩, ⟨bl HB.out⟩⟩
       replace dP := Bool.eq_false_iff.mpr dP
       subst dP
       replace H := hF H
       have H' := aM H
       clear H
       try go_wp2
       replace aG := aM (blk_drew aG.out)
       replace aE := aM (blk_drew aE.out)
       replace HB := aM (below_drew1 HB.out)
       have cA : 0 ≤ (aD : Int) := dT
       have cC : aD < (aA.length : Int) := dT
       obtain ⟨dG, dJ, aN, aQ, aT, aV, aW, aX, aZ, bA, bD, bG, aJ⟩ := at_T79 cU.out aD cA cC
       have aK := aJ
       have bH := bG
       have bI := bD
       have bJ := bA
       have bK := aZ
       have bL := aX
       have bM := aW
       have bN := aV
       have bO := aT
       have bP := aQ
       have bQ := aN
       obtain rfl : aH = dG := (by injection dJ)
       replace aN := xB HB aN
       replace aQ := xB HB aQ
       replace aT := xB HB aT
       replace aV := xB HB aV
       replace aW := xB HB aW
       replace aX := xB HB aX
       replace aZ := xB HB aZ
       replace bA := xB HB bA
       replace bD := xB HB bD
       replace bG := xB HB bG
       replace aJ := xB HB aJ
       replace cA := eq_true cA
       replace cC := eq_true cC
       refine start_ (n := 13) (S := fun w' => cT11 w' dE (.bool ((rd_T79 aA aC).f0)) (.bool ((rd_T79 aA aC).f1)) (.int .i64 ((rd_T79 aA aC).f2.f0)) (.int .i64 ((rd_T79 aA aC).f2.f1)) (.int .i64 ((rd_T79 aA aC).f2.f2)) (.int .i64 ((rd_T79 aA aC).f2.f3)) (.int .i64 ((rd_T79 aA aC).f3)) (.int .i64 ((rd_T79 aA aC).f4)) (.int .i64 ((rd_T79 aA aC).f5)) (.int .i64 ((rd_T79 aA aC).f6)) (.bool ((rd_T79 aA aC).f7)) (cT2 w' cD (.int .i64 aI) (.slice (some aH) aA.length bW) (w'.cell? (aH.add ((aD).toNat * 11)) = some ((rd_T79 aA aD).f0) ∧ w'.cell? ⟨(aH.add ((aD).toNat * 11)).block, (aH.add ((aD).toNat * 11)).off + 1, none⟩ = some ((rd_T79 aA aD).f1) ∧ w'.cell? ⟨(aH.add ((aD).toNat * 11)).block, (aH.add ((aD).toNat * 11)).off + 2, none⟩ = some ((rd_T79 aA aD).f2.f0) ∧ w'.cell? ⟨(aH.add ((aD).toNat * 11)).block, (aH.add ((aD).toNat * 11)).off + 3, none⟩ = some ((rd_T79 aA aD).f2.f1) ∧ w'.cell? ⟨(aH.add ((aD).toNat * 11)).block, (aH.add ((aD).toNat * 11)).off + 4, none⟩ = some ((rd_T79 aA aD).f2.f2) ∧ w'.cell? ⟨(aH.add ((aD).toNat * 11)).block, (aH.add ((aD).toNat * 11)).off + 5, none⟩ = some ((rd_T79 aA aD).f2.f3) ∧ w'.cell? ⟨(aH.add ((aD).toNat * 11)).block, (aH.add ((aD).toNat * 11)).off + 6, none⟩ = some ((rd_T79 aA aD).f3) ∧ w'.cell? ⟨(aH.add ((aD).toNat * 11)).block, (aH.add ((aD).toNat * 11)).off + 7, none⟩ = some ((rd_T79 aA aD).f4) ∧ w'.cell? ⟨(aH.add ((aD).toNat * 11)).block, (aH.add ((aD).toNat * 11)).off + 8, none⟩ = some ((rd_T79 aA aD).f5) ∧ w'.cell? ⟨(aH.add ((aD).toNat * 11)).block, (aH.add ((aD).toNat * 11)).off + 9, none⟩ = some ((rd_T79 aA aD).f6) ∧ w'.cell? ⟨(aH.add ((aD).toNat * 11)).block, (aH.add ((aD).toNat * 11)).off + 10, none⟩ = some ((rd_T79 aA aD).f7)))) (ds := []) (dn 13 0) (by kernel_rfl) rfl rfl ⟨cI aE.out 0, cI aE.out 1, cI aE.out 2, cI aE.out 3, cI aE.out 4, cI aE.out 5, cI aE.out 6, cI aE.out 7, cI aE.out 8, cI aE.out 9, cI aE.out 10, cI aG.out 0, cI aG.out 1, ((HB.out.cell (World.block_lt_of_cell? w _ bQ)).trans bQ), ((HB.out.cell (World.block_lt_of_cell? w _ bP)).trans bP), ((HB.out.cell (World.block_lt_of_cell? w _ bO)).trans bO), ((HB.out.cell (World.block_lt_of_cell? w _ bN)).trans bN), ((HB.out.cell (World.block_lt_of_cell? w _ bM)).trans bM), ((HB.out.cell (World.block_lt_of_cell? w _ bL)).trans bL), ((HB.out.cell (World.block_lt_of_cell? w _ bK)).trans bK), ((HB.out.cell (World.block_lt_of_cell? w _ bJ)).trans bJ), ((HB.out.cell (World.block_lt_of_cell? w _ bI)).trans bI), ((HB.out.cell (World.block_lt_of_cell? w _ bH)).trans bH), ((HB.out.cell (World.block_lt_of_cell? w _ aK)).trans aK)⟩ (fun hHeld => ?_); refine with_tabW spec_RootPort.tab7 spec_RootPort.bits7 (fun HT_ HW_ => ?_)
       generalize wc.drew = mE at aG aE HB aN aQ aJ aT aV aW aX aZ bA bD bG hHeld ⊢
       refine nY (N := some 53) HT_ ?_
       refine nY (N := some 54) HT_ ?_
       refine nY (N := some 55) HT_ ?_
       refine nY (N := some 56) HT_ ?_
       refine pY (i := 5) (N := some 58) #[Y,Y,Y,Y,U,Y,U,U,U,U,U,U,U] HT_ ?_
       refine pY (i := 7) (N := some 60) #[Y,Y,Y,Y,U,Y,U,Y,U,U,U,U,U] HT_ ?_
       refine aY (i := 4) (N := some 57) #[Y,Y,Y,Y,Y,Y,U,Y,U,U,U,U,U] HT_ HW_ hHeld ?_
       refine aY (i := 6) (N := some 59) #[Y,Y,Y,Y,Y,Y,Y,Y,U,U,U,U,U] HT_ HW_ hHeld ?_
       refine pY (i := 8) (N := some 61) #[Y,Y,Y,Y,Y,Y,Y,Y,Y,U,U,U,U] HT_ ?_
       refine pY (i := 9) (N := some 62) #[Y,Y,Y,Y,Y,Y,Y,Y,Y,Y,U,U,U] HT_ ?_
       refine aY (i := 10) (N := some 63) #[Y,Y,Y,Y,Y,Y,Y,Y,Y,Y,Y,U,U] HT_ HW_ hHeld ?_
       refine one_ (i := 11) (N := some 64) #[Y,Y,Y,Y,Y,Y,Y,Y,Y,Y,Y,Y,U] rfl rfl (one_of HT_.out (by kernel_rfl)) (by decide) (fun K hK => ?_)
       refine goes_ Try.func68 (by kernel_rfl) rfl #[.agg #[((rd_T79 aA aC).f2.f0), ((rd_T79 aA aC).f2.f1), ((rd_T79 aA aC).f2.f2), ((rd_T79 aA aC).f2.f3)], .agg #[((rd_T79 aA aD).f2.f0), ((rd_T79 aA aD).f2.f1), ((rd_T79 aA aD).f2.f2), ((rd_T79 aA aD).f2.f3)]] (by rfl) rfl rfl xR ?_
       with_reducible refine (spec_Better.calls ((rd_T79 aA aC).f2.f0) ((rd_T79 aA aC).f2.f1) ((rd_T79 aA aC).f2.f2) ((rd_T79 aA aC).f2.f3) ((rd_T79 aA aD).f2.f0) ((rd_T79 aA aD).f2.f1) ((rd_T79 aA aD).f2.f2) ((rd_T79 aA aD).f2.f3) false _ eS.out).mono ?_
       rintro e mF ⟨rfl, hb⟩
       refine ⟨_, rfl, ?_⟩
       replace aG := rB aG hb
       replace aE := rB aE hb
       replace HB := rS HB hb
       (try clear hb)
       (try clear hb2)
       (try clear hk)
       (try clear hi)
       refine hK.out _ _ ⟨cI aE.out 0, cI aE.out 1, cI aE.out 2, cI aE.out 3, cI aE.out 4, cI aE.out 5, cI aE.out 6, cI aE.out 7, cI aE.out 8, cI aE.out 9, cI aE.out 10, cI aG.out 0, cI aG.out 1, ((HB.out.cell (World.block_lt_of_cell? w _ bQ)).trans bQ), ((HB.out.cell (World.block_lt_of_cell? w _ bP)).trans bP), ((HB.out.cell (World.block_lt_of_cell? w _ bO)).trans bO), ((HB.out.cell (World.block_lt_of_cell? w _ bN)).trans bN), ((HB.out.cell (World.block_lt_of_cell? w _ bM)).trans bM), ((HB.out.cell (World.block_lt_of_cell? w _ bL)).trans bL), ((HB.out.cell (World.block_lt_of_cell? w _ bK)).trans bK), ((HB.out.cell (World.block_lt_of_cell? w _ bJ)).trans bJ), ((HB.out.cell (World.block_lt_of_cell? w _ bI)).trans bI), ((HB.out.cell (World.block_lt_of_cell? w _ bH)).trans bH), ((HB.out.cell (World.block_lt_of_cell? w _ aK)).trans aK)⟩ (fun hHeld => ?_)
       clear hK K
       refine norm_ (a' := ?_) ?_ ?_
       rotate_left
       ·show Act.put _ (some 64) _ = _
        simp only [Act.put, sA, sZ, sS, i64_w, i32_w]
        rfl
       refine pY (i := 12) (N := some 65) #[Y,Y,Y,Y,Y,Y,Y,Y,Y,Y,Y,Y,Y] HT_ ?_
       refine done_ (done_of HT_.out (by kernel_rfl)) ?_
       try go_wp2
       go_roundg dF
       case measure => have := bV.out; have := HJ2.out; have := HJ11.out; omega
       case rel => (try rw [← bR.out]); exact ⟨(aD), (wrap64 (aC + 1)), xE, xE, H', ⟨by have := bV.out; have := HJ2.out; have := HJ11.out; omega⟩, ⟨bk aG.out⟩, ⟨bl HB.out⟩⟩

end Go.Proofs.Ythmijfekdeagpaa.PFnRootPorts

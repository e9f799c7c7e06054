/- Of the proof of laws.FnRootPorts: a part. No condition beyond what its theorems say. -/
import Derived.Test.YthmijfekdeagpaaVFnRootPortsPx8
import Derived.Test.YthmijfekdeagpaaVFnRootPortsPx20
namespace Go.Proofs.Ythmijfekdeagpaa.PFnRootPorts
open Go.RowKit Go.Proofs.YthmijfekdeagpaaW.PrintWords Go.Proofs.YthmijfekdeagpaaW.PrintLast Go.Proofs.YthmijfekdeagpaaW.PrintMore
attribute [local go_sem] max2_int min2_int max_two min_two max_three min_three max_four min_four   -- for this text's walks alone
set_option linter.unusedVariables false
set_option linter.unusedSimpArgs false

mutual
def spec_l8Tick.j0 : Nat → Bool → Bool → Bool → Int → Int → Int → Int → Int → Int → Int → Int → Bool → Option (Bool × Bool × Int × Int × Int × Int × Int × Int × Int × Int × Bool)
 | 0, _, _, _, _, _, _, _, _, _, _, _, _ => none
 | k + 1, aT, aA, aC, aD, aE, aG, aH, aI, aJ, aK, aN, aQ => if aT = true then (spec_l8Tick.j1 k aA aC aD aE aG aH aI aJ aK (wrap64 (aN - 1)) aQ) else (spec_l8Tick.j1 k aA aC aD aE aG aH aI aJ aK aN aQ)
def spec_l8Tick.j1 : Nat → Bool → Bool → Int → Int → Int → Int → Int → Int → Int → Int → Bool → Option (Bool × Bool × Int × Int × Int × Int × Int × Int × Int × Int × Bool)
 | 0, _, _, _, _, _, _, _, _, _, _, _ => none
 | k + 1, aC, aD, aE, aG, aH, aI, aJ, aK, aN, aQ, aT => (spec_l7Open.f aC aD aE aG aH aI aJ aK aN aQ aT).bind fun aA => (some (aA.1, aA.2.1, aA.2.2.1, aA.2.2.2.1, aA.2.2.2.2.1, aA.2.2.2.2.2.1, aA.2.2.2.2.2.2.1, aA.2.2.2.2.2.2.2.1, aA.2.2.2.2.2.2.2.2.1, aA.2.2.2.2.2.2.2.2.2.1, aA.2.2.2.2.2.2.2.2.2.2))
end
def spec_l8Tick.f (k : Nat) (aD : Bool) (aE : Bool) (aG : Int) (aH : Int) (aI : Int) (aJ : Int) (aK : Int) (aN : Int) (aQ : Int) (aT : Int) (aC : Bool) : Option (Bool × Bool × Int × Int × Int × Int × Int × Int × Int × Int × Bool) := (spec_Fade.f k aD aE aG aH aI aJ aK aN aQ aT aC).bind fun aA => (if aA.2.2.2.2.2.2.2.2.1 = 1 then (spec_l8Tick.j0 k (decide (aA.2.2.2.2.2.2.2.2.2.1 > 0)) aA.1 aA.2.1 aA.2.2.1 aA.2.2.2.1 aA.2.2.2.2.1 aA.2.2.2.2.2.1 aA.2.2.2.2.2.2.1 aA.2.2.2.2.2.2.2.1 aA.2.2.2.2.2.2.2.2.1 aA.2.2.2.2.2.2.2.2.2.1 aA.2.2.2.2.2.2.2.2.2.2) else (if aA.2.2.2.2.2.2.2.2.1 = 2 then (spec_l8Tick.j0 k (decide (aA.2.2.2.2.2.2.2.2.2.1 > 0)) aA.1 aA.2.1 aA.2.2.1 aA.2.2.2.1 aA.2.2.2.2.1 aA.2.2.2.2.2.1 aA.2.2.2.2.2.2.1 aA.2.2.2.2.2.2.2.1 aA.2.2.2.2.2.2.2.2.1 aA.2.2.2.2.2.2.2.2.2.1 aA.2.2.2.2.2.2.2.2.2.2) else (spec_l8Tick.j0 k false aA.1 aA.2.1 aA.2.2.1 aA.2.2.2.1 aA.2.2.2.2.1 aA.2.2.2.2.2.1 aA.2.2.2.2.2.2.1 aA.2.2.2.2.2.2.2.1 aA.2.2.2.2.2.2.2.2.1 aA.2.2.2.2.2.2.2.2.2.1 aA.2.2.2.2.2.2.2.2.2.2)))
theorem spec_l8Tick.mono_l : ∀ k, (∀ y0 y1 y2 y3 y4 y5 y6 y7 y8 y9 aA aC, LeO (spec_l8Tick.j0 k y0 y1 y2 y3 y4 y5 y6 y7 y8 y9 aA aC) (spec_l8Tick.j0 (k + 1) y0 y1 y2 y3 y4 y5 y6 y7 y8 y9 aA aC)) ∧ (∀ y0 y1 y2 y3 y4 y5 y6 y7 y8 y9 aA, LeO (spec_l8Tick.j1 k y0 y1 y2 y3 y4 y5 y6 y7 y8 y9 aA) (spec_l8Tick.j1 (k + 1) y0 y1 y2 y3 y4 y5 y6 y7 y8 y9 aA))
 | 0 => ⟨fun _ _ _ _ _ _ _ _ _ _ _ _ r h => by simp [spec_l8Tick.j0] at h, fun _ _ _ _ _ _ _ _ _ _ _ r h => by simp [spec_l8Tick.j1] at h⟩
 | k + 1 => by
  obtain ⟨ih0, ih1⟩ := spec_l8Tick.mono_l k
  refine ⟨?_, ?_⟩
  ·intro y0 y1 y2 y3 y4 y5 y6 y7 y8 y9 aA aC
   unfold spec_l8Tick.j0
   repeat' first|(with_reducible first|apply ih0|apply ih1|apply spec_Fade.mono|exact LeO.refl _|exact LeO.none _|refine LeO.ite ?_ ?_|refine LeO.bind ?_ (fun _ => ?_))|exact LeO.none _|refine LeO.ite ?_ ?_|refine LeO.bind ?_ (fun _ => ?_)
  ·intro y0 y1 y2 y3 y4 y5 y6 y7 y8 y9 aA
   unfold spec_l8Tick.j1
   repeat' first|(with_reducible first|apply ih0|apply ih1|apply spec_Fade.mono|exact LeO.refl _|exact LeO.none _|refine LeO.ite ?_ ?_|refine LeO.bind ?_ (fun _ => ?_))|exact LeO.none _|refine LeO.ite ?_ ?_|refine LeO.bind ?_ (fun _ => ?_)
theorem spec_l8Tick.mono : ∀ a0 a1 a2 a3 a4 a5 a6 a7 a8 a9 aA k, LeO (spec_l8Tick.f k a0 a1 a2 a3 a4 a5 a6 a7 a8 a9 aA) (spec_l8Tick.f (k + 1) a0 a1 a2 a3 a4 a5 a6 a7 a8 a9 aA) := by
 intro a0 a1 a2 a3 a4 a5 a6 a7 a8 a9 aA k
 obtain ⟨ih0, ih1⟩ := spec_l8Tick.mono_l k
 unfold spec_l8Tick.f
 repeat' first|(with_reducible first|apply ih0|apply ih1|apply spec_Fade.mono|exact LeO.refl _|exact LeO.none _|refine LeO.ite ?_ ?_|refine LeO.bind ?_ (fun _ => ?_))|exact LeO.none _|refine LeO.ite ?_ ?_|refine LeO.bind ?_ (fun _ => ?_)
set_option maxHeartbeats 60000000 in
set_option maxRecDepth 100000 in
theorem spec_l8Tick.calls (k : Nat) (bJ : Bool) (bK : Bool) (bL : Int) (bM : Int) (bN : Int) (bO : Int) (bP : Int) (bQ : Int) (bR : Int) (bT : Int) (bG : Bool) (r1 : Bool) (r2 : Bool) (r3 : Int) (r4 : Int) (r5 : Int) (r6 : Int) (r7 : Int) (r8 : Int) (r9 : Int) (bZ : Int) (cA : Bool) (w : World) (h : spec_l8Tick.f k bJ bK bL bM bN bO bP bQ bR bT bG = some (r1, r2, r3, r4, r5, r6, r7, r8, r9, bZ, cA)) :
  Calls Try.prog 185 #[.agg #[bJ, bK, bL, bM, bN, bO, bP, bQ, bR, bT, bG]] w fun e w' => e = .returned (.agg #[r1, r2, r3, r4, r5, r6, r7, r8, r9, bZ, cA]) ∧ Below w.heap.size w w' := by
 have iL := Try.underlying79
 have HB := aM (Below.refl w.heap.size w)
 have H : ((spec_Fade.f k bJ bK bL bM bN bO bP bQ bR bT bG).bind fun aA => (if aA.2.2.2.2.2.2.2.2.1 = 1 then (spec_l8Tick.j0 k (decide (aA.2.2.2.2.2.2.2.2.2.1 > 0)) aA.1 aA.2.1 aA.2.2.1 aA.2.2.2.1 aA.2.2.2.2.1 aA.2.2.2.2.2.1 aA.2.2.2.2.2.2.1 aA.2.2.2.2.2.2.2.1 aA.2.2.2.2.2.2.2.2.1 aA.2.2.2.2.2.2.2.2.2.1 aA.2.2.2.2.2.2.2.2.2.2) else (if aA.2.2.2.2.2.2.2.2.1 = 2 then (spec_l8Tick.j0 k (decide (aA.2.2.2.2.2.2.2.2.2.1 > 0)) aA.1 aA.2.1 aA.2.2.1 aA.2.2.2.1 aA.2.2.2.2.1 aA.2.2.2.2.2.1 aA.2.2.2.2.2.2.1 aA.2.2.2.2.2.2.2.1 aA.2.2.2.2.2.2.2.2.1 aA.2.2.2.2.2.2.2.2.2.1 aA.2.2.2.2.2.2.2.2.2.2) else (spec_l8Tick.j0 k false aA.1 aA.2.1 aA.2.2.1 aA.2.2.2.1 aA.2.2.2.2.1 aA.2.2.2.2.2.1 aA.2.2.2.2.2.2.1 aA.2.2.2.2.2.2.2.1 aA.2.2.2.2.2.2.2.2.1 aA.2.2.2.2.2.2.2.2.2.1 aA.2.2.2.2.2.2.2.2.2.2)))) = some (r1, r2, r3, r4, r5, r6, r7, r8, r9, bZ, cA) := h
 clear h
 obtain ⟨⟨aK, aN, aQ, aT, aV, aW, aX, aZ, aD, bA, bD⟩, fQ, H⟩ := hB H
 try dsimp only at H
 have A2 := aM fQ
 clear fQ
 have eZ := aM H
 clear H
 go_enter Try.func185, Try.ntmps185
 go_upto_region 2 with (first | ((with_reducible refine gD (N := 1) rfl ?_); refine bE (N := 1) (cs := #[bJ, bK, bL, bM, bN, bO, bP, bQ, bR, bT, bG]) (t := 79) ?_; intro cO hg w4 hbox hb; have aC := aM (hbox); have hO := gF hg HB; have hU := gF hg HB; replace HB := rS HB hb; clear hb hbox hg) | ((with_reducible refine gD (N := 2) rfl ?_); refine bE (N := 2) (cs := #[.bool false, .bool false, .int .i64 0, .int .i64 0, .int .i64 0, .int .i64 0, .int .i64 0, .int .i64 0, .int .i64 0, .int .i64 0, .bool false]) (t := 79) ?_; intro bV hg w5 hbox hb; have aE := aM (hbox); have hX := gF hg HB; have hY := gF hg HB; have aG := nM hg aC; have aH := nH hg aC; replace aC := rB aC hb; replace HB := rS HB hb; clear hb hbox hg; have iM := aG.out; have iN := aH.out; have fA := cA11 aC.out) | ((with_reducible refine gC (f := 177) rfl ?_); refine gL (some 4) Try.func177 #[.agg #[bJ, bK, bL, bM, bN, bO, bP, bQ, bR, bT, bG]] ?_; (with_reducible refine (spec_Fade.calls k bJ bK bL bM bN bO bP bQ bR bT bG aK aN aQ aT aV aW aX aZ aD bA bD _ A2.out).mono ?_); rintro e w8 ⟨rfl, hb⟩; refine ⟨_, rfl, ?_⟩; replace aC := rB aC hb; replace aE := rB aE hb; replace HB := rS HB hb; (try clear hb); have fB := cA11 aC.out))
 (try simp only [Act.put, sA, sZ, sS])
 go_cut [17] (fun gU wc => ∃ (kq : Nat) (bU : Bool), gU = .bool bU ∧ Aside0 (spec_l8Tick.j0 kq bU aK aN aQ aT aV aW aX aZ aD bA bD = some (r1, r2, r3, r4, r5, r6, r7, r8, r9, bZ, cA)) ∧ Aside0 (kq ≤ k) ∧ Aside0 (wc.heap[cO]? = some (.cells #[aK, aN, aQ, aT, aV, aW, aX, aZ, aD, bA, bD] 79 (0, 0))) ∧ Aside0 (wc.heap[bV]? = some (.cells #[.bool false, .bool false, .int .i64 0, .int .i64 0, .int .i64 0, .int .i64 0, .int .i64 0, .int .i64 0, .int .i64 0, .int .i64 0, .bool false] 79 (0, 0))) ∧ Aside0 (Below w.heap.size w wc))
 case first =>
  have H := eZ.out
  clear eZ
  by_cases bH : aD = 1
  case pos =>
   rw [if_pos bH] at H
   have aJ : (aD == 1) = true := beq_iff_eq.mpr bH
   have bW : (aD != 1) = false := bne_eq_false_iff_eq.mpr bH
   clear bH
   (first | rw [aJ] | (simp only [i64_w, i32_w]; rw [aJ]) | skip)
   have H' := aM H
   clear H
   have hZ := aG.out
   have iA := aH.out
   have cP := cA11 aC.out
   go_wp2
   go_meet
   case rel => exact ⟨_, (decide (bA > 0)), xE, H', ⟨by first | omega | exact Nat.le_refl _⟩, ⟨bm aC.out⟩, ⟨fm aE.out⟩, ⟨bl HB.out⟩⟩
  rw [if_neg bH] at H
  have aJ : (aD == 1) = false := beq_eq_false_iff_ne.mpr bH
  have bW : (aD != 1) = true := bne_iff_ne.mpr bH
  (first | rw [aJ] | (simp only [i64_w, i32_w]; rw [aJ]) | skip)
  by_cases bI : aD = 2
  case neg =>
   rw [if_neg bI] at H
   have bX : (aD == 2) = false := beq_eq_false_iff_ne.mpr bI
   have bY : (aD != 2) = true := bne_iff_ne.mpr bI
   have H' := aM H
   clear H
   have iB := aG.out
   have iC := aH.out
   have cQ := cA11 aC.out
   go_wp2
   go_meet
   case rel => exact ⟨_, (false), xE, H', ⟨by first | omega | exact Nat.le_refl _⟩, ⟨bm aC.out⟩, ⟨fm aE.out⟩, ⟨bl HB.out⟩⟩
  rw [if_pos bI] at H
  have bX : (aD == 2) = true := beq_iff_eq.mpr bI
  have bY : (aD != 2) = false := bne_eq_false_iff_eq.mpr bI
  clear bI
  have H' := aM H
  clear H
  have iD := aG.out
  have iE := aH.out
  have cR := cA11 aC.out
  go_wp2
  go_meet
  case rel => exact ⟨_, (decide (bA > 0)), xE, H', ⟨by first | omega | exact Nat.le_refl _⟩, ⟨bm aC.out⟩, ⟨fm aE.out⟩, ⟨bl HB.out⟩⟩
 case rest =>
  clear eZ
  repeat first|clear c1|clear p2|clear c6|clear bH|clear aJ|clear bW|clear gV|clear bI|clear bX|clear bY|clear gW|clear gX|clear gY|clear cP|clear cS|clear cD|clear cT|clear cU|clear cV|clear cW|clear cX|clear cY|clear dA|clear dB|clear cR|clear dC|clear cE|clear dD|clear dE|clear dF|clear dG|clear dH|clear dI|clear dJ|clear dK|clear cQ|clear dL|clear cG|clear dM|clear dN|clear dO|clear dP|clear dQ|clear dR|clear dS|clear dU|clear fA|clear fB|clear dV|clear dW|clear cH|clear dX|clear dY|clear dZ|clear eA|clear eB|clear eC|clear eD|clear eE|clear eF|clear eG|clear cK|clear eH|clear eI|clear eJ|clear eK|clear eL|clear eM|clear eN|clear eO|clear eP|clear eQ|clear cL|clear eR|clear eS|clear eT|clear eU|clear eV|clear eW|clear eX|clear eY
  obtain ⟨kq, bU, rfl, HA, HJ2, aC, aE, HB⟩ := hcut
  cases kq with
  | zero => exact absurd HA.out (by simp [spec_l8Tick.j0])
  | succ gZ =>
   have H := HA.out
   clear HA
   simp only [spec_l8Tick.j0] at H
   have cN := aM H
   clear H
   go_upto_if 17 with (fail)
   go_cut [] (fun wc => ∃ (kq : Nat) (aI : Int), Aside0 (spec_l8Tick.j1 kq aK aN aQ aT aV aW aX aZ aD aI bD = some (r1, r2, r3, r4, r5, r6, r7, r8, r9, bZ, cA)) ∧ Aside0 (kq ≤ gZ) ∧ Aside0 (wc.heap[cO]? = some (.cells #[aK, aN, aQ, aT, aV, aW, aX, aZ, aD, aI, bD] 79 (0, 0))) ∧ Aside0 (wc.heap[bV]? = some (.cells #[.bool false, .bool false, .int .i64 0, .int .i64 0, .int .i64 0, .int .i64 0, .int .i64 0, .int .i64 0, .int .i64 0, .int .i64 0, .bool false] 79 (0, 0))) ∧ Aside0 (Below w.heap.size w wc))
   case first =>
    have H := cN.out
    clear cN
    by_cases cC : bU = true
    case neg =>
     replace cC := Bool.eq_false_iff.mpr cC
     subst cC
     replace H := hF H
     have H' := aM H
     clear H
     go_wp2
     go_meet
     case rel => exact ⟨_, (bA), H', ⟨by have := HJ2.out; first | omega | exact Nat.le_refl _⟩, ⟨bk aC.out⟩, ⟨bk aE.out⟩, ⟨bl HB.out⟩⟩
    subst cC
    replace H := hP H rfl
    have H' := aM H
    clear H
    have iF := aG.out
    have iG := aH.out
    have fP := cA11 aC.out
    go_wp2
    go_meet
    case rel => exact ⟨_, (wrap64 (bA - 1)), H', ⟨by have := HJ2.out; first | omega | exact Nat.le_refl _⟩, ⟨by (with_reducible repeat (first | refine blk_drewN ?_ _ | refine blk_drew ?_ | refine blk_alloc ?_ _)); refine blk_put (cs := #[aK, aN, aQ, aT, aV, aW, aX, aZ, aD, bA, bD]) ?_ 9 _ rfl; (with_reducible repeat (first | refine blk_drewN ?_ _ | refine blk_drew ?_ | refine blk_alloc ?_ _)); exact aC.out⟩, ⟨fm aE.out⟩, ⟨bl HB.out⟩⟩
   case rest =>
    clear cN
    repeat first|clear c1|clear c2|clear p2|clear c6|clear p6|clear bH|clear aJ|clear bW|clear gV|clear bI|clear bX|clear bY|clear gW|clear gX|clear gY|clear iP|clear cC|clear iQ|clear cP|clear cS|clear cD|clear cT|clear cU|clear cV|clear cW|clear cX|clear cY|clear dA|clear dB|clear cR|clear dC|clear cE|clear dD|clear dE|clear dF|clear dG|clear dH|clear dI|clear dJ|clear dK|clear cQ|clear dL|clear cG|clear dM|clear dN|clear dO|clear dP|clear dQ|clear dR|clear dS|clear dU|clear fP|clear fU|clear fS|clear fV|clear fW|clear fX|clear fY|clear gA|clear gB|clear gG|clear gH|clear fA|clear fB|clear dV|clear dW|clear cH|clear dX|clear dY|clear dZ|clear eA|clear eB|clear eC|clear eD|clear eE|clear eF|clear eG|clear cK|clear eH|clear eI|clear eJ|clear eK|clear eL|clear eM|clear eN|clear eO|clear eP|clear eQ|clear cL|clear eR|clear eS|clear eT|clear eU|clear eV|clear eW|clear eX|clear eY|clear gJ|clear gK|clear fT|clear gM|clear gN|clear gO|clear gP|clear gQ|clear gR|clear gS|clear gT|clear p2
    obtain ⟨kq, aI, HA, HJ17, aC, aE, HB⟩ := hcut
    cases kq with
    | zero => exact absurd HA.out (by simp [spec_l8Tick.j1])
    | succ iO =>
     have H := HA.out
     clear HA
     simp only [spec_l8Tick.j1] at H
     obtain ⟨⟨fC, fD, fE, fF, fG, fH, fI, fK, fL, fM, fN⟩, fO, H⟩ := hB H
     try dsimp only at H
     have hJ := aM fO
     clear fO
     simp only [Option.some.injEq, Prod.mk.injEq] at H
     obtain ⟨rfl, rfl, rfl, rfl, rfl, rfl, rfl, rfl, rfl, rfl, rfl⟩ := H
     have iH := aG.out
     have iI := aH.out
     have iJ := cA11 aC.out
     go_wp2_with (first | ((with_reducible refine gC (f := 142) rfl ?_); refine gL (some 23) Try.func142 #[.agg #[aK, aN, aQ, aT, aV, aW, aX, aZ, aD, aI, bD]] ?_; (with_reducible refine (spec_l7Open.calls aK aN aQ aT aV aW aX aZ aD aI bD fC fD fE fF fG fH fI fK fL fM fN _ hJ.out).mono ?_); rintro e iR ⟨rfl, hb⟩; refine ⟨_, rfl, ?_⟩; replace aC := rB aC hb; replace aE := rB aE hb; replace HB := rS HB hb; (try clear hb); have iK := cA11 aE.out))
     refine bodyPost_ret (results_cell_row rfl _ _ bV 79 #[fC, fD, fE, fF, fG, fH, fI, fK, fL, fM, fN] (0, 0) _ rfl (bm aE.out) Try.underlying79 rfl (by kernel_rfl)) rfl ?_
     exact ⟨xW, bl HB.out⟩

end Go.Proofs.Ythmijfekdeagpaa.PFnRootPorts

/- A part of the proof of laws.FnExactGate. No condition beyond what its theorems say. -/
import Derived.Test.YthmijfekdeagpaaVFnExactGatePx6
namespace Go.Proofs.Ythmijfekdeagpaa.PFnExactGate
open Go.RowKit Go.Proofs.YthmijfekdeagpaaW.PrintWords Go.Proofs.YthmijfekdeagpaaW.PrintLast Go.Proofs.YthmijfekdeagpaaW.PrintMore
set_option linter.unusedVariables false
set_option linter.unusedSimpArgs false

mutual
def impl_TableOk.l0 : Nat → List (S138) → List (S138) → Int → Int → Option (Bool)
 | 0, _, _, _, _ => none
 | k + 1, x0, x5, x6, x7 => if x7 < x6 then (if 0 ≤ x7 then (if x7 < (x5.length : Int) then ((impl_isAddr.f ((rd_T138 x5 x7).f0)).bind fun aA => (if aA = true then ((impl_isVlan.f ((rd_T138 x5 x7).f1)).bind fun aC => (if aC = true then ((impl_isPort.f ((rd_T138 x5 x7).f2)).bind fun aD => (if aD = true then ((impl_inRange.f ((rd_T138 x5 x7).f3) 1 20).bind fun aE => (impl_TableOk.j1 k x0 x7 x5 x6 x7 (!aE) ((rd_T138 x5 x7).f0) ((rd_T138 x5 x7).f1) ((rd_T138 x5 x7).f2) ((rd_T138 x5 x7).f3))) else (impl_TableOk.j1 k x0 x7 x5 x6 x7 true ((rd_T138 x5 x7).f0) ((rd_T138 x5 x7).f1) ((rd_T138 x5 x7).f2) ((rd_T138 x5 x7).f3)))) else (impl_TableOk.j1 k x0 x7 x5 x6 x7 true ((rd_T138 x5 x7).f0) ((rd_T138 x5 x7).f1) ((rd_T138 x5 x7).f2) ((rd_T138 x5 x7).f3)))) else (impl_TableOk.j1 k x0 x7 x5 x6 x7 true ((rd_T138 x5 x7).f0) ((rd_T138 x5 x7).f1) ((rd_T138 x5 x7).f2) ((rd_T138 x5 x7).f3)))) else (none)) else (none)) else (some (decide ((x0.length : Int) ≤ 12)))
def impl_TableOk.j1 : Nat → List (S138) → Int → List (S138) → Int → Int → Bool → Int → Int → Int → Int → Option (Bool)
 | 0, _, _, _, _, _, _, _, _, _, _ => none
 | k + 1, x0, x3, x5, x6, x7, aH, aA, aC, aD, aE => if aH = true then (some false) else (if x3 > 0 then (if 0 ≤ (wrap64 (x3 - 1)) then (if (wrap64 (x3 - 1)) < (x0.length : Int) then ((impl_ahead.f ((rd_T138 x0 (wrap64 (x3 - 1))).f0) ((rd_T138 x0 (wrap64 (x3 - 1))).f1) ((rd_T138 x0 (wrap64 (x3 - 1))).f2) ((rd_T138 x0 (wrap64 (x3 - 1))).f3) aA aC aD aE).bind fun aG => (if aG = true then (impl_TableOk.l0 k x0 x5 x6 (wrap64 (x7 + 1))) else (some false))) else (none)) else (none)) else (impl_TableOk.l0 k x0 x5 x6 (wrap64 (x7 + 1))))
end
def impl_TableOk.f (k : Nat) (l0 : List (S138)) : Option (Bool) := impl_TableOk.l0 k l0 l0 (l0.length : Int) 0
theorem impl_TableOk.mono_l : ∀ k, (∀ y0 y1 y2 y3, LeO (impl_TableOk.l0 k y0 y1 y2 y3) (impl_TableOk.l0 (k + 1) y0 y1 y2 y3)) ∧ (∀ y0 y1 y2 y3 y4 y5 y6 y7 y8 y9, LeO (impl_TableOk.j1 k y0 y1 y2 y3 y4 y5 y6 y7 y8 y9) (impl_TableOk.j1 (k + 1) y0 y1 y2 y3 y4 y5 y6 y7 y8 y9))
 | 0 => by refine ⟨?_, ?_⟩ <;> intros <;> intro r h <;> simp [impl_TableOk.l0, impl_TableOk.j1] at h
 | k + 1 => by
  obtain ⟨ih0, ih1⟩ := impl_TableOk.mono_l k
  refine ⟨?_, ?_⟩
  ·intro y0 y1 y2 y3
   unfold impl_TableOk.l0
   repeat' first|(with_reducible first|apply ih0|apply ih1|exact lR _|exact lN _|refine lI ?_ ?_|refine lB ?_ fun _ => ?_)|exact lN _|refine lI ?_ ?_|refine lB ?_ fun _ => ?_
  ·intro y0 y1 y2 y3 y4 y5 y6 y7 y8 y9
   unfold impl_TableOk.j1
   repeat' first|(with_reducible first|apply ih0|apply ih1|exact lR _|exact lN _|refine lI ?_ ?_|refine lB ?_ fun _ => ?_)|exact lN _|refine lI ?_ ?_|refine lB ?_ fun _ => ?_
theorem impl_TableOk.mono : ∀ a0 k, LeO (impl_TableOk.f k a0) (impl_TableOk.f (k + 1) a0) := by
 intro a0 k
 obtain ⟨ih0, ih1⟩ := impl_TableOk.mono_l k
 unfold impl_TableOk.f
 repeat' first|(with_reducible first|apply ih0|apply ih1|exact lR _|exact lN _|refine lI ?_ ?_|refine lB ?_ fun _ => ?_)|exact lN _|refine lI ?_ ?_|refine lB ?_ fun _ => ?_
def impl_TableOk.T6 : Bool × List (List Nat × List Nat) := (true, [([], []), ([0], [0]), ([1], [1]), ([2], [2]), ([2], [2]), ([4, 2], [2, 4]), ([3, 5, 2], [2, 3, 5]), ([6, 2], [2, 6]), ([2], [2]), ([7, 8, 2, 2], [2, 7, 8]), ([9, 2], [2, 9]), ([2, 10], [2, 10])])
def impl_TableOk.B6 : List Nat := [0, 1, 3, 7, 7, 23, 63, 127, 7, 511, 1023, 2047]
theorem impl_TableOk.tab6 : rtab .any (opsOf Try.f114 6) = impl_TableOk.T6 := by kernel_rfl
theorem impl_TableOk.bits6 : waitsOk impl_TableOk.T6.2 impl_TableOk.B6 = true := by kernel_rfl
set_option maxHeartbeats 60000000 in
set_option maxRecDepth 100000 in
theorem impl_TableOk.calls (k : Nat) (A0 : Option Addr) (c0 : Nat) (l0 : List (S138)) (r : Bool) (w : World) (hr0 : Kd.C k138 w A0 l0.length l0) (hc0 : l0.length ≤ c0) (h : impl_TableOk.f k l0 = some r) :
  Calls Try.prog 114 #[.slice A0 l0.length c0] w fun e w' => e = .returned (.bool r) ∧ Below w.heap.size w w' := by
 have dE := Try.underlying138
 have cD := aM hr0
 have dO := aM hc0
 clear hr0 hc0
 have HB := aM (Below.refl w.heap.size w)
 have H : (impl_TableOk.l0 k l0 l0 (l0.length : Int) 0) = some r := h
 clear h
 have H' := aM H
 clear H
 go_enter Try.func114, Try.ntmps114
 go_wp2
 go_loopg [7] k (fun kq v7 w' => ∃ (aA : Int), v7 = .int .i64 aA ∧ Aside0 (impl_TableOk.l0 kq l0 l0 (l0.length : Int) aA = some r) ∧ Aside0 (kq ≤ k) ∧ Aside0 (Below w.heap.size w w'))
 case atStart => exact ⟨(0), xE, H', ⟨Nat.le_refl _⟩, ⟨bl HB.out⟩⟩
 case round =>
  clear H'
  try clear c1
  obtain ⟨aA, rfl, HA, aW, HB⟩ := hrel
  cases gk with
  | zero => exact absurd HA.out (by simp [impl_TableOk.l0])
  | succ k1 =>
   have H := HA.out
   clear HA
   simp only [impl_TableOk.l0] at H
   by_cases c2 : aA < (l0.length : Int)
   case neg =>
    rw [if_neg c2] at H
    have cE := decide_eq_false c2
    clear c2
    obtain rfl := Option.some.inj H
    go_wp2
    go_ret
    exact ⟨xW, bl HB.out⟩
   rw [if_pos c2] at H
   have cE := decide_eq_true c2
   clear c2
   obtain ⟨cV, H⟩ := gI H
   obtain ⟨cW, H⟩ := gI H
   have cG := aM H
   clear H
   have bL : 0 ≤ (aA : Int) := dT
   have bM : aA < (l0.length : Int) := dT
   obtain ⟨aD, cX, bA, bD, bI, bJ⟩ := at_T138 cD.out aA bL bM
   cases cX
   replace bA := xB HB bA
   replace bD := xB HB bD
   replace bI := xB HB bI
   replace bJ := xB HB bJ
   replace bL := eq_true bL
   replace bM := eq_true bM
   go_upto_region 4 with (first | ((with_reducible refine gD (N := 4) rfl ?_); refine bE (N := 4) (cs := #[.int .i64 0, .int .i64 0, .int .i64 0, .int .i64 0]) (t := 138) ?_; intro bN hg w6 hbox hb; have aC := aM (hbox); have dF := gF hg HB; have dG := gF hg HB; replace HB := rS HB hb; clear hb hbox hg; have dN := cA4 aC.out))
   (try simp only [Act.put, sA, sZ, sS])
   go_cut [33] (fun dC wc => ∃ (kq : Nat) (aX : Bool), dC = .bool aX ∧ Aside0 (impl_TableOk.j1 kq l0 aA l0 (l0.length : Int) aA aX ((rd_T138 l0 aA).f0) ((rd_T138 l0 aA).f1) ((rd_T138 l0 aA).f2) ((rd_T138 l0 aA).f3) = some r) ∧ Aside0 (kq ≤ k1) ∧ Aside0 (wc.heap[bN]? = some (.cells #[((rd_T138 l0 aA).f0), ((rd_T138 l0 aA).f1), ((rd_T138 l0 aA).f2), ((rd_T138 l0 aA).f3)] 138 (0, 0))) ∧ Aside0 (Below w.heap.size w wc))
   case first =>
    have H := cG.out
    clear cG
    obtain ⟨cY, cS, H⟩ := hB H
    have A8 := aM cS
    clear cS
    by_cases c9 : cY = true
    case neg =>
     replace c9 := Bool.eq_false_iff.mpr c9
     subst c9
     replace H := hF H
     have H' := aM H
     clear H
     have dH := cA4 aC.out
     go_wp2_with (first | ((with_reducible refine gC (f := 129) rfl ?_); refine gL (some 14) Try.func129 #[((rd_T138 l0 aA).f0)] ?_; (with_reducible refine (impl_isAddr.calls ((rd_T138 l0 aA).f0) false _ A8.out).mono ?_); rintro e w' ⟨rfl, ⟨nd, rfl⟩⟩; refine ⟨_, rfl, ?_⟩))
     go_meet
     case rel => exact ⟨_, (true), xE, H', ⟨by have := aW.out; first | omega | exact Nat.le_refl _⟩, ⟨bm aC.out⟩, ⟨bl HB.out⟩⟩
    subst c9
    replace H := hP H rfl
    obtain ⟨dA, cH, H⟩ := hB H
    have cK := aM cH
    clear cH
    by_cases bP : dA = true
    case neg =>
     replace bP := Bool.eq_false_iff.mpr bP
     subst bP
     replace H := hF H
     have H' := aM H
     clear H
     have dI := cA4 aC.out
     go_wp2_with (first | ((with_reducible refine gC (f := 129) rfl ?_); refine gL (some 14) Try.func129 #[((rd_T138 l0 aA).f0)] ?_; (with_reducible refine (impl_isAddr.calls ((rd_T138 l0 aA).f0) true _ A8.out).mono ?_); rintro e w' ⟨rfl, ⟨nd, rfl⟩⟩; refine ⟨_, rfl, ?_⟩) | (go_at_call 169; (with_reducible refine (impl_isVlan.calls ((rd_T138 l0 aA).f1) false _ cK.out).mono ?_); rintro e w' ⟨rfl, ⟨nd, rfl⟩⟩))
     go_meet
     case rel => exact ⟨_, (true), xE, H', ⟨by have := aW.out; first | omega | exact Nat.le_refl _⟩, ⟨bm aC.out⟩, ⟨bl HB.out⟩⟩
    subst bP
    replace H := hP H rfl
    obtain ⟨dB, cL, H⟩ := hB H
    have cT := aM cL
    clear cL
    by_cases bQ : dB = true
    case neg =>
     replace bQ := Bool.eq_false_iff.mpr bQ
     subst bQ
     replace H := hF H
     have H' := aM H
     clear H
     have dJ := cA4 aC.out
     go_wp2_with (first | ((with_reducible refine gC (f := 129) rfl ?_); refine gL (some 14) Try.func129 #[((rd_T138 l0 aA).f0)] ?_; (with_reducible refine (impl_isAddr.calls ((rd_T138 l0 aA).f0) true _ A8.out).mono ?_); rintro e w' ⟨rfl, ⟨nd, rfl⟩⟩; refine ⟨_, rfl, ?_⟩) | (go_at_call 169; (with_reducible refine (impl_isVlan.calls ((rd_T138 l0 aA).f1) true _ cK.out).mono ?_); rintro e w' ⟨rfl, ⟨nd, rfl⟩⟩) | (go_at_call 170; (with_reducible refine (impl_isPort.calls ((rd_T138 l0 aA).f2) false _ cT.out).mono ?_); rintro e w' ⟨rfl, ⟨nd, rfl⟩⟩))
     go_meet
     case rel => exact ⟨_, (true), xE, H', ⟨by have := aW.out; first | omega | exact Nat.le_refl _⟩, ⟨bm aC.out⟩, ⟨bl HB.out⟩⟩
    subst bQ
    replace H := hP H rfl
    obtain ⟨cN, cO, H⟩ := hB H
    have dD := aM cO
    clear cO
    have H' := aM H
    clear H
    have dK := cA4 aC.out
    go_wp2_with (first | ((with_reducible refine gC (f := 129) rfl ?_); refine gL (some 14) Try.func129 #[((rd_T138 l0 aA).f0)] ?_; (with_reducible refine (impl_isAddr.calls ((rd_T138 l0 aA).f0) true _ A8.out).mono ?_); rintro e w' ⟨rfl, ⟨nd, rfl⟩⟩; refine ⟨_, rfl, ?_⟩) | (go_at_call 169; (with_reducible refine (impl_isVlan.calls ((rd_T138 l0 aA).f1) true _ cK.out).mono ?_); rintro e w' ⟨rfl, ⟨nd, rfl⟩⟩) | (go_at_call 170; (with_reducible refine (impl_isPort.calls ((rd_T138 l0 aA).f2) true _ cT.out).mono ?_); rintro e w' ⟨rfl, ⟨nd, rfl⟩⟩) | (go_at_call 86; (with_reducible refine (impl_inRange.calls ((rd_T138 l0 aA).f3) 1 20 cN _ dD.out).mono ?_); rintro e w' ⟨rfl, ⟨nd, rfl⟩⟩))
    go_meet
    case rel => exact ⟨_, (!cN), xE, H', ⟨by have := aW.out; first | omega | exact Nat.le_refl _⟩, ⟨bm aC.out⟩, ⟨bl HB.out⟩⟩
   case rest =>
    clear cG
    repeat first|clear c1|clear c2|clear cE|clear p2|clear q2|clear c3|clear cV|clear c4|clear cW|clear c9|clear bP|clear dP|clear bQ|clear bL|clear bM
    obtain ⟨kq, aX, rfl, HA, HJ4, aC, HB⟩ := hcut
    cases kq with
    | zero => exact absurd HA.out (by simp [impl_TableOk.j1])
    | succ cP =>
     have H := HA.out
     clear HA
     simp only [impl_TableOk.j1] at H
     by_cases cA : aX = true
     case pos =>
      subst cA
      replace H := hP H rfl
      obtain rfl := Option.some.inj H
      go_wp2
      go_ret
      exact ⟨xW, bl HB.out⟩
     replace cA := Bool.eq_false_iff.mpr cA
     subst cA
     replace H := hF H
     by_cases bK : aA > 0
     case neg =>
      rw [if_neg bK] at H
      have cR := decide_eq_false bK
      clear bK
      have H' := aM H
      clear H
      try go_wp2
      replace aC := aM (blk_drew aC.out)
      replace HB := aM (below_drew1 HB.out)
      refine start_ (n := 12) (S := fun w' => True) (ds := []) (dn 12 0) (by kernel_rfl) rfl rfl trivial (fun hHeld => ?_); refine with_tabW impl_TableOk.tab6 impl_TableOk.bits6 (fun HT_ HW_ => ?_)
      generalize wc.drew = dQ at aC HB hHeld ⊢
      refine nY (N := some 34) HT_ ?_
      refine nY (N := some 35) HT_ ?_
      refine nY (N := some 36) HT_ ?_
      refine nU (N := some 37) HT_ ?_
      refine nU (N := some 38) HT_ ?_
      refine nU (N := some 39) HT_ ?_
      refine nU (N := some 40) HT_ ?_
      refine nU (N := some 41) HT_ ?_
      refine nU (N := some 42) HT_ ?_
      refine nU (N := some 43) HT_ ?_
      refine nU (N := some 44) HT_ ?_
      refine nY (N := some 45) HT_ ?_
      refine done_ (done_of HT_.out (by kernel_rfl)) ?_
      try go_wp2
      go_roundg cP
      case measure => have := aW.out; have := HJ4.out; omega
      case rel => exact ⟨(wS aA), xE, H', ⟨by have := aW.out; have := HJ4.out; omega⟩, ⟨bl HB.out⟩⟩
     rw [if_pos bK] at H
     have cR := decide_eq_true bK
     clear bK
     obtain ⟨ji21, hji21⟩ : ∃ j_ : Int, (wrap64 (aA - 1)) = j_ := ⟨_, rfl⟩
     replace H : (if 0 ≤ (ji21) then (if (ji21) < (l0.length : Int) then ((impl_ahead.f ((rd_T138 l0 (ji21)).f0) ((rd_T138 l0 (ji21)).f1) ((rd_T138 l0 (ji21)).f2) ((rd_T138 l0 (ji21)).f3) ((rd_T138 l0 aA).f0) ((rd_T138 l0 aA).f1) ((rd_T138 l0 aA).f2) ((rd_T138 l0 aA).f3)).bind fun bU => (if bU = true then (impl_TableOk.l0 cP l0 l0 (l0.length : Int) (wS aA)) else (some false))) else (none)) else (none)) = some r := by first | (rw [hji21] at H; exact H) | (simp only [hji21] at H ⊢; exact H)
     have hji21w : (IntKind.i64.wrap (aA - 1)) = ji21 := (i64_w _).trans hji21
     obtain ⟨dL, H⟩ := gI H
     obtain ⟨dM, H⟩ := gI H
     obtain ⟨bU, cQ, H⟩ := hB H
     have cU := aM cQ
     clear cQ
     by_cases cC : bU = true
     case neg =>
      replace cC := Bool.eq_false_iff.mpr cC
      subst cC
      replace H := hF H
      obtain rfl := Option.some.inj H
      try go_wp2
      replace aC := aM (blk_drew aC.out)
      replace HB := aM (below_drew1 HB.out)
      have aT : 0 ≤ ((ji21) : Int) := dT
      have aV : (ji21) < (l0.length : Int) := dT
      obtain ⟨bO, bW, aE, aG, aH, aI⟩ := at_T138 cD.out (ji21) aT aV
      have aJ := aI
      have aK := aH
      have aN := aG
      have aQ := aE
      obtain rfl : aD = bO := (by injection bW)
      replace aE := xB HB aE
      replace aG := xB HB aG
      replace aH := xB HB aH
      replace aI := xB HB aI
      replace aT := eq_true aT
      replace aV := eq_true aV
      refine start_ (n := 12) (S := fun w' => cT4 w' bN (.int .i64 ((rd_T138 l0 aA).f0)) (.int .i64 ((rd_T138 l0 aA).f1)) (.int .i64 ((rd_T138 l0 aA).f2)) (.int .i64 ((rd_T138 l0 aA).f3)) (w'.cell? (aD.add (((ji21)).toNat * 4)) = some ((rd_T138 l0 (ji21)).f0) ∧ w'.cell? ⟨(aD.add (((ji21)).toNat * 4)).block, (aD.add (((ji21)).toNat * 4)).off + 1, none⟩ = some ((rd_T138 l0 (ji21)).f1) ∧ w'.cell? ⟨(aD.add (((ji21)).toNat * 4)).block, (aD.add (((ji21)).toNat * 4)).off + 2, none⟩ = some ((rd_T138 l0 (ji21)).f2) ∧ w'.cell? ⟨(aD.add (((ji21)).toNat * 4)).block, (aD.add (((ji21)).toNat * 4)).off + 3, none⟩ = some ((rd_T138 l0 (ji21)).f3))) (ds := []) (dn 12 0) (by kernel_rfl) rfl rfl ⟨cI aC.out 0, cI aC.out 1, cI aC.out 2, cI aC.out 3, (xB HB aQ :), (xB HB aN :), (xB HB aK :), (xB HB aJ :)⟩ (fun hHeld => ?_); refine with_tabW impl_TableOk.tab6 impl_TableOk.bits6 (fun HT_ HW_ => ?_)
      generalize wc.drew = dR at aC HB aE aG aH aI hHeld ⊢
      refine nY (N := some 34) HT_ ?_
      refine nY (N := some 35) HT_ ?_
      refine nY (N := some 36) HT_ ?_
      refine nY (N := some 37) HT_ ?_
      refine nY (N := some 38) HT_ ?_
      refine nY (N := some 39) HT_ ?_
      refine nY (N := some 40) HT_ ?_
      refine tY (N := some 41) HT_ HW_ hHeld ?_
      refine tY (N := some 42) HT_ HW_ hHeld ?_
      refine oN (N := some 43) HT_ (fun K hK => ?_)
      refine goes_ Try.func162 (by kernel_rfl) rfl #[.agg #[((rd_T138 l0 (ji21)).f0), ((rd_T138 l0 (ji21)).f1), ((rd_T138 l0 (ji21)).f2), ((rd_T138 l0 (ji21)).f3)], .agg #[((rd_T138 l0 aA).f0), ((rd_T138 l0 aA).f1), ((rd_T138 l0 aA).f2), ((rd_T138 l0 aA).f3)]] (by rfl) rfl rfl (by (try simp only [List.map_toArray, List.map_cons, List.map_nil]); first | done | (simp only [hji21]; rfl) | rfl | (simp only [List.length_drop, List.length_take]; rfl)) ?_
      with_reducible refine (impl_ahead.calls ((rd_T138 l0 (ji21)).f0) ((rd_T138 l0 (ji21)).f1) ((rd_T138 l0 (ji21)).f2) ((rd_T138 l0 (ji21)).f3) ((rd_T138 l0 aA).f0) ((rd_T138 l0 aA).f1) ((rd_T138 l0 aA).f2) ((rd_T138 l0 aA).f3) false _ cU.out).mono ?_
      rintro e dS ⟨rfl, hb⟩
      refine ⟨_, rfl, ?_⟩
      replace aC := rB aC hb
      replace HB := rS HB hb
      (try clear hb)
      (try clear hb2)
      (try clear hk)
      (try clear hi)
      refine hK.out _ _ ⟨cI aC.out 0, cI aC.out 1, cI aC.out 2, cI aC.out 3, (xB HB aQ :), (xB HB aN :), (xB HB aK :), (xB HB aJ :)⟩ (fun hHeld => ?_)
      clear hK K
      refine norm_ (a' := ?_) ?_ ?_
      rotate_left
      ·show Act.put _ (some 43) _ = _
       simp only [Act.put, sA, sZ, sS, i64_w, i32_w]
       rfl
      refine nY (N := some 44) HT_ ?_
      refine nY (N := some 45) HT_ ?_
      refine done_ (done_of HT_.out (by kernel_rfl)) ?_
      try go_wp2
      go_ret
      exact ⟨by first | rfl | (simp [errW_none, errW_some] <;> rfl) | (simp only [← hji21]; first | rfl | (simp [errW_none, errW_some] <;> rfl)) | (simp [*, errW_none, errW_some] <;> rfl), bl HB.out⟩
     subst cC
     replace H := hP H rfl
     have H' := aM H
     clear H
     try go_wp2
     replace aC := aM (blk_drew aC.out)
     replace HB := aM (below_drew1 HB.out)
     have aT : 0 ≤ ((ji21) : Int) := dT
     have aV : (ji21) < (l0.length : Int) := dT
     obtain ⟨bO, bW, aE, aG, aH, aI⟩ := at_T138 cD.out (ji21) aT aV
     have aJ := aI
     have aK := aH
     have aN := aG
     have aQ := aE
     obtain rfl : aD = bO := (by injection bW)
     replace aE := xB HB aE
     replace aG := xB HB aG
     replace aH := xB HB aH
     replace aI := xB HB aI
     replace aT := eq_true aT
     replace aV := eq_true aV
     refine start_ (n := 12) (S := fun w' => cT4 w' bN (.int .i64 ((rd_T138 l0 aA).f0)) (.int .i64 ((rd_T138 l0 aA).f1)) (.int .i64 ((rd_T138 l0 aA).f2)) (.int .i64 ((rd_T138 l0 aA).f3)) (w'.cell? (aD.add (((ji21)).toNat * 4)) = some ((rd_T138 l0 (ji21)).f0) ∧ w'.cell? ⟨(aD.add (((ji21)).toNat * 4)).block, (aD.add (((ji21)).toNat * 4)).off + 1, none⟩ = some ((rd_T138 l0 (ji21)).f1) ∧ w'.cell? ⟨(aD.add (((ji21)).toNat * 4)).block, (aD.add (((ji21)).toNat * 4)).off + 2, none⟩ = some ((rd_T138 l0 (ji21)).f2) ∧ w'.cell? ⟨(aD.add (((ji21)).toNat * 4)).block, (aD.add (((ji21)).toNat * 4)).off + 3, none⟩ = some ((rd_T138 l0 (ji21)).f3))) (ds := []) (dn 12 0) (by kernel_rfl) rfl rfl ⟨cI aC.out 0, cI aC.out 1, cI aC.out 2, cI aC.out 3, (xB HB aQ :), (xB HB aN :), (xB HB aK :), (xB HB aJ :)⟩ (fun hHeld => ?_); refine with_tabW impl_TableOk.tab6 impl_TableOk.bits6 (fun HT_ HW_ => ?_)
     generalize wc.drew = dU at aC HB aE aG aH aI hHeld ⊢
     refine nY (N := some 34) HT_ ?_
     refine nY (N := some 35) HT_ ?_
     refine nY (N := some 36) HT_ ?_
     refine nY (N := some 37) HT_ ?_
     refine nY (N := some 38) HT_ ?_
     refine nY (N := some 39) HT_ ?_
     refine nY (N := some 40) HT_ ?_
     refine tY (N := some 41) HT_ HW_ hHeld ?_
     refine tY (N := some 42) HT_ HW_ hHeld ?_
     refine oN (N := some 43) HT_ (fun K hK => ?_)
     refine goes_ Try.func162 (by kernel_rfl) rfl #[.agg #[((rd_T138 l0 (ji21)).f0), ((rd_T138 l0 (ji21)).f1), ((rd_T138 l0 (ji21)).f2), ((rd_T138 l0 (ji21)).f3)], .agg #[((rd_T138 l0 aA).f0), ((rd_T138 l0 aA).f1), ((rd_T138 l0 aA).f2), ((rd_T138 l0 aA).f3)]] (by rfl) rfl rfl (by (try simp only [List.map_toArray, List.map_cons, List.map_nil]); first | done | (simp only [hji21]; rfl) | rfl | (simp only [List.length_drop, List.length_take]; rfl)) ?_
     with_reducible refine (impl_ahead.calls ((rd_T138 l0 (ji21)).f0) ((rd_T138 l0 (ji21)).f1) ((rd_T138 l0 (ji21)).f2) ((rd_T138 l0 (ji21)).f3) ((rd_T138 l0 aA).f0) ((rd_T138 l0 aA).f1) ((rd_T138 l0 aA).f2) ((rd_T138 l0 aA).f3) true _ cU.out).mono ?_
     rintro e dV ⟨rfl, hb⟩
     refine ⟨_, rfl, ?_⟩
     replace aC := rB aC hb
     replace HB := rS HB hb
     (try clear hb)
     (try clear hb2)
     (try clear hk)
     (try clear hi)
     refine hK.out _ _ ⟨cI aC.out 0, cI aC.out 1, cI aC.out 2, cI aC.out 3, (xB HB aQ :), (xB HB aN :), (xB HB aK :), (xB HB aJ :)⟩ (fun hHeld => ?_)
     clear hK K
     refine norm_ (a' := ?_) ?_ ?_
     rotate_left
     ·show Act.put _ (some 43) _ = _
      simp only [Act.put, sA, sZ, sS, i64_w, i32_w]
      rfl
     refine nY (N := some 44) HT_ ?_
     refine nY (N := some 45) HT_ ?_
     refine done_ (done_of HT_.out (by kernel_rfl)) ?_
     try go_wp2
     go_roundg cP
     case measure => have := aW.out; have := HJ4.out; omega
     case rel => exact ⟨(wS aA), xE, H', ⟨by have := aW.out; have := HJ4.out; omega⟩, ⟨bl HB.out⟩⟩

end Go.Proofs.Ythmijfekdeagpaa.PFnExactGate

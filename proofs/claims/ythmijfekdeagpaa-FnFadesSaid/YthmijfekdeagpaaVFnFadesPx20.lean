/- A part of the proof of laws.FnFades. No condition beyond what its theorems say. -/
import Derived.Test.YthmijfekdeagpaaVFnFadesPx18
import Derived.Test.YthmijfekdeagpaaVFnFadesPx19
namespace Go.Proofs.Ythmijfekdeagpaa.PFnFades
open Go.RowKit Go.Proofs.YthmijfekdeagpaaW.PrintWords Go.Proofs.YthmijfekdeagpaaW.PrintLast Go.Proofs.YthmijfekdeagpaaW.PrintMore
set_option linter.unusedVariables false
set_option linter.unusedSimpArgs false

mutual
def spec_l8DrawRight.l0 : Nat → Int → List Int → Int → Int → Int → List (S79) → Option (Int × (List (S79)) × Int × Int)
 | 0, _, _, _, _, _, _ => none
 | k + 1, x5, aE, aG, aH, aD, aA => if x5 < (aA.length : Int) then ((spec_l1Once.f aE aG aH 4).bind fun aC => (if aC.1 = true then (spec_l8DrawRight.l0 k (wrap64 (x5 + 1)) aE aC.2.1 aC.2.2 aD aA) else ((spec_React.f k aD aA 3 x5 0 0 0 0 0 true).bind fun aI => (spec_l8DrawRight.l0 k (wrap64 (x5 + 1)) aE aC.2.1 aC.2.2 aI.1 aI.2.1)))) else (spec_l8DrawRight.l1 k 0 aE aG aH aD aA)
def spec_l8DrawRight.l1 : Nat → Int → List Int → Int → Int → Int → List (S79) → Option (Int × (List (S79)) × Int × Int)
 | 0, _, _, _, _, _, _ => none
 | k + 1, x6, aG, aI, aJ, aD, aE => (spec_l1Below.f aG aI aJ 10).bind fun aC => (if x6 < aC.1 then ((spec_l8DrawIn.f aG aC.2.1 aC.2.2).bind fun aA => ((spec_React.f k aD aE aA.1 aA.2.1 aA.2.2.1 aA.2.2.2.1 aA.2.2.2.2.1 aA.2.2.2.2.2.1 aA.2.2.2.2.2.2.1 aA.2.2.2.2.2.2.2.1).bind fun aH => (spec_l8DrawRight.l1 k (wrap64 (x6 + 1)) aG aA.2.2.2.2.2.2.2.2.1 aA.2.2.2.2.2.2.2.2.2 aH.1 aH.2.1))) else (some (aD, aE, aC.2.1, aC.2.2)))
end
def spec_l8DrawRight.f (k : Nat) (aD : List Int) (aG aH : Int) : Option (Int × (List (S79)) × Int × Int) := (spec_l1Below.f aD aG aH 6).bind fun aA => ((spec_l1Below.f aD aA.2.1 aA.2.2 4).bind fun aC => ((spec_BridgeNew.f k (wrap64 (1 + aA.1)) (wrap64 (1 + aC.1))).bind fun aE => (spec_l8DrawRight.l0 k 0 aD aC.2.1 aC.2.2 aE.1 aE.2.1)))
theorem spec_l8DrawRight.mono_l : ∀ k, (∀ y0 y1 y2 y3 y4 y5, LeO (spec_l8DrawRight.l0 k y0 y1 y2 y3 y4 y5) (spec_l8DrawRight.l0 (k + 1) y0 y1 y2 y3 y4 y5)) ∧ (∀ y0 y1 y2 y3 y4 y5, LeO (spec_l8DrawRight.l1 k y0 y1 y2 y3 y4 y5) (spec_l8DrawRight.l1 (k + 1) y0 y1 y2 y3 y4 y5))
 | 0 => by refine ⟨?_, ?_⟩ <;> intros <;> intro r h <;> simp [spec_l8DrawRight.l0, spec_l8DrawRight.l1] at h
 | k + 1 => by
  obtain ⟨ih0, ih1⟩ := spec_l8DrawRight.mono_l k
  refine ⟨?_, ?_⟩
  ·intro y0 y1 y2 y3 y4 y5
   unfold spec_l8DrawRight.l0
   repeat' first|(with_reducible first|apply ih0|apply ih1|apply spec_BridgeNew.mono|apply spec_React.mono|exact lR _|exact lN _|refine lI ?_ ?_|refine lB ?_ fun _ => ?_)|exact lN _|refine lI ?_ ?_|refine lB ?_ fun _ => ?_
  ·intro y0 y1 y2 y3 y4 y5
   unfold spec_l8DrawRight.l1
   repeat' first|(with_reducible first|apply ih0|apply ih1|apply spec_BridgeNew.mono|apply spec_React.mono|exact lR _|exact lN _|refine lI ?_ ?_|refine lB ?_ fun _ => ?_)|exact lN _|refine lI ?_ ?_|refine lB ?_ fun _ => ?_
theorem spec_l8DrawRight.mono : ∀ a0 a1 a2 k, LeO (spec_l8DrawRight.f k a0 a1 a2) (spec_l8DrawRight.f (k + 1) a0 a1 a2) := by
 intro a0 a1 a2 k
 obtain ⟨ih0, ih1⟩ := spec_l8DrawRight.mono_l k
 unfold spec_l8DrawRight.f
 repeat' first|(with_reducible first|apply ih0|apply ih1|apply spec_BridgeNew.mono|apply spec_React.mono|exact lR _|exact lN _|refine lI ?_ ?_|refine lB ?_ fun _ => ?_)|exact lN _|refine lI ?_ ?_|refine lB ?_ fun _ => ?_
def spec_l8DrawRight.T10 : Bool × List (List Nat × List Nat) := (true, [([], []), ([], []), ([1], [1]), ([0, 2, 2], [0, 2]), ([3], [3]), ([4], [4]), ([4], [4]), ([5, 3, 0, 1, 2, 3, 4, 5], [5])])
def spec_l8DrawRight.B10 : List Nat := [0, 0, 2, 7, 15, 31, 31, 63]
theorem spec_l8DrawRight.tab10 : rtab .any (opsOf Try.f173 10) = spec_l8DrawRight.T10 := by kernel_rfl
theorem spec_l8DrawRight.bits10 : waitsOk spec_l8DrawRight.T10.2 spec_l8DrawRight.B10 = true := by kernel_rfl
set_option maxHeartbeats 60000000 in
set_option maxRecDepth 100000 in
theorem spec_l8DrawRight.calls (k g : Nat) (aG : List Int) (bM bN r1 : Int) (r2 : List (S79)) (r3 r4 : Int) (w0 w : World) (hI : IsS175 w0 w g aG bM bN) (hB : Below w0.heap.size w0 w) (h : spec_l8DrawRight.f k aG bM bN = some (r1, r2, r3, r4)) :
  Calls Try.prog 173 #[.pointer (some ⟨g, 0, none⟩)] w fun e w' => ∃ eA : Value, e = .returned (.agg #[r1, eA]) ∧ Kd.R k79 79 w' w.heap.size (fun _ => True) eA r2 ∧ IsS175 w0 w' g aG r3 r4 ∧ Below w0.heap.size w0 w' ∧ KeepBut w w' g none := by
 have gY := Try.underlying28
 have gZ := Try.underlying89
 have aE := aM hI
 have HK := aM (KeepBut.refl w g none)
 have HL := aM hB.size
 clear hI
 have HW0 := aM hB.size
 have HB := aM hB
 clear hB
 have H : ((spec_l1Below.f aG bM bN 6).bind fun bU => ((spec_l1Below.f aG bU.2.1 bU.2.2 4).bind fun bV => ((spec_BridgeNew.f k (wrap64 (1 + bU.1)) (wrap64 (1 + bV.1))).bind fun dA => (spec_l8DrawRight.l0 k 0 aG bV.2.1 bV.2.2 dA.1 dA.2.1)))) = some (r1, r2, r3, r4) := h
 clear h
 obtain ⟨⟨cK, dF, dG⟩, eB, H⟩ := hB H
 try dsimp only at H
 have A2 := aM eB
 clear eB
 obtain ⟨⟨cL, bW, bX⟩, eC, H⟩ := hB H
 try dsimp only at H
 have A3 := aM eC
 clear eC
 obtain ⟨⟨cN, bY, eH⟩, eD, H⟩ := hB H
 try dsimp only at H
 have A4 := aM eD
 clear eD
 have H' := aM H
 clear H
 go_enter Try.func173, Try.ntmps173
 go_wp2_with (first | ((with_reducible refine gD (N := 2) rfl ?_); refine bE (N := 2) (cs := #[.int .i64 0, .slice none 0 0]) (t := 28) ?_; intro bK hg w5 hbox hb; have aD := aM (hbox); have fF := gE hg (keep_size (km HK.out)); have fG := gE2 HW0.out hg (keep_size (km HK.out)); have dE := nL hg (IsS175.lt (show IsS175 w0 _ g aG bM bN from IsS175.mv aE.out)); have aV := nG hg (IsS175.lt (show IsS175 w0 _ g aG bM bN from IsS175.mv aE.out)); replace aE := aM (IsS175.below (IsS175.mv aE.out) hb); replace HK := rU HK hb; replace HB := aM (bS (IsS175.bl HB.out) hb); clear hb hbox hg) | ((with_reducible refine gC (f := 99) rfl ?_); refine gL (some 9) Try.func99 #[.pointer (some ⟨g, 0, none⟩), .int .i64 6] ?_; (with_reducible refine (spec_l1Below.calls g aG bM bN 6 cK dF dG w0 _ ?side1 ?side2 A2.out).mono ?_); (case side1 => exact IsS175.mv aE.out); (case side2 => exact IsS175.bl HB.out); rintro e w6 ⟨rfl, hi, hb, hk⟩; refine ⟨_, rfl, ?_⟩; replace aD := rP hk aD aV; replace HK := aM (KeepBut.trans (km HK.out) hk (.inl rfl)); replace HB := aM (hb); replace aE := aM (hi); (repeat first|clear hb|clear hk|clear hi)) | ((with_reducible refine gC (f := 99) rfl ?_); refine gL (some 12) Try.func99 #[.pointer (some ⟨g, 0, none⟩), .int .i64 4] ?_; (with_reducible refine (spec_l1Below.calls g aG dF dG 4 cL bW bX w0 _ ?side1 ?side2 A3.out).mono ?_); (case side1 => exact IsS175.mv aE.out); (case side2 => exact IsS175.bl HB.out); rintro e w7 ⟨rfl, hi, hb, hk⟩; refine ⟨_, rfl, ?_⟩; replace aD := rP hk aD aV; replace HK := aM (KeepBut.trans (km HK.out) hk (.inl rfl)); replace HB := aM (hb); replace aE := aM (hi); (repeat first|clear hb|clear hk|clear hi)) | ((with_reducible refine gC (f := 193) rfl ?_); refine gL (some 14) Try.func193 #[.int .i64 (wrap64 (1 + cK)), .int .i64 (wrap64 (1 + cL))] ?_; (with_reducible refine (spec_BridgeNew.calls k (wrap64 (1 + cK)) (wrap64 (1 + cL)) cN bY eH _ A4.out).mono ?_); rintro e w8 ⟨hD, rfl, ho0, hb⟩; refine ⟨_, rfl, ?_⟩; have bL := aM (Kd.R_lower ho0 (keep_size (km HK.out))); replace aE := aM (IsS175.below (IsS175.mv aE.out) hb); replace aD := rB aD hb; replace HK := rU HK hb; replace HB := aM (bS (IsS175.bl HB.out) hb); (repeat first|clear hb|clear ho0)) | ((with_reducible refine gD (N := 3) rfl ?_); refine bR bL (N := 3) (cs := #[.int .i64 0, .slice none 0 0]) (t := 28) ?_; intro bH hg w9 hbox hb; have aC := aM (hbox); have fH := gE hg (keep_size (km HK.out)); have fI := gE2 HW0.out hg (keep_size (km HK.out)); have aK := nM hg aD; have aN := nH hg aD; have bI := nL hg (IsS175.lt (show IsS175 w0 _ g aG bW bX from IsS175.mv aE.out)); have aJ := nG hg (IsS175.lt (show IsS175 w0 _ g aG bW bX from IsS175.mv aE.out)); replace bL := rK bL hb; replace aE := aM (IsS175.below (IsS175.mv aE.out) hb); replace aD := rB aD hb; replace HK := rU HK hb; replace HB := aM (bS (IsS175.bl HB.out) hb); clear hb hbox hg; have fK := aN.out; have fL := aK.out; have fM := aJ.out; have fN := bI.out; have fO := cA2 aC.out; obtain ⟨dH, dI, eI⟩ := Kd.R_slice bL.out; subst eI))
 go_loopg [5] k (fun kq v5 w' => ∃ (bJ : Int) (aW : Int) (aX : Int) (aQ : Int) (aH : List (S79)) (bA : Value), v5 = .int .i64 bJ ∧ Aside0 (spec_l8DrawRight.l0 kq bJ aG aW aX aQ aH = some (r1, r2, r3, r4)) ∧ Aside0 (kq ≤ k) ∧ Aside0 (Kd.R k79 79 w' w.heap.size (fun _ => True) bA aH) ∧ Aside0 (w'.heap[bK]? = some (.cells #[.int .i64 0, (.slice none 0 0)] 28 (0, 0))) ∧ Aside0 (w'.heap[bH]? = some (.cells #[aQ, bA] 28 (0, 0))) ∧ Aside0 (IsS175 w0 w' g aG aW aX) ∧ Aside0 (KeepBut w w' g none) ∧ Aside0 (Below w0.heap.size w0 w'))
 case atStart => exact ⟨(0), (bW), (bX), (cN), (bY), (.slice dH bY.length dI), xE, H', ⟨Nat.le_refl _⟩, ⟨kr (Kd.R_mono (kF (p := ⟨bH, 1, none⟩) (kF (p := ⟨bH, 0, none⟩) (Kd.R_types bL.out aC.out (by decide)) (fun _ hk => hk.2) (.int .i64 cN)) (fun _ hk => hk.2) (.slice dH bY.length dI)) (fun _ hk => trivial))⟩, ⟨fm aD.out⟩, ⟨bm aC.out⟩, ⟨IsS175.mv aE.out⟩, ⟨km HK.out⟩, ⟨IsS175.bl HB.out⟩⟩
 case round =>
  clear H'
  repeat first|clear c1|clear p2|clear p6|clear c9|clear eZ|clear fA
  obtain ⟨bJ, aW, aX, aQ, aH, bA, rfl, HA, bQ, aA, aD, aC, aE, HK, HB⟩ := hrel
  cases gk with
  | zero => exact absurd HA.out (by simp [spec_l8DrawRight.l0])
  | succ k1 =>
   have H := HA.out
   clear HA
   simp only [spec_l8DrawRight.l0] at H
   by_cases bO : bJ < (aH.length : Int)
   case pos =>
    rw [if_pos bO] at H
    have dB := decide_eq_true bO
    clear bO
    obtain ⟨⟨eJ, bZ, cA⟩, dJ, H⟩ := hB H
    try dsimp only at H
    have eE := aM dJ
    clear dJ
    by_cases cH : eJ = true
    case pos =>
     subst cH
     replace H := hP H rfl
     have H' := aM H
     clear H
     have fP := aN.out
     have fQ := aK.out
     have fS := aJ.out
     have fT := bI.out
     have fU := cA2 aC.out
     obtain ⟨eK, eL, eM⟩ := Kd.R_slice aA.out
     subst eM
     go_wp2_with (first | ((with_reducible refine gC (f := 100) rfl ?_); refine gL (some 25) Try.func100 #[.pointer (some ⟨g, 0, none⟩), .int .i64 4] ?_; (with_reducible refine (spec_l1Once.calls g aG aW aX 4 true bZ cA w0 _ ?side1 ?side2 eE.out).mono ?_); (case side1 => exact IsS175.mv aE.out); (case side2 => exact IsS175.bl HB.out); rintro e hZ ⟨rfl, hi, hb, hk⟩; refine ⟨_, rfl, ?_⟩; replace aA := aM (Kd.R_mono (Kd.R_keep (IsS175.apart (show IsS175 w0 _ g aG aW aX from IsS175.mv aE.out) (kr aA.out) (by decide)) hk (fun _ h => h.2)) (fun _ h => h.1)); replace aD := rP hk aD aV; replace aC := rP hk aC aJ; replace HK := aM (KeepBut.trans (km HK.out) hk (.inl rfl)); replace HB := aM (hb); replace aE := aM (hi); (repeat first|clear hb|clear hk|clear hi)))
     go_roundg k1
     case measure => have := bQ.out; omega
     case rel => exact ⟨(wS bJ), (bZ), (cA), (aQ), (aH), (.slice eK aH.length eL), xE, H', ⟨by have := bQ.out; omega⟩, ⟨kr aA.out⟩, ⟨bk aD.out⟩, ⟨bk aC.out⟩, ⟨IsS175.mv aE.out⟩, ⟨km HK.out⟩, ⟨IsS175.bl HB.out⟩⟩
    replace cH := Bool.eq_false_iff.mpr cH
    subst cH
    replace H := hF H
    obtain ⟨⟨cO, cC, eN⟩, dK, H⟩ := hB H
    try dsimp only at H
    have fB := aM dK
    clear dK
    have H' := aM H
    clear H
    have fV := aN.out
    have fW := aK.out
    have fX := aJ.out
    have fY := bI.out
    have gA := cA2 aC.out
    obtain ⟨eO, eP, eQ⟩ := Kd.R_slice aA.out
    subst eQ
    go_wp2_with (first | ((with_reducible refine gC (f := 100) rfl ?_); refine gL (some 25) Try.func100 #[.pointer (some ⟨g, 0, none⟩), .int .i64 4] ?_; (with_reducible refine (spec_l1Once.calls g aG aW aX 4 false bZ cA w0 _ ?side1 ?side2 eE.out).mono ?_); (case side1 => exact IsS175.mv aE.out); (case side2 => exact IsS175.bl HB.out); rintro e iA ⟨rfl, hi, hb, hk⟩; refine ⟨_, rfl, ?_⟩; replace aA := aM (Kd.R_mono (Kd.R_keep (IsS175.apart (show IsS175 w0 _ g aG aW aX from IsS175.mv aE.out) (kr aA.out) (by decide)) hk (fun _ h => h.2)) (fun _ h => h.1)); replace aD := rP hk aD aV; replace aC := rP hk aC aJ; replace HK := aM (KeepBut.trans (km HK.out) hk (.inl rfl)); replace HB := aM (hb); replace aE := aM (hi); (repeat first|clear hb|clear hk|clear hi); have gB := cA2 aC.out) | ((with_reducible refine gC (f := 54) rfl ?_); refine gL (some 31) Try.func54 #[.agg #[aQ, .slice eO aH.length eP], .agg #[.int .i64 3, bJ, .int .i64 0, .int .i64 0, .int .i64 0, .int .i64 0, .int .i64 0, .bool true]] ?_; (with_reducible refine (spec_React.calls k1 aQ _ _ aH 3 bJ 0 0 0 0 0 true cO cC eN _ ?side1 ?side2 fB.out).mono ?_); (case side1 => exact cM ((Kd.R_reads' aA.out).2.2)); (case side2 => exact (Kd.R_reads' aA.out).2.1); rintro e iB ⟨hH, hJ, rfl, ho0, ho1, hb⟩; refine ⟨_, rfl, ?_⟩; have dC := aM (Kd.R_lower (Kd.R_new' ho0 (Kd.R_lt (kr aA.out))) (keep_size (km HK.out))); have gG := aM (Kd.R_lower ho1 (keep_size (km HK.out))); replace aA := aM (Kd.R_elder' (kr aA.out) (Kd.R_base ho0) hb); replace aD := rB aD hb; replace aC := rB aC hb; replace aE := aM (IsS175.below (IsS175.mv aE.out) hb); replace HK := rU HK hb; replace HB := aM (bS (IsS175.bl HB.out) hb); (repeat first|clear hb|clear ho0|clear ho1); have gH := cA2 aC.out; obtain ⟨dL, dM, eR⟩ := Kd.R_slice dC.out; subst eR))
    go_roundg k1
    case measure => have := bQ.out; omega
    case rel => exact ⟨(wS bJ), (bZ), (cA), (cO), (cC), (.slice dL cC.length dM), xE, H', ⟨by have := bQ.out; omega⟩, ⟨kr (Kd.R_mono (kF (p := ⟨bH, 1, none⟩) (kF (p := ⟨bH, 0, none⟩) (Kd.R_types dC.out aC.out (by decide)) (fun _ hk => hk.2) (.int .i64 cO)) (fun _ hk => hk.2) (.slice dL cC.length dM)) (fun _ hk => trivial))⟩, ⟨fm aD.out⟩, ⟨bm aC.out⟩, ⟨IsS175.mv aE.out⟩, ⟨km HK.out⟩, ⟨IsS175.bl HB.out⟩⟩
   rw [if_neg bO] at H
   have dB := decide_eq_false bO
   clear bO
   have H' := aM H
   clear H
   have gJ := aN.out
   have gK := aK.out
   have gM := aJ.out
   have gN := bI.out
   have gO := cA2 aC.out
   obtain ⟨eS, eT, eU⟩ := Kd.R_slice aA.out
   subst eU
   go_wp2
   go_loopg [6] k1 (fun kq v6 w' => ∃ (bP : Int) (bD : Int) (bG : Int) (aI : Int) (aT : List (S79)) (bA : Value), v6 = .int .i64 bP ∧ Aside0 (spec_l8DrawRight.l1 kq bP aG bD bG aI aT = some (r1, r2, r3, r4)) ∧ Aside0 (kq ≤ k1) ∧ Aside0 (Kd.R k79 79 w' w.heap.size (fun _ => True) bA aT) ∧ Aside0 (w'.heap[bK]? = some (.cells #[.int .i64 0, (.slice none 0 0)] 28 (0, 0))) ∧ Aside0 (w'.heap[bH]? = some (.cells #[aI, bA] 28 (0, 0))) ∧ Aside0 (IsS175 w0 w' g aG bD bG) ∧ Aside0 (KeepBut w w' g none) ∧ Aside0 (Below w0.heap.size w0 w'))
   case atStart => exact ⟨(0), (aW), (aX), (aQ), (aH), (.slice eS aH.length eT), xE, H', ⟨Nat.le_refl _⟩, ⟨kr aA.out⟩, ⟨bk aD.out⟩, ⟨bk aC.out⟩, ⟨IsS175.mv aE.out⟩, ⟨km HK.out⟩, ⟨IsS175.bl HB.out⟩⟩
   case round =>
    clear H'
    repeat first|clear c1|clear c2|clear p2|clear c3|clear c5|clear p6|clear c9|clear eZ|clear fA|clear bO|clear dB|clear cH|clear iC|clear iD|clear iE|clear iF|clear iG|clear iH|clear iI|clear p2|clear p6
    obtain ⟨bP, bD, bG, aI, aT, bA, rfl, HA, eF, aA, aD, aC, aE, HK, HB⟩ := hrel
    cases gk with
    | zero => exact absurd HA.out (by simp [spec_l8DrawRight.l1])
    | succ k2 =>
     have H := HA.out
     clear HA
     simp only [spec_l8DrawRight.l1] at H
     obtain ⟨⟨cP, cD, cE⟩, dN, H⟩ := hB H
     try dsimp only at H
     have eG := aM dN
     clear dN
     by_cases bT : bP < cP
     case neg =>
      rw [if_neg bT] at H
      have dZ := decide_eq_false bT
      clear bT
      simp only [Option.some.injEq, Prod.mk.injEq] at H
      obtain ⟨rfl, rfl, rfl, rfl⟩ := H
      go_wp2_with (first | ((with_reducible refine gC (f := 99) rfl ?_); refine gL (some 36) Try.func99 #[.pointer (some ⟨g, 0, none⟩), .int .i64 10] ?_; (with_reducible refine (spec_l1Below.calls g aG bD bG 10 cP cD cE w0 _ ?side1 ?side2 eG.out).mono ?_); (case side1 => exact IsS175.mv aE.out); (case side2 => exact IsS175.bl HB.out); rintro e iJ ⟨rfl, hi, hb, hk⟩; refine ⟨_, rfl, ?_⟩; replace aA := aM (Kd.R_mono (Kd.R_keep (IsS175.apart (show IsS175 w0 _ g aG bD bG from IsS175.mv aE.out) (kr aA.out) (by decide)) hk (fun _ h => h.2)) (fun _ h => h.1)); replace aD := rP hk aD aV; replace aC := rP hk aC aJ; replace HK := aM (KeepBut.trans (km HK.out) hk (.inl rfl)); replace HB := aM (hb); replace aE := aM (hi); (repeat first|clear hb|clear hk|clear hi); have gP := aN.out; have gQ := aK.out; have gR := aJ.out; have gS := bI.out; have gT := cA2 aC.out; have gU := aV.out; have gV := dE.out; have gW := cA2 aD.out; obtain ⟨dO, dP, eV⟩ := Kd.R_slice aA.out; subst eV))
      refine bodyPost_ret (results_cell_row rfl _ _ bK 28 #[aI, .slice dO aT.length dP] (0, 0) _ rfl (bm aD.out) Try.underlying28 rfl (by kernel_rfl)) rfl ?_
      exact ⟨_, xW, by (with_reducible repeat (first | apply Kd.R_alloc | apply Kd.R_drewN | apply Kd.R_drew)); exact Kd.R_mono (kF (p := ⟨bK, 1, none⟩) (kF (p := ⟨bK, 0, none⟩) (Kd.R_types aA.out aD.out (by decide)) (fun _ hk => hk.2) (.int .i64 aI)) (fun _ hk => hk.2) (.slice dO aT.length dP)) (fun _ hk => trivial), IsS175.mv aE.out, IsS175.bl HB.out, km HK.out⟩
     rw [if_pos bT] at H
     have dZ := decide_eq_true bT
     clear bT
     obtain ⟨⟨cQ, cR, cS, cT, cU, cV, cW, cX, dQ, dR⟩, dS, H⟩ := hB H
     try dsimp only at H
     have fC := aM dS
     clear dS
     obtain ⟨⟨cY, cG, eW⟩, dU, H⟩ := hB H
     try dsimp only at H
     have fD := aM dU
     clear dU
     have H' := aM H
     clear H
     try go_wp2_with (first | ((with_reducible refine gC (f := 99) rfl ?_); refine gL (some 36) Try.func99 #[.pointer (some ⟨g, 0, none⟩), .int .i64 10] ?_; (with_reducible refine (spec_l1Below.calls g aG bD bG 10 cP cD cE w0 _ ?side1 ?side2 eG.out).mono ?_); (case side1 => exact IsS175.mv aE.out); (case side2 => exact IsS175.bl HB.out); rintro e fE ⟨rfl, hi, hb, hk⟩; refine ⟨_, rfl, ?_⟩; replace aA := aM (Kd.R_mono (Kd.R_keep (IsS175.apart (show IsS175 w0 _ g aG bD bG from IsS175.mv aE.out) (kr aA.out) (by decide)) hk (fun _ h => h.2)) (fun _ h => h.1)); replace aD := rP hk aD aV; replace aC := rP hk aC aJ; replace HK := aM (KeepBut.trans (km HK.out) hk (.inl rfl)); replace HB := aM (hb); replace aE := aM (hi); (repeat first|clear hb|clear hk|clear hi)))
     replace aA := aM (Kd.R_drew aA.out)
     replace aD := aM (blk_drew aD.out)
     replace aC := aM (blk_drew aC.out)
     replace aE := aM (IsS175.drew aE.out)
     replace HK := aM (keep_drew HK.out)
     replace HB := aM (below_drew1 HB.out)
     refine start_ (n := 8) (S := fun w' => cS2 w' bH (.int .i64 aI) (bA)) (ds := [7]) (dn 8 0) (by kernel_rfl) rfl rfl ⟨cI aC.out 0, cI aC.out 1⟩ (fun hHeld => ?_); refine with_tabW spec_l8DrawRight.tab10 spec_l8DrawRight.bits10 (fun HT_ HW_ => ?_)
     generalize fE.drew = iK at aA aD aC aE HK HB hHeld ⊢
     refine pZ 1 42 (bv 8 2) HT_ ?_
     refine aZ 0 41 (bv 8 3) HT_ HW_ hHeld ?_
     refine one_ (i := 2) (N := some 43) (bv 8 7) rfl rfl (one_of HT_.out (by kernel_rfl)) (by decide) (fun K hK => ?_)
     refine goes_ Try.func194 (by kernel_rfl) rfl #[.pointer (some ⟨g, 0, none⟩)] (by rfl) rfl rfl xR ?_
     with_reducible refine (spec_l8DrawIn.calls g aG cD cE cQ cR cS cT cU cV cW cX dQ dR w0 _ ?side1 ?side2 fC.out).mono ?_
     (case side1 => exact IsS175.mv aE.out)
     (case side2 => exact IsS175.bl HB.out)
     rintro e iL ⟨rfl, hi, hb, hk⟩
     refine ⟨_, rfl, ?_⟩
     replace aA := aM (Kd.R_mono (Kd.R_keep (IsS175.apart (show IsS175 w0 _ g aG cD cE from IsS175.mv aE.out) (kr aA.out) (by decide)) hk (fun _ h => h.2)) (fun _ h => h.1))
     replace aD := rP hk aD aV
     replace aC := rP hk aC aJ
     replace HK := aM (KeepBut.trans (km HK.out) hk (.inl rfl))
     replace HB := aM (hb)
     replace aE := aM (hi)
     (try clear hb)
     (try clear hb2)
     (try clear hk)
     (try clear hi)
     obtain ⟨eX, eY, dV⟩ := Kd.R_slice aA.out
     (first | subst dV | (injection dV with f1_ f2_ f3_; have f4_ := f1_.symm; have f5_ := f3_.symm; clear f1_ f2_ f3_; subst f4_; subst f5_))
     refine hK.out _ _ ⟨cI aC.out 0, cI aC.out 1⟩ (fun hHeld => ?_)
     clear hK K
     refine norm_ (a' := ?_) ?_ ?_
     rotate_left
     ·show Act.put _ (some 43) _ = _
      simp only [Act.put, sA, sZ, sS, i64_w, i32_w]
      rfl
     refine one_ (i := 3) (N := some 44) (bv 8 15) rfl rfl (one_of HT_.out (by kernel_rfl)) (by decide) (fun K hK => ?_)
     refine goes_ Try.func54 (by kernel_rfl) rfl #[.agg #[aI, .slice eX aT.length eY], .agg #[cQ, cR, cS, cT, cU, cV, cW, cX]] (by rfl) rfl rfl xR ?_
     with_reducible refine (spec_React.calls k2 aI _ _ aT cQ cR cS cT cU cV cW cX cY cG eW _ ?side1 ?side2 fD.out).mono ?_
     (case side1 => exact cM ((Kd.R_reads' aA.out).2.2))
     (case side2 => exact (Kd.R_reads' aA.out).2.1)
     rintro e iM ⟨hO, hU, rfl, ho0, ho1, hb⟩
     refine ⟨_, rfl, ?_⟩
     have dD := aM (Kd.R_lower (Kd.R_new' ho0 (Kd.R_lt (kr aA.out))) (keep_size (km HK.out)))
     have gX := aM (Kd.R_lower ho1 (keep_size (km HK.out)))
     replace aA := aM (Kd.R_elder' (kr aA.out) (Kd.R_base ho0) hb)
     replace aD := rB aD hb
     replace aC := rB aC hb
     replace aE := aM (IsS175.below (IsS175.mv aE.out) hb)
     replace HK := rU HK hb
     replace HB := aM (bS (IsS175.bl HB.out) hb)
     (try clear hb)
     (try clear hb2)
     (try clear hk)
     (try clear hi)
     (try clear ho0)
     (try clear ho1)
     obtain ⟨dW, dX, dY⟩ := Kd.R_slice dD.out
     (first | subst dY | (injection dY with f1_ f2_ f3_; have f4_ := f1_.symm; have f5_ := f3_.symm; clear f1_ f2_ f3_; subst f4_; subst f5_))
     refine hK.out _ _ ⟨cI aC.out 0, cI aC.out 1⟩ (fun hHeld => ?_)
     clear hK K
     refine norm_ (a' := ?_) ?_ ?_
     rotate_left
     ·show Act.put _ (some 44) _ = _
      simp only [Act.put, sA, sZ, sS, i64_w, i32_w]
      rfl
     refine pZ 4 40 (bv 8 31) HT_ ?_
     refine pZ 5 45 (bv 8 63) HT_ ?_
     refine pZ 6 46 (bv 8 127) HT_ ?_
     refine last_ (i := 7) (N := none) (bv 8 255) rfl rfl (one_of HT_.out (by kernel_rfl)) (by decide) (fun K hK => ?_)
     have hX := cI aC.out 0
     have hfs45 := bF aC.out 0
     have hns45_0 := aK.out
     have hms45_0 := aN.out
     have hY := cI aC.out 1
     have hfs47 := bF aC.out 1
     have hns47_0 := aK.out
     have hms47_0 := aN.out
     refine skip_ (w1 := ?_) (by rfl) rfl ?_ ?_
     rotate_left
     ·go_simp
      rfl
     refine hK.out _ _ ?_
     clear hK K
     refine done_ (done_of HT_.out (by kernel_rfl)) ?_
     try go_wp2
     go_roundg k2
     case measure => have := bQ.out; have := eF.out; omega
     case rel => exact ⟨(wS bP), (dQ), (dR), (cY), (cG), (.slice dW cG.length dX), xE, H', ⟨by have := bQ.out; have := eF.out; omega⟩, ⟨kr (Kd.R_mono (kF (p := ⟨bH, 1, none⟩) (kF (p := ⟨bH, 0, none⟩) (Kd.R_types dD.out aC.out (by decide)) (fun _ hk => hk.2) (.int .i64 cY)) (fun _ hk => hk.2) (.slice dW cG.length dX)) (fun _ hk => trivial))⟩, ⟨fm aD.out⟩, ⟨bm aC.out⟩, ⟨IsS175.mv aE.out⟩, ⟨km HK.out⟩, ⟨IsS175.bl HB.out⟩⟩

end Go.Proofs.Ythmijfekdeagpaa.PFnFades

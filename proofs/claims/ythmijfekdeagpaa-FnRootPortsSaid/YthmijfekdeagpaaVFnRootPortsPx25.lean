/- Of the proof of laws.FnRootPorts: a part. No condition beyond what its theorems say. -/
import Derived.Test.YthmijfekdeagpaaVFnRootPortsPx23
import Derived.Test.YthmijfekdeagpaaVFnRootPortsPx24
namespace Go.Proofs.Ythmijfekdeagpaa.PFnRootPorts
open Go.RowKit Go.Proofs.YthmijfekdeagpaaW.PrintWords Go.Proofs.YthmijfekdeagpaaW.PrintLast Go.Proofs.YthmijfekdeagpaaW.PrintMore
attribute [local go_sem] max2_int min2_int max_two min_two max_three min_three max_four min_four   -- for this text's walks alone
set_option linter.unusedVariables false
set_option linter.unusedSimpArgs false

mutual
def spec_l8DrawRight.l0 : Nat → Int → List Int → Int → Int → Int → List (S79) → Option (Int × (List (S79)) × Int × Int)
 | 0, _, _, _, _, _, _ => none
 | k + 1, x5, aE, aG, aH, aD, aA => if x5 < (aA.length : Int) then ((spec_l1Once.f aE aG aH 4).bind fun aC => (if aC.1 = true then (spec_l8DrawRight.l0 k (wrap64 (x5 + 1)) aE aC.2.1 aC.2.2 aD aA) else ((spec_React.f k aD aA 3 x5 0 0 0 0 0 true).bind fun aI => (spec_l8DrawRight.l0 k (wrap64 (x5 + 1)) aE aC.2.1 aC.2.2 aI.1 aI.2.1)))) else (spec_l8DrawRight.l1 k 0 aE aG aH aD aA)
def spec_l8DrawRight.l1 : Nat → Int → List Int → Int → Int → Int → List (S79) → Option (Int × (List (S79)) × Int × Int)
 | 0, _, _, _, _, _, _ => none
 | k + 1, x6, aG, aI, aJ, aD, aE => (spec_l1Below.f aG aI aJ 10).bind fun aC => (if x6 < aC.1 then ((spec_l8DrawIn.f aG aC.2.1 aC.2.2).bind fun aA => ((spec_React.f k aD aE aA.1 aA.2.1 aA.2.2.1 aA.2.2.2.1 aA.2.2.2.2.1 aA.2.2.2.2.2.1 aA.2.2.2.2.2.2.1 aA.2.2.2.2.2.2.2.1).bind fun aH => (spec_l8DrawRight.l1 k (wrap64 (x6 + 1)) aG aA.2.2.2.2.2.2.2.2.1 aA.2.2.2.2.2.2.2.2.2 aH.1 aH.2.1))) else (some (aD, aE, aC.2.1, aC.2.2)))
end
def spec_l8DrawRight.f (k : Nat) (aD : List Int) (aG : Int) (aH : Int) : Option (Int × (List (S79)) × Int × Int) := (spec_l1Below.f aD aG aH 6).bind fun aA => ((spec_l1Below.f aD aA.2.1 aA.2.2 4).bind fun aC => ((spec_BridgeNew.f k (wrap64 (1 + aA.1)) (wrap64 (1 + aC.1))).bind fun aE => (spec_l8DrawRight.l0 k 0 aD aC.2.1 aC.2.2 aE.1 aE.2.1)))
theorem spec_l8DrawRight.mono_l : ∀ k, (∀ y0 y1 y2 y3 y4 y5, LeO (spec_l8DrawRight.l0 k y0 y1 y2 y3 y4 y5) (spec_l8DrawRight.l0 (k + 1) y0 y1 y2 y3 y4 y5)) ∧ (∀ y0 y1 y2 y3 y4 y5, LeO (spec_l8DrawRight.l1 k y0 y1 y2 y3 y4 y5) (spec_l8DrawRight.l1 (k + 1) y0 y1 y2 y3 y4 y5))
 | 0 => ⟨fun _ _ _ _ _ _ r h => by simp [spec_l8DrawRight.l0] at h, fun _ _ _ _ _ _ r h => by simp [spec_l8DrawRight.l1] at h⟩
 | k + 1 => by
  obtain ⟨ih0, ih1⟩ := spec_l8DrawRight.mono_l k
  refine ⟨?_, ?_⟩
  ·intro y0 y1 y2 y3 y4 y5
   unfold spec_l8DrawRight.l0
   repeat' first|(with_reducible first|apply ih0|apply ih1|apply spec_BridgeNew.mono|apply spec_React.mono|exact LeO.refl _|exact LeO.none _|refine LeO.ite ?_ ?_|refine LeO.bind ?_ (fun _ => ?_))|exact LeO.none _|refine LeO.ite ?_ ?_|refine LeO.bind ?_ (fun _ => ?_)
  ·intro y0 y1 y2 y3 y4 y5
   unfold spec_l8DrawRight.l1
   repeat' first|(with_reducible first|apply ih0|apply ih1|apply spec_BridgeNew.mono|apply spec_React.mono|exact LeO.refl _|exact LeO.none _|refine LeO.ite ?_ ?_|refine LeO.bind ?_ (fun _ => ?_))|exact LeO.none _|refine LeO.ite ?_ ?_|refine LeO.bind ?_ (fun _ => ?_)
theorem spec_l8DrawRight.mono : ∀ a0 a1 a2 k, LeO (spec_l8DrawRight.f k a0 a1 a2) (spec_l8DrawRight.f (k + 1) a0 a1 a2) := by
 intro a0 a1 a2 k
 obtain ⟨ih0, ih1⟩ := spec_l8DrawRight.mono_l k
 unfold spec_l8DrawRight.f
 repeat' first|(with_reducible first|apply ih0|apply ih1|apply spec_BridgeNew.mono|apply spec_React.mono|exact LeO.refl _|exact LeO.none _|refine LeO.ite ?_ ?_|refine LeO.bind ?_ (fun _ => ?_))|exact LeO.none _|refine LeO.ite ?_ ?_|refine LeO.bind ?_ (fun _ => ?_)
def spec_l8DrawRight.T10 : Bool × List (List Nat × List Nat) := (true, [([], []), ([], []), ([1], [1]), ([0, 2, 2], [0, 2]), ([3], [3]), ([4], [4]), ([4], [4]), ([5, 3, 0, 1, 2, 3, 4, 5], [5])])
def spec_l8DrawRight.B10 : List Nat := [0, 0, 2, 7, 15, 31, 31, 63]
theorem spec_l8DrawRight.tab10 : rtab .any (opsOf Try.f173 10) = spec_l8DrawRight.T10 := by kernel_rfl
theorem spec_l8DrawRight.bits10 : waitsOk spec_l8DrawRight.T10.2 spec_l8DrawRight.B10 = true := by kernel_rfl
set_option maxHeartbeats 60000000 in
set_option maxRecDepth 100000 in
theorem spec_l8DrawRight.calls (k : Nat) (g : Nat) (aG : List Int) (bL : Int) (bM : Int) (r1 : Int) (r2 : List (S79)) (r3 : Int) (r4 : Int) (w0 w : World) (hI : IsS175 w0 w g aG bL bM) (hB : Below w0.heap.size w0 w) (h : spec_l8DrawRight.f k aG bL bM = some (r1, r2, r3, r4)) :
  Calls Try.prog 173 #[.pointer (some ⟨g, 0, none⟩)] w fun e w' => ∃ eE : Value, e = .returned (.agg #[r1, eE]) ∧ Kd.R k79 79 w' w.heap.size (fun _ => True) eE r2 ∧ IsS175 w0 w' g aG r3 r4 ∧ Below w0.heap.size w0 w' ∧ KeepBut w w' g none := by
 have hZ := Try.underlying28
 have iA := Try.underlying89
 have aE := aM hI
 have HK := aM (KeepBut.refl w g none)
 have HL := aM hB.size
 clear hI
 have HW0 := aM hB.size
 have HB := aM hB
 clear hB
 have H : ((spec_l1Below.f aG bL bM 6).bind fun bR => ((spec_l1Below.f aG bR.2.1 bR.2.2 4).bind fun bT => ((spec_BridgeNew.f k (wrap64 (1 + bR.1)) (wrap64 (1 + bT.1))).bind fun cX => (spec_l8DrawRight.l0 k 0 aG bT.2.1 bT.2.2 cX.1 cX.2.1)))) = some (r1, r2, r3, r4) := h
 clear h
 obtain ⟨⟨cG, dE, dF⟩, eF, H⟩ := hB H
 try dsimp only at H
 have A2 := aM eF
 clear eF
 obtain ⟨⟨cH, bU, bV⟩, eG, H⟩ := hB H
 try dsimp only at H
 have A3 := aM eG
 clear eG
 obtain ⟨⟨cK, bW, eL⟩, eH, H⟩ := hB H
 try dsimp only at H
 have A4 := aM eH
 clear eH
 have H' := aM H
 clear H
 go_enter Try.func173, Try.ntmps173
 go_wp2_with (first | ((with_reducible refine gD (N := 2) rfl ?_); refine box_event ?hg (N := 2) ?hd (cs := #[.int .i64 0, .slice none 0 0]) (t := 28) ?hr ?_; (case hd => rfl); (case hg => rfl); (case hr => first | (go_simp; done) | (go_simp; rfl) | (obtain ⟨A_, c_, e_⟩ := Kd.R_slice bH.out; subst e_; (first | (go_simp; done) | (go_simp; rfl))) | (obtain ⟨A_, c_, e_⟩ := Kd.S_slice bH.out; subst e_; (first | (go_simp; done) | (go_simp; rfl)))); intro bK hg w5 hbox hb; have aD := aM (hbox); have fU := gE hg (keep_size (km HK.out)); have fV := gE2 HW0.out hg (keep_size (km HK.out)); have dD := nL hg (IsS175.lt (show IsS175 w0 _ g aG bL bM from IsS175.mv aE.out)); have aV := nG hg (IsS175.lt (show IsS175 w0 _ g aG bL bM from IsS175.mv aE.out)); replace aE := aM (IsS175.below (IsS175.mv aE.out) hb); replace HK := rU HK hb; replace HB := aM (bS (IsS175.bl HB.out) hb); clear hb hbox hg) | ((with_reducible refine gC (f := 99) rfl ?_); refine gL (some 9) Try.func99 #[.pointer (some ⟨g, 0, none⟩), .int .i64 6] ?_; (with_reducible refine (spec_l1Below.calls g aG bL bM 6 cG dE dF w0 _ ?side1 ?side2 A2.out).mono ?_); (case side1 => exact IsS175.mv aE.out); (case side2 => exact IsS175.bl HB.out); rintro e w6 ⟨rfl, hi, hb, hk⟩; refine ⟨_, rfl, ?_⟩; replace aD := rP hk aD aV; replace HK := aM (KeepBut.trans (km HK.out) hk (.inl rfl)); replace HB := aM (hb); replace aE := aM (hi); (repeat first|clear hb|clear hk|clear hi)) | ((with_reducible refine gC (f := 99) rfl ?_); refine gL (some 12) Try.func99 #[.pointer (some ⟨g, 0, none⟩), .int .i64 4] ?_; (with_reducible refine (spec_l1Below.calls g aG dE dF 4 cH bU bV w0 _ ?side1 ?side2 A3.out).mono ?_); (case side1 => exact IsS175.mv aE.out); (case side2 => exact IsS175.bl HB.out); rintro e w7 ⟨rfl, hi, hb, hk⟩; refine ⟨_, rfl, ?_⟩; replace aD := rP hk aD aV; replace HK := aM (KeepBut.trans (km HK.out) hk (.inl rfl)); replace HB := aM (hb); replace aE := aM (hi); (repeat first|clear hb|clear hk|clear hi)) | ((with_reducible refine gC (f := 193) rfl ?_); refine gL (some 14) Try.func193 #[.int .i64 (wrap64 (1 + cG)), .int .i64 (wrap64 (1 + cH))] ?_; (with_reducible refine (spec_BridgeNew.calls k (wrap64 (1 + cG)) (wrap64 (1 + cH)) cK bW eL _ A4.out).mono ?_); rintro e w8 ⟨iB, rfl, ho0, hb⟩; refine ⟨_, rfl, ?_⟩; have bH := aM (Kd.R_lower ho0 (keep_size (km HK.out))); replace aE := aM (IsS175.below (IsS175.mv aE.out) hb); replace aD := rB aD hb; replace HK := rU HK hb; replace HB := aM (bS (IsS175.bl HB.out) hb); (repeat first|clear hb|clear ho0)) | ((with_reducible refine gD (N := 3) rfl ?_); refine box_event ?hg (N := 3) ?hd (cs := #[.int .i64 0, .slice none 0 0]) (t := 28) ?hr ?_; (case hd => rfl); (case hg => rfl); (case hr => first | (go_simp; done) | (go_simp; rfl) | (obtain ⟨A_, c_, e_⟩ := Kd.R_slice bH.out; subst e_; (first | (go_simp; done) | (go_simp; rfl))) | (obtain ⟨A_, c_, e_⟩ := Kd.S_slice bH.out; subst e_; (first | (go_simp; done) | (go_simp; rfl)))); intro bG hg w9 hbox hb; have aC := aM (hbox); have fW := gE hg (keep_size (km HK.out)); have fX := gE2 HW0.out hg (keep_size (km HK.out)); have aK := nM hg aD; have aN := nH hg aD; have bI := nL hg (IsS175.lt (show IsS175 w0 _ g aG bU bV from IsS175.mv aE.out)); have aJ := nG hg (IsS175.lt (show IsS175 w0 _ g aG bU bV from IsS175.mv aE.out)); replace bH := aM (kB (kr bH.out) hb); replace aE := aM (IsS175.below (IsS175.mv aE.out) hb); replace aD := rB aD hb; replace HK := rU HK hb; replace HB := aM (bS (IsS175.bl HB.out) hb); clear hb hbox hg; have fY := aN.out; have gA := aK.out; have gB := aJ.out; have gG := bI.out; have cY := cA2 aC.out; obtain ⟨dG, dH, eM⟩ := Kd.R_slice bH.out; subst eM))
 go_loopg [5] k (fun kq v5 w' => ∃ (bJ : Int) (aW : Int) (aX : Int) (aQ : Int) (aH : List (S79)) (aZ : Value), v5 = .int .i64 bJ ∧ Aside0 (spec_l8DrawRight.l0 kq bJ aG aW aX aQ aH = some (r1, r2, r3, r4)) ∧ Aside0 (kq ≤ k) ∧ Aside0 (Kd.R k79 79 w' w.heap.size (fun _ => True) aZ aH) ∧ Aside0 (w'.heap[bK]? = some (.cells #[.int .i64 0, (.slice none 0 0)] 28 (0, 0))) ∧ Aside0 (w'.heap[bG]? = some (.cells #[aQ, aZ] 28 (0, 0))) ∧ Aside0 (IsS175 w0 w' g aG aW aX) ∧ Aside0 (KeepBut w w' g none) ∧ Aside0 (Below w0.heap.size w0 w'))
 case atStart => exact ⟨(0), (bU), (bV), (cK), (bW), (.slice dG bW.length dH), xE, H', ⟨Nat.le_refl _⟩, ⟨kr (Kd.R_mono (kF (p := ⟨bG, 1, none⟩) (kF (p := ⟨bG, 0, none⟩) (Kd.R_types bH.out aC.out (by decide)) (fun _ hk => hk.2) (.int .i64 cK)) (fun _ hk => hk.2) (.slice dG bW.length dH)) (fun _ hk => trivial))⟩, ⟨fm aD.out⟩, ⟨bm aC.out⟩, ⟨IsS175.mv aE.out⟩, ⟨km HK.out⟩, ⟨IsS175.bl HB.out⟩⟩
 case round =>
  clear H'
  repeat first|clear c1|clear p2|clear p6|clear c9|clear fN|clear fO|clear cY
  obtain ⟨bJ, aW, aX, aQ, aH, aZ, rfl, HA, bP, aA, aD, aC, aE, HK, HB⟩ := hrel
  cases gk with
  | zero => exact absurd HA.out (by simp [spec_l8DrawRight.l0])
  | succ k1 =>
   have H := HA.out
   clear HA
   simp only [spec_l8DrawRight.l0] at H
   by_cases bN : bJ < (aH.length : Int)
   case pos =>
    rw [if_pos bN] at H
    have dA := decide_eq_true bN
    clear bN
    obtain ⟨⟨eN, bX, bY⟩, dI, H⟩ := hB H
    try dsimp only at H
    have eI := aM dI
    clear dI
    by_cases cE : eN = true
    case pos =>
     subst cE
     replace H := hP H rfl
     have H' := aM H
     clear H
     have gH := aN.out
     have gJ := aK.out
     have gK := aJ.out
     have gM := bI.out
     have dY := cA2 aC.out
     obtain ⟨eO, eP, eQ⟩ := Kd.R_slice aA.out
     subst eQ
     go_wp2_with (first | ((with_reducible refine gC (f := 100) rfl ?_); refine gL (some 25) Try.func100 #[.pointer (some ⟨g, 0, none⟩), .int .i64 4] ?_; (with_reducible refine (spec_l1Once.calls g aG aW aX 4 true bX bY w0 _ ?side1 ?side2 eI.out).mono ?_); (case side1 => exact IsS175.mv aE.out); (case side2 => exact IsS175.bl HB.out); rintro e iI ⟨rfl, hi, hb, hk⟩; refine ⟨_, rfl, ?_⟩; replace aA := aM (Kd.R_mono (Kd.R_keep (IsS175.apart (show IsS175 w0 _ g aG aW aX from IsS175.mv aE.out) (kr aA.out) (by decide)) hk (fun _ h => h.2)) (fun _ h => h.1)); replace aD := rP hk aD aV; replace aC := rP hk aC aJ; replace HK := aM (KeepBut.trans (km HK.out) hk (.inl rfl)); replace HB := aM (hb); replace aE := aM (hi); (repeat first|clear hb|clear hk|clear hi)))
     go_roundg k1
     case measure => have := bP.out; omega
     case rel => exact ⟨(wrap64 (bJ + 1)), (bX), (bY), (aQ), (aH), (.slice eO aH.length eP), xE, H', ⟨by have := bP.out; omega⟩, ⟨kr aA.out⟩, ⟨bk aD.out⟩, ⟨bk aC.out⟩, ⟨IsS175.mv aE.out⟩, ⟨km HK.out⟩, ⟨IsS175.bl HB.out⟩⟩
    replace cE := Bool.eq_false_iff.mpr cE
    subst cE
    replace H := hF H
    obtain ⟨⟨cL, bZ, eR⟩, dJ, H⟩ := hB H
    try dsimp only at H
    have fP := aM dJ
    clear dJ
    have H' := aM H
    clear H
    have gN := aN.out
    have gO := aK.out
    have gP := aJ.out
    have gQ := bI.out
    have dZ := cA2 aC.out
    obtain ⟨eS, eT, eU⟩ := Kd.R_slice aA.out
    subst eU
    go_wp2_with (first | ((with_reducible refine gC (f := 100) rfl ?_); refine gL (some 25) Try.func100 #[.pointer (some ⟨g, 0, none⟩), .int .i64 4] ?_; (with_reducible refine (spec_l1Once.calls g aG aW aX 4 false bX bY w0 _ ?side1 ?side2 eI.out).mono ?_); (case side1 => exact IsS175.mv aE.out); (case side2 => exact IsS175.bl HB.out); rintro e iJ ⟨rfl, hi, hb, hk⟩; refine ⟨_, rfl, ?_⟩; replace aA := aM (Kd.R_mono (Kd.R_keep (IsS175.apart (show IsS175 w0 _ g aG aW aX from IsS175.mv aE.out) (kr aA.out) (by decide)) hk (fun _ h => h.2)) (fun _ h => h.1)); replace aD := rP hk aD aV; replace aC := rP hk aC aJ; replace HK := aM (KeepBut.trans (km HK.out) hk (.inl rfl)); replace HB := aM (hb); replace aE := aM (hi); (repeat first|clear hb|clear hk|clear hi); have eA := cA2 aC.out) | ((with_reducible refine gC (f := 54) rfl ?_); refine gL (some 31) Try.func54 #[.agg #[aQ, .slice eS aH.length eT], .agg #[.int .i64 3, bJ, .int .i64 0, .int .i64 0, .int .i64 0, .int .i64 0, .int .i64 0, .bool true]] ?_; (with_reducible refine (spec_React.calls k1 aQ _ _ aH 3 bJ 0 0 0 0 0 true cL bZ eR _ ?side1 ?side2 fP.out).mono ?_); (case side1 => repeat (first | exact (Kd.R_reads' aA.out).2.2 | (with_reducible refine Kd.C_alloc ?_ _) | (with_reducible refine Kd.C_drewN ?_ _) | (with_reducible refine Kd.C_drew ?_))); (case side2 => exact (Kd.R_reads' aA.out).2.1); rintro e iK ⟨iC, iD, rfl, ho0, ho1, hb⟩; refine ⟨_, rfl, ?_⟩; have dB := aM (Kd.R_lower (Kd.R_new' ho0 (Kd.R_lt (kr aA.out))) (keep_size (km HK.out))); have gR := aM (Kd.R_lower ho1 (keep_size (km HK.out))); replace aA := aM (Kd.R_elder' (kr aA.out) (Kd.R_base ho0) hb); replace aD := rB aD hb; replace aC := rB aC hb; replace aE := aM (IsS175.below (IsS175.mv aE.out) hb); replace HK := rU HK hb; replace HB := aM (bS (IsS175.bl HB.out) hb); (repeat first|clear hb|clear ho0|clear ho1); have eB := cA2 aC.out; obtain ⟨dK, dL, eV⟩ := Kd.R_slice dB.out; subst eV))
    go_roundg k1
    case measure => have := bP.out; omega
    case rel => exact ⟨(wrap64 (bJ + 1)), (bX), (bY), (cL), (bZ), (.slice dK bZ.length dL), xE, H', ⟨by have := bP.out; omega⟩, ⟨kr (Kd.R_mono (kF (p := ⟨bG, 1, none⟩) (kF (p := ⟨bG, 0, none⟩) (Kd.R_types dB.out aC.out (by decide)) (fun _ hk => hk.2) (.int .i64 cL)) (fun _ hk => hk.2) (.slice dK bZ.length dL)) (fun _ hk => trivial))⟩, ⟨fm aD.out⟩, ⟨bm aC.out⟩, ⟨IsS175.mv aE.out⟩, ⟨km HK.out⟩, ⟨IsS175.bl HB.out⟩⟩
   rw [if_neg bN] at H
   have dA := decide_eq_false bN
   clear bN
   have H' := aM H
   clear H
   have gS := aN.out
   have gT := aK.out
   have gU := aJ.out
   have gV := bI.out
   have eC := cA2 aC.out
   obtain ⟨eW, eX, eY⟩ := Kd.R_slice aA.out
   subst eY
   go_wp2
   go_loopg [6] k1 (fun kq v6 w' => ∃ (bO : Int) (bA : Int) (bD : Int) (aI : Int) (aT : List (S79)) (aZ : Value), v6 = .int .i64 bO ∧ Aside0 (spec_l8DrawRight.l1 kq bO aG bA bD aI aT = some (r1, r2, r3, r4)) ∧ Aside0 (kq ≤ k1) ∧ Aside0 (Kd.R k79 79 w' w.heap.size (fun _ => True) aZ aT) ∧ Aside0 (w'.heap[bK]? = some (.cells #[.int .i64 0, (.slice none 0 0)] 28 (0, 0))) ∧ Aside0 (w'.heap[bG]? = some (.cells #[aI, aZ] 28 (0, 0))) ∧ Aside0 (IsS175 w0 w' g aG bA bD) ∧ Aside0 (KeepBut w w' g none) ∧ Aside0 (Below w0.heap.size w0 w'))
   case atStart => exact ⟨(0), (aW), (aX), (aQ), (aH), (.slice eW aH.length eX), xE, H', ⟨Nat.le_refl _⟩, ⟨kr aA.out⟩, ⟨bk aD.out⟩, ⟨bk aC.out⟩, ⟨IsS175.mv aE.out⟩, ⟨km HK.out⟩, ⟨IsS175.bl HB.out⟩⟩
   case round =>
    clear H'
    repeat first|clear c1|clear c2|clear p2|clear c3|clear c5|clear p6|clear c9|clear fN|clear fO|clear bN|clear dA|clear cE|clear iL|clear iM|clear iN|clear iO|clear iP|clear iQ|clear iR|clear cY|clear dY|clear fD|clear dZ|clear fE|clear eA|clear eB|clear eC|clear fF|clear fG|clear fH|clear fI|clear fK|clear fL|clear fM|clear p2|clear p6
    obtain ⟨bO, bA, bD, aI, aT, aZ, rfl, HA, eJ, aA, aD, aC, aE, HK, HB⟩ := hrel
    cases gk with
    | zero => exact absurd HA.out (by simp [spec_l8DrawRight.l1])
    | succ k2 =>
     have H := HA.out
     clear HA
     simp only [spec_l8DrawRight.l1] at H
     obtain ⟨⟨cN, cA, cC⟩, dM, H⟩ := hB H
     try dsimp only at H
     have eK := aM dM
     clear dM
     by_cases bQ : bO < cN
     case neg =>
      rw [if_neg bQ] at H
      have eD := decide_eq_false bQ
      clear bQ
      simp only [Option.some.injEq, Prod.mk.injEq] at H
      obtain ⟨rfl, rfl, rfl, rfl⟩ := H
      go_wp2_with (first | ((with_reducible refine gC (f := 99) rfl ?_); refine gL (some 36) Try.func99 #[.pointer (some ⟨g, 0, none⟩), .int .i64 10] ?_; (with_reducible refine (spec_l1Below.calls g aG bA bD 10 cN cA cC w0 _ ?side1 ?side2 eK.out).mono ?_); (case side1 => exact IsS175.mv aE.out); (case side2 => exact IsS175.bl HB.out); rintro e iS ⟨rfl, hi, hb, hk⟩; refine ⟨_, rfl, ?_⟩; replace aA := aM (Kd.R_mono (Kd.R_keep (IsS175.apart (show IsS175 w0 _ g aG bA bD from IsS175.mv aE.out) (kr aA.out) (by decide)) hk (fun _ h => h.2)) (fun _ h => h.1)); replace aD := rP hk aD aV; replace aC := rP hk aC aJ; replace HK := aM (KeepBut.trans (km HK.out) hk (.inl rfl)); replace HB := aM (hb); replace aE := aM (hi); (repeat first|clear hb|clear hk|clear hi); have gW := aN.out; have gX := aK.out; have gY := aJ.out; have gZ := bI.out; have hJ := cA2 aC.out; have hO := aV.out; have hU := dD.out; have hX := cA2 aD.out; obtain ⟨dN, dO, eZ⟩ := Kd.R_slice aA.out; subst eZ))
      refine bodyPost_ret (results_cell_row rfl _ _ bK 28 #[aI, .slice dN aT.length dO] (0, 0) _ rfl (bm aD.out) Try.underlying28 rfl (by kernel_rfl)) rfl ?_
      exact ⟨_, xW, by (with_reducible repeat (first | apply Kd.R_alloc | apply Kd.R_drewN | apply Kd.R_drew)); exact Kd.R_mono (kF (p := ⟨bK, 1, none⟩) (kF (p := ⟨bK, 0, none⟩) (Kd.R_types aA.out aD.out (by decide)) (fun _ hk => hk.2) (.int .i64 aI)) (fun _ hk => hk.2) (.slice dN aT.length dO)) (fun _ hk => trivial), IsS175.mv aE.out, IsS175.bl HB.out, km HK.out⟩
     rw [if_pos bQ] at H
     have eD := decide_eq_true bQ
     clear bQ
     obtain ⟨⟨cO, cP, cQ, cR, cS, cT, cU, cV, dP, dQ⟩, dR, H⟩ := hB H
     try dsimp only at H
     have fQ := aM dR
     clear dR
     obtain ⟨⟨cW, cD, fA⟩, dS, H⟩ := hB H
     try dsimp only at H
     have fS := aM dS
     clear dS
     have H' := aM H
     clear H
     try go_wp2_with (first | ((with_reducible refine gC (f := 99) rfl ?_); refine gL (some 36) Try.func99 #[.pointer (some ⟨g, 0, none⟩), .int .i64 10] ?_; (with_reducible refine (spec_l1Below.calls g aG bA bD 10 cN cA cC w0 _ ?side1 ?side2 eK.out).mono ?_); (case side1 => exact IsS175.mv aE.out); (case side2 => exact IsS175.bl HB.out); rintro e fT ⟨rfl, hi, hb, hk⟩; refine ⟨_, rfl, ?_⟩; replace aA := aM (Kd.R_mono (Kd.R_keep (IsS175.apart (show IsS175 w0 _ g aG bA bD from IsS175.mv aE.out) (kr aA.out) (by decide)) hk (fun _ h => h.2)) (fun _ h => h.1)); replace aD := rP hk aD aV; replace aC := rP hk aC aJ; replace HK := aM (KeepBut.trans (km HK.out) hk (.inl rfl)); replace HB := aM (hb); replace aE := aM (hi); (repeat first|clear hb|clear hk|clear hi)))
     replace aA := aM (Kd.R_drew aA.out)
     replace aD := aM (blk_drew aD.out)
     replace aC := aM (blk_drew aC.out)
     replace aE := aM (IsS175.drew aE.out)
     replace HK := aM (keep_drew HK.out)
     replace HB := aM (below_drew1 HB.out)
     refine start_ (n := 8) (S := fun w' => cS2 w' bG (.int .i64 aI) (aZ)) (ds := [7]) (dn 8 0) (by kernel_rfl) rfl rfl ⟨cI aC.out 0, cI aC.out 1⟩ (fun hHeld => ?_); refine with_tabW spec_l8DrawRight.tab10 spec_l8DrawRight.bits10 (fun HT_ HW_ => ?_)
     generalize fT.drew = iT at aA aD aC aE HK HB hHeld ⊢
     refine pY (i := 1) (N := some 42) #[U,Y,U,U,U,U,U,U] HT_ ?_
     refine aY (i := 0) (N := some 41) #[Y,Y,U,U,U,U,U,U] HT_ HW_ hHeld ?_
     refine one_ (i := 2) (N := some 43) #[Y,Y,Y,U,U,U,U,U] rfl rfl (one_of HT_.out (by kernel_rfl)) (by decide) (fun K hK => ?_)
     refine goes_ Try.func194 (by kernel_rfl) rfl #[.pointer (some ⟨g, 0, none⟩)] (by rfl) rfl rfl xR ?_
     with_reducible refine (spec_l8DrawIn.calls g aG cA cC cO cP cQ cR cS cT cU cV dP dQ w0 _ ?side1 ?side2 fQ.out).mono ?_
     (case side1 => exact IsS175.mv aE.out)
     (case side2 => exact IsS175.bl HB.out)
     rintro e iU ⟨rfl, hi, hb, hk⟩
     refine ⟨_, rfl, ?_⟩
     replace aA := aM (Kd.R_mono (Kd.R_keep (IsS175.apart (show IsS175 w0 _ g aG cA cC from IsS175.mv aE.out) (kr aA.out) (by decide)) hk (fun _ h => h.2)) (fun _ h => h.1))
     replace aD := rP hk aD aV
     replace aC := rP hk aC aJ
     replace HK := aM (KeepBut.trans (km HK.out) hk (.inl rfl))
     replace HB := aM (hb)
     replace aE := aM (hi)
     (try clear hb)
     (try clear hb2)
     (try clear hk)
     (try clear hi)
     obtain ⟨fB, fC, dU⟩ := Kd.R_slice aA.out
     (first | subst dU | (injection dU with f1_ f2_ f3_; have f4_ := f1_.symm; have f5_ := f3_.symm; clear f1_ f2_ f3_; subst f4_; subst f5_))
     refine hK.out _ _ ⟨cI aC.out 0, cI aC.out 1⟩ (fun hHeld => ?_)
     clear hK K
     refine norm_ (a' := ?_) ?_ ?_
     rotate_left
     ·show Act.put _ (some 43) _ = _
      simp only [Act.put, sA, sZ, sS, i64_w, i32_w]
      rfl
     refine one_ (i := 3) (N := some 44) #[Y,Y,Y,Y,U,U,U,U] rfl rfl (one_of HT_.out (by kernel_rfl)) (by decide) (fun K hK => ?_)
     refine goes_ Try.func54 (by kernel_rfl) rfl #[.agg #[aI, .slice fB aT.length fC], .agg #[cO, cP, cQ, cR, cS, cT, cU, cV]] (by rfl) rfl rfl xR ?_
     with_reducible refine (spec_React.calls k2 aI _ _ aT cO cP cQ cR cS cT cU cV cW cD fA _ ?side1 ?side2 fS.out).mono ?_
     (case side1 => repeat (first | exact (Kd.R_reads' aA.out).2.2 | (with_reducible refine Kd.C_alloc ?_ _) | (with_reducible refine Kd.C_drewN ?_ _) | (with_reducible refine Kd.C_drew ?_)))
     (case side2 => exact (Kd.R_reads' aA.out).2.1)
     rintro e iV ⟨iE, iF, rfl, ho0, ho1, hb⟩
     refine ⟨_, rfl, ?_⟩
     have dC := aM (Kd.R_lower (Kd.R_new' ho0 (Kd.R_lt (kr aA.out))) (keep_size (km HK.out)))
     have hY := aM (Kd.R_lower ho1 (keep_size (km HK.out)))
     replace aA := aM (Kd.R_elder' (kr aA.out) (Kd.R_base ho0) hb)
     replace aD := rB aD hb
     replace aC := rB aC hb
     replace aE := aM (IsS175.below (IsS175.mv aE.out) hb)
     replace HK := rU HK hb
     replace HB := aM (bS (IsS175.bl HB.out) hb)
     (try clear hb)
     (try clear hb2)
     (try clear hk)
     (try clear hi)
     (try clear ho0)
     (try clear ho1)
     obtain ⟨dV, dW, dX⟩ := Kd.R_slice dC.out
     (first | subst dX | (injection dX with f1_ f2_ f3_; have f4_ := f1_.symm; have f5_ := f3_.symm; clear f1_ f2_ f3_; subst f4_; subst f5_))
     refine hK.out _ _ ⟨cI aC.out 0, cI aC.out 1⟩ (fun hHeld => ?_)
     clear hK K
     refine norm_ (a' := ?_) ?_ ?_
     rotate_left
     ·show Act.put _ (some 44) _ = _
      simp only [Act.put, sA, sZ, sS, i64_w, i32_w]
      rfl
     refine pY (i := 4) (N := some 40) #[Y,Y,Y,Y,Y,U,U,U] HT_ ?_
     refine pY (i := 5) (N := some 45) #[Y,Y,Y,Y,Y,Y,U,U] HT_ ?_
     refine pY (i := 6) (N := some 46) #[Y,Y,Y,Y,Y,Y,Y,U] HT_ ?_
     refine last_ (i := 7) (N := none) #[Y,Y,Y,Y,Y,Y,Y,Y] rfl rfl (one_of HT_.out (by kernel_rfl)) (by decide) (fun K hK => ?_)
     have iG := cI aC.out 0
     have hfs45 := bF aC.out 0
     have hns45_0 := aK.out
     have hms45_0 := aN.out
     have iH := cI aC.out 1
     have hfs47 := bF aC.out 1
     have hns47_0 := aK.out
     have hms47_0 := aN.out
     refine skip_ (w1 := ?_) (by rfl) rfl ?_ ?_
     rotate_left
     ·go_simp
      rfl
     refine hK.out _ _ ?_
     clear hK K
     refine done_ (done_of HT_.out (by kernel_rfl)) ?_
     try go_wp2
     go_roundg k2
     case measure => have := bP.out; have := eJ.out; omega
     case rel => exact ⟨(wrap64 (bO + 1)), (dP), (dQ), (cW), (cD), (.slice dV cD.length dW), xE, H', ⟨by have := bP.out; have := eJ.out; omega⟩, ⟨kr (Kd.R_mono (kF (p := ⟨bG, 1, none⟩) (kF (p := ⟨bG, 0, none⟩) (Kd.R_types dC.out aC.out (by decide)) (fun _ hk => hk.2) (.int .i64 cW)) (fun _ hk => hk.2) (.slice dV cD.length dW)) (fun _ hk => trivial))⟩, ⟨fm aD.out⟩, ⟨bm aC.out⟩, ⟨IsS175.mv aE.out⟩, ⟨km HK.out⟩, ⟨IsS175.bl HB.out⟩⟩

end Go.Proofs.Ythmijfekdeagpaa.PFnRootPorts

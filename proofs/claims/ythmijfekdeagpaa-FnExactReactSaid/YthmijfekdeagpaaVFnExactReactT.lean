/- A part of the proof of laws.FnExactReact. No condition beyond what its theorems say. -/
/- The machine side of laws.FnExactReact: where the plain function of that name answers true, its call returns true. No condition beyond what its arguments read as. -/
import Derived.Test.YthmijfekdeagpaaVFnExactReactPx4
import Derived.Test.YthmijfekdeagpaaVFnExactReactPx30
import Derived.Test.YthmijfekdeagpaaVFnExactReactPx31
import Derived.Test.YthmijfekdeagpaaVFnExactReactPx32
namespace Go.Proofs.Ythmijfekdeagpaa.PFnExactReact
open Go.RowKit Go.Proofs.YthmijfekdeagpaaW.PrintWords Go.Proofs.YthmijfekdeagpaaW.PrintLast Go.Proofs.YthmijfekdeagpaaW.PrintMore
set_option linter.unusedVariables false
set_option linter.unusedSimpArgs false
attribute [local go_sem high] eqA73 eqA89

theorem fld90_0 (w : World) (x0 : Int) (x1 : Int) (x2 : Int) (x3 : Int) : (Instr.field 90 (.agg #[.int .i64 x0, .int .i64 x1, .int .i64 x2, .int .i64 x3]) 0).run Try.prog w = .ok (.int .i64 x0) w := by kernel_rfl
theorem fld90_1 (w : World) (x0 : Int) (x1 : Int) (x2 : Int) (x3 : Int) : (Instr.field 90 (.agg #[.int .i64 x0, .int .i64 x1, .int .i64 x2, .int .i64 x3]) 1).run Try.prog w = .ok (.int .i64 x1) w := by kernel_rfl
theorem fld90_2 (w : World) (x0 : Int) (x1 : Int) (x2 : Int) (x3 : Int) : (Instr.field 90 (.agg #[.int .i64 x0, .int .i64 x1, .int .i64 x2, .int .i64 x3]) 2).run Try.prog w = .ok (.int .i64 x2) w := by kernel_rfl
theorem fld90_3 (w : World) (x0 : Int) (x1 : Int) (x2 : Int) (x3 : Int) : (Instr.field 90 (.agg #[.int .i64 x0, .int .i64 x1, .int .i64 x2, .int .i64 x3]) 3).run Try.prog w = .ok (.int .i64 x3) w := by kernel_rfl
theorem fld73_0 (w : World) (x0 : Int) (x1 : Int) (x2 : Int) (x3 : Int) : (Instr.field 73 (.agg #[.int .i64 x0, .int .i64 x1, .int .i64 x2, .int .i64 x3]) 0).run Try.prog w = .ok (.int .i64 x0) w := by kernel_rfl
theorem fld73_1 (w : World) (x0 : Int) (x1 : Int) (x2 : Int) (x3 : Int) : (Instr.field 73 (.agg #[.int .i64 x0, .int .i64 x1, .int .i64 x2, .int .i64 x3]) 1).run Try.prog w = .ok (.int .i64 x1) w := by kernel_rfl
theorem fld73_2 (w : World) (x0 : Int) (x1 : Int) (x2 : Int) (x3 : Int) : (Instr.field 73 (.agg #[.int .i64 x0, .int .i64 x1, .int .i64 x2, .int .i64 x3]) 2).run Try.prog w = .ok (.int .i64 x2) w := by kernel_rfl
theorem fld73_3 (w : World) (x0 : Int) (x1 : Int) (x2 : Int) (x3 : Int) : (Instr.field 73 (.agg #[.int .i64 x0, .int .i64 x1, .int .i64 x2, .int .i64 x3]) 3).run Try.prog w = .ok (.int .i64 x3) w := by kernel_rfl
attribute [local go_sem high] fld90_0 fld90_1 fld90_2 fld90_3 fld73_0 fld73_1 fld73_2 fld73_3
mutual
def Z2.j0 : Nat → List (S151) → List (S151) → Bool → Int → List (S160) → Int → Int → Int → Int → Int → Int → Int → Bool → Int → List (S79) → Int → List (S79) → Int → List (S79) → Option (Bool)
 | 0, _, _, _, _, _, _, _, _, _, _, _, _, _, _, _, _, _, _, _ => none
 | k + 1, x7, bD, bL, aA, aC, aI, aJ, aK, aN, aQ, aT, aV, aW, aD, aE, aX, bA, aG, aH => if bL = true then (some false) else ((Z33.f k aA aC).bind fun bG => ((Z34.f k aX bA bG.1 bG.2).bind fun bI => (if bI = true then ((Z39.f k aX bA 1).bind fun bH => (if bH.1 < 0 then (Z2.j1 k x7 bD true aA aC aI aJ aK aN aQ aT aV aW aD aE aG aH) else ((Z34.f k aG aH aD aE).bind fun bJ => (if bJ = true then ((Z14.f k bD x7).bind fun bK => (Z2.j1 k x7 bD (!bK) aA aC aI aJ aK aN aQ aT aV aW aD aE aG aH)) else (Z2.j1 k x7 bD true aA aC aI aJ aK aN aQ aT aV aW aD aE aG aH))))) else (some false))))
def Z2.j1 : Nat → List (S151) → List (S151) → Bool → Int → List (S160) → Int → Int → Int → Int → Int → Int → Int → Bool → Int → List (S79) → Int → List (S79) → Option (Bool)
 | 0, _, _, _, _, _, _, _, _, _, _, _, _, _, _, _, _, _ => none
 | k + 1, x7, bM, bN, aI, aJ, aK, aN, aQ, aT, aV, aW, aX, bA, bD, bG, aC, bH => if bN = true then (some false) else ((Z39.f k aC bH 1).bind fun aE => ((Z26.f k bM aE.1).bind fun aD => ((Z42.f k aC aE.2 1).bind fun bI => (if bI < 0 then (some false) else ((Z23.f k aD.2 bI).bind fun bJ => (if bJ < 0 then (some false) else (if bJ = aD.1 then ((Z33.f k aI aJ).bind fun aH => ((Z44.f aK aN aQ aT aV aW aX bA).bind fun aA => ((Z35.f k aH.1 aH.2 aA.1 aA.2.1 aA.2.2.1 aA.2.2.2.1 aA.2.2.2.2.1 aA.2.2.2.2.2.1 aA.2.2.2.2.2.2.1 aA.2.2.2.2.2.2.2).bind fun aG => ((Z34.f k aG.1 aG.2.1 bD bG).bind fun bK => (if bK = true then ((Z14.f k aG.2.2 x7).bind fun bL => (Z2.j2 k aD.2 aD.1 (!bL) aC aE.2)) else (Z2.j2 k aD.2 aD.1 true aC aE.2)))))) else (some false))))))))
def Z2.j2 : Nat → List (S151) → Int → Bool → Int → List (S79) → Option (Bool)
 | 0, _, _, _, _, _ => none
 | k + 1, aH, aI, aG, aA, aC => if aG = true then (some false) else ((Z42.f k aA aC 1).bind fun aD => (if aD < 0 then (some false) else ((Z23.f k aH aD).bind fun aE => (if aE < 0 then (some false) else (if aE = aI then (some true) else (some false))))))
end
def Z2.f (k : Nat) (aH : Int) (aI : List (S160)) (aJ aK aN aQ aT aV aW : Int) (aX : Bool) : Option (Bool) := (Z58.f aH aI 1048576).bind fun bD => (if bD < 0 then (some true) else ((Z33.f k aH aI).bind fun bA => ((Z44.f aJ aK aN aQ aT aV aW aX).bind fun aD => ((Z1.f k bA.1 bA.2 aD.1 aD.2.1 aD.2.2.1 aD.2.2.2.1 aD.2.2.2.2.1 aD.2.2.2.2.2.1 aD.2.2.2.2.2.2.1 aD.2.2.2.2.2.2.2).bind fun aA => ((Z33.f k aH aI).bind fun aG => ((Z44.f aJ aK aN aQ aT aV aW aX).bind fun aE => ((Z35.f k aG.1 aG.2 aE.1 aE.2.1 aE.2.2.1 aE.2.2.2.1 aE.2.2.2.2.1 aE.2.2.2.2.2.1 aE.2.2.2.2.2.2.1 aE.2.2.2.2.2.2.2).bind fun aC => ((Z34.f k aC.1 aC.2.1 aA.1 aA.2.1).bind fun bG => (if bG = true then ((Z14.f k aC.2.2 aA.2.2).bind fun bH => (Z2.j0 k aA.2.2 aC.2.2 (!bH) aH aI aJ aK aN aQ aT aV aW aX aA.1 aA.2.1 aG.1 aG.2 aC.1 aC.2.1)) else (Z2.j0 k aA.2.2 aC.2.2 true aH aI aJ aK aN aQ aT aV aW aX aA.1 aA.2.1 aG.1 aG.2 aC.1 aC.2.1))))))))))
theorem Z2.mono_l : ∀ k, (∀ y0 y1 y2 y3 y4 y5 y6 y7 y8 y9 aA aC aD aE aG aH aI aJ aK, LeO (Z2.j0 k y0 y1 y2 y3 y4 y5 y6 y7 y8 y9 aA aC aD aE aG aH aI aJ aK) (Z2.j0 (k + 1) y0 y1 y2 y3 y4 y5 y6 y7 y8 y9 aA aC aD aE aG aH aI aJ aK)) ∧ (∀ y0 y1 y2 y3 y4 y5 y6 y7 y8 y9 aA aC aD aE aG aH aI, LeO (Z2.j1 k y0 y1 y2 y3 y4 y5 y6 y7 y8 y9 aA aC aD aE aG aH aI) (Z2.j1 (k + 1) y0 y1 y2 y3 y4 y5 y6 y7 y8 y9 aA aC aD aE aG aH aI)) ∧ (∀ y0 y1 y2 y3 y4, LeO (Z2.j2 k y0 y1 y2 y3 y4) (Z2.j2 (k + 1) y0 y1 y2 y3 y4))
 | 0 => by refine ⟨?_, ?_, ?_⟩ <;> intros <;> intro r h <;> simp [Z2.j0, Z2.j1, Z2.j2] at h
 | k + 1 => by
  obtain ⟨ih0, ih1, ih2⟩ := Z2.mono_l k
  refine ⟨?_, ?_, ?_⟩
  ·intro y0 y1 y2 y3 y4 y5 y6 y7 y8 y9 aA aC aD aE aG aH aI aJ aK
   unfold Z2.j0
   repeat' first|(with_reducible first|apply ih0|apply ih1|apply ih2|apply Z35.mono|apply Z34.mono|apply Z14.mono|apply Z42.mono|apply Z23.mono|apply Z39.mono|apply Z26.mono|apply Z33.mono|apply Z1.mono|exact lR _|exact lN _|refine lI ?_ ?_|refine lB ?_ fun _ => ?_)|exact lN _|refine lI ?_ ?_|refine lB ?_ fun _ => ?_
  ·intro y0 y1 y2 y3 y4 y5 y6 y7 y8 y9 aA aC aD aE aG aH aI
   unfold Z2.j1
   repeat' first|(with_reducible first|apply ih0|apply ih1|apply ih2|apply Z35.mono|apply Z34.mono|apply Z14.mono|apply Z42.mono|apply Z23.mono|apply Z39.mono|apply Z26.mono|apply Z33.mono|apply Z1.mono|exact lR _|exact lN _|refine lI ?_ ?_|refine lB ?_ fun _ => ?_)|exact lN _|refine lI ?_ ?_|refine lB ?_ fun _ => ?_
  ·intro y0 y1 y2 y3 y4
   unfold Z2.j2
   repeat' first|(with_reducible first|apply ih0|apply ih1|apply ih2|apply Z35.mono|apply Z34.mono|apply Z14.mono|apply Z42.mono|apply Z23.mono|apply Z39.mono|apply Z26.mono|apply Z33.mono|apply Z1.mono|exact lR _|exact lN _|refine lI ?_ ?_|refine lB ?_ fun _ => ?_)|exact lN _|refine lI ?_ ?_|refine lB ?_ fun _ => ?_
theorem Z2.mono : ∀ a0 a1 a2 a3 a4 a5 a6 a7 a8 a9 k, LeO (Z2.f k a0 a1 a2 a3 a4 a5 a6 a7 a8 a9) (Z2.f (k + 1) a0 a1 a2 a3 a4 a5 a6 a7 a8 a9) := by
 intro a0 a1 a2 a3 a4 a5 a6 a7 a8 a9 k
 obtain ⟨ih0, ih1, ih2⟩ := Z2.mono_l k
 unfold Z2.f
 repeat' first|(with_reducible first|apply ih0|apply ih1|apply ih2|apply Z35.mono|apply Z34.mono|apply Z14.mono|apply Z42.mono|apply Z23.mono|apply Z39.mono|apply Z26.mono|apply Z33.mono|apply Z1.mono|exact lR _|exact lN _|refine lI ?_ ?_|refine lB ?_ fun _ => ?_)|exact lN _|refine lI ?_ ?_|refine lB ?_ fun _ => ?_
def Z2.T5 : Bool × List (List Nat × List Nat) := (true, [([], []), ([0], [0]), ([], []), ([2, 1], [2]), ([1, 3, 3], [1, 3]), ([4], [4]), ([5], [5]), ([5], [5]), ([], []), ([8, 6, 4, 0, 1, 2, 3, 4, 5, 6, 8], [6, 8]), ([7, 9, 0, 1, 2, 3, 4, 5, 6, 7, 8, 9], [7])])
def Z2.B5 : List Nat := [0, 1, 0, 7, 15, 31, 63, 63, 0, 383, 1023]
theorem Z2.tab5 : rtab .any (opsOf Try.f10 5) = Z2.T5 := by kernel_rfl
theorem Z2.bits5 : waitsOk Z2.T5.2 Z2.B5 = true := by kernel_rfl
def Z2.T7 : Bool × List (List Nat × List Nat) := (true, [([], []), ([], []), ([1], [1]), ([0, 2, 2], [0, 2]), ([3], [3]), ([4], [4]), ([4], [4]), ([], []), ([7, 5, 3, 0, 1, 2, 3, 4, 5, 7], [5, 7]), ([6, 8, 0, 1, 2, 3, 4, 5, 6, 7, 8], [6])])
def Z2.B7 : List Nat := [0, 0, 2, 7, 15, 31, 31, 0, 191, 511]
theorem Z2.tab7 : rtab .any (opsOf Try.f10 7) = Z2.T7 := by kernel_rfl
theorem Z2.bits7 : waitsOk Z2.T7.2 Z2.B7 = true := by kernel_rfl
def Z2.T28 : Bool × List (List Nat × List Nat) := (true, [([], []), ([0], [0]), ([], []), ([2, 1], [2]), ([1, 3, 3], [1, 3]), ([4], [4]), ([5], [5]), ([5], [5]), ([], []), ([8, 6, 4, 0, 1, 2, 3, 4, 5, 6, 8], [6, 8]), ([7, 9, 0, 1, 2, 3, 4, 5, 6, 7, 8, 9], [7])])
def Z2.B28 : List Nat := [0, 1, 0, 7, 15, 31, 63, 63, 0, 383, 1023]
theorem Z2.tab28 : rtab .any (opsOf Try.f10 28) = Z2.T28 := by kernel_rfl
theorem Z2.bits28 : waitsOk Z2.T28.2 Z2.B28 = true := by kernel_rfl
theorem Z2.j0_no : ∀ (k : Nat) x0 x1 x3 x4 x5 x6 x7 x8 x9 aA aC aD aE aG aH aI aJ aK, Z2.j0 k x0 x1 true x3 x4 x5 x6 x7 x8 x9 aA aC aD aE aG aH aI aJ aK ≠ some true := by
 intro k
 cases k <;> intros <;> simp [Z2.j0]
theorem Z2.j1_no : ∀ (k : Nat) x0 x1 x3 x4 x5 x6 x7 x8 x9 aA aC aD aE aG aH aI, Z2.j1 k x0 x1 true x3 x4 x5 x6 x7 x8 x9 aA aC aD aE aG aH aI ≠ some true := by
 intro k
 cases k <;> intros <;> simp [Z2.j1]
theorem Z2.j2_no : ∀ (k : Nat) x0 x1 x3 x4, Z2.j2 k x0 x1 true x3 x4 ≠ some true := by
 intro k
 cases k <;> intros <;> simp [Z2.j2]
set_option maxHeartbeats 60000000 in
set_option maxRecDepth 100000 in
theorem Z2.calls (k : Nat) (bL : Int) (cY : Option Addr) (dA : Nat) (bH : List (S160)) (bM bN bO bP bQ bT bU : Int) (bV : Bool) (w : World) (hr0_1 : Kd.C k160 w cY bH.length bH) (hc0_1 : bH.length ≤ dA) (h : Z2.f k bL bH bM bN bO bP bQ bT bU bV = some true) :
  Calls Try.prog 10 #[.agg #[bL, .slice cY bH.length dA], .agg #[bM, bN, bO, bP, bQ, bT, bU, bV]] w fun e w' => e = .returned (.bool true) ∧ Below w.heap.size w w' := by
 have tM := Try.underlying24
 have tN := Try.underlying92
 have tO := Try.underlying28
 have fO := aM hr0_1
 have fP := aM hc0_1
 clear hr0_1 hc0_1
 have HB := aM (Below.refl w.heap.size w)
 have H : ((Z58.f bL bH 1048576).bind fun iU => (if iU < 0 then (some true) else ((Z33.f k bL bH).bind fun jW => ((Z44.f bM bN bO bP bQ bT bU bV).bind fun fQ => ((Z1.f k jW.1 jW.2 fQ.1 fQ.2.1 fQ.2.2.1 fQ.2.2.2.1 fQ.2.2.2.2.1 fQ.2.2.2.2.2.1 fQ.2.2.2.2.2.2.1 fQ.2.2.2.2.2.2.2).bind fun fI => ((Z33.f k bL bH).bind fun hU => ((Z44.f bM bN bO bP bQ bT bU bV).bind fun fS => ((Z35.f k hU.1 hU.2 fS.1 fS.2.1 fS.2.2.1 fS.2.2.2.1 fS.2.2.2.2.1 fS.2.2.2.2.2.1 fS.2.2.2.2.2.2.1 fS.2.2.2.2.2.2.2).bind fun fK => ((Z34.f k fK.1 fK.2.1 fI.1 fI.2.1).bind fun jL => (if jL = true then ((Z14.f k fK.2.2 fI.2.2).bind fun iH => (Z2.j0 k fI.2.2 fK.2.2 (!iH) bL bH bM bN bO bP bQ bT bU bV fI.1 fI.2.1 hU.1 hU.2 fK.1 fK.2.1)) else (Z2.j0 k fI.2.2 fK.2.2 true bL bH bM bN bO bP bQ bT bU bV fI.1 fI.2.1 hU.1 hU.2 fK.1 fK.2.1))))))))))) = some true := h
 clear h
 obtain ⟨iU, mL, H⟩ := hB H
 have A3 := aM mL
 clear mL
 by_cases c4 : iU < 0
 case pos =>
  rw [if_pos c4] at H
  have mV := decide_eq_true c4
  clear c4
  clear H
  go_enter Try.func10, Try.ntmps10
  go_wp2_with (first | ((with_reducible refine gD (N := 2) rfl ?_); refine bE (N := 2) (cs := #[bL, .slice cY bH.length dA]) (t := 24) ?_; intro cH hg w5 hbox hb; have aC := aM (hbox); have mC := gF hg HB; have mD := gF hg HB; replace HB := rS HB hb; clear hb hbox hg) | ((with_reducible refine gD (N := 3) rfl ?_); refine bE (N := 3) (cs := #[bM, bN, bO, bP, bQ, bT, bU, bV]) (t := 92) ?_; intro aQ hg w6 hbox hb; have aA := aM (hbox); have mE := gF hg HB; have mF := gF hg HB; have gX := nM hg aC; have gY := nH hg aC; replace aC := rB aC hb; replace HB := rS HB hb; clear hb hbox hg; have tP := gX.out; have tQ := gY.out; have tR := cA2 aC.out) | ((with_reducible refine gC (f := 12) rfl ?_); refine gL (some 18) Try.func12 #[.agg #[bL, .slice cY bH.length dA], .int .i64 1048576] ?_; (with_reducible refine (Z58.calls bL _ _ bH 1048576 iU _ ?side1 ?side2 A3.out).mono ?_); (case side1 => exact cM (cB fO.out HB.out)); (case side2 => exact fP.out); rintro e w9 ⟨rfl, hb⟩; refine ⟨_, rfl, ?_⟩; replace aC := rB aC hb; replace aA := rB aA hb; replace HB := rS HB hb; (try clear hb)))
  go_ret
  exact ⟨xW, bl HB.out⟩
 rw [if_neg c4] at H
 have mV := decide_eq_false c4
 clear c4
 obtain ⟨⟨fL, eD⟩, kR, H⟩ := hB H
 try dsimp only at H
 have mM := aM kR
 clear kR
 obtain ⟨⟨eS, eT, eU, eV, eW, eX, eY, eZ⟩, kS, H⟩ := hB H
 try dsimp only at H
 have kT := aM kS
 clear kS
 obtain ⟨⟨cK, aT, cO⟩, jA, H⟩ := hB H
 try dsimp only at H
 have jX := aM jA
 clear jA
 obtain ⟨⟨cP, bI⟩, kU, H⟩ := hB H
 try dsimp only at H
 have nK := aM kU
 clear kU
 obtain ⟨⟨gN, gO, gP, gQ, gR, gS, gT, gU⟩, kV, H⟩ := hB H
 try dsimp only at H
 have mN := aM kV
 clear kV
 obtain ⟨⟨cD, aV, cL⟩, kW, H⟩ := hB H
 try dsimp only at H
 have kX := aM kW
 clear kW
 have jM := aM H
 clear H
 go_enter Try.func10, Try.ntmps10
 try go_wp2_with (first | ((with_reducible refine gD (N := 2) rfl ?_); refine bE (N := 2) (cs := #[bL, .slice cY bH.length dA]) (t := 24) ?_; intro cH hg vP hbox hb; have aC := aM (hbox); have mC := gF hg HB; have mD := gF hg HB; replace HB := rS HB hb; clear hb hbox hg) | ((with_reducible refine gD (N := 3) rfl ?_); refine bE (N := 3) (cs := #[bM, bN, bO, bP, bQ, bT, bU, bV]) (t := 92) ?_; intro aQ hg vQ hbox hb; have aA := aM (hbox); have mE := gF hg HB; have mF := gF hg HB; have gX := nM hg aC; have gY := nH hg aC; replace aC := rB aC hb; replace HB := rS HB hb; clear hb hbox hg; have qY := gX.out; have qZ := gY.out; have rA := cA2 aC.out) | ((with_reducible refine gC (f := 12) rfl ?_); refine gL (some 18) Try.func12 #[.agg #[bL, .slice cY bH.length dA], .int .i64 1048576] ?_; (with_reducible refine (Z58.calls bL _ _ bH 1048576 iU _ ?side1 ?side2 A3.out).mono ?_); (case side1 => exact cM (cB fO.out HB.out)); (case side2 => exact fP.out); rintro e nN ⟨rfl, hb⟩; refine ⟨_, rfl, ?_⟩; replace aC := rB aC hb; replace aA := rB aA hb; replace HB := rS HB hb; (try clear hb)))
 replace aC := aM (blk_drew aC.out)
 replace aA := aM (blk_drew aA.out)
 replace HB := aM (below_drew1 HB.out)
 refine start_ (n := 11) (S := fun w' => cT2 w' cH (.int .i64 bL) (.slice cY bH.length dA) (cS8 w' aQ (.int .i64 bM) (.int .i64 bN) (.int .i64 bO) (.int .i64 bP) (.int .i64 bQ) (.int .i64 bT) (.int .i64 bU) (.bool bV))) (ds := []) (dn 11 0) (by kernel_rfl) rfl rfl ⟨cI aC.out 0, cI aC.out 1, cI aA.out 0, cI aA.out 1, cI aA.out 2, cI aA.out 3, cI aA.out 4, cI aA.out 5, cI aA.out 6, cI aA.out 7⟩ (fun hHeld => ?_); refine with_tabW Z2.tab5 Z2.bits5 (fun HT_ HW_ => ?_)
 generalize nN.drew = vR at aC aA HB hHeld ⊢
 refine tY (N := some 22) HT_ HW_ hHeld ?_
 refine aZ 2 24 (bv 11 5) HT_ HW_ hHeld ?_
 refine join_ (σ := Value × Value × Value × Nat) 2 (bv 11 511) (fun s_ => [(23, .agg #[fL, s_.1]), (25, .agg #[eS, eT, eU, eV, eW, eX, eY, eZ]), (26, .tuple #[.agg #[cK, s_.2.1], s_.2.2.1]), (6, .pointer (some ⟨s_.2.2.2, 0, none⟩)), (21, .tuple #[.agg #[cK, s_.2.1], s_.2.2.1]), (27, .agg #[cK, s_.2.1]), (28, s_.2.2.1)]) (fun s_ w' => (w'.cell? ⟨cH, 0, none⟩ = some bL ∧ w'.cell? ⟨cH, 1, none⟩ = some (.slice cY bH.length dA) ∧ w'.cell? ⟨aQ, 0, none⟩ = some bM ∧ w'.cell? ⟨aQ, 1, none⟩ = some bN ∧ w'.cell? ⟨aQ, 2, none⟩ = some bO ∧ w'.cell? ⟨aQ, 3, none⟩ = some bP ∧ w'.cell? ⟨aQ, 4, none⟩ = some bQ ∧ w'.cell? ⟨aQ, 5, none⟩ = some bT ∧ w'.cell? ⟨aQ, 6, none⟩ = some bU ∧ w'.cell? ⟨aQ, 7, none⟩ = some bV) ∧ (Kd.R k79 79 w' w.heap.size (fun k_ => some k_ ≠ (s_.2.1 : Value).ownBlock) s_.1 eD) ∧ (Kd.R k79 79 w' w.heap.size (fun k_ => some k_ ≠ (s_.1 : Value).ownBlock) s_.2.1 aT) ∧ (Kd.R k151 151 w' w.heap.size (fun _ => True) s_.2.2.1 cO) ∧ (w'.heap[cH]? = some (.cells #[bL, .slice cY bH.length dA] 24 (0, 0))) ∧ (w'.heap[aQ]? = some (.cells #[bM, bN, bO, bP, bQ, bT, bU, bV] 92 (0, 0))) ∧ (w'.heap[s_.2.2.2]? = some (.cells #[.int .i64 0, .slice none 0 0] 28 (0, 0))) ∧ (w.heap.size ≤ s_.2.2.2) ∧ (w.heap.size ≤ s_.2.2.2) ∧ (cH ≠ s_.2.2.2) ∧ (s_.2.2.2 ≠ cH) ∧ (aQ ≠ s_.2.2.2) ∧ (s_.2.2.2 ≠ aQ) ∧ (Below w.heap.size w w')) ?_ ?_
 rotate_left
 ·intro hCont
  refine two_ (i := 1) (j := 8) (Ni := some 23) (Nj := some 6) (bv 11 7) (bv 11 261) rfl rfl rfl rfl (two_of HT_.out (by kernel_rfl)) (by decide) (by decide) (fun K hK => ?_) (fun K hK => ?_)
  ·skip
   refine goes_ Try.func14 (by kernel_rfl) rfl #[.agg #[bL, .slice cY bH.length dA]] (by rfl) rfl rfl xR ?_
   with_reducible refine (Z33.calls k bL _ _ bH fL eD _ ?side1 ?side2 mM.out).mono ?_
   (case side1 => exact cM (cB fO.out HB.out))
   (case side2 => exact fP.out)
   rintro e nO ⟨eE, rfl, ho0, hb⟩
   refine ⟨_, rfl, ?_⟩
   have aN := aM (Kd.R_lower ho0 (below_size (bl HB.out)))
   replace aC := rB aC hb
   replace aA := rB aA hb
   replace HB := rS HB hb
   (try clear hb)
   (try clear hb2)
   (try clear hk)
   (try clear hi)
   (try clear ho0)
   refine hK.out _ _ ⟨cI aC.out 0, cI aC.out 1, cI aA.out 0, cI aA.out 1, cI aA.out 2, cI aA.out 3, cI aA.out 4, cI aA.out 5, cI aA.out 6, cI aA.out 7⟩ (fun hHeld => ?_)
   clear hK K
   refine norm_ (a' := ?_) ?_ ?_
   rotate_left
   ·show Act.put _ (some 23) _ = _
    simp only [Act.put, sA, sZ, sS, i64_w, i32_w]
    rfl
   refine two_ (i := 3) (j := 8) (Ni := some 25) (Nj := some 6) (bv 11 15) (bv 11 263) rfl rfl rfl rfl (two_of HT_.out (by kernel_rfl)) (by decide) (by decide) (fun K hK => ?_) (fun K hK => ?_)
   ·skip
    refine goes_ Try.func55 (by kernel_rfl) rfl #[.agg #[bM, bN, bO, bP, bQ, bT, bU, bV]] (by rfl) rfl rfl xR ?_
    with_reducible refine (Z44.calls bM bN bO bP bQ bT bU bV eS eT eU eV eW eX eY eZ _ kT.out).mono ?_
    rintro e mO ⟨rfl, hb⟩
    refine ⟨_, rfl, ?_⟩
    replace aN := rK aN hb
    replace aC := rB aC hb
    replace aA := rB aA hb
    replace HB := rS HB hb
    (try clear hb)
    (try clear hb2)
    (try clear hk)
    (try clear hi)
    obtain ⟨kY, kZ, lA⟩ := Kd.R_slice aN.out
    (first | subst lA | (injection lA with f1_ f2_ f3_; have f4_ := f1_.symm; have f5_ := f3_.symm; clear f1_ f2_ f3_; subst f4_; subst f5_))
    refine hK.out _ _ ⟨cI aC.out 0, cI aC.out 1, cI aA.out 0, cI aA.out 1, cI aA.out 2, cI aA.out 3, cI aA.out 4, cI aA.out 5, cI aA.out 6, cI aA.out 7⟩ (fun hHeld => ?_)
    clear hK K
    refine norm_ (a' := ?_) ?_ ?_
    rotate_left
    ·show Act.put _ (some 25) _ = _
     simp only [Act.put, sA, sZ, sS, i64_w, i32_w]
     rfl
    refine two_ (i := 4) (j := 8) (Ni := some 26) (Nj := some 6) (bv 11 31) (bv 11 271) rfl rfl rfl rfl (two_of HT_.out (by kernel_rfl)) (by decide) (by decide) (fun K hK => ?_) (fun K hK => ?_)
    ·skip
     refine goes_ Try.func54 (by kernel_rfl) rfl #[.agg #[fL, .slice kY eD.length kZ], .agg #[eS, eT, eU, eV, eW, eX, eY, eZ]] (by rfl) rfl rfl xR ?_
     with_reducible refine (Z1.calls k fL _ _ eD eS eT eU eV eW eX eY eZ cK aT cO _ ?side1 ?side2 jX.out).mono ?_
     (case side1 => exact cM ((Kd.R_reads' aN.out).2.2))
     (case side2 => exact (Kd.R_reads' aN.out).2.1)
     rintro e vS ⟨gH, dJ, rfl, ho0, ho1, hb⟩
     refine ⟨_, rfl, ?_⟩
     have aX := aM (Kd.R_lower (Kd.R_new' ho0 (Kd.R_lt (kr aN.out))) (below_size (bl HB.out)))
     have bA := aM (Kd.R_lower ho1 (below_size (bl HB.out)))
     replace aN := aM (Kd.R_elder' (kr aN.out) (Kd.R_base ho0) hb)
     replace aC := rB aC hb
     replace aA := rB aA hb
     replace HB := rS HB hb
     (try clear hb)
     (try clear hb2)
     (try clear hk)
     (try clear hi)
     (try clear ho0)
     (try clear ho1)
     refine hK.out _ _ ⟨cI aC.out 0, cI aC.out 1, cI aA.out 0, cI aA.out 1, cI aA.out 2, cI aA.out 3, cI aA.out 4, cI aA.out 5, cI aA.out 6, cI aA.out 7⟩ (fun hHeld => ?_)
     clear hK K
     refine norm_ (a' := ?_) ?_ ?_
     rotate_left
     ·show Act.put _ (some 26) _ = _
      simp only [Act.put, sA, sZ, sS, i64_w, i32_w]
      rfl
     refine pZ 5 21 (bv 11 63) HT_ ?_
     refine pZ 6 27 (bv 11 127) HT_ ?_
     refine pZ 7 28 (bv 11 255) HT_ ?_
     refine one_ (i := 8) (N := some 6) (bv 11 511) rfl rfl (one_of HT_.out (by kernel_rfl)) (by decide) (fun K hK => ?_)
     refine box_step ?hg (N := 6) ?hd (cs := #[.int .i64 0, .slice none 0 0]) (t := 28) ?hr ?_; (case hd => rfl); (case hg => rfl); (case hr => first | (go_simp; done) | (go_simp; rfl))
     intro cC hg lC hbox hb
     have aG := aM (hbox)
     have fT := gF hg HB
     have fU := gF hg HB
     have cQ := nM hg aC
     have cR := nH hg aC
     have cS := nM hg aA
     have cT := nH hg aA
     replace aN := rK aN hb
     replace aX := rK aX hb
     replace bA := rK bA hb
     replace aC := rB aC hb
     replace aA := rB aA hb
     replace HB := rS HB hb
     clear hb hbox hg
     refine hK.out _ _ ⟨cI aC.out 0, cI aC.out 1, cI aA.out 0, cI aA.out 1, cI aA.out 2, cI aA.out 3, cI aA.out 4, cI aA.out 5, cI aA.out 6, cI aA.out 7⟩ (fun hHeld => ?_)
     clear hK K
     refine norm_ (a' := ?_) ?_ ?_
     rotate_left
     ·show Act.put _ (some 6) _ = _
      simp only [Act.put, sA, sZ, sS, i64_w, i32_w]
      rfl
     exact norm_ (by simp only [putAll, Act.put, sA, sZ, sS]) (hCont (.slice kY eD.length kZ, gH, dJ, cC) _ ⟨hHeld, (kr (Kd.R_mono aN.out (fun _ hk => hk.2))), (kr (Kd.R_mono aX.out (fun _ hk => hk.2))), (kr bA.out), (bk aC.out), (bk aA.out), (bk aG.out), fT.out, fU.out, cQ.out, cR.out, cS.out, cT.out, (bl HB.out)⟩)
    ·skip
     refine box_step ?hg (N := 6) ?hd (cs := #[.int .i64 0, .slice none 0 0]) (t := 28) ?hr ?_; (case hd => rfl); (case hg => rfl); (case hr => first | (go_simp; done) | (go_simp; rfl))
     intro cC hg mP hbox hb
     have aG := aM (hbox)
     have fT := gF hg HB
     have fU := gF hg HB
     have cQ := nM hg aC
     have cR := nH hg aC
     have cS := nM hg aA
     have cT := nH hg aA
     replace aN := rK aN hb
     replace aC := rB aC hb
     replace aA := rB aA hb
     replace HB := rS HB hb
     clear hb hbox hg
     obtain ⟨gZ, hD, hH⟩ := Kd.R_slice aN.out
     (first | subst hH | (injection hH with f1_ f2_ f3_; have f4_ := f1_.symm; have f5_ := f3_.symm; clear f1_ f2_ f3_; subst f4_; subst f5_))
     refine hK.out _ _ ⟨cI aC.out 0, cI aC.out 1, cI aA.out 0, cI aA.out 1, cI aA.out 2, cI aA.out 3, cI aA.out 4, cI aA.out 5, cI aA.out 6, cI aA.out 7⟩ (fun hHeld => ?_)
     clear hK K
     refine norm_ (a' := ?_) ?_ ?_
     rotate_left
     ·show Act.put _ (some 6) _ = _
      simp only [Act.put, sA, sZ, sS, i64_w, i32_w]
      rfl
     refine one_ (i := 4) (N := some 26) (bv 11 287) rfl rfl (one_of HT_.out (by kernel_rfl)) (by decide) (fun K hK => ?_)
     refine goes_ Try.func54 (by kernel_rfl) rfl #[.agg #[fL, .slice gZ eD.length hD], .agg #[eS, eT, eU, eV, eW, eX, eY, eZ]] (by rfl) rfl rfl xR ?_
     with_reducible refine (Z1.calls k fL _ _ eD eS eT eU eV eW eX eY eZ cK aT cO _ ?side1 ?side2 jX.out).mono ?_
     (case side1 => exact cM ((Kd.R_reads' aN.out).2.2))
     (case side2 => exact (Kd.R_reads' aN.out).2.1)
     rintro e lC ⟨gH, dJ, rfl, ho0, ho1, hb⟩
     refine ⟨_, rfl, ?_⟩
     have aX := aM (Kd.R_lower (Kd.R_new' ho0 (Kd.R_lt (kr aN.out))) (below_size (bl HB.out)))
     have bA := aM (Kd.R_lower ho1 (below_size (bl HB.out)))
     replace aN := aM (Kd.R_elder' (kr aN.out) (Kd.R_base ho0) hb)
     replace aC := rB aC hb
     replace aA := rB aA hb
     replace aG := rB aG hb
     replace HB := rS HB hb
     (try clear hb)
     (try clear hb2)
     (try clear hk)
     (try clear hi)
     (try clear ho0)
     (try clear ho1)
     refine hK.out _ _ ⟨cI aC.out 0, cI aC.out 1, cI aA.out 0, cI aA.out 1, cI aA.out 2, cI aA.out 3, cI aA.out 4, cI aA.out 5, cI aA.out 6, cI aA.out 7⟩ (fun hHeld => ?_)
     clear hK K
     refine norm_ (a' := ?_) ?_ ?_
     rotate_left
     ·show Act.put _ (some 26) _ = _
      simp only [Act.put, sA, sZ, sS, i64_w, i32_w]
      rfl
     refine pZ 5 21 (bv 11 319) HT_ ?_
     refine pZ 6 27 (bv 11 383) HT_ ?_
     refine pZ 7 28 (bv 11 511) HT_ ?_
     exact norm_ (by simp only [putAll, Act.put, sA, sZ, sS]) (hCont (.slice gZ eD.length hD, gH, dJ, cC) _ ⟨hHeld, (kr (Kd.R_mono aN.out (fun _ hk => hk.2))), (kr (Kd.R_mono aX.out (fun _ hk => hk.2))), (kr bA.out), (bk aC.out), (bk aA.out), (bk aG.out), fT.out, fU.out, cQ.out, cR.out, cS.out, cT.out, (bl HB.out)⟩)
   ·skip
    refine box_step ?hg (N := 6) ?hd (cs := #[.int .i64 0, .slice none 0 0]) (t := 28) ?hr ?_; (case hd => rfl); (case hg => rfl); (case hr => first | (go_simp; done) | (go_simp; rfl))
    intro cC hg mO hbox hb
    have aG := aM (hbox)
    have fT := gF hg HB
    have fU := gF hg HB
    have cQ := nM hg aC
    have cR := nH hg aC
    have cS := nM hg aA
    have cT := nH hg aA
    replace aN := rK aN hb
    replace aC := rB aC hb
    replace aA := rB aA hb
    replace HB := rS HB hb
    clear hb hbox hg
    refine hK.out _ _ ⟨cI aC.out 0, cI aC.out 1, cI aA.out 0, cI aA.out 1, cI aA.out 2, cI aA.out 3, cI aA.out 4, cI aA.out 5, cI aA.out 6, cI aA.out 7⟩ (fun hHeld => ?_)
    clear hK K
    refine norm_ (a' := ?_) ?_ ?_
    rotate_left
    ·show Act.put _ (some 6) _ = _
     simp only [Act.put, sA, sZ, sS, i64_w, i32_w]
     rfl
    refine one_ (i := 3) (N := some 25) (bv 11 271) rfl rfl (one_of HT_.out (by kernel_rfl)) (by decide) (fun K hK => ?_)
    refine goes_ Try.func55 (by kernel_rfl) rfl #[.agg #[bM, bN, bO, bP, bQ, bT, bU, bV]] (by rfl) rfl rfl xR ?_
    with_reducible refine (Z44.calls bM bN bO bP bQ bT bU bV eS eT eU eV eW eX eY eZ _ kT.out).mono ?_
    rintro e mP ⟨rfl, hb⟩
    refine ⟨_, rfl, ?_⟩
    replace aN := rK aN hb
    replace aC := rB aC hb
    replace aA := rB aA hb
    replace aG := rB aG hb
    replace HB := rS HB hb
    (try clear hb)
    (try clear hb2)
    (try clear hk)
    (try clear hi)
    obtain ⟨gZ, hD, hH⟩ := Kd.R_slice aN.out
    (first | subst hH | (injection hH with f1_ f2_ f3_; have f4_ := f1_.symm; have f5_ := f3_.symm; clear f1_ f2_ f3_; subst f4_; subst f5_))
    refine hK.out _ _ ⟨cI aC.out 0, cI aC.out 1, cI aA.out 0, cI aA.out 1, cI aA.out 2, cI aA.out 3, cI aA.out 4, cI aA.out 5, cI aA.out 6, cI aA.out 7⟩ (fun hHeld => ?_)
    clear hK K
    refine norm_ (a' := ?_) ?_ ?_
    rotate_left
    ·show Act.put _ (some 25) _ = _
     simp only [Act.put, sA, sZ, sS, i64_w, i32_w]
     rfl
    refine one_ (i := 4) (N := some 26) (bv 11 287) rfl rfl (one_of HT_.out (by kernel_rfl)) (by decide) (fun K hK => ?_)
    refine goes_ Try.func54 (by kernel_rfl) rfl #[.agg #[fL, .slice gZ eD.length hD], .agg #[eS, eT, eU, eV, eW, eX, eY, eZ]] (by rfl) rfl rfl xR ?_
    with_reducible refine (Z1.calls k fL _ _ eD eS eT eU eV eW eX eY eZ cK aT cO _ ?side1 ?side2 jX.out).mono ?_
    (case side1 => exact cM ((Kd.R_reads' aN.out).2.2))
    (case side2 => exact (Kd.R_reads' aN.out).2.1)
    rintro e lC ⟨gH, dJ, rfl, ho0, ho1, hb⟩
    refine ⟨_, rfl, ?_⟩
    have aX := aM (Kd.R_lower (Kd.R_new' ho0 (Kd.R_lt (kr aN.out))) (below_size (bl HB.out)))
    have bA := aM (Kd.R_lower ho1 (below_size (bl HB.out)))
    replace aN := aM (Kd.R_elder' (kr aN.out) (Kd.R_base ho0) hb)
    replace aC := rB aC hb
    replace aA := rB aA hb
    replace aG := rB aG hb
    replace HB := rS HB hb
    (try clear hb)
    (try clear hb2)
    (try clear hk)
    (try clear hi)
    (try clear ho0)
    (try clear ho1)
    refine hK.out _ _ ⟨cI aC.out 0, cI aC.out 1, cI aA.out 0, cI aA.out 1, cI aA.out 2, cI aA.out 3, cI aA.out 4, cI aA.out 5, cI aA.out 6, cI aA.out 7⟩ (fun hHeld => ?_)
    clear hK K
    refine norm_ (a' := ?_) ?_ ?_
    rotate_left
    ·show Act.put _ (some 26) _ = _
     simp only [Act.put, sA, sZ, sS, i64_w, i32_w]
     rfl
    refine pZ 5 21 (bv 11 319) HT_ ?_
    refine pZ 6 27 (bv 11 383) HT_ ?_
    refine pZ 7 28 (bv 11 511) HT_ ?_
    exact norm_ (by simp only [putAll, Act.put, sA, sZ, sS]) (hCont (.slice gZ eD.length hD, gH, dJ, cC) _ ⟨hHeld, (kr (Kd.R_mono aN.out (fun _ hk => hk.2))), (kr (Kd.R_mono aX.out (fun _ hk => hk.2))), (kr bA.out), (bk aC.out), (bk aA.out), (bk aG.out), fT.out, fU.out, cQ.out, cR.out, cS.out, cT.out, (bl HB.out)⟩)
  ·skip
   refine box_step ?hg (N := 6) ?hd (cs := #[.int .i64 0, .slice none 0 0]) (t := 28) ?hr ?_; (case hd => rfl); (case hg => rfl); (case hr => first | (go_simp; done) | (go_simp; rfl))
   intro cC hg nO hbox hb
   have aG := aM (hbox)
   have fT := gF hg HB
   have fU := gF hg HB
   have cQ := nM hg aC
   have cR := nH hg aC
   have cS := nM hg aA
   have cT := nH hg aA
   replace aC := rB aC hb
   replace aA := rB aA hb
   replace HB := rS HB hb
   clear hb hbox hg
   refine hK.out _ _ ⟨cI aC.out 0, cI aC.out 1, cI aA.out 0, cI aA.out 1, cI aA.out 2, cI aA.out 3, cI aA.out 4, cI aA.out 5, cI aA.out 6, cI aA.out 7⟩ (fun hHeld => ?_)
   clear hK K
   refine norm_ (a' := ?_) ?_ ?_
   rotate_left
   ·show Act.put _ (some 6) _ = _
    simp only [Act.put, sA, sZ, sS, i64_w, i32_w]
    rfl
   refine one_ (i := 1) (N := some 23) (bv 11 263) rfl rfl (one_of HT_.out (by kernel_rfl)) (by decide) (fun K hK => ?_)
   refine goes_ Try.func14 (by kernel_rfl) rfl #[.agg #[bL, .slice cY bH.length dA]] (by rfl) rfl rfl xR ?_
   with_reducible refine (Z33.calls k bL _ _ bH fL eD _ ?side1 ?side2 mM.out).mono ?_
   (case side1 => exact cM (cB fO.out HB.out))
   (case side2 => exact fP.out)
   rintro e mO ⟨eE, rfl, ho0, hb⟩
   refine ⟨_, rfl, ?_⟩
   have aN := aM (Kd.R_lower ho0 (below_size (bl HB.out)))
   replace aC := rB aC hb
   replace aA := rB aA hb
   replace aG := rB aG hb
   replace HB := rS HB hb
   (try clear hb)
   (try clear hb2)
   (try clear hk)
   (try clear hi)
   (try clear ho0)
   refine hK.out _ _ ⟨cI aC.out 0, cI aC.out 1, cI aA.out 0, cI aA.out 1, cI aA.out 2, cI aA.out 3, cI aA.out 4, cI aA.out 5, cI aA.out 6, cI aA.out 7⟩ (fun hHeld => ?_)
   clear hK K
   refine norm_ (a' := ?_) ?_ ?_
   rotate_left
   ·show Act.put _ (some 23) _ = _
    simp only [Act.put, sA, sZ, sS, i64_w, i32_w]
    rfl
   refine one_ (i := 3) (N := some 25) (bv 11 271) rfl rfl (one_of HT_.out (by kernel_rfl)) (by decide) (fun K hK => ?_)
   refine goes_ Try.func55 (by kernel_rfl) rfl #[.agg #[bM, bN, bO, bP, bQ, bT, bU, bV]] (by rfl) rfl rfl xR ?_
   with_reducible refine (Z44.calls bM bN bO bP bQ bT bU bV eS eT eU eV eW eX eY eZ _ kT.out).mono ?_
   rintro e mP ⟨rfl, hb⟩
   refine ⟨_, rfl, ?_⟩
   replace aN := rK aN hb
   replace aC := rB aC hb
   replace aA := rB aA hb
   replace aG := rB aG hb
   replace HB := rS HB hb
   (try clear hb)
   (try clear hb2)
   (try clear hk)
   (try clear hi)
   obtain ⟨gZ, hD, hH⟩ := Kd.R_slice aN.out
   (first | subst hH | (injection hH with f1_ f2_ f3_; have f4_ := f1_.symm; have f5_ := f3_.symm; clear f1_ f2_ f3_; subst f4_; subst f5_))
   refine hK.out _ _ ⟨cI aC.out 0, cI aC.out 1, cI aA.out 0, cI aA.out 1, cI aA.out 2, cI aA.out 3, cI aA.out 4, cI aA.out 5, cI aA.out 6, cI aA.out 7⟩ (fun hHeld => ?_)
   clear hK K
   refine norm_ (a' := ?_) ?_ ?_
   rotate_left
   ·show Act.put _ (some 25) _ = _
    simp only [Act.put, sA, sZ, sS, i64_w, i32_w]
    rfl
   refine one_ (i := 4) (N := some 26) (bv 11 287) rfl rfl (one_of HT_.out (by kernel_rfl)) (by decide) (fun K hK => ?_)
   refine goes_ Try.func54 (by kernel_rfl) rfl #[.agg #[fL, .slice gZ eD.length hD], .agg #[eS, eT, eU, eV, eW, eX, eY, eZ]] (by rfl) rfl rfl xR ?_
   with_reducible refine (Z1.calls k fL _ _ eD eS eT eU eV eW eX eY eZ cK aT cO _ ?side1 ?side2 jX.out).mono ?_
   (case side1 => exact cM ((Kd.R_reads' aN.out).2.2))
   (case side2 => exact (Kd.R_reads' aN.out).2.1)
   rintro e lC ⟨gH, dJ, rfl, ho0, ho1, hb⟩
   refine ⟨_, rfl, ?_⟩
   have aX := aM (Kd.R_lower (Kd.R_new' ho0 (Kd.R_lt (kr aN.out))) (below_size (bl HB.out)))
   have bA := aM (Kd.R_lower ho1 (below_size (bl HB.out)))
   replace aN := aM (Kd.R_elder' (kr aN.out) (Kd.R_base ho0) hb)
   replace aC := rB aC hb
   replace aA := rB aA hb
   replace aG := rB aG hb
   replace HB := rS HB hb
   (try clear hb)
   (try clear hb2)
   (try clear hk)
   (try clear hi)
   (try clear ho0)
   (try clear ho1)
   refine hK.out _ _ ⟨cI aC.out 0, cI aC.out 1, cI aA.out 0, cI aA.out 1, cI aA.out 2, cI aA.out 3, cI aA.out 4, cI aA.out 5, cI aA.out 6, cI aA.out 7⟩ (fun hHeld => ?_)
   clear hK K
   refine norm_ (a' := ?_) ?_ ?_
   rotate_left
   ·show Act.put _ (some 26) _ = _
    simp only [Act.put, sA, sZ, sS, i64_w, i32_w]
    rfl
   refine pZ 5 21 (bv 11 319) HT_ ?_
   refine pZ 6 27 (bv 11 383) HT_ ?_
   refine pZ 7 28 (bv 11 511) HT_ ?_
   exact norm_ (by simp only [putAll, Act.put, sA, sZ, sS]) (hCont (.slice gZ eD.length hD, gH, dJ, cC) _ ⟨hHeld, (kr (Kd.R_mono aN.out (fun _ hk => hk.2))), (kr (Kd.R_mono aX.out (fun _ hk => hk.2))), (kr bA.out), (bk aC.out), (bk aA.out), (bk aG.out), fT.out, fU.out, cQ.out, cR.out, cS.out, cT.out, (bl HB.out)⟩)
 rintro ⟨eE, gH, dJ, cC⟩ eP ⟨hS_, h0_, h1_, h2_, h3_, h4_, h5_, h6_, h7_, h8_, h9_, h10_, h11_, h12_⟩
 have aN : Aside0 (Kd.R k79 79 eP w.heap.size (fun k_ => some k_ ≠ (gH : Value).ownBlock) eE eD) := ⟨h0_⟩
 have aX : Aside0 (Kd.R k79 79 eP w.heap.size (fun k_ => some k_ ≠ (eE : Value).ownBlock) gH aT) := ⟨h1_⟩
 have bA : Aside0 (Kd.R k151 151 eP w.heap.size (fun _ => True) dJ cO) := ⟨h2_⟩
 have aG : Aside0 (eP.heap[cC]? = some (.cells #[.int .i64 0, .slice none 0 0] 28 (0, 0))) := ⟨h5_⟩
 have fT : Aside0 (w.heap.size ≤ cC) := ⟨h6_⟩
 have fU : Aside0 (w.heap.size ≤ cC) := ⟨h7_⟩
 have cQ : Aside0 (cH ≠ cC) := ⟨h8_⟩
 have cR : Aside0 (cC ≠ cH) := ⟨h9_⟩
 have cS : Aside0 (aQ ≠ cC) := ⟨h10_⟩
 have cT : Aside0 (cC ≠ aQ) := ⟨h11_⟩
 replace aC : Aside0 (eP.heap[cH]? = some (.cells #[bL, .slice cY bH.length dA] 24 (0, 0))) := ⟨h3_⟩
 replace aA : Aside0 (eP.heap[aQ]? = some (.cells #[bM, bN, bO, bP, bQ, bT, bU, bV] 92 (0, 0))) := ⟨h4_⟩
 replace HB : Aside0 (Below w.heap.size w eP) := ⟨h12_⟩
 clear h0_ h1_ h2_ h3_ h4_ h5_ h6_ h7_ h8_ h9_ h10_ h11_ h12_
 have hHeld : eP.cell? ⟨cH, 0, none⟩ = some bL ∧ eP.cell? ⟨cH, 1, none⟩ = some (.slice cY bH.length dA) ∧ eP.cell? ⟨aQ, 0, none⟩ = some bM ∧ eP.cell? ⟨aQ, 1, none⟩ = some bN ∧ eP.cell? ⟨aQ, 2, none⟩ = some bO ∧ eP.cell? ⟨aQ, 3, none⟩ = some bP ∧ eP.cell? ⟨aQ, 4, none⟩ = some bQ ∧ eP.cell? ⟨aQ, 5, none⟩ = some bT ∧ eP.cell? ⟨aQ, 6, none⟩ = some bU ∧ eP.cell? ⟨aQ, 7, none⟩ = some bV := hS_
 obtain ⟨bY, bW, lD⟩ := Kd.R_slice aX.out
 (first | subst lD | (injection lD with f1_ f2_ f3_; have f4_ := f1_.symm; have f5_ := f3_.symm; clear f1_ f2_ f3_; subst f4_; subst f5_))
 refine norm_ (a' := ?_) ?_ ?_
 rotate_left
 ·simp only [putAll, Act.put, sA, sZ, sS]
  rfl
 refine one_ (i := 9) (N := none) (bv 11 1023) rfl rfl (one_of HT_.out (by kernel_rfl)) (by decide) (fun K hK => ?_)
 have tS := cI aG.out 0
 have hfs29 := bF aG.out 0
 have hns29_0 := cQ.out
 have hns29_1 := cS.out
 have hms29_0 := cR.out
 have hms29_1 := cT.out
 have tT := cI aG.out 1
 have hfs31 := bF aG.out 1
 have hns31_0 := cQ.out
 have hns31_1 := cS.out
 have hms31_0 := cR.out
 have hms31_1 := cT.out
 refine skip_ (w1 := ?_) (by rfl) rfl ?_ ?_
 rotate_left
 ·go_simp
  rfl
 refine hK.out _ _ ⟨(cm (hHeld.1)), (cm (hHeld.2.1)), (cm (hHeld.2.2.1)), (cm (hHeld.2.2.2.1)), (cm (hHeld.2.2.2.2.1)), (cm (hHeld.2.2.2.2.2.1)), (cm (hHeld.2.2.2.2.2.2.1)), (cm (hHeld.2.2.2.2.2.2.2.1)), (cm (hHeld.2.2.2.2.2.2.2.2.1)), (cm (hHeld.2.2.2.2.2.2.2.2.2))⟩ (fun hHeld => ?_)
 clear hK K
 refine pZ 10 7 (bv 11 2047) HT_ ?_
 refine done_ (done_of HT_.out (by kernel_rfl)) ?_
 have rC := cQ.out
 have rD := cR.out
 have rE := cA2 aC.out
 try go_wp2_with (first | ((with_reducible refine gC (f := 14) rfl ?_); refine gL (some 30) Try.func14 #[.agg #[bL, .slice cY bH.length dA]] ?_; (with_reducible refine (Z33.calls k bL _ _ bH cP bI _ ?side1 ?side2 nK.out).mono ?_); (case side1 => exact cB fO.out (bl HB.out)); (case side2 => exact fP.out); rintro e vT ⟨tV, rfl, ho0, hb⟩; refine ⟨_, rfl, ?_⟩; have bX := aM (Kd.R_lower (Kd.R_new' (Kd.R_new' ho0 (Kd.R_lt (kr (Kd.R_mono (kF (p := ⟨cC, 1, none⟩) (kF (p := ⟨cC, 0, none⟩) (Kd.R_types aN.out aG.out (by decide)) (fun _ hk => hk.2) (.int .i64 cK)) (fun _ hk => hk.2) (.slice bY aT.length bW)) (fun _ h_ => h_.1))))) (Kd.R_lt (kr (Kd.R_mono (kF (p := ⟨cC, 1, none⟩) (kF (p := ⟨cC, 0, none⟩) (Kd.R_types aX.out aG.out (by decide)) (fun _ hk => hk.2) (.int .i64 cK)) (fun _ hk => hk.2) (.slice bY aT.length bW)) (fun _ h_ => h_.1))))) (below_size (bl HB.out))); replace aN := aM (Kd.R_elder' (kr (Kd.R_mono (kF (p := ⟨cC, 1, none⟩) (kF (p := ⟨cC, 0, none⟩) (Kd.R_types aN.out aG.out (by decide)) (fun _ hk => hk.2) (.int .i64 cK)) (fun _ hk => hk.2) (.slice bY aT.length bW)) (fun _ h_ => h_.1))) (Kd.R_base ho0) hb); replace aX := aM (Kd.R_elder' (kr (Kd.R_mono (kF (p := ⟨cC, 1, none⟩) (kF (p := ⟨cC, 0, none⟩) (Kd.R_types aX.out aG.out (by decide)) (fun _ hk => hk.2) (.int .i64 cK)) (fun _ hk => hk.2) (.slice bY aT.length bW)) (fun _ h_ => h_.1))) (Kd.R_base ho0) hb); replace bA := aM (kB (kr (Kd.R_mono (kF (p := ⟨cC, 1, none⟩) (kF (p := ⟨cC, 0, none⟩) (Kd.R_types bA.out aG.out (by decide)) (fun _ hk => hk.2) (.int .i64 cK)) (fun _ hk => hk.2) (.slice bY aT.length bW)) (fun _ h_ => h_.1))) hb); replace aC := aM (bB (fm aC.out) hb); replace aA := aM (bB (fm aA.out) hb); replace aG := aM (bB (g := cC) (o := .cells #[cK, .slice bY aT.length bW] 28 (0, 0)) (bm aG.out) hb); replace HB := rS HB hb; (repeat first|clear hb|clear ho0)) | ((with_reducible refine gD (N := 8) rfl ?_); refine box_event ?hg (N := 8) ?hd (cs := #[.int .i64 0, .slice none 0 0]) (t := 28) ?hr ?_; (case hd => rfl); (case hg => rfl); (case hr => first | (go_simp; done) | (go_simp; rfl) | (obtain ⟨A_, c_, e_⟩ := Kd.R_slice aN.out; subst e_; (first | (go_simp; done) | (go_simp; rfl))) | (obtain ⟨A_, c_, e_⟩ := Kd.S_slice aN.out; subst e_; (first | (go_simp; done) | (go_simp; rfl))) | (obtain ⟨A_, c_, e_⟩ := Kd.R_slice aX.out; subst e_; (first | (go_simp; done) | (go_simp; rfl))) | (obtain ⟨A_, c_, e_⟩ := Kd.S_slice aX.out; subst e_; (first | (go_simp; done) | (go_simp; rfl))) | (obtain ⟨A_, c_, e_⟩ := Kd.R_slice bA.out; subst e_; (first | (go_simp; done) | (go_simp; rfl))) | (obtain ⟨A_, c_, e_⟩ := Kd.S_slice bA.out; subst e_; (first | (go_simp; done) | (go_simp; rfl))) | (obtain ⟨A_, c_, e_⟩ := Kd.R_slice bX.out; subst e_; (first | (go_simp; done) | (go_simp; rfl))) | (obtain ⟨A_, c_, e_⟩ := Kd.S_slice bX.out; subst e_; (first | (go_simp; done) | (go_simp; rfl)))); intro cN hg vU hbox hb; have aH := aM (hbox); have rF := gF hg HB; have rG := gF hg HB; have iN := nM hg aC; have iO := nH hg aC; have iP := nM hg aA; have iQ := nH hg aA; have eQ := nM hg aG; have eR := nH hg aG; replace aN := rK aN hb; replace aX := rK aX hb; replace bA := rK bA hb; replace bX := rK bX hb; replace aC := rB aC hb; replace aA := rB aA hb; replace aG := rB aG hb; replace HB := rS HB hb; clear hb hbox hg; have rH := iO.out; have rI := iN.out; have rJ := iQ.out; have rL := iP.out; have rM := eR.out; have rN := eQ.out; have rO := cA2 aH.out; obtain ⟨bD, bG, mW⟩ := Kd.R_slice bX.out; subst mW))
 refine nW (fun W => Aside0 (Kd.R k79 79 W w.heap.size (fun k_ => some k_ ≠ (.slice bY aT.length bW : Value).ownBlock ∧ some k_ ≠ (.slice bD bI.length bG : Value).ownBlock) eE eD) ∧ Aside0 (Kd.R k79 79 W w.heap.size (fun k_ => some k_ ≠ (eE : Value).ownBlock ∧ some k_ ≠ (.slice bD bI.length bG : Value).ownBlock) (.slice bY aT.length bW) aT) ∧ Aside0 (Kd.R k151 151 W w.heap.size (fun _ => True) dJ cO) ∧ Aside0 (Kd.R k79 79 W w.heap.size (fun k_ => some k_ ≠ (eE : Value).ownBlock ∧ some k_ ≠ (.slice bY aT.length bW : Value).ownBlock) (.slice bD bI.length bG) bI) ∧ Aside0 (W.heap[cH]? = some (.cells #[bL, .slice cY bH.length dA] 24 (0, 0))) ∧ Aside0 (W.heap[aQ]? = some (.cells #[bM, bN, bO, bP, bQ, bT, bU, bV] 92 (0, 0))) ∧ Aside0 (W.heap[cC]? = some (.cells #[cK, .slice bY aT.length bW] 28 (0, 0))) ∧ Aside0 (W.heap[cN]? = some (.cells #[cP, .slice bD bI.length bG] 28 (0, 0))) ∧ Aside0 (Below w.heap.size w W)) ⟨⟨kr (Kd.R_mono (kF (p := ⟨cN, 1, none⟩) (kF (p := ⟨cN, 0, none⟩) (Kd.R_types aN.out aH.out (by decide)) (fun _ hk => hk.2) (.int .i64 cP)) (fun _ hk => hk.2) (.slice bD bI.length bG)) (fun _ hk => ⟨hk.1.1, hk.1.2⟩))⟩, ⟨kr (Kd.R_mono (kF (p := ⟨cN, 1, none⟩) (kF (p := ⟨cN, 0, none⟩) (Kd.R_types aX.out aH.out (by decide)) (fun _ hk => hk.2) (.int .i64 cP)) (fun _ hk => hk.2) (.slice bD bI.length bG)) (fun _ hk => ⟨hk.1.1, hk.1.2⟩))⟩, ⟨kr (Kd.R_mono (kF (p := ⟨cN, 1, none⟩) (kF (p := ⟨cN, 0, none⟩) (Kd.R_types bA.out aH.out (by decide)) (fun _ hk => hk.2) (.int .i64 cP)) (fun _ hk => hk.2) (.slice bD bI.length bG)) (fun _ hk => trivial))⟩, ⟨kr (Kd.R_mono (kF (p := ⟨cN, 1, none⟩) (kF (p := ⟨cN, 0, none⟩) (Kd.R_types bX.out aH.out (by decide)) (fun _ hk => hk.2) (.int .i64 cP)) (fun _ hk => hk.2) (.slice bD bI.length bG)) (fun _ hk => ⟨hk.1.1.2, hk.1.2⟩))⟩, ⟨fm aC.out⟩, ⟨fm aA.out⟩, ⟨fm aG.out⟩, ⟨bm aH.out⟩, ⟨bl HB.out⟩⟩ ?_
 intro nP nn_
 replace aN := nn_.1
 replace aX := nn_.2.1
 replace bA := nn_.2.2.1
 replace bX := nn_.2.2.2.1
 replace aC := nn_.2.2.2.2.1
 replace aA := nn_.2.2.2.2.2.1
 replace aG := nn_.2.2.2.2.2.2.1
 replace aH := nn_.2.2.2.2.2.2.2.1
 replace HB := nn_.2.2.2.2.2.2.2.2
 clear nn_
 replace aN := aM (Kd.R_drew aN.out)
 replace aX := aM (Kd.R_drew aX.out)
 replace bA := aM (Kd.R_drew bA.out)
 replace bX := aM (Kd.R_drew bX.out)
 replace aC := aM (blk_drew aC.out)
 replace aA := aM (blk_drew aA.out)
 replace aG := aM (blk_drew aG.out)
 replace aH := aM (blk_drew aH.out)
 replace HB := aM (below_drew1 HB.out)
 refine start_ (n := 10) (S := fun w' => cT2 w' cN (.int .i64 cP) (.slice bD bI.length bG) (cS8 w' aQ (.int .i64 bM) (.int .i64 bN) (.int .i64 bO) (.int .i64 bP) (.int .i64 bQ) (.int .i64 bT) (.int .i64 bU) (.bool bV))) (ds := []) (dn 10 0) (by kernel_rfl) rfl rfl ⟨cI aH.out 0, cI aH.out 1, cI aA.out 0, cI aA.out 1, cI aA.out 2, cI aA.out 3, cI aA.out 4, cI aA.out 5, cI aA.out 6, cI aA.out 7⟩ (fun hHeld => ?_); refine with_tabW Z2.tab7 Z2.bits7 (fun HT_ HW_ => ?_)
 generalize nP.drew = vV at aN aX bA bX aC aA aG aH HB hHeld ⊢
 refine tY (N := some 32) HT_ HW_ hHeld ?_
 refine tY (N := some 33) HT_ HW_ hHeld ?_
 refine join_ (σ := Value × Value × Nat) 2 (bv 10 255) (fun s_ => [(34, .agg #[gN, gO, gP, gQ, gR, gS, gT, gU]), (35, .tuple #[.agg #[cD, s_.1], s_.2.1]), (9, .pointer (some ⟨s_.2.2, 0, none⟩)), (31, .tuple #[.agg #[cD, s_.1], s_.2.1]), (36, .agg #[cD, s_.1]), (37, s_.2.1)]) (fun s_ w' => (w'.cell? ⟨cN, 0, none⟩ = some cP ∧ w'.cell? ⟨cN, 1, none⟩ = some (.slice bD bI.length bG) ∧ w'.cell? ⟨aQ, 0, none⟩ = some bM ∧ w'.cell? ⟨aQ, 1, none⟩ = some bN ∧ w'.cell? ⟨aQ, 2, none⟩ = some bO ∧ w'.cell? ⟨aQ, 3, none⟩ = some bP ∧ w'.cell? ⟨aQ, 4, none⟩ = some bQ ∧ w'.cell? ⟨aQ, 5, none⟩ = some bT ∧ w'.cell? ⟨aQ, 6, none⟩ = some bU ∧ w'.cell? ⟨aQ, 7, none⟩ = some bV) ∧ (Kd.R k79 79 w' w.heap.size (fun k_ => some k_ ≠ (.slice bY aT.length bW : Value).ownBlock ∧ some k_ ≠ (.slice bD bI.length bG : Value).ownBlock ∧ some k_ ≠ (s_.1 : Value).ownBlock) eE eD) ∧ (Kd.R k79 79 w' w.heap.size (fun k_ => some k_ ≠ (eE : Value).ownBlock ∧ some k_ ≠ (.slice bD bI.length bG : Value).ownBlock ∧ some k_ ≠ (s_.1 : Value).ownBlock) (.slice bY aT.length bW) aT) ∧ (Kd.R k151 151 w' w.heap.size (fun k_ => some k_ ≠ (s_.2.1 : Value).ownBlock) dJ cO) ∧ (Kd.R k79 79 w' w.heap.size (fun k_ => some k_ ≠ (eE : Value).ownBlock ∧ some k_ ≠ (.slice bY aT.length bW : Value).ownBlock ∧ some k_ ≠ (s_.1 : Value).ownBlock) (.slice bD bI.length bG) bI) ∧ (Kd.R k79 79 w' w.heap.size (fun k_ => some k_ ≠ (eE : Value).ownBlock ∧ some k_ ≠ (.slice bY aT.length bW : Value).ownBlock ∧ some k_ ≠ (.slice bD bI.length bG : Value).ownBlock) s_.1 aV) ∧ (Kd.R k151 151 w' w.heap.size (fun k_ => some k_ ≠ (dJ : Value).ownBlock) s_.2.1 cL) ∧ (w'.heap[cH]? = some (.cells #[bL, .slice cY bH.length dA] 24 (0, 0))) ∧ (w'.heap[aQ]? = some (.cells #[bM, bN, bO, bP, bQ, bT, bU, bV] 92 (0, 0))) ∧ (w'.heap[cC]? = some (.cells #[cK, .slice bY aT.length bW] 28 (0, 0))) ∧ (w'.heap[cN]? = some (.cells #[cP, .slice bD bI.length bG] 28 (0, 0))) ∧ (w'.heap[s_.2.2]? = some (.cells #[.int .i64 0, .slice none 0 0] 28 (0, 0))) ∧ (w.heap.size ≤ s_.2.2) ∧ (w.heap.size ≤ s_.2.2) ∧ (cH ≠ s_.2.2) ∧ (s_.2.2 ≠ cH) ∧ (aQ ≠ s_.2.2) ∧ (s_.2.2 ≠ aQ) ∧ (cC ≠ s_.2.2) ∧ (s_.2.2 ≠ cC) ∧ (cN ≠ s_.2.2) ∧ (s_.2.2 ≠ cN) ∧ (Below w.heap.size w w')) ?_ ?_
 rotate_left
 ·intro hCont
  refine two_ (i := 2) (j := 7) (Ni := some 34) (Nj := some 9) (bv 10 7) (bv 10 131) rfl rfl rfl rfl (two_of HT_.out (by kernel_rfl)) (by decide) (by decide) (fun K hK => ?_) (fun K hK => ?_)
  ·skip
   refine goes_ Try.func55 (by kernel_rfl) rfl #[.agg #[bM, bN, bO, bP, bQ, bT, bU, bV]] (by rfl) rfl rfl xR ?_
   with_reducible refine (Z44.calls bM bN bO bP bQ bT bU bV gN gO gP gQ gR gS gT gU _ mN.out).mono ?_
   rintro e nQ ⟨rfl, hb⟩
   refine ⟨_, rfl, ?_⟩
   replace aN := rK aN hb
   replace aX := rK aX hb
   replace bA := rK bA hb
   replace bX := rK bX hb
   replace aC := rB aC hb
   replace aA := rB aA hb
   replace aG := rB aG hb
   replace aH := rB aH hb
   replace HB := rS HB hb
   (try clear hb)
   (try clear hb2)
   (try clear hk)
   (try clear hi)
   refine hK.out _ _ ⟨cI aH.out 0, cI aH.out 1, cI aA.out 0, cI aA.out 1, cI aA.out 2, cI aA.out 3, cI aA.out 4, cI aA.out 5, cI aA.out 6, cI aA.out 7⟩ (fun hHeld => ?_)
   clear hK K
   refine norm_ (a' := ?_) ?_ ?_
   rotate_left
   ·show Act.put _ (some 34) _ = _
    simp only [Act.put, sA, sZ, sS, i64_w, i32_w]
    rfl
   refine two_ (i := 3) (j := 7) (Ni := some 35) (Nj := some 9) (bv 10 15) (bv 10 135) rfl rfl rfl rfl (two_of HT_.out (by kernel_rfl)) (by decide) (by decide) (fun K hK => ?_) (fun K hK => ?_)
   ·skip
    refine goes_ Try.func53 (by kernel_rfl) rfl #[.agg #[cP, .slice bD bI.length bG], .agg #[gN, gO, gP, gQ, gR, gS, gT, gU]] (by rfl) rfl rfl xR ?_
    with_reducible refine (Z35.calls k cP _ _ bI gN gO gP gQ gR gS gT gU cD aV cL _ ?side1 ?side2 kX.out).mono ?_
    (case side1 => exact cM ((Kd.R_reads' bX.out).2.2))
    (case side2 => exact (Kd.R_reads' bX.out).2.1)
    rintro e mQ ⟨gJ, eK, rfl, ho0, ho1, hb⟩
    refine ⟨_, rfl, ?_⟩
    have eB := aM (Kd.R_lower (Kd.R_new' (Kd.R_new' (Kd.R_new' ho0 (Kd.R_lt (kr aN.out))) (Kd.R_lt (kr aX.out))) (Kd.R_lt (kr bX.out))) (below_size (bl HB.out)))
    have eC := aM (Kd.R_lower (Kd.R_new' ho1 (Kd.R_lt (kr bA.out))) (below_size (bl HB.out)))
    replace aN := aM (Kd.R_elder' (kr aN.out) (Kd.R_base ho0) hb)
    replace aX := aM (Kd.R_elder' (kr aX.out) (Kd.R_base ho0) hb)
    replace bA := aM (Kd.R_elder' (kr bA.out) (Kd.R_base ho1) hb)
    replace bX := aM (Kd.R_elder' (kr bX.out) (Kd.R_base ho0) hb)
    replace aC := rB aC hb
    replace aA := rB aA hb
    replace aG := rB aG hb
    replace aH := rB aH hb
    replace HB := rS HB hb
    (try clear hb)
    (try clear hb2)
    (try clear hk)
    (try clear hi)
    (try clear ho0)
    (try clear ho1)
    refine hK.out _ _ ⟨cI aH.out 0, cI aH.out 1, cI aA.out 0, cI aA.out 1, cI aA.out 2, cI aA.out 3, cI aA.out 4, cI aA.out 5, cI aA.out 6, cI aA.out 7⟩ (fun hHeld => ?_)
    clear hK K
    refine norm_ (a' := ?_) ?_ ?_
    rotate_left
    ·show Act.put _ (some 35) _ = _
     simp only [Act.put, sA, sZ, sS, i64_w, i32_w]
     rfl
    refine pZ 4 31 (bv 10 31) HT_ ?_
    refine pZ 5 36 (bv 10 63) HT_ ?_
    refine pZ 6 37 (bv 10 127) HT_ ?_
    refine one_ (i := 7) (N := some 9) (bv 10 255) rfl rfl (one_of HT_.out (by kernel_rfl)) (by decide) (fun K hK => ?_)
    refine box_step ?hg (N := 9) ?hd (cs := #[.int .i64 0, .slice none 0 0]) (t := 28) ?hr ?_; (case hd => rfl); (case hg => rfl); (case hr => first | (go_simp; done) | (go_simp; rfl))
    intro bZ hg mR hbox hb
    have aJ := aM (hbox)
    have hX := gF hg HB
    have hY := gF hg HB
    have dB := nM hg aC
    have dC := nH hg aC
    have dD := nM hg aA
    have dE := nH hg aA
    have cU := nM hg aG
    have cV := nH hg aG
    have cW := nM hg aH
    have cX := nH hg aH
    replace aN := rK aN hb
    replace aX := rK aX hb
    replace bA := rK bA hb
    replace bX := rK bX hb
    replace eB := rK eB hb
    replace eC := rK eC hb
    replace aC := rB aC hb
    replace aA := rB aA hb
    replace aG := rB aG hb
    replace aH := rB aH hb
    replace HB := rS HB hb
    clear hb hbox hg
    refine hK.out _ _ ⟨cI aH.out 0, cI aH.out 1, cI aA.out 0, cI aA.out 1, cI aA.out 2, cI aA.out 3, cI aA.out 4, cI aA.out 5, cI aA.out 6, cI aA.out 7⟩ (fun hHeld => ?_)
    clear hK K
    refine norm_ (a' := ?_) ?_ ?_
    rotate_left
    ·show Act.put _ (some 9) _ = _
     simp only [Act.put, sA, sZ, sS, i64_w, i32_w]
     rfl
    exact norm_ (by simp only [putAll, Act.put, sA, sZ, sS]) (hCont (gJ, eK, bZ) _ ⟨hHeld, (kr (Kd.R_mono aN.out (fun _ hk => ⟨hk.1.1, ⟨hk.1.2, hk.2⟩⟩))), (kr (Kd.R_mono aX.out (fun _ hk => ⟨hk.1.1, ⟨hk.1.2, hk.2⟩⟩))), (kr (Kd.R_mono bA.out (fun _ hk => hk.2))), (kr (Kd.R_mono bX.out (fun _ hk => ⟨hk.1.1, ⟨hk.1.2, hk.2⟩⟩))), (kr (Kd.R_mono eB.out (fun _ hk => ⟨hk.1.1.2, ⟨hk.1.2, hk.2⟩⟩))), (kr (Kd.R_mono eC.out (fun _ hk => hk.2))), (bk aC.out), (bk aA.out), (bk aG.out), (bk aH.out), (bk aJ.out), hX.out, hY.out, dB.out, dC.out, dD.out, dE.out, cU.out, cV.out, cW.out, cX.out, (bl HB.out)⟩)
   ·skip
    refine box_step ?hg (N := 9) ?hd (cs := #[.int .i64 0, .slice none 0 0]) (t := 28) ?hr ?_; (case hd => rfl); (case hg => rfl); (case hr => first | (go_simp; done) | (go_simp; rfl))
    intro bZ hg mQ hbox hb
    have aJ := aM (hbox)
    have hX := gF hg HB
    have hY := gF hg HB
    have dB := nM hg aC
    have dC := nH hg aC
    have dD := nM hg aA
    have dE := nH hg aA
    have cU := nM hg aG
    have cV := nH hg aG
    have cW := nM hg aH
    have cX := nH hg aH
    replace aN := rK aN hb
    replace aX := rK aX hb
    replace bA := rK bA hb
    replace bX := rK bX hb
    replace aC := rB aC hb
    replace aA := rB aA hb
    replace aG := rB aG hb
    replace aH := rB aH hb
    replace HB := rS HB hb
    clear hb hbox hg
    refine hK.out _ _ ⟨cI aH.out 0, cI aH.out 1, cI aA.out 0, cI aA.out 1, cI aA.out 2, cI aA.out 3, cI aA.out 4, cI aA.out 5, cI aA.out 6, cI aA.out 7⟩ (fun hHeld => ?_)
    clear hK K
    refine norm_ (a' := ?_) ?_ ?_
    rotate_left
    ·show Act.put _ (some 9) _ = _
     simp only [Act.put, sA, sZ, sS, i64_w, i32_w]
     rfl
    refine one_ (i := 3) (N := some 35) (bv 10 143) rfl rfl (one_of HT_.out (by kernel_rfl)) (by decide) (fun K hK => ?_)
    refine goes_ Try.func53 (by kernel_rfl) rfl #[.agg #[cP, .slice bD bI.length bG], .agg #[gN, gO, gP, gQ, gR, gS, gT, gU]] (by rfl) rfl rfl xR ?_
    with_reducible refine (Z35.calls k cP _ _ bI gN gO gP gQ gR gS gT gU cD aV cL _ ?side1 ?side2 kX.out).mono ?_
    (case side1 => exact cM ((Kd.R_reads' bX.out).2.2))
    (case side2 => exact (Kd.R_reads' bX.out).2.1)
    rintro e mR ⟨gJ, eK, rfl, ho0, ho1, hb⟩
    refine ⟨_, rfl, ?_⟩
    have eB := aM (Kd.R_lower (Kd.R_new' (Kd.R_new' (Kd.R_new' ho0 (Kd.R_lt (kr aN.out))) (Kd.R_lt (kr aX.out))) (Kd.R_lt (kr bX.out))) (below_size (bl HB.out)))
    have eC := aM (Kd.R_lower (Kd.R_new' ho1 (Kd.R_lt (kr bA.out))) (below_size (bl HB.out)))
    replace aN := aM (Kd.R_elder' (kr aN.out) (Kd.R_base ho0) hb)
    replace aX := aM (Kd.R_elder' (kr aX.out) (Kd.R_base ho0) hb)
    replace bA := aM (Kd.R_elder' (kr bA.out) (Kd.R_base ho1) hb)
    replace bX := aM (Kd.R_elder' (kr bX.out) (Kd.R_base ho0) hb)
    replace aC := rB aC hb
    replace aA := rB aA hb
    replace aG := rB aG hb
    replace aH := rB aH hb
    replace aJ := rB aJ hb
    replace HB := rS HB hb
    (try clear hb)
    (try clear hb2)
    (try clear hk)
    (try clear hi)
    (try clear ho0)
    (try clear ho1)
    refine hK.out _ _ ⟨cI aH.out 0, cI aH.out 1, cI aA.out 0, cI aA.out 1, cI aA.out 2, cI aA.out 3, cI aA.out 4, cI aA.out 5, cI aA.out 6, cI aA.out 7⟩ (fun hHeld => ?_)
    clear hK K
    refine norm_ (a' := ?_) ?_ ?_
    rotate_left
    ·show Act.put _ (some 35) _ = _
     simp only [Act.put, sA, sZ, sS, i64_w, i32_w]
     rfl
    refine pZ 4 31 (bv 10 159) HT_ ?_
    refine pZ 5 36 (bv 10 191) HT_ ?_
    refine pZ 6 37 (bv 10 255) HT_ ?_
    exact norm_ (by simp only [putAll, Act.put, sA, sZ, sS]) (hCont (gJ, eK, bZ) _ ⟨hHeld, (kr (Kd.R_mono aN.out (fun _ hk => ⟨hk.1.1, ⟨hk.1.2, hk.2⟩⟩))), (kr (Kd.R_mono aX.out (fun _ hk => ⟨hk.1.1, ⟨hk.1.2, hk.2⟩⟩))), (kr (Kd.R_mono bA.out (fun _ hk => hk.2))), (kr (Kd.R_mono bX.out (fun _ hk => ⟨hk.1.1, ⟨hk.1.2, hk.2⟩⟩))), (kr (Kd.R_mono eB.out (fun _ hk => ⟨hk.1.1.2, ⟨hk.1.2, hk.2⟩⟩))), (kr (Kd.R_mono eC.out (fun _ hk => hk.2))), (bk aC.out), (bk aA.out), (bk aG.out), (bk aH.out), (bk aJ.out), hX.out, hY.out, dB.out, dC.out, dD.out, dE.out, cU.out, cV.out, cW.out, cX.out, (bl HB.out)⟩)
  ·skip
   refine box_step ?hg (N := 9) ?hd (cs := #[.int .i64 0, .slice none 0 0]) (t := 28) ?hr ?_; (case hd => rfl); (case hg => rfl); (case hr => first | (go_simp; done) | (go_simp; rfl))
   intro bZ hg nQ hbox hb
   have aJ := aM (hbox)
   have hX := gF hg HB
   have hY := gF hg HB
   have dB := nM hg aC
   have dC := nH hg aC
   have dD := nM hg aA
   have dE := nH hg aA
   have cU := nM hg aG
   have cV := nH hg aG
   have cW := nM hg aH
   have cX := nH hg aH
   replace aN := rK aN hb
   replace aX := rK aX hb
   replace bA := rK bA hb
   replace bX := rK bX hb
   replace aC := rB aC hb
   replace aA := rB aA hb
   replace aG := rB aG hb
   replace aH := rB aH hb
   replace HB := rS HB hb
   clear hb hbox hg
   refine hK.out _ _ ⟨cI aH.out 0, cI aH.out 1, cI aA.out 0, cI aA.out 1, cI aA.out 2, cI aA.out 3, cI aA.out 4, cI aA.out 5, cI aA.out 6, cI aA.out 7⟩ (fun hHeld => ?_)
   clear hK K
   refine norm_ (a' := ?_) ?_ ?_
   rotate_left
   ·show Act.put _ (some 9) _ = _
    simp only [Act.put, sA, sZ, sS, i64_w, i32_w]
    rfl
   refine one_ (i := 2) (N := some 34) (bv 10 135) rfl rfl (one_of HT_.out (by kernel_rfl)) (by decide) (fun K hK => ?_)
   refine goes_ Try.func55 (by kernel_rfl) rfl #[.agg #[bM, bN, bO, bP, bQ, bT, bU, bV]] (by rfl) rfl rfl xR ?_
   with_reducible refine (Z44.calls bM bN bO bP bQ bT bU bV gN gO gP gQ gR gS gT gU _ mN.out).mono ?_
   rintro e mQ ⟨rfl, hb⟩
   refine ⟨_, rfl, ?_⟩
   replace aN := rK aN hb
   replace aX := rK aX hb
   replace bA := rK bA hb
   replace bX := rK bX hb
   replace aC := rB aC hb
   replace aA := rB aA hb
   replace aG := rB aG hb
   replace aH := rB aH hb
   replace aJ := rB aJ hb
   replace HB := rS HB hb
   (try clear hb)
   (try clear hb2)
   (try clear hk)
   (try clear hi)
   refine hK.out _ _ ⟨cI aH.out 0, cI aH.out 1, cI aA.out 0, cI aA.out 1, cI aA.out 2, cI aA.out 3, cI aA.out 4, cI aA.out 5, cI aA.out 6, cI aA.out 7⟩ (fun hHeld => ?_)
   clear hK K
   refine norm_ (a' := ?_) ?_ ?_
   rotate_left
   ·show Act.put _ (some 34) _ = _
    simp only [Act.put, sA, sZ, sS, i64_w, i32_w]
    rfl
   refine one_ (i := 3) (N := some 35) (bv 10 143) rfl rfl (one_of HT_.out (by kernel_rfl)) (by decide) (fun K hK => ?_)
   refine goes_ Try.func53 (by kernel_rfl) rfl #[.agg #[cP, .slice bD bI.length bG], .agg #[gN, gO, gP, gQ, gR, gS, gT, gU]] (by rfl) rfl rfl xR ?_
   with_reducible refine (Z35.calls k cP _ _ bI gN gO gP gQ gR gS gT gU cD aV cL _ ?side1 ?side2 kX.out).mono ?_
   (case side1 => exact cM ((Kd.R_reads' bX.out).2.2))
   (case side2 => exact (Kd.R_reads' bX.out).2.1)
   rintro e mR ⟨gJ, eK, rfl, ho0, ho1, hb⟩
   refine ⟨_, rfl, ?_⟩
   have eB := aM (Kd.R_lower (Kd.R_new' (Kd.R_new' (Kd.R_new' ho0 (Kd.R_lt (kr aN.out))) (Kd.R_lt (kr aX.out))) (Kd.R_lt (kr bX.out))) (below_size (bl HB.out)))
   have eC := aM (Kd.R_lower (Kd.R_new' ho1 (Kd.R_lt (kr bA.out))) (below_size (bl HB.out)))
   replace aN := aM (Kd.R_elder' (kr aN.out) (Kd.R_base ho0) hb)
   replace aX := aM (Kd.R_elder' (kr aX.out) (Kd.R_base ho0) hb)
   replace bA := aM (Kd.R_elder' (kr bA.out) (Kd.R_base ho1) hb)
   replace bX := aM (Kd.R_elder' (kr bX.out) (Kd.R_base ho0) hb)
   replace aC := rB aC hb
   replace aA := rB aA hb
   replace aG := rB aG hb
   replace aH := rB aH hb
   replace aJ := rB aJ hb
   replace HB := rS HB hb
   (try clear hb)
   (try clear hb2)
   (try clear hk)
   (try clear hi)
   (try clear ho0)
   (try clear ho1)
   refine hK.out _ _ ⟨cI aH.out 0, cI aH.out 1, cI aA.out 0, cI aA.out 1, cI aA.out 2, cI aA.out 3, cI aA.out 4, cI aA.out 5, cI aA.out 6, cI aA.out 7⟩ (fun hHeld => ?_)
   clear hK K
   refine norm_ (a' := ?_) ?_ ?_
   rotate_left
   ·show Act.put _ (some 35) _ = _
    simp only [Act.put, sA, sZ, sS, i64_w, i32_w]
    rfl
   refine pZ 4 31 (bv 10 159) HT_ ?_
   refine pZ 5 36 (bv 10 191) HT_ ?_
   refine pZ 6 37 (bv 10 255) HT_ ?_
   exact norm_ (by simp only [putAll, Act.put, sA, sZ, sS]) (hCont (gJ, eK, bZ) _ ⟨hHeld, (kr (Kd.R_mono aN.out (fun _ hk => ⟨hk.1.1, ⟨hk.1.2, hk.2⟩⟩))), (kr (Kd.R_mono aX.out (fun _ hk => ⟨hk.1.1, ⟨hk.1.2, hk.2⟩⟩))), (kr (Kd.R_mono bA.out (fun _ hk => hk.2))), (kr (Kd.R_mono bX.out (fun _ hk => ⟨hk.1.1, ⟨hk.1.2, hk.2⟩⟩))), (kr (Kd.R_mono eB.out (fun _ hk => ⟨hk.1.1.2, ⟨hk.1.2, hk.2⟩⟩))), (kr (Kd.R_mono eC.out (fun _ hk => hk.2))), (bk aC.out), (bk aA.out), (bk aG.out), (bk aH.out), (bk aJ.out), hX.out, hY.out, dB.out, dC.out, dD.out, dE.out, cU.out, cV.out, cW.out, cX.out, (bl HB.out)⟩)
 rintro ⟨gJ, eK, bZ⟩ eH ⟨hS_, h0_, h1_, h2_, h3_, h4_, h5_, h6_, h7_, h8_, h9_, h10_, h11_, h12_, h13_, h14_, h15_, h16_, h17_, h18_, h19_, h20_, h21_⟩
 have eB : Aside0 (Kd.R k79 79 eH w.heap.size (fun k_ => some k_ ≠ (eE : Value).ownBlock ∧ some k_ ≠ (.slice bY aT.length bW : Value).ownBlock ∧ some k_ ≠ (.slice bD bI.length bG : Value).ownBlock) gJ aV) := ⟨h4_⟩
 have eC : Aside0 (Kd.R k151 151 eH w.heap.size (fun k_ => some k_ ≠ (dJ : Value).ownBlock) eK cL) := ⟨h5_⟩
 have aJ : Aside0 (eH.heap[bZ]? = some (.cells #[.int .i64 0, .slice none 0 0] 28 (0, 0))) := ⟨h10_⟩
 have hX : Aside0 (w.heap.size ≤ bZ) := ⟨h11_⟩
 have hY : Aside0 (w.heap.size ≤ bZ) := ⟨h12_⟩
 have dB : Aside0 (cH ≠ bZ) := ⟨h13_⟩
 have dC : Aside0 (bZ ≠ cH) := ⟨h14_⟩
 have dD : Aside0 (aQ ≠ bZ) := ⟨h15_⟩
 have dE : Aside0 (bZ ≠ aQ) := ⟨h16_⟩
 have cU : Aside0 (cC ≠ bZ) := ⟨h17_⟩
 have cV : Aside0 (bZ ≠ cC) := ⟨h18_⟩
 have cW : Aside0 (cN ≠ bZ) := ⟨h19_⟩
 have cX : Aside0 (bZ ≠ cN) := ⟨h20_⟩
 replace aN : Aside0 (Kd.R k79 79 eH w.heap.size (fun k_ => some k_ ≠ (.slice bY aT.length bW : Value).ownBlock ∧ some k_ ≠ (.slice bD bI.length bG : Value).ownBlock ∧ some k_ ≠ (gJ : Value).ownBlock) eE eD) := ⟨h0_⟩
 replace aX : Aside0 (Kd.R k79 79 eH w.heap.size (fun k_ => some k_ ≠ (eE : Value).ownBlock ∧ some k_ ≠ (.slice bD bI.length bG : Value).ownBlock ∧ some k_ ≠ (gJ : Value).ownBlock) (.slice bY aT.length bW) aT) := ⟨h1_⟩
 replace bA : Aside0 (Kd.R k151 151 eH w.heap.size (fun k_ => some k_ ≠ (eK : Value).ownBlock) dJ cO) := ⟨h2_⟩
 replace bX : Aside0 (Kd.R k79 79 eH w.heap.size (fun k_ => some k_ ≠ (eE : Value).ownBlock ∧ some k_ ≠ (.slice bY aT.length bW : Value).ownBlock ∧ some k_ ≠ (gJ : Value).ownBlock) (.slice bD bI.length bG) bI) := ⟨h3_⟩
 replace aC : Aside0 (eH.heap[cH]? = some (.cells #[bL, .slice cY bH.length dA] 24 (0, 0))) := ⟨h6_⟩
 replace aA : Aside0 (eH.heap[aQ]? = some (.cells #[bM, bN, bO, bP, bQ, bT, bU, bV] 92 (0, 0))) := ⟨h7_⟩
 replace aG : Aside0 (eH.heap[cC]? = some (.cells #[cK, .slice bY aT.length bW] 28 (0, 0))) := ⟨h8_⟩
 replace aH : Aside0 (eH.heap[cN]? = some (.cells #[cP, .slice bD bI.length bG] 28 (0, 0))) := ⟨h9_⟩
 replace HB : Aside0 (Below w.heap.size w eH) := ⟨h21_⟩
 clear h0_ h1_ h2_ h3_ h4_ h5_ h6_ h7_ h8_ h9_ h10_ h11_ h12_ h13_ h14_ h15_ h16_ h17_ h18_ h19_ h20_ h21_
 have hHeld : eH.cell? ⟨cN, 0, none⟩ = some cP ∧ eH.cell? ⟨cN, 1, none⟩ = some (.slice bD bI.length bG) ∧ eH.cell? ⟨aQ, 0, none⟩ = some bM ∧ eH.cell? ⟨aQ, 1, none⟩ = some bN ∧ eH.cell? ⟨aQ, 2, none⟩ = some bO ∧ eH.cell? ⟨aQ, 3, none⟩ = some bP ∧ eH.cell? ⟨aQ, 4, none⟩ = some bQ ∧ eH.cell? ⟨aQ, 5, none⟩ = some bT ∧ eH.cell? ⟨aQ, 6, none⟩ = some bU ∧ eH.cell? ⟨aQ, 7, none⟩ = some bV := hS_
 obtain ⟨cG, cE, lE⟩ := Kd.R_slice eB.out
 (first | subst lE | (injection lE with f1_ f2_ f3_; have f4_ := f1_.symm; have f5_ := f3_.symm; clear f1_ f2_ f3_; subst f4_; subst f5_))
 refine norm_ (a' := ?_) ?_ ?_
 rotate_left
 ·simp only [putAll, Act.put, sA, sZ, sS]
  rfl
 refine one_ (i := 8) (N := none) (bv 10 511) rfl rfl (one_of HT_.out (by kernel_rfl)) (by decide) (fun K hK => ?_)
 have tW := cI aJ.out 0
 have hfs47 := bF aJ.out 0
 have hns47_0 := dB.out
 have hns47_1 := dD.out
 have hns47_2 := cU.out
 have hns47_3 := cW.out
 have hms47_0 := dC.out
 have hms47_1 := dE.out
 have hms47_2 := cV.out
 have hms47_3 := cX.out
 have tX := cI aJ.out 1
 have hfs49 := bF aJ.out 1
 have hns49_0 := dB.out
 have hns49_1 := dD.out
 have hns49_2 := cU.out
 have hns49_3 := cW.out
 have hms49_0 := dC.out
 have hms49_1 := dE.out
 have hms49_2 := cV.out
 have hms49_3 := cX.out
 refine skip_ (w1 := ?_) (by rfl) rfl ?_ ?_
 rotate_left
 ·go_simp
  rfl
 refine hK.out _ _ ⟨(cm (hHeld.1)), (cm (hHeld.2.1)), (cm (hHeld.2.2.1)), (cm (hHeld.2.2.2.1)), (cm (hHeld.2.2.2.2.1)), (cm (hHeld.2.2.2.2.2.1)), (cm (hHeld.2.2.2.2.2.2.1)), (cm (hHeld.2.2.2.2.2.2.2.1)), (cm (hHeld.2.2.2.2.2.2.2.2.1)), (cm (hHeld.2.2.2.2.2.2.2.2.2))⟩ (fun hHeld => ?_)
 clear hK K
 refine pZ 9 10 (bv 10 1023) HT_ ?_
 refine done_ (done_of HT_.out (by kernel_rfl)) ?_
 go_upto_region 8 with (fail)
 go_cut [47] (fun nR wc => ∃ (kq : Nat) (iF : Bool), nR = .bool iF ∧ Aside0 (Z2.j0 kq cO cL iF bL bH bM bN bO bP bQ bT bU bV cK aT cP bI cD aV = some true) ∧ Aside0 (kq ≤ k) ∧ Aside0 (Kd.R k151 151 wc w.heap.size (fun k_ => some k_ ≠ (eK : Value).ownBlock) dJ cO) ∧ Aside0 (Kd.R k151 151 wc w.heap.size (fun k_ => some k_ ≠ (dJ : Value).ownBlock) eK cL) ∧ Aside0 (Kd.R k79 79 wc w.heap.size (fun k_ => some k_ ≠ ((.slice bD bI.length bG) : Value).ownBlock ∧ some k_ ≠ ((.slice cG aV.length cE) : Value).ownBlock) (.slice bY aT.length bW) aT) ∧ Aside0 (Kd.R k79 79 wc w.heap.size (fun k_ => some k_ ≠ ((.slice bY aT.length bW) : Value).ownBlock ∧ some k_ ≠ ((.slice cG aV.length cE) : Value).ownBlock) (.slice bD bI.length bG) bI) ∧ Aside0 (Kd.R k79 79 wc w.heap.size (fun k_ => some k_ ≠ ((.slice bY aT.length bW) : Value).ownBlock ∧ some k_ ≠ ((.slice bD bI.length bG) : Value).ownBlock) (.slice cG aV.length cE) aV) ∧ Aside0 (wc.heap[cH]? = some (.cells #[bL, (.slice cY bH.length dA)] 24 (0, 0))) ∧ Aside0 (wc.heap[aQ]? = some (.cells #[bM, bN, bO, bP, bQ, bT, bU, bV] 92 (0, 0))) ∧ Aside0 (wc.heap[cC]? = some (.cells #[cK, (.slice bY aT.length bW)] 28 (0, 0))) ∧ Aside0 (wc.heap[cN]? = some (.cells #[cP, (.slice bD bI.length bG)] 28 (0, 0))) ∧ Aside0 (wc.heap[bZ]? = some (.cells #[cD, (.slice cG aV.length cE)] 28 (0, 0))) ∧ Aside0 (Below w.heap.size w wc))
 case first =>
  have H := jM.out
  clear jM
  obtain ⟨jL, lF, H⟩ := hB H
  have nS := aM lF
  clear lF
  by_cases iZ : jL = true
  case neg =>
   replace iZ := Bool.eq_false_iff.mpr iZ
   subst iZ
   have H1 : (Z2.j0 k cO cL true bL bH bM bN bO bP bQ bT bU bV cK aT cP bI cD aV) = some true := by first | (rw [if_neg (show ¬ (false = true) by decide)] at H; exact H) | (rw [if_neg (show ¬ (false = true) by decide)] at H)
   clear H
   have H := H1
   clear H1
   exact absurd H (Z2.j0_no _ _ _ _ _ _ _ _ _ _ _ _ _ _ _ _ _ _ _)
  subst iZ
  have H1 : ((Z14.f k cL cO).bind fun iH => (Z2.j0 k cO cL (!iH) bL bH bM bN bO bP bQ bT bU bV cK aT cP bI cD aV)) = some true := by first | (rw [if_pos rfl] at H; exact H) | (rw [if_pos rfl] at H)
  clear H
  have H := H1
  clear H1
  obtain ⟨iH, lG, H⟩ := hB H
  have nT := aM lG
  clear lG
  have H' := aM H
  clear H
  have rQ := dC.out
  have rR := dB.out
  have rT := dE.out
  have rV := dD.out
  have rW := cV.out
  have rX := cU.out
  have rY := cX.out
  have rZ := cW.out
  have sB := cA2 aJ.out
  have sC := cR.out
  have sD := cQ.out
  have sE := cT.out
  have sF := cS.out
  have sG := eQ.out
  have sH := eR.out
  have sI := cA2 aG.out
  go_wp2_with (first | ((with_reducible refine gC (f := 16) rfl ?_); refine gL (some 40) Try.func16 #[.agg #[cD, .slice cG aV.length cE], .agg #[cK, .slice bY aT.length bW]] ?_; (with_reducible refine (Z34.calls k cD _ _ aV cK _ _ aT true _ ?side1 ?side2 ?side3 ?side4 nS.out).mono ?_); (case side1 => refine (Kd.R_reads' (e := 79) (base := w.heap.size) (ok := fun k_ => (some k_ ≠ (eE : Value).ownBlock ∧ (some k_ ≠ (.slice bY aT.length bW : Value).ownBlock ∧ some k_ ≠ (.slice bD bI.length bG : Value).ownBlock))) (n := aV.length) (c := cE) ?_).2.2; exact (kr (Kd.R_mono (kF (p := ⟨bZ, 1, none⟩) (kF (p := ⟨bZ, 0, none⟩) (Kd.R_types eB.out aJ.out (by decide)) (fun _ hk => hk.2) (.int .i64 cD)) (fun _ hk => hk.2) (.slice cG aV.length cE)) (fun _ h_ => h_.1)))); (case side2 => exact (Kd.R_reads' eB.out).2.1); (case side3 => refine (Kd.R_reads' (e := 79) (base := w.heap.size) (ok := fun k_ => (some k_ ≠ (eE : Value).ownBlock ∧ (some k_ ≠ (.slice bD bI.length bG : Value).ownBlock ∧ some k_ ≠ (.slice cG aV.length cE : Value).ownBlock))) (n := aT.length) (c := bW) ?_).2.2; exact (kr (Kd.R_mono (kF (p := ⟨bZ, 1, none⟩) (kF (p := ⟨bZ, 0, none⟩) (Kd.R_types aX.out aJ.out (by decide)) (fun _ hk => hk.2) (.int .i64 cD)) (fun _ hk => hk.2) (.slice cG aV.length cE)) (fun _ h_ => h_.1)))); (case side4 => exact (Kd.R_reads' aX.out).2.1); rintro e vW ⟨rfl, hb⟩; refine ⟨_, rfl, ?_⟩; replace aN := aM (kB (kr (Kd.R_mono (kF (p := ⟨bZ, 1, none⟩) (kF (p := ⟨bZ, 0, none⟩) (Kd.R_types aN.out aJ.out (by decide)) (fun _ hk => hk.2) (.int .i64 cD)) (fun _ hk => hk.2) (.slice cG aV.length cE)) (fun _ h_ => h_.1))) hb); replace aX := aM (kB (kr (Kd.R_mono (kF (p := ⟨bZ, 1, none⟩) (kF (p := ⟨bZ, 0, none⟩) (Kd.R_types aX.out aJ.out (by decide)) (fun _ hk => hk.2) (.int .i64 cD)) (fun _ hk => hk.2) (.slice cG aV.length cE)) (fun _ h_ => h_.1))) hb); replace bA := aM (kB (kr (Kd.R_mono (kF (p := ⟨bZ, 1, none⟩) (kF (p := ⟨bZ, 0, none⟩) (Kd.R_types bA.out aJ.out (by decide)) (fun _ hk => hk.2) (.int .i64 cD)) (fun _ hk => hk.2) (.slice cG aV.length cE)) (fun _ h_ => h_.1))) hb); replace bX := aM (kB (kr (Kd.R_mono (kF (p := ⟨bZ, 1, none⟩) (kF (p := ⟨bZ, 0, none⟩) (Kd.R_types bX.out aJ.out (by decide)) (fun _ hk => hk.2) (.int .i64 cD)) (fun _ hk => hk.2) (.slice cG aV.length cE)) (fun _ h_ => h_.1))) hb); replace eB := aM (kB (kr (Kd.R_mono (kF (p := ⟨bZ, 1, none⟩) (kF (p := ⟨bZ, 0, none⟩) (Kd.R_types eB.out aJ.out (by decide)) (fun _ hk => hk.2) (.int .i64 cD)) (fun _ hk => hk.2) (.slice cG aV.length cE)) (fun _ h_ => h_.1))) hb); replace eC := aM (kB (kr (Kd.R_mono (kF (p := ⟨bZ, 1, none⟩) (kF (p := ⟨bZ, 0, none⟩) (Kd.R_types eC.out aJ.out (by decide)) (fun _ hk => hk.2) (.int .i64 cD)) (fun _ hk => hk.2) (.slice cG aV.length cE)) (fun _ h_ => h_.1))) hb); replace aC := aM (bB (fm aC.out) hb); replace aA := aM (bB (fm aA.out) hb); replace aG := aM (bB (fm aG.out) hb); replace aH := aM (bB (fm aH.out) hb); replace aJ := aM (bB (g := bZ) (o := .cells #[cD, .slice cG aV.length cE] 28 (0, 0)) (bm aJ.out) hb); replace HB := rS HB hb; (try clear hb); obtain ⟨tZ, uA, mX⟩ := Kd.R_slice eC.out; subst mX; obtain ⟨uB, uC, mY⟩ := Kd.R_slice bA.out; subst mY) | (go_at_call 56; (with_reducible refine (Z14.calls k _ _ cL _ _ cO iH _ ?side1 ?side2 ?side3 ?side4 nT.out).mono ?_); (case side1 => exact cM ((Kd.R_reads' eC.out).2.2)); (case side2 => exact (Kd.R_reads' eC.out).2.1); (case side3 => exact cM ((Kd.R_reads' bA.out).2.2)); (case side4 => exact (Kd.R_reads' bA.out).2.1); rintro e vX ⟨rfl, hb⟩; replace aN := rK aN hb; replace aX := rK aX hb; replace bA := rK bA hb; replace bX := rK bX hb; replace eB := rK eB hb; replace eC := rK eC hb; replace aC := rB aC hb; replace aA := rB aA hb; replace aG := rB aG hb; replace aH := rB aH hb; replace aJ := rB aJ hb; replace HB := rS HB hb; (try clear hb)))
  go_meet
  case rel => exact ⟨_, (!iH), xE, H', ⟨by first | omega | exact Nat.le_refl _⟩, ⟨kr bA.out⟩, ⟨kr eC.out⟩, ⟨kr (Kd.R_mono aX.out (fun _ hk => ⟨hk.2.1, hk.2.2⟩))⟩, ⟨kr (Kd.R_mono bX.out (fun _ hk => ⟨hk.2.1, hk.2.2⟩))⟩, ⟨kr (Kd.R_mono eB.out (fun _ hk => ⟨hk.2.1, hk.2.2⟩))⟩, ⟨bk aC.out⟩, ⟨bk aA.out⟩, ⟨bk aG.out⟩, ⟨bk aH.out⟩, ⟨bk aJ.out⟩, ⟨bl HB.out⟩⟩
 case rest =>
  clear jM
  repeat first|clear c1|clear p2|clear c5|clear c6|clear c7|clear mS|clear iZ|clear mT|clear nV|clear mU|clear nZ|clear oA|clear oB|clear oC|clear oD|clear oE|clear oF|clear oG|clear oH|clear oI|clear oJ
  obtain ⟨kq, iF, rfl, HA, HJ15, aW, aK, aI, aE, aD, aC, aA, aG, aH, aJ, HB⟩ := hcut
  cases kq with
  | zero => exact absurd HA.out (by simp [Z2.j0])
  | succ dW =>
   have H := HA.out
   clear HA
   simp only [Z2.j0] at H
   by_cases jI : iF = true
   case pos =>
    subst jI
    have H1 : (some false) = some true := by first | (rw [if_pos rfl] at H; exact H) | (rw [if_pos rfl] at H)
    clear H
    have H := H1
    clear H1
    exact absurd (Option.some.inj H) (by decide)
   replace jI := Bool.eq_false_iff.mpr jI
   subst jI
   have H1 : ((Z33.f dW bL bH).bind fun jY => ((Z34.f dW cP bI jY.1 jY.2).bind fun jN => (if jN = true then ((Z39.f dW cP bI 1).bind fun jB => (if jB.1 < 0 then (Z2.j1 dW cO cL true bL bH bM bN bO bP bQ bT bU bV cK aT cD aV) else ((Z34.f dW cD aV cK aT).bind fun iV => (if iV = true then ((Z14.f dW cL cO).bind fun hJ => (Z2.j1 dW cO cL (!hJ) bL bH bM bN bO bP bQ bT bU bV cK aT cD aV)) else (Z2.j1 dW cO cL true bL bH bM bN bO bP bQ bT bU bV cK aT cD aV))))) else (some false)))) = some true := by first | (rw [if_neg (show ¬ (false = true) by decide)] at H; exact H) | (rw [if_neg (show ¬ (false = true) by decide)] at H)
   clear H
   have H := H1
   clear H1
   obtain ⟨⟨jO, iW⟩, lH, H⟩ := hB H
   try dsimp only at H
   have oK := aM lH
   clear lH
   obtain ⟨jN, lJ, H⟩ := hB H
   have oL := aM lJ
   clear lJ
   by_cases jJ : jN = true
   case neg =>
    replace jJ := Bool.eq_false_iff.mpr jJ
    subst jJ
    have H1 : (some false) = some true := by first | (rw [if_neg (show ¬ (false = true) by decide)] at H; exact H) | (rw [if_neg (show ¬ (false = true) by decide)] at H)
    clear H
    have H := H1
    clear H1
    exact absurd (Option.some.inj H) (by decide)
   subst jJ
   have H1 : ((Z39.f dW cP bI 1).bind fun jB => (if jB.1 < 0 then (Z2.j1 dW cO cL true bL bH bM bN bO bP bQ bT bU bV cK aT cD aV) else ((Z34.f dW cD aV cK aT).bind fun iV => (if iV = true then ((Z14.f dW cL cO).bind fun hJ => (Z2.j1 dW cO cL (!hJ) bL bH bM bN bO bP bQ bT bU bV cK aT cD aV)) else (Z2.j1 dW cO cL true bL bH bM bN bO bP bQ bT bU bV cK aT cD aV))))) = some true := by first | (rw [if_pos rfl] at H; exact H) | (rw [if_pos rfl] at H)
   clear H
   have H := H1
   clear H1
   obtain ⟨⟨lK, dH⟩, lL, H⟩ := hB H
   try dsimp only at H
   have oM := aM lL
   clear lL
   have jP := aM H
   clear H
   try go_wp2
   replace aW := aM (Kd.R_drew aW.out)
   replace aK := aM (Kd.R_drew aK.out)
   replace aI := aM (Kd.R_drew aI.out)
   replace aE := aM (Kd.R_drew aE.out)
   replace aD := aM (Kd.R_drew aD.out)
   replace aC := aM (blk_drew aC.out)
   replace aA := aM (blk_drew aA.out)
   replace aG := aM (blk_drew aG.out)
   replace aH := aM (blk_drew aH.out)
   replace aJ := aM (blk_drew aJ.out)
   replace HB := aM (below_drew1 HB.out)
   refine start_ (n := 5) (S := fun w' => cT2 w' cN (.int .i64 cP) (.slice bD bI.length bG) (cS2 w' cH (.int .i64 bL) (.slice cY bH.length dA))) (ds := []) (dn 5 0) (by kernel_rfl) rfl rfl ⟨cI aH.out 0, cI aH.out 1, cI aC.out 0, cI aC.out 1⟩ (fun hHeld => ?_)
   generalize wc.drew = vY at aW aK aI aE aD aC aA aG aH aJ HB hHeld ⊢
   refine take_ (i := 0) (N := some 48) (v := ?_) (a' := ?_) (bv 5 1) rfl rfl (by kernel_rfl) (fun _ _ _ h => h) (Or.inl ⟨by rfl, ?_⟩) hHeld ?_ ?_
   rotate_left
   ·rintro w' ⟨s0, s1, s2, s3⟩
    go_simp
    with_reducible rfl
   rotate_left
   ·simp only [Act.put, sA, sZ, sS, i64_w, i32_w]
    rfl
   refine take_ (i := 1) (N := some 49) (v := ?_) (a' := ?_) (bv 5 3) rfl rfl (by kernel_rfl) (fun _ _ _ h => h) (Or.inl ⟨by rfl, ?_⟩) hHeld ?_ ?_
   rotate_left
   ·rintro w' ⟨s0, s1, s2, s3⟩
    go_simp
    with_reducible rfl
   rotate_left
   ·simp only [Act.put, sA, sZ, sS, i64_w, i32_w]
    rfl
   refine one_ (i := 2) (N := some 50) (bv 5 7) rfl rfl (by kernel_rfl) (by decide) (fun K hK => ?_)
   refine goes_ Try.func14 (by kernel_rfl) rfl #[.agg #[bL, .slice cY bH.length dA]] (by rfl) rfl rfl xR ?_
   with_reducible refine (Z33.calls dW bL _ _ bH jO iW _ ?side1 ?side2 oK.out).mono ?_
   (case side1 => exact cM (cB fO.out HB.out))
   (case side2 => exact fP.out)
   rintro e vZ ⟨uD, rfl, ho0, hb⟩
   refine ⟨_, rfl, ?_⟩
   have eL := aM (Kd.R_lower (Kd.R_new' (Kd.R_new' (Kd.R_new' ho0 (Kd.R_lt (kr aI.out))) (Kd.R_lt (kr aE.out))) (Kd.R_lt (kr aD.out))) (below_size (bl HB.out)))
   replace aW := rK aW hb
   replace aK := rK aK hb
   replace aI := aM (Kd.R_elder' (kr aI.out) (Kd.R_base ho0) hb)
   replace aE := aM (Kd.R_elder' (kr aE.out) (Kd.R_base ho0) hb)
   replace aD := aM (Kd.R_elder' (kr aD.out) (Kd.R_base ho0) hb)
   replace aC := rB aC hb
   replace aA := rB aA hb
   replace aG := rB aG hb
   replace aH := rB aH hb
   replace aJ := rB aJ hb
   replace HB := rS HB hb
   (try clear hb)
   (try clear hb2)
   (try clear hk)
   (try clear hi)
   (try clear ho0)
   obtain ⟨jQ, jR, lM⟩ := Kd.R_slice eL.out
   (first | subst lM | (injection lM with f1_ f2_ f3_; have f4_ := f1_.symm; have f5_ := f3_.symm; clear f1_ f2_ f3_; subst f4_; subst f5_))
   refine hK.out _ _ ⟨cI aH.out 0, cI aH.out 1, cI aC.out 0, cI aC.out 1⟩ (fun hHeld => ?_)
   clear hK K
   refine norm_ (a' := ?_) ?_ ?_
   rotate_left
   ·show Act.put _ (some 50) _ = _
    simp only [Act.put, sA, sZ, sS, i64_w, i32_w]
    rfl
   refine one_ (i := 3) (N := some 51) (bv 5 15) rfl rfl (by kernel_rfl) (by decide) (fun K hK => ?_)
   refine goes_ Try.func16 (by kernel_rfl) rfl #[.agg #[cP, .slice bD bI.length bG], .agg #[jO, .slice jQ iW.length jR]] (by rfl) rfl rfl xR ?_
   with_reducible refine (Z34.calls dW cP _ _ bI jO _ _ iW true _ ?side1 ?side2 ?side3 ?side4 oL.out).mono ?_
   (case side1 => exact cM ((Kd.R_reads' aE.out).2.2))
   (case side2 => exact (Kd.R_reads' aE.out).2.1)
   (case side3 => exact cM ((Kd.R_reads' eL.out).2.2))
   (case side4 => exact (Kd.R_reads' eL.out).2.1)
   rintro e wA ⟨rfl, hb⟩
   refine ⟨_, rfl, ?_⟩
   replace aW := rK aW hb
   replace aK := rK aK hb
   replace aI := rK aI hb
   replace aE := rK aE hb
   replace aD := rK aD hb
   replace eL := rK eL hb
   replace aC := rB aC hb
   replace aA := rB aA hb
   replace aG := rB aG hb
   replace aH := rB aH hb
   replace aJ := rB aJ hb
   replace HB := rS HB hb
   (try clear hb)
   (try clear hb2)
   (try clear hk)
   (try clear hi)
   refine hK.out _ _ ⟨cI aH.out 0, cI aH.out 1, cI aC.out 0, cI aC.out 1⟩ (fun hHeld => ?_)
   clear hK K
   refine norm_ (a' := ?_) ?_ ?_
   rotate_left
   ·show Act.put _ (some 51) _ = _
    simp only [Act.put, sA, sZ, sS, i64_w, i32_w]
    rfl
   refine pure_ (i := 4) (N := some 52) (v := ?_) (a' := ?_) (bv 5 31) rfl rfl (by kernel_rfl) (fun _ _ _ h => h) (Or.inl ⟨by rfl, ?_⟩) ?_ ?_
   rotate_left
   ·intro w'
    go_simp
    with_reducible rfl
   rotate_left
   ·simp only [Act.put, sA, sZ, sS, i64_w, i32_w]
    rfl
   refine done_ (by kernel_rfl) ?_
   have sJ := iO.out
   have sK := iN.out
   have sL := iQ.out
   have sM := iP.out
   have sN := eR.out
   have sO := eQ.out
   have sP := cW.out
   have sQ := cX.out
   have sR := cA2 aH.out
   go_upto_region 14 with (first | ((with_reducible refine gC (f := 17) rfl ?_); refine gL (some 55) Try.func17 #[.agg #[cP, .slice bD bI.length bG], .int .i64 1] ?_; (with_reducible refine (Z39.calls dW cP (fun k_ => some k_ = (.slice bD bI.length bG : Value).ownBlock) (.slice bD bI.length bG) bI 1 lK dH w _ ?side1 ?side2 oM.out).mono ?_); (case side1 => exact bl HB.out); (case side2 => exact Kd.R_tight rfl aE.out); rintro e wB ⟨rfl, iR, hb, hkp⟩; refine ⟨_, rfl, ?_⟩; replace aW := aM (Kd.R_mono (ok' := fun k_ => some k_ ≠ (eK : Value).ownBlock) (Kd.R_keptB ((Kd.R_apart' aW.out (Kd.R_typed aE.out) (by decide))) hkp (fun k_ hk_ hs_ => (hk_.2) hs_)) (fun k_ hk_ => hk_.1.1)); replace aK := aM (Kd.R_mono (ok' := fun k_ => some k_ ≠ (dJ : Value).ownBlock) (Kd.R_keptB ((Kd.R_apart' aK.out (Kd.R_typed aE.out) (by decide))) hkp (fun k_ hk_ hs_ => (hk_.2) hs_)) (fun k_ hk_ => hk_.1.1)); replace aI := aM (Kd.R_mono (ok' := fun k_ => some k_ ≠ (.slice bD bI.length bG : Value).ownBlock ∧ some k_ ≠ (.slice cG aV.length cE : Value).ownBlock ∧ some k_ ≠ (.slice jQ iW.length jR : Value).ownBlock) (Kd.R_keptB (aI.out) hkp (fun k_ hk_ hs_ => (hk_.1.1) hs_)) (fun k_ hk_ => ⟨hk_.1.1.1, hk_.1.1.2, hk_.1.2⟩)); replace aD := aM (Kd.R_mono (ok' := fun k_ => some k_ ≠ (.slice bY aT.length bW : Value).ownBlock ∧ some k_ ≠ (.slice bD bI.length bG : Value).ownBlock ∧ some k_ ≠ (.slice jQ iW.length jR : Value).ownBlock) (Kd.R_keptB (aD.out) hkp (fun k_ hk_ hs_ => (hk_.1.2) hs_)) (fun k_ hk_ => ⟨hk_.1.1.1, hk_.1.1.2, hk_.1.2⟩)); replace aC := aM (blk_kept (bk aC.out) hkp (fun hs_ => (fun e_ => (Kd.R_ne aE.out aC.out (by decide)) e_) hs_)); replace aA := aM (blk_kept (bk aA.out) hkp (fun hs_ => (fun e_ => (Kd.R_ne aE.out aA.out (by decide)) e_) hs_)); replace aG := aM (blk_kept (bk aG.out) hkp (fun hs_ => (fun e_ => (Kd.R_ne aE.out aG.out (by decide)) e_) hs_)); replace aH := aM (blk_kept (bk aH.out) hkp (fun hs_ => (fun e_ => (Kd.R_ne aE.out aH.out (by decide)) e_) hs_)); replace aJ := aM (blk_kept (bk aJ.out) hkp (fun hs_ => (fun e_ => (Kd.R_ne aE.out aJ.out (by decide)) e_) hs_)); replace aE := aM (Kd.R_reok rfl iR (fun k_ e_ => aE.out.1 k_ e_)); replace eL := aM (Kd.R_mono (ok' := fun k_ => some k_ ≠ (.slice bY aT.length bW : Value).ownBlock ∧ some k_ ≠ (.slice bD bI.length bG : Value).ownBlock ∧ some k_ ≠ (.slice cG aV.length cE : Value).ownBlock) (Kd.R_keptB (eL.out) hkp (fun k_ hk_ hs_ => (hk_.1.2) hs_)) (fun k_ hk_ => ⟨hk_.1.1.1.2, hk_.1.1.2, hk_.1.2⟩)); replace HB := aM (hb); (repeat first|clear hb|clear hkp|clear iR)))
   (try simp only [Act.put, sA, sZ, sS])
   go_cut [69] (fun oO wc => ∃ (kq : Nat) (iG : Bool), oO = .bool iG ∧ Aside0 (Z2.j1 kq cO cL iG bL bH bM bN bO bP bQ bT bU bV cK aT cD aV = some true) ∧ Aside0 (kq ≤ dW) ∧ Aside0 (Kd.R k151 151 wc w.heap.size (fun k_ => some k_ ≠ (eK : Value).ownBlock) dJ cO) ∧ Aside0 (Kd.R k151 151 wc w.heap.size (fun k_ => some k_ ≠ (dJ : Value).ownBlock) eK cL) ∧ Aside0 (Kd.R k79 79 wc w.heap.size (fun k_ => some k_ ≠ ((.slice bD bI.length bG) : Value).ownBlock ∧ some k_ ≠ ((.slice cG aV.length cE) : Value).ownBlock) (.slice bY aT.length bW) aT) ∧ Aside0 (Kd.R k79 79 wc w.heap.size (fun k_ => some k_ ≠ ((.slice bY aT.length bW) : Value).ownBlock ∧ some k_ ≠ ((.slice cG aV.length cE) : Value).ownBlock) (.slice bD bI.length bG) dH) ∧ Aside0 (Kd.R k79 79 wc w.heap.size (fun k_ => some k_ ≠ ((.slice bY aT.length bW) : Value).ownBlock ∧ some k_ ≠ ((.slice bD bI.length bG) : Value).ownBlock) (.slice cG aV.length cE) aV) ∧ Aside0 (wc.heap[cH]? = some (.cells #[bL, (.slice cY bH.length dA)] 24 (0, 0))) ∧ Aside0 (wc.heap[aQ]? = some (.cells #[bM, bN, bO, bP, bQ, bT, bU, bV] 92 (0, 0))) ∧ Aside0 (wc.heap[cC]? = some (.cells #[cK, (.slice bY aT.length bW)] 28 (0, 0))) ∧ Aside0 (wc.heap[cN]? = some (.cells #[cP, (.slice bD bI.length bG)] 28 (0, 0))) ∧ Aside0 (wc.heap[bZ]? = some (.cells #[cD, (.slice cG aV.length cE)] 28 (0, 0))) ∧ Aside0 (Below w.heap.size w wc))
   case first =>
    have H := jP.out
    clear jP
    by_cases iX : lK < 0
    case pos =>
     rw [if_pos iX] at H
     have hZ := decide_eq_true iX
     clear iX
     (first | rw [hZ] | (simp only [i64_w, i32_w]; rw [hZ]) | skip)
     exact absurd H (Z2.j1_no _ _ _ _ _ _ _ _ _ _ _ _ _ _ _ _ _)
    rw [if_neg iX] at H
    have hZ := decide_eq_false iX
    clear iX
    (first | rw [hZ] | (simp only [i64_w, i32_w]; rw [hZ]) | skip)
    obtain ⟨iV, lO, H⟩ := hB H
    have oP := aM lO
    clear lO
    by_cases jK : iV = true
    case neg =>
     replace jK := Bool.eq_false_iff.mpr jK
     subst jK
     have H1 : (Z2.j1 dW cO cL true bL bH bM bN bO bP bQ bT bU bV cK aT cD aV) = some true := by first | (rw [if_neg (show ¬ (false = true) by decide)] at H; exact H) | (rw [if_neg (show ¬ (false = true) by decide)] at H)
     clear H
     have H := H1
     clear H1
     exact absurd H (Z2.j1_no _ _ _ _ _ _ _ _ _ _ _ _ _ _ _ _ _)
    subst jK
    have H1 : ((Z14.f dW cL cO).bind fun hJ => (Z2.j1 dW cO cL (!hJ) bL bH bM bN bO bP bQ bT bU bV cK aT cD aV)) = some true := by first | (rw [if_pos rfl] at H; exact H) | (rw [if_pos rfl] at H)
    clear H
    have H := H1
    clear H1
    obtain ⟨hJ, lP, H⟩ := hB H
    have oQ := aM lP
    clear lP
    have H' := aM H
    clear H
    have sT := dC.out
    have sU := dB.out
    have sV := dE.out
    have sW := dD.out
    have sX := cV.out
    have sY := cU.out
    have tA := cX.out
    have tB := cW.out
    have oR := cA2 aJ.out
    have oS := cR.out
    have oT := cQ.out
    have oU := cT.out
    have oV := cS.out
    have oW := eQ.out
    have oX := eR.out
    have oY := cA2 aG.out
    go_wp2_with (first | (go_at_call 16; (with_reducible refine (Z34.calls dW cD _ _ aV cK _ _ aT true _ ?side1 ?side2 ?side3 ?side4 oP.out).mono ?_); (case side1 => exact cM ((Kd.R_reads' aD.out).2.2)); (case side2 => exact (Kd.R_reads' aD.out).2.1); (case side3 => exact cM ((Kd.R_reads' aI.out).2.2)); (case side4 => exact (Kd.R_reads' aI.out).2.1); rintro e uE ⟨rfl, hb⟩; replace aW := rK aW hb; replace aK := rK aK hb; replace aI := rK aI hb; replace aE := rK aE hb; replace aD := rK aD hb; replace eL := rK eL hb; replace aC := rB aC hb; replace aA := rB aA hb; replace aG := rB aG hb; replace aH := rB aH hb; replace aJ := rB aJ hb; replace HB := rS HB hb; (try clear hb); obtain ⟨tC, tD, mG⟩ := Kd.R_slice aK.out; subst mG; obtain ⟨tE, tF, mH⟩ := Kd.R_slice aW.out; subst mH) | (go_at_call 56; (with_reducible refine (Z14.calls dW _ _ cL _ _ cO hJ _ ?side1 ?side2 ?side3 ?side4 oQ.out).mono ?_); (case side1 => exact cM ((Kd.R_reads' aK.out).2.2)); (case side2 => exact (Kd.R_reads' aK.out).2.1); (case side3 => exact cM ((Kd.R_reads' aW.out).2.2)); (case side4 => exact (Kd.R_reads' aW.out).2.1); rintro e uF ⟨rfl, hb⟩; replace aW := rK aW hb; replace aK := rK aK hb; replace aI := rK aI hb; replace aE := rK aE hb; replace aD := rK aD hb; replace eL := rK eL hb; replace aC := rB aC hb; replace aA := rB aA hb; replace aG := rB aG hb; replace aH := rB aH hb; replace aJ := rB aJ hb; replace HB := rS HB hb; (try clear hb)))
    go_meet
    case rel => exact ⟨_, (!hJ), xE, H', ⟨by have := HJ15.out; first | omega | exact Nat.le_refl _⟩, ⟨kr aW.out⟩, ⟨kr aK.out⟩, ⟨kr (Kd.R_mono aI.out (fun _ hk => ⟨hk.1, hk.2.1⟩))⟩, ⟨kr (Kd.R_mono aE.out (fun _ hk => ⟨hk.1.1, hk.1.2⟩))⟩, ⟨kr (Kd.R_mono aD.out (fun _ hk => ⟨hk.1, hk.2.1⟩))⟩, ⟨bk aC.out⟩, ⟨bk aA.out⟩, ⟨bk aG.out⟩, ⟨bk aH.out⟩, ⟨bk aJ.out⟩, ⟨bl HB.out⟩⟩
   case rest =>
    clear jP
    repeat first|clear c1|clear p2|clear c5|clear c6|clear c7|clear c8|clear c9|clear wC|clear wD|clear oZ|clear mS|clear pA|clear iZ|clear mT|clear nV|clear mU|clear nZ|clear oA|clear oB|clear oC|clear oD|clear oE|clear oF|clear oG|clear oH|clear oI|clear oJ|clear jI|clear jJ|clear wE|clear wF|clear wG|clear wH|clear iX|clear hZ|clear jK|clear wI|clear wJ|clear wK|clear wL|clear uG|clear uH|clear uI|clear uJ|clear uK|clear uL|clear uM|clear uN|clear uO|clear uP|clear p2
    obtain ⟨kq, iG, rfl, HA, HJ80, aW, aK, aI, aE, aD, aC, aA, aG, aH, aJ, HB⟩ := hcut
    have hl692001_80 := (Kd.R_reads' aE.out).1
    rw [hl692001_80] at aE
    (try simp only [hl692001_80])
    (try simp only [hl692001_80] at aC)
    (try simp only [hl692001_80] at aA)
    (try simp only [hl692001_80] at aG)
    (try simp only [hl692001_80] at aH)
    (try simp only [hl692001_80] at aJ)
    (try simp only [hl692001_80] at aW)
    (try simp only [hl692001_80] at aK)
    (try simp only [hl692001_80] at aI)
    (try simp only [hl692001_80] at aD)
    cases kq with
    | zero => exact absurd HA.out (by simp [Z2.j1])
    | succ dK =>
     have H := HA.out
     clear HA
     simp only [Z2.j1] at H
     by_cases jC : iG = true
     case pos =>
      subst jC
      have H1 : (some false) = some true := by first | (rw [if_pos rfl] at H; exact H) | (rw [if_pos rfl] at H)
      clear H
      have H := H1
      clear H1
      exact absurd (Option.some.inj H) (by decide)
     replace jC := Bool.eq_false_iff.mpr jC
     subst jC
     have H1 : ((Z39.f dK cD aV 1).bind fun iS => ((Z26.f dK cL iS.1).bind fun iA => ((Z42.f dK cD iS.2 1).bind fun iB => (if iB < 0 then (some false) else ((Z23.f dK iA.2 iB).bind fun gK => (if gK < 0 then (some false) else (if gK = iA.1 then ((Z33.f dK bL bH).bind fun jZ => ((Z44.f bM bN bO bP bQ bT bU bV).bind fun fV => ((Z35.f dK jZ.1 jZ.2 fV.1 fV.2.1 fV.2.2.1 fV.2.2.2.1 fV.2.2.2.2.1 fV.2.2.2.2.2.1 fV.2.2.2.2.2.2.1 fV.2.2.2.2.2.2.2).bind fun jD => ((Z34.f dK jD.1 jD.2.1 cK aT).bind fun jS => (if jS = true then ((Z14.f dK jD.2.2 cO).bind fun iI => (Z2.j2 dK iA.2 iA.1 (!iI) cD iS.2)) else (Z2.j2 dK iA.2 iA.1 true cD iS.2)))))) else (some false)))))))) = some true := by first | (rw [if_neg (show ¬ (false = true) by decide)] at H; exact H) | (rw [if_neg (show ¬ (false = true) by decide)] at H)
     clear H
     have H := H1
     clear H1
     obtain ⟨⟨jT, eM⟩, kA, H⟩ := hB H
     try dsimp only at H
     have jA := aM kA
     clear kA
     obtain ⟨⟨eJ, eN⟩, kC, H⟩ := hB H
     try dsimp only at H
     have mZ := aM kC
     clear kC
     obtain ⟨iB, kD, H⟩ := hB H
     have nA := aM kD
     clear kD
     by_cases iJ : iB < 0
     case pos =>
      rw [if_pos iJ] at H
      have lQ := decide_eq_true iJ
      clear iJ
      exact absurd (Option.some.inj H) (by decide)
     rw [if_neg iJ] at H
     have lQ := decide_eq_false iJ
     clear iJ
     obtain ⟨gK, kE, H⟩ := hB H
     have nB := aM kE
     clear kE
     by_cases iK : gK < 0
     case pos =>
      rw [if_pos iK] at H
      have lS := decide_eq_true iK
      clear iK
      exact absurd (Option.some.inj H) (by decide)
     rw [if_neg iK] at H
     have lS := decide_eq_false iK
     clear iK
     by_cases iC : gK = eJ
     case neg =>
      rw [if_neg iC] at H
      have lT : (gK == eJ) = false := beq_eq_false_iff_ne.mpr iC
      have lU : (gK != eJ) = true := bne_iff_ne.mpr iC
      exact absurd (Option.some.inj H) (by decide)
     rw [if_pos iC] at H
     have lT : (gK == eJ) = true := beq_iff_eq.mpr iC
     have lU : (gK != eJ) = false := bne_eq_false_iff_eq.mpr iC
     clear iC
     obtain ⟨⟨fM, eI⟩, kG, H⟩ := hB H
     try dsimp only at H
     have lV := aM kG
     clear kG
     obtain ⟨⟨fA, fB, fC, fD, fE, fF, fG, fH⟩, kH, H⟩ := hB H
     try dsimp only at H
     have jU := aM kH
     clear kH
     obtain ⟨⟨eA, dI, hO⟩, kI, H⟩ := hB H
     try dsimp only at H
     have jE := aM kI
     clear kI
     have jF := aM H
     clear H
     have pB := dC.out
     have pC := dB.out
     have pD := dE.out
     have pE := dD.out
     have pF := cV.out
     have pG := cU.out
     have pH := cX.out
     have pI := cW.out
     have pJ := cA2 aJ.out
     try go_wp2_with (first | ((with_reducible refine gC (f := 17) rfl ?_); refine gL (some 72) Try.func17 #[.agg #[cD, .slice cG aV.length cE], .int .i64 1] ?_; (with_reducible refine (Z39.calls dK cD (fun k_ => some k_ = (.slice cG aV.length cE : Value).ownBlock) (.slice cG aV.length cE) aV 1 jT eM w _ ?side1 ?side2 jA.out).mono ?_); (case side1 => exact bl HB.out); (case side2 => exact Kd.R_tight rfl aD.out); rintro e uQ ⟨rfl, iR, hb, hkp⟩; refine ⟨_, rfl, ?_⟩; replace aW := aM (Kd.R_mono (ok' := fun k_ => some k_ ≠ (eK : Value).ownBlock) (Kd.R_keptB ((Kd.R_apart' aW.out (Kd.R_typed aD.out) (by decide))) hkp (fun k_ hk_ hs_ => (hk_.2) hs_)) (fun k_ hk_ => hk_.1.1)); replace aK := aM (Kd.R_mono (ok' := fun k_ => some k_ ≠ (dJ : Value).ownBlock) (Kd.R_keptB ((Kd.R_apart' aK.out (Kd.R_typed aD.out) (by decide))) hkp (fun k_ hk_ hs_ => (hk_.2) hs_)) (fun k_ hk_ => hk_.1.1)); replace aI := aM (Kd.R_mono (ok' := fun k_ => some k_ ≠ (.slice bD dH.length bG : Value).ownBlock ∧ some k_ ≠ (.slice cG aV.length cE : Value).ownBlock) (Kd.R_keptB (aI.out) hkp (fun k_ hk_ hs_ => (hk_.2) hs_)) (fun k_ hk_ => ⟨hk_.1.1, hk_.1.2⟩)); replace aE := aM (Kd.R_mono (ok' := fun k_ => some k_ ≠ (.slice bY aT.length bW : Value).ownBlock ∧ some k_ ≠ (.slice cG aV.length cE : Value).ownBlock) (Kd.R_keptB (aE.out) hkp (fun k_ hk_ hs_ => (hk_.2) hs_)) (fun k_ hk_ => ⟨hk_.1.1, hk_.1.2⟩)); replace aC := aM (blk_kept (bk aC.out) hkp (fun hs_ => (fun e_ => (Kd.R_ne aD.out aC.out (by decide)) e_) hs_)); replace aA := aM (blk_kept (bk aA.out) hkp (fun hs_ => (fun e_ => (Kd.R_ne aD.out aA.out (by decide)) e_) hs_)); replace aG := aM (blk_kept (bk aG.out) hkp (fun hs_ => (fun e_ => (Kd.R_ne aD.out aG.out (by decide)) e_) hs_)); replace aH := aM (blk_kept (bk aH.out) hkp (fun hs_ => (fun e_ => (Kd.R_ne aD.out aH.out (by decide)) e_) hs_)); replace aJ := aM (blk_kept (bk aJ.out) hkp (fun hs_ => (fun e_ => (Kd.R_ne aD.out aJ.out (by decide)) e_) hs_)); replace aD := aM (Kd.R_reok rfl iR (fun k_ e_ => aD.out.1 k_ e_)); replace HB := aM (hb); (repeat first|clear hb|clear hkp|clear iR); obtain ⟨eF, eG, mI⟩ := Kd.R_slice aK.out; subst mI) | ((with_reducible refine gC (f := 57) rfl ?_); refine gL (some 75) Try.func57 #[.slice eF cL.length eG, jT] ?_; (with_reducible refine (Z26.calls dK (fun k_ => some k_ = (.slice eF cL.length eG : Value).ownBlock) (.slice eF cL.length eG) cL jT eJ eN w _ ?side1 ?side2 mZ.out).mono ?_); (case side1 => exact bl HB.out); (case side2 => exact Kd.R_tight rfl aK.out); rintro e uR ⟨rfl, iR, hb, hkp⟩; refine ⟨_, rfl, ?_⟩; replace aW := aM (Kd.R_mono (ok' := fun k_ => some k_ ≠ (.slice eF cL.length eG : Value).ownBlock) (Kd.R_keptB (aW.out) hkp (fun k_ hk_ hs_ => (hk_) hs_)) (fun k_ hk_ => hk_.1)); replace aI := aM (Kd.R_mono (ok' := fun k_ => some k_ ≠ (.slice bD dH.length bG : Value).ownBlock ∧ some k_ ≠ (.slice cG aV.length cE : Value).ownBlock) (Kd.R_keptB ((Kd.R_apart' aI.out (Kd.R_typed aK.out) (by decide))) hkp (fun k_ hk_ hs_ => (hk_.2) hs_)) (fun k_ hk_ => ⟨hk_.1.1.1, hk_.1.1.2⟩)); replace aE := aM (Kd.R_mono (ok' := fun k_ => some k_ ≠ (.slice bY aT.length bW : Value).ownBlock ∧ some k_ ≠ (.slice cG aV.length cE : Value).ownBlock) (Kd.R_keptB ((Kd.R_apart' aE.out (Kd.R_typed aK.out) (by decide))) hkp (fun k_ hk_ hs_ => (hk_.2) hs_)) (fun k_ hk_ => ⟨hk_.1.1.1, hk_.1.1.2⟩)); replace aD := aM (Kd.R_mono (ok' := fun k_ => some k_ ≠ (.slice bY aT.length bW : Value).ownBlock ∧ some k_ ≠ (.slice bD dH.length bG : Value).ownBlock) (Kd.R_keptB ((Kd.R_apart' aD.out (Kd.R_typed aK.out) (by decide))) hkp (fun k_ hk_ hs_ => (hk_.2) hs_)) (fun k_ hk_ => ⟨hk_.1.1.1, hk_.1.1.2⟩)); replace aC := aM (blk_kept (bk aC.out) hkp (fun hs_ => (fun e_ => (Kd.R_ne aK.out aC.out (by decide)) e_) hs_)); replace aA := aM (blk_kept (bk aA.out) hkp (fun hs_ => (fun e_ => (Kd.R_ne aK.out aA.out (by decide)) e_) hs_)); replace aG := aM (blk_kept (bk aG.out) hkp (fun hs_ => (fun e_ => (Kd.R_ne aK.out aG.out (by decide)) e_) hs_)); replace aH := aM (blk_kept (bk aH.out) hkp (fun hs_ => (fun e_ => (Kd.R_ne aK.out aH.out (by decide)) e_) hs_)); replace aJ := aM (blk_kept (bk aJ.out) hkp (fun hs_ => (fun e_ => (Kd.R_ne aK.out aJ.out (by decide)) e_) hs_)); replace aK := aM (Kd.R_reok rfl iR (fun k_ e_ => aK.out.1 k_ e_)); replace HB := aM (hb); (repeat first|clear hb|clear hkp|clear iR); have pK := cA2 aJ.out) | ((with_reducible refine gC (f := 18) rfl ?_); refine goesL_ (some 78) rfl rfl Try.func18 (by kernel_rfl) rfl #[.agg #[cD, .slice cG eM.length cE], .int .i64 1] rfl (by (try simp only [List.map_toArray, List.map_cons, List.map_nil]); first | done | (rw [show eM.length = aV.length from (Kd.R_reads' aD.out).1.symm] <;> rfl) | rfl | (simp only [List.length_drop, List.length_take]; rfl)) ?_; (with_reducible refine (Z42.calls dK cD _ _ eM 1 iB _ ?side1 ?side2 nA.out).mono ?_); (case side1 => exact cM ((Kd.R_reads' aD.out).2.2)); (case side2 => rw [show eM.length = aV.length from (Kd.R_reads' aD.out).1.symm]; exact (Kd.R_reads' aD.out).2.1); rintro e jG ⟨rfl, hb⟩; refine ⟨_, rfl, ?_⟩; replace aW := rK aW hb; replace aK := rK aK hb; replace aI := rK aI hb; replace aE := rK aE hb; replace aD := rK aD hb; replace aC := rB aC hb; replace aA := rB aA hb; replace aG := rB aG hb; replace aH := rB aH hb; replace aJ := rB aJ hb; replace HB := rS HB hb; (try clear hb)) | ((with_reducible refine gC (f := 58) rfl ?_); refine goesL_ (some 83) rfl rfl Try.func58 (by kernel_rfl) rfl #[.slice eF eN.length eG, iB] rfl (by (try simp only [List.map_toArray, List.map_cons, List.map_nil]); first | done | (rw [show eN.length = cL.length from (Kd.R_reads' aK.out).1.symm] <;> rfl) | rfl | (simp only [List.length_drop, List.length_take]; rfl)) ?_; (with_reducible refine (Z23.calls dK _ _ eN iB gK _ ?side1 ?side2 nB.out).mono ?_); (case side1 => exact cM ((Kd.R_reads' aK.out).2.2)); (case side2 => rw [show eN.length = cL.length from (Kd.R_reads' aK.out).1.symm]; exact (Kd.R_reads' aK.out).2.1); rintro e w' ⟨rfl, ⟨nd, rfl⟩⟩; refine ⟨_, rfl, ?_⟩; (try (rw [drewN_self jG]; generalize hq_ : World.drewN jG _ = jG; replace aK := qR hq_ (kr aK.out); replace aI := qR hq_ (kr aI.out); replace aE := qR hq_ (kr aE.out); replace aW := qR hq_ (kr aW.out); replace aD := qR hq_ (kr aD.out); replace aC := qB hq_ (bk aC.out); replace aA := qB hq_ (bk aA.out); replace aG := qB hq_ (bk aG.out); replace aH := qB hq_ (bk aH.out); replace aJ := qB hq_ (bk aJ.out); replace HB := qL hq_ (bl HB.out); clear hq_))))
     replace aW := aM (Kd.R_drew aW.out)
     replace aK := aM (Kd.R_drew aK.out)
     replace aI := aM (Kd.R_drew aI.out)
     replace aE := aM (Kd.R_drew aE.out)
     replace aD := aM (Kd.R_drew aD.out)
     replace aC := aM (blk_drew aC.out)
     replace aA := aM (blk_drew aA.out)
     replace aG := aM (blk_drew aG.out)
     replace aH := aM (blk_drew aH.out)
     replace aJ := aM (blk_drew aJ.out)
     replace HB := aM (below_drew1 HB.out)
     refine start_ (n := 11) (S := fun w' => cT2 w' cH (.int .i64 bL) (.slice cY bH.length dA) (cS8 w' aQ (.int .i64 bM) (.int .i64 bN) (.int .i64 bO) (.int .i64 bP) (.int .i64 bQ) (.int .i64 bT) (.int .i64 bU) (.bool bV))) (ds := []) (dn 11 0) (by kernel_rfl) rfl rfl ⟨cI aC.out 0, cI aC.out 1, cI aA.out 0, cI aA.out 1, cI aA.out 2, cI aA.out 3, cI aA.out 4, cI aA.out 5, cI aA.out 6, cI aA.out 7⟩ (fun hHeld => ?_); refine with_tabW Z2.tab28 Z2.bits28 (fun HT_ HW_ => ?_)
     generalize jG.drew = uS at aW aK aI aE aD aC aA aG aH aJ HB hHeld ⊢
     refine tY (N := some 90) HT_ HW_ hHeld ?_
     refine aZ 2 92 (bv 11 5) HT_ HW_ hHeld ?_
     refine join_ (σ := Value × Value × Value × Nat) 2 (bv 11 511) (fun s_ => [(91, .agg #[fM, s_.1]), (93, .agg #[fA, fB, fC, fD, fE, fF, fG, fH]), (94, .tuple #[.agg #[eA, s_.2.1], s_.2.2.1]), (14, .pointer (some ⟨s_.2.2.2, 0, none⟩)), (89, .tuple #[.agg #[eA, s_.2.1], s_.2.2.1]), (95, .agg #[eA, s_.2.1]), (96, s_.2.2.1)]) (fun s_ w' => (w'.cell? ⟨cH, 0, none⟩ = some bL ∧ w'.cell? ⟨cH, 1, none⟩ = some (.slice cY bH.length dA) ∧ w'.cell? ⟨aQ, 0, none⟩ = some bM ∧ w'.cell? ⟨aQ, 1, none⟩ = some bN ∧ w'.cell? ⟨aQ, 2, none⟩ = some bO ∧ w'.cell? ⟨aQ, 3, none⟩ = some bP ∧ w'.cell? ⟨aQ, 4, none⟩ = some bQ ∧ w'.cell? ⟨aQ, 5, none⟩ = some bT ∧ w'.cell? ⟨aQ, 6, none⟩ = some bU ∧ w'.cell? ⟨aQ, 7, none⟩ = some bV) ∧ (Kd.R k79 79 w' w.heap.size (fun k_ => some k_ ≠ (s_.2.1 : Value).ownBlock ∧ some k_ ≠ (.slice bY aT.length bW : Value).ownBlock ∧ some k_ ≠ (.slice bD dH.length bG : Value).ownBlock ∧ some k_ ≠ (.slice cG aV.length cE : Value).ownBlock) s_.1 eI) ∧ (Kd.R k79 79 w' w.heap.size (fun k_ => some k_ ≠ (s_.1 : Value).ownBlock ∧ some k_ ≠ (.slice bY aT.length bW : Value).ownBlock ∧ some k_ ≠ (.slice bD dH.length bG : Value).ownBlock ∧ some k_ ≠ (.slice cG aV.length cE : Value).ownBlock) s_.2.1 dI) ∧ (Kd.R k151 151 w' w.heap.size (fun k_ => some k_ ≠ (.slice eF cL.length eG : Value).ownBlock ∧ some k_ ≠ (dJ : Value).ownBlock) s_.2.2.1 hO) ∧ (Kd.R k151 151 w' w.heap.size (fun k_ => some k_ ≠ (s_.2.2.1 : Value).ownBlock ∧ some k_ ≠ (dJ : Value).ownBlock) (.slice eF cL.length eG) eN) ∧ (Kd.R k79 79 w' w.heap.size (fun k_ => some k_ ≠ (s_.1 : Value).ownBlock ∧ some k_ ≠ (s_.2.1 : Value).ownBlock ∧ some k_ ≠ (.slice bD dH.length bG : Value).ownBlock ∧ some k_ ≠ (.slice cG aV.length cE : Value).ownBlock) (.slice bY aT.length bW) aT) ∧ (Kd.R k79 79 w' w.heap.size (fun k_ => some k_ ≠ (s_.1 : Value).ownBlock ∧ some k_ ≠ (s_.2.1 : Value).ownBlock ∧ some k_ ≠ (.slice bY aT.length bW : Value).ownBlock ∧ some k_ ≠ (.slice cG aV.length cE : Value).ownBlock) (.slice bD dH.length bG) dH) ∧ (Kd.R k151 151 w' w.heap.size (fun k_ => some k_ ≠ (s_.2.2.1 : Value).ownBlock ∧ some k_ ≠ (.slice eF cL.length eG : Value).ownBlock) dJ cO) ∧ (Kd.R k79 79 w' w.heap.size (fun k_ => some k_ ≠ (s_.1 : Value).ownBlock ∧ some k_ ≠ (s_.2.1 : Value).ownBlock ∧ some k_ ≠ (.slice bY aT.length bW : Value).ownBlock ∧ some k_ ≠ (.slice bD dH.length bG : Value).ownBlock) (.slice cG aV.length cE) eM) ∧ (w'.heap[cH]? = some (.cells #[bL, .slice cY bH.length dA] 24 (0, 0))) ∧ (w'.heap[aQ]? = some (.cells #[bM, bN, bO, bP, bQ, bT, bU, bV] 92 (0, 0))) ∧ (w'.heap[cC]? = some (.cells #[cK, .slice bY aT.length bW] 28 (0, 0))) ∧ (w'.heap[cN]? = some (.cells #[cP, .slice bD dH.length bG] 28 (0, 0))) ∧ (w'.heap[bZ]? = some (.cells #[cD, .slice cG aV.length cE] 28 (0, 0))) ∧ (w'.heap[s_.2.2.2]? = some (.cells #[.int .i64 0, .slice none 0 0] 28 (0, 0))) ∧ (w.heap.size ≤ s_.2.2.2) ∧ (w.heap.size ≤ s_.2.2.2) ∧ (cH ≠ s_.2.2.2) ∧ (s_.2.2.2 ≠ cH) ∧ (aQ ≠ s_.2.2.2) ∧ (s_.2.2.2 ≠ aQ) ∧ (cC ≠ s_.2.2.2) ∧ (s_.2.2.2 ≠ cC) ∧ (cN ≠ s_.2.2.2) ∧ (s_.2.2.2 ≠ cN) ∧ (bZ ≠ s_.2.2.2) ∧ (s_.2.2.2 ≠ bZ) ∧ (Below w.heap.size w w')) ?_ ?_
     rotate_left
     ·intro hCont
      refine two_ (i := 1) (j := 8) (Ni := some 91) (Nj := some 14) (bv 11 7) (bv 11 261) rfl rfl rfl rfl (two_of HT_.out (by kernel_rfl)) (by decide) (by decide) (fun K hK => ?_) (fun K hK => ?_)
      ·skip
       refine goes_ Try.func14 (by kernel_rfl) rfl #[.agg #[bL, .slice cY bH.length dA]] (by rfl) rfl rfl xR ?_
       with_reducible refine (Z33.calls dK bL _ _ bH fM eI _ ?side1 ?side2 lV.out).mono ?_
       (case side1 => exact cM (cB fO.out HB.out))
       (case side2 => exact fP.out)
       rintro e nC ⟨gV, rfl, ho0, hb⟩
       refine ⟨_, rfl, ?_⟩
       have bJ := aM (Kd.R_lower (Kd.R_new' (Kd.R_new' (Kd.R_new' ho0 (Kd.R_lt (kr aI.out))) (Kd.R_lt (kr aE.out))) (Kd.R_lt (kr aD.out))) (below_size (bl HB.out)))
       replace aW := rK aW hb
       replace aK := rK aK hb
       replace aI := aM (Kd.R_elder' (kr aI.out) (Kd.R_base ho0) hb)
       replace aE := aM (Kd.R_elder' (kr aE.out) (Kd.R_base ho0) hb)
       replace aD := aM (Kd.R_elder' (kr aD.out) (Kd.R_base ho0) hb)
       replace aC := rB aC hb
       replace aA := rB aA hb
       replace aG := rB aG hb
       replace aH := rB aH hb
       replace aJ := rB aJ hb
       replace HB := rS HB hb
       (try clear hb)
       (try clear hb2)
       (try clear hk)
       (try clear hi)
       (try clear ho0)
       refine hK.out _ _ ⟨cI aC.out 0, cI aC.out 1, cI aA.out 0, cI aA.out 1, cI aA.out 2, cI aA.out 3, cI aA.out 4, cI aA.out 5, cI aA.out 6, cI aA.out 7⟩ (fun hHeld => ?_)
       clear hK K
       refine norm_ (a' := ?_) ?_ ?_
       rotate_left
       ·show Act.put _ (some 91) _ = _
        simp only [Act.put, sA, sZ, sS, i64_w, i32_w]
        rfl
       refine two_ (i := 3) (j := 8) (Ni := some 93) (Nj := some 14) (bv 11 15) (bv 11 263) rfl rfl rfl rfl (two_of HT_.out (by kernel_rfl)) (by decide) (by decide) (fun K hK => ?_) (fun K hK => ?_)
       ·skip
        refine goes_ Try.func55 (by kernel_rfl) rfl #[.agg #[bM, bN, bO, bP, bQ, bT, bU, bV]] (by rfl) rfl rfl xR ?_
        with_reducible refine (Z44.calls bM bN bO bP bQ bT bU bV fA fB fC fD fE fF fG fH _ jU.out).mono ?_
        rintro e lW ⟨rfl, hb⟩
        refine ⟨_, rfl, ?_⟩
        replace aW := rK aW hb
        replace aK := rK aK hb
        replace aI := rK aI hb
        replace aE := rK aE hb
        replace aD := rK aD hb
        replace bJ := rK bJ hb
        replace aC := rB aC hb
        replace aA := rB aA hb
        replace aG := rB aG hb
        replace aH := rB aH hb
        replace aJ := rB aJ hb
        replace HB := rS HB hb
        (try clear hb)
        (try clear hb2)
        (try clear hk)
        (try clear hi)
        obtain ⟨kJ, kK, kL⟩ := Kd.R_slice bJ.out
        (first | subst kL | (injection kL with f1_ f2_ f3_; have f4_ := f1_.symm; have f5_ := f3_.symm; clear f1_ f2_ f3_; subst f4_; subst f5_))
        refine hK.out _ _ ⟨cI aC.out 0, cI aC.out 1, cI aA.out 0, cI aA.out 1, cI aA.out 2, cI aA.out 3, cI aA.out 4, cI aA.out 5, cI aA.out 6, cI aA.out 7⟩ (fun hHeld => ?_)
        clear hK K
        refine norm_ (a' := ?_) ?_ ?_
        rotate_left
        ·show Act.put _ (some 93) _ = _
         simp only [Act.put, sA, sZ, sS, i64_w, i32_w]
         rfl
        refine two_ (i := 4) (j := 8) (Ni := some 94) (Nj := some 14) (bv 11 31) (bv 11 271) rfl rfl rfl rfl (two_of HT_.out (by kernel_rfl)) (by decide) (by decide) (fun K hK => ?_) (fun K hK => ?_)
        ·skip
         refine goes_ Try.func53 (by kernel_rfl) rfl #[.agg #[fM, .slice kJ eI.length kK], .agg #[fA, fB, fC, fD, fE, fF, fG, fH]] (by rfl) rfl rfl xR ?_
         with_reducible refine (Z35.calls dK fM _ _ eI fA fB fC fD fE fF fG fH eA dI hO _ ?side1 ?side2 jE.out).mono ?_
         (case side1 => exact cM ((Kd.R_reads' bJ.out).2.2))
         (case side2 => exact (Kd.R_reads' bJ.out).2.1)
         rintro e uT ⟨eO, fN, rfl, ho0, ho1, hb⟩
         refine ⟨_, rfl, ?_⟩
         have dX := aM (Kd.R_lower (Kd.R_new' (Kd.R_new' (Kd.R_new' (Kd.R_new' ho0 (Kd.R_lt (kr aI.out))) (Kd.R_lt (kr aE.out))) (Kd.R_lt (kr aD.out))) (Kd.R_lt (kr bJ.out))) (below_size (bl HB.out)))
         have dZ := aM (Kd.R_lower (Kd.R_new' (Kd.R_new' ho1 (Kd.R_lt (kr aW.out))) (Kd.R_lt (kr aK.out))) (below_size (bl HB.out)))
         replace aW := aM (Kd.R_elder' (kr aW.out) (Kd.R_base ho1) hb)
         replace aK := aM (Kd.R_elder' (kr aK.out) (Kd.R_base ho1) hb)
         replace aI := aM (Kd.R_elder' (kr aI.out) (Kd.R_base ho0) hb)
         replace aE := aM (Kd.R_elder' (kr aE.out) (Kd.R_base ho0) hb)
         replace aD := aM (Kd.R_elder' (kr aD.out) (Kd.R_base ho0) hb)
         replace bJ := aM (Kd.R_elder' (kr bJ.out) (Kd.R_base ho0) hb)
         replace aC := rB aC hb
         replace aA := rB aA hb
         replace aG := rB aG hb
         replace aH := rB aH hb
         replace aJ := rB aJ hb
         replace HB := rS HB hb
         (try clear hb)
         (try clear hb2)
         (try clear hk)
         (try clear hi)
         (try clear ho0)
         (try clear ho1)
         refine hK.out _ _ ⟨cI aC.out 0, cI aC.out 1, cI aA.out 0, cI aA.out 1, cI aA.out 2, cI aA.out 3, cI aA.out 4, cI aA.out 5, cI aA.out 6, cI aA.out 7⟩ (fun hHeld => ?_)
         clear hK K
         refine norm_ (a' := ?_) ?_ ?_
         rotate_left
         ·show Act.put _ (some 94) _ = _
          simp only [Act.put, sA, sZ, sS, i64_w, i32_w]
          rfl
         refine pZ 5 89 (bv 11 63) HT_ ?_
         refine pZ 6 95 (bv 11 127) HT_ ?_
         refine pZ 7 96 (bv 11 255) HT_ ?_
         refine one_ (i := 8) (N := some 14) (bv 11 511) rfl rfl (one_of HT_.out (by kernel_rfl)) (by decide) (fun K hK => ?_)
         refine box_step ?hg (N := 14) ?hd (cs := #[.int .i64 0, .slice none 0 0]) (t := 28) ?hr ?_; (case hd => rfl); (case hg => rfl); (case hr => first | (go_simp; done) | (go_simp; rfl))
         intro cA hg jV hbox hb
         have bK := aM (hbox)
         have fW := gF hg HB
         have fX := gF hg HB
         have dL := nM hg aC
         have dM := nH hg aC
         have dN := nM hg aA
         have dO := nH hg aA
         have dP := nM hg aG
         have dQ := nH hg aG
         have dR := nM hg aH
         have dS := nH hg aH
         have dF := nM hg aJ
         have dG := nH hg aJ
         replace aW := rK aW hb
         replace aK := rK aK hb
         replace aI := rK aI hb
         replace aE := rK aE hb
         replace aD := rK aD hb
         replace bJ := rK bJ hb
         replace dX := rK dX hb
         replace dZ := rK dZ hb
         replace aC := rB aC hb
         replace aA := rB aA hb
         replace aG := rB aG hb
         replace aH := rB aH hb
         replace aJ := rB aJ hb
         replace HB := rS HB hb
         clear hb hbox hg
         refine hK.out _ _ ⟨cI aC.out 0, cI aC.out 1, cI aA.out 0, cI aA.out 1, cI aA.out 2, cI aA.out 3, cI aA.out 4, cI aA.out 5, cI aA.out 6, cI aA.out 7⟩ (fun hHeld => ?_)
         clear hK K
         refine norm_ (a' := ?_) ?_ ?_
         rotate_left
         ·show Act.put _ (some 14) _ = _
          simp only [Act.put, sA, sZ, sS, i64_w, i32_w]
          rfl
         exact norm_ (by simp only [putAll, Act.put, sA, sZ, sS]) (hCont (.slice kJ eI.length kK, eO, fN, cA) _ ⟨hHeld, (kr (Kd.R_mono bJ.out (fun _ hk => ⟨hk.2, ⟨hk.1.1.1.2, ⟨hk.1.1.2, hk.1.2⟩⟩⟩))), (kr (Kd.R_mono dX.out (fun _ hk => ⟨hk.2, ⟨hk.1.1.1.2, ⟨hk.1.1.2, hk.1.2⟩⟩⟩))), (kr (Kd.R_mono dZ.out (fun _ hk => ⟨hk.2, hk.1.2⟩))), (kr (Kd.R_mono aK.out (fun _ hk => ⟨hk.2, hk.1⟩))), (kr (Kd.R_mono aI.out (fun _ hk => ⟨hk.1.2, ⟨hk.2, ⟨hk.1.1.1, hk.1.1.2⟩⟩⟩))), (kr (Kd.R_mono aE.out (fun _ hk => ⟨hk.1.2, ⟨hk.2, ⟨hk.1.1.1, hk.1.1.2⟩⟩⟩))), (kr (Kd.R_mono aW.out (fun _ hk => ⟨hk.2, hk.1⟩))), (kr (Kd.R_mono aD.out (fun _ hk => ⟨hk.1.2, ⟨hk.2, ⟨hk.1.1.1, hk.1.1.2⟩⟩⟩))), (bk aC.out), (bk aA.out), (bk aG.out), (bk aH.out), (bk aJ.out), (bk bK.out), fW.out, fX.out, dL.out, dM.out, dN.out, dO.out, dP.out, dQ.out, dR.out, dS.out, dF.out, dG.out, (bl HB.out)⟩)
        ·skip
         refine box_step ?hg (N := 14) ?hd (cs := #[.int .i64 0, .slice none 0 0]) (t := 28) ?hr ?_; (case hd => rfl); (case hg => rfl); (case hr => first | (go_simp; done) | (go_simp; rfl))
         intro cA hg lX hbox hb
         have bK := aM (hbox)
         have fW := gF hg HB
         have fX := gF hg HB
         have dL := nM hg aC
         have dM := nH hg aC
         have dN := nM hg aA
         have dO := nH hg aA
         have dP := nM hg aG
         have dQ := nH hg aG
         have dR := nM hg aH
         have dS := nH hg aH
         have dF := nM hg aJ
         have dG := nH hg aJ
         replace aW := rK aW hb
         replace aK := rK aK hb
         replace aI := rK aI hb
         replace aE := rK aE hb
         replace aD := rK aD hb
         replace bJ := rK bJ hb
         replace aC := rB aC hb
         replace aA := rB aA hb
         replace aG := rB aG hb
         replace aH := rB aH hb
         replace aJ := rB aJ hb
         replace HB := rS HB hb
         clear hb hbox hg
         obtain ⟨fY, gA, gB⟩ := Kd.R_slice bJ.out
         (first | subst gB | (injection gB with f1_ f2_ f3_; have f4_ := f1_.symm; have f5_ := f3_.symm; clear f1_ f2_ f3_; subst f4_; subst f5_))
         refine hK.out _ _ ⟨cI aC.out 0, cI aC.out 1, cI aA.out 0, cI aA.out 1, cI aA.out 2, cI aA.out 3, cI aA.out 4, cI aA.out 5, cI aA.out 6, cI aA.out 7⟩ (fun hHeld => ?_)
         clear hK K
         refine norm_ (a' := ?_) ?_ ?_
         rotate_left
         ·show Act.put _ (some 14) _ = _
          simp only [Act.put, sA, sZ, sS, i64_w, i32_w]
          rfl
         refine one_ (i := 4) (N := some 94) (bv 11 287) rfl rfl (one_of HT_.out (by kernel_rfl)) (by decide) (fun K hK => ?_)
         refine goes_ Try.func53 (by kernel_rfl) rfl #[.agg #[fM, .slice fY eI.length gA], .agg #[fA, fB, fC, fD, fE, fF, fG, fH]] (by rfl) rfl rfl xR ?_
         with_reducible refine (Z35.calls dK fM _ _ eI fA fB fC fD fE fF fG fH eA dI hO _ ?side1 ?side2 jE.out).mono ?_
         (case side1 => exact cM ((Kd.R_reads' bJ.out).2.2))
         (case side2 => exact (Kd.R_reads' bJ.out).2.1)
         rintro e jV ⟨eO, fN, rfl, ho0, ho1, hb⟩
         refine ⟨_, rfl, ?_⟩
         have dX := aM (Kd.R_lower (Kd.R_new' (Kd.R_new' (Kd.R_new' (Kd.R_new' ho0 (Kd.R_lt (kr aI.out))) (Kd.R_lt (kr aE.out))) (Kd.R_lt (kr aD.out))) (Kd.R_lt (kr bJ.out))) (below_size (bl HB.out)))
         have dZ := aM (Kd.R_lower (Kd.R_new' (Kd.R_new' ho1 (Kd.R_lt (kr aW.out))) (Kd.R_lt (kr aK.out))) (below_size (bl HB.out)))
         replace aW := aM (Kd.R_elder' (kr aW.out) (Kd.R_base ho1) hb)
         replace aK := aM (Kd.R_elder' (kr aK.out) (Kd.R_base ho1) hb)
         replace aI := aM (Kd.R_elder' (kr aI.out) (Kd.R_base ho0) hb)
         replace aE := aM (Kd.R_elder' (kr aE.out) (Kd.R_base ho0) hb)
         replace aD := aM (Kd.R_elder' (kr aD.out) (Kd.R_base ho0) hb)
         replace bJ := aM (Kd.R_elder' (kr bJ.out) (Kd.R_base ho0) hb)
         replace aC := rB aC hb
         replace aA := rB aA hb
         replace aG := rB aG hb
         replace aH := rB aH hb
         replace aJ := rB aJ hb
         replace bK := rB bK hb
         replace HB := rS HB hb
         (try clear hb)
         (try clear hb2)
         (try clear hk)
         (try clear hi)
         (try clear ho0)
         (try clear ho1)
         refine hK.out _ _ ⟨cI aC.out 0, cI aC.out 1, cI aA.out 0, cI aA.out 1, cI aA.out 2, cI aA.out 3, cI aA.out 4, cI aA.out 5, cI aA.out 6, cI aA.out 7⟩ (fun hHeld => ?_)
         clear hK K
         refine norm_ (a' := ?_) ?_ ?_
         rotate_left
         ·show Act.put _ (some 94) _ = _
          simp only [Act.put, sA, sZ, sS, i64_w, i32_w]
          rfl
         refine pZ 5 89 (bv 11 319) HT_ ?_
         refine pZ 6 95 (bv 11 383) HT_ ?_
         refine pZ 7 96 (bv 11 511) HT_ ?_
         exact norm_ (by simp only [putAll, Act.put, sA, sZ, sS]) (hCont (.slice fY eI.length gA, eO, fN, cA) _ ⟨hHeld, (kr (Kd.R_mono bJ.out (fun _ hk => ⟨hk.2, ⟨hk.1.1.1.2, ⟨hk.1.1.2, hk.1.2⟩⟩⟩))), (kr (Kd.R_mono dX.out (fun _ hk => ⟨hk.2, ⟨hk.1.1.1.2, ⟨hk.1.1.2, hk.1.2⟩⟩⟩))), (kr (Kd.R_mono dZ.out (fun _ hk => ⟨hk.2, hk.1.2⟩))), (kr (Kd.R_mono aK.out (fun _ hk => ⟨hk.2, hk.1⟩))), (kr (Kd.R_mono aI.out (fun _ hk => ⟨hk.1.2, ⟨hk.2, ⟨hk.1.1.1, hk.1.1.2⟩⟩⟩))), (kr (Kd.R_mono aE.out (fun _ hk => ⟨hk.1.2, ⟨hk.2, ⟨hk.1.1.1, hk.1.1.2⟩⟩⟩))), (kr (Kd.R_mono aW.out (fun _ hk => ⟨hk.2, hk.1⟩))), (kr (Kd.R_mono aD.out (fun _ hk => ⟨hk.1.2, ⟨hk.2, ⟨hk.1.1.1, hk.1.1.2⟩⟩⟩))), (bk aC.out), (bk aA.out), (bk aG.out), (bk aH.out), (bk aJ.out), (bk bK.out), fW.out, fX.out, dL.out, dM.out, dN.out, dO.out, dP.out, dQ.out, dR.out, dS.out, dF.out, dG.out, (bl HB.out)⟩)
       ·skip
        refine box_step ?hg (N := 14) ?hd (cs := #[.int .i64 0, .slice none 0 0]) (t := 28) ?hr ?_; (case hd => rfl); (case hg => rfl); (case hr => first | (go_simp; done) | (go_simp; rfl))
        intro cA hg lW hbox hb
        have bK := aM (hbox)
        have fW := gF hg HB
        have fX := gF hg HB
        have dL := nM hg aC
        have dM := nH hg aC
        have dN := nM hg aA
        have dO := nH hg aA
        have dP := nM hg aG
        have dQ := nH hg aG
        have dR := nM hg aH
        have dS := nH hg aH
        have dF := nM hg aJ
        have dG := nH hg aJ
        replace aW := rK aW hb
        replace aK := rK aK hb
        replace aI := rK aI hb
        replace aE := rK aE hb
        replace aD := rK aD hb
        replace bJ := rK bJ hb
        replace aC := rB aC hb
        replace aA := rB aA hb
        replace aG := rB aG hb
        replace aH := rB aH hb
        replace aJ := rB aJ hb
        replace HB := rS HB hb
        clear hb hbox hg
        refine hK.out _ _ ⟨cI aC.out 0, cI aC.out 1, cI aA.out 0, cI aA.out 1, cI aA.out 2, cI aA.out 3, cI aA.out 4, cI aA.out 5, cI aA.out 6, cI aA.out 7⟩ (fun hHeld => ?_)
        clear hK K
        refine norm_ (a' := ?_) ?_ ?_
        rotate_left
        ·show Act.put _ (some 14) _ = _
         simp only [Act.put, sA, sZ, sS, i64_w, i32_w]
         rfl
        refine one_ (i := 3) (N := some 93) (bv 11 271) rfl rfl (one_of HT_.out (by kernel_rfl)) (by decide) (fun K hK => ?_)
        refine goes_ Try.func55 (by kernel_rfl) rfl #[.agg #[bM, bN, bO, bP, bQ, bT, bU, bV]] (by rfl) rfl rfl xR ?_
        with_reducible refine (Z44.calls bM bN bO bP bQ bT bU bV fA fB fC fD fE fF fG fH _ jU.out).mono ?_
        rintro e lX ⟨rfl, hb⟩
        refine ⟨_, rfl, ?_⟩
        replace aW := rK aW hb
        replace aK := rK aK hb
        replace aI := rK aI hb
        replace aE := rK aE hb
        replace aD := rK aD hb
        replace bJ := rK bJ hb
        replace aC := rB aC hb
        replace aA := rB aA hb
        replace aG := rB aG hb
        replace aH := rB aH hb
        replace aJ := rB aJ hb
        replace bK := rB bK hb
        replace HB := rS HB hb
        (try clear hb)
        (try clear hb2)
        (try clear hk)
        (try clear hi)
        obtain ⟨fY, gA, gB⟩ := Kd.R_slice bJ.out
        (first | subst gB | (injection gB with f1_ f2_ f3_; have f4_ := f1_.symm; have f5_ := f3_.symm; clear f1_ f2_ f3_; subst f4_; subst f5_))
        refine hK.out _ _ ⟨cI aC.out 0, cI aC.out 1, cI aA.out 0, cI aA.out 1, cI aA.out 2, cI aA.out 3, cI aA.out 4, cI aA.out 5, cI aA.out 6, cI aA.out 7⟩ (fun hHeld => ?_)
        clear hK K
        refine norm_ (a' := ?_) ?_ ?_
        rotate_left
        ·show Act.put _ (some 93) _ = _
         simp only [Act.put, sA, sZ, sS, i64_w, i32_w]
         rfl
        refine one_ (i := 4) (N := some 94) (bv 11 287) rfl rfl (one_of HT_.out (by kernel_rfl)) (by decide) (fun K hK => ?_)
        refine goes_ Try.func53 (by kernel_rfl) rfl #[.agg #[fM, .slice fY eI.length gA], .agg #[fA, fB, fC, fD, fE, fF, fG, fH]] (by rfl) rfl rfl xR ?_
        with_reducible refine (Z35.calls dK fM _ _ eI fA fB fC fD fE fF fG fH eA dI hO _ ?side1 ?side2 jE.out).mono ?_
        (case side1 => exact cM ((Kd.R_reads' bJ.out).2.2))
        (case side2 => exact (Kd.R_reads' bJ.out).2.1)
        rintro e jV ⟨eO, fN, rfl, ho0, ho1, hb⟩
        refine ⟨_, rfl, ?_⟩
        have dX := aM (Kd.R_lower (Kd.R_new' (Kd.R_new' (Kd.R_new' (Kd.R_new' ho0 (Kd.R_lt (kr aI.out))) (Kd.R_lt (kr aE.out))) (Kd.R_lt (kr aD.out))) (Kd.R_lt (kr bJ.out))) (below_size (bl HB.out)))
        have dZ := aM (Kd.R_lower (Kd.R_new' (Kd.R_new' ho1 (Kd.R_lt (kr aW.out))) (Kd.R_lt (kr aK.out))) (below_size (bl HB.out)))
        replace aW := aM (Kd.R_elder' (kr aW.out) (Kd.R_base ho1) hb)
        replace aK := aM (Kd.R_elder' (kr aK.out) (Kd.R_base ho1) hb)
        replace aI := aM (Kd.R_elder' (kr aI.out) (Kd.R_base ho0) hb)
        replace aE := aM (Kd.R_elder' (kr aE.out) (Kd.R_base ho0) hb)
        replace aD := aM (Kd.R_elder' (kr aD.out) (Kd.R_base ho0) hb)
        replace bJ := aM (Kd.R_elder' (kr bJ.out) (Kd.R_base ho0) hb)
        replace aC := rB aC hb
        replace aA := rB aA hb
        replace aG := rB aG hb
        replace aH := rB aH hb
        replace aJ := rB aJ hb
        replace bK := rB bK hb
        replace HB := rS HB hb
        (try clear hb)
        (try clear hb2)
        (try clear hk)
        (try clear hi)
        (try clear ho0)
        (try clear ho1)
        refine hK.out _ _ ⟨cI aC.out 0, cI aC.out 1, cI aA.out 0, cI aA.out 1, cI aA.out 2, cI aA.out 3, cI aA.out 4, cI aA.out 5, cI aA.out 6, cI aA.out 7⟩ (fun hHeld => ?_)
        clear hK K
        refine norm_ (a' := ?_) ?_ ?_
        rotate_left
        ·show Act.put _ (some 94) _ = _
         simp only [Act.put, sA, sZ, sS, i64_w, i32_w]
         rfl
        refine pZ 5 89 (bv 11 319) HT_ ?_
        refine pZ 6 95 (bv 11 383) HT_ ?_
        refine pZ 7 96 (bv 11 511) HT_ ?_
        exact norm_ (by simp only [putAll, Act.put, sA, sZ, sS]) (hCont (.slice fY eI.length gA, eO, fN, cA) _ ⟨hHeld, (kr (Kd.R_mono bJ.out (fun _ hk => ⟨hk.2, ⟨hk.1.1.1.2, ⟨hk.1.1.2, hk.1.2⟩⟩⟩))), (kr (Kd.R_mono dX.out (fun _ hk => ⟨hk.2, ⟨hk.1.1.1.2, ⟨hk.1.1.2, hk.1.2⟩⟩⟩))), (kr (Kd.R_mono dZ.out (fun _ hk => ⟨hk.2, hk.1.2⟩))), (kr (Kd.R_mono aK.out (fun _ hk => ⟨hk.2, hk.1⟩))), (kr (Kd.R_mono aI.out (fun _ hk => ⟨hk.1.2, ⟨hk.2, ⟨hk.1.1.1, hk.1.1.2⟩⟩⟩))), (kr (Kd.R_mono aE.out (fun _ hk => ⟨hk.1.2, ⟨hk.2, ⟨hk.1.1.1, hk.1.1.2⟩⟩⟩))), (kr (Kd.R_mono aW.out (fun _ hk => ⟨hk.2, hk.1⟩))), (kr (Kd.R_mono aD.out (fun _ hk => ⟨hk.1.2, ⟨hk.2, ⟨hk.1.1.1, hk.1.1.2⟩⟩⟩))), (bk aC.out), (bk aA.out), (bk aG.out), (bk aH.out), (bk aJ.out), (bk bK.out), fW.out, fX.out, dL.out, dM.out, dN.out, dO.out, dP.out, dQ.out, dR.out, dS.out, dF.out, dG.out, (bl HB.out)⟩)
      ·skip
       refine box_step ?hg (N := 14) ?hd (cs := #[.int .i64 0, .slice none 0 0]) (t := 28) ?hr ?_; (case hd => rfl); (case hg => rfl); (case hr => first | (go_simp; done) | (go_simp; rfl))
       intro cA hg nC hbox hb
       have bK := aM (hbox)
       have fW := gF hg HB
       have fX := gF hg HB
       have dL := nM hg aC
       have dM := nH hg aC
       have dN := nM hg aA
       have dO := nH hg aA
       have dP := nM hg aG
       have dQ := nH hg aG
       have dR := nM hg aH
       have dS := nH hg aH
       have dF := nM hg aJ
       have dG := nH hg aJ
       replace aW := rK aW hb
       replace aK := rK aK hb
       replace aI := rK aI hb
       replace aE := rK aE hb
       replace aD := rK aD hb
       replace aC := rB aC hb
       replace aA := rB aA hb
       replace aG := rB aG hb
       replace aH := rB aH hb
       replace aJ := rB aJ hb
       replace HB := rS HB hb
       clear hb hbox hg
       refine hK.out _ _ ⟨cI aC.out 0, cI aC.out 1, cI aA.out 0, cI aA.out 1, cI aA.out 2, cI aA.out 3, cI aA.out 4, cI aA.out 5, cI aA.out 6, cI aA.out 7⟩ (fun hHeld => ?_)
       clear hK K
       refine norm_ (a' := ?_) ?_ ?_
       rotate_left
       ·show Act.put _ (some 14) _ = _
        simp only [Act.put, sA, sZ, sS, i64_w, i32_w]
        rfl
       refine one_ (i := 1) (N := some 91) (bv 11 263) rfl rfl (one_of HT_.out (by kernel_rfl)) (by decide) (fun K hK => ?_)
       refine goes_ Try.func14 (by kernel_rfl) rfl #[.agg #[bL, .slice cY bH.length dA]] (by rfl) rfl rfl xR ?_
       with_reducible refine (Z33.calls dK bL _ _ bH fM eI _ ?side1 ?side2 lV.out).mono ?_
       (case side1 => exact cM (cB fO.out HB.out))
       (case side2 => exact fP.out)
       rintro e lW ⟨gV, rfl, ho0, hb⟩
       refine ⟨_, rfl, ?_⟩
       have bJ := aM (Kd.R_lower (Kd.R_new' (Kd.R_new' (Kd.R_new' ho0 (Kd.R_lt (kr aI.out))) (Kd.R_lt (kr aE.out))) (Kd.R_lt (kr aD.out))) (below_size (bl HB.out)))
       replace aW := rK aW hb
       replace aK := rK aK hb
       replace aI := aM (Kd.R_elder' (kr aI.out) (Kd.R_base ho0) hb)
       replace aE := aM (Kd.R_elder' (kr aE.out) (Kd.R_base ho0) hb)
       replace aD := aM (Kd.R_elder' (kr aD.out) (Kd.R_base ho0) hb)
       replace aC := rB aC hb
       replace aA := rB aA hb
       replace aG := rB aG hb
       replace aH := rB aH hb
       replace aJ := rB aJ hb
       replace bK := rB bK hb
       replace HB := rS HB hb
       (try clear hb)
       (try clear hb2)
       (try clear hk)
       (try clear hi)
       (try clear ho0)
       refine hK.out _ _ ⟨cI aC.out 0, cI aC.out 1, cI aA.out 0, cI aA.out 1, cI aA.out 2, cI aA.out 3, cI aA.out 4, cI aA.out 5, cI aA.out 6, cI aA.out 7⟩ (fun hHeld => ?_)
       clear hK K
       refine norm_ (a' := ?_) ?_ ?_
       rotate_left
       ·show Act.put _ (some 91) _ = _
        simp only [Act.put, sA, sZ, sS, i64_w, i32_w]
        rfl
       refine one_ (i := 3) (N := some 93) (bv 11 271) rfl rfl (one_of HT_.out (by kernel_rfl)) (by decide) (fun K hK => ?_)
       refine goes_ Try.func55 (by kernel_rfl) rfl #[.agg #[bM, bN, bO, bP, bQ, bT, bU, bV]] (by rfl) rfl rfl xR ?_
       with_reducible refine (Z44.calls bM bN bO bP bQ bT bU bV fA fB fC fD fE fF fG fH _ jU.out).mono ?_
       rintro e lX ⟨rfl, hb⟩
       refine ⟨_, rfl, ?_⟩
       replace aW := rK aW hb
       replace aK := rK aK hb
       replace aI := rK aI hb
       replace aE := rK aE hb
       replace aD := rK aD hb
       replace bJ := rK bJ hb
       replace aC := rB aC hb
       replace aA := rB aA hb
       replace aG := rB aG hb
       replace aH := rB aH hb
       replace aJ := rB aJ hb
       replace bK := rB bK hb
       replace HB := rS HB hb
       (try clear hb)
       (try clear hb2)
       (try clear hk)
       (try clear hi)
       obtain ⟨fY, gA, gB⟩ := Kd.R_slice bJ.out
       (first | subst gB | (injection gB with f1_ f2_ f3_; have f4_ := f1_.symm; have f5_ := f3_.symm; clear f1_ f2_ f3_; subst f4_; subst f5_))
       refine hK.out _ _ ⟨cI aC.out 0, cI aC.out 1, cI aA.out 0, cI aA.out 1, cI aA.out 2, cI aA.out 3, cI aA.out 4, cI aA.out 5, cI aA.out 6, cI aA.out 7⟩ (fun hHeld => ?_)
       clear hK K
       refine norm_ (a' := ?_) ?_ ?_
       rotate_left
       ·show Act.put _ (some 93) _ = _
        simp only [Act.put, sA, sZ, sS, i64_w, i32_w]
        rfl
       refine one_ (i := 4) (N := some 94) (bv 11 287) rfl rfl (one_of HT_.out (by kernel_rfl)) (by decide) (fun K hK => ?_)
       refine goes_ Try.func53 (by kernel_rfl) rfl #[.agg #[fM, .slice fY eI.length gA], .agg #[fA, fB, fC, fD, fE, fF, fG, fH]] (by rfl) rfl rfl xR ?_
       with_reducible refine (Z35.calls dK fM _ _ eI fA fB fC fD fE fF fG fH eA dI hO _ ?side1 ?side2 jE.out).mono ?_
       (case side1 => exact cM ((Kd.R_reads' bJ.out).2.2))
       (case side2 => exact (Kd.R_reads' bJ.out).2.1)
       rintro e jV ⟨eO, fN, rfl, ho0, ho1, hb⟩
       refine ⟨_, rfl, ?_⟩
       have dX := aM (Kd.R_lower (Kd.R_new' (Kd.R_new' (Kd.R_new' (Kd.R_new' ho0 (Kd.R_lt (kr aI.out))) (Kd.R_lt (kr aE.out))) (Kd.R_lt (kr aD.out))) (Kd.R_lt (kr bJ.out))) (below_size (bl HB.out)))
       have dZ := aM (Kd.R_lower (Kd.R_new' (Kd.R_new' ho1 (Kd.R_lt (kr aW.out))) (Kd.R_lt (kr aK.out))) (below_size (bl HB.out)))
       replace aW := aM (Kd.R_elder' (kr aW.out) (Kd.R_base ho1) hb)
       replace aK := aM (Kd.R_elder' (kr aK.out) (Kd.R_base ho1) hb)
       replace aI := aM (Kd.R_elder' (kr aI.out) (Kd.R_base ho0) hb)
       replace aE := aM (Kd.R_elder' (kr aE.out) (Kd.R_base ho0) hb)
       replace aD := aM (Kd.R_elder' (kr aD.out) (Kd.R_base ho0) hb)
       replace bJ := aM (Kd.R_elder' (kr bJ.out) (Kd.R_base ho0) hb)
       replace aC := rB aC hb
       replace aA := rB aA hb
       replace aG := rB aG hb
       replace aH := rB aH hb
       replace aJ := rB aJ hb
       replace bK := rB bK hb
       replace HB := rS HB hb
       (try clear hb)
       (try clear hb2)
       (try clear hk)
       (try clear hi)
       (try clear ho0)
       (try clear ho1)
       refine hK.out _ _ ⟨cI aC.out 0, cI aC.out 1, cI aA.out 0, cI aA.out 1, cI aA.out 2, cI aA.out 3, cI aA.out 4, cI aA.out 5, cI aA.out 6, cI aA.out 7⟩ (fun hHeld => ?_)
       clear hK K
       refine norm_ (a' := ?_) ?_ ?_
       rotate_left
       ·show Act.put _ (some 94) _ = _
        simp only [Act.put, sA, sZ, sS, i64_w, i32_w]
        rfl
       refine pZ 5 89 (bv 11 319) HT_ ?_
       refine pZ 6 95 (bv 11 383) HT_ ?_
       refine pZ 7 96 (bv 11 511) HT_ ?_
       exact norm_ (by simp only [putAll, Act.put, sA, sZ, sS]) (hCont (.slice fY eI.length gA, eO, fN, cA) _ ⟨hHeld, (kr (Kd.R_mono bJ.out (fun _ hk => ⟨hk.2, ⟨hk.1.1.1.2, ⟨hk.1.1.2, hk.1.2⟩⟩⟩))), (kr (Kd.R_mono dX.out (fun _ hk => ⟨hk.2, ⟨hk.1.1.1.2, ⟨hk.1.1.2, hk.1.2⟩⟩⟩))), (kr (Kd.R_mono dZ.out (fun _ hk => ⟨hk.2, hk.1.2⟩))), (kr (Kd.R_mono aK.out (fun _ hk => ⟨hk.2, hk.1⟩))), (kr (Kd.R_mono aI.out (fun _ hk => ⟨hk.1.2, ⟨hk.2, ⟨hk.1.1.1, hk.1.1.2⟩⟩⟩))), (kr (Kd.R_mono aE.out (fun _ hk => ⟨hk.1.2, ⟨hk.2, ⟨hk.1.1.1, hk.1.1.2⟩⟩⟩))), (kr (Kd.R_mono aW.out (fun _ hk => ⟨hk.2, hk.1⟩))), (kr (Kd.R_mono aD.out (fun _ hk => ⟨hk.1.2, ⟨hk.2, ⟨hk.1.1.1, hk.1.1.2⟩⟩⟩))), (bk aC.out), (bk aA.out), (bk aG.out), (bk aH.out), (bk aJ.out), (bk bK.out), fW.out, fX.out, dL.out, dM.out, dN.out, dO.out, dP.out, dQ.out, dR.out, dS.out, dF.out, dG.out, (bl HB.out)⟩)
     rintro ⟨gV, eO, fN, cA⟩ dU ⟨hS_, h0_, h1_, h2_, h3_, h4_, h5_, h6_, h7_, h8_, h9_, h10_, h11_, h12_, h13_, h14_, h15_, h16_, h17_, h18_, h19_, h20_, h21_, h22_, h23_, h24_, h25_, h26_⟩
     have bJ : Aside0 (Kd.R k79 79 dU w.heap.size (fun k_ => some k_ ≠ (eO : Value).ownBlock ∧ some k_ ≠ (.slice bY aT.length bW : Value).ownBlock ∧ some k_ ≠ (.slice bD dH.length bG : Value).ownBlock ∧ some k_ ≠ (.slice cG aV.length cE : Value).ownBlock) gV eI) := ⟨h0_⟩
     have dX : Aside0 (Kd.R k79 79 dU w.heap.size (fun k_ => some k_ ≠ (gV : Value).ownBlock ∧ some k_ ≠ (.slice bY aT.length bW : Value).ownBlock ∧ some k_ ≠ (.slice bD dH.length bG : Value).ownBlock ∧ some k_ ≠ (.slice cG aV.length cE : Value).ownBlock) eO dI) := ⟨h1_⟩
     have dZ : Aside0 (Kd.R k151 151 dU w.heap.size (fun k_ => some k_ ≠ (.slice eF cL.length eG : Value).ownBlock ∧ some k_ ≠ (dJ : Value).ownBlock) fN hO) := ⟨h2_⟩
     have bK : Aside0 (dU.heap[cA]? = some (.cells #[.int .i64 0, .slice none 0 0] 28 (0, 0))) := ⟨h13_⟩
     have fW : Aside0 (w.heap.size ≤ cA) := ⟨h14_⟩
     have fX : Aside0 (w.heap.size ≤ cA) := ⟨h15_⟩
     have dL : Aside0 (cH ≠ cA) := ⟨h16_⟩
     have dM : Aside0 (cA ≠ cH) := ⟨h17_⟩
     have dN : Aside0 (aQ ≠ cA) := ⟨h18_⟩
     have dO : Aside0 (cA ≠ aQ) := ⟨h19_⟩
     have dP : Aside0 (cC ≠ cA) := ⟨h20_⟩
     have dQ : Aside0 (cA ≠ cC) := ⟨h21_⟩
     have dR : Aside0 (cN ≠ cA) := ⟨h22_⟩
     have dS : Aside0 (cA ≠ cN) := ⟨h23_⟩
     have dF : Aside0 (bZ ≠ cA) := ⟨h24_⟩
     have dG : Aside0 (cA ≠ bZ) := ⟨h25_⟩
     replace aK : Aside0 (Kd.R k151 151 dU w.heap.size (fun k_ => some k_ ≠ (fN : Value).ownBlock ∧ some k_ ≠ (dJ : Value).ownBlock) (.slice eF cL.length eG) eN) := ⟨h3_⟩
     replace aI : Aside0 (Kd.R k79 79 dU w.heap.size (fun k_ => some k_ ≠ (gV : Value).ownBlock ∧ some k_ ≠ (eO : Value).ownBlock ∧ some k_ ≠ (.slice bD dH.length bG : Value).ownBlock ∧ some k_ ≠ (.slice cG aV.length cE : Value).ownBlock) (.slice bY aT.length bW) aT) := ⟨h4_⟩
     replace aE : Aside0 (Kd.R k79 79 dU w.heap.size (fun k_ => some k_ ≠ (gV : Value).ownBlock ∧ some k_ ≠ (eO : Value).ownBlock ∧ some k_ ≠ (.slice bY aT.length bW : Value).ownBlock ∧ some k_ ≠ (.slice cG aV.length cE : Value).ownBlock) (.slice bD dH.length bG) dH) := ⟨h5_⟩
     replace aW : Aside0 (Kd.R k151 151 dU w.heap.size (fun k_ => some k_ ≠ (fN : Value).ownBlock ∧ some k_ ≠ (.slice eF cL.length eG : Value).ownBlock) dJ cO) := ⟨h6_⟩
     replace aD : Aside0 (Kd.R k79 79 dU w.heap.size (fun k_ => some k_ ≠ (gV : Value).ownBlock ∧ some k_ ≠ (eO : Value).ownBlock ∧ some k_ ≠ (.slice bY aT.length bW : Value).ownBlock ∧ some k_ ≠ (.slice bD dH.length bG : Value).ownBlock) (.slice cG aV.length cE) eM) := ⟨h7_⟩
     replace aC : Aside0 (dU.heap[cH]? = some (.cells #[bL, .slice cY bH.length dA] 24 (0, 0))) := ⟨h8_⟩
     replace aA : Aside0 (dU.heap[aQ]? = some (.cells #[bM, bN, bO, bP, bQ, bT, bU, bV] 92 (0, 0))) := ⟨h9_⟩
     replace aG : Aside0 (dU.heap[cC]? = some (.cells #[cK, .slice bY aT.length bW] 28 (0, 0))) := ⟨h10_⟩
     replace aH : Aside0 (dU.heap[cN]? = some (.cells #[cP, .slice bD dH.length bG] 28 (0, 0))) := ⟨h11_⟩
     replace aJ : Aside0 (dU.heap[bZ]? = some (.cells #[cD, .slice cG aV.length cE] 28 (0, 0))) := ⟨h12_⟩
     replace HB : Aside0 (Below w.heap.size w dU) := ⟨h26_⟩
     clear h0_ h1_ h2_ h3_ h4_ h5_ h6_ h7_ h8_ h9_ h10_ h11_ h12_ h13_ h14_ h15_ h16_ h17_ h18_ h19_ h20_ h21_ h22_ h23_ h24_ h25_ h26_
     have hHeld : dU.cell? ⟨cH, 0, none⟩ = some bL ∧ dU.cell? ⟨cH, 1, none⟩ = some (.slice cY bH.length dA) ∧ dU.cell? ⟨aQ, 0, none⟩ = some bM ∧ dU.cell? ⟨aQ, 1, none⟩ = some bN ∧ dU.cell? ⟨aQ, 2, none⟩ = some bO ∧ dU.cell? ⟨aQ, 3, none⟩ = some bP ∧ dU.cell? ⟨aQ, 4, none⟩ = some bQ ∧ dU.cell? ⟨aQ, 5, none⟩ = some bT ∧ dU.cell? ⟨aQ, 6, none⟩ = some bU ∧ dU.cell? ⟨aQ, 7, none⟩ = some bV := hS_
     obtain ⟨dY, dV, kM⟩ := Kd.R_slice dX.out
     (first | subst kM | (injection kM with f1_ f2_ f3_; have f4_ := f1_.symm; have f5_ := f3_.symm; clear f1_ f2_ f3_; subst f4_; subst f5_))
     refine norm_ (a' := ?_) ?_ ?_
     rotate_left
     ·simp only [putAll, Act.put, sA, sZ, sS]
      rfl
     refine one_ (i := 9) (N := none) (bv 11 1023) rfl rfl (one_of HT_.out (by kernel_rfl)) (by decide) (fun K hK => ?_)
     have tG := cI bK.out 0
     have hfs168 := bF bK.out 0
     have hns168_0 := dL.out
     have hns168_1 := dN.out
     have hns168_2 := dP.out
     have hns168_3 := dR.out
     have hns168_4 := dF.out
     have hms168_0 := dM.out
     have hms168_1 := dO.out
     have hms168_2 := dQ.out
     have hms168_3 := dS.out
     have hms168_4 := dG.out
     have tH := cI bK.out 1
     have hfs170 := bF bK.out 1
     have hns170_0 := dL.out
     have hns170_1 := dN.out
     have hns170_2 := dP.out
     have hns170_3 := dR.out
     have hns170_4 := dF.out
     have hms170_0 := dM.out
     have hms170_1 := dO.out
     have hms170_2 := dQ.out
     have hms170_3 := dS.out
     have hms170_4 := dG.out
     refine skip_ (w1 := ?_) (by rfl) rfl ?_ ?_
     rotate_left
     ·go_simp
      rfl
     refine hK.out _ _ ⟨(cm (hHeld.1)), (cm (hHeld.2.1)), (cm (hHeld.2.2.1)), (cm (hHeld.2.2.2.1)), (cm (hHeld.2.2.2.2.1)), (cm (hHeld.2.2.2.2.2.1)), (cm (hHeld.2.2.2.2.2.2.1)), (cm (hHeld.2.2.2.2.2.2.2.1)), (cm (hHeld.2.2.2.2.2.2.2.2.1)), (cm (hHeld.2.2.2.2.2.2.2.2.2))⟩ (fun hHeld => ?_)
     clear hK K
     refine pZ 10 15 (bv 11 2047) HT_ ?_
     refine done_ (done_of HT_.out (by kernel_rfl)) ?_
     go_upto_region 29 with (fail)
     go_cut [106] (fun nD wc => ∃ (kq : Nat) (gW : Bool), nD = .bool gW ∧ Aside0 (Z2.j2 kq eN eJ gW cD eM = some true) ∧ Aside0 (kq ≤ dK) ∧ Aside0 (Kd.R k151 151 wc w.heap.size (fun _ => True) (.slice eF cL.length eG) eN) ∧ Aside0 (Kd.R k79 79 wc w.heap.size (fun k_ => some k_ ≠ ((.slice bD dH.length bG) : Value).ownBlock ∧ some k_ ≠ ((.slice cG aV.length cE) : Value).ownBlock ∧ some k_ ≠ ((.slice dY dI.length dV) : Value).ownBlock) (.slice bY aT.length bW) aT) ∧ Aside0 (Kd.R k79 79 wc w.heap.size (fun k_ => some k_ ≠ ((.slice bY aT.length bW) : Value).ownBlock ∧ some k_ ≠ ((.slice cG aV.length cE) : Value).ownBlock ∧ some k_ ≠ ((.slice dY dI.length dV) : Value).ownBlock) (.slice bD dH.length bG) dH) ∧ Aside0 (Kd.R k79 79 wc w.heap.size (fun k_ => some k_ ≠ ((.slice bY aT.length bW) : Value).ownBlock ∧ some k_ ≠ ((.slice bD dH.length bG) : Value).ownBlock ∧ some k_ ≠ ((.slice dY dI.length dV) : Value).ownBlock) (.slice cG aV.length cE) eM) ∧ Aside0 (Kd.R k79 79 wc w.heap.size (fun k_ => some k_ ≠ ((.slice bY aT.length bW) : Value).ownBlock ∧ some k_ ≠ ((.slice bD dH.length bG) : Value).ownBlock ∧ some k_ ≠ ((.slice cG aV.length cE) : Value).ownBlock) (.slice dY dI.length dV) dI) ∧ Aside0 (wc.heap[cH]? = some (.cells #[bL, (.slice cY bH.length dA)] 24 (0, 0))) ∧ Aside0 (wc.heap[aQ]? = some (.cells #[bM, bN, bO, bP, bQ, bT, bU, bV] 92 (0, 0))) ∧ Aside0 (wc.heap[cC]? = some (.cells #[cK, (.slice bY aT.length bW)] 28 (0, 0))) ∧ Aside0 (wc.heap[cN]? = some (.cells #[cP, (.slice bD dH.length bG)] 28 (0, 0))) ∧ Aside0 (wc.heap[bZ]? = some (.cells #[cD, (.slice cG aV.length cE)] 28 (0, 0))) ∧ Aside0 (wc.heap[cA]? = some (.cells #[eA, (.slice dY dI.length dV)] 28 (0, 0))) ∧ Aside0 (Below w.heap.size w wc))
     case first =>
      have H := jF.out
      clear jF
      obtain ⟨jS, kN, H⟩ := hB H
      have nE := aM kN
      clear kN
      by_cases iY : jS = true
      case neg =>
       replace iY := Bool.eq_false_iff.mpr iY
       subst iY
       have H1 : (Z2.j2 dK eN eJ true cD eM) = some true := by first | (rw [if_neg (show ¬ (false = true) by decide)] at H; exact H) | (rw [if_neg (show ¬ (false = true) by decide)] at H)
       clear H
       have H := H1
       clear H1
       exact absurd H (Z2.j2_no _ _ _ _ _)
      subst iY
      have H1 : ((Z14.f dK hO cO).bind fun iI => (Z2.j2 dK eN eJ (!iI) cD eM)) = some true := by first | (rw [if_pos rfl] at H; exact H) | (rw [if_pos rfl] at H)
      clear H
      have H := H1
      clear H1
      obtain ⟨iI, kO, H⟩ := hB H
      have nF := aM kO
      clear kO
      have H' := aM H
      clear H
      have pL := dM.out
      have pM := dL.out
      have pN := dO.out
      have pO := dN.out
      have pP := dQ.out
      have pQ := dP.out
      have pR := dS.out
      have pS := dR.out
      have pT := dG.out
      have pV := dF.out
      have pW := cA2 bK.out
      have pX := cR.out
      have qA := cQ.out
      have qC := cT.out
      have qD := cS.out
      have qE := eQ.out
      have qF := eR.out
      have qG := cU.out
      have qH := cV.out
      have qI := cA2 aG.out
      go_wp2_with (first | ((with_reducible refine gC (f := 16) rfl ?_); refine gL (some 99) Try.func16 #[.agg #[eA, .slice dY dI.length dV], .agg #[cK, .slice bY aT.length bW]] ?_; (with_reducible refine (Z34.calls dK eA _ _ dI cK _ _ aT true _ ?side1 ?side2 ?side3 ?side4 nE.out).mono ?_); (case side1 => refine (Kd.R_reads' (e := 79) (base := w.heap.size) (ok := fun k_ => (some k_ ≠ (gV : Value).ownBlock ∧ (some k_ ≠ (.slice bY aT.length bW : Value).ownBlock ∧ (some k_ ≠ (.slice bD dH.length bG : Value).ownBlock ∧ some k_ ≠ (.slice cG aV.length cE : Value).ownBlock)))) (n := dI.length) (c := dV) ?_).2.2; exact (kr (Kd.R_mono (kF (p := ⟨cA, 1, none⟩) (kF (p := ⟨cA, 0, none⟩) (Kd.R_types dX.out bK.out (by decide)) (fun _ hk => hk.2) (.int .i64 eA)) (fun _ hk => hk.2) (.slice dY dI.length dV)) (fun _ h_ => h_.1)))); (case side2 => exact (Kd.R_reads' dX.out).2.1); (case side3 => refine (Kd.R_reads' (e := 79) (base := w.heap.size) (ok := fun k_ => (some k_ ≠ (gV : Value).ownBlock ∧ (some k_ ≠ (.slice dY dI.length dV : Value).ownBlock ∧ (some k_ ≠ (.slice bD dH.length bG : Value).ownBlock ∧ some k_ ≠ (.slice cG aV.length cE : Value).ownBlock)))) (n := aT.length) (c := bW) ?_).2.2; exact (kr (Kd.R_mono (kF (p := ⟨cA, 1, none⟩) (kF (p := ⟨cA, 0, none⟩) (Kd.R_types aI.out bK.out (by decide)) (fun _ hk => hk.2) (.int .i64 eA)) (fun _ hk => hk.2) (.slice dY dI.length dV)) (fun _ h_ => h_.1)))); (case side4 => exact (Kd.R_reads' aI.out).2.1); rintro e uU ⟨rfl, hb⟩; refine ⟨_, rfl, ?_⟩; replace aW := aM (kB (kr (Kd.R_mono (kF (p := ⟨cA, 1, none⟩) (kF (p := ⟨cA, 0, none⟩) (Kd.R_types aW.out bK.out (by decide)) (fun _ hk => hk.2) (.int .i64 eA)) (fun _ hk => hk.2) (.slice dY dI.length dV)) (fun _ h_ => h_.1))) hb); replace aK := aM (kB (kr (Kd.R_mono (kF (p := ⟨cA, 1, none⟩) (kF (p := ⟨cA, 0, none⟩) (Kd.R_types aK.out bK.out (by decide)) (fun _ hk => hk.2) (.int .i64 eA)) (fun _ hk => hk.2) (.slice dY dI.length dV)) (fun _ h_ => h_.1))) hb); replace aI := aM (kB (kr (Kd.R_mono (kF (p := ⟨cA, 1, none⟩) (kF (p := ⟨cA, 0, none⟩) (Kd.R_types aI.out bK.out (by decide)) (fun _ hk => hk.2) (.int .i64 eA)) (fun _ hk => hk.2) (.slice dY dI.length dV)) (fun _ h_ => h_.1))) hb); replace aE := aM (kB (kr (Kd.R_mono (kF (p := ⟨cA, 1, none⟩) (kF (p := ⟨cA, 0, none⟩) (Kd.R_types aE.out bK.out (by decide)) (fun _ hk => hk.2) (.int .i64 eA)) (fun _ hk => hk.2) (.slice dY dI.length dV)) (fun _ h_ => h_.1))) hb); replace aD := aM (kB (kr (Kd.R_mono (kF (p := ⟨cA, 1, none⟩) (kF (p := ⟨cA, 0, none⟩) (Kd.R_types aD.out bK.out (by decide)) (fun _ hk => hk.2) (.int .i64 eA)) (fun _ hk => hk.2) (.slice dY dI.length dV)) (fun _ h_ => h_.1))) hb); replace bJ := aM (kB (kr (Kd.R_mono (kF (p := ⟨cA, 1, none⟩) (kF (p := ⟨cA, 0, none⟩) (Kd.R_types bJ.out bK.out (by decide)) (fun _ hk => hk.2) (.int .i64 eA)) (fun _ hk => hk.2) (.slice dY dI.length dV)) (fun _ h_ => h_.1))) hb); replace dX := aM (kB (kr (Kd.R_mono (kF (p := ⟨cA, 1, none⟩) (kF (p := ⟨cA, 0, none⟩) (Kd.R_types dX.out bK.out (by decide)) (fun _ hk => hk.2) (.int .i64 eA)) (fun _ hk => hk.2) (.slice dY dI.length dV)) (fun _ h_ => h_.1))) hb); replace dZ := aM (kB (kr (Kd.R_mono (kF (p := ⟨cA, 1, none⟩) (kF (p := ⟨cA, 0, none⟩) (Kd.R_types dZ.out bK.out (by decide)) (fun _ hk => hk.2) (.int .i64 eA)) (fun _ hk => hk.2) (.slice dY dI.length dV)) (fun _ h_ => h_.1))) hb); replace aC := aM (bB (fm aC.out) hb); replace aA := aM (bB (fm aA.out) hb); replace aG := aM (bB (fm aG.out) hb); replace aH := aM (bB (fm aH.out) hb); replace aJ := aM (bB (fm aJ.out) hb); replace bK := aM (bB (g := cA) (o := .cells #[eA, .slice dY dI.length dV] 28 (0, 0)) (bm bK.out) hb); replace HB := rS HB hb; (try clear hb); obtain ⟨tI, tJ, mJ⟩ := Kd.R_slice dZ.out; subst mJ; obtain ⟨tK, tL, mK⟩ := Kd.R_slice aW.out; subst mK) | (go_at_call 56; (with_reducible refine (Z14.calls dK _ _ hO _ _ cO iI _ ?side1 ?side2 ?side3 ?side4 nF.out).mono ?_); (case side1 => exact cM ((Kd.R_reads' dZ.out).2.2)); (case side2 => exact (Kd.R_reads' dZ.out).2.1); (case side3 => exact cM ((Kd.R_reads' aW.out).2.2)); (case side4 => exact (Kd.R_reads' aW.out).2.1); rintro e uV ⟨rfl, hb⟩; replace aW := rK aW hb; replace aK := rK aK hb; replace aI := rK aI hb; replace aE := rK aE hb; replace aD := rK aD hb; replace bJ := rK bJ hb; replace dX := rK dX hb; replace dZ := rK dZ hb; replace aC := rB aC hb; replace aA := rB aA hb; replace aG := rB aG hb; replace aH := rB aH hb; replace aJ := rB aJ hb; replace bK := rB bK hb; replace HB := rS HB hb; (try clear hb)))
      go_meet
      case rel => exact ⟨_, (!iI), xE, H', ⟨by have := HJ15.out; have := HJ80.out; first | omega | exact Nat.le_refl _⟩, ⟨by (try simp only [hl692001_80]); (with_reducible repeat (first | apply Kd.R_alloc | apply Kd.R_drewN | apply Kd.R_drew)); exact Kd.R_mono aK.out (fun _ hk => trivial)⟩, ⟨by (try simp only [hl692001_80]); (with_reducible repeat (first | apply Kd.R_alloc | apply Kd.R_drewN | apply Kd.R_drew)); exact Kd.R_mono aI.out (fun _ hk => ⟨hk.2.2.1, ⟨hk.2.2.2, hk.2.1⟩⟩)⟩, ⟨by (try simp only [hl692001_80]); (with_reducible repeat (first | apply Kd.R_alloc | apply Kd.R_drewN | apply Kd.R_drew)); exact Kd.R_mono aE.out (fun _ hk => ⟨hk.2.2.1, ⟨hk.2.2.2, hk.2.1⟩⟩)⟩, ⟨by (try simp only [hl692001_80]); (with_reducible repeat (first | apply Kd.R_alloc | apply Kd.R_drewN | apply Kd.R_drew)); exact Kd.R_mono aD.out (fun _ hk => ⟨hk.2.2.1, ⟨hk.2.2.2, hk.2.1⟩⟩)⟩, ⟨by (try simp only [hl692001_80]); (with_reducible repeat (first | apply Kd.R_alloc | apply Kd.R_drewN | apply Kd.R_drew)); exact Kd.R_mono dX.out (fun _ hk => ⟨hk.2.1, ⟨hk.2.2.1, hk.2.2.2⟩⟩)⟩, ⟨by (try simp only [hl692001_80]); exact bk aC.out⟩, ⟨by (try simp only [hl692001_80]); exact bk aA.out⟩, ⟨by (try simp only [hl692001_80]); exact bk aG.out⟩, ⟨by (try simp only [hl692001_80]); exact bk aH.out⟩, ⟨by (try simp only [hl692001_80]); exact bk aJ.out⟩, ⟨by (try simp only [hl692001_80]); exact bk bK.out⟩, ⟨bl HB.out⟩⟩
     case rest =>
      clear jF
      repeat first|clear c1|clear p2|clear c5|clear oZ|clear mS|clear pA|clear wM|clear wN|clear mT|clear mU|clear iY|clear uW|clear uX|clear uY|clear uZ|clear vA|clear vB|clear vC|clear vD|clear vE|clear vF|clear vG|clear vH|clear vI|clear vJ|clear vK|clear vL|clear vM|clear vN
      obtain ⟨kq, gW, rfl, HA, HJ149, aK, aI, aE, aD, gG, aC, aA, aG, aH, aJ, bK, HB⟩ := hcut
      have hl10_149 := (Kd.R_reads' aK.out).1
      rw [hl10_149] at aK
      (try simp only [hl10_149])
      (try simp only [hl10_149] at aC)
      (try simp only [hl10_149] at aA)
      (try simp only [hl10_149] at aG)
      (try simp only [hl10_149] at aH)
      (try simp only [hl10_149] at aJ)
      (try simp only [hl10_149] at bK)
      (try simp only [hl10_149] at aI)
      (try simp only [hl10_149] at aE)
      (try simp only [hl10_149] at aD)
      (try simp only [hl10_149] at gG)
      have hl708001_149 := (Kd.R_reads' aD.out).1
      rw [hl708001_149] at aD
      (try simp only [hl708001_149])
      (try simp only [hl708001_149] at aC)
      (try simp only [hl708001_149] at aA)
      (try simp only [hl708001_149] at aG)
      (try simp only [hl708001_149] at aH)
      (try simp only [hl708001_149] at aJ)
      (try simp only [hl708001_149] at bK)
      (try simp only [hl708001_149] at aK)
      (try simp only [hl708001_149] at aI)
      (try simp only [hl708001_149] at aE)
      (try simp only [hl708001_149] at gG)
      cases kq with
      | zero => exact absurd HA.out (by simp [Z2.j2])
      | succ iT =>
       have H := HA.out
       clear HA
       simp only [Z2.j2] at H
       by_cases jH : gW = true
       case pos =>
        subst jH
        have H1 : (some false) = some true := by first | (rw [if_pos rfl] at H; exact H) | (rw [if_pos rfl] at H)
        clear H
        have H := H1
        clear H1
        exact absurd (Option.some.inj H) (by decide)
       replace jH := Bool.eq_false_iff.mpr jH
       subst jH
       have H1 : ((Z42.f iT cD eM 1).bind fun iD => (if iD < 0 then (some false) else ((Z23.f iT eN iD).bind fun gM => (if gM < 0 then (some false) else (if gM = eJ then (some true) else (some false)))))) = some true := by first | (rw [if_neg (show ¬ (false = true) by decide)] at H; exact H) | (rw [if_neg (show ¬ (false = true) by decide)] at H)
       clear H
       have H := H1
       clear H1
       obtain ⟨iD, kP, H⟩ := hB H
       have nI := aM kP
       clear kP
       by_cases iL : iD < 0
       case pos =>
        rw [if_pos iL] at H
        have lY := decide_eq_true iL
        clear iL
        exact absurd (Option.some.inj H) (by decide)
       rw [if_neg iL] at H
       have lY := decide_eq_false iL
       clear iL
       obtain ⟨gM, kQ, H⟩ := hB H
       have nJ := aM kQ
       clear kQ
       by_cases iM : gM < 0
       case pos =>
        rw [if_pos iM] at H
        have lZ := decide_eq_true iM
        clear iM
        exact absurd (Option.some.inj H) (by decide)
       rw [if_neg iM] at H
       have lZ := decide_eq_false iM
       clear iM
       by_cases iE : gM = eJ
       case neg =>
        rw [if_neg iE] at H
        have mA : (gM == eJ) = false := beq_eq_false_iff_ne.mpr iE
        have mB : (gM != eJ) = true := bne_iff_ne.mpr iE
        exact absurd (Option.some.inj H) (by decide)
       rw [if_pos iE] at H
       have mA : (gM == eJ) = true := beq_iff_eq.mpr iE
       have mB : (gM != eJ) = false := bne_eq_false_iff_eq.mpr iE
       clear iE
       clear H
       have qJ := dC.out
       have qM := dB.out
       have qN := dE.out
       have qO := dD.out
       have qP := cV.out
       have qQ := cU.out
       have qS := cX.out
       have qT := cW.out
       have qV := dF.out
       have qW := dG.out
       have qX := cA2 aJ.out
       go_wp2_with (first | ((with_reducible refine gC (f := 18) rfl ?_); refine gL (some 109) Try.func18 #[.agg #[cD, .slice cG eM.length cE], .int .i64 1] ?_; (with_reducible refine (Z42.calls iT cD _ _ eM 1 iD _ ?side1 ?side2 nI.out).mono ?_); (case side1 => exact cM ((Kd.R_reads' aD.out).2.2)); (case side2 => exact (Kd.R_reads' aD.out).2.1); rintro e vO ⟨rfl, hb⟩; refine ⟨_, rfl, ?_⟩; replace aK := rK aK hb; replace aI := rK aI hb; replace aE := rK aE hb; replace aD := rK aD hb; replace gG := rK gG hb; replace aC := rB aC hb; replace aA := rB aA hb; replace aG := rB aG hb; replace aH := rB aH hb; replace aJ := rB aJ hb; replace bK := rB bK hb; replace HB := rS HB hb; (try clear hb)) | ((with_reducible refine gC (f := 58) rfl ?_); refine gL (some 114) Try.func58 #[.slice eF eN.length eG, iD] ?_; (with_reducible refine (Z23.calls iT _ _ eN iD gM _ ?side1 ?side2 nJ.out).mono ?_); (case side1 => exact cM ((Kd.R_reads' aK.out).2.2)); (case side2 => exact (Kd.R_reads' aK.out).2.1); rintro e w' ⟨rfl, ⟨nd, rfl⟩⟩; refine ⟨_, rfl, ?_⟩))
       go_ret
       exact ⟨xW, bl HB.out⟩

end Go.Proofs.Ythmijfekdeagpaa.PFnExactReact

/- Of the proof of laws.FnRootPorts: a part. No condition beyond what its theorems say. -/
/- The machine side of laws.FnRootPorts: where the plain function of that name answers true, its call returns true. No condition beyond what its arguments read as. -/
import Derived.Test.YthmijfekdeagpaaVFnRootPortsPx28
import Derived.Test.YthmijfekdeagpaaVFnRootPortsPx29
namespace Go.Proofs.Ythmijfekdeagpaa.PFnRootPorts
open Go.RowKit Go.Proofs.YthmijfekdeagpaaW.PrintWords Go.Proofs.YthmijfekdeagpaaW.PrintLast Go.Proofs.YthmijfekdeagpaaW.PrintMore
attribute [local go_sem] max2_int min2_int max_two min_two max_three min_three max_four min_four   -- for this text's walks alone
set_option linter.unusedVariables false
set_option linter.unusedSimpArgs false
theorem fld73_0 (w : World) (x0 x1 x2 x3 : Int) : (Instr.field 73 (.agg #[.int .i64 x0, .int .i64 x1, .int .i64 x2, .int .i64 x3]) 0).run Try.prog w = .ok (.int .i64 x0) w := by kernel_rfl
theorem fld73_1 (w : World) (x0 x1 x2 x3 : Int) : (Instr.field 73 (.agg #[.int .i64 x0, .int .i64 x1, .int .i64 x2, .int .i64 x3]) 1).run Try.prog w = .ok (.int .i64 x1) w := by kernel_rfl
theorem fld73_2 (w : World) (x0 x1 x2 x3 : Int) : (Instr.field 73 (.agg #[.int .i64 x0, .int .i64 x1, .int .i64 x2, .int .i64 x3]) 2).run Try.prog w = .ok (.int .i64 x2) w := by kernel_rfl
theorem fld73_3 (w : World) (x0 x1 x2 x3 : Int) : (Instr.field 73 (.agg #[.int .i64 x0, .int .i64 x1, .int .i64 x2, .int .i64 x3]) 3).run Try.prog w = .ok (.int .i64 x3) w := by kernel_rfl
attribute [local go_sem high] eqA73 eqA79 eqA89 fld73_0 fld73_1 fld73_2 fld73_3

def laws_FnRootPorts.j0 : Nat → Int → Bool → Bool → Int → List (S79) → Option (Bool)
 | 0, _, _, _, _, _ => none
 | k + 1, x4, x5, aJ, aC, aA => if aJ = true then (some false) else (if x5 = true then ((impl_Own.f k aC aA x4).bind fun aD => (if 0 ≤ x4 then (if x4 < (aA.length : Int) then ((impl_Better.f k ((rd_T79 aA x4).f2.f0) ((rd_T79 aA x4).f2.f1) ((rd_T79 aA x4).f2.f2) ((rd_T79 aA x4).f2.f3) aD.1 aD.2.1 aD.2.2.1 aD.2.2.2).bind fun aG => (if aG = true then (if aD.1 < aC then (if aD.2.2.1 = aC then ((impl_Hops.f k aC aA).bind fun aH => (some (aH == (wrap64 (((rd_T79 aA x4).f3) + 1))))) else (some false)) else (some false)) else (some false))) else (none)) else (none))) else (if x4 = (-1) then ((impl_BridgeOk.f k aC aA).bind fun aI => (if aI = true then ((impl_Own.f k aC aA 0).bind fun aE => (some (aE.1 == aC))) else (some true))) else (some false)))
def laws_FnRootPorts.f (k : Nat) (l0 : List Int) : Option (Bool) := (laws_big.f l0).bind fun aT => (if aT = true then (some true) else ((spec_DrawRootPort.f k l0).bind fun aA => ((impl_RootPort.f k aA.1 aA.2).bind fun aC => ((spec_RootPort.f k aA.1 aA.2).bind fun aK => ((spec_DrawOwn.f k l0).bind fun aD => ((spec_DrawDecide.f k l0).bind fun aG => ((spec_DrawHops.f k l0).bind fun aH => ((impl_Decide.f k aG.1 aG.2).bind fun aE => (if aC.1 = aK.1 then (if (aC.2 != aK.2) = true then (laws_FnRootPorts.j0 k aC.1 aC.2 true aA.1 aA.2) else ((impl_Own.f k aD.1 aD.2.1 aD.2.2).bind fun aI => ((spec_Own.f k aD.1 aD.2.1 aD.2.2).bind fun aJ => (if (!(aI.1 == aJ.1) || (!(aI.2.1 == aJ.2.1) || (!(aI.2.2.1 == aJ.2.2.1) || (!(aI.2.2.2 == aJ.2.2.2))))) = true then (laws_FnRootPorts.j0 k aC.1 aC.2 true aA.1 aA.2) else ((spec_Decide.f k aG.1 aG.2).bind fun aN => ((laws_sameBridge.f k aE.1 aE.2 aN.1 aN.2).bind fun aV => (if aV = true then ((impl_Hops.f k aH.1 aH.2).bind fun aW => ((spec_Hops.f k aH.1 aH.2).bind fun aX => (if aW = aX then ((impl_BridgeOk.f k aA.1 aA.2).bind fun aZ => ((spec_BridgeOk.f k aA.1 aA.2).bind fun bA => (if (aZ != bA) = true then (laws_FnRootPorts.j0 k aC.1 aC.2 true aA.1 aA.2) else ((impl_Decide.f k aE.1 aE.2).bind fun aQ => ((laws_sameBridge.f k aQ.1 aQ.2 aE.1 aE.2).bind fun bD => (laws_FnRootPorts.j0 k aC.1 aC.2 (!bD) aA.1 aA.2)))))) else (laws_FnRootPorts.j0 k aC.1 aC.2 true aA.1 aA.2)))) else (laws_FnRootPorts.j0 k aC.1 aC.2 true aA.1 aA.2)))))))) else (laws_FnRootPorts.j0 k aC.1 aC.2 true aA.1 aA.2))))))))))
theorem laws_FnRootPorts.mono_l : ∀ k, (∀ y0 y1 y2 y3 y4, LeO (laws_FnRootPorts.j0 k y0 y1 y2 y3 y4) (laws_FnRootPorts.j0 (k + 1) y0 y1 y2 y3 y4))
 | 0 => fun _ _ _ _ _ r h => by simp [laws_FnRootPorts.j0] at h
 | k + 1 => by
  have ih0 := laws_FnRootPorts.mono_l k
  ·intro y0 y1 y2 y3 y4
   unfold laws_FnRootPorts.j0
   repeat' first|(with_reducible first|apply ih0|apply impl_Better.mono|apply impl_BridgeOk.mono|apply impl_Decide.mono|apply impl_Hops.mono|apply impl_Own.mono|apply impl_RootPort.mono|apply laws_sameBridge.mono|apply spec_BridgeOk.mono|apply spec_Decide.mono|apply spec_DrawDecide.mono|apply spec_DrawHops.mono|apply spec_DrawOwn.mono|apply spec_DrawRootPort.mono|apply spec_Hops.mono|apply spec_Own.mono|apply spec_RootPort.mono|exact LeO.refl _|exact LeO.none _|refine LeO.ite ?_ ?_|refine LeO.bind ?_ (fun _ => ?_))|exact LeO.none _|refine LeO.ite ?_ ?_|refine LeO.bind ?_ (fun _ => ?_)
theorem laws_FnRootPorts.mono : ∀ a0 k, LeO (laws_FnRootPorts.f k a0) (laws_FnRootPorts.f (k + 1) a0) := by
 intro a0 k
 have ih0 := laws_FnRootPorts.mono_l k
 unfold laws_FnRootPorts.f
 repeat' first|(with_reducible first|apply ih0|apply impl_Better.mono|apply impl_BridgeOk.mono|apply impl_Decide.mono|apply impl_Hops.mono|apply impl_Own.mono|apply impl_RootPort.mono|apply laws_sameBridge.mono|apply spec_BridgeOk.mono|apply spec_Decide.mono|apply spec_DrawDecide.mono|apply spec_DrawHops.mono|apply spec_DrawOwn.mono|apply spec_DrawRootPort.mono|apply spec_Hops.mono|apply spec_Own.mono|apply spec_RootPort.mono|exact LeO.refl _|exact LeO.none _|refine LeO.ite ?_ ?_|refine LeO.bind ?_ (fun _ => ?_))|exact LeO.none _|refine LeO.ite ?_ ?_|refine LeO.bind ?_ (fun _ => ?_)
def laws_FnRootPorts.T10 : Bool × List (List Nat × List Nat) := (true, [([], []), ([], []), ([0, 1], [0, 1]), ([2], [2]), ([3], [3]), ([3], [3]), ([4, 5, 3], [3, 4, 5]), ([3, 6], [3, 6]), ([7, 3], [7]), ([8], [8]), ([8], [8]), ([9, 10, 8, 8], [8, 9, 10]), ([8], [8]), ([8], [8]), ([12, 13, 11, 8], [8, 12, 13]), ([11, 14, 8], [8, 11, 14]), ([8, 15], [8, 15]), ([16, 14], [16]), ([17], [17]), ([17], [17]), ([19, 17, 17], [17, 19]), ([18, 20, 20, 17], [17, 18, 20]), ([21, 17], [17, 21]), ([17, 22], [17, 22]), ([23, 21], [23]), ([24], [24]), ([25, 24, 24], [24, 25]), ([24], [24]), ([27, 26, 24], [24, 27]), ([26, 28, 24], [24, 26, 28]), ([24, 29], [24, 29]), ([30, 28], [30]), ([31], [31]), ([32, 31, 31], [31, 32]), ([31], [31]), ([34, 33, 31], [31, 34]), ([33, 35, 31], [31, 33, 35]), ([31, 36], [31, 36]), ([37, 35], [37]), ([38], [38]), ([39, 38, 38], [38, 39]), ([38], [38]), ([40, 41, 40, 38], [38, 40, 41]), ([42, 38], [38, 42]), ([38, 43], [38, 43])])
def laws_FnRootPorts.B10 : List Nat := [0, 0, 3, 7, 15, 15, 63, 127, 255, 511, 511, 2047, 511, 511, 16383, 32767, 65535, 131071, 262143, 262143, 786431, 2097151, 4194303, 8388607, 16777215, 33554431, 67108863, 33554431, 268435455, 536870911, 1073741823, 2147483647, 4294967295, 8589934591, 4294967295, 34359738367, 68719476735, 137438953471, 274877906943, 549755813887, 1099511627775, 549755813887, 4398046511103, 8796093022207, 17592186044415]
theorem laws_FnRootPorts.tab10 : rtab .any (opsOf Try.f6 10) = laws_FnRootPorts.T10 := by kernel_rfl
theorem laws_FnRootPorts.bits10 : waitsOk laws_FnRootPorts.T10.2 laws_FnRootPorts.B10 = true := by kernel_rfl
def laws_FnRootPorts.T13 : Bool × List (List Nat × List Nat) := (true, [([], []), ([0], [0]), ([1], [1]), ([2], [2]), ([3, 2, 2], [2, 3]), ([4, 2], [2, 4]), ([5, 4, 2], [2, 5]), ([6], [6]), ([7, 6, 6], [6, 7]), ([8, 6], [6, 8]), ([6], [6]), ([10, 6], [6, 10]), ([9, 11, 6], [6, 9, 11]), ([6, 12, 2], [2, 6, 12]), ([2, 13], [2, 13]), ([14, 8, 0, 1, 2, 3, 4, 5, 6, 7, 8, 9, 10, 11, 12, 13, 14], [14])])
def laws_FnRootPorts.B13 : List Nat := [0, 1, 3, 7, 15, 31, 63, 127, 255, 511, 127, 1151, 4095, 8191, 16383, 32767]
theorem laws_FnRootPorts.tab13 : rtab .any (opsOf Try.f6 13) = laws_FnRootPorts.T13 := by kernel_rfl
theorem laws_FnRootPorts.bits13 : waitsOk laws_FnRootPorts.T13.2 laws_FnRootPorts.B13 = true := by kernel_rfl
def laws_FnRootPorts.T15 : Bool × List (List Nat × List Nat) := (true, [([], []), ([0], [0]), ([], []), ([1, 2], [1, 2]), ([3], [3]), ([4], [4]), ([], []), ([5, 6], [5, 6]), ([7, 7], [7]), ([8], [8]), ([9, 8], [8, 9]), ([8], [8]), ([11, 8], [8, 11]), ([10, 12, 8], [8, 10, 12]), ([8, 13], [8, 13]), ([14, 8], [14]), ([15], [15]), ([16, 15], [15, 16]), ([15], [15]), ([18, 15], [15, 18]), ([17, 19, 15], [15, 17, 19]), ([15, 20], [15, 20]), ([21, 15], [21]), ([22], [22]), ([23, 22, 22], [22, 23]), ([22], [22]), ([25, 22], [22, 25]), ([22], [22]), ([26, 27, 22], [22, 26, 27]), ([28, 22], [22, 28]), ([29, 22], [22, 29]), ([30, 22], [22, 30]), ([24, 31, 22], [22, 24, 31]), ([22, 32], [22, 32]), ([33, 24, 0, 1, 2, 3, 4, 5, 6, 7, 8, 9, 10, 11, 12, 13, 14, 15, 16, 17, 18, 19, 20, 21, 22, 23, 24, 25, 26, 27, 28, 29, 30, 31, 32, 33], [33])])
def laws_FnRootPorts.B15 : List Nat := [0, 1, 0, 7, 15, 31, 0, 127, 255, 511, 1023, 511, 2559, 8191, 16383, 32767, 65535, 131071, 65535, 327679, 1048575, 2097151, 4194303, 8388607, 16777215, 8388607, 41943039, 8388607, 243269631, 511705087, 1048575999, 2122317823, 4294967295, 8589934591, 17179869183]
theorem laws_FnRootPorts.tab15 : rtab .any (opsOf Try.f6 15) = laws_FnRootPorts.T15 := by kernel_rfl
theorem laws_FnRootPorts.bits15 : waitsOk laws_FnRootPorts.T15.2 laws_FnRootPorts.B15 = true := by kernel_rfl
theorem laws_FnRootPorts.j0_no : ∀ (k : Nat) x0 x1 x3 x4, laws_FnRootPorts.j0 k x0 x1 true x3 x4 ≠ some true := by
 intro k
 cases k <;> intros <;> simp [laws_FnRootPorts.j0]
set_option maxHeartbeats 60000000 in
set_option maxRecDepth 100000 in
theorem laws_FnRootPorts.calls (k : Nat) (A0 : Option Addr) (c0 : Nat) (l0 : List Int) (w : World) (hr0 : Kd.C (Kd.int .u8) w A0 l0.length l0) (hc0 : l0.length ≤ c0) (h : laws_FnRootPorts.f k l0 = some true) :
  Calls Try.prog 6 #[.slice A0 l0.length c0] w fun e w' => e = .returned (.bool true) ∧ Below w.heap.size w w' := by
 have nT := Try.underlying28
 have nV := Try.underlying73
 have eO := aM hr0
 have eP := aM hc0
 clear hr0 hc0
 have HB := aM (Below.refl w.heap.size w)
 have H : ((laws_big.f l0).bind fun hU => (if hU = true then (some true) else ((spec_DrawRootPort.f k l0).bind fun bG => ((impl_RootPort.f k bG.1 bG.2).bind fun bI => ((spec_RootPort.f k bG.1 bG.2).bind fun dQ => ((spec_DrawOwn.f k l0).bind fun cL => ((spec_DrawDecide.f k l0).bind fun dB => ((spec_DrawHops.f k l0).bind fun dC => ((impl_Decide.f k dB.1 dB.2).bind fun cN => (if bI.1 = dQ.1 then (if (bI.2 != dQ.2) = true then (laws_FnRootPorts.j0 k bI.1 bI.2 true bG.1 bG.2) else ((impl_Own.f k cL.1 cL.2.1 cL.2.2).bind fun dD => ((spec_Own.f k cL.1 cL.2.1 cL.2.2).bind fun dE => (if (!(dD.1 == dE.1) || (!(dD.2.1 == dE.2.1) || (!(dD.2.2.1 == dE.2.2.1) || (!(dD.2.2.2 == dE.2.2.2))))) = true then (laws_FnRootPorts.j0 k bI.1 bI.2 true bG.1 bG.2) else ((spec_Decide.f k dB.1 dB.2).bind fun dR => ((laws_sameBridge.f k cN.1 cN.2 dR.1 dR.2).bind fun eH => (if eH = true then ((impl_Hops.f k dC.1 dC.2).bind fun cX => ((spec_Hops.f k dC.1 dC.2).bind fun cY => (if cX = cY then ((impl_BridgeOk.f k bG.1 bG.2).bind fun cU => ((spec_BridgeOk.f k bG.1 bG.2).bind fun cV => (if (cU != cV) = true then (laws_FnRootPorts.j0 k bI.1 bI.2 true bG.1 bG.2) else ((impl_Decide.f k cN.1 cN.2).bind fun dF => ((laws_sameBridge.f k dF.1 dF.2 cN.1 cN.2).bind fun dJ => (laws_FnRootPorts.j0 k bI.1 bI.2 (!dJ) bG.1 bG.2)))))) else (laws_FnRootPorts.j0 k bI.1 bI.2 true bG.1 bG.2)))) else (laws_FnRootPorts.j0 k bI.1 bI.2 true bG.1 bG.2)))))))) else (laws_FnRootPorts.j0 k bI.1 bI.2 true bG.1 bG.2))))))))))) = some true := h
 clear h
 obtain ⟨hU, jS, H⟩ := hB H
 have A2 := aM jS
 clear jS
 by_cases c3 : hU = true
 case pos =>
  subst c3
  have H1 : (some true) = some true := by first | (rw [if_pos rfl] at H; exact H) | (rw [if_pos rfl] at H)
  clear H
  have H := H1
  clear H1 H
  go_enter Try.func6, Try.ntmps6
  go_wp2_with (first | ((with_reducible refine gC (f := 26) rfl ?_); refine gL (some 15) Try.func26 #[.slice A0 l0.length c0] ?_; (with_reducible refine (laws_big.calls _ _ l0 true _ ?side1 ?side2 A2.out).mono ?_); (case side1 => repeat (first | exact eO.out | (with_reducible refine Kd.C_alloc ?_ _) | (with_reducible refine Kd.C_drewN ?_ _) | (with_reducible refine Kd.C_drew ?_))); (case side2 => exact eP.out); rintro e w' ⟨rfl, ⟨nd, rfl⟩⟩; refine ⟨_, rfl, ?_⟩))
  go_ret
  exact ⟨xW, bl HB.out⟩
 replace c3 := Bool.eq_false_iff.mpr c3
 subst c3
 have H1 : ((spec_DrawRootPort.f k l0).bind fun bG => ((impl_RootPort.f k bG.1 bG.2).bind fun bI => ((spec_RootPort.f k bG.1 bG.2).bind fun dQ => ((spec_DrawOwn.f k l0).bind fun cL => ((spec_DrawDecide.f k l0).bind fun dB => ((spec_DrawHops.f k l0).bind fun dC => ((impl_Decide.f k dB.1 dB.2).bind fun cN => (if bI.1 = dQ.1 then (if (bI.2 != dQ.2) = true then (laws_FnRootPorts.j0 k bI.1 bI.2 true bG.1 bG.2) else ((impl_Own.f k cL.1 cL.2.1 cL.2.2).bind fun dD => ((spec_Own.f k cL.1 cL.2.1 cL.2.2).bind fun dE => (if (!(dD.1 == dE.1) || (!(dD.2.1 == dE.2.1) || (!(dD.2.2.1 == dE.2.2.1) || (!(dD.2.2.2 == dE.2.2.2))))) = true then (laws_FnRootPorts.j0 k bI.1 bI.2 true bG.1 bG.2) else ((spec_Decide.f k dB.1 dB.2).bind fun dR => ((laws_sameBridge.f k cN.1 cN.2 dR.1 dR.2).bind fun eH => (if eH = true then ((impl_Hops.f k dC.1 dC.2).bind fun cX => ((spec_Hops.f k dC.1 dC.2).bind fun cY => (if cX = cY then ((impl_BridgeOk.f k bG.1 bG.2).bind fun cU => ((spec_BridgeOk.f k bG.1 bG.2).bind fun cV => (if (cU != cV) = true then (laws_FnRootPorts.j0 k bI.1 bI.2 true bG.1 bG.2) else ((impl_Decide.f k cN.1 cN.2).bind fun dF => ((laws_sameBridge.f k dF.1 dF.2 cN.1 cN.2).bind fun dJ => (laws_FnRootPorts.j0 k bI.1 bI.2 (!dJ) bG.1 bG.2)))))) else (laws_FnRootPorts.j0 k bI.1 bI.2 true bG.1 bG.2)))) else (laws_FnRootPorts.j0 k bI.1 bI.2 true bG.1 bG.2)))))))) else (laws_FnRootPorts.j0 k bI.1 bI.2 true bG.1 bG.2))))))))) = some true := by first | (rw [if_neg (show ¬ (false = true) by decide)] at H; exact H) | (rw [if_neg (show ¬ (false = true) by decide)] at H)
 clear H
 have H := H1
 clear H1
 obtain ⟨⟨bA, aH⟩, jT, H⟩ := hB H
 try dsimp only at H
 have A4 := aM jT
 clear jT
 obtain ⟨⟨aG, cQ⟩, iG, H⟩ := hB H
 try dsimp only at H
 have A5 := aM iG
 clear iG
 obtain ⟨⟨dW, dI⟩, iH, H⟩ := hB H
 try dsimp only at H
 have A6 := aM iH
 clear iH
 obtain ⟨⟨cW, bO, eI⟩, jU, H⟩ := hB H
 try dsimp only at H
 have A7 := aM jU
 clear jU
 obtain ⟨⟨cR, bM⟩, jV, H⟩ := hB H
 try dsimp only at H
 have A8 := aM jV
 clear jV
 obtain ⟨⟨cE, bJ⟩, jW, H⟩ := hB H
 try dsimp only at H
 have A9 := aM jW
 clear jW
 obtain ⟨⟨cG, bK⟩, iP, H⟩ := hB H
 try dsimp only at H
 have kT := aM iP
 clear iP
 have hX := aM H
 clear H
 go_enter Try.func6, Try.ntmps6
 go_upto_region 10 with (first | ((with_reducible refine gC (f := 26) rfl ?_); refine gL (some 15) Try.func26 #[.slice A0 l0.length c0] ?_; (with_reducible refine (laws_big.calls _ _ l0 false _ ?side1 ?side2 A2.out).mono ?_); (case side1 => repeat (first | exact eO.out | (with_reducible refine Kd.C_alloc ?_ _) | (with_reducible refine Kd.C_drewN ?_ _) | (with_reducible refine Kd.C_drew ?_))); (case side2 => exact eP.out); rintro e w' ⟨rfl, ⟨nd, rfl⟩⟩; refine ⟨_, rfl, ?_⟩) | ((with_reducible refine gC (f := 34) rfl ?_); refine gL (some 17) Try.func34 #[.slice A0 l0.length c0] ?_; (with_reducible refine (spec_DrawRootPort.calls k _ _ l0 bA aH _ ?side1 ?side2 A4.out).mono ?_); (case side1 => repeat (first | exact eO.out | (with_reducible refine Kd.C_alloc ?_ _) | (with_reducible refine Kd.C_drewN ?_ _) | (with_reducible refine Kd.C_drew ?_))); (case side2 => exact eP.out); rintro e oQ ⟨nX, rfl, ho0, hb⟩; refine ⟨_, rfl, ?_⟩; have aJ := aM (Kd.R_lower ho0 (below_size (bl HB.out))); replace HB := rS HB hb; (repeat first|clear hb|clear ho0)) | ((with_reducible refine gD (N := 3) rfl ?_); refine box_event ?hg (N := 3) ?hd (cs := #[.int .i64 0, .slice none 0 0]) (t := 28) ?hr ?_; (case hd => rfl); (case hg => rfl); (case hr => first | (go_simp; done) | (go_simp; rfl) | (obtain ⟨A_, c_, e_⟩ := Kd.R_slice aJ.out; subst e_; (first | (go_simp; done) | (go_simp; rfl))) | (obtain ⟨A_, c_, e_⟩ := Kd.S_slice aJ.out; subst e_; (first | (go_simp; done) | (go_simp; rfl))) | (obtain ⟨A_, c_, e_⟩ := Kd.R_slice aN.out; subst e_; (first | (go_simp; done) | (go_simp; rfl))) | (obtain ⟨A_, c_, e_⟩ := Kd.S_slice aN.out; subst e_; (first | (go_simp; done) | (go_simp; rfl))) | (obtain ⟨A_, c_, e_⟩ := Kd.R_slice aQ.out; subst e_; (first | (go_simp; done) | (go_simp; rfl))) | (obtain ⟨A_, c_, e_⟩ := Kd.S_slice aQ.out; subst e_; (first | (go_simp; done) | (go_simp; rfl))) | (obtain ⟨A_, c_, e_⟩ := Kd.R_slice aT.out; subst e_; (first | (go_simp; done) | (go_simp; rfl))) | (obtain ⟨A_, c_, e_⟩ := Kd.S_slice aT.out; subst e_; (first | (go_simp; done) | (go_simp; rfl))) | (obtain ⟨A_, c_, e_⟩ := Kd.R_slice bD.out; subst e_; (first | (go_simp; done) | (go_simp; rfl))) | (obtain ⟨A_, c_, e_⟩ := Kd.S_slice bD.out; subst e_; (first | (go_simp; done) | (go_simp; rfl)))); intro cT hg oR hbox hb; have aA := aM (hbox); have mA := gF hg HB; have mB := gF hg HB; replace aJ := aM (kB (kr aJ.out) hb); replace HB := rS HB hb; clear hb hbox hg; have mC := cA2 aA.out; obtain ⟨bP, bL, jX⟩ := Kd.R_slice aJ.out; subst jX) | ((with_reducible refine gC (f := 35) rfl ?_); refine gL (some 20) Try.func35 #[.agg #[bA, .slice bP aH.length bL]] ?_; (with_reducible refine (impl_RootPort.calls k bA _ _ aH aG cQ _ ?side1 ?side2 A5.out).mono ?_); (case side1 => refine (Kd.R_reads' (e := 79) (base := w.heap.size) (ok := fun k_ => True) (n := aH.length) (c := bL) ?_).2.2; exact (kr (Kd.R_mono (kF (p := ⟨cT, 1, none⟩) (kF (p := ⟨cT, 0, none⟩) (Kd.R_types aJ.out aA.out (by decide)) (fun _ hk => hk.2) (.int .i64 bA)) (fun _ hk => hk.2) (.slice bP aH.length bL)) (fun _ h_ => h_.1)))); (case side2 => exact (Kd.R_reads' aJ.out).2.1); rintro e oS ⟨rfl, hb⟩; refine ⟨_, rfl, ?_⟩; replace aJ := aM (kB (kr (Kd.R_mono (kF (p := ⟨cT, 1, none⟩) (kF (p := ⟨cT, 0, none⟩) (Kd.R_types aJ.out aA.out (by decide)) (fun _ hk => hk.2) (.int .i64 bA)) (fun _ hk => hk.2) (.slice bP aH.length bL)) (fun _ h_ => h_.1))) hb); replace aA := aM (bB (g := cT) (o := .cells #[bA, .slice bP aH.length bL] 28 (0, 0)) (bm aA.out) hb); replace HB := rS HB hb; (try clear hb); have mD := cA2 aA.out) | ((with_reducible refine gC (f := 36) rfl ?_); refine gL (some 25) Try.func36 #[.agg #[bA, .slice bP aH.length bL]] ?_; (with_reducible refine (spec_RootPort.calls k bA _ _ aH dW dI _ ?side1 ?side2 A6.out).mono ?_); (case side1 => repeat (first | exact (Kd.R_reads' aJ.out).2.2 | (with_reducible refine Kd.C_alloc ?_ _) | (with_reducible refine Kd.C_drewN ?_ _) | (with_reducible refine Kd.C_drew ?_))); (case side2 => exact (Kd.R_reads' aJ.out).2.1); rintro e oT ⟨rfl, hb⟩; refine ⟨_, rfl, ?_⟩; replace aJ := aM (kB (kr aJ.out) hb); replace aA := rB aA hb; replace HB := rS HB hb; (try clear hb)) | ((with_reducible refine gC (f := 37) rfl ?_); refine gL (some 30) Try.func37 #[.slice A0 l0.length c0] ?_; (with_reducible refine (spec_DrawOwn.calls k _ _ l0 cW bO eI _ ?side1 ?side2 A7.out).mono ?_); (case side1 => exact cM (cB eO.out HB.out)); (case side2 => exact eP.out); rintro e oU ⟨nZ, rfl, ho0, hb⟩; refine ⟨_, rfl, ?_⟩; have aN := aM (Kd.R_lower (Kd.R_new' ho0 (Kd.R_lt (kr aJ.out))) (below_size (bl HB.out))); replace aJ := aM (Kd.R_elder' (kr aJ.out) (Kd.R_base ho0) hb); replace aA := rB aA hb; replace HB := rS HB hb; (repeat first|clear hb|clear ho0)) | ((with_reducible refine gD (N := 8) rfl ?_); refine box_event ?hg (N := 8) ?hd (cs := #[.int .i64 0, .slice none 0 0]) (t := 28) ?hr ?_; (case hd => rfl); (case hg => rfl); (case hr => first | (go_simp; done) | (go_simp; rfl) | (obtain ⟨A_, c_, e_⟩ := Kd.R_slice aJ.out; subst e_; (first | (go_simp; done) | (go_simp; rfl))) | (obtain ⟨A_, c_, e_⟩ := Kd.S_slice aJ.out; subst e_; (first | (go_simp; done) | (go_simp; rfl))) | (obtain ⟨A_, c_, e_⟩ := Kd.R_slice aN.out; subst e_; (first | (go_simp; done) | (go_simp; rfl))) | (obtain ⟨A_, c_, e_⟩ := Kd.S_slice aN.out; subst e_; (first | (go_simp; done) | (go_simp; rfl))) | (obtain ⟨A_, c_, e_⟩ := Kd.R_slice aQ.out; subst e_; (first | (go_simp; done) | (go_simp; rfl))) | (obtain ⟨A_, c_, e_⟩ := Kd.S_slice aQ.out; subst e_; (first | (go_simp; done) | (go_simp; rfl))) | (obtain ⟨A_, c_, e_⟩ := Kd.R_slice aT.out; subst e_; (first | (go_simp; done) | (go_simp; rfl))) | (obtain ⟨A_, c_, e_⟩ := Kd.S_slice aT.out; subst e_; (first | (go_simp; done) | (go_simp; rfl))) | (obtain ⟨A_, c_, e_⟩ := Kd.R_slice bD.out; subst e_; (first | (go_simp; done) | (go_simp; rfl))) | (obtain ⟨A_, c_, e_⟩ := Kd.S_slice bD.out; subst e_; (first | (go_simp; done) | (go_simp; rfl)))); intro cO hg oV hbox hb; have aC := aM (hbox); have mE := gF hg HB; have mF := gF hg HB; have dY := nM hg aA; have dZ := nH hg aA; replace aJ := aM (kB (kr aJ.out) hb); replace aN := aM (kB (kr aN.out) hb); replace aA := rB aA hb; replace HB := rS HB hb; clear hb hbox hg; have mG := dZ.out; have mH := dY.out; have mI := cA2 aC.out; obtain ⟨bX, bY, jY⟩ := Kd.R_slice aN.out; subst jY) | ((with_reducible refine gC (f := 38) rfl ?_); refine gL (some 34) Try.func38 #[.slice A0 l0.length c0] ?_; (with_reducible refine (spec_DrawDecide.calls k _ _ l0 cR bM _ ?side1 ?side2 A8.out).mono ?_); (case side1 => exact cB eO.out (bl HB.out)); (case side2 => exact eP.out); rintro e oW ⟨oA, rfl, ho0, hb⟩; refine ⟨_, rfl, ?_⟩; have aQ := aM (Kd.R_lower (Kd.R_new' (Kd.R_new' ho0 (Kd.R_lt (kr (Kd.R_mono (kF (p := ⟨cO, 1, none⟩) (kF (p := ⟨cO, 0, none⟩) (Kd.R_types aJ.out aC.out (by decide)) (fun _ hk => hk.2) (.int .i64 cW)) (fun _ hk => hk.2) (.slice bX bO.length bY)) (fun _ h_ => h_.1))))) (Kd.R_lt (kr (Kd.R_mono (kF (p := ⟨cO, 1, none⟩) (kF (p := ⟨cO, 0, none⟩) (Kd.R_types aN.out aC.out (by decide)) (fun _ hk => hk.2) (.int .i64 cW)) (fun _ hk => hk.2) (.slice bX bO.length bY)) (fun _ h_ => h_.1))))) (below_size (bl HB.out))); replace aJ := aM (Kd.R_elder' (kr (Kd.R_mono (kF (p := ⟨cO, 1, none⟩) (kF (p := ⟨cO, 0, none⟩) (Kd.R_types aJ.out aC.out (by decide)) (fun _ hk => hk.2) (.int .i64 cW)) (fun _ hk => hk.2) (.slice bX bO.length bY)) (fun _ h_ => h_.1))) (Kd.R_base ho0) hb); replace aN := aM (Kd.R_elder' (kr (Kd.R_mono (kF (p := ⟨cO, 1, none⟩) (kF (p := ⟨cO, 0, none⟩) (Kd.R_types aN.out aC.out (by decide)) (fun _ hk => hk.2) (.int .i64 cW)) (fun _ hk => hk.2) (.slice bX bO.length bY)) (fun _ h_ => h_.1))) (Kd.R_base ho0) hb); replace aA := aM (bB (fm aA.out) hb); replace aC := aM (bB (g := cO) (o := .cells #[cW, .slice bX bO.length bY] 28 (0, 0)) (bm aC.out) hb); replace HB := rS HB hb; (repeat first|clear hb|clear ho0)) | ((with_reducible refine gD (N := 10) rfl ?_); refine box_event ?hg (N := 10) ?hd (cs := #[.int .i64 0, .slice none 0 0]) (t := 28) ?hr ?_; (case hd => rfl); (case hg => rfl); (case hr => first | (go_simp; done) | (go_simp; rfl) | (obtain ⟨A_, c_, e_⟩ := Kd.R_slice aJ.out; subst e_; (first | (go_simp; done) | (go_simp; rfl))) | (obtain ⟨A_, c_, e_⟩ := Kd.S_slice aJ.out; subst e_; (first | (go_simp; done) | (go_simp; rfl))) | (obtain ⟨A_, c_, e_⟩ := Kd.R_slice aN.out; subst e_; (first | (go_simp; done) | (go_simp; rfl))) | (obtain ⟨A_, c_, e_⟩ := Kd.S_slice aN.out; subst e_; (first | (go_simp; done) | (go_simp; rfl))) | (obtain ⟨A_, c_, e_⟩ := Kd.R_slice aQ.out; subst e_; (first | (go_simp; done) | (go_simp; rfl))) | (obtain ⟨A_, c_, e_⟩ := Kd.S_slice aQ.out; subst e_; (first | (go_simp; done) | (go_simp; rfl))) | (obtain ⟨A_, c_, e_⟩ := Kd.R_slice aT.out; subst e_; (first | (go_simp; done) | (go_simp; rfl))) | (obtain ⟨A_, c_, e_⟩ := Kd.S_slice aT.out; subst e_; (first | (go_simp; done) | (go_simp; rfl))) | (obtain ⟨A_, c_, e_⟩ := Kd.R_slice bD.out; subst e_; (first | (go_simp; done) | (go_simp; rfl))) | (obtain ⟨A_, c_, e_⟩ := Kd.S_slice bD.out; subst e_; (first | (go_simp; done) | (go_simp; rfl)))); intro cD hg oX hbox hb; have aD := aM (hbox); have mJ := gF hg HB; have mK := gF hg HB; have eA := nM hg aA; have eB := nH hg aA; have gA := nM hg aC; have gB := nH hg aC; replace aJ := aM (kB (kr aJ.out) hb); replace aN := aM (kB (kr aN.out) hb); replace aQ := aM (kB (kr aQ.out) hb); replace aA := rB aA hb; replace aC := rB aC hb; replace HB := rS HB hb; clear hb hbox hg; have mL := eB.out; have mM := eA.out; have mN := gB.out; have mO := gA.out; have mP := cA2 aD.out; obtain ⟨bV, bT, jZ⟩ := Kd.R_slice aQ.out; subst jZ) | ((with_reducible refine gC (f := 39) rfl ?_); refine gL (some 36) Try.func39 #[.slice A0 l0.length c0] ?_; (with_reducible refine (spec_DrawHops.calls k _ _ l0 cE bJ _ ?side1 ?side2 A9.out).mono ?_); (case side1 => exact cB eO.out (bl HB.out)); (case side2 => exact eP.out); rintro e oY ⟨oB, rfl, ho0, hb⟩; refine ⟨_, rfl, ?_⟩; have aT := aM (Kd.R_lower (Kd.R_new' (Kd.R_new' (Kd.R_new' ho0 (Kd.R_lt (kr (Kd.R_mono (kF (p := ⟨cD, 1, none⟩) (kF (p := ⟨cD, 0, none⟩) (Kd.R_types aJ.out aD.out (by decide)) (fun _ hk => hk.2) (.int .i64 cR)) (fun _ hk => hk.2) (.slice bV bM.length bT)) (fun _ h_ => h_.1))))) (Kd.R_lt (kr (Kd.R_mono (kF (p := ⟨cD, 1, none⟩) (kF (p := ⟨cD, 0, none⟩) (Kd.R_types aN.out aD.out (by decide)) (fun _ hk => hk.2) (.int .i64 cR)) (fun _ hk => hk.2) (.slice bV bM.length bT)) (fun _ h_ => h_.1))))) (Kd.R_lt (kr (Kd.R_mono (kF (p := ⟨cD, 1, none⟩) (kF (p := ⟨cD, 0, none⟩) (Kd.R_types aQ.out aD.out (by decide)) (fun _ hk => hk.2) (.int .i64 cR)) (fun _ hk => hk.2) (.slice bV bM.length bT)) (fun _ h_ => h_.1))))) (below_size (bl HB.out))); replace aJ := aM (Kd.R_elder' (kr (Kd.R_mono (kF (p := ⟨cD, 1, none⟩) (kF (p := ⟨cD, 0, none⟩) (Kd.R_types aJ.out aD.out (by decide)) (fun _ hk => hk.2) (.int .i64 cR)) (fun _ hk => hk.2) (.slice bV bM.length bT)) (fun _ h_ => h_.1))) (Kd.R_base ho0) hb); replace aN := aM (Kd.R_elder' (kr (Kd.R_mono (kF (p := ⟨cD, 1, none⟩) (kF (p := ⟨cD, 0, none⟩) (Kd.R_types aN.out aD.out (by decide)) (fun _ hk => hk.2) (.int .i64 cR)) (fun _ hk => hk.2) (.slice bV bM.length bT)) (fun _ h_ => h_.1))) (Kd.R_base ho0) hb); replace aQ := aM (Kd.R_elder' (kr (Kd.R_mono (kF (p := ⟨cD, 1, none⟩) (kF (p := ⟨cD, 0, none⟩) (Kd.R_types aQ.out aD.out (by decide)) (fun _ hk => hk.2) (.int .i64 cR)) (fun _ hk => hk.2) (.slice bV bM.length bT)) (fun _ h_ => h_.1))) (Kd.R_base ho0) hb); replace aA := aM (bB (fm aA.out) hb); replace aC := aM (bB (fm aC.out) hb); replace aD := aM (bB (g := cD) (o := .cells #[cR, .slice bV bM.length bT] 28 (0, 0)) (bm aD.out) hb); replace HB := rS HB hb; (repeat first|clear hb|clear ho0)) | ((with_reducible refine gD (N := 11) rfl ?_); refine box_event ?hg (N := 11) ?hd (cs := #[.int .i64 0, .slice none 0 0]) (t := 28) ?hr ?_; (case hd => rfl); (case hg => rfl); (case hr => first | (go_simp; done) | (go_simp; rfl) | (obtain ⟨A_, c_, e_⟩ := Kd.R_slice aJ.out; subst e_; (first | (go_simp; done) | (go_simp; rfl))) | (obtain ⟨A_, c_, e_⟩ := Kd.S_slice aJ.out; subst e_; (first | (go_simp; done) | (go_simp; rfl))) | (obtain ⟨A_, c_, e_⟩ := Kd.R_slice aN.out; subst e_; (first | (go_simp; done) | (go_simp; rfl))) | (obtain ⟨A_, c_, e_⟩ := Kd.S_slice aN.out; subst e_; (first | (go_simp; done) | (go_simp; rfl))) | (obtain ⟨A_, c_, e_⟩ := Kd.R_slice aQ.out; subst e_; (first | (go_simp; done) | (go_simp; rfl))) | (obtain ⟨A_, c_, e_⟩ := Kd.S_slice aQ.out; subst e_; (first | (go_simp; done) | (go_simp; rfl))) | (obtain ⟨A_, c_, e_⟩ := Kd.R_slice aT.out; subst e_; (first | (go_simp; done) | (go_simp; rfl))) | (obtain ⟨A_, c_, e_⟩ := Kd.S_slice aT.out; subst e_; (first | (go_simp; done) | (go_simp; rfl))) | (obtain ⟨A_, c_, e_⟩ := Kd.R_slice bD.out; subst e_; (first | (go_simp; done) | (go_simp; rfl))) | (obtain ⟨A_, c_, e_⟩ := Kd.S_slice bD.out; subst e_; (first | (go_simp; done) | (go_simp; rfl)))); intro bU hg oZ hbox hb; have aE := aM (hbox); have mQ := gF hg HB; have mR := gF hg HB; have eC := nM hg aA; have eD := nH hg aA; have gG := nM hg aC; have gH := nH hg aC; have gJ := nM hg aD; have gK := nH hg aD; replace aJ := aM (kB (kr aJ.out) hb); replace aN := aM (kB (kr aN.out) hb); replace aQ := aM (kB (kr aQ.out) hb); replace aT := aM (kB (kr aT.out) hb); replace aA := rB aA hb; replace aC := rB aC hb; replace aD := rB aD hb; replace HB := rS HB hb; clear hb hbox hg; have mS := eD.out; have mT := eC.out; have mU := gH.out; have mV := gG.out; have mW := gK.out; have mX := gJ.out; have mY := cA2 aE.out; obtain ⟨bQ, bR, kA⟩ := Kd.R_slice aT.out; subst kA; have mZ := cA2 aD.out) | ((with_reducible refine gC (f := 15) rfl ?_); refine gL (some 38) Try.func15 #[.agg #[cR, .slice bV bM.length bT]] ?_; (with_reducible refine (impl_Decide.calls k cR _ _ bM cG bK _ ?side1 ?side2 kT.out).mono ?_); (case side1 => refine (Kd.R_reads' (e := 79) (base := w.heap.size) (ok := fun k_ => (((True ∧ some k_ ≠ (.slice bP aH.length bL : Value).ownBlock) ∧ some k_ ≠ (.slice bX bO.length bY : Value).ownBlock) ∧ some k_ ≠ (.slice bQ bJ.length bR : Value).ownBlock)) (n := bM.length) (c := bT) ?_).2.2; exact (kr (Kd.R_mono (kF (p := ⟨bU, 1, none⟩) (kF (p := ⟨bU, 0, none⟩) (Kd.R_types aQ.out aE.out (by decide)) (fun _ hk => hk.2) (.int .i64 cE)) (fun _ hk => hk.2) (.slice bQ bJ.length bR)) (fun _ h_ => h_.1)))); (case side2 => exact (Kd.R_reads' aQ.out).2.1); rintro e pA ⟨oC, rfl, ho0, hb⟩; refine ⟨_, rfl, ?_⟩; have bD := aM (Kd.R_lower (Kd.R_new' (Kd.R_new' (Kd.R_new' (Kd.R_new' ho0 (Kd.R_lt (kr (Kd.R_mono (kF (p := ⟨bU, 1, none⟩) (kF (p := ⟨bU, 0, none⟩) (Kd.R_types aJ.out aE.out (by decide)) (fun _ hk => hk.2) (.int .i64 cE)) (fun _ hk => hk.2) (.slice bQ bJ.length bR)) (fun _ h_ => h_.1))))) (Kd.R_lt (kr (Kd.R_mono (kF (p := ⟨bU, 1, none⟩) (kF (p := ⟨bU, 0, none⟩) (Kd.R_types aN.out aE.out (by decide)) (fun _ hk => hk.2) (.int .i64 cE)) (fun _ hk => hk.2) (.slice bQ bJ.length bR)) (fun _ h_ => h_.1))))) (Kd.R_lt (kr (Kd.R_mono (kF (p := ⟨bU, 1, none⟩) (kF (p := ⟨bU, 0, none⟩) (Kd.R_types aQ.out aE.out (by decide)) (fun _ hk => hk.2) (.int .i64 cE)) (fun _ hk => hk.2) (.slice bQ bJ.length bR)) (fun _ h_ => h_.1))))) (Kd.R_lt (kr (Kd.R_mono (kF (p := ⟨bU, 1, none⟩) (kF (p := ⟨bU, 0, none⟩) (Kd.R_types aT.out aE.out (by decide)) (fun _ hk => hk.2) (.int .i64 cE)) (fun _ hk => hk.2) (.slice bQ bJ.length bR)) (fun _ h_ => h_.1))))) (below_size (bl HB.out))); replace aJ := aM (Kd.R_elder' (kr (Kd.R_mono (kF (p := ⟨bU, 1, none⟩) (kF (p := ⟨bU, 0, none⟩) (Kd.R_types aJ.out aE.out (by decide)) (fun _ hk => hk.2) (.int .i64 cE)) (fun _ hk => hk.2) (.slice bQ bJ.length bR)) (fun _ h_ => h_.1))) (Kd.R_base ho0) hb); replace aN := aM (Kd.R_elder' (kr (Kd.R_mono (kF (p := ⟨bU, 1, none⟩) (kF (p := ⟨bU, 0, none⟩) (Kd.R_types aN.out aE.out (by decide)) (fun _ hk => hk.2) (.int .i64 cE)) (fun _ hk => hk.2) (.slice bQ bJ.length bR)) (fun _ h_ => h_.1))) (Kd.R_base ho0) hb); replace aQ := aM (Kd.R_elder' (kr (Kd.R_mono (kF (p := ⟨bU, 1, none⟩) (kF (p := ⟨bU, 0, none⟩) (Kd.R_types aQ.out aE.out (by decide)) (fun _ hk => hk.2) (.int .i64 cE)) (fun _ hk => hk.2) (.slice bQ bJ.length bR)) (fun _ h_ => h_.1))) (Kd.R_base ho0) hb); replace aT := aM (Kd.R_elder' (kr (Kd.R_mono (kF (p := ⟨bU, 1, none⟩) (kF (p := ⟨bU, 0, none⟩) (Kd.R_types aT.out aE.out (by decide)) (fun _ hk => hk.2) (.int .i64 cE)) (fun _ hk => hk.2) (.slice bQ bJ.length bR)) (fun _ h_ => h_.1))) (Kd.R_base ho0) hb); replace aA := aM (bB (fm aA.out) hb); replace aC := aM (bB (fm aC.out) hb); replace aD := aM (bB (fm aD.out) hb); replace aE := aM (bB (g := bU) (o := .cells #[cE, .slice bQ bJ.length bR] 28 (0, 0)) (bm aE.out) hb); replace HB := rS HB hb; (repeat first|clear hb|clear ho0)) | ((with_reducible refine gD (N := 12) rfl ?_); refine box_event ?hg (N := 12) ?hd (cs := #[.int .i64 0, .slice none 0 0]) (t := 28) ?hr ?_; (case hd => rfl); (case hg => rfl); (case hr => first | (go_simp; done) | (go_simp; rfl) | (obtain ⟨A_, c_, e_⟩ := Kd.R_slice aJ.out; subst e_; (first | (go_simp; done) | (go_simp; rfl))) | (obtain ⟨A_, c_, e_⟩ := Kd.S_slice aJ.out; subst e_; (first | (go_simp; done) | (go_simp; rfl))) | (obtain ⟨A_, c_, e_⟩ := Kd.R_slice aN.out; subst e_; (first | (go_simp; done) | (go_simp; rfl))) | (obtain ⟨A_, c_, e_⟩ := Kd.S_slice aN.out; subst e_; (first | (go_simp; done) | (go_simp; rfl))) | (obtain ⟨A_, c_, e_⟩ := Kd.R_slice aQ.out; subst e_; (first | (go_simp; done) | (go_simp; rfl))) | (obtain ⟨A_, c_, e_⟩ := Kd.S_slice aQ.out; subst e_; (first | (go_simp; done) | (go_simp; rfl))) | (obtain ⟨A_, c_, e_⟩ := Kd.R_slice aT.out; subst e_; (first | (go_simp; done) | (go_simp; rfl))) | (obtain ⟨A_, c_, e_⟩ := Kd.S_slice aT.out; subst e_; (first | (go_simp; done) | (go_simp; rfl))) | (obtain ⟨A_, c_, e_⟩ := Kd.R_slice bD.out; subst e_; (first | (go_simp; done) | (go_simp; rfl))) | (obtain ⟨A_, c_, e_⟩ := Kd.S_slice bD.out; subst e_; (first | (go_simp; done) | (go_simp; rfl)))); intro cK hg pB hbox hb; have aI := aM (hbox); have nA := gF hg HB; have nB := gF hg HB; have eE := nM hg aA; have eF := nH hg aA; have gM := nM hg aC; have gN := nH hg aC; have gO := nM hg aD; have gP := nH hg aD; have gQ := nM hg aE; have gR := nH hg aE; replace aJ := aM (kB (kr aJ.out) hb); replace aN := aM (kB (kr aN.out) hb); replace aQ := aM (kB (kr aQ.out) hb); replace aT := aM (kB (kr aT.out) hb); replace bD := aM (kB (kr bD.out) hb); replace aA := rB aA hb; replace aC := rB aC hb; replace aD := rB aD hb; replace aE := rB aE hb; replace HB := rS HB hb; clear hb hbox hg; have nC := eF.out; have nD := eE.out; have nE := gN.out; have nF := gM.out; have nI := gP.out; have nJ := gO.out; have nK := gR.out; have nN := gQ.out; have nO := cA2 aI.out; obtain ⟨bZ, cA, kC⟩ := Kd.R_slice bD.out; subst kC))
 (try simp only [Act.put, sA, sZ, sS])
 go_cut [83] (fun kU wc => ∃ (kq : Nat) (dS : Bool), kU = .bool dS ∧ Aside0 (laws_FnRootPorts.j0 kq aG cQ dS bA aH = some true) ∧ Aside0 (kq ≤ k) ∧ Aside0 (Kd.R k79 79 wc w.heap.size (fun k_ => some k_ ≠ ((.slice bX bO.length bY) : Value).ownBlock ∧ some k_ ≠ ((.slice bV bM.length bT) : Value).ownBlock ∧ some k_ ≠ ((.slice bQ bJ.length bR) : Value).ownBlock ∧ some k_ ≠ ((.slice bZ bK.length cA) : Value).ownBlock) (.slice bP aH.length bL) aH) ∧ Aside0 (Kd.R k79 79 wc w.heap.size (fun k_ => some k_ ≠ ((.slice bP aH.length bL) : Value).ownBlock ∧ some k_ ≠ ((.slice bV bM.length bT) : Value).ownBlock ∧ some k_ ≠ ((.slice bQ bJ.length bR) : Value).ownBlock ∧ some k_ ≠ ((.slice bZ bK.length cA) : Value).ownBlock) (.slice bX bO.length bY) bO) ∧ Aside0 (Kd.R k79 79 wc w.heap.size (fun k_ => some k_ ≠ ((.slice bP aH.length bL) : Value).ownBlock ∧ some k_ ≠ ((.slice bX bO.length bY) : Value).ownBlock ∧ some k_ ≠ ((.slice bQ bJ.length bR) : Value).ownBlock ∧ some k_ ≠ ((.slice bZ bK.length cA) : Value).ownBlock) (.slice bV bM.length bT) bM) ∧ Aside0 (Kd.R k79 79 wc w.heap.size (fun k_ => some k_ ≠ ((.slice bP aH.length bL) : Value).ownBlock ∧ some k_ ≠ ((.slice bX bO.length bY) : Value).ownBlock ∧ some k_ ≠ ((.slice bV bM.length bT) : Value).ownBlock ∧ some k_ ≠ ((.slice bZ bK.length cA) : Value).ownBlock) (.slice bQ bJ.length bR) bJ) ∧ Aside0 (Kd.R k79 79 wc w.heap.size (fun k_ => some k_ ≠ ((.slice bP aH.length bL) : Value).ownBlock ∧ some k_ ≠ ((.slice bX bO.length bY) : Value).ownBlock ∧ some k_ ≠ ((.slice bV bM.length bT) : Value).ownBlock ∧ some k_ ≠ ((.slice bQ bJ.length bR) : Value).ownBlock) (.slice bZ bK.length cA) bK) ∧ Aside0 (wc.heap[cT]? = some (.cells #[bA, (.slice bP aH.length bL)] 28 (0, 0))) ∧ Aside0 (wc.heap[cO]? = some (.cells #[cW, (.slice bX bO.length bY)] 28 (0, 0))) ∧ Aside0 (wc.heap[cD]? = some (.cells #[cR, (.slice bV bM.length bT)] 28 (0, 0))) ∧ Aside0 (wc.heap[bU]? = some (.cells #[cE, (.slice bQ bJ.length bR)] 28 (0, 0))) ∧ Aside0 (wc.heap[cK]? = some (.cells #[cG, (.slice bZ bK.length cA)] 28 (0, 0))) ∧ Aside0 (Below w.heap.size w wc))
 case first =>
  have H := hX.out
  clear hX
  by_cases eG : aG = dW
  case neg =>
   rw [if_neg eG] at H
   have dM : (aG == dW) = false := beq_eq_false_iff_ne.mpr eG
   have iI : (aG != dW) = true := bne_iff_ne.mpr eG
   (first | rw [dM] | (simp only [i64_w, i32_w]; rw [dM]) | skip)
   exact absurd H (laws_FnRootPorts.j0_no _ _ _ _ _)
  rw [if_pos eG] at H
  have dM : (aG == dW) = true := beq_iff_eq.mpr eG
  have iI : (aG != dW) = false := bne_eq_false_iff_eq.mpr eG
  clear eG
  (first | rw [dM] | (simp only [i64_w, i32_w]; rw [dM]) | skip)
  by_cases dK : (cQ != dI) = true
  case pos =>
   rw [if_pos dK] at H
   have jI : (cQ != dI) = true := dK
   (try (have jJ : decide (cQ = dI) = false := by simpa using dK))
   (try (have jK : (cQ == dI) = false := by simpa using dK))
   (try (have nP : ¬ (cQ = dI) := by simpa using dK))
   clear dK
   exact absurd H (laws_FnRootPorts.j0_no _ _ _ _ _)
  rw [if_neg dK] at H
  have jI : (cQ != dI) = false := by simpa using dK
  (try (have jJ : decide (cQ = dI) = true := by simpa using dK))
  (try (have jK : (cQ == dI) = true := by simpa using dK))
  clear dK
  obtain ⟨⟨fM, fN, fO, fP⟩, iQ, H⟩ := hB H
  try dsimp only at H
  have iG := aM iQ
  clear iQ
  obtain ⟨⟨fQ, fS, fT, fU⟩, iR, H⟩ := hB H
  try dsimp only at H
  have kV := aM iR
  clear iR
  by_cases eQ : (!(fM == fQ) || (!(fN == fS) || (!(fO == fT) || (!(fP == fU))))) = true
  case pos =>
   rw [if_pos eQ] at H
   have jL : (!(fM == fQ) || (!(fN == fS) || (!(fO == fT) || (!(fP == fU))))) = true := eQ
   clear eQ
   exact absurd H (laws_FnRootPorts.j0_no _ _ _ _ _)
  rw [if_neg eQ] at H
  have jL : (!(fM == fQ) || (!(fN == fS) || (!(fO == fT) || (!(fP == fU))))) = false := by simpa using eQ
  clear eQ
  obtain ⟨⟨hY, hZ⟩, iS, H⟩ := hB H
  try dsimp only at H
  have kW := aM iS
  clear iS
  obtain ⟨eH, iT, H⟩ := hB H
  have kX := aM iT
  clear iT
  by_cases iJ : eH = true
  case neg =>
   replace iJ := Bool.eq_false_iff.mpr iJ
   subst iJ
   have H1 : (laws_FnRootPorts.j0 k aG cQ true bA aH) = some true := by first | (rw [if_neg (show ¬ (false = true) by decide)] at H; exact H) | (rw [if_neg (show ¬ (false = true) by decide)] at H)
   clear H
   have H := H1
   clear H1
   exact absurd H (laws_FnRootPorts.j0_no _ _ _ _ _)
  subst iJ
  have H1 : ((impl_Hops.f k cE bJ).bind fun cX => ((spec_Hops.f k cE bJ).bind fun cY => (if cX = cY then ((impl_BridgeOk.f k bA aH).bind fun cU => ((spec_BridgeOk.f k bA aH).bind fun cV => (if (cU != cV) = true then (laws_FnRootPorts.j0 k aG cQ true bA aH) else ((impl_Decide.f k cG bK).bind fun dF => ((laws_sameBridge.f k dF.1 dF.2 cG bK).bind fun dJ => (laws_FnRootPorts.j0 k aG cQ (!dJ) bA aH)))))) else (laws_FnRootPorts.j0 k aG cQ true bA aH)))) = some true := by first | (rw [if_pos rfl] at H; exact H) | (rw [if_pos rfl] at H)
  clear H
  have H := H1
  clear H1
  obtain ⟨cX, iU, H⟩ := hB H
  have iH := aM iU
  clear iU
  obtain ⟨cY, iV, H⟩ := hB H
  have kY := aM iV
  clear iV
  by_cases eJ : cX = cY
  case neg =>
   rw [if_neg eJ] at H
   have jM : (cX == cY) = false := beq_eq_false_iff_ne.mpr eJ
   have jN : (cX != cY) = true := bne_iff_ne.mpr eJ
   exact absurd H (laws_FnRootPorts.j0_no _ _ _ _ _)
  rw [if_pos eJ] at H
  have jM : (cX == cY) = true := beq_iff_eq.mpr eJ
  have jN : (cX != cY) = false := bne_eq_false_iff_eq.mpr eJ
  clear eJ
  obtain ⟨cU, iW, H⟩ := hB H
  have kZ := aM iW
  clear iW
  obtain ⟨cV, iX, H⟩ := hB H
  have lA := aM iX
  clear iX
  by_cases dL : (cU != cV) = true
  case pos =>
   rw [if_pos dL] at H
   have jO : (cU != cV) = true := dL
   (try (have jP : decide (cU = cV) = false := by simpa using dL))
   (try (have jQ : (cU == cV) = false := by simpa using dL))
   (try (have nQ : ¬ (cU = cV) := by simpa using dL))
   clear dL
   exact absurd H (laws_FnRootPorts.j0_no _ _ _ _ _)
  rw [if_neg dL] at H
  have jO : (cU != cV) = false := by simpa using dL
  (try (have jP : decide (cU = cV) = true := by simpa using dL))
  (try (have jQ : (cU == cV) = true := by simpa using dL))
  clear dL
  obtain ⟨⟨iA, iB⟩, iY, H⟩ := hB H
  try dsimp only at H
  have lB := aM iY
  clear iY
  obtain ⟨dJ, iZ, H⟩ := hB H
  have lC := aM iZ
  clear iZ
  have H' := aM H
  clear H
  try go_wp2
  refine nW (fun W => Aside0 (Kd.R k79 79 W w.heap.size (fun k_ => some k_ ≠ (.slice bX bO.length bY : Value).ownBlock ∧ some k_ ≠ (.slice bV bM.length bT : Value).ownBlock ∧ some k_ ≠ (.slice bQ bJ.length bR : Value).ownBlock ∧ some k_ ≠ (.slice bZ bK.length cA : Value).ownBlock) (.slice bP aH.length bL) aH) ∧ Aside0 (Kd.R k79 79 W w.heap.size (fun k_ => some k_ ≠ (.slice bP aH.length bL : Value).ownBlock ∧ some k_ ≠ (.slice bV bM.length bT : Value).ownBlock ∧ some k_ ≠ (.slice bQ bJ.length bR : Value).ownBlock ∧ some k_ ≠ (.slice bZ bK.length cA : Value).ownBlock) (.slice bX bO.length bY) bO) ∧ Aside0 (Kd.R k79 79 W w.heap.size (fun k_ => some k_ ≠ (.slice bP aH.length bL : Value).ownBlock ∧ some k_ ≠ (.slice bX bO.length bY : Value).ownBlock ∧ some k_ ≠ (.slice bQ bJ.length bR : Value).ownBlock ∧ some k_ ≠ (.slice bZ bK.length cA : Value).ownBlock) (.slice bV bM.length bT) bM) ∧ Aside0 (Kd.R k79 79 W w.heap.size (fun k_ => some k_ ≠ (.slice bP aH.length bL : Value).ownBlock ∧ some k_ ≠ (.slice bX bO.length bY : Value).ownBlock ∧ some k_ ≠ (.slice bV bM.length bT : Value).ownBlock ∧ some k_ ≠ (.slice bZ bK.length cA : Value).ownBlock) (.slice bQ bJ.length bR) bJ) ∧ Aside0 (Kd.R k79 79 W w.heap.size (fun k_ => some k_ ≠ (.slice bP aH.length bL : Value).ownBlock ∧ some k_ ≠ (.slice bX bO.length bY : Value).ownBlock ∧ some k_ ≠ (.slice bV bM.length bT : Value).ownBlock ∧ some k_ ≠ (.slice bQ bJ.length bR : Value).ownBlock) (.slice bZ bK.length cA) bK) ∧ Aside0 (W.heap[cT]? = some (.cells #[bA, .slice bP aH.length bL] 28 (0, 0))) ∧ Aside0 (W.heap[cO]? = some (.cells #[cW, .slice bX bO.length bY] 28 (0, 0))) ∧ Aside0 (W.heap[cD]? = some (.cells #[cR, .slice bV bM.length bT] 28 (0, 0))) ∧ Aside0 (W.heap[bU]? = some (.cells #[cE, .slice bQ bJ.length bR] 28 (0, 0))) ∧ Aside0 (W.heap[cK]? = some (.cells #[cG, .slice bZ bK.length cA] 28 (0, 0))) ∧ Aside0 (Below w.heap.size w W)) ⟨⟨kr (Kd.R_mono (kF (p := ⟨cK, 1, none⟩) (kF (p := ⟨cK, 0, none⟩) (Kd.R_types aJ.out aI.out (by decide)) (fun _ hk => hk.2) (.int .i64 cG)) (fun _ hk => hk.2) (.slice bZ bK.length cA)) (fun _ hk => ⟨hk.1.1.1.1.2, ⟨hk.1.1.1.2, ⟨hk.1.1.2, hk.1.2⟩⟩⟩))⟩, ⟨kr (Kd.R_mono (kF (p := ⟨cK, 1, none⟩) (kF (p := ⟨cK, 0, none⟩) (Kd.R_types aN.out aI.out (by decide)) (fun _ hk => hk.2) (.int .i64 cG)) (fun _ hk => hk.2) (.slice bZ bK.length cA)) (fun _ hk => ⟨hk.1.1.1.1.2, ⟨hk.1.1.1.2, ⟨hk.1.1.2, hk.1.2⟩⟩⟩))⟩, ⟨kr (Kd.R_mono (kF (p := ⟨cK, 1, none⟩) (kF (p := ⟨cK, 0, none⟩) (Kd.R_types aQ.out aI.out (by decide)) (fun _ hk => hk.2) (.int .i64 cG)) (fun _ hk => hk.2) (.slice bZ bK.length cA)) (fun _ hk => ⟨hk.1.1.1.1.2, ⟨hk.1.1.1.2, ⟨hk.1.1.2, hk.1.2⟩⟩⟩))⟩, ⟨kr (Kd.R_mono (kF (p := ⟨cK, 1, none⟩) (kF (p := ⟨cK, 0, none⟩) (Kd.R_types aT.out aI.out (by decide)) (fun _ hk => hk.2) (.int .i64 cG)) (fun _ hk => hk.2) (.slice bZ bK.length cA)) (fun _ hk => ⟨hk.1.1.1.1.2, ⟨hk.1.1.1.2, ⟨hk.1.1.2, hk.1.2⟩⟩⟩))⟩, ⟨kr (Kd.R_mono (kF (p := ⟨cK, 1, none⟩) (kF (p := ⟨cK, 0, none⟩) (Kd.R_types bD.out aI.out (by decide)) (fun _ hk => hk.2) (.int .i64 cG)) (fun _ hk => hk.2) (.slice bZ bK.length cA)) (fun _ hk => ⟨hk.1.1.1.1.2, ⟨hk.1.1.1.2, ⟨hk.1.1.2, hk.1.2⟩⟩⟩))⟩, ⟨fm aA.out⟩, ⟨fm aC.out⟩, ⟨fm aD.out⟩, ⟨fm aE.out⟩, ⟨bm aI.out⟩, ⟨bl HB.out⟩⟩ ?_
  intro lD nn_
  replace aJ := nn_.1
  replace aN := nn_.2.1
  replace aQ := nn_.2.2.1
  replace aT := nn_.2.2.2.1
  replace bD := nn_.2.2.2.2.1
  replace aA := nn_.2.2.2.2.2.1
  replace aC := nn_.2.2.2.2.2.2.1
  replace aD := nn_.2.2.2.2.2.2.2.1
  replace aE := nn_.2.2.2.2.2.2.2.2.1
  replace aI := nn_.2.2.2.2.2.2.2.2.2.1
  replace HB := nn_.2.2.2.2.2.2.2.2.2.2
  clear nn_
  replace aJ := aM (Kd.R_drew aJ.out)
  replace aN := aM (Kd.R_drew aN.out)
  replace aQ := aM (Kd.R_drew aQ.out)
  replace aT := aM (Kd.R_drew aT.out)
  replace bD := aM (Kd.R_drew bD.out)
  replace aA := aM (blk_drew aA.out)
  replace aC := aM (blk_drew aC.out)
  replace aD := aM (blk_drew aD.out)
  replace aE := aM (blk_drew aE.out)
  replace aI := aM (blk_drew aI.out)
  replace HB := aM (below_drew1 HB.out)
  refine start_ (n := 45) (S := fun w' => cT2 w' cO (.int .i64 cW) (.slice bX bO.length bY) (cT2 w' cK (.int .i64 cG) (.slice bZ bK.length cA) (cT2 w' cD (.int .i64 cR) (.slice bV bM.length bT) (cT2 w' bU (.int .i64 cE) (.slice bQ bJ.length bR) (cS2 w' cT (.int .i64 bA) (.slice bP aH.length bL)))))) (ds := []) (dn 45 0) (by kernel_rfl) rfl rfl ⟨cI aC.out 0, cI aC.out 1, cI aI.out 0, cI aI.out 1, cI aD.out 0, cI aD.out 1, cI aE.out 0, cI aE.out 1, cI aA.out 0, cI aA.out 1⟩ (fun hHeld => ?_); refine with_tabW laws_FnRootPorts.tab10 laws_FnRootPorts.bits10 (fun HT_ HW_ => ?_)
  generalize lD.drew = pC at aJ aN aQ aT bD aA aC aD aE aI HB hHeld ⊢
  refine nY (N := some 39) HT_ ?_
  refine nY (N := some 40) HT_ ?_
  refine nY (N := some 41) HT_ ?_
  refine nY (N := some 42) HT_ ?_
  refine nY (N := some 43) HT_ ?_
  refine nY (N := some 44) HT_ ?_
  refine nY (N := some 45) HT_ ?_
  refine nY (N := some 46) HT_ ?_
  refine nY (N := some 47) HT_ ?_
  refine pY (i := 10) (N := some 49) #[Y,Y,Y,Y,Y,Y,Y,Y,Y,U,Y,U,U,U,U,U,U,U,U,U,U,U,U,U,U,U,U,U,U,U,U,U,U,U,U,U,U,U,U,U,U,U,U,U,U] HT_ ?_
  refine pY (i := 13) (N := some 52) #[Y,Y,Y,Y,Y,Y,Y,Y,Y,U,Y,U,U,Y,U,U,U,U,U,U,U,U,U,U,U,U,U,U,U,U,U,U,U,U,U,U,U,U,U,U,U,U,U,U,U] HT_ ?_
  refine aY (i := 9) (N := some 48) #[Y,Y,Y,Y,Y,Y,Y,Y,Y,Y,Y,U,U,Y,U,U,U,U,U,U,U,U,U,U,U,U,U,U,U,U,U,U,U,U,U,U,U,U,U,U,U,U,U,U,U] HT_ HW_ hHeld ?_
  refine aY (i := 12) (N := some 51) #[Y,Y,Y,Y,Y,Y,Y,Y,Y,Y,Y,U,Y,Y,U,U,U,U,U,U,U,U,U,U,U,U,U,U,U,U,U,U,U,U,U,U,U,U,U,U,U,U,U,U,U] HT_ HW_ hHeld ?_
  refine one_ (i := 11) (N := some 50) #[Y,Y,Y,Y,Y,Y,Y,Y,Y,Y,Y,Y,Y,Y,U,U,U,U,U,U,U,U,U,U,U,U,U,U,U,U,U,U,U,U,U,U,U,U,U,U,U,U,U,U,U] rfl rfl (one_of HT_.out (by kernel_rfl)) (by decide) (fun K hK => ?_)
  refine goes_ Try.func40 (by kernel_rfl) rfl #[.agg #[cW, .slice bX bO.length bY], eI] (by rfl) rfl rfl xR ?_
  with_reducible refine (impl_Own.calls k cW _ _ bO eI fM fN fO fP _ ?side1 ?side2 iG.out).mono ?_
  (case side1 => repeat (first | exact (Kd.R_reads' aN.out).2.2 | (with_reducible refine Kd.C_alloc ?_ _) | (with_reducible refine Kd.C_drewN ?_ _) | (with_reducible refine Kd.C_drew ?_)))
  (case side2 => exact (Kd.R_reads' aN.out).2.1)
  rintro e pD ⟨rfl, hb⟩
  refine ⟨_, rfl, ?_⟩
  replace aJ := aM (kB (kr aJ.out) hb)
  replace aN := aM (kB (kr aN.out) hb)
  replace aQ := aM (kB (kr aQ.out) hb)
  replace aT := aM (kB (kr aT.out) hb)
  replace bD := aM (kB (kr bD.out) hb)
  replace aA := rB aA hb
  replace aC := rB aC hb
  replace aD := rB aD hb
  replace aE := rB aE hb
  replace aI := rB aI hb
  replace HB := rS HB hb
  (try clear hb)
  (try clear hb2)
  (try clear hk)
  (try clear hi)
  refine hK.out _ _ ⟨cI aC.out 0, cI aC.out 1, cI aI.out 0, cI aI.out 1, cI aD.out 0, cI aD.out 1, cI aE.out 0, cI aE.out 1, cI aA.out 0, cI aA.out 1⟩ (fun hHeld => ?_)
  clear hK K
  refine norm_ (a' := ?_) ?_ ?_
  rotate_left
  ·show Act.put _ (some 50) _ = _
   simp only [Act.put, sA, sZ, sS, i64_w, i32_w]
   rfl
  refine one_ (i := 14) (N := some 53) #[Y,Y,Y,Y,Y,Y,Y,Y,Y,Y,Y,Y,Y,Y,Y,U,U,U,U,U,U,U,U,U,U,U,U,U,U,U,U,U,U,U,U,U,U,U,U,U,U,U,U,U,U] rfl rfl (one_of HT_.out (by kernel_rfl)) (by decide) (fun K hK => ?_)
  refine goes_ Try.func41 (by kernel_rfl) rfl #[.agg #[cW, .slice bX bO.length bY], eI] (by rfl) rfl rfl xR ?_
  with_reducible refine (spec_Own.calls k cW _ _ bO eI fQ fS fT fU _ ?side1 ?side2 kV.out).mono ?_
  (case side1 => repeat (first | exact (Kd.R_reads' aN.out).2.2 | (with_reducible refine Kd.C_alloc ?_ _) | (with_reducible refine Kd.C_drewN ?_ _) | (with_reducible refine Kd.C_drew ?_)))
  (case side2 => exact (Kd.R_reads' aN.out).2.1)
  rintro e pE ⟨rfl, hb⟩
  refine ⟨_, rfl, ?_⟩
  replace aJ := aM (kB (kr aJ.out) hb)
  replace aN := aM (kB (kr aN.out) hb)
  replace aQ := aM (kB (kr aQ.out) hb)
  replace aT := aM (kB (kr aT.out) hb)
  replace bD := aM (kB (kr bD.out) hb)
  replace aA := rB aA hb
  replace aC := rB aC hb
  replace aD := rB aD hb
  replace aE := rB aE hb
  replace aI := rB aI hb
  replace HB := rS HB hb
  (try clear hb)
  (try clear hb2)
  (try clear hk)
  (try clear hi)
  refine hK.out _ _ ⟨cI aC.out 0, cI aC.out 1, cI aI.out 0, cI aI.out 1, cI aD.out 0, cI aD.out 1, cI aE.out 0, cI aE.out 1, cI aA.out 0, cI aA.out 1⟩ (fun hHeld => ?_)
  clear hK K
  refine norm_ (a' := ?_) ?_ ?_
  rotate_left
  ·show Act.put _ (some 53) _ = _
   simp only [Act.put, sA, sZ, sS, i64_w, i32_w]
   rfl
  refine pY (i := 15) (N := some 54) #[Y,Y,Y,Y,Y,Y,Y,Y,Y,Y,Y,Y,Y,Y,Y,Y,U,U,U,U,U,U,U,U,U,U,U,U,U,U,U,U,U,U,U,U,U,U,U,U,U,U,U,U,U] HT_ ?_
  refine pY (i := 16) (N := some 55) #[Y,Y,Y,Y,Y,Y,Y,Y,Y,Y,Y,Y,Y,Y,Y,Y,Y,U,U,U,U,U,U,U,U,U,U,U,U,U,U,U,U,U,U,U,U,U,U,U,U,U,U,U,U] HT_ ?_
  refine pY (i := 17) (N := some 56) #[Y,Y,Y,Y,Y,Y,Y,Y,Y,Y,Y,Y,Y,Y,Y,Y,Y,Y,U,U,U,U,U,U,U,U,U,U,U,U,U,U,U,U,U,U,U,U,U,U,U,U,U,U,U] HT_ ?_
  refine aY (i := 18) (N := some 57) #[Y,Y,Y,Y,Y,Y,Y,Y,Y,Y,Y,Y,Y,Y,Y,Y,Y,Y,Y,U,U,U,U,U,U,U,U,U,U,U,U,U,U,U,U,U,U,U,U,U,U,U,U,U,U] HT_ HW_ hHeld ?_
  refine aY (i := 19) (N := some 58) #[Y,Y,Y,Y,Y,Y,Y,Y,Y,Y,Y,Y,Y,Y,Y,Y,Y,Y,Y,Y,U,U,U,U,U,U,U,U,U,U,U,U,U,U,U,U,U,U,U,U,U,U,U,U,U] HT_ HW_ hHeld ?_
  refine one_ (i := 20) (N := some 59) #[Y,Y,Y,Y,Y,Y,Y,Y,Y,Y,Y,Y,Y,Y,Y,Y,Y,Y,Y,Y,Y,U,U,U,U,U,U,U,U,U,U,U,U,U,U,U,U,U,U,U,U,U,U,U,U] rfl rfl (one_of HT_.out (by kernel_rfl)) (by decide) (fun K hK => ?_)
  refine goes_ Try.func13 (by kernel_rfl) rfl #[.agg #[cR, .slice bV bM.length bT]] (by rfl) rfl rfl xR ?_
  with_reducible refine (spec_Decide.calls k cR _ _ bM hY hZ _ ?side1 ?side2 kW.out).mono ?_
  (case side1 => repeat (first | exact (Kd.R_reads' aQ.out).2.2 | (with_reducible refine Kd.C_alloc ?_ _) | (with_reducible refine Kd.C_drewN ?_ _) | (with_reducible refine Kd.C_drew ?_)))
  (case side2 => exact (Kd.R_reads' aQ.out).2.1)
  rintro e pF ⟨oD, rfl, ho0, hb⟩
  refine ⟨_, rfl, ?_⟩
  have cC := aM (Kd.R_lower (Kd.R_new' (Kd.R_new' (Kd.R_new' (Kd.R_new' (Kd.R_new' ho0 (Kd.R_lt (kr aJ.out))) (Kd.R_lt (kr aN.out))) (Kd.R_lt (kr aQ.out))) (Kd.R_lt (kr aT.out))) (Kd.R_lt (kr bD.out))) (below_size (bl HB.out)))
  replace aJ := aM (Kd.R_elder' (kr aJ.out) (Kd.R_base ho0) hb)
  replace aN := aM (Kd.R_elder' (kr aN.out) (Kd.R_base ho0) hb)
  replace aQ := aM (Kd.R_elder' (kr aQ.out) (Kd.R_base ho0) hb)
  replace aT := aM (Kd.R_elder' (kr aT.out) (Kd.R_base ho0) hb)
  replace bD := aM (Kd.R_elder' (kr bD.out) (Kd.R_base ho0) hb)
  replace aA := rB aA hb
  replace aC := rB aC hb
  replace aD := rB aD hb
  replace aE := rB aE hb
  replace aI := rB aI hb
  replace HB := rS HB hb
  (try clear hb)
  (try clear hb2)
  (try clear hk)
  (try clear hi)
  (try clear ho0)
  obtain ⟨kD, kE, jA⟩ := Kd.R_slice cC.out
  (first | subst jA | (injection jA with f1_ f2_ f3_; have f4_ := f1_.symm; have f5_ := f3_.symm; clear f1_ f2_ f3_; subst f4_; subst f5_))
  refine hK.out _ _ ⟨cI aC.out 0, cI aC.out 1, cI aI.out 0, cI aI.out 1, cI aD.out 0, cI aD.out 1, cI aE.out 0, cI aE.out 1, cI aA.out 0, cI aA.out 1⟩ (fun hHeld => ?_)
  clear hK K
  refine norm_ (a' := ?_) ?_ ?_
  rotate_left
  ·show Act.put _ (some 59) _ = _
   simp only [Act.put, sA, sZ, sS, i64_w, i32_w]
   rfl
  refine one_ (i := 21) (N := some 60) #[Y,Y,Y,Y,Y,Y,Y,Y,Y,Y,Y,Y,Y,Y,Y,Y,Y,Y,Y,Y,Y,Y,U,U,U,U,U,U,U,U,U,U,U,U,U,U,U,U,U,U,U,U,U,U,U] rfl rfl (one_of HT_.out (by kernel_rfl)) (by decide) (fun K hK => ?_)
  refine goes_ Try.func42 (by kernel_rfl) rfl #[.agg #[cG, .slice bZ bK.length cA], .agg #[hY, .slice kD hZ.length kE]] (by rfl) rfl rfl xR ?_
  with_reducible refine (laws_sameBridge.calls k cG _ _ bK hY _ _ hZ true _ ?side1 ?side2 ?side3 ?side4 kX.out).mono ?_
  (case side1 => repeat (first | exact (Kd.R_reads' bD.out).2.2 | (with_reducible refine Kd.C_alloc ?_ _) | (with_reducible refine Kd.C_drewN ?_ _) | (with_reducible refine Kd.C_drew ?_)))
  (case side2 => exact (Kd.R_reads' bD.out).2.1)
  (case side3 => repeat (first | exact (Kd.R_reads' cC.out).2.2 | (with_reducible refine Kd.C_alloc ?_ _) | (with_reducible refine Kd.C_drewN ?_ _) | (with_reducible refine Kd.C_drew ?_)))
  (case side4 => exact (Kd.R_reads' cC.out).2.1)
  rintro e pG ⟨rfl, hb⟩
  refine ⟨_, rfl, ?_⟩
  replace aJ := aM (kB (kr aJ.out) hb)
  replace aN := aM (kB (kr aN.out) hb)
  replace aQ := aM (kB (kr aQ.out) hb)
  replace aT := aM (kB (kr aT.out) hb)
  replace bD := aM (kB (kr bD.out) hb)
  replace cC := aM (kB (kr cC.out) hb)
  replace aA := rB aA hb
  replace aC := rB aC hb
  replace aD := rB aD hb
  replace aE := rB aE hb
  replace aI := rB aI hb
  replace HB := rS HB hb
  (try clear hb)
  (try clear hb2)
  (try clear hk)
  (try clear hi)
  refine hK.out _ _ ⟨cI aC.out 0, cI aC.out 1, cI aI.out 0, cI aI.out 1, cI aD.out 0, cI aD.out 1, cI aE.out 0, cI aE.out 1, cI aA.out 0, cI aA.out 1⟩ (fun hHeld => ?_)
  clear hK K
  refine norm_ (a' := ?_) ?_ ?_
  rotate_left
  ·show Act.put _ (some 60) _ = _
   simp only [Act.put, sA, sZ, sS, i64_w, i32_w]
   rfl
  refine pY (i := 22) (N := some 61) #[Y,Y,Y,Y,Y,Y,Y,Y,Y,Y,Y,Y,Y,Y,Y,Y,Y,Y,Y,Y,Y,Y,Y,U,U,U,U,U,U,U,U,U,U,U,U,U,U,U,U,U,U,U,U,U,U] HT_ ?_
  refine pY (i := 23) (N := some 62) #[Y,Y,Y,Y,Y,Y,Y,Y,Y,Y,Y,Y,Y,Y,Y,Y,Y,Y,Y,Y,Y,Y,Y,Y,U,U,U,U,U,U,U,U,U,U,U,U,U,U,U,U,U,U,U,U,U] HT_ ?_
  refine pY (i := 24) (N := some 63) #[Y,Y,Y,Y,Y,Y,Y,Y,Y,Y,Y,Y,Y,Y,Y,Y,Y,Y,Y,Y,Y,Y,Y,Y,Y,U,U,U,U,U,U,U,U,U,U,U,U,U,U,U,U,U,U,U,U] HT_ ?_
  refine aY (i := 25) (N := some 64) #[Y,Y,Y,Y,Y,Y,Y,Y,Y,Y,Y,Y,Y,Y,Y,Y,Y,Y,Y,Y,Y,Y,Y,Y,Y,Y,U,U,U,U,U,U,U,U,U,U,U,U,U,U,U,U,U,U,U] HT_ HW_ hHeld ?_
  refine aY (i := 27) (N := some 66) #[Y,Y,Y,Y,Y,Y,Y,Y,Y,Y,Y,Y,Y,Y,Y,Y,Y,Y,Y,Y,Y,Y,Y,Y,Y,Y,U,Y,U,U,U,U,U,U,U,U,U,U,U,U,U,U,U,U,U] HT_ HW_ hHeld ?_
  refine one_ (i := 26) (N := some 65) #[Y,Y,Y,Y,Y,Y,Y,Y,Y,Y,Y,Y,Y,Y,Y,Y,Y,Y,Y,Y,Y,Y,Y,Y,Y,Y,Y,Y,U,U,U,U,U,U,U,U,U,U,U,U,U,U,U,U,U] rfl rfl (one_of HT_.out (by kernel_rfl)) (by decide) (fun K hK => ?_)
  refine goes_ Try.func43 (by kernel_rfl) rfl #[.agg #[cE, .slice bQ bJ.length bR]] (by rfl) rfl rfl xR ?_
  with_reducible refine (impl_Hops.calls k cE _ _ bJ cX _ ?side1 ?side2 iH.out).mono ?_
  (case side1 => repeat (first | exact (Kd.R_reads' aT.out).2.2 | (with_reducible refine Kd.C_alloc ?_ _) | (with_reducible refine Kd.C_drewN ?_ _) | (with_reducible refine Kd.C_drew ?_)))
  (case side2 => exact (Kd.R_reads' aT.out).2.1)
  rintro e pH ⟨rfl, hb⟩
  refine ⟨_, rfl, ?_⟩
  replace aJ := aM (kB (kr aJ.out) hb)
  replace aN := aM (kB (kr aN.out) hb)
  replace aQ := aM (kB (kr aQ.out) hb)
  replace aT := aM (kB (kr aT.out) hb)
  replace bD := aM (kB (kr bD.out) hb)
  replace cC := aM (kB (kr cC.out) hb)
  replace aA := rB aA hb
  replace aC := rB aC hb
  replace aD := rB aD hb
  replace aE := rB aE hb
  replace aI := rB aI hb
  replace HB := rS HB hb
  (try clear hb)
  (try clear hb2)
  (try clear hk)
  (try clear hi)
  refine hK.out _ _ ⟨cI aC.out 0, cI aC.out 1, cI aI.out 0, cI aI.out 1, cI aD.out 0, cI aD.out 1, cI aE.out 0, cI aE.out 1, cI aA.out 0, cI aA.out 1⟩ (fun hHeld => ?_)
  clear hK K
  refine norm_ (a' := ?_) ?_ ?_
  rotate_left
  ·show Act.put _ (some 65) _ = _
   simp only [Act.put, sA, sZ, sS, i64_w, i32_w]
   rfl
  refine one_ (i := 28) (N := some 67) #[Y,Y,Y,Y,Y,Y,Y,Y,Y,Y,Y,Y,Y,Y,Y,Y,Y,Y,Y,Y,Y,Y,Y,Y,Y,Y,Y,Y,Y,U,U,U,U,U,U,U,U,U,U,U,U,U,U,U,U] rfl rfl (one_of HT_.out (by kernel_rfl)) (by decide) (fun K hK => ?_)
  refine goes_ Try.func44 (by kernel_rfl) rfl #[.agg #[cE, .slice bQ bJ.length bR]] (by rfl) rfl rfl xR ?_
  with_reducible refine (spec_Hops.calls k cE _ _ bJ cY _ ?side1 ?side2 kY.out).mono ?_
  (case side1 => repeat (first | exact (Kd.R_reads' aT.out).2.2 | (with_reducible refine Kd.C_alloc ?_ _) | (with_reducible refine Kd.C_drewN ?_ _) | (with_reducible refine Kd.C_drew ?_)))
  (case side2 => exact (Kd.R_reads' aT.out).2.1)
  rintro e pI ⟨rfl, hb⟩
  refine ⟨_, rfl, ?_⟩
  replace aJ := aM (kB (kr aJ.out) hb)
  replace aN := aM (kB (kr aN.out) hb)
  replace aQ := aM (kB (kr aQ.out) hb)
  replace aT := aM (kB (kr aT.out) hb)
  replace bD := aM (kB (kr bD.out) hb)
  replace cC := aM (kB (kr cC.out) hb)
  replace aA := rB aA hb
  replace aC := rB aC hb
  replace aD := rB aD hb
  replace aE := rB aE hb
  replace aI := rB aI hb
  replace HB := rS HB hb
  (try clear hb)
  (try clear hb2)
  (try clear hk)
  (try clear hi)
  refine hK.out _ _ ⟨cI aC.out 0, cI aC.out 1, cI aI.out 0, cI aI.out 1, cI aD.out 0, cI aD.out 1, cI aE.out 0, cI aE.out 1, cI aA.out 0, cI aA.out 1⟩ (fun hHeld => ?_)
  clear hK K
  refine norm_ (a' := ?_) ?_ ?_
  rotate_left
  ·show Act.put _ (some 67) _ = _
   simp only [Act.put, sA, sZ, sS, i64_w, i32_w]
   rfl
  refine pY (i := 29) (N := some 68) #[Y,Y,Y,Y,Y,Y,Y,Y,Y,Y,Y,Y,Y,Y,Y,Y,Y,Y,Y,Y,Y,Y,Y,Y,Y,Y,Y,Y,Y,Y,U,U,U,U,U,U,U,U,U,U,U,U,U,U,U] HT_ ?_
  refine pY (i := 30) (N := some 69) #[Y,Y,Y,Y,Y,Y,Y,Y,Y,Y,Y,Y,Y,Y,Y,Y,Y,Y,Y,Y,Y,Y,Y,Y,Y,Y,Y,Y,Y,Y,Y,U,U,U,U,U,U,U,U,U,U,U,U,U,U] HT_ ?_
  refine pY (i := 31) (N := some 70) #[Y,Y,Y,Y,Y,Y,Y,Y,Y,Y,Y,Y,Y,Y,Y,Y,Y,Y,Y,Y,Y,Y,Y,Y,Y,Y,Y,Y,Y,Y,Y,Y,U,U,U,U,U,U,U,U,U,U,U,U,U] HT_ ?_
  refine aY (i := 32) (N := some 71) #[Y,Y,Y,Y,Y,Y,Y,Y,Y,Y,Y,Y,Y,Y,Y,Y,Y,Y,Y,Y,Y,Y,Y,Y,Y,Y,Y,Y,Y,Y,Y,Y,Y,U,U,U,U,U,U,U,U,U,U,U,U] HT_ HW_ hHeld ?_
  refine aY (i := 34) (N := some 73) #[Y,Y,Y,Y,Y,Y,Y,Y,Y,Y,Y,Y,Y,Y,Y,Y,Y,Y,Y,Y,Y,Y,Y,Y,Y,Y,Y,Y,Y,Y,Y,Y,Y,U,Y,U,U,U,U,U,U,U,U,U,U] HT_ HW_ hHeld ?_
  refine one_ (i := 33) (N := some 72) #[Y,Y,Y,Y,Y,Y,Y,Y,Y,Y,Y,Y,Y,Y,Y,Y,Y,Y,Y,Y,Y,Y,Y,Y,Y,Y,Y,Y,Y,Y,Y,Y,Y,Y,Y,U,U,U,U,U,U,U,U,U,U] rfl rfl (one_of HT_.out (by kernel_rfl)) (by decide) (fun K hK => ?_)
  refine goes_ Try.func45 (by kernel_rfl) rfl #[.agg #[bA, .slice bP aH.length bL]] (by rfl) rfl rfl xR ?_
  with_reducible refine (impl_BridgeOk.calls k bA _ _ aH cU _ ?side1 ?side2 kZ.out).mono ?_
  (case side1 => repeat (first | exact (Kd.R_reads' aJ.out).2.2 | (with_reducible refine Kd.C_alloc ?_ _) | (with_reducible refine Kd.C_drewN ?_ _) | (with_reducible refine Kd.C_drew ?_)))
  (case side2 => exact (Kd.R_reads' aJ.out).2.1)
  rintro e pJ ⟨rfl, hb⟩
  refine ⟨_, rfl, ?_⟩
  replace aJ := aM (kB (kr aJ.out) hb)
  replace aN := aM (kB (kr aN.out) hb)
  replace aQ := aM (kB (kr aQ.out) hb)
  replace aT := aM (kB (kr aT.out) hb)
  replace bD := aM (kB (kr bD.out) hb)
  replace cC := aM (kB (kr cC.out) hb)
  replace aA := rB aA hb
  replace aC := rB aC hb
  replace aD := rB aD hb
  replace aE := rB aE hb
  replace aI := rB aI hb
  replace HB := rS HB hb
  (try clear hb)
  (try clear hb2)
  (try clear hk)
  (try clear hi)
  refine hK.out _ _ ⟨cI aC.out 0, cI aC.out 1, cI aI.out 0, cI aI.out 1, cI aD.out 0, cI aD.out 1, cI aE.out 0, cI aE.out 1, cI aA.out 0, cI aA.out 1⟩ (fun hHeld => ?_)
  clear hK K
  refine norm_ (a' := ?_) ?_ ?_
  rotate_left
  ·show Act.put _ (some 72) _ = _
   simp only [Act.put, sA, sZ, sS, i64_w, i32_w]
   rfl
  refine one_ (i := 35) (N := some 74) #[Y,Y,Y,Y,Y,Y,Y,Y,Y,Y,Y,Y,Y,Y,Y,Y,Y,Y,Y,Y,Y,Y,Y,Y,Y,Y,Y,Y,Y,Y,Y,Y,Y,Y,Y,Y,U,U,U,U,U,U,U,U,U] rfl rfl (one_of HT_.out (by kernel_rfl)) (by decide) (fun K hK => ?_)
  refine goes_ Try.func46 (by kernel_rfl) rfl #[.agg #[bA, .slice bP aH.length bL]] (by rfl) rfl rfl xR ?_
  with_reducible refine (spec_BridgeOk.calls k bA _ _ aH cV _ ?side1 ?side2 lA.out).mono ?_
  (case side1 => repeat (first | exact (Kd.R_reads' aJ.out).2.2 | (with_reducible refine Kd.C_alloc ?_ _) | (with_reducible refine Kd.C_drewN ?_ _) | (with_reducible refine Kd.C_drew ?_)))
  (case side2 => exact (Kd.R_reads' aJ.out).2.1)
  rintro e pK ⟨rfl, hb⟩
  refine ⟨_, rfl, ?_⟩
  replace aJ := aM (kB (kr aJ.out) hb)
  replace aN := aM (kB (kr aN.out) hb)
  replace aQ := aM (kB (kr aQ.out) hb)
  replace aT := aM (kB (kr aT.out) hb)
  replace bD := aM (kB (kr bD.out) hb)
  replace cC := aM (kB (kr cC.out) hb)
  replace aA := rB aA hb
  replace aC := rB aC hb
  replace aD := rB aD hb
  replace aE := rB aE hb
  replace aI := rB aI hb
  replace HB := rS HB hb
  (try clear hb)
  (try clear hb2)
  (try clear hk)
  (try clear hi)
  refine hK.out _ _ ⟨cI aC.out 0, cI aC.out 1, cI aI.out 0, cI aI.out 1, cI aD.out 0, cI aD.out 1, cI aE.out 0, cI aE.out 1, cI aA.out 0, cI aA.out 1⟩ (fun hHeld => ?_)
  clear hK K
  refine norm_ (a' := ?_) ?_ ?_
  rotate_left
  ·show Act.put _ (some 74) _ = _
   simp only [Act.put, sA, sZ, sS, i64_w, i32_w]
   rfl
  refine pY (i := 36) (N := some 75) #[Y,Y,Y,Y,Y,Y,Y,Y,Y,Y,Y,Y,Y,Y,Y,Y,Y,Y,Y,Y,Y,Y,Y,Y,Y,Y,Y,Y,Y,Y,Y,Y,Y,Y,Y,Y,Y,U,U,U,U,U,U,U,U] HT_ ?_
  refine pY (i := 37) (N := some 76) #[Y,Y,Y,Y,Y,Y,Y,Y,Y,Y,Y,Y,Y,Y,Y,Y,Y,Y,Y,Y,Y,Y,Y,Y,Y,Y,Y,Y,Y,Y,Y,Y,Y,Y,Y,Y,Y,Y,U,U,U,U,U,U,U] HT_ ?_
  refine pY (i := 38) (N := some 77) #[Y,Y,Y,Y,Y,Y,Y,Y,Y,Y,Y,Y,Y,Y,Y,Y,Y,Y,Y,Y,Y,Y,Y,Y,Y,Y,Y,Y,Y,Y,Y,Y,Y,Y,Y,Y,Y,Y,Y,U,U,U,U,U,U] HT_ ?_
  refine aY (i := 39) (N := some 78) #[Y,Y,Y,Y,Y,Y,Y,Y,Y,Y,Y,Y,Y,Y,Y,Y,Y,Y,Y,Y,Y,Y,Y,Y,Y,Y,Y,Y,Y,Y,Y,Y,Y,Y,Y,Y,Y,Y,Y,Y,U,U,U,U,U] HT_ HW_ hHeld ?_
  refine aY (i := 41) (N := some 80) #[Y,Y,Y,Y,Y,Y,Y,Y,Y,Y,Y,Y,Y,Y,Y,Y,Y,Y,Y,Y,Y,Y,Y,Y,Y,Y,Y,Y,Y,Y,Y,Y,Y,Y,Y,Y,Y,Y,Y,Y,U,Y,U,U,U] HT_ HW_ hHeld ?_
  refine one_ (i := 40) (N := some 79) #[Y,Y,Y,Y,Y,Y,Y,Y,Y,Y,Y,Y,Y,Y,Y,Y,Y,Y,Y,Y,Y,Y,Y,Y,Y,Y,Y,Y,Y,Y,Y,Y,Y,Y,Y,Y,Y,Y,Y,Y,Y,Y,U,U,U] rfl rfl (one_of HT_.out (by kernel_rfl)) (by decide) (fun K hK => ?_)
  refine goes_ Try.func15 (by kernel_rfl) rfl #[.agg #[cG, .slice bZ bK.length cA]] (by rfl) rfl rfl xR ?_
  with_reducible refine (impl_Decide.calls k cG _ _ bK iA iB _ ?side1 ?side2 lB.out).mono ?_
  (case side1 => repeat (first | exact (Kd.R_reads' bD.out).2.2 | (with_reducible refine Kd.C_alloc ?_ _) | (with_reducible refine Kd.C_drewN ?_ _) | (with_reducible refine Kd.C_drew ?_)))
  (case side2 => exact (Kd.R_reads' bD.out).2.1)
  rintro e pL ⟨oE, rfl, ho0, hb⟩
  refine ⟨_, rfl, ?_⟩
  have dU := aM (Kd.R_lower (Kd.R_new' (Kd.R_new' (Kd.R_new' (Kd.R_new' (Kd.R_new' (Kd.R_new' ho0 (Kd.R_lt (kr aJ.out))) (Kd.R_lt (kr aN.out))) (Kd.R_lt (kr aQ.out))) (Kd.R_lt (kr aT.out))) (Kd.R_lt (kr bD.out))) (Kd.R_lt (kr cC.out))) (below_size (bl HB.out)))
  replace aJ := aM (Kd.R_elder' (kr aJ.out) (Kd.R_base ho0) hb)
  replace aN := aM (Kd.R_elder' (kr aN.out) (Kd.R_base ho0) hb)
  replace aQ := aM (Kd.R_elder' (kr aQ.out) (Kd.R_base ho0) hb)
  replace aT := aM (Kd.R_elder' (kr aT.out) (Kd.R_base ho0) hb)
  replace bD := aM (Kd.R_elder' (kr bD.out) (Kd.R_base ho0) hb)
  replace cC := aM (Kd.R_elder' (kr cC.out) (Kd.R_base ho0) hb)
  replace aA := rB aA hb
  replace aC := rB aC hb
  replace aD := rB aD hb
  replace aE := rB aE hb
  replace aI := rB aI hb
  replace HB := rS HB hb
  (try clear hb)
  (try clear hb2)
  (try clear hk)
  (try clear hi)
  (try clear ho0)
  obtain ⟨kG, kH, jB⟩ := Kd.R_slice dU.out
  (first | subst jB | (injection jB with f1_ f2_ f3_; have f4_ := f1_.symm; have f5_ := f3_.symm; clear f1_ f2_ f3_; subst f4_; subst f5_))
  refine hK.out _ _ ⟨cI aC.out 0, cI aC.out 1, cI aI.out 0, cI aI.out 1, cI aD.out 0, cI aD.out 1, cI aE.out 0, cI aE.out 1, cI aA.out 0, cI aA.out 1⟩ (fun hHeld => ?_)
  clear hK K
  refine norm_ (a' := ?_) ?_ ?_
  rotate_left
  ·show Act.put _ (some 79) _ = _
   simp only [Act.put, sA, sZ, sS, i64_w, i32_w]
   rfl
  refine one_ (i := 42) (N := some 81) #[Y,Y,Y,Y,Y,Y,Y,Y,Y,Y,Y,Y,Y,Y,Y,Y,Y,Y,Y,Y,Y,Y,Y,Y,Y,Y,Y,Y,Y,Y,Y,Y,Y,Y,Y,Y,Y,Y,Y,Y,Y,Y,Y,U,U] rfl rfl (one_of HT_.out (by kernel_rfl)) (by decide) (fun K hK => ?_)
  refine goes_ Try.func42 (by kernel_rfl) rfl #[.agg #[iA, .slice kG iB.length kH], .agg #[cG, .slice bZ bK.length cA]] (by rfl) rfl rfl xR ?_
  with_reducible refine (laws_sameBridge.calls k iA _ _ iB cG _ _ bK dJ _ ?side1 ?side2 ?side3 ?side4 lC.out).mono ?_
  (case side1 => repeat (first | exact (Kd.R_reads' dU.out).2.2 | (with_reducible refine Kd.C_alloc ?_ _) | (with_reducible refine Kd.C_drewN ?_ _) | (with_reducible refine Kd.C_drew ?_)))
  (case side2 => exact (Kd.R_reads' dU.out).2.1)
  (case side3 => repeat (first | exact (Kd.R_reads' bD.out).2.2 | (with_reducible refine Kd.C_alloc ?_ _) | (with_reducible refine Kd.C_drewN ?_ _) | (with_reducible refine Kd.C_drew ?_)))
  (case side4 => exact (Kd.R_reads' bD.out).2.1)
  rintro e pM ⟨rfl, hb⟩
  refine ⟨_, rfl, ?_⟩
  replace aJ := aM (kB (kr aJ.out) hb)
  replace aN := aM (kB (kr aN.out) hb)
  replace aQ := aM (kB (kr aQ.out) hb)
  replace aT := aM (kB (kr aT.out) hb)
  replace bD := aM (kB (kr bD.out) hb)
  replace cC := aM (kB (kr cC.out) hb)
  replace dU := aM (kB (kr dU.out) hb)
  replace aA := rB aA hb
  replace aC := rB aC hb
  replace aD := rB aD hb
  replace aE := rB aE hb
  replace aI := rB aI hb
  replace HB := rS HB hb
  (try clear hb)
  (try clear hb2)
  (try clear hk)
  (try clear hi)
  refine hK.out _ _ ⟨cI aC.out 0, cI aC.out 1, cI aI.out 0, cI aI.out 1, cI aD.out 0, cI aD.out 1, cI aE.out 0, cI aE.out 1, cI aA.out 0, cI aA.out 1⟩ (fun hHeld => ?_)
  clear hK K
  refine norm_ (a' := ?_) ?_ ?_
  rotate_left
  ·show Act.put _ (some 81) _ = _
   simp only [Act.put, sA, sZ, sS, i64_w, i32_w]
   rfl
  refine pY (i := 43) (N := some 82) #[Y,Y,Y,Y,Y,Y,Y,Y,Y,Y,Y,Y,Y,Y,Y,Y,Y,Y,Y,Y,Y,Y,Y,Y,Y,Y,Y,Y,Y,Y,Y,Y,Y,Y,Y,Y,Y,Y,Y,Y,Y,Y,Y,Y,U] HT_ ?_
  refine pY (i := 44) (N := some 83) #[Y,Y,Y,Y,Y,Y,Y,Y,Y,Y,Y,Y,Y,Y,Y,Y,Y,Y,Y,Y,Y,Y,Y,Y,Y,Y,Y,Y,Y,Y,Y,Y,Y,Y,Y,Y,Y,Y,Y,Y,Y,Y,Y,Y,Y] HT_ ?_
  refine done_ (done_of HT_.out (by kernel_rfl)) ?_
  try go_wp2
  go_meet
  case rel => exact ⟨_, (!dJ), xE, H', ⟨by first | omega | exact Nat.le_refl _⟩, ⟨kr (Kd.R_mono aJ.out (fun _ hk => ⟨hk.1.1.1, ⟨hk.1.1.2.1, ⟨hk.1.1.2.2.1, hk.1.1.2.2.2⟩⟩⟩))⟩, ⟨kr (Kd.R_mono aN.out (fun _ hk => ⟨hk.1.1.1, ⟨hk.1.1.2.1, ⟨hk.1.1.2.2.1, hk.1.1.2.2.2⟩⟩⟩))⟩, ⟨kr (Kd.R_mono aQ.out (fun _ hk => ⟨hk.1.1.1, ⟨hk.1.1.2.1, ⟨hk.1.1.2.2.1, hk.1.1.2.2.2⟩⟩⟩))⟩, ⟨kr (Kd.R_mono aT.out (fun _ hk => ⟨hk.1.1.1, ⟨hk.1.1.2.1, ⟨hk.1.1.2.2.1, hk.1.1.2.2.2⟩⟩⟩))⟩, ⟨kr (Kd.R_mono bD.out (fun _ hk => ⟨hk.1.1.1, ⟨hk.1.1.2.1, ⟨hk.1.1.2.2.1, hk.1.1.2.2.2⟩⟩⟩))⟩, ⟨bk aA.out⟩, ⟨bk aC.out⟩, ⟨bk aD.out⟩, ⟨bk aE.out⟩, ⟨bk aI.out⟩, ⟨bl HB.out⟩⟩
 case rest =>
  clear hX
  repeat first|clear c1|clear p2|clear c4|clear pN|clear pO|clear eG|clear dM|clear iI
  obtain ⟨kq, dS, rfl, HA, HJ10, aK, aV, aW, aX, aZ, aA, aC, aD, aE, aI, HB⟩ := hcut
  cases kq with
  | zero => exact absurd HA.out (by simp [laws_FnRootPorts.j0])
  | succ cH =>
   have H := HA.out
   clear HA
   simp only [laws_FnRootPorts.j0] at H
   by_cases fV : dS = true
   case pos =>
    subst fV
    have H1 : (some false) = some true := by first | (rw [if_pos rfl] at H; exact H) | (rw [if_pos rfl] at H)
    clear H
    have H := H1
    clear H1
    exact absurd (Option.some.inj H) (by decide)
   replace fV := Bool.eq_false_iff.mpr fV
   subst fV
   have H1 : (if cQ = true then ((impl_Own.f cH bA aH aG).bind fun cP => (if 0 ≤ aG then (if aG < (aH.length : Int) then ((impl_Better.f cH ((rd_T79 aH aG).f2.f0) ((rd_T79 aH aG).f2.f1) ((rd_T79 aH aG).f2.f2) ((rd_T79 aH aG).f2.f3) cP.1 cP.2.1 cP.2.2.1 cP.2.2.2).bind fun eK => (if eK = true then (if cP.1 < bA then (if cP.2.2.1 = bA then ((impl_Hops.f cH bA aH).bind fun dN => (some (dN == (wrap64 (((rd_T79 aH aG).f3) + 1))))) else (some false)) else (some false)) else (some false))) else (none)) else (none))) else (if aG = (-1) then ((impl_BridgeOk.f cH bA aH).bind fun eL => (if eL = true then ((impl_Own.f cH bA aH 0).bind fun dV => (some (dV.1 == bA))) else (some true))) else (some false))) = some true := by first | (rw [if_neg (show ¬ (false = true) by decide)] at H; exact H) | (rw [if_neg (show ¬ (false = true) by decide)] at H)
   clear H
   have H := H1
   clear H1
   by_cases fW : cQ = true
   case neg =>
    replace fW := Bool.eq_false_iff.mpr fW
    subst fW
    have H1 : (if aG = (-1) then ((impl_BridgeOk.f cH bA aH).bind fun eL => (if eL = true then ((impl_Own.f cH bA aH 0).bind fun dV => (some (dV.1 == bA))) else (some true))) else (some false)) = some true := by first | (rw [if_neg (show ¬ (false = true) by decide)] at H; exact H) | (rw [if_neg (show ¬ (false = true) by decide)] at H)
    clear H
    have H := H1
    clear H1
    by_cases dO : aG = (-1)
    case neg =>
     rw [if_neg dO] at H
     have jC : (aG == (-1)) = false := beq_eq_false_iff_ne.mpr dO
     have jD : (aG != (-1)) = true := bne_iff_ne.mpr dO
     exact absurd (Option.some.inj H) (by decide)
    rw [if_pos dO] at H
    have jC : (aG == (-1)) = true := beq_iff_eq.mpr dO
    have jD : (aG != (-1)) = false := bne_eq_false_iff_eq.mpr dO
    clear dO
    obtain ⟨eL, iK, H⟩ := hB H
    have jE := aM iK
    clear iK
    by_cases fX : eL = true
    case neg =>
     replace fX := Bool.eq_false_iff.mpr fX
     subst fX
     have H1 : (some true) = some true := by first | (rw [if_neg (show ¬ (false = true) by decide)] at H; exact H) | (rw [if_neg (show ¬ (false = true) by decide)] at H)
     clear H
     have H := H1
     clear H1 H
     try go_wp2
     replace aK := aM (Kd.R_drew aK.out)
     replace aV := aM (Kd.R_drew aV.out)
     replace aW := aM (Kd.R_drew aW.out)
     replace aX := aM (Kd.R_drew aX.out)
     replace aZ := aM (Kd.R_drew aZ.out)
     replace aA := aM (blk_drew aA.out)
     replace aC := aM (blk_drew aC.out)
     replace aD := aM (blk_drew aD.out)
     replace aE := aM (blk_drew aE.out)
     replace aI := aM (blk_drew aI.out)
     replace HB := aM (below_drew1 HB.out)
     refine start_ (n := 16) (S := fun w' => cS2 w' cT (.int .i64 bA) (.slice bP aH.length bL)) (ds := []) (dn 16 0) (by kernel_rfl) rfl rfl ⟨cI aA.out 0, cI aA.out 1⟩ (fun hHeld => ?_); refine with_tabW laws_FnRootPorts.tab13 laws_FnRootPorts.bits13 (fun HT_ HW_ => ?_)
     generalize wc.drew = oF at aK aV aW aX aZ aA aC aD aE aI HB hHeld ⊢
     refine nY (N := some 86) HT_ ?_
     refine nY (N := some 87) HT_ ?_
     refine nY (N := some 88) HT_ ?_
     refine tY (N := some 89) HT_ HW_ hHeld ?_
     refine oN (N := some 90) HT_ (fun K hK => ?_)
     refine goes_ Try.func45 (by kernel_rfl) rfl #[.agg #[bA, .slice bP aH.length bL]] (by rfl) rfl rfl xR ?_
     with_reducible refine (impl_BridgeOk.calls cH bA _ _ aH false _ ?side1 ?side2 jE.out).mono ?_
     (case side1 => repeat (first | exact (Kd.R_reads' aK.out).2.2 | (with_reducible refine Kd.C_alloc ?_ _) | (with_reducible refine Kd.C_drewN ?_ _) | (with_reducible refine Kd.C_drew ?_)))
     (case side2 => exact (Kd.R_reads' aK.out).2.1)
     rintro e oG ⟨rfl, hb⟩
     refine ⟨_, rfl, ?_⟩
     replace aK := aM (kB (kr aK.out) hb)
     replace aV := aM (kB (kr aV.out) hb)
     replace aW := aM (kB (kr aW.out) hb)
     replace aX := aM (kB (kr aX.out) hb)
     replace aZ := aM (kB (kr aZ.out) hb)
     replace aA := rB aA hb
     replace aC := rB aC hb
     replace aD := rB aD hb
     replace aE := rB aE hb
     replace aI := rB aI hb
     replace HB := rS HB hb
     (try clear hb)
     (try clear hb2)
     (try clear hk)
     (try clear hi)
     refine hK.out _ _ ⟨cI aA.out 0, cI aA.out 1⟩ (fun hHeld => ?_)
     clear hK K
     refine norm_ (a' := ?_) ?_ ?_
     rotate_left
     ·show Act.put _ (some 90) _ = _
      simp only [Act.put, sA, sZ, sS, i64_w, i32_w]
      rfl
     refine nY (N := some 91) HT_ ?_
     refine nY (N := some 92) HT_ ?_
     refine nU (N := some 93) HT_ ?_
     refine nU (N := some 94) HT_ ?_
     refine nU (N := some 95) HT_ ?_
     refine nU (N := some 96) HT_ ?_
     refine nU (N := some 97) HT_ ?_
     refine nU (N := some 98) HT_ ?_
     refine nY (N := some 99) HT_ ?_
     refine nY (N := some 100) HT_ ?_
     refine nY (N := some 2) HT_ ?_
     refine done_ (done_of HT_.out (by kernel_rfl)) ?_
     try go_wp2
     go_ret
     exact ⟨xW, bl HB.out⟩
    subst fX
    have H1 : ((impl_Own.f cH bA aH 0).bind fun dV => (some (dV.1 == bA))) = some true := by first | (rw [if_pos rfl] at H; exact H) | (rw [if_pos rfl] at H)
    clear H
    have H := H1
    clear H1
    obtain ⟨⟨kI, kJ, kK, kL⟩, iL, H⟩ := hB H
    try dsimp only at H
    have kM := aM iL
    clear iL
    have HX_ := aM (Option.some.inj H)
    clear H
    try go_wp2
    replace aK := aM (Kd.R_drew aK.out)
    replace aV := aM (Kd.R_drew aV.out)
    replace aW := aM (Kd.R_drew aW.out)
    replace aX := aM (Kd.R_drew aX.out)
    replace aZ := aM (Kd.R_drew aZ.out)
    replace aA := aM (blk_drew aA.out)
    replace aC := aM (blk_drew aC.out)
    replace aD := aM (blk_drew aD.out)
    replace aE := aM (blk_drew aE.out)
    replace aI := aM (blk_drew aI.out)
    replace HB := aM (below_drew1 HB.out)
    refine start_ (n := 16) (S := fun w' => cS2 w' cT (.int .i64 bA) (.slice bP aH.length bL)) (ds := []) (dn 16 0) (by kernel_rfl) rfl rfl ⟨cI aA.out 0, cI aA.out 1⟩ (fun hHeld => ?_); refine with_tabW laws_FnRootPorts.tab13 laws_FnRootPorts.bits13 (fun HT_ HW_ => ?_)
    generalize wc.drew = oH at aK aV aW aX aZ aA aC aD aE aI HB hHeld ⊢
    refine nY (N := some 86) HT_ ?_
    refine nY (N := some 87) HT_ ?_
    refine nY (N := some 88) HT_ ?_
    refine tY (N := some 89) HT_ HW_ hHeld ?_
    refine oN (N := some 90) HT_ (fun K hK => ?_)
    refine goes_ Try.func45 (by kernel_rfl) rfl #[.agg #[bA, .slice bP aH.length bL]] (by rfl) rfl rfl xR ?_
    with_reducible refine (impl_BridgeOk.calls cH bA _ _ aH true _ ?side1 ?side2 jE.out).mono ?_
    (case side1 => repeat (first | exact (Kd.R_reads' aK.out).2.2 | (with_reducible refine Kd.C_alloc ?_ _) | (with_reducible refine Kd.C_drewN ?_ _) | (with_reducible refine Kd.C_drew ?_)))
    (case side2 => exact (Kd.R_reads' aK.out).2.1)
    rintro e oI ⟨rfl, hb⟩
    refine ⟨_, rfl, ?_⟩
    replace aK := aM (kB (kr aK.out) hb)
    replace aV := aM (kB (kr aV.out) hb)
    replace aW := aM (kB (kr aW.out) hb)
    replace aX := aM (kB (kr aX.out) hb)
    replace aZ := aM (kB (kr aZ.out) hb)
    replace aA := rB aA hb
    replace aC := rB aC hb
    replace aD := rB aD hb
    replace aE := rB aE hb
    replace aI := rB aI hb
    replace HB := rS HB hb
    (try clear hb)
    (try clear hb2)
    (try clear hk)
    (try clear hi)
    refine hK.out _ _ ⟨cI aA.out 0, cI aA.out 1⟩ (fun hHeld => ?_)
    clear hK K
    refine norm_ (a' := ?_) ?_ ?_
    rotate_left
    ·show Act.put _ (some 90) _ = _
     simp only [Act.put, sA, sZ, sS, i64_w, i32_w]
     rfl
    refine nY (N := some 91) HT_ ?_
    refine nY (N := some 92) HT_ ?_
    refine pY (i := 10) (N := some 96) #[Y,Y,Y,Y,Y,Y,Y,U,U,U,Y,U,U,U,U,U] HT_ ?_
    refine aY (i := 7) (N := some 93) #[Y,Y,Y,Y,Y,Y,Y,Y,U,U,Y,U,U,U,U,U] HT_ HW_ hHeld ?_
    refine aY (i := 11) (N := some 97) #[Y,Y,Y,Y,Y,Y,Y,Y,U,U,Y,Y,U,U,U,U] HT_ HW_ hHeld ?_
    refine one_ (i := 8) (N := some 94) #[Y,Y,Y,Y,Y,Y,Y,Y,Y,U,Y,Y,U,U,U,U] rfl rfl (one_of HT_.out (by kernel_rfl)) (by decide) (fun K hK => ?_)
    refine goes_ Try.func40 (by kernel_rfl) rfl #[.agg #[bA, .slice bP aH.length bL], .int .i64 0] (by rfl) rfl rfl xR ?_
    with_reducible refine (impl_Own.calls cH bA _ _ aH 0 kI kJ kK kL _ ?side1 ?side2 kM.out).mono ?_
    (case side1 => repeat (first | exact (Kd.R_reads' aK.out).2.2 | (with_reducible refine Kd.C_alloc ?_ _) | (with_reducible refine Kd.C_drewN ?_ _) | (with_reducible refine Kd.C_drew ?_)))
    (case side2 => exact (Kd.R_reads' aK.out).2.1)
    rintro e oJ ⟨rfl, hb⟩
    refine ⟨_, rfl, ?_⟩
    replace aK := aM (kB (kr aK.out) hb)
    replace aV := aM (kB (kr aV.out) hb)
    replace aW := aM (kB (kr aW.out) hb)
    replace aX := aM (kB (kr aX.out) hb)
    replace aZ := aM (kB (kr aZ.out) hb)
    replace aA := rB aA hb
    replace aC := rB aC hb
    replace aD := rB aD hb
    replace aE := rB aE hb
    replace aI := rB aI hb
    replace HB := rS HB hb
    (try clear hb)
    (try clear hb2)
    (try clear hk)
    (try clear hi)
    refine hK.out _ _ ⟨cI aA.out 0, cI aA.out 1⟩ (fun hHeld => ?_)
    clear hK K
    refine norm_ (a' := ?_) ?_ ?_
    rotate_left
    ·show Act.put _ (some 94) _ = _
     simp only [Act.put, sA, sZ, sS, i64_w, i32_w]
     rfl
    refine pY (i := 9) (N := some 95) #[Y,Y,Y,Y,Y,Y,Y,Y,Y,Y,Y,Y,U,U,U,U] HT_ ?_
    refine pY (i := 12) (N := some 98) #[Y,Y,Y,Y,Y,Y,Y,Y,Y,Y,Y,Y,Y,U,U,U] HT_ ?_
    refine pY (i := 13) (N := some 99) #[Y,Y,Y,Y,Y,Y,Y,Y,Y,Y,Y,Y,Y,Y,U,U] HT_ ?_
    refine pY (i := 14) (N := some 100) #[Y,Y,Y,Y,Y,Y,Y,Y,Y,Y,Y,Y,Y,Y,Y,U] HT_ ?_
    refine pY (i := 15) (N := some 2) #[Y,Y,Y,Y,Y,Y,Y,Y,Y,Y,Y,Y,Y,Y,Y,Y] HT_ ?_
    refine done_ (done_of HT_.out (by kernel_rfl)) ?_
    try go_wp2
    go_ret
    exact ⟨by first | rfl | (rw [HX_.out] <;> rfl) | (simp [errW_none, errW_some] <;> rfl) | (simp [*, errW_none, errW_some] <;> rfl), bl HB.out⟩
   subst fW
   have H1 : ((impl_Own.f cH bA aH aG).bind fun cP => (if 0 ≤ aG then (if aG < (aH.length : Int) then ((impl_Better.f cH ((rd_T79 aH aG).f2.f0) ((rd_T79 aH aG).f2.f1) ((rd_T79 aH aG).f2.f2) ((rd_T79 aH aG).f2.f3) cP.1 cP.2.1 cP.2.2.1 cP.2.2.2).bind fun eK => (if eK = true then (if cP.1 < bA then (if cP.2.2.1 = bA then ((impl_Hops.f cH bA aH).bind fun dN => (some (dN == (wrap64 (((rd_T79 aH aG).f3) + 1))))) else (some false)) else (some false)) else (some false))) else (none)) else (none))) = some true := by first | (rw [if_pos rfl] at H; exact H) | (rw [if_pos rfl] at H)
   clear H
   have H := H1
   clear H1
   obtain ⟨⟨dA, dG, cS, dH⟩, iM, H⟩ := hB H
   try dsimp only at H
   have kN := aM iM
   clear iM
   obtain ⟨lE, H⟩ := gI H
   obtain ⟨lF, H⟩ := gI H
   obtain ⟨eK, iN, H⟩ := hB H
   have kO := aM iN
   clear iN
   by_cases fY : eK = true
   case neg =>
    replace fY := Bool.eq_false_iff.mpr fY
    subst fY
    have H1 : (some false) = some true := by first | (rw [if_neg (show ¬ (false = true) by decide)] at H; exact H) | (rw [if_neg (show ¬ (false = true) by decide)] at H)
    clear H
    have H := H1
    clear H1
    exact absurd (Option.some.inj H) (by decide)
   subst fY
   have H1 : (if dA < bA then (if cS = bA then ((impl_Hops.f cH bA aH).bind fun dN => (some (dN == (wrap64 (((rd_T79 aH aG).f3) + 1))))) else (some false)) else (some false)) = some true := by first | (rw [if_pos rfl] at H; exact H) | (rw [if_pos rfl] at H)
   clear H
   have H := H1
   clear H1
   by_cases dX : dA < bA
   case neg =>
    rw [if_neg dX] at H
    have jF := decide_eq_false dX
    clear dX
    exact absurd (Option.some.inj H) (by decide)
   rw [if_pos dX] at H
   have jF := decide_eq_true dX
   clear dX
   by_cases dP : cS = bA
   case neg =>
    rw [if_neg dP] at H
    have jG : (cS == bA) = false := beq_eq_false_iff_ne.mpr dP
    have jH : (cS != bA) = true := bne_iff_ne.mpr dP
    exact absurd (Option.some.inj H) (by decide)
   rw [if_pos dP] at H
   have jG : (cS == bA) = true := beq_iff_eq.mpr dP
   have jH : (cS != bA) = false := bne_eq_false_iff_eq.mpr dP
   clear dP
   obtain ⟨dN, iO, H⟩ := hB H
   have kP := aM iO
   clear iO
   have HX_ := aM (Option.some.inj H)
   clear H
   have lG := dY.out
   have lH := dZ.out
   have lI := eA.out
   have lJ := eB.out
   have lK := eC.out
   have lL := eD.out
   have lM := eE.out
   have lN := eF.out
   have lO := cA2 aA.out
   try go_wp2_with (first | ((with_reducible refine gC (f := 40) rfl ?_); refine gL (some 103) Try.func40 #[.agg #[bA, .slice bP aH.length bL], aG] ?_; (with_reducible refine (impl_Own.calls cH bA _ _ aH aG dA dG cS dH _ ?side1 ?side2 kN.out).mono ?_); (case side1 => repeat (first | exact (Kd.R_reads' aK.out).2.2 | (with_reducible refine Kd.C_alloc ?_ _) | (with_reducible refine Kd.C_drewN ?_ _) | (with_reducible refine Kd.C_drew ?_))); (case side2 => exact (Kd.R_reads' aK.out).2.1); rintro e oK ⟨rfl, hb⟩; refine ⟨_, rfl, ?_⟩; replace aK := aM (kB (kr aK.out) hb); replace aV := aM (kB (kr aV.out) hb); replace aW := aM (kB (kr aW.out) hb); replace aX := aM (kB (kr aX.out) hb); replace aZ := aM (kB (kr aZ.out) hb); replace aA := rB aA hb; replace aC := rB aC hb; replace aD := rB aD hb; replace aE := rB aE hb; replace aI := rB aI hb; replace HB := rS HB hb; (try clear hb)) | ((with_reducible refine gD (N := 13) rfl ?_); refine box_event ?hg (N := 13) ?hd (cs := #[.int .i64 0, .int .i64 0, .int .i64 0, .int .i64 0]) (t := 73) ?hr ?_; (case hd => rfl); (case hg => rfl); (case hr => first | (go_simp; done) | (go_simp; rfl) | (obtain ⟨A_, c_, e_⟩ := Kd.R_slice aK.out; subst e_; (first | (go_simp; done) | (go_simp; rfl))) | (obtain ⟨A_, c_, e_⟩ := Kd.S_slice aK.out; subst e_; (first | (go_simp; done) | (go_simp; rfl))) | (obtain ⟨A_, c_, e_⟩ := Kd.R_slice aV.out; subst e_; (first | (go_simp; done) | (go_simp; rfl))) | (obtain ⟨A_, c_, e_⟩ := Kd.S_slice aV.out; subst e_; (first | (go_simp; done) | (go_simp; rfl))) | (obtain ⟨A_, c_, e_⟩ := Kd.R_slice aW.out; subst e_; (first | (go_simp; done) | (go_simp; rfl))) | (obtain ⟨A_, c_, e_⟩ := Kd.S_slice aW.out; subst e_; (first | (go_simp; done) | (go_simp; rfl))) | (obtain ⟨A_, c_, e_⟩ := Kd.R_slice aX.out; subst e_; (first | (go_simp; done) | (go_simp; rfl))) | (obtain ⟨A_, c_, e_⟩ := Kd.S_slice aX.out; subst e_; (first | (go_simp; done) | (go_simp; rfl))) | (obtain ⟨A_, c_, e_⟩ := Kd.R_slice aZ.out; subst e_; (first | (go_simp; done) | (go_simp; rfl))) | (obtain ⟨A_, c_, e_⟩ := Kd.S_slice aZ.out; subst e_; (first | (go_simp; done) | (go_simp; rfl)))); intro bW hg oL hbox hb; have bN := aM (hbox); have nR := gF hg HB; have nS := gF hg HB; have gS := nM hg aA; have gT := nH hg aA; have gU := nM hg aC; have gV := nH hg aC; have gW := nM hg aD; have gX := nH hg aD; have gY := nM hg aE; have gZ := nH hg aE; have hJ := nM hg aI; have hO := nH hg aI; replace aK := aM (kB (kr aK.out) hb); replace aV := aM (kB (kr aV.out) hb); replace aW := aM (kB (kr aW.out) hb); replace aX := aM (kB (kr aX.out) hb); replace aZ := aM (kB (kr aZ.out) hb); replace aA := rB aA hb; replace aC := rB aC hb; replace aD := rB aD hb; replace aE := rB aE hb; replace aI := rB aI hb; replace HB := rS HB hb; clear hb hbox hg; have lP := gT.out; have lQ := gS.out; have lR := gV.out; have lS := gU.out; have lT := gX.out; have lU := gW.out; have lV := gZ.out; have lW := gY.out; have lX := hO.out; have lY := hJ.out; have lZ := cA4 bN.out))
   refine nW (fun W => Aside0 (Kd.R k79 79 W w.heap.size (fun k_ => some k_ ≠ (.slice bX bO.length bY : Value).ownBlock ∧ some k_ ≠ (.slice bV bM.length bT : Value).ownBlock ∧ some k_ ≠ (.slice bQ bJ.length bR : Value).ownBlock ∧ some k_ ≠ (.slice bZ bK.length cA : Value).ownBlock) (.slice bP aH.length bL) aH) ∧ Aside0 (Kd.R k79 79 W w.heap.size (fun k_ => some k_ ≠ (.slice bP aH.length bL : Value).ownBlock ∧ some k_ ≠ (.slice bV bM.length bT : Value).ownBlock ∧ some k_ ≠ (.slice bQ bJ.length bR : Value).ownBlock ∧ some k_ ≠ (.slice bZ bK.length cA : Value).ownBlock) (.slice bX bO.length bY) bO) ∧ Aside0 (Kd.R k79 79 W w.heap.size (fun k_ => some k_ ≠ (.slice bP aH.length bL : Value).ownBlock ∧ some k_ ≠ (.slice bX bO.length bY : Value).ownBlock ∧ some k_ ≠ (.slice bQ bJ.length bR : Value).ownBlock ∧ some k_ ≠ (.slice bZ bK.length cA : Value).ownBlock) (.slice bV bM.length bT) bM) ∧ Aside0 (Kd.R k79 79 W w.heap.size (fun k_ => some k_ ≠ (.slice bP aH.length bL : Value).ownBlock ∧ some k_ ≠ (.slice bX bO.length bY : Value).ownBlock ∧ some k_ ≠ (.slice bV bM.length bT : Value).ownBlock ∧ some k_ ≠ (.slice bZ bK.length cA : Value).ownBlock) (.slice bQ bJ.length bR) bJ) ∧ Aside0 (Kd.R k79 79 W w.heap.size (fun k_ => some k_ ≠ (.slice bP aH.length bL : Value).ownBlock ∧ some k_ ≠ (.slice bX bO.length bY : Value).ownBlock ∧ some k_ ≠ (.slice bV bM.length bT : Value).ownBlock ∧ some k_ ≠ (.slice bQ bJ.length bR : Value).ownBlock) (.slice bZ bK.length cA) bK) ∧ Aside0 (W.heap[cT]? = some (.cells #[bA, .slice bP aH.length bL] 28 (0, 0))) ∧ Aside0 (W.heap[cO]? = some (.cells #[cW, .slice bX bO.length bY] 28 (0, 0))) ∧ Aside0 (W.heap[cD]? = some (.cells #[cR, .slice bV bM.length bT] 28 (0, 0))) ∧ Aside0 (W.heap[bU]? = some (.cells #[cE, .slice bQ bJ.length bR] 28 (0, 0))) ∧ Aside0 (W.heap[cK]? = some (.cells #[cG, .slice bZ bK.length cA] 28 (0, 0))) ∧ Aside0 (W.heap[bW]? = some (.cells #[dA, dG, cS, dH] 73 (0, 0))) ∧ Aside0 (Below w.heap.size w W)) ⟨⟨kr (Kd.R_mono (kF (p := ⟨bW, 3, none⟩) (kF (p := ⟨bW, 2, none⟩) (kF (p := ⟨bW, 1, none⟩) (kF (p := ⟨bW, 0, none⟩) (Kd.R_types aK.out bN.out (by decide)) (fun _ hk => hk.2) (.int .i64 dA)) (fun _ hk => hk.2) (.int .i64 dG)) (fun _ hk => hk.2) (.int .i64 cS)) (fun _ hk => hk.2) (.int .i64 dH)) (fun _ hk => ⟨hk.1.1, ⟨hk.1.2.1, ⟨hk.1.2.2.1, hk.1.2.2.2⟩⟩⟩))⟩, ⟨kr (Kd.R_mono (kF (p := ⟨bW, 3, none⟩) (kF (p := ⟨bW, 2, none⟩) (kF (p := ⟨bW, 1, none⟩) (kF (p := ⟨bW, 0, none⟩) (Kd.R_types aV.out bN.out (by decide)) (fun _ hk => hk.2) (.int .i64 dA)) (fun _ hk => hk.2) (.int .i64 dG)) (fun _ hk => hk.2) (.int .i64 cS)) (fun _ hk => hk.2) (.int .i64 dH)) (fun _ hk => ⟨hk.1.1, ⟨hk.1.2.1, ⟨hk.1.2.2.1, hk.1.2.2.2⟩⟩⟩))⟩, ⟨kr (Kd.R_mono (kF (p := ⟨bW, 3, none⟩) (kF (p := ⟨bW, 2, none⟩) (kF (p := ⟨bW, 1, none⟩) (kF (p := ⟨bW, 0, none⟩) (Kd.R_types aW.out bN.out (by decide)) (fun _ hk => hk.2) (.int .i64 dA)) (fun _ hk => hk.2) (.int .i64 dG)) (fun _ hk => hk.2) (.int .i64 cS)) (fun _ hk => hk.2) (.int .i64 dH)) (fun _ hk => ⟨hk.1.1, ⟨hk.1.2.1, ⟨hk.1.2.2.1, hk.1.2.2.2⟩⟩⟩))⟩, ⟨kr (Kd.R_mono (kF (p := ⟨bW, 3, none⟩) (kF (p := ⟨bW, 2, none⟩) (kF (p := ⟨bW, 1, none⟩) (kF (p := ⟨bW, 0, none⟩) (Kd.R_types aX.out bN.out (by decide)) (fun _ hk => hk.2) (.int .i64 dA)) (fun _ hk => hk.2) (.int .i64 dG)) (fun _ hk => hk.2) (.int .i64 cS)) (fun _ hk => hk.2) (.int .i64 dH)) (fun _ hk => ⟨hk.1.1, ⟨hk.1.2.1, ⟨hk.1.2.2.1, hk.1.2.2.2⟩⟩⟩))⟩, ⟨kr (Kd.R_mono (kF (p := ⟨bW, 3, none⟩) (kF (p := ⟨bW, 2, none⟩) (kF (p := ⟨bW, 1, none⟩) (kF (p := ⟨bW, 0, none⟩) (Kd.R_types aZ.out bN.out (by decide)) (fun _ hk => hk.2) (.int .i64 dA)) (fun _ hk => hk.2) (.int .i64 dG)) (fun _ hk => hk.2) (.int .i64 cS)) (fun _ hk => hk.2) (.int .i64 dH)) (fun _ hk => ⟨hk.1.1, ⟨hk.1.2.1, ⟨hk.1.2.2.1, hk.1.2.2.2⟩⟩⟩))⟩, ⟨fm aA.out⟩, ⟨fm aC.out⟩, ⟨fm aD.out⟩, ⟨fm aE.out⟩, ⟨fm aI.out⟩, ⟨bm bN.out⟩, ⟨bl HB.out⟩⟩ ?_
   intro kQ nn_
   replace aK := nn_.1
   replace aV := nn_.2.1
   replace aW := nn_.2.2.1
   replace aX := nn_.2.2.2.1
   replace aZ := nn_.2.2.2.2.1
   replace aA := nn_.2.2.2.2.2.1
   replace aC := nn_.2.2.2.2.2.2.1
   replace aD := nn_.2.2.2.2.2.2.2.1
   replace aE := nn_.2.2.2.2.2.2.2.2.1
   replace aI := nn_.2.2.2.2.2.2.2.2.2.1
   replace bN := nn_.2.2.2.2.2.2.2.2.2.2.1
   replace HB := nn_.2.2.2.2.2.2.2.2.2.2.2
   clear nn_
   replace aK := aM (Kd.R_drew aK.out)
   replace aV := aM (Kd.R_drew aV.out)
   replace aW := aM (Kd.R_drew aW.out)
   replace aX := aM (Kd.R_drew aX.out)
   replace aZ := aM (Kd.R_drew aZ.out)
   replace aA := aM (blk_drew aA.out)
   replace aC := aM (blk_drew aC.out)
   replace aD := aM (blk_drew aD.out)
   replace aE := aM (blk_drew aE.out)
   replace aI := aM (blk_drew aI.out)
   replace bN := aM (blk_drew bN.out)
   replace HB := aM (below_drew1 HB.out)
   have iC : 0 ≤ (aG : Int) := dT
   have iD : aG < (aH.length : Int) := dT
   obtain ⟨bH, kR, eR, eS, eT, eU, eV, eW, eX, eY, eZ, fA, eM⟩ := at_T79 (Kd.R_reads' aK.out).2.2 aG iC iD
   cases kR
   replace iC := eq_true iC
   replace iD := eq_true iD
   have iE : 0 ≤ (aG : Int) := dT
   have iF : aG < (aH.length : Int) := dT
   obtain ⟨jR, kS, fB, fC, fD, fE, fF, fG, fH, fI, fK, fL, eN⟩ := at_T79 (Kd.R_reads' aK.out).2.2 aG iE iF
   obtain rfl : bH = jR := (by injection kS)
   replace iE := eq_true iE
   replace iF := eq_true iF
   refine start_ (n := 35) (S := fun w' => cT2 w' cT (.int .i64 bA) (.slice (some bH) aH.length bL) (cT4 w' bW (.int .i64 dA) (.int .i64 dG) (.int .i64 cS) (.int .i64 dH) (w'.cell? (bH.add ((aG).toNat * 11)) = some ((rd_T79 aH aG).f0) ∧ w'.cell? ⟨(bH.add ((aG).toNat * 11)).block, (bH.add ((aG).toNat * 11)).off + 1, none⟩ = some ((rd_T79 aH aG).f1) ∧ w'.cell? ⟨(bH.add ((aG).toNat * 11)).block, (bH.add ((aG).toNat * 11)).off + 2, none⟩ = some ((rd_T79 aH aG).f2.f0) ∧ w'.cell? ⟨(bH.add ((aG).toNat * 11)).block, (bH.add ((aG).toNat * 11)).off + 3, none⟩ = some ((rd_T79 aH aG).f2.f1) ∧ w'.cell? ⟨(bH.add ((aG).toNat * 11)).block, (bH.add ((aG).toNat * 11)).off + 4, none⟩ = some ((rd_T79 aH aG).f2.f2) ∧ w'.cell? ⟨(bH.add ((aG).toNat * 11)).block, (bH.add ((aG).toNat * 11)).off + 5, none⟩ = some ((rd_T79 aH aG).f2.f3) ∧ w'.cell? ⟨(bH.add ((aG).toNat * 11)).block, (bH.add ((aG).toNat * 11)).off + 6, none⟩ = some ((rd_T79 aH aG).f3) ∧ w'.cell? ⟨(bH.add ((aG).toNat * 11)).block, (bH.add ((aG).toNat * 11)).off + 7, none⟩ = some ((rd_T79 aH aG).f4) ∧ w'.cell? ⟨(bH.add ((aG).toNat * 11)).block, (bH.add ((aG).toNat * 11)).off + 8, none⟩ = some ((rd_T79 aH aG).f5) ∧ w'.cell? ⟨(bH.add ((aG).toNat * 11)).block, (bH.add ((aG).toNat * 11)).off + 9, none⟩ = some ((rd_T79 aH aG).f6) ∧ w'.cell? ⟨(bH.add ((aG).toNat * 11)).block, (bH.add ((aG).toNat * 11)).off + 10, none⟩ = some ((rd_T79 aH aG).f7) ∧ w'.cell? (bH.add ((aG).toNat * 11)) = some ((rd_T79 aH aG).f0) ∧ w'.cell? ⟨(bH.add ((aG).toNat * 11)).block, (bH.add ((aG).toNat * 11)).off + 1, none⟩ = some ((rd_T79 aH aG).f1) ∧ w'.cell? ⟨(bH.add ((aG).toNat * 11)).block, (bH.add ((aG).toNat * 11)).off + 2, none⟩ = some ((rd_T79 aH aG).f2.f0) ∧ w'.cell? ⟨(bH.add ((aG).toNat * 11)).block, (bH.add ((aG).toNat * 11)).off + 3, none⟩ = some ((rd_T79 aH aG).f2.f1) ∧ w'.cell? ⟨(bH.add ((aG).toNat * 11)).block, (bH.add ((aG).toNat * 11)).off + 4, none⟩ = some ((rd_T79 aH aG).f2.f2) ∧ w'.cell? ⟨(bH.add ((aG).toNat * 11)).block, (bH.add ((aG).toNat * 11)).off + 5, none⟩ = some ((rd_T79 aH aG).f2.f3) ∧ w'.cell? ⟨(bH.add ((aG).toNat * 11)).block, (bH.add ((aG).toNat * 11)).off + 6, none⟩ = some ((rd_T79 aH aG).f3) ∧ w'.cell? ⟨(bH.add ((aG).toNat * 11)).block, (bH.add ((aG).toNat * 11)).off + 7, none⟩ = some ((rd_T79 aH aG).f4) ∧ w'.cell? ⟨(bH.add ((aG).toNat * 11)).block, (bH.add ((aG).toNat * 11)).off + 8, none⟩ = some ((rd_T79 aH aG).f5) ∧ w'.cell? ⟨(bH.add ((aG).toNat * 11)).block, (bH.add ((aG).toNat * 11)).off + 9, none⟩ = some ((rd_T79 aH aG).f6) ∧ w'.cell? ⟨(bH.add ((aG).toNat * 11)).block, (bH.add ((aG).toNat * 11)).off + 10, none⟩ = some ((rd_T79 aH aG).f7)))) (ds := []) (dn 35 0) (by kernel_rfl) rfl rfl ⟨cI aA.out 0, cI aA.out 1, cI bN.out 0, cI bN.out 1, cI bN.out 2, cI bN.out 3, eR, eS, eT, eU, eV, eW, eX, eY, eZ, fA, eM, fB, fC, fD, fE, fF, fG, fH, fI, fK, fL, eN⟩ (fun hHeld => ?_); refine with_tabW laws_FnRootPorts.tab15 laws_FnRootPorts.bits15 (fun HT_ HW_ => ?_)
   generalize kQ.drew = oM at aK aV aW aX aZ aA aC aD aE aI bN HB eR eS eM eT eU eV eW eX eY eZ fA fB fC eN fD fE fF fG fH fI fK fL hHeld ⊢
   refine nY (N := some 104) HT_ ?_
   refine pY (i := 2) (N := some 106) #[Y,U,Y,U,U,U,U,U,U,U,U,U,U,U,U,U,U,U,U,U,U,U,U,U,U,U,U,U,U,U,U,U,U,U,U] HT_ ?_
   refine aY (i := 1) (N := some 105) #[Y,Y,Y,U,U,U,U,U,U,U,U,U,U,U,U,U,U,U,U,U,U,U,U,U,U,U,U,U,U,U,U,U,U,U,U] HT_ HW_ hHeld ?_
   refine pY (i := 3) (N := some 107) #[Y,Y,Y,Y,U,U,U,U,U,U,U,U,U,U,U,U,U,U,U,U,U,U,U,U,U,U,U,U,U,U,U,U,U,U,U] HT_ ?_
   refine pY (i := 4) (N := some 108) #[Y,Y,Y,Y,Y,U,U,U,U,U,U,U,U,U,U,U,U,U,U,U,U,U,U,U,U,U,U,U,U,U,U,U,U,U,U] HT_ ?_
   refine aY (i := 5) (N := some 109) #[Y,Y,Y,Y,Y,Y,U,U,U,U,U,U,U,U,U,U,U,U,U,U,U,U,U,U,U,U,U,U,U,U,U,U,U,U,U] HT_ HW_ hHeld ?_
   refine aY (i := 6) (N := some 110) #[Y,Y,Y,Y,Y,Y,Y,U,U,U,U,U,U,U,U,U,U,U,U,U,U,U,U,U,U,U,U,U,U,U,U,U,U,U,U] HT_ HW_ hHeld ?_
   refine one_ (i := 7) (N := some 111) #[Y,Y,Y,Y,Y,Y,Y,Y,U,U,U,U,U,U,U,U,U,U,U,U,U,U,U,U,U,U,U,U,U,U,U,U,U,U,U] rfl rfl (one_of HT_.out (by kernel_rfl)) (by decide) (fun K hK => ?_)
   refine goes_ Try.func47 (by kernel_rfl) rfl #[.agg #[((rd_T79 aH aG).f2.f0), ((rd_T79 aH aG).f2.f1), ((rd_T79 aH aG).f2.f2), ((rd_T79 aH aG).f2.f3)], .agg #[dA, dG, cS, dH]] (by rfl) rfl rfl xR ?_
   with_reducible refine (impl_Better.calls cH ((rd_T79 aH aG).f2.f0) ((rd_T79 aH aG).f2.f1) ((rd_T79 aH aG).f2.f2) ((rd_T79 aH aG).f2.f3) dA dG cS dH true _ kO.out).mono ?_
   rintro e oO ⟨rfl, hb⟩
   have HS6_ := (hb.cell (World.block_lt_of_cell? _ _ (hHeld.2.2.2.2.2.2.1))).trans (hHeld.2.2.2.2.2.2.1)
   have HS7_ := (hb.cell (World.block_lt_of_cell? _ _ (hHeld.2.2.2.2.2.2.2.1))).trans (hHeld.2.2.2.2.2.2.2.1)
   have HS8_ := (hb.cell (World.block_lt_of_cell? _ _ (hHeld.2.2.2.2.2.2.2.2.1))).trans (hHeld.2.2.2.2.2.2.2.2.1)
   have HS9_ := (hb.cell (World.block_lt_of_cell? _ _ (hHeld.2.2.2.2.2.2.2.2.2.1))).trans (hHeld.2.2.2.2.2.2.2.2.2.1)
   have HS10_ := (hb.cell (World.block_lt_of_cell? _ _ (hHeld.2.2.2.2.2.2.2.2.2.2.1))).trans (hHeld.2.2.2.2.2.2.2.2.2.2.1)
   have HS11_ := (hb.cell (World.block_lt_of_cell? _ _ (hHeld.2.2.2.2.2.2.2.2.2.2.2.1))).trans (hHeld.2.2.2.2.2.2.2.2.2.2.2.1)
   have HS12_ := (hb.cell (World.block_lt_of_cell? _ _ (hHeld.2.2.2.2.2.2.2.2.2.2.2.2.1))).trans (hHeld.2.2.2.2.2.2.2.2.2.2.2.2.1)
   have HS13_ := (hb.cell (World.block_lt_of_cell? _ _ (hHeld.2.2.2.2.2.2.2.2.2.2.2.2.2.1))).trans (hHeld.2.2.2.2.2.2.2.2.2.2.2.2.2.1)
   have HS14_ := (hb.cell (World.block_lt_of_cell? _ _ (hHeld.2.2.2.2.2.2.2.2.2.2.2.2.2.2.1))).trans (hHeld.2.2.2.2.2.2.2.2.2.2.2.2.2.2.1)
   have HS15_ := (hb.cell (World.block_lt_of_cell? _ _ (hHeld.2.2.2.2.2.2.2.2.2.2.2.2.2.2.2.1))).trans (hHeld.2.2.2.2.2.2.2.2.2.2.2.2.2.2.2.1)
   have HS16_ := (hb.cell (World.block_lt_of_cell? _ _ (hHeld.2.2.2.2.2.2.2.2.2.2.2.2.2.2.2.2.1))).trans (hHeld.2.2.2.2.2.2.2.2.2.2.2.2.2.2.2.2.1)
   have HS17_ := (hb.cell (World.block_lt_of_cell? _ _ (hHeld.2.2.2.2.2.2.2.2.2.2.2.2.2.2.2.2.2.1))).trans (hHeld.2.2.2.2.2.2.2.2.2.2.2.2.2.2.2.2.2.1)
   have HS18_ := (hb.cell (World.block_lt_of_cell? _ _ (hHeld.2.2.2.2.2.2.2.2.2.2.2.2.2.2.2.2.2.2.1))).trans (hHeld.2.2.2.2.2.2.2.2.2.2.2.2.2.2.2.2.2.2.1)
   have HS19_ := (hb.cell (World.block_lt_of_cell? _ _ (hHeld.2.2.2.2.2.2.2.2.2.2.2.2.2.2.2.2.2.2.2.1))).trans (hHeld.2.2.2.2.2.2.2.2.2.2.2.2.2.2.2.2.2.2.2.1)
   have HS20_ := (hb.cell (World.block_lt_of_cell? _ _ (hHeld.2.2.2.2.2.2.2.2.2.2.2.2.2.2.2.2.2.2.2.2.1))).trans (hHeld.2.2.2.2.2.2.2.2.2.2.2.2.2.2.2.2.2.2.2.2.1)
   have HS21_ := (hb.cell (World.block_lt_of_cell? _ _ (hHeld.2.2.2.2.2.2.2.2.2.2.2.2.2.2.2.2.2.2.2.2.2.1))).trans (hHeld.2.2.2.2.2.2.2.2.2.2.2.2.2.2.2.2.2.2.2.2.2.1)
   have HS22_ := (hb.cell (World.block_lt_of_cell? _ _ (hHeld.2.2.2.2.2.2.2.2.2.2.2.2.2.2.2.2.2.2.2.2.2.2.1))).trans (hHeld.2.2.2.2.2.2.2.2.2.2.2.2.2.2.2.2.2.2.2.2.2.2.1)
   have HS23_ := (hb.cell (World.block_lt_of_cell? _ _ (hHeld.2.2.2.2.2.2.2.2.2.2.2.2.2.2.2.2.2.2.2.2.2.2.2.1))).trans (hHeld.2.2.2.2.2.2.2.2.2.2.2.2.2.2.2.2.2.2.2.2.2.2.2.1)
   have HS24_ := (hb.cell (World.block_lt_of_cell? _ _ (hHeld.2.2.2.2.2.2.2.2.2.2.2.2.2.2.2.2.2.2.2.2.2.2.2.2.1))).trans (hHeld.2.2.2.2.2.2.2.2.2.2.2.2.2.2.2.2.2.2.2.2.2.2.2.2.1)
   have HS25_ := (hb.cell (World.block_lt_of_cell? _ _ (hHeld.2.2.2.2.2.2.2.2.2.2.2.2.2.2.2.2.2.2.2.2.2.2.2.2.2.1))).trans (hHeld.2.2.2.2.2.2.2.2.2.2.2.2.2.2.2.2.2.2.2.2.2.2.2.2.2.1)
   have HS26_ := (hb.cell (World.block_lt_of_cell? _ _ (hHeld.2.2.2.2.2.2.2.2.2.2.2.2.2.2.2.2.2.2.2.2.2.2.2.2.2.2.1))).trans (hHeld.2.2.2.2.2.2.2.2.2.2.2.2.2.2.2.2.2.2.2.2.2.2.2.2.2.2.1)
   have HS27_ := (hb.cell (World.block_lt_of_cell? _ _ (hHeld.2.2.2.2.2.2.2.2.2.2.2.2.2.2.2.2.2.2.2.2.2.2.2.2.2.2.2))).trans (hHeld.2.2.2.2.2.2.2.2.2.2.2.2.2.2.2.2.2.2.2.2.2.2.2.2.2.2.2)
   refine ⟨_, rfl, ?_⟩
   replace aK := aM (kB (kr aK.out) hb)
   replace aV := aM (kB (kr aV.out) hb)
   replace aW := aM (kB (kr aW.out) hb)
   replace aX := aM (kB (kr aX.out) hb)
   replace aZ := aM (kB (kr aZ.out) hb)
   replace aA := rB aA hb
   replace aC := rB aC hb
   replace aD := rB aD hb
   replace aE := rB aE hb
   replace aI := rB aI hb
   replace bN := rB bN hb
   replace HB := rS HB hb
   (try clear hb)
   (try clear hb2)
   (try clear hk)
   (try clear hi)
   refine hK.out _ _ ⟨cI aA.out 0, cI aA.out 1, cI bN.out 0, cI bN.out 1, cI bN.out 2, cI bN.out 3, HS6_, HS7_, HS8_, HS9_, HS10_, HS11_, HS12_, HS13_, HS14_, HS15_, HS16_, HS17_, HS18_, HS19_, HS20_, HS21_, HS22_, HS23_, HS24_, HS25_, HS26_, HS27_⟩ (fun hHeld => ?_)
   clear hK K
   refine norm_ (a' := ?_) ?_ ?_
   rotate_left
   ·show Act.put _ (some 111) _ = _
    simp only [Act.put, sA, sZ, sS, i64_w, i32_w]
    rfl
   refine pY (i := 8) (N := some 112) #[Y,Y,Y,Y,Y,Y,Y,Y,Y,U,U,U,U,U,U,U,U,U,U,U,U,U,U,U,U,U,U,U,U,U,U,U,U,U,U] HT_ ?_
   refine pY (i := 9) (N := some 113) #[Y,Y,Y,Y,Y,Y,Y,Y,Y,Y,U,U,U,U,U,U,U,U,U,U,U,U,U,U,U,U,U,U,U,U,U,U,U,U,U] HT_ ?_
   refine pY (i := 11) (N := some 115) #[Y,Y,Y,Y,Y,Y,Y,Y,Y,Y,U,Y,U,U,U,U,U,U,U,U,U,U,U,U,U,U,U,U,U,U,U,U,U,U,U] HT_ ?_
   refine aY (i := 10) (N := some 114) #[Y,Y,Y,Y,Y,Y,Y,Y,Y,Y,Y,Y,U,U,U,U,U,U,U,U,U,U,U,U,U,U,U,U,U,U,U,U,U,U,U] HT_ HW_ hHeld ?_
   refine aY (i := 12) (N := some 116) #[Y,Y,Y,Y,Y,Y,Y,Y,Y,Y,Y,Y,Y,U,U,U,U,U,U,U,U,U,U,U,U,U,U,U,U,U,U,U,U,U,U] HT_ HW_ hHeld ?_
   refine pY (i := 13) (N := some 117) #[Y,Y,Y,Y,Y,Y,Y,Y,Y,Y,Y,Y,Y,Y,U,U,U,U,U,U,U,U,U,U,U,U,U,U,U,U,U,U,U,U,U] HT_ ?_
   refine pY (i := 14) (N := some 118) #[Y,Y,Y,Y,Y,Y,Y,Y,Y,Y,Y,Y,Y,Y,Y,U,U,U,U,U,U,U,U,U,U,U,U,U,U,U,U,U,U,U,U] HT_ ?_
   refine pY (i := 15) (N := some 119) #[Y,Y,Y,Y,Y,Y,Y,Y,Y,Y,Y,Y,Y,Y,Y,Y,U,U,U,U,U,U,U,U,U,U,U,U,U,U,U,U,U,U,U] HT_ ?_
   refine pY (i := 16) (N := some 120) #[Y,Y,Y,Y,Y,Y,Y,Y,Y,Y,Y,Y,Y,Y,Y,Y,Y,U,U,U,U,U,U,U,U,U,U,U,U,U,U,U,U,U,U] HT_ ?_
   refine pY (i := 18) (N := some 122) #[Y,Y,Y,Y,Y,Y,Y,Y,Y,Y,Y,Y,Y,Y,Y,Y,Y,U,Y,U,U,U,U,U,U,U,U,U,U,U,U,U,U,U,U] HT_ ?_
   refine aY (i := 17) (N := some 121) #[Y,Y,Y,Y,Y,Y,Y,Y,Y,Y,Y,Y,Y,Y,Y,Y,Y,Y,Y,U,U,U,U,U,U,U,U,U,U,U,U,U,U,U,U] HT_ HW_ hHeld ?_
   refine aY (i := 19) (N := some 123) #[Y,Y,Y,Y,Y,Y,Y,Y,Y,Y,Y,Y,Y,Y,Y,Y,Y,Y,Y,Y,U,U,U,U,U,U,U,U,U,U,U,U,U,U,U] HT_ HW_ hHeld ?_
   refine pY (i := 20) (N := some 124) #[Y,Y,Y,Y,Y,Y,Y,Y,Y,Y,Y,Y,Y,Y,Y,Y,Y,Y,Y,Y,Y,U,U,U,U,U,U,U,U,U,U,U,U,U,U] HT_ ?_
   refine pY (i := 21) (N := some 125) #[Y,Y,Y,Y,Y,Y,Y,Y,Y,Y,Y,Y,Y,Y,Y,Y,Y,Y,Y,Y,Y,Y,U,U,U,U,U,U,U,U,U,U,U,U,U] HT_ ?_
   refine pY (i := 22) (N := some 126) #[Y,Y,Y,Y,Y,Y,Y,Y,Y,Y,Y,Y,Y,Y,Y,Y,Y,Y,Y,Y,Y,Y,Y,U,U,U,U,U,U,U,U,U,U,U,U] HT_ ?_
   refine pY (i := 25) (N := some 129) #[Y,Y,Y,Y,Y,Y,Y,Y,Y,Y,Y,Y,Y,Y,Y,Y,Y,Y,Y,Y,Y,Y,Y,U,U,Y,U,U,U,U,U,U,U,U,U] HT_ ?_
   refine pY (i := 27) (N := some 131) #[Y,Y,Y,Y,Y,Y,Y,Y,Y,Y,Y,Y,Y,Y,Y,Y,Y,Y,Y,Y,Y,Y,Y,U,U,Y,U,Y,U,U,U,U,U,U,U] HT_ ?_
   refine aY (i := 23) (N := some 127) #[Y,Y,Y,Y,Y,Y,Y,Y,Y,Y,Y,Y,Y,Y,Y,Y,Y,Y,Y,Y,Y,Y,Y,Y,U,Y,U,Y,U,U,U,U,U,U,U] HT_ HW_ hHeld ?_
   refine aY (i := 26) (N := some 130) #[Y,Y,Y,Y,Y,Y,Y,Y,Y,Y,Y,Y,Y,Y,Y,Y,Y,Y,Y,Y,Y,Y,Y,Y,U,Y,Y,Y,U,U,U,U,U,U,U] HT_ HW_ hHeld ?_
   refine pY (i := 28) (N := some 132) #[Y,Y,Y,Y,Y,Y,Y,Y,Y,Y,Y,Y,Y,Y,Y,Y,Y,Y,Y,Y,Y,Y,Y,Y,U,Y,Y,Y,Y,U,U,U,U,U,U] HT_ ?_
   refine pY (i := 29) (N := some 133) #[Y,Y,Y,Y,Y,Y,Y,Y,Y,Y,Y,Y,Y,Y,Y,Y,Y,Y,Y,Y,Y,Y,Y,Y,U,Y,Y,Y,Y,Y,U,U,U,U,U] HT_ ?_
   refine aY (i := 30) (N := some 134) #[Y,Y,Y,Y,Y,Y,Y,Y,Y,Y,Y,Y,Y,Y,Y,Y,Y,Y,Y,Y,Y,Y,Y,Y,U,Y,Y,Y,Y,Y,Y,U,U,U,U] HT_ HW_ hHeld ?_
   refine pY (i := 31) (N := some 135) #[Y,Y,Y,Y,Y,Y,Y,Y,Y,Y,Y,Y,Y,Y,Y,Y,Y,Y,Y,Y,Y,Y,Y,Y,U,Y,Y,Y,Y,Y,Y,Y,U,U,U] HT_ ?_
   refine one_ (i := 24) (N := some 128) #[Y,Y,Y,Y,Y,Y,Y,Y,Y,Y,Y,Y,Y,Y,Y,Y,Y,Y,Y,Y,Y,Y,Y,Y,Y,Y,Y,Y,Y,Y,Y,Y,U,U,U] rfl rfl (one_of HT_.out (by kernel_rfl)) (by decide) (fun K hK => ?_)
   refine goes_ Try.func43 (by kernel_rfl) rfl #[.agg #[bA, .slice (some bH) aH.length bL]] (by rfl) rfl rfl xR ?_
   with_reducible refine (impl_Hops.calls cH bA _ _ aH dN _ ?side1 ?side2 kP.out).mono ?_
   (case side1 => repeat (first | exact (Kd.R_reads' aK.out).2.2 | (with_reducible refine Kd.C_alloc ?_ _) | (with_reducible refine Kd.C_drewN ?_ _) | (with_reducible refine Kd.C_drew ?_)))
   (case side2 => exact (Kd.R_reads' aK.out).2.1)
   rintro e oP ⟨rfl, hb⟩
   have HS6_ := (hb.cell (World.block_lt_of_cell? _ _ (hHeld.2.2.2.2.2.2.1))).trans (hHeld.2.2.2.2.2.2.1)
   have HS7_ := (hb.cell (World.block_lt_of_cell? _ _ (hHeld.2.2.2.2.2.2.2.1))).trans (hHeld.2.2.2.2.2.2.2.1)
   have HS8_ := (hb.cell (World.block_lt_of_cell? _ _ (hHeld.2.2.2.2.2.2.2.2.1))).trans (hHeld.2.2.2.2.2.2.2.2.1)
   have HS9_ := (hb.cell (World.block_lt_of_cell? _ _ (hHeld.2.2.2.2.2.2.2.2.2.1))).trans (hHeld.2.2.2.2.2.2.2.2.2.1)
   have HS10_ := (hb.cell (World.block_lt_of_cell? _ _ (hHeld.2.2.2.2.2.2.2.2.2.2.1))).trans (hHeld.2.2.2.2.2.2.2.2.2.2.1)
   have HS11_ := (hb.cell (World.block_lt_of_cell? _ _ (hHeld.2.2.2.2.2.2.2.2.2.2.2.1))).trans (hHeld.2.2.2.2.2.2.2.2.2.2.2.1)
   have HS12_ := (hb.cell (World.block_lt_of_cell? _ _ (hHeld.2.2.2.2.2.2.2.2.2.2.2.2.1))).trans (hHeld.2.2.2.2.2.2.2.2.2.2.2.2.1)
   have HS13_ := (hb.cell (World.block_lt_of_cell? _ _ (hHeld.2.2.2.2.2.2.2.2.2.2.2.2.2.1))).trans (hHeld.2.2.2.2.2.2.2.2.2.2.2.2.2.1)
   have HS14_ := (hb.cell (World.block_lt_of_cell? _ _ (hHeld.2.2.2.2.2.2.2.2.2.2.2.2.2.2.1))).trans (hHeld.2.2.2.2.2.2.2.2.2.2.2.2.2.2.1)
   have HS15_ := (hb.cell (World.block_lt_of_cell? _ _ (hHeld.2.2.2.2.2.2.2.2.2.2.2.2.2.2.2.1))).trans (hHeld.2.2.2.2.2.2.2.2.2.2.2.2.2.2.2.1)
   have HS16_ := (hb.cell (World.block_lt_of_cell? _ _ (hHeld.2.2.2.2.2.2.2.2.2.2.2.2.2.2.2.2.1))).trans (hHeld.2.2.2.2.2.2.2.2.2.2.2.2.2.2.2.2.1)
   have HS17_ := (hb.cell (World.block_lt_of_cell? _ _ (hHeld.2.2.2.2.2.2.2.2.2.2.2.2.2.2.2.2.2.1))).trans (hHeld.2.2.2.2.2.2.2.2.2.2.2.2.2.2.2.2.2.1)
   have HS18_ := (hb.cell (World.block_lt_of_cell? _ _ (hHeld.2.2.2.2.2.2.2.2.2.2.2.2.2.2.2.2.2.2.1))).trans (hHeld.2.2.2.2.2.2.2.2.2.2.2.2.2.2.2.2.2.2.1)
   have HS19_ := (hb.cell (World.block_lt_of_cell? _ _ (hHeld.2.2.2.2.2.2.2.2.2.2.2.2.2.2.2.2.2.2.2.1))).trans (hHeld.2.2.2.2.2.2.2.2.2.2.2.2.2.2.2.2.2.2.2.1)
   have HS20_ := (hb.cell (World.block_lt_of_cell? _ _ (hHeld.2.2.2.2.2.2.2.2.2.2.2.2.2.2.2.2.2.2.2.2.1))).trans (hHeld.2.2.2.2.2.2.2.2.2.2.2.2.2.2.2.2.2.2.2.2.1)
   have HS21_ := (hb.cell (World.block_lt_of_cell? _ _ (hHeld.2.2.2.2.2.2.2.2.2.2.2.2.2.2.2.2.2.2.2.2.2.1))).trans (hHeld.2.2.2.2.2.2.2.2.2.2.2.2.2.2.2.2.2.2.2.2.2.1)
   have HS22_ := (hb.cell (World.block_lt_of_cell? _ _ (hHeld.2.2.2.2.2.2.2.2.2.2.2.2.2.2.2.2.2.2.2.2.2.2.1))).trans (hHeld.2.2.2.2.2.2.2.2.2.2.2.2.2.2.2.2.2.2.2.2.2.2.1)
   have HS23_ := (hb.cell (World.block_lt_of_cell? _ _ (hHeld.2.2.2.2.2.2.2.2.2.2.2.2.2.2.2.2.2.2.2.2.2.2.2.1))).trans (hHeld.2.2.2.2.2.2.2.2.2.2.2.2.2.2.2.2.2.2.2.2.2.2.2.1)
   have HS24_ := (hb.cell (World.block_lt_of_cell? _ _ (hHeld.2.2.2.2.2.2.2.2.2.2.2.2.2.2.2.2.2.2.2.2.2.2.2.2.1))).trans (hHeld.2.2.2.2.2.2.2.2.2.2.2.2.2.2.2.2.2.2.2.2.2.2.2.2.1)
   have HS25_ := (hb.cell (World.block_lt_of_cell? _ _ (hHeld.2.2.2.2.2.2.2.2.2.2.2.2.2.2.2.2.2.2.2.2.2.2.2.2.2.1))).trans (hHeld.2.2.2.2.2.2.2.2.2.2.2.2.2.2.2.2.2.2.2.2.2.2.2.2.2.1)
   have HS26_ := (hb.cell (World.block_lt_of_cell? _ _ (hHeld.2.2.2.2.2.2.2.2.2.2.2.2.2.2.2.2.2.2.2.2.2.2.2.2.2.2.1))).trans (hHeld.2.2.2.2.2.2.2.2.2.2.2.2.2.2.2.2.2.2.2.2.2.2.2.2.2.2.1)
   have HS27_ := (hb.cell (World.block_lt_of_cell? _ _ (hHeld.2.2.2.2.2.2.2.2.2.2.2.2.2.2.2.2.2.2.2.2.2.2.2.2.2.2.2))).trans (hHeld.2.2.2.2.2.2.2.2.2.2.2.2.2.2.2.2.2.2.2.2.2.2.2.2.2.2.2)
   refine ⟨_, rfl, ?_⟩
   replace aK := aM (kB (kr aK.out) hb)
   replace aV := aM (kB (kr aV.out) hb)
   replace aW := aM (kB (kr aW.out) hb)
   replace aX := aM (kB (kr aX.out) hb)
   replace aZ := aM (kB (kr aZ.out) hb)
   replace aA := rB aA hb
   replace aC := rB aC hb
   replace aD := rB aD hb
   replace aE := rB aE hb
   replace aI := rB aI hb
   replace bN := rB bN hb
   replace HB := rS HB hb
   (try clear hb)
   (try clear hb2)
   (try clear hk)
   (try clear hi)
   refine hK.out _ _ ⟨cI aA.out 0, cI aA.out 1, cI bN.out 0, cI bN.out 1, cI bN.out 2, cI bN.out 3, HS6_, HS7_, HS8_, HS9_, HS10_, HS11_, HS12_, HS13_, HS14_, HS15_, HS16_, HS17_, HS18_, HS19_, HS20_, HS21_, HS22_, HS23_, HS24_, HS25_, HS26_, HS27_⟩ (fun hHeld => ?_)
   clear hK K
   refine norm_ (a' := ?_) ?_ ?_
   rotate_left
   ·show Act.put _ (some 128) _ = _
    simp only [Act.put, sA, sZ, sS, i64_w, i32_w]
    rfl
   refine pY (i := 32) (N := some 136) #[Y,Y,Y,Y,Y,Y,Y,Y,Y,Y,Y,Y,Y,Y,Y,Y,Y,Y,Y,Y,Y,Y,Y,Y,Y,Y,Y,Y,Y,Y,Y,Y,Y,U,U] HT_ ?_
   refine pY (i := 33) (N := some 137) #[Y,Y,Y,Y,Y,Y,Y,Y,Y,Y,Y,Y,Y,Y,Y,Y,Y,Y,Y,Y,Y,Y,Y,Y,Y,Y,Y,Y,Y,Y,Y,Y,Y,Y,U] HT_ ?_
   refine pY (i := 34) (N := some 2) #[Y,Y,Y,Y,Y,Y,Y,Y,Y,Y,Y,Y,Y,Y,Y,Y,Y,Y,Y,Y,Y,Y,Y,Y,Y,Y,Y,Y,Y,Y,Y,Y,Y,Y,Y] HT_ ?_
   refine done_ (done_of HT_.out (by kernel_rfl)) ?_
   try go_wp2
   go_ret
   exact ⟨by first | rfl | (rw [HX_.out] <;> rfl) | (simp [errW_none, errW_some] <;> rfl) | (simp [*, errW_none, errW_some] <;> rfl), bl HB.out⟩

end Go.Proofs.Ythmijfekdeagpaa.PFnRootPorts

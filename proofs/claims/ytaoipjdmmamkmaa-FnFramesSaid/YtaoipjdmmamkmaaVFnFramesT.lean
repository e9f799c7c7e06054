/- A part of the proof of laws.FnFrames. No condition beyond what its theorems say. -/
/- The machine side of laws.FnFrames: where the plain function of that name answers true, its call returns true. No condition beyond what its arguments read as. -/
import Derived.Test.YtaoipjdmmamkmaaVFnFramesPx5
import Derived.Test.YtaoipjdmmamkmaaVFnFramesPx6
namespace Go.Proofs.Ytaoipjdmmamkmaa.PFnFrames
open Go.RowKit Go.Proofs.YtaoipjdmmamkmaaW.PrintWords Go.Proofs.YtaoipjdmmamkmaaW.PrintLast Go.Proofs.YtaoipjdmmamkmaaW.PrintMore
set_option linter.unusedVariables false
set_option linter.unusedSimpArgs false

def laws_FnFrames.j0 : Nat → List Int → Bool → Int → Int → Int → List Int → Option (Bool)
 | 0, _, _, _, _, _, _ => none
 | k + 1, x4, aK, aC, aD, aE, aG => if aK = true then (some false) else ((impl_FrameOk.f aC aD aE aG).bind fun aI => (if aI = true then ((impl_FrameOf.f k x4).bind fun aA => (if 0 ≤ (wrap64 ((x4.length : Int) - 1)) then (if (wrap64 ((x4.length : Int) - 1)) ≤ (x4.length : Int) then ((impl_FrameOf.f k (x4.take ((wrap64 ((x4.length : Int) - 1)) : Int).toNat)).bind fun aH => (if aA.2.2.2.2 = true then ((impl_FrameSame.f aA.1 aA.2.1 aA.2.2.1 aA.2.2.2.1 aC aD aE aG).bind fun aJ => (if aJ = true then (some (!aH.2.2.2.2)) else (some false))) else (some false))) else (none)) else (none))) else (some ((x4.length : Int) == 0))))
def laws_FnFrames.f (k : Nat) (l0 : List Int) : Option (Bool) := (laws_big.f l0).bind fun aI => (if aI = true then (some true) else ((spec_DrawFrameBytes.f k l0).bind fun aA => ((impl_FrameBytes.f k aA.1 aA.2.1 aA.2.2.1 aA.2.2.2).bind fun aE => ((spec_DrawFrameOf.f k l0).bind fun aH => ((impl_FrameOf.f k aH).bind fun aD => ((spec_FrameOf.f k aH).bind fun aG => ((spec_DrawFrameSame.f k l0).bind fun aC => ((spec_FrameBytes.f k aA.1 aA.2.1 aA.2.2.1 aA.2.2.2).bind fun aJ => (if (strOfNums aE).toList = (strOfNums aJ).toList then (if (aD.2.2.2.2 != aG.2.2.2.2) = true then (laws_FnFrames.j0 k aE true aA.1 aA.2.1 aA.2.2.1 aA.2.2.2) else ((impl_FrameSame.f aD.1 aD.2.1 aD.2.2.1 aD.2.2.2.1 aG.1 aG.2.1 aG.2.2.1 aG.2.2.2.1).bind fun aK => (if aK = true then ((impl_FrameSame.f aC.1 aC.2.1 aC.2.2.1 aC.2.2.2.1 aC.2.2.2.2.1 aC.2.2.2.2.2.1 aC.2.2.2.2.2.2.1 aC.2.2.2.2.2.2.2).bind fun aN => ((spec_FrameSame.f aC.1 aC.2.1 aC.2.2.1 aC.2.2.2.1 aC.2.2.2.2.1 aC.2.2.2.2.2.1 aC.2.2.2.2.2.2.1 aC.2.2.2.2.2.2.2).bind fun aQ => (if (aN != aQ) = true then (laws_FnFrames.j0 k aE true aA.1 aA.2.1 aA.2.2.1 aA.2.2.2) else ((impl_FrameOk.f aA.1 aA.2.1 aA.2.2.1 aA.2.2.2).bind fun aT => ((spec_FrameOk.f aA.1 aA.2.1 aA.2.2.1 aA.2.2.2).bind fun aV => (if (aT != aV) = true then (laws_FnFrames.j0 k aE true aA.1 aA.2.1 aA.2.2.1 aA.2.2.2) else (if aD.2.2.2.2 = true then ((impl_FrameBytes.f k aD.1 aD.2.1 aD.2.2.1 aD.2.2.2.1).bind fun aW => (laws_FnFrames.j0 k aE ((strOfNums aW).toList != (strOfNums aH).toList) aA.1 aA.2.1 aA.2.2.1 aA.2.2.2)) else (laws_FnFrames.j0 k aE false aA.1 aA.2.1 aA.2.2.1 aA.2.2.2)))))))) else (laws_FnFrames.j0 k aE true aA.1 aA.2.1 aA.2.2.1 aA.2.2.2)))) else (laws_FnFrames.j0 k aE true aA.1 aA.2.1 aA.2.2.1 aA.2.2.2))))))))))
theorem laws_FnFrames.mono_l : ∀ k, (∀ y0 y1 y2 y3 y4 y5, LeO (laws_FnFrames.j0 k y0 y1 y2 y3 y4 y5) (laws_FnFrames.j0 (k + 1) y0 y1 y2 y3 y4 y5))
 | 0 => fun _ _ _ _ _ _ r h => by simp [laws_FnFrames.j0] at h
 | k + 1 => by
  have ih0 := laws_FnFrames.mono_l k
  ·intro y0 y1 y2 y3 y4 y5
   unfold laws_FnFrames.j0
   repeat' first|(with_reducible first|apply ih0|apply impl_FrameBytes.mono|apply impl_FrameOf.mono|apply spec_DrawFrameBytes.mono|apply spec_DrawFrameOf.mono|apply spec_DrawFrameSame.mono|apply spec_FrameBytes.mono|apply spec_FrameOf.mono|exact lR _|exact lN _|refine lI ?_ ?_|refine lB ?_ fun _ => ?_)|exact lN _|refine lI ?_ ?_|refine lB ?_ fun _ => ?_
theorem laws_FnFrames.mono : ∀ a0 k, LeO (laws_FnFrames.f k a0) (laws_FnFrames.f (k + 1) a0) := by
 intro a0 k
 have ih0 := laws_FnFrames.mono_l k
 unfold laws_FnFrames.f
 repeat' first|(with_reducible first|apply ih0|apply impl_FrameBytes.mono|apply impl_FrameOf.mono|apply spec_DrawFrameBytes.mono|apply spec_DrawFrameOf.mono|apply spec_DrawFrameSame.mono|apply spec_FrameBytes.mono|apply spec_FrameOf.mono|exact lR _|exact lN _|refine lI ?_ ?_|refine lB ?_ fun _ => ?_)|exact lN _|refine lI ?_ ?_|refine lB ?_ fun _ => ?_
def laws_FnFrames.T9 : Bool × List (List Nat × List Nat) := (true, [([], []), ([0], [0]), ([], []), ([2], [2]), ([3], [3]), ([1, 4], [1, 4]), ([5, 3], [5]), ([6], [6]), ([6], [6]), ([7, 8, 6], [6, 7, 8]), ([6, 9], [6, 9]), ([10, 6], [10]), ([11], [11]), ([11], [11]), ([12, 13, 11, 11], [11, 12, 13]), ([14, 11], [11, 14]), ([11, 15], [11, 15]), ([16, 14], [16]), ([17], [17]), ([17], [17]), ([18, 19, 17, 17], [17, 18, 19]), ([17], [17]), ([17], [17]), ([21, 22, 20, 17], [17, 21, 22]), ([20, 23, 17], [17, 20, 23]), ([17, 24], [17, 24]), ([25, 23], [25]), ([26], [26]), ([27, 26, 26], [26, 27]), ([26], [26]), ([29, 28, 26], [26, 29]), ([28, 30, 26], [26, 28, 30]), ([26, 31], [26, 31]), ([32, 30], [32]), ([33], [33]), ([34, 33, 33], [33, 34]), ([35], [35]), ([36, 35, 35], [35, 36]), ([37, 35], [35, 37]), ([35], [35]), ([39, 35], [35, 39]), ([38, 40, 35], [35, 38, 40]), ([35, 41, 33], [33, 35, 41]), ([33, 42], [33, 42])])
def laws_FnFrames.B9 : List Nat := [0, 1, 0, 4, 12, 31, 63, 127, 127, 511, 1023, 2047, 4095, 4095, 16383, 32767, 65535, 131071, 262143, 262143, 1048575, 262143, 262143, 8388607, 16777215, 33554431, 67108863, 134217727, 268435455, 134217727, 1073741823, 2147483647, 4294967295, 8589934591, 17179869183, 34359738367, 68719476735, 137438953471, 274877906943, 68719476735, 618475290623, 2199023255551, 4398046511103, 8796093022207]
theorem laws_FnFrames.tab9 : rtab .any (opsOf Try.f3 9) = laws_FnFrames.T9 := by kernel_rfl
theorem laws_FnFrames.bits9 : waitsOk laws_FnFrames.T9.2 laws_FnFrames.B9 = true := by kernel_rfl
theorem laws_FnFrames.j0_no : ∀ (k : Nat) x0 x2 x3 x4 x5, laws_FnFrames.j0 k x0 true x2 x3 x4 x5 ≠ some true := by
 intro k
 cases k <;> intros <;> simp [laws_FnFrames.j0]
set_option maxHeartbeats 60000000 in
set_option maxRecDepth 100000 in
theorem laws_FnFrames.calls (k : Nat) (A0 : Option Addr) (c0 : Nat) (l0 : List Int) (w : World) (hr0 : Kd.C (Kd.int .u8) w A0 l0.length l0) (hc0 : l0.length ≤ c0) (h : laws_FnFrames.f k l0 = some true) :
  Calls Try.prog 3 #[.slice A0 l0.length c0] w fun e w' => e = .returned (.bool true) ∧ Below w.heap.size w w' := by
 have oP := Try.underlying25
 have fP := aM hr0
 have fQ := aM hc0
 clear hr0 hc0
 have HB := aM (Below.refl w.heap.size w)
 have H : ((laws_big.f l0).bind fun hZ => (if hZ = true then (some true) else ((spec_DrawFrameBytes.f k l0).bind fun aI => ((impl_FrameBytes.f k aI.1 aI.2.1 aI.2.2.1 aI.2.2.2).bind fun bH => ((spec_DrawFrameOf.f k l0).bind fun cO => ((impl_FrameOf.f k cO).bind fun dA => ((spec_FrameOf.f k cO).bind fun dZ => ((spec_DrawFrameSame.f k l0).bind fun cL => ((spec_FrameBytes.f k aI.1 aI.2.1 aI.2.2.1 aI.2.2.2).bind fun eK => (if (strOfNums bH).toList = (strOfNums eK).toList then (if (dA.2.2.2.2 != dZ.2.2.2.2) = true then (laws_FnFrames.j0 k bH true aI.1 aI.2.1 aI.2.2.1 aI.2.2.2) else ((impl_FrameSame.f dA.1 dA.2.1 dA.2.2.1 dA.2.2.2.1 dZ.1 dZ.2.1 dZ.2.2.1 dZ.2.2.2.1).bind fun fH => (if fH = true then ((impl_FrameSame.f cL.1 cL.2.1 cL.2.2.1 cL.2.2.2.1 cL.2.2.2.2.1 cL.2.2.2.2.2.1 cL.2.2.2.2.2.2.1 cL.2.2.2.2.2.2.2).bind fun dR => ((spec_FrameSame.f cL.1 cL.2.1 cL.2.2.1 cL.2.2.2.1 cL.2.2.2.2.1 cL.2.2.2.2.2.1 cL.2.2.2.2.2.2.1 cL.2.2.2.2.2.2.2).bind fun dS => (if (dR != dS) = true then (laws_FnFrames.j0 k bH true aI.1 aI.2.1 aI.2.2.1 aI.2.2.2) else ((impl_FrameOk.f aI.1 aI.2.1 aI.2.2.1 aI.2.2.2).bind fun dU => ((spec_FrameOk.f aI.1 aI.2.1 aI.2.2.1 aI.2.2.2).bind fun dV => (if (dU != dV) = true then (laws_FnFrames.j0 k bH true aI.1 aI.2.1 aI.2.2.1 aI.2.2.2) else (if dA.2.2.2.2 = true then ((impl_FrameBytes.f k dA.1 dA.2.1 dA.2.2.1 dA.2.2.2.1).bind fun eN => (laws_FnFrames.j0 k bH ((strOfNums eN).toList != (strOfNums cO).toList) aI.1 aI.2.1 aI.2.2.1 aI.2.2.2)) else (laws_FnFrames.j0 k bH false aI.1 aI.2.1 aI.2.2.1 aI.2.2.2)))))))) else (laws_FnFrames.j0 k bH true aI.1 aI.2.1 aI.2.2.1 aI.2.2.2)))) else (laws_FnFrames.j0 k bH true aI.1 aI.2.1 aI.2.2.1 aI.2.2.2))))))))))) = some true := h
 clear h
 obtain ⟨hZ, jL, H⟩ := hB H
 have A2 := aM jL
 clear jL
 by_cases c3 : hZ = true
 case pos =>
  subst c3
  have H1 : (some true) = some true := by first | (rw [if_pos rfl] at H; exact H) | (rw [if_pos rfl] at H)
  clear H
  have H := H1
  clear H1 H
  go_enter Try.func3, Try.ntmps3
  go_wp2_with (first | ((with_reducible refine gC (f := 6) rfl ?_); refine gL (some 17) Try.func6 #[.slice A0 l0.length c0] ?_; (with_reducible refine (laws_big.calls _ _ l0 true _ ?side1 ?side2 A2.out).mono ?_); (case side1 => exact cM fP.out); (case side2 => exact fQ.out); rintro e w' ⟨rfl, ⟨nd, rfl⟩⟩; refine ⟨_, rfl, ?_⟩))
  go_ret
  exact ⟨xW, bl HB.out⟩
 replace c3 := Bool.eq_false_iff.mpr c3
 subst c3
 have H1 : ((spec_DrawFrameBytes.f k l0).bind fun aI => ((impl_FrameBytes.f k aI.1 aI.2.1 aI.2.2.1 aI.2.2.2).bind fun bH => ((spec_DrawFrameOf.f k l0).bind fun cO => ((impl_FrameOf.f k cO).bind fun dA => ((spec_FrameOf.f k cO).bind fun dZ => ((spec_DrawFrameSame.f k l0).bind fun cL => ((spec_FrameBytes.f k aI.1 aI.2.1 aI.2.2.1 aI.2.2.2).bind fun eK => (if (strOfNums bH).toList = (strOfNums eK).toList then (if (dA.2.2.2.2 != dZ.2.2.2.2) = true then (laws_FnFrames.j0 k bH true aI.1 aI.2.1 aI.2.2.1 aI.2.2.2) else ((impl_FrameSame.f dA.1 dA.2.1 dA.2.2.1 dA.2.2.2.1 dZ.1 dZ.2.1 dZ.2.2.1 dZ.2.2.2.1).bind fun fH => (if fH = true then ((impl_FrameSame.f cL.1 cL.2.1 cL.2.2.1 cL.2.2.2.1 cL.2.2.2.2.1 cL.2.2.2.2.2.1 cL.2.2.2.2.2.2.1 cL.2.2.2.2.2.2.2).bind fun dR => ((spec_FrameSame.f cL.1 cL.2.1 cL.2.2.1 cL.2.2.2.1 cL.2.2.2.2.1 cL.2.2.2.2.2.1 cL.2.2.2.2.2.2.1 cL.2.2.2.2.2.2.2).bind fun dS => (if (dR != dS) = true then (laws_FnFrames.j0 k bH true aI.1 aI.2.1 aI.2.2.1 aI.2.2.2) else ((impl_FrameOk.f aI.1 aI.2.1 aI.2.2.1 aI.2.2.2).bind fun dU => ((spec_FrameOk.f aI.1 aI.2.1 aI.2.2.1 aI.2.2.2).bind fun dV => (if (dU != dV) = true then (laws_FnFrames.j0 k bH true aI.1 aI.2.1 aI.2.2.1 aI.2.2.2) else (if dA.2.2.2.2 = true then ((impl_FrameBytes.f k dA.1 dA.2.1 dA.2.2.1 dA.2.2.2.1).bind fun eN => (laws_FnFrames.j0 k bH ((strOfNums eN).toList != (strOfNums cO).toList) aI.1 aI.2.1 aI.2.2.1 aI.2.2.2)) else (laws_FnFrames.j0 k bH false aI.1 aI.2.1 aI.2.2.1 aI.2.2.2)))))))) else (laws_FnFrames.j0 k bH true aI.1 aI.2.1 aI.2.2.1 aI.2.2.2)))) else (laws_FnFrames.j0 k bH true aI.1 aI.2.1 aI.2.2.1 aI.2.2.2))))))))) = some true := by first | (rw [if_neg (show ¬ (false = true) by decide)] at H; exact H) | (rw [if_neg (show ¬ (false = true) by decide)] at H)
 clear H
 have H := H1
 clear H1
 obtain ⟨⟨cG, cH, cK, aV⟩, jM, H⟩ := hB H
 try dsimp only at H
 have A4 := aM jM
 clear jM
 obtain ⟨bH, jN, H⟩ := hB H
 have A5 := aM jN
 clear jN
 obtain ⟨cO, jO, H⟩ := hB H
 have A6 := aM jO
 clear jO
 obtain ⟨⟨dC, dD, dE, bL, eL⟩, jP, H⟩ := hB H
 try dsimp only at H
 have A7 := aM jP
 clear jP
 obtain ⟨⟨cW, cX, cY, bK, eO⟩, jQ, H⟩ := hB H
 try dsimp only at H
 have A8 := aM jQ
 clear jQ
 obtain ⟨⟨cQ, cR, cS, bI, cT, cU, cV, bJ⟩, jR, H⟩ := hB H
 try dsimp only at H
 have A9 := aM jR
 clear jR
 have iA := aM H
 clear H
 go_enter Try.func3, Try.ntmps3
 go_upto_region 9 with (first | ((with_reducible refine gC (f := 6) rfl ?_); refine gL (some 17) Try.func6 #[.slice A0 l0.length c0] ?_; (with_reducible refine (laws_big.calls _ _ l0 false _ ?side1 ?side2 A2.out).mono ?_); (case side1 => exact cM fP.out); (case side2 => exact fQ.out); rintro e w' ⟨rfl, ⟨nd, rfl⟩⟩; refine ⟨_, rfl, ?_⟩) | ((with_reducible refine gC (f := 7) rfl ?_); refine gL (some 19) Try.func7 #[.slice A0 l0.length c0] ?_; (with_reducible refine (spec_DrawFrameBytes.calls k _ _ l0 cG cH cK aV _ ?side1 ?side2 A4.out).mono ?_); (case side1 => exact cM fP.out); (case side2 => exact fQ.out); rintro e pK ⟨oQ, rfl, ho0, hb⟩; refine ⟨_, rfl, ?_⟩; have aH := aM (Kd.R_lower ho0 (below_size (bl HB.out))); replace HB := rS HB hb; (repeat first|clear hb|clear ho0)) | ((with_reducible refine gD (N := 3) rfl ?_); refine box_event ?hg (N := 3) ?hd (cs := #[.int .i64 0, .int .i64 0, .int .i64 0, .slice none 0 0]) (t := 25) ?hr ?_; (case hd => rfl); (case hg => rfl); (case hr => first | (go_simp; done) | (go_simp; rfl) | (obtain ⟨A_, c_, e_⟩ := Kd.R_slice aH.out; subst e_; (first | (go_simp; done) | (go_simp; rfl))) | (obtain ⟨A_, c_, e_⟩ := Kd.S_slice aH.out; subst e_; (first | (go_simp; done) | (go_simp; rfl))) | (obtain ⟨A_, c_, e_⟩ := Kd.R_slice aJ.out; subst e_; (first | (go_simp; done) | (go_simp; rfl))) | (obtain ⟨A_, c_, e_⟩ := Kd.S_slice aJ.out; subst e_; (first | (go_simp; done) | (go_simp; rfl))) | (obtain ⟨A_, c_, e_⟩ := Kd.R_slice aK.out; subst e_; (first | (go_simp; done) | (go_simp; rfl))) | (obtain ⟨A_, c_, e_⟩ := Kd.S_slice aK.out; subst e_; (first | (go_simp; done) | (go_simp; rfl))) | (obtain ⟨A_, c_, e_⟩ := Kd.R_slice aN.out; subst e_; (first | (go_simp; done) | (go_simp; rfl))) | (obtain ⟨A_, c_, e_⟩ := Kd.S_slice aN.out; subst e_; (first | (go_simp; done) | (go_simp; rfl))) | (obtain ⟨A_, c_, e_⟩ := Kd.R_slice aT.out; subst e_; (first | (go_simp; done) | (go_simp; rfl))) | (obtain ⟨A_, c_, e_⟩ := Kd.S_slice aT.out; subst e_; (first | (go_simp; done) | (go_simp; rfl))) | (obtain ⟨A_, c_, e_⟩ := Kd.R_slice aW.out; subst e_; (first | (go_simp; done) | (go_simp; rfl))) | (obtain ⟨A_, c_, e_⟩ := Kd.S_slice aW.out; subst e_; (first | (go_simp; done) | (go_simp; rfl))) | (obtain ⟨A_, c_, e_⟩ := Kd.R_slice aX.out; subst e_; (first | (go_simp; done) | (go_simp; rfl))) | (obtain ⟨A_, c_, e_⟩ := Kd.S_slice aX.out; subst e_; (first | (go_simp; done) | (go_simp; rfl)))); intro dF hg pL hbox hb; have aA := aM (hbox); have mO := gF hg HB; have mP := gF hg HB; replace aH := rK aH hb; replace HB := rS HB hb; clear hb hbox hg; have mQ := cA4 aA.out; obtain ⟨cE, cA, jY⟩ := Kd.R_slice aH.out; subst jY) | ((with_reducible refine gC (f := 8) rfl ?_); refine gL (some 21) Try.func8 #[.agg #[cG, cH, cK, .slice cE aV.length cA]] ?_; (with_reducible refine (impl_FrameBytes.calls k cG cH cK _ _ aV bH _ ?side1 ?side2 A5.out).mono ?_); (case side1 => refine (Kd.R_reads' (e := 5) (base := w.heap.size) (ok := fun k_ => True) (n := aV.length) (c := cA) ?_).2.2; exact (kr (Kd.R_mono (kF (p := ⟨dF, 3, none⟩) (kF (p := ⟨dF, 2, none⟩) (kF (p := ⟨dF, 1, none⟩) (kF (p := ⟨dF, 0, none⟩) (Kd.R_types aH.out aA.out (by decide)) (fun _ hk => hk.2) (.int .i64 cG)) (fun _ hk => hk.2) (.int .i64 cH)) (fun _ hk => hk.2) (.int .i64 cK)) (fun _ hk => hk.2) (.slice cE aV.length cA)) (fun _ h_ => h_.1)))); (case side2 => exact (Kd.R_reads' aH.out).2.1); rintro e pM ⟨dL, rfl, ho0, hb⟩; refine ⟨_, rfl, ?_⟩; have aJ := aM (Kd.R_lower (Kd.R_new' ho0 (Kd.R_lt (kr (Kd.R_mono (kF (p := ⟨dF, 3, none⟩) (kF (p := ⟨dF, 2, none⟩) (kF (p := ⟨dF, 1, none⟩) (kF (p := ⟨dF, 0, none⟩) (Kd.R_types aH.out aA.out (by decide)) (fun _ hk => hk.2) (.int .i64 cG)) (fun _ hk => hk.2) (.int .i64 cH)) (fun _ hk => hk.2) (.int .i64 cK)) (fun _ hk => hk.2) (.slice cE aV.length cA)) (fun _ h_ => h_.1))))) (below_size (bl HB.out))); replace aH := aM (Kd.R_elder' (kr (Kd.R_mono (kF (p := ⟨dF, 3, none⟩) (kF (p := ⟨dF, 2, none⟩) (kF (p := ⟨dF, 1, none⟩) (kF (p := ⟨dF, 0, none⟩) (Kd.R_types aH.out aA.out (by decide)) (fun _ hk => hk.2) (.int .i64 cG)) (fun _ hk => hk.2) (.int .i64 cH)) (fun _ hk => hk.2) (.int .i64 cK)) (fun _ hk => hk.2) (.slice cE aV.length cA)) (fun _ h_ => h_.1))) (Kd.R_base ho0) hb); replace aA := aM (bB (g := dF) (o := .cells #[cG, cH, cK, .slice cE aV.length cA] 25 (0, 0)) (bm aA.out) hb); replace HB := rS HB hb; (repeat first|clear hb|clear ho0)) | ((with_reducible refine gC (f := 9) rfl ?_); refine gL (some 23) Try.func9 #[.slice A0 l0.length c0] ?_; (with_reducible refine (spec_DrawFrameOf.calls k _ _ l0 cO _ ?side1 ?side2 A6.out).mono ?_); (case side1 => exact cM (cB fP.out HB.out)); (case side2 => exact fQ.out); rintro e pN ⟨oR, rfl, ho0, hb⟩; refine ⟨_, rfl, ?_⟩; have aK := aM (Kd.R_lower (Kd.R_new' (Kd.R_new' ho0 (Kd.R_lt (kr aH.out))) (Kd.R_lt (kr aJ.out))) (below_size (bl HB.out))); replace aH := aM (Kd.R_elder' (kr aH.out) (Kd.R_base ho0) hb); replace aJ := aM (Kd.R_elder' (kr aJ.out) (Kd.R_base ho0) hb); replace aA := rB aA hb; replace HB := rS HB hb; (repeat first|clear hb|clear ho0); obtain ⟨dW, dM, jZ⟩ := Kd.R_slice aK.out; subst jZ) | ((with_reducible refine gC (f := 10) rfl ?_); refine gL (some 26) Try.func10 #[.slice dW cO.length dM] ?_; (with_reducible refine (impl_FrameOf.calls k _ _ cO dC dD dE bL eL _ ?side1 ?side2 A7.out).mono ?_); (case side1 => exact cM ((Kd.R_reads' aK.out).2.2)); (case side2 => exact (Kd.R_reads' aK.out).2.1); rintro e pO ⟨oS, rfl, ho0, hb⟩; refine ⟨_, rfl, ?_⟩; have aN := aM (Kd.R_lower (Kd.R_new' (Kd.R_new' (Kd.R_new' ho0 (Kd.R_lt (kr aH.out))) (Kd.R_lt (kr aJ.out))) (Kd.R_lt (kr aK.out))) (below_size (bl HB.out))); replace aH := aM (Kd.R_elder' (kr aH.out) (Kd.R_base ho0) hb); replace aJ := aM (Kd.R_elder' (kr aJ.out) (Kd.R_base ho0) hb); replace aK := aM (Kd.R_elder' (kr aK.out) (Kd.R_base ho0) hb); replace aA := rB aA hb; replace HB := rS HB hb; (repeat first|clear hb|clear ho0)) | ((with_reducible refine gD (N := 6) rfl ?_); refine box_event ?hg (N := 6) ?hd (cs := #[.int .i64 0, .int .i64 0, .int .i64 0, .slice none 0 0]) (t := 25) ?hr ?_; (case hd => rfl); (case hg => rfl); (case hr => first | (go_simp; done) | (go_simp; rfl) | (obtain ⟨A_, c_, e_⟩ := Kd.R_slice aH.out; subst e_; (first | (go_simp; done) | (go_simp; rfl))) | (obtain ⟨A_, c_, e_⟩ := Kd.S_slice aH.out; subst e_; (first | (go_simp; done) | (go_simp; rfl))) | (obtain ⟨A_, c_, e_⟩ := Kd.R_slice aJ.out; subst e_; (first | (go_simp; done) | (go_simp; rfl))) | (obtain ⟨A_, c_, e_⟩ := Kd.S_slice aJ.out; subst e_; (first | (go_simp; done) | (go_simp; rfl))) | (obtain ⟨A_, c_, e_⟩ := Kd.R_slice aK.out; subst e_; (first | (go_simp; done) | (go_simp; rfl))) | (obtain ⟨A_, c_, e_⟩ := Kd.S_slice aK.out; subst e_; (first | (go_simp; done) | (go_simp; rfl))) | (obtain ⟨A_, c_, e_⟩ := Kd.R_slice aN.out; subst e_; (first | (go_simp; done) | (go_simp; rfl))) | (obtain ⟨A_, c_, e_⟩ := Kd.S_slice aN.out; subst e_; (first | (go_simp; done) | (go_simp; rfl))) | (obtain ⟨A_, c_, e_⟩ := Kd.R_slice aT.out; subst e_; (first | (go_simp; done) | (go_simp; rfl))) | (obtain ⟨A_, c_, e_⟩ := Kd.S_slice aT.out; subst e_; (first | (go_simp; done) | (go_simp; rfl))) | (obtain ⟨A_, c_, e_⟩ := Kd.R_slice aW.out; subst e_; (first | (go_simp; done) | (go_simp; rfl))) | (obtain ⟨A_, c_, e_⟩ := Kd.S_slice aW.out; subst e_; (first | (go_simp; done) | (go_simp; rfl))) | (obtain ⟨A_, c_, e_⟩ := Kd.R_slice aX.out; subst e_; (first | (go_simp; done) | (go_simp; rfl))) | (obtain ⟨A_, c_, e_⟩ := Kd.S_slice aX.out; subst e_; (first | (go_simp; done) | (go_simp; rfl)))); intro bQ hg pP hbox hb; have aC := aM (hbox); have mR := gF hg HB; have mS := gF hg HB; have eQ := nM hg aA; have eR := nH hg aA; replace aH := rK aH hb; replace aJ := rK aJ hb; replace aK := rK aK hb; replace aN := rK aN hb; replace aA := rB aA hb; replace HB := rS HB hb; clear hb hbox hg; have mT := eR.out; have mU := eQ.out; have mV := cA4 aC.out; obtain ⟨cC, cD, kA⟩ := Kd.R_slice aN.out; subst kA) | ((with_reducible refine gC (f := 11) rfl ?_); refine gL (some 31) Try.func11 #[.slice dW cO.length dM] ?_; (with_reducible refine (spec_FrameOf.calls k _ _ cO cW cX cY bK eO _ ?side1 ?side2 A8.out).mono ?_); (case side1 => refine (Kd.R_reads' (e := 5) (base := w.heap.size) (ok := fun k_ => (((True ∧ some k_ ≠ (.slice cE aV.length cA : Value).ownBlock) ∧ some k_ ≠ (dL : Value).ownBlock) ∧ some k_ ≠ (.slice cC bL.length cD : Value).ownBlock)) (n := cO.length) (c := dM) ?_).2.2; exact (kr (Kd.R_mono (kF (p := ⟨bQ, 3, none⟩) (kF (p := ⟨bQ, 2, none⟩) (kF (p := ⟨bQ, 1, none⟩) (kF (p := ⟨bQ, 0, none⟩) (Kd.R_types aK.out aC.out (by decide)) (fun _ hk => hk.2) (.int .i64 dC)) (fun _ hk => hk.2) (.int .i64 dD)) (fun _ hk => hk.2) (.int .i64 dE)) (fun _ hk => hk.2) (.slice cC bL.length cD)) (fun _ h_ => h_.1)))); (case side2 => exact (Kd.R_reads' aK.out).2.1); rintro e pQ ⟨oT, rfl, ho0, hb⟩; refine ⟨_, rfl, ?_⟩; have aT := aM (Kd.R_lower (Kd.R_new' (Kd.R_new' (Kd.R_new' (Kd.R_new' ho0 (Kd.R_lt (kr (Kd.R_mono (kF (p := ⟨bQ, 3, none⟩) (kF (p := ⟨bQ, 2, none⟩) (kF (p := ⟨bQ, 1, none⟩) (kF (p := ⟨bQ, 0, none⟩) (Kd.R_types aH.out aC.out (by decide)) (fun _ hk => hk.2) (.int .i64 dC)) (fun _ hk => hk.2) (.int .i64 dD)) (fun _ hk => hk.2) (.int .i64 dE)) (fun _ hk => hk.2) (.slice cC bL.length cD)) (fun _ h_ => h_.1))))) (Kd.R_lt (kr (Kd.R_mono (kF (p := ⟨bQ, 3, none⟩) (kF (p := ⟨bQ, 2, none⟩) (kF (p := ⟨bQ, 1, none⟩) (kF (p := ⟨bQ, 0, none⟩) (Kd.R_types aJ.out aC.out (by decide)) (fun _ hk => hk.2) (.int .i64 dC)) (fun _ hk => hk.2) (.int .i64 dD)) (fun _ hk => hk.2) (.int .i64 dE)) (fun _ hk => hk.2) (.slice cC bL.length cD)) (fun _ h_ => h_.1))))) (Kd.R_lt (kr (Kd.R_mono (kF (p := ⟨bQ, 3, none⟩) (kF (p := ⟨bQ, 2, none⟩) (kF (p := ⟨bQ, 1, none⟩) (kF (p := ⟨bQ, 0, none⟩) (Kd.R_types aK.out aC.out (by decide)) (fun _ hk => hk.2) (.int .i64 dC)) (fun _ hk => hk.2) (.int .i64 dD)) (fun _ hk => hk.2) (.int .i64 dE)) (fun _ hk => hk.2) (.slice cC bL.length cD)) (fun _ h_ => h_.1))))) (Kd.R_lt (kr (Kd.R_mono (kF (p := ⟨bQ, 3, none⟩) (kF (p := ⟨bQ, 2, none⟩) (kF (p := ⟨bQ, 1, none⟩) (kF (p := ⟨bQ, 0, none⟩) (Kd.R_types aN.out aC.out (by decide)) (fun _ hk => hk.2) (.int .i64 dC)) (fun _ hk => hk.2) (.int .i64 dD)) (fun _ hk => hk.2) (.int .i64 dE)) (fun _ hk => hk.2) (.slice cC bL.length cD)) (fun _ h_ => h_.1))))) (below_size (bl HB.out))); replace aH := aM (Kd.R_elder' (kr (Kd.R_mono (kF (p := ⟨bQ, 3, none⟩) (kF (p := ⟨bQ, 2, none⟩) (kF (p := ⟨bQ, 1, none⟩) (kF (p := ⟨bQ, 0, none⟩) (Kd.R_types aH.out aC.out (by decide)) (fun _ hk => hk.2) (.int .i64 dC)) (fun _ hk => hk.2) (.int .i64 dD)) (fun _ hk => hk.2) (.int .i64 dE)) (fun _ hk => hk.2) (.slice cC bL.length cD)) (fun _ h_ => h_.1))) (Kd.R_base ho0) hb); replace aJ := aM (Kd.R_elder' (kr (Kd.R_mono (kF (p := ⟨bQ, 3, none⟩) (kF (p := ⟨bQ, 2, none⟩) (kF (p := ⟨bQ, 1, none⟩) (kF (p := ⟨bQ, 0, none⟩) (Kd.R_types aJ.out aC.out (by decide)) (fun _ hk => hk.2) (.int .i64 dC)) (fun _ hk => hk.2) (.int .i64 dD)) (fun _ hk => hk.2) (.int .i64 dE)) (fun _ hk => hk.2) (.slice cC bL.length cD)) (fun _ h_ => h_.1))) (Kd.R_base ho0) hb); replace aK := aM (Kd.R_elder' (kr (Kd.R_mono (kF (p := ⟨bQ, 3, none⟩) (kF (p := ⟨bQ, 2, none⟩) (kF (p := ⟨bQ, 1, none⟩) (kF (p := ⟨bQ, 0, none⟩) (Kd.R_types aK.out aC.out (by decide)) (fun _ hk => hk.2) (.int .i64 dC)) (fun _ hk => hk.2) (.int .i64 dD)) (fun _ hk => hk.2) (.int .i64 dE)) (fun _ hk => hk.2) (.slice cC bL.length cD)) (fun _ h_ => h_.1))) (Kd.R_base ho0) hb); replace aN := aM (Kd.R_elder' (kr (Kd.R_mono (kF (p := ⟨bQ, 3, none⟩) (kF (p := ⟨bQ, 2, none⟩) (kF (p := ⟨bQ, 1, none⟩) (kF (p := ⟨bQ, 0, none⟩) (Kd.R_types aN.out aC.out (by decide)) (fun _ hk => hk.2) (.int .i64 dC)) (fun _ hk => hk.2) (.int .i64 dD)) (fun _ hk => hk.2) (.int .i64 dE)) (fun _ hk => hk.2) (.slice cC bL.length cD)) (fun _ h_ => h_.1))) (Kd.R_base ho0) hb); replace aA := aM (bB (fm aA.out) hb); replace aC := aM (bB (g := bQ) (o := .cells #[dC, dD, dE, .slice cC bL.length cD] 25 (0, 0)) (bm aC.out) hb); replace HB := rS HB hb; (repeat first|clear hb|clear ho0)) | ((with_reducible refine gD (N := 8) rfl ?_); refine box_event ?hg (N := 8) ?hd (cs := #[.int .i64 0, .int .i64 0, .int .i64 0, .slice none 0 0]) (t := 25) ?hr ?_; (case hd => rfl); (case hg => rfl); (case hr => first | (go_simp; done) | (go_simp; rfl) | (obtain ⟨A_, c_, e_⟩ := Kd.R_slice aH.out; subst e_; (first | (go_simp; done) | (go_simp; rfl))) | (obtain ⟨A_, c_, e_⟩ := Kd.S_slice aH.out; subst e_; (first | (go_simp; done) | (go_simp; rfl))) | (obtain ⟨A_, c_, e_⟩ := Kd.R_slice aJ.out; subst e_; (first | (go_simp; done) | (go_simp; rfl))) | (obtain ⟨A_, c_, e_⟩ := Kd.S_slice aJ.out; subst e_; (first | (go_simp; done) | (go_simp; rfl))) | (obtain ⟨A_, c_, e_⟩ := Kd.R_slice aK.out; subst e_; (first | (go_simp; done) | (go_simp; rfl))) | (obtain ⟨A_, c_, e_⟩ := Kd.S_slice aK.out; subst e_; (first | (go_simp; done) | (go_simp; rfl))) | (obtain ⟨A_, c_, e_⟩ := Kd.R_slice aN.out; subst e_; (first | (go_simp; done) | (go_simp; rfl))) | (obtain ⟨A_, c_, e_⟩ := Kd.S_slice aN.out; subst e_; (first | (go_simp; done) | (go_simp; rfl))) | (obtain ⟨A_, c_, e_⟩ := Kd.R_slice aT.out; subst e_; (first | (go_simp; done) | (go_simp; rfl))) | (obtain ⟨A_, c_, e_⟩ := Kd.S_slice aT.out; subst e_; (first | (go_simp; done) | (go_simp; rfl))) | (obtain ⟨A_, c_, e_⟩ := Kd.R_slice aW.out; subst e_; (first | (go_simp; done) | (go_simp; rfl))) | (obtain ⟨A_, c_, e_⟩ := Kd.S_slice aW.out; subst e_; (first | (go_simp; done) | (go_simp; rfl))) | (obtain ⟨A_, c_, e_⟩ := Kd.R_slice aX.out; subst e_; (first | (go_simp; done) | (go_simp; rfl))) | (obtain ⟨A_, c_, e_⟩ := Kd.S_slice aX.out; subst e_; (first | (go_simp; done) | (go_simp; rfl)))); intro aQ hg pR hbox hb; have aD := aM (hbox); have mW := gF hg HB; have mX := gF hg HB; have eS := nM hg aA; have eT := nH hg aA; have fS := nM hg aC; have fT := nH hg aC; replace aH := rK aH hb; replace aJ := rK aJ hb; replace aK := rK aK hb; replace aN := rK aN hb; replace aT := rK aT hb; replace aA := rB aA hb; replace aC := rB aC hb; replace HB := rS HB hb; clear hb hbox hg; have mY := eT.out; have mZ := eS.out; have nA := fT.out; have nB := fS.out; have nC := cA4 aD.out; obtain ⟨bT, bU, kC⟩ := Kd.R_slice aT.out; subst kC) | ((with_reducible refine gC (f := 12) rfl ?_); refine gL (some 36) Try.func12 #[.slice A0 l0.length c0] ?_; (with_reducible refine (spec_DrawFrameSame.calls k _ _ l0 cQ cR cS bI cT cU cV bJ _ ?side1 ?side2 A9.out).mono ?_); (case side1 => exact cB fP.out (bl HB.out)); (case side2 => exact fQ.out); rintro e pS ⟨oU, oV, rfl, ho0, ho1, hb⟩; refine ⟨_, rfl, ?_⟩; have aW := aM (Kd.R_lower (Kd.R_new' (Kd.R_new' (Kd.R_new' (Kd.R_new' (Kd.R_new' ho0 (Kd.R_lt (kr (Kd.R_mono (kF (p := ⟨aQ, 3, none⟩) (kF (p := ⟨aQ, 2, none⟩) (kF (p := ⟨aQ, 1, none⟩) (kF (p := ⟨aQ, 0, none⟩) (Kd.R_types aH.out aD.out (by decide)) (fun _ hk => hk.2) (.int .i64 cW)) (fun _ hk => hk.2) (.int .i64 cX)) (fun _ hk => hk.2) (.int .i64 cY)) (fun _ hk => hk.2) (.slice bT bK.length bU)) (fun _ h_ => h_.1))))) (Kd.R_lt (kr (Kd.R_mono (kF (p := ⟨aQ, 3, none⟩) (kF (p := ⟨aQ, 2, none⟩) (kF (p := ⟨aQ, 1, none⟩) (kF (p := ⟨aQ, 0, none⟩) (Kd.R_types aJ.out aD.out (by decide)) (fun _ hk => hk.2) (.int .i64 cW)) (fun _ hk => hk.2) (.int .i64 cX)) (fun _ hk => hk.2) (.int .i64 cY)) (fun _ hk => hk.2) (.slice bT bK.length bU)) (fun _ h_ => h_.1))))) (Kd.R_lt (kr (Kd.R_mono (kF (p := ⟨aQ, 3, none⟩) (kF (p := ⟨aQ, 2, none⟩) (kF (p := ⟨aQ, 1, none⟩) (kF (p := ⟨aQ, 0, none⟩) (Kd.R_types aK.out aD.out (by decide)) (fun _ hk => hk.2) (.int .i64 cW)) (fun _ hk => hk.2) (.int .i64 cX)) (fun _ hk => hk.2) (.int .i64 cY)) (fun _ hk => hk.2) (.slice bT bK.length bU)) (fun _ h_ => h_.1))))) (Kd.R_lt (kr (Kd.R_mono (kF (p := ⟨aQ, 3, none⟩) (kF (p := ⟨aQ, 2, none⟩) (kF (p := ⟨aQ, 1, none⟩) (kF (p := ⟨aQ, 0, none⟩) (Kd.R_types aN.out aD.out (by decide)) (fun _ hk => hk.2) (.int .i64 cW)) (fun _ hk => hk.2) (.int .i64 cX)) (fun _ hk => hk.2) (.int .i64 cY)) (fun _ hk => hk.2) (.slice bT bK.length bU)) (fun _ h_ => h_.1))))) (Kd.R_lt (kr (Kd.R_mono (kF (p := ⟨aQ, 3, none⟩) (kF (p := ⟨aQ, 2, none⟩) (kF (p := ⟨aQ, 1, none⟩) (kF (p := ⟨aQ, 0, none⟩) (Kd.R_types aT.out aD.out (by decide)) (fun _ hk => hk.2) (.int .i64 cW)) (fun _ hk => hk.2) (.int .i64 cX)) (fun _ hk => hk.2) (.int .i64 cY)) (fun _ hk => hk.2) (.slice bT bK.length bU)) (fun _ h_ => h_.1))))) (below_size (bl HB.out))); have aX := aM (Kd.R_lower (Kd.R_new' (Kd.R_new' (Kd.R_new' (Kd.R_new' (Kd.R_new' ho1 (Kd.R_lt (kr (Kd.R_mono (kF (p := ⟨aQ, 3, none⟩) (kF (p := ⟨aQ, 2, none⟩) (kF (p := ⟨aQ, 1, none⟩) (kF (p := ⟨aQ, 0, none⟩) (Kd.R_types aH.out aD.out (by decide)) (fun _ hk => hk.2) (.int .i64 cW)) (fun _ hk => hk.2) (.int .i64 cX)) (fun _ hk => hk.2) (.int .i64 cY)) (fun _ hk => hk.2) (.slice bT bK.length bU)) (fun _ h_ => h_.1))))) (Kd.R_lt (kr (Kd.R_mono (kF (p := ⟨aQ, 3, none⟩) (kF (p := ⟨aQ, 2, none⟩) (kF (p := ⟨aQ, 1, none⟩) (kF (p := ⟨aQ, 0, none⟩) (Kd.R_types aJ.out aD.out (by decide)) (fun _ hk => hk.2) (.int .i64 cW)) (fun _ hk => hk.2) (.int .i64 cX)) (fun _ hk => hk.2) (.int .i64 cY)) (fun _ hk => hk.2) (.slice bT bK.length bU)) (fun _ h_ => h_.1))))) (Kd.R_lt (kr (Kd.R_mono (kF (p := ⟨aQ, 3, none⟩) (kF (p := ⟨aQ, 2, none⟩) (kF (p := ⟨aQ, 1, none⟩) (kF (p := ⟨aQ, 0, none⟩) (Kd.R_types aK.out aD.out (by decide)) (fun _ hk => hk.2) (.int .i64 cW)) (fun _ hk => hk.2) (.int .i64 cX)) (fun _ hk => hk.2) (.int .i64 cY)) (fun _ hk => hk.2) (.slice bT bK.length bU)) (fun _ h_ => h_.1))))) (Kd.R_lt (kr (Kd.R_mono (kF (p := ⟨aQ, 3, none⟩) (kF (p := ⟨aQ, 2, none⟩) (kF (p := ⟨aQ, 1, none⟩) (kF (p := ⟨aQ, 0, none⟩) (Kd.R_types aN.out aD.out (by decide)) (fun _ hk => hk.2) (.int .i64 cW)) (fun _ hk => hk.2) (.int .i64 cX)) (fun _ hk => hk.2) (.int .i64 cY)) (fun _ hk => hk.2) (.slice bT bK.length bU)) (fun _ h_ => h_.1))))) (Kd.R_lt (kr (Kd.R_mono (kF (p := ⟨aQ, 3, none⟩) (kF (p := ⟨aQ, 2, none⟩) (kF (p := ⟨aQ, 1, none⟩) (kF (p := ⟨aQ, 0, none⟩) (Kd.R_types aT.out aD.out (by decide)) (fun _ hk => hk.2) (.int .i64 cW)) (fun _ hk => hk.2) (.int .i64 cX)) (fun _ hk => hk.2) (.int .i64 cY)) (fun _ hk => hk.2) (.slice bT bK.length bU)) (fun _ h_ => h_.1))))) (below_size (bl HB.out))); replace aH := aM (Kd.R_mono (Kd.R_told (Kd.R_told (Kd.R_old (kr (Kd.R_mono (kF (p := ⟨aQ, 3, none⟩) (kF (p := ⟨aQ, 2, none⟩) (kF (p := ⟨aQ, 1, none⟩) (kF (p := ⟨aQ, 0, none⟩) (Kd.R_types aH.out aD.out (by decide)) (fun _ hk => hk.2) (.int .i64 cW)) (fun _ hk => hk.2) (.int .i64 cX)) (fun _ hk => hk.2) (.int .i64 cY)) (fun _ hk => hk.2) (.slice bT bK.length bU)) (fun _ h_ => h_.1))) hb) (Kd.R_base ho0)) (Kd.R_base ho1)) (fun _ h_ => h_.1)); replace aJ := aM (Kd.R_mono (Kd.R_told (Kd.R_told (Kd.R_old (kr (Kd.R_mono (kF (p := ⟨aQ, 3, none⟩) (kF (p := ⟨aQ, 2, none⟩) (kF (p := ⟨aQ, 1, none⟩) (kF (p := ⟨aQ, 0, none⟩) (Kd.R_types aJ.out aD.out (by decide)) (fun _ hk => hk.2) (.int .i64 cW)) (fun _ hk => hk.2) (.int .i64 cX)) (fun _ hk => hk.2) (.int .i64 cY)) (fun _ hk => hk.2) (.slice bT bK.length bU)) (fun _ h_ => h_.1))) hb) (Kd.R_base ho0)) (Kd.R_base ho1)) (fun _ h_ => h_.1)); replace aK := aM (Kd.R_mono (Kd.R_told (Kd.R_told (Kd.R_old (kr (Kd.R_mono (kF (p := ⟨aQ, 3, none⟩) (kF (p := ⟨aQ, 2, none⟩) (kF (p := ⟨aQ, 1, none⟩) (kF (p := ⟨aQ, 0, none⟩) (Kd.R_types aK.out aD.out (by decide)) (fun _ hk => hk.2) (.int .i64 cW)) (fun _ hk => hk.2) (.int .i64 cX)) (fun _ hk => hk.2) (.int .i64 cY)) (fun _ hk => hk.2) (.slice bT bK.length bU)) (fun _ h_ => h_.1))) hb) (Kd.R_base ho0)) (Kd.R_base ho1)) (fun _ h_ => h_.1)); replace aN := aM (Kd.R_mono (Kd.R_told (Kd.R_told (Kd.R_old (kr (Kd.R_mono (kF (p := ⟨aQ, 3, none⟩) (kF (p := ⟨aQ, 2, none⟩) (kF (p := ⟨aQ, 1, none⟩) (kF (p := ⟨aQ, 0, none⟩) (Kd.R_types aN.out aD.out (by decide)) (fun _ hk => hk.2) (.int .i64 cW)) (fun _ hk => hk.2) (.int .i64 cX)) (fun _ hk => hk.2) (.int .i64 cY)) (fun _ hk => hk.2) (.slice bT bK.length bU)) (fun _ h_ => h_.1))) hb) (Kd.R_base ho0)) (Kd.R_base ho1)) (fun _ h_ => h_.1)); replace aT := aM (Kd.R_mono (Kd.R_told (Kd.R_told (Kd.R_old (kr (Kd.R_mono (kF (p := ⟨aQ, 3, none⟩) (kF (p := ⟨aQ, 2, none⟩) (kF (p := ⟨aQ, 1, none⟩) (kF (p := ⟨aQ, 0, none⟩) (Kd.R_types aT.out aD.out (by decide)) (fun _ hk => hk.2) (.int .i64 cW)) (fun _ hk => hk.2) (.int .i64 cX)) (fun _ hk => hk.2) (.int .i64 cY)) (fun _ hk => hk.2) (.slice bT bK.length bU)) (fun _ h_ => h_.1))) hb) (Kd.R_base ho0)) (Kd.R_base ho1)) (fun _ h_ => h_.1)); replace aA := aM (bB (fm aA.out) hb); replace aC := aM (bB (fm aC.out) hb); replace aD := aM (bB (g := aQ) (o := .cells #[cW, cX, cY, .slice bT bK.length bU] 25 (0, 0)) (bm aD.out) hb); replace HB := rS HB hb; (repeat first|clear hb|clear ho0|clear ho1)) | ((with_reducible refine gD (N := 10) rfl ?_); refine box_event ?hg (N := 10) ?hd (cs := #[.int .i64 0, .int .i64 0, .int .i64 0, .slice none 0 0]) (t := 25) ?hr ?_; (case hd => rfl); (case hg => rfl); (case hr => first | (go_simp; done) | (go_simp; rfl) | (obtain ⟨A_, c_, e_⟩ := Kd.R_slice aH.out; subst e_; (first | (go_simp; done) | (go_simp; rfl))) | (obtain ⟨A_, c_, e_⟩ := Kd.S_slice aH.out; subst e_; (first | (go_simp; done) | (go_simp; rfl))) | (obtain ⟨A_, c_, e_⟩ := Kd.R_slice aJ.out; subst e_; (first | (go_simp; done) | (go_simp; rfl))) | (obtain ⟨A_, c_, e_⟩ := Kd.S_slice aJ.out; subst e_; (first | (go_simp; done) | (go_simp; rfl))) | (obtain ⟨A_, c_, e_⟩ := Kd.R_slice aK.out; subst e_; (first | (go_simp; done) | (go_simp; rfl))) | (obtain ⟨A_, c_, e_⟩ := Kd.S_slice aK.out; subst e_; (first | (go_simp; done) | (go_simp; rfl))) | (obtain ⟨A_, c_, e_⟩ := Kd.R_slice aN.out; subst e_; (first | (go_simp; done) | (go_simp; rfl))) | (obtain ⟨A_, c_, e_⟩ := Kd.S_slice aN.out; subst e_; (first | (go_simp; done) | (go_simp; rfl))) | (obtain ⟨A_, c_, e_⟩ := Kd.R_slice aT.out; subst e_; (first | (go_simp; done) | (go_simp; rfl))) | (obtain ⟨A_, c_, e_⟩ := Kd.S_slice aT.out; subst e_; (first | (go_simp; done) | (go_simp; rfl))) | (obtain ⟨A_, c_, e_⟩ := Kd.R_slice aW.out; subst e_; (first | (go_simp; done) | (go_simp; rfl))) | (obtain ⟨A_, c_, e_⟩ := Kd.S_slice aW.out; subst e_; (first | (go_simp; done) | (go_simp; rfl))) | (obtain ⟨A_, c_, e_⟩ := Kd.R_slice aX.out; subst e_; (first | (go_simp; done) | (go_simp; rfl))) | (obtain ⟨A_, c_, e_⟩ := Kd.S_slice aX.out; subst e_; (first | (go_simp; done) | (go_simp; rfl)))); intro bA hg pT hbox hb; have aE := aM (hbox); have nD := gF hg HB; have nE := gF hg HB; have eU := nM hg aA; have eV := nH hg aA; have fU := nM hg aC; have fV := nH hg aC; have fW := nM hg aD; have fX := nH hg aD; replace aH := rK aH hb; replace aJ := rK aJ hb; replace aK := rK aK hb; replace aN := rK aN hb; replace aT := rK aT hb; replace aW := rK aW hb; replace aX := rK aX hb; replace aA := rB aA hb; replace aC := rB aC hb; replace aD := rB aD hb; replace HB := rS HB hb; clear hb hbox hg) | ((with_reducible refine gD (N := 11) rfl ?_); refine box_event ?hg (N := 11) ?hd (cs := #[.int .i64 0, .int .i64 0, .int .i64 0, .slice none 0 0]) (t := 25) ?hr ?_; (case hd => rfl); (case hg => rfl); (case hr => first | (go_simp; done) | (go_simp; rfl) | (obtain ⟨A_, c_, e_⟩ := Kd.R_slice aH.out; subst e_; (first | (go_simp; done) | (go_simp; rfl))) | (obtain ⟨A_, c_, e_⟩ := Kd.S_slice aH.out; subst e_; (first | (go_simp; done) | (go_simp; rfl))) | (obtain ⟨A_, c_, e_⟩ := Kd.R_slice aJ.out; subst e_; (first | (go_simp; done) | (go_simp; rfl))) | (obtain ⟨A_, c_, e_⟩ := Kd.S_slice aJ.out; subst e_; (first | (go_simp; done) | (go_simp; rfl))) | (obtain ⟨A_, c_, e_⟩ := Kd.R_slice aK.out; subst e_; (first | (go_simp; done) | (go_simp; rfl))) | (obtain ⟨A_, c_, e_⟩ := Kd.S_slice aK.out; subst e_; (first | (go_simp; done) | (go_simp; rfl))) | (obtain ⟨A_, c_, e_⟩ := Kd.R_slice aN.out; subst e_; (first | (go_simp; done) | (go_simp; rfl))) | (obtain ⟨A_, c_, e_⟩ := Kd.S_slice aN.out; subst e_; (first | (go_simp; done) | (go_simp; rfl))) | (obtain ⟨A_, c_, e_⟩ := Kd.R_slice aT.out; subst e_; (first | (go_simp; done) | (go_simp; rfl))) | (obtain ⟨A_, c_, e_⟩ := Kd.S_slice aT.out; subst e_; (first | (go_simp; done) | (go_simp; rfl))) | (obtain ⟨A_, c_, e_⟩ := Kd.R_slice aW.out; subst e_; (first | (go_simp; done) | (go_simp; rfl))) | (obtain ⟨A_, c_, e_⟩ := Kd.S_slice aW.out; subst e_; (first | (go_simp; done) | (go_simp; rfl))) | (obtain ⟨A_, c_, e_⟩ := Kd.R_slice aX.out; subst e_; (first | (go_simp; done) | (go_simp; rfl))) | (obtain ⟨A_, c_, e_⟩ := Kd.S_slice aX.out; subst e_; (first | (go_simp; done) | (go_simp; rfl)))); intro bD hg pV hbox hb; have aG := aM (hbox); have nF := gF hg HB; have nI := gF hg HB; have eW := nM hg aA; have eX := nH hg aA; have fY := nM hg aC; have gA := nH hg aC; have gB := nM hg aD; have gG := nH hg aD; have gH := nM hg aE; have gJ := nH hg aE; replace aH := rK aH hb; replace aJ := rK aJ hb; replace aK := rK aK hb; replace aN := rK aN hb; replace aT := rK aT hb; replace aW := rK aW hb; replace aX := rK aX hb; replace aA := rB aA hb; replace aC := rB aC hb; replace aD := rB aD hb; replace aE := rB aE hb; replace HB := rS HB hb; clear hb hbox hg; have nJ := eV.out; have nK := eU.out; have nN := fV.out; have nO := fU.out; have nP := fX.out; have nQ := fW.out; have nR := gH.out; have nS := gJ.out; have nT := cA4 aE.out; obtain ⟨bV, bW, kD⟩ := Kd.R_slice aW.out; subst kD; have nV := eX.out; have nZ := eW.out; have oA := gA.out; have oB := fY.out; have oC := gG.out; have oD := gB.out; have oE := cA4 aG.out; obtain ⟨bX, bY, kE⟩ := Kd.R_slice aX.out; subst kE))
 (try simp only [Act.put, sA, sZ, sS])
 go_cut [82] (fun kK wc => ∃ (kq : Nat) (fG : Bool), kK = .bool fG ∧ Aside0 (laws_FnFrames.j0 kq bH fG cG cH cK aV = some true) ∧ Aside0 (kq ≤ k) ∧ Aside0 (Kd.R (Kd.int .u8) 5 wc w.heap.size (fun k_ => some k_ ≠ ((.slice cE aV.length cA) : Value).ownBlock ∧ some k_ ≠ ((.slice cC bL.length cD) : Value).ownBlock ∧ some k_ ≠ ((.slice bT bK.length bU) : Value).ownBlock ∧ some k_ ≠ ((.slice bV bI.length bW) : Value).ownBlock ∧ some k_ ≠ ((.slice bX bJ.length bY) : Value).ownBlock) dL bH) ∧ Aside0 (Kd.R (Kd.int .u8) 5 wc w.heap.size (fun k_ => some k_ ≠ (dL : Value).ownBlock ∧ some k_ ≠ ((.slice cC bL.length cD) : Value).ownBlock ∧ some k_ ≠ ((.slice bT bK.length bU) : Value).ownBlock ∧ some k_ ≠ ((.slice bV bI.length bW) : Value).ownBlock ∧ some k_ ≠ ((.slice bX bJ.length bY) : Value).ownBlock) (.slice cE aV.length cA) aV) ∧ Aside0 (Kd.R (Kd.int .u8) 5 wc w.heap.size (fun k_ => some k_ ≠ (dL : Value).ownBlock ∧ some k_ ≠ ((.slice cE aV.length cA) : Value).ownBlock ∧ some k_ ≠ ((.slice bT bK.length bU) : Value).ownBlock ∧ some k_ ≠ ((.slice bV bI.length bW) : Value).ownBlock ∧ some k_ ≠ ((.slice bX bJ.length bY) : Value).ownBlock) (.slice cC bL.length cD) bL) ∧ Aside0 (Kd.R (Kd.int .u8) 5 wc w.heap.size (fun k_ => some k_ ≠ (dL : Value).ownBlock ∧ some k_ ≠ ((.slice cE aV.length cA) : Value).ownBlock ∧ some k_ ≠ ((.slice cC bL.length cD) : Value).ownBlock ∧ some k_ ≠ ((.slice bV bI.length bW) : Value).ownBlock ∧ some k_ ≠ ((.slice bX bJ.length bY) : Value).ownBlock) (.slice bT bK.length bU) bK) ∧ Aside0 (Kd.R (Kd.int .u8) 5 wc w.heap.size (fun k_ => some k_ ≠ (dL : Value).ownBlock ∧ some k_ ≠ ((.slice cE aV.length cA) : Value).ownBlock ∧ some k_ ≠ ((.slice cC bL.length cD) : Value).ownBlock ∧ some k_ ≠ ((.slice bT bK.length bU) : Value).ownBlock ∧ some k_ ≠ ((.slice bX bJ.length bY) : Value).ownBlock) (.slice bV bI.length bW) bI) ∧ Aside0 (Kd.R (Kd.int .u8) 5 wc w.heap.size (fun k_ => some k_ ≠ (dL : Value).ownBlock ∧ some k_ ≠ ((.slice cE aV.length cA) : Value).ownBlock ∧ some k_ ≠ ((.slice cC bL.length cD) : Value).ownBlock ∧ some k_ ≠ ((.slice bT bK.length bU) : Value).ownBlock ∧ some k_ ≠ ((.slice bV bI.length bW) : Value).ownBlock) (.slice bX bJ.length bY) bJ) ∧ Aside0 (wc.heap[dF]? = some (.cells #[cG, cH, cK, (.slice cE aV.length cA)] 25 (0, 0))) ∧ Aside0 (wc.heap[bQ]? = some (.cells #[dC, dD, dE, (.slice cC bL.length cD)] 25 (0, 0))) ∧ Aside0 (wc.heap[aQ]? = some (.cells #[cW, cX, cY, (.slice bT bK.length bU)] 25 (0, 0))) ∧ Aside0 (wc.heap[bA]? = some (.cells #[cQ, cR, cS, (.slice bV bI.length bW)] 25 (0, 0))) ∧ Aside0 (wc.heap[bD]? = some (.cells #[cT, cU, cV, (.slice bX bJ.length bY)] 25 (0, 0))) ∧ Aside0 (Below w.heap.size w wc))
 case first =>
  have H := iA.out
  clear iA
  obtain ⟨eK, iP, H⟩ := hB H
  have jS := aM iP
  clear iP
  by_cases fE : (strOfNums bH).toList = (strOfNums eK).toList
  case neg =>
   rw [if_neg fE] at H
   have fB : ((strOfNums bH).toList == (strOfNums eK).toList) = false := beq_eq_false_iff_ne.mpr fE
   have iG : ((strOfNums bH).toList != (strOfNums eK).toList) = true := bne_iff_ne.mpr fE
   (first | rw [fB] | (simp only [i64_w, i32_w]; rw [fB]) | skip)
   exact absurd H (laws_FnFrames.j0_no _ _ _ _ _ _)
  rw [if_pos fE] at H
  have fB : ((strOfNums bH).toList == (strOfNums eK).toList) = true := beq_iff_eq.mpr fE
  have iG : ((strOfNums bH).toList != (strOfNums eK).toList) = false := bne_eq_false_iff_eq.mpr fE
  clear fE
  (first | rw [fB] | (simp only [i64_w, i32_w]; rw [fB]) | skip)
  by_cases eY : (eL != eO) = true
  case pos =>
   rw [if_pos eY] at H
   have iX : (eL != eO) = true := eY
   (try (have iY : decide (eL = eO) = false := by simpa using eY))
   (try (have iZ : (eL == eO) = false := by simpa using eY))
   (try (have oF : ¬ (eL = eO) := by simpa using eY))
   clear eY
   exact absurd H (laws_FnFrames.j0_no _ _ _ _ _ _)
  rw [if_neg eY] at H
  have iX : (eL != eO) = false := by simpa using eY
  (try (have iY : decide (eL = eO) = true := by simpa using eY))
  (try (have iZ : (eL == eO) = true := by simpa using eY))
  clear eY
  obtain ⟨fH, iQ, H⟩ := hB H
  have jT := aM iQ
  clear iQ
  by_cases iH : fH = true
  case neg =>
   replace iH := Bool.eq_false_iff.mpr iH
   subst iH
   have H1 : (laws_FnFrames.j0 k bH true cG cH cK aV) = some true := by first | (rw [if_neg (show ¬ (false = true) by decide)] at H; exact H) | (rw [if_neg (show ¬ (false = true) by decide)] at H)
   clear H
   have H := H1
   clear H1
   exact absurd H (laws_FnFrames.j0_no _ _ _ _ _ _)
  subst iH
  have H1 : ((impl_FrameSame.f cQ cR cS bI cT cU cV bJ).bind fun dR => ((spec_FrameSame.f cQ cR cS bI cT cU cV bJ).bind fun dS => (if (dR != dS) = true then (laws_FnFrames.j0 k bH true cG cH cK aV) else ((impl_FrameOk.f cG cH cK aV).bind fun dU => ((spec_FrameOk.f cG cH cK aV).bind fun dV => (if (dU != dV) = true then (laws_FnFrames.j0 k bH true cG cH cK aV) else (if eL = true then ((impl_FrameBytes.f k dC dD dE bL).bind fun eN => (laws_FnFrames.j0 k bH ((strOfNums eN).toList != (strOfNums cO).toList) cG cH cK aV)) else (laws_FnFrames.j0 k bH false cG cH cK aV)))))))) = some true := by first | (rw [if_pos rfl] at H; exact H) | (rw [if_pos rfl] at H)
  clear H
  have H := H1
  clear H1
  obtain ⟨dR, iR, H⟩ := hB H
  have jU := aM iR
  clear iR
  obtain ⟨dS, iS, H⟩ := hB H
  have jV := aM iS
  clear iS
  by_cases eZ : (dR != dS) = true
  case pos =>
   rw [if_pos eZ] at H
   have jA : (dR != dS) = true := eZ
   (try (have jB : decide (dR = dS) = false := by simpa using eZ))
   (try (have jC : (dR == dS) = false := by simpa using eZ))
   (try (have oG : ¬ (dR = dS) := by simpa using eZ))
   clear eZ
   exact absurd H (laws_FnFrames.j0_no _ _ _ _ _ _)
  rw [if_neg eZ] at H
  have jA : (dR != dS) = false := by simpa using eZ
  (try (have jB : decide (dR = dS) = true := by simpa using eZ))
  (try (have jC : (dR == dS) = true := by simpa using eZ))
  clear eZ
  obtain ⟨dU, iT, H⟩ := hB H
  have jW := aM iT
  clear iT
  obtain ⟨dV, iU, H⟩ := hB H
  have jX := aM iU
  clear iU
  by_cases fA : (dU != dV) = true
  case pos =>
   rw [if_pos fA] at H
   have jD : (dU != dV) = true := fA
   (try (have jE : decide (dU = dV) = false := by simpa using fA))
   (try (have jF : (dU == dV) = false := by simpa using fA))
   (try (have oH : ¬ (dU = dV) := by simpa using fA))
   clear fA
   exact absurd H (laws_FnFrames.j0_no _ _ _ _ _ _)
  rw [if_neg fA] at H
  have jD : (dU != dV) = false := by simpa using fA
  (try (have jE : decide (dU = dV) = true := by simpa using fA))
  (try (have jF : (dU == dV) = true := by simpa using fA))
  clear fA
  by_cases iI : eL = true
  case neg =>
   replace iI := Bool.eq_false_iff.mpr iI
   subst iI
   have H1 : (laws_FnFrames.j0 k bH false cG cH cK aV) = some true := by first | (rw [if_neg (show ¬ (false = true) by decide)] at H; exact H) | (rw [if_neg (show ¬ (false = true) by decide)] at H)
   clear H
   have H := H1
   clear H1
   have H' := aM H
   clear H
   try go_wp2
   refine nW (fun W => Aside0 (Kd.R (Kd.int .u8) 5 W w.heap.size (fun k_ => some k_ ≠ (dL : Value).ownBlock ∧ some k_ ≠ (.slice dW cO.length dM : Value).ownBlock ∧ some k_ ≠ (.slice cC bL.length cD : Value).ownBlock ∧ some k_ ≠ (.slice bT bK.length bU : Value).ownBlock ∧ some k_ ≠ (.slice bV bI.length bW : Value).ownBlock ∧ some k_ ≠ (.slice bX bJ.length bY : Value).ownBlock) (.slice cE aV.length cA) aV) ∧ Aside0 (Kd.R (Kd.int .u8) 5 W w.heap.size (fun k_ => some k_ ≠ (.slice cE aV.length cA : Value).ownBlock ∧ some k_ ≠ (.slice dW cO.length dM : Value).ownBlock ∧ some k_ ≠ (.slice cC bL.length cD : Value).ownBlock ∧ some k_ ≠ (.slice bT bK.length bU : Value).ownBlock ∧ some k_ ≠ (.slice bV bI.length bW : Value).ownBlock ∧ some k_ ≠ (.slice bX bJ.length bY : Value).ownBlock) dL bH) ∧ Aside0 (Kd.R (Kd.int .u8) 5 W w.heap.size (fun k_ => some k_ ≠ (.slice cE aV.length cA : Value).ownBlock ∧ some k_ ≠ (dL : Value).ownBlock ∧ some k_ ≠ (.slice cC bL.length cD : Value).ownBlock ∧ some k_ ≠ (.slice bT bK.length bU : Value).ownBlock ∧ some k_ ≠ (.slice bV bI.length bW : Value).ownBlock ∧ some k_ ≠ (.slice bX bJ.length bY : Value).ownBlock) (.slice dW cO.length dM) cO) ∧ Aside0 (Kd.R (Kd.int .u8) 5 W w.heap.size (fun k_ => some k_ ≠ (.slice cE aV.length cA : Value).ownBlock ∧ some k_ ≠ (dL : Value).ownBlock ∧ some k_ ≠ (.slice dW cO.length dM : Value).ownBlock ∧ some k_ ≠ (.slice bT bK.length bU : Value).ownBlock ∧ some k_ ≠ (.slice bV bI.length bW : Value).ownBlock ∧ some k_ ≠ (.slice bX bJ.length bY : Value).ownBlock) (.slice cC bL.length cD) bL) ∧ Aside0 (Kd.R (Kd.int .u8) 5 W w.heap.size (fun k_ => some k_ ≠ (.slice cE aV.length cA : Value).ownBlock ∧ some k_ ≠ (dL : Value).ownBlock ∧ some k_ ≠ (.slice dW cO.length dM : Value).ownBlock ∧ some k_ ≠ (.slice cC bL.length cD : Value).ownBlock ∧ some k_ ≠ (.slice bV bI.length bW : Value).ownBlock ∧ some k_ ≠ (.slice bX bJ.length bY : Value).ownBlock) (.slice bT bK.length bU) bK) ∧ Aside0 (Kd.R (Kd.int .u8) 5 W w.heap.size (fun k_ => some k_ ≠ (.slice cE aV.length cA : Value).ownBlock ∧ some k_ ≠ (dL : Value).ownBlock ∧ some k_ ≠ (.slice dW cO.length dM : Value).ownBlock ∧ some k_ ≠ (.slice cC bL.length cD : Value).ownBlock ∧ some k_ ≠ (.slice bT bK.length bU : Value).ownBlock ∧ some k_ ≠ (.slice bX bJ.length bY : Value).ownBlock) (.slice bV bI.length bW) bI) ∧ Aside0 (Kd.R (Kd.int .u8) 5 W w.heap.size (fun k_ => some k_ ≠ (.slice cE aV.length cA : Value).ownBlock ∧ some k_ ≠ (dL : Value).ownBlock ∧ some k_ ≠ (.slice dW cO.length dM : Value).ownBlock ∧ some k_ ≠ (.slice cC bL.length cD : Value).ownBlock ∧ some k_ ≠ (.slice bT bK.length bU : Value).ownBlock ∧ some k_ ≠ (.slice bV bI.length bW : Value).ownBlock) (.slice bX bJ.length bY) bJ) ∧ Aside0 (W.heap[dF]? = some (.cells #[cG, cH, cK, .slice cE aV.length cA] 25 (0, 0))) ∧ Aside0 (W.heap[bQ]? = some (.cells #[dC, dD, dE, .slice cC bL.length cD] 25 (0, 0))) ∧ Aside0 (W.heap[aQ]? = some (.cells #[cW, cX, cY, .slice bT bK.length bU] 25 (0, 0))) ∧ Aside0 (W.heap[bA]? = some (.cells #[cQ, cR, cS, .slice bV bI.length bW] 25 (0, 0))) ∧ Aside0 (W.heap[bD]? = some (.cells #[cT, cU, cV, .slice bX bJ.length bY] 25 (0, 0))) ∧ Aside0 (Below w.heap.size w W)) ⟨⟨kr (Kd.R_mono (kF (p := ⟨bD, 3, none⟩) (kF (p := ⟨bD, 2, none⟩) (kF (p := ⟨bD, 1, none⟩) (kF (p := ⟨bD, 0, none⟩) (kF (p := ⟨bA, 3, none⟩) (kF (p := ⟨bA, 2, none⟩) (kF (p := ⟨bA, 1, none⟩) (kF (p := ⟨bA, 0, none⟩) (Kd.R_types (Kd.R_types aH.out aE.out (by decide)) aG.out (by decide)) (fun _ hk => hk.1.2) (.int .i64 cQ)) (fun _ hk => hk.1.2) (.int .i64 cR)) (fun _ hk => hk.1.2) (.int .i64 cS)) (fun _ hk => hk.1.2) (.slice bV bI.length bW)) (fun _ hk => hk.2) (.int .i64 cT)) (fun _ hk => hk.2) (.int .i64 cU)) (fun _ hk => hk.2) (.int .i64 cV)) (fun _ hk => hk.2) (.slice bX bJ.length bY)) (fun _ hk => ⟨hk.1.1.1.1.1.1.1.2, ⟨hk.1.1.1.1.1.1.2, ⟨hk.1.1.1.1.1.2, ⟨hk.1.1.1.1.2, ⟨hk.1.1.1.2, hk.1.1.2⟩⟩⟩⟩⟩))⟩, ⟨kr (Kd.R_mono (kF (p := ⟨bD, 3, none⟩) (kF (p := ⟨bD, 2, none⟩) (kF (p := ⟨bD, 1, none⟩) (kF (p := ⟨bD, 0, none⟩) (kF (p := ⟨bA, 3, none⟩) (kF (p := ⟨bA, 2, none⟩) (kF (p := ⟨bA, 1, none⟩) (kF (p := ⟨bA, 0, none⟩) (Kd.R_types (Kd.R_types aJ.out aE.out (by decide)) aG.out (by decide)) (fun _ hk => hk.1.2) (.int .i64 cQ)) (fun _ hk => hk.1.2) (.int .i64 cR)) (fun _ hk => hk.1.2) (.int .i64 cS)) (fun _ hk => hk.1.2) (.slice bV bI.length bW)) (fun _ hk => hk.2) (.int .i64 cT)) (fun _ hk => hk.2) (.int .i64 cU)) (fun _ hk => hk.2) (.int .i64 cV)) (fun _ hk => hk.2) (.slice bX bJ.length bY)) (fun _ hk => ⟨hk.1.1.1.1.1.1.1.2, ⟨hk.1.1.1.1.1.1.2, ⟨hk.1.1.1.1.1.2, ⟨hk.1.1.1.1.2, ⟨hk.1.1.1.2, hk.1.1.2⟩⟩⟩⟩⟩))⟩, ⟨kr (Kd.R_mono (kF (p := ⟨bD, 3, none⟩) (kF (p := ⟨bD, 2, none⟩) (kF (p := ⟨bD, 1, none⟩) (kF (p := ⟨bD, 0, none⟩) (kF (p := ⟨bA, 3, none⟩) (kF (p := ⟨bA, 2, none⟩) (kF (p := ⟨bA, 1, none⟩) (kF (p := ⟨bA, 0, none⟩) (Kd.R_types (Kd.R_types aK.out aE.out (by decide)) aG.out (by decide)) (fun _ hk => hk.1.2) (.int .i64 cQ)) (fun _ hk => hk.1.2) (.int .i64 cR)) (fun _ hk => hk.1.2) (.int .i64 cS)) (fun _ hk => hk.1.2) (.slice bV bI.length bW)) (fun _ hk => hk.2) (.int .i64 cT)) (fun _ hk => hk.2) (.int .i64 cU)) (fun _ hk => hk.2) (.int .i64 cV)) (fun _ hk => hk.2) (.slice bX bJ.length bY)) (fun _ hk => ⟨hk.1.1.1.1.1.1.1.2, ⟨hk.1.1.1.1.1.1.2, ⟨hk.1.1.1.1.1.2, ⟨hk.1.1.1.1.2, ⟨hk.1.1.1.2, hk.1.1.2⟩⟩⟩⟩⟩))⟩, ⟨kr (Kd.R_mono (kF (p := ⟨bD, 3, none⟩) (kF (p := ⟨bD, 2, none⟩) (kF (p := ⟨bD, 1, none⟩) (kF (p := ⟨bD, 0, none⟩) (kF (p := ⟨bA, 3, none⟩) (kF (p := ⟨bA, 2, none⟩) (kF (p := ⟨bA, 1, none⟩) (kF (p := ⟨bA, 0, none⟩) (Kd.R_types (Kd.R_types aN.out aE.out (by decide)) aG.out (by decide)) (fun _ hk => hk.1.2) (.int .i64 cQ)) (fun _ hk => hk.1.2) (.int .i64 cR)) (fun _ hk => hk.1.2) (.int .i64 cS)) (fun _ hk => hk.1.2) (.slice bV bI.length bW)) (fun _ hk => hk.2) (.int .i64 cT)) (fun _ hk => hk.2) (.int .i64 cU)) (fun _ hk => hk.2) (.int .i64 cV)) (fun _ hk => hk.2) (.slice bX bJ.length bY)) (fun _ hk => ⟨hk.1.1.1.1.1.1.1.2, ⟨hk.1.1.1.1.1.1.2, ⟨hk.1.1.1.1.1.2, ⟨hk.1.1.1.1.2, ⟨hk.1.1.1.2, hk.1.1.2⟩⟩⟩⟩⟩))⟩, ⟨kr (Kd.R_mono (kF (p := ⟨bD, 3, none⟩) (kF (p := ⟨bD, 2, none⟩) (kF (p := ⟨bD, 1, none⟩) (kF (p := ⟨bD, 0, none⟩) (kF (p := ⟨bA, 3, none⟩) (kF (p := ⟨bA, 2, none⟩) (kF (p := ⟨bA, 1, none⟩) (kF (p := ⟨bA, 0, none⟩) (Kd.R_types (Kd.R_types aT.out aE.out (by decide)) aG.out (by decide)) (fun _ hk => hk.1.2) (.int .i64 cQ)) (fun _ hk => hk.1.2) (.int .i64 cR)) (fun _ hk => hk.1.2) (.int .i64 cS)) (fun _ hk => hk.1.2) (.slice bV bI.length bW)) (fun _ hk => hk.2) (.int .i64 cT)) (fun _ hk => hk.2) (.int .i64 cU)) (fun _ hk => hk.2) (.int .i64 cV)) (fun _ hk => hk.2) (.slice bX bJ.length bY)) (fun _ hk => ⟨hk.1.1.1.1.1.1.1.2, ⟨hk.1.1.1.1.1.1.2, ⟨hk.1.1.1.1.1.2, ⟨hk.1.1.1.1.2, ⟨hk.1.1.1.2, hk.1.1.2⟩⟩⟩⟩⟩))⟩, ⟨kr (Kd.R_mono (kF (p := ⟨bD, 3, none⟩) (kF (p := ⟨bD, 2, none⟩) (kF (p := ⟨bD, 1, none⟩) (kF (p := ⟨bD, 0, none⟩) (kF (p := ⟨bA, 3, none⟩) (kF (p := ⟨bA, 2, none⟩) (kF (p := ⟨bA, 1, none⟩) (kF (p := ⟨bA, 0, none⟩) (Kd.R_types (Kd.R_types aW.out aE.out (by decide)) aG.out (by decide)) (fun _ hk => hk.1.2) (.int .i64 cQ)) (fun _ hk => hk.1.2) (.int .i64 cR)) (fun _ hk => hk.1.2) (.int .i64 cS)) (fun _ hk => hk.1.2) (.slice bV bI.length bW)) (fun _ hk => hk.2) (.int .i64 cT)) (fun _ hk => hk.2) (.int .i64 cU)) (fun _ hk => hk.2) (.int .i64 cV)) (fun _ hk => hk.2) (.slice bX bJ.length bY)) (fun _ hk => ⟨hk.1.1.1.1.1.1.2, ⟨hk.1.1.1.1.1.2, ⟨hk.1.1.1.1.2, ⟨hk.1.1.1.2, ⟨hk.1.1.2, hk.1.1.1.1.1.1.1⟩⟩⟩⟩⟩))⟩, ⟨kr (Kd.R_mono (kF (p := ⟨bD, 3, none⟩) (kF (p := ⟨bD, 2, none⟩) (kF (p := ⟨bD, 1, none⟩) (kF (p := ⟨bD, 0, none⟩) (kF (p := ⟨bA, 3, none⟩) (kF (p := ⟨bA, 2, none⟩) (kF (p := ⟨bA, 1, none⟩) (kF (p := ⟨bA, 0, none⟩) (Kd.R_types (Kd.R_types aX.out aE.out (by decide)) aG.out (by decide)) (fun _ hk => hk.1.2) (.int .i64 cQ)) (fun _ hk => hk.1.2) (.int .i64 cR)) (fun _ hk => hk.1.2) (.int .i64 cS)) (fun _ hk => hk.1.2) (.slice bV bI.length bW)) (fun _ hk => hk.2) (.int .i64 cT)) (fun _ hk => hk.2) (.int .i64 cU)) (fun _ hk => hk.2) (.int .i64 cV)) (fun _ hk => hk.2) (.slice bX bJ.length bY)) (fun _ hk => ⟨hk.1.1.1.1.1.1.2, ⟨hk.1.1.1.1.1.2, ⟨hk.1.1.1.1.2, ⟨hk.1.1.1.2, ⟨hk.1.1.2, hk.1.1.1.1.1.1.1⟩⟩⟩⟩⟩))⟩, ⟨fm aA.out⟩, ⟨fm aC.out⟩, ⟨fm aD.out⟩, ⟨bm aE.out⟩, ⟨bm aG.out⟩, ⟨bl HB.out⟩⟩ ?_
   intro kL nn_
   replace aH := nn_.1
   replace aJ := nn_.2.1
   replace aK := nn_.2.2.1
   replace aN := nn_.2.2.2.1
   replace aT := nn_.2.2.2.2.1
   replace aW := nn_.2.2.2.2.2.1
   replace aX := nn_.2.2.2.2.2.2.1
   replace aA := nn_.2.2.2.2.2.2.2.1
   replace aC := nn_.2.2.2.2.2.2.2.2.1
   replace aD := nn_.2.2.2.2.2.2.2.2.2.1
   replace aE := nn_.2.2.2.2.2.2.2.2.2.2.1
   replace aG := nn_.2.2.2.2.2.2.2.2.2.2.2.1
   replace HB := nn_.2.2.2.2.2.2.2.2.2.2.2.2
   clear nn_
   replace aH := aM (Kd.R_drew aH.out)
   replace aJ := aM (Kd.R_drew aJ.out)
   replace aK := aM (Kd.R_drew aK.out)
   replace aN := aM (Kd.R_drew aN.out)
   replace aT := aM (Kd.R_drew aT.out)
   replace aW := aM (Kd.R_drew aW.out)
   replace aX := aM (Kd.R_drew aX.out)
   replace aA := aM (blk_drew aA.out)
   replace aC := aM (blk_drew aC.out)
   replace aD := aM (blk_drew aD.out)
   replace aE := aM (blk_drew aE.out)
   replace aG := aM (blk_drew aG.out)
   replace HB := aM (below_drew1 HB.out)
   have hcv98 := own_string (P := Try.prog) Try.underlying22 Try.underlying5 Try.underlying9 (Kd.own_of_R aJ.out)
   refine start_ (n := 44) (S := fun w' => (convert 22 9 dL).run Try.prog w' = .ok (.string (strOfNums bH)) w' ∧ cT4 w' dF (.int .i64 cG) (.int .i64 cH) (.int .i64 cK) (.slice cE aV.length cA) (cT4 w' bQ (.int .i64 dC) (.int .i64 dD) (.int .i64 dE) (.slice cC bL.length cD) (cT4 w' aQ (.int .i64 cW) (.int .i64 cX) (.int .i64 cY) (.slice bT bK.length bU) (cT4 w' bA (.int .i64 cQ) (.int .i64 cR) (.int .i64 cS) (.slice bV bI.length bW) (cS4 w' bD (.int .i64 cT) (.int .i64 cU) (.int .i64 cV) (.slice bX bJ.length bY)))))) (ds := []) (dn 44 0) (by kernel_rfl) rfl rfl ⟨(own_string (P := Try.prog) Try.underlying22 Try.underlying5 Try.underlying9 (Kd.own_of_R aJ.out)), cI aA.out 0, cI aA.out 1, cI aA.out 2, cI aA.out 3, cI aC.out 0, cI aC.out 1, cI aC.out 2, cI aC.out 3, cI aD.out 0, cI aD.out 1, cI aD.out 2, cI aD.out 3, cI aE.out 0, cI aE.out 1, cI aE.out 2, cI aE.out 3, cI aG.out 0, cI aG.out 1, cI aG.out 2, cI aG.out 3⟩ (fun hHeld => ?_); refine with_tabW laws_FnFrames.tab9 laws_FnFrames.bits9 (fun HT_ HW_ => ?_)
   generalize kL.drew = pW at aH aJ aK aN aT aW aX aA aC aD aE aG HB hHeld ⊢
   refine nY (N := some 39) HT_ ?_
   refine tY (N := some 40) HT_ HW_ hHeld ?_
   refine tY (N := some 41) HT_ HW_ hHeld ?_
   refine oN (N := some 42) HT_ (fun K hK => ?_)
   refine goes_ Try.func13 (by kernel_rfl) rfl #[.agg #[cG, cH, cK, .slice cE aV.length cA]] (by rfl) rfl rfl xR ?_
   with_reducible refine (spec_FrameBytes.calls k cG cH cK _ _ aV eK _ ?side1 ?side2 jS.out).mono ?_
   (case side1 => exact cM ((Kd.R_reads' aH.out).2.2))
   (case side2 => exact (Kd.R_reads' aH.out).2.1)
   rintro e pX ⟨kG, rfl, ho0, hb⟩
   refine ⟨_, rfl, ?_⟩
   have cP := aM (Kd.R_lower (Kd.R_new' (Kd.R_new' (Kd.R_new' (Kd.R_new' (Kd.R_new' (Kd.R_new' (Kd.R_new' ho0 (Kd.R_lt (kr aH.out))) (Kd.R_lt (kr aJ.out))) (Kd.R_lt (kr aK.out))) (Kd.R_lt (kr aN.out))) (Kd.R_lt (kr aT.out))) (Kd.R_lt (kr aW.out))) (Kd.R_lt (kr aX.out))) (below_size (bl HB.out)))
   replace aH := aM (Kd.R_elder' (kr aH.out) (Kd.R_base ho0) hb)
   replace aJ := aM (Kd.R_elder' (kr aJ.out) (Kd.R_base ho0) hb)
   replace aK := aM (Kd.R_elder' (kr aK.out) (Kd.R_base ho0) hb)
   replace aN := aM (Kd.R_elder' (kr aN.out) (Kd.R_base ho0) hb)
   replace aT := aM (Kd.R_elder' (kr aT.out) (Kd.R_base ho0) hb)
   replace aW := aM (Kd.R_elder' (kr aW.out) (Kd.R_base ho0) hb)
   replace aX := aM (Kd.R_elder' (kr aX.out) (Kd.R_base ho0) hb)
   replace aA := rB aA hb
   replace aC := rB aC hb
   replace aD := rB aD hb
   replace aE := rB aE hb
   replace aG := rB aG hb
   replace HB := rS HB hb
   (try clear hb)
   (try clear hb2)
   (try clear hk)
   (try clear hi)
   (try clear ho0)
   refine hK.out _ _ ⟨(own_string (P := Try.prog) Try.underlying22 Try.underlying5 Try.underlying9 (Kd.own_of_R aJ.out)), cI aA.out 0, cI aA.out 1, cI aA.out 2, cI aA.out 3, cI aC.out 0, cI aC.out 1, cI aC.out 2, cI aC.out 3, cI aD.out 0, cI aD.out 1, cI aD.out 2, cI aD.out 3, cI aE.out 0, cI aE.out 1, cI aE.out 2, cI aE.out 3, cI aG.out 0, cI aG.out 1, cI aG.out 2, cI aG.out 3⟩ (fun hHeld => ?_)
   clear hK K
   refine norm_ (a' := ?_) ?_ ?_
   rotate_left
   ·show Act.put _ (some 42) _ = _
    simp only [Act.put, sA, sZ, sS, i64_w, i32_w]
    rfl
   refine oN (N := some 43) HT_ (fun K hK => ?_)
   have hcv100 := own_string (P := Try.prog) Try.underlying22 Try.underlying5 Try.underlying9 (Kd.own_of_R cP.out)
   refine value_ (w1 := ?_) (v := ?_) (by rfl) rfl ?_ ?_
   rotate_left 2
   ·go_simp
    constructor
    ·rfl
    ·rfl
   clear hcv100
   refine hK.out _ _ ⟨(own_string (P := Try.prog) Try.underlying22 Try.underlying5 Try.underlying9 (Kd.own_of_R aJ.out)), cI aA.out 0, cI aA.out 1, cI aA.out 2, cI aA.out 3, cI aC.out 0, cI aC.out 1, cI aC.out 2, cI aC.out 3, cI aD.out 0, cI aD.out 1, cI aD.out 2, cI aD.out 3, cI aE.out 0, cI aE.out 1, cI aE.out 2, cI aE.out 3, cI aG.out 0, cI aG.out 1, cI aG.out 2, cI aG.out 3⟩ (fun hHeld => ?_)
   clear hK K
   refine norm_ (a' := ?_) ?_ ?_
   rotate_left
   ·show Act.put _ (some 43) _ = _
    simp only [Act.put, sA, sZ, sS, i64_w, i32_w]
    rfl
   refine nY (N := some 44) HT_ ?_
   refine nY (N := some 45) HT_ ?_
   refine nY (N := some 46) HT_ ?_
   refine nY (N := some 47) HT_ ?_
   refine nY (N := some 48) HT_ ?_
   refine nY (N := some 49) HT_ ?_
   refine nY (N := some 50) HT_ ?_
   refine tY (N := some 51) HT_ HW_ hHeld ?_
   refine tY (N := some 52) HT_ HW_ hHeld ?_
   refine oN (N := some 53) HT_ (fun K hK => ?_)
   refine goes_ Try.func14 (by kernel_rfl) rfl #[.agg #[dC, dD, dE, .slice cC bL.length cD], .agg #[cW, cX, cY, .slice bT bK.length bU]] (by rfl) rfl rfl xR ?_
   with_reducible refine (impl_FrameSame.calls dC dD dE _ _ bL cW cX cY _ _ bK true _ ?side1 ?side2 ?side3 ?side4 jT.out).mono ?_
   (case side1 => exact cM ((Kd.R_reads' aN.out).2.2))
   (case side2 => exact (Kd.R_reads' aN.out).2.1)
   (case side3 => exact cM ((Kd.R_reads' aT.out).2.2))
   (case side4 => exact (Kd.R_reads' aT.out).2.1)
   rintro e oW ⟨rfl, hb⟩
   refine ⟨_, rfl, ?_⟩
   replace aH := rK aH hb
   replace aJ := rK aJ hb
   replace aK := rK aK hb
   replace aN := rK aN hb
   replace aT := rK aT hb
   replace aW := rK aW hb
   replace aX := rK aX hb
   replace cP := rK cP hb
   replace aA := rB aA hb
   replace aC := rB aC hb
   replace aD := rB aD hb
   replace aE := rB aE hb
   replace aG := rB aG hb
   replace HB := rS HB hb
   (try clear hb)
   (try clear hb2)
   (try clear hk)
   (try clear hi)
   refine hK.out _ _ ⟨(own_string (P := Try.prog) Try.underlying22 Try.underlying5 Try.underlying9 (Kd.own_of_R aJ.out)), cI aA.out 0, cI aA.out 1, cI aA.out 2, cI aA.out 3, cI aC.out 0, cI aC.out 1, cI aC.out 2, cI aC.out 3, cI aD.out 0, cI aD.out 1, cI aD.out 2, cI aD.out 3, cI aE.out 0, cI aE.out 1, cI aE.out 2, cI aE.out 3, cI aG.out 0, cI aG.out 1, cI aG.out 2, cI aG.out 3⟩ (fun hHeld => ?_)
   clear hK K
   refine norm_ (a' := ?_) ?_ ?_
   rotate_left
   ·show Act.put _ (some 53) _ = _
    simp only [Act.put, sA, sZ, sS, i64_w, i32_w]
    rfl
   refine nY (N := some 54) HT_ ?_
   refine nY (N := some 55) HT_ ?_
   refine nY (N := some 56) HT_ ?_
   refine tY (N := some 57) HT_ HW_ hHeld ?_
   refine tY (N := some 58) HT_ HW_ hHeld ?_
   refine aZ 21 60 (bv 44 3145727) HT_ HW_ hHeld ?_
   refine aZ 22 61 (bv 44 7340031) HT_ HW_ hHeld ?_
   refine one_ (i := 20) (N := some 59) (bv 44 8388607) rfl rfl (one_of HT_.out (by kernel_rfl)) (by decide) (fun K hK => ?_)
   refine goes_ Try.func14 (by kernel_rfl) rfl #[.agg #[cQ, cR, cS, .slice bV bI.length bW], .agg #[cT, cU, cV, .slice bX bJ.length bY]] (by rfl) rfl rfl xR ?_
   with_reducible refine (impl_FrameSame.calls cQ cR cS _ _ bI cT cU cV _ _ bJ dR _ ?side1 ?side2 ?side3 ?side4 jU.out).mono ?_
   (case side1 => exact cM ((Kd.R_reads' aW.out).2.2))
   (case side2 => exact (Kd.R_reads' aW.out).2.1)
   (case side3 => exact cM ((Kd.R_reads' aX.out).2.2))
   (case side4 => exact (Kd.R_reads' aX.out).2.1)
   rintro e oX ⟨rfl, hb⟩
   refine ⟨_, rfl, ?_⟩
   replace aH := rK aH hb
   replace aJ := rK aJ hb
   replace aK := rK aK hb
   replace aN := rK aN hb
   replace aT := rK aT hb
   replace aW := rK aW hb
   replace aX := rK aX hb
   replace cP := rK cP hb
   replace aA := rB aA hb
   replace aC := rB aC hb
   replace aD := rB aD hb
   replace aE := rB aE hb
   replace aG := rB aG hb
   replace HB := rS HB hb
   (try clear hb)
   (try clear hb2)
   (try clear hk)
   (try clear hi)
   refine hK.out _ _ ⟨(own_string (P := Try.prog) Try.underlying22 Try.underlying5 Try.underlying9 (Kd.own_of_R aJ.out)), cI aA.out 0, cI aA.out 1, cI aA.out 2, cI aA.out 3, cI aC.out 0, cI aC.out 1, cI aC.out 2, cI aC.out 3, cI aD.out 0, cI aD.out 1, cI aD.out 2, cI aD.out 3, cI aE.out 0, cI aE.out 1, cI aE.out 2, cI aE.out 3, cI aG.out 0, cI aG.out 1, cI aG.out 2, cI aG.out 3⟩ (fun hHeld => ?_)
   clear hK K
   refine norm_ (a' := ?_) ?_ ?_
   rotate_left
   ·show Act.put _ (some 59) _ = _
    simp only [Act.put, sA, sZ, sS, i64_w, i32_w]
    rfl
   refine one_ (i := 23) (N := some 62) (bv 44 16777215) rfl rfl (one_of HT_.out (by kernel_rfl)) (by decide) (fun K hK => ?_)
   refine goes_ Try.func15 (by kernel_rfl) rfl #[.agg #[cQ, cR, cS, .slice bV bI.length bW], .agg #[cT, cU, cV, .slice bX bJ.length bY]] (by rfl) rfl rfl xR ?_
   with_reducible refine (spec_FrameSame.calls cQ cR cS _ _ bI cT cU cV _ _ bJ dS _ ?side1 ?side2 ?side3 ?side4 jV.out).mono ?_
   (case side1 => exact cM ((Kd.R_reads' aW.out).2.2))
   (case side2 => exact (Kd.R_reads' aW.out).2.1)
   (case side3 => exact cM ((Kd.R_reads' aX.out).2.2))
   (case side4 => exact (Kd.R_reads' aX.out).2.1)
   rintro e oY ⟨rfl, hb⟩
   refine ⟨_, rfl, ?_⟩
   replace aH := rK aH hb
   replace aJ := rK aJ hb
   replace aK := rK aK hb
   replace aN := rK aN hb
   replace aT := rK aT hb
   replace aW := rK aW hb
   replace aX := rK aX hb
   replace cP := rK cP hb
   replace aA := rB aA hb
   replace aC := rB aC hb
   replace aD := rB aD hb
   replace aE := rB aE hb
   replace aG := rB aG hb
   replace HB := rS HB hb
   (try clear hb)
   (try clear hb2)
   (try clear hk)
   (try clear hi)
   refine hK.out _ _ ⟨(own_string (P := Try.prog) Try.underlying22 Try.underlying5 Try.underlying9 (Kd.own_of_R aJ.out)), cI aA.out 0, cI aA.out 1, cI aA.out 2, cI aA.out 3, cI aC.out 0, cI aC.out 1, cI aC.out 2, cI aC.out 3, cI aD.out 0, cI aD.out 1, cI aD.out 2, cI aD.out 3, cI aE.out 0, cI aE.out 1, cI aE.out 2, cI aE.out 3, cI aG.out 0, cI aG.out 1, cI aG.out 2, cI aG.out 3⟩ (fun hHeld => ?_)
   clear hK K
   refine norm_ (a' := ?_) ?_ ?_
   rotate_left
   ·show Act.put _ (some 62) _ = _
    simp only [Act.put, sA, sZ, sS, i64_w, i32_w]
    rfl
   refine pZ 24 63 (bv 44 33554431) HT_ ?_
   refine pZ 25 64 (bv 44 67108863) HT_ ?_
   refine pZ 26 65 (bv 44 134217727) HT_ ?_
   refine aZ 27 66 (bv 44 268435455) HT_ HW_ hHeld ?_
   refine aZ 29 68 (bv 44 805306367) HT_ HW_ hHeld ?_
   refine one_ (i := 28) (N := some 67) (bv 44 1073741823) rfl rfl (one_of HT_.out (by kernel_rfl)) (by decide) (fun K hK => ?_)
   refine goes_ Try.func16 (by kernel_rfl) rfl #[.agg #[cG, cH, cK, .slice cE aV.length cA]] (by rfl) rfl rfl xR ?_
   with_reducible refine (impl_FrameOk.calls cG cH cK _ _ aV dU _ ?side1 ?side2 jW.out).mono ?_
   (case side1 => exact cM ((Kd.R_reads' aH.out).2.2))
   (case side2 => exact (Kd.R_reads' aH.out).2.1)
   rintro e oZ ⟨rfl, hb⟩
   refine ⟨_, rfl, ?_⟩
   replace aH := rK aH hb
   replace aJ := rK aJ hb
   replace aK := rK aK hb
   replace aN := rK aN hb
   replace aT := rK aT hb
   replace aW := rK aW hb
   replace aX := rK aX hb
   replace cP := rK cP hb
   replace aA := rB aA hb
   replace aC := rB aC hb
   replace aD := rB aD hb
   replace aE := rB aE hb
   replace aG := rB aG hb
   replace HB := rS HB hb
   (try clear hb)
   (try clear hb2)
   (try clear hk)
   (try clear hi)
   refine hK.out _ _ ⟨(own_string (P := Try.prog) Try.underlying22 Try.underlying5 Try.underlying9 (Kd.own_of_R aJ.out)), cI aA.out 0, cI aA.out 1, cI aA.out 2, cI aA.out 3, cI aC.out 0, cI aC.out 1, cI aC.out 2, cI aC.out 3, cI aD.out 0, cI aD.out 1, cI aD.out 2, cI aD.out 3, cI aE.out 0, cI aE.out 1, cI aE.out 2, cI aE.out 3, cI aG.out 0, cI aG.out 1, cI aG.out 2, cI aG.out 3⟩ (fun hHeld => ?_)
   clear hK K
   refine norm_ (a' := ?_) ?_ ?_
   rotate_left
   ·show Act.put _ (some 67) _ = _
    simp only [Act.put, sA, sZ, sS, i64_w, i32_w]
    rfl
   refine one_ (i := 30) (N := some 69) (bv 44 2147483647) rfl rfl (one_of HT_.out (by kernel_rfl)) (by decide) (fun K hK => ?_)
   refine goes_ Try.func17 (by kernel_rfl) rfl #[.agg #[cG, cH, cK, .slice cE aV.length cA]] (by rfl) rfl rfl xR ?_
   with_reducible refine (spec_FrameOk.calls cG cH cK _ _ aV dV _ ?side1 ?side2 jX.out).mono ?_
   (case side1 => exact cM ((Kd.R_reads' aH.out).2.2))
   (case side2 => exact (Kd.R_reads' aH.out).2.1)
   rintro e pA ⟨rfl, hb⟩
   refine ⟨_, rfl, ?_⟩
   replace aH := rK aH hb
   replace aJ := rK aJ hb
   replace aK := rK aK hb
   replace aN := rK aN hb
   replace aT := rK aT hb
   replace aW := rK aW hb
   replace aX := rK aX hb
   replace cP := rK cP hb
   replace aA := rB aA hb
   replace aC := rB aC hb
   replace aD := rB aD hb
   replace aE := rB aE hb
   replace aG := rB aG hb
   replace HB := rS HB hb
   (try clear hb)
   (try clear hb2)
   (try clear hk)
   (try clear hi)
   refine hK.out _ _ ⟨(own_string (P := Try.prog) Try.underlying22 Try.underlying5 Try.underlying9 (Kd.own_of_R aJ.out)), cI aA.out 0, cI aA.out 1, cI aA.out 2, cI aA.out 3, cI aC.out 0, cI aC.out 1, cI aC.out 2, cI aC.out 3, cI aD.out 0, cI aD.out 1, cI aD.out 2, cI aD.out 3, cI aE.out 0, cI aE.out 1, cI aE.out 2, cI aE.out 3, cI aG.out 0, cI aG.out 1, cI aG.out 2, cI aG.out 3⟩ (fun hHeld => ?_)
   clear hK K
   refine norm_ (a' := ?_) ?_ ?_
   rotate_left
   ·show Act.put _ (some 69) _ = _
    simp only [Act.put, sA, sZ, sS, i64_w, i32_w]
    rfl
   refine pZ 31 70 (bv 44 4294967295) HT_ ?_
   refine pZ 32 71 (bv 44 8589934591) HT_ ?_
   refine pZ 33 72 (bv 44 17179869183) HT_ ?_
   refine pZ 34 73 (bv 44 34359738367) HT_ ?_
   refine pZ 35 74 (bv 44 68719476735) HT_ ?_
   refine pU (i := 36) (N := some 75) (bv 44 137438953471) HT_ ?_
   refine pU (i := 37) (N := some 76) (bv 44 274877906943) HT_ ?_
   refine pU (i := 38) (N := some 77) (bv 44 549755813887) HT_ ?_
   refine pU (i := 39) (N := some 78) (bv 44 1099511627775) HT_ ?_
   refine pU (i := 40) (N := some 79) (bv 44 2199023255551) HT_ ?_
   refine pU (i := 41) (N := some 80) (bv 44 4398046511103) HT_ ?_
   refine pZ 42 81 (bv 44 8796093022207) HT_ ?_
   refine pZ 43 82 (bv 44 17592186044415) HT_ ?_
   refine done_ (done_of HT_.out (by kernel_rfl)) ?_
   try go_wp2
   go_meet
   case rel => exact ⟨_, (false), xE, H', ⟨by first | omega | exact Nat.le_refl _⟩, ⟨kr (Kd.R_mono aJ.out (fun _ hk => by first | exact ⟨hk.1, ⟨hk.2.2.1, ⟨hk.2.2.2.1, ⟨hk.2.2.2.2.1, hk.2.2.2.2.2.1⟩⟩⟩⟩ | (simp only [and_assoc] at hk; exact ⟨hk.1, ⟨hk.2.2.1, ⟨hk.2.2.2.1, ⟨hk.2.2.2.2.1, hk.2.2.2.2.2.1⟩⟩⟩⟩)))⟩, ⟨kr (Kd.R_mono aH.out (fun _ hk => by first | exact ⟨hk.1, ⟨hk.2.2.1, ⟨hk.2.2.2.1, ⟨hk.2.2.2.2.1, hk.2.2.2.2.2.1⟩⟩⟩⟩ | (simp only [and_assoc] at hk; exact ⟨hk.1, ⟨hk.2.2.1, ⟨hk.2.2.2.1, ⟨hk.2.2.2.2.1, hk.2.2.2.2.2.1⟩⟩⟩⟩)))⟩, ⟨kr (Kd.R_mono aN.out (fun _ hk => by first | exact ⟨hk.2.1, ⟨hk.1, ⟨hk.2.2.2.1, ⟨hk.2.2.2.2.1, hk.2.2.2.2.2.1⟩⟩⟩⟩ | (simp only [and_assoc] at hk; exact ⟨hk.2.1, ⟨hk.1, ⟨hk.2.2.2.1, ⟨hk.2.2.2.2.1, hk.2.2.2.2.2.1⟩⟩⟩⟩)))⟩, ⟨kr (Kd.R_mono aT.out (fun _ hk => by first | exact ⟨hk.2.1, ⟨hk.1, ⟨hk.2.2.2.1, ⟨hk.2.2.2.2.1, hk.2.2.2.2.2.1⟩⟩⟩⟩ | (simp only [and_assoc] at hk; exact ⟨hk.2.1, ⟨hk.1, ⟨hk.2.2.2.1, ⟨hk.2.2.2.2.1, hk.2.2.2.2.2.1⟩⟩⟩⟩)))⟩, ⟨kr (Kd.R_mono aW.out (fun _ hk => by first | exact ⟨hk.2.1, ⟨hk.1, ⟨hk.2.2.2.1, ⟨hk.2.2.2.2.1, hk.2.2.2.2.2.1⟩⟩⟩⟩ | (simp only [and_assoc] at hk; exact ⟨hk.2.1, ⟨hk.1, ⟨hk.2.2.2.1, ⟨hk.2.2.2.2.1, hk.2.2.2.2.2.1⟩⟩⟩⟩)))⟩, ⟨kr (Kd.R_mono aX.out (fun _ hk => by first | exact ⟨hk.2.1, ⟨hk.1, ⟨hk.2.2.2.1, ⟨hk.2.2.2.2.1, hk.2.2.2.2.2.1⟩⟩⟩⟩ | (simp only [and_assoc] at hk; exact ⟨hk.2.1, ⟨hk.1, ⟨hk.2.2.2.1, ⟨hk.2.2.2.2.1, hk.2.2.2.2.2.1⟩⟩⟩⟩)))⟩, ⟨bk aA.out⟩, ⟨bk aC.out⟩, ⟨bk aD.out⟩, ⟨bk aE.out⟩, ⟨bk aG.out⟩, ⟨bl HB.out⟩⟩
  subst iI
  have H1 : ((impl_FrameBytes.f k dC dD dE bL).bind fun eN => (laws_FnFrames.j0 k bH ((strOfNums eN).toList != (strOfNums cO).toList) cG cH cK aV)) = some true := by first | (rw [if_pos rfl] at H; exact H) | (rw [if_pos rfl] at H)
  clear H
  have H := H1
  clear H1
  obtain ⟨eN, iV, H⟩ := hB H
  have kM := aM iV
  clear iV
  have H' := aM H
  clear H
  try go_wp2
  refine nW (fun W => Aside0 (Kd.R (Kd.int .u8) 5 W w.heap.size (fun k_ => some k_ ≠ (dL : Value).ownBlock ∧ some k_ ≠ (.slice dW cO.length dM : Value).ownBlock ∧ some k_ ≠ (.slice cC bL.length cD : Value).ownBlock ∧ some k_ ≠ (.slice bT bK.length bU : Value).ownBlock ∧ some k_ ≠ (.slice bV bI.length bW : Value).ownBlock ∧ some k_ ≠ (.slice bX bJ.length bY : Value).ownBlock) (.slice cE aV.length cA) aV) ∧ Aside0 (Kd.R (Kd.int .u8) 5 W w.heap.size (fun k_ => some k_ ≠ (.slice cE aV.length cA : Value).ownBlock ∧ some k_ ≠ (.slice dW cO.length dM : Value).ownBlock ∧ some k_ ≠ (.slice cC bL.length cD : Value).ownBlock ∧ some k_ ≠ (.slice bT bK.length bU : Value).ownBlock ∧ some k_ ≠ (.slice bV bI.length bW : Value).ownBlock ∧ some k_ ≠ (.slice bX bJ.length bY : Value).ownBlock) dL bH) ∧ Aside0 (Kd.R (Kd.int .u8) 5 W w.heap.size (fun k_ => some k_ ≠ (.slice cE aV.length cA : Value).ownBlock ∧ some k_ ≠ (dL : Value).ownBlock ∧ some k_ ≠ (.slice cC bL.length cD : Value).ownBlock ∧ some k_ ≠ (.slice bT bK.length bU : Value).ownBlock ∧ some k_ ≠ (.slice bV bI.length bW : Value).ownBlock ∧ some k_ ≠ (.slice bX bJ.length bY : Value).ownBlock) (.slice dW cO.length dM) cO) ∧ Aside0 (Kd.R (Kd.int .u8) 5 W w.heap.size (fun k_ => some k_ ≠ (.slice cE aV.length cA : Value).ownBlock ∧ some k_ ≠ (dL : Value).ownBlock ∧ some k_ ≠ (.slice dW cO.length dM : Value).ownBlock ∧ some k_ ≠ (.slice bT bK.length bU : Value).ownBlock ∧ some k_ ≠ (.slice bV bI.length bW : Value).ownBlock ∧ some k_ ≠ (.slice bX bJ.length bY : Value).ownBlock) (.slice cC bL.length cD) bL) ∧ Aside0 (Kd.R (Kd.int .u8) 5 W w.heap.size (fun k_ => some k_ ≠ (.slice cE aV.length cA : Value).ownBlock ∧ some k_ ≠ (dL : Value).ownBlock ∧ some k_ ≠ (.slice dW cO.length dM : Value).ownBlock ∧ some k_ ≠ (.slice cC bL.length cD : Value).ownBlock ∧ some k_ ≠ (.slice bV bI.length bW : Value).ownBlock ∧ some k_ ≠ (.slice bX bJ.length bY : Value).ownBlock) (.slice bT bK.length bU) bK) ∧ Aside0 (Kd.R (Kd.int .u8) 5 W w.heap.size (fun k_ => some k_ ≠ (.slice cE aV.length cA : Value).ownBlock ∧ some k_ ≠ (dL : Value).ownBlock ∧ some k_ ≠ (.slice dW cO.length dM : Value).ownBlock ∧ some k_ ≠ (.slice cC bL.length cD : Value).ownBlock ∧ some k_ ≠ (.slice bT bK.length bU : Value).ownBlock ∧ some k_ ≠ (.slice bX bJ.length bY : Value).ownBlock) (.slice bV bI.length bW) bI) ∧ Aside0 (Kd.R (Kd.int .u8) 5 W w.heap.size (fun k_ => some k_ ≠ (.slice cE aV.length cA : Value).ownBlock ∧ some k_ ≠ (dL : Value).ownBlock ∧ some k_ ≠ (.slice dW cO.length dM : Value).ownBlock ∧ some k_ ≠ (.slice cC bL.length cD : Value).ownBlock ∧ some k_ ≠ (.slice bT bK.length bU : Value).ownBlock ∧ some k_ ≠ (.slice bV bI.length bW : Value).ownBlock) (.slice bX bJ.length bY) bJ) ∧ Aside0 (W.heap[dF]? = some (.cells #[cG, cH, cK, .slice cE aV.length cA] 25 (0, 0))) ∧ Aside0 (W.heap[bQ]? = some (.cells #[dC, dD, dE, .slice cC bL.length cD] 25 (0, 0))) ∧ Aside0 (W.heap[aQ]? = some (.cells #[cW, cX, cY, .slice bT bK.length bU] 25 (0, 0))) ∧ Aside0 (W.heap[bA]? = some (.cells #[cQ, cR, cS, .slice bV bI.length bW] 25 (0, 0))) ∧ Aside0 (W.heap[bD]? = some (.cells #[cT, cU, cV, .slice bX bJ.length bY] 25 (0, 0))) ∧ Aside0 (Below w.heap.size w W)) ⟨⟨kr (Kd.R_mono (kF (p := ⟨bD, 3, none⟩) (kF (p := ⟨bD, 2, none⟩) (kF (p := ⟨bD, 1, none⟩) (kF (p := ⟨bD, 0, none⟩) (kF (p := ⟨bA, 3, none⟩) (kF (p := ⟨bA, 2, none⟩) (kF (p := ⟨bA, 1, none⟩) (kF (p := ⟨bA, 0, none⟩) (Kd.R_types (Kd.R_types aH.out aE.out (by decide)) aG.out (by decide)) (fun _ hk => hk.1.2) (.int .i64 cQ)) (fun _ hk => hk.1.2) (.int .i64 cR)) (fun _ hk => hk.1.2) (.int .i64 cS)) (fun _ hk => hk.1.2) (.slice bV bI.length bW)) (fun _ hk => hk.2) (.int .i64 cT)) (fun _ hk => hk.2) (.int .i64 cU)) (fun _ hk => hk.2) (.int .i64 cV)) (fun _ hk => hk.2) (.slice bX bJ.length bY)) (fun _ hk => ⟨hk.1.1.1.1.1.1.1.2, ⟨hk.1.1.1.1.1.1.2, ⟨hk.1.1.1.1.1.2, ⟨hk.1.1.1.1.2, ⟨hk.1.1.1.2, hk.1.1.2⟩⟩⟩⟩⟩))⟩, ⟨kr (Kd.R_mono (kF (p := ⟨bD, 3, none⟩) (kF (p := ⟨bD, 2, none⟩) (kF (p := ⟨bD, 1, none⟩) (kF (p := ⟨bD, 0, none⟩) (kF (p := ⟨bA, 3, none⟩) (kF (p := ⟨bA, 2, none⟩) (kF (p := ⟨bA, 1, none⟩) (kF (p := ⟨bA, 0, none⟩) (Kd.R_types (Kd.R_types aJ.out aE.out (by decide)) aG.out (by decide)) (fun _ hk => hk.1.2) (.int .i64 cQ)) (fun _ hk => hk.1.2) (.int .i64 cR)) (fun _ hk => hk.1.2) (.int .i64 cS)) (fun _ hk => hk.1.2) (.slice bV bI.length bW)) (fun _ hk => hk.2) (.int .i64 cT)) (fun _ hk => hk.2) (.int .i64 cU)) (fun _ hk => hk.2) (.int .i64 cV)) (fun _ hk => hk.2) (.slice bX bJ.length bY)) (fun _ hk => ⟨hk.1.1.1.1.1.1.1.2, ⟨hk.1.1.1.1.1.1.2, ⟨hk.1.1.1.1.1.2, ⟨hk.1.1.1.1.2, ⟨hk.1.1.1.2, hk.1.1.2⟩⟩⟩⟩⟩))⟩, ⟨kr (Kd.R_mono (kF (p := ⟨bD, 3, none⟩) (kF (p := ⟨bD, 2, none⟩) (kF (p := ⟨bD, 1, none⟩) (kF (p := ⟨bD, 0, none⟩) (kF (p := ⟨bA, 3, none⟩) (kF (p := ⟨bA, 2, none⟩) (kF (p := ⟨bA, 1, none⟩) (kF (p := ⟨bA, 0, none⟩) (Kd.R_types (Kd.R_types aK.out aE.out (by decide)) aG.out (by decide)) (fun _ hk => hk.1.2) (.int .i64 cQ)) (fun _ hk => hk.1.2) (.int .i64 cR)) (fun _ hk => hk.1.2) (.int .i64 cS)) (fun _ hk => hk.1.2) (.slice bV bI.length bW)) (fun _ hk => hk.2) (.int .i64 cT)) (fun _ hk => hk.2) (.int .i64 cU)) (fun _ hk => hk.2) (.int .i64 cV)) (fun _ hk => hk.2) (.slice bX bJ.length bY)) (fun _ hk => ⟨hk.1.1.1.1.1.1.1.2, ⟨hk.1.1.1.1.1.1.2, ⟨hk.1.1.1.1.1.2, ⟨hk.1.1.1.1.2, ⟨hk.1.1.1.2, hk.1.1.2⟩⟩⟩⟩⟩))⟩, ⟨kr (Kd.R_mono (kF (p := ⟨bD, 3, none⟩) (kF (p := ⟨bD, 2, none⟩) (kF (p := ⟨bD, 1, none⟩) (kF (p := ⟨bD, 0, none⟩) (kF (p := ⟨bA, 3, none⟩) (kF (p := ⟨bA, 2, none⟩) (kF (p := ⟨bA, 1, none⟩) (kF (p := ⟨bA, 0, none⟩) (Kd.R_types (Kd.R_types aN.out aE.out (by decide)) aG.out (by decide)) (fun _ hk => hk.1.2) (.int .i64 cQ)) (fun _ hk => hk.1.2) (.int .i64 cR)) (fun _ hk => hk.1.2) (.int .i64 cS)) (fun _ hk => hk.1.2) (.slice bV bI.length bW)) (fun _ hk => hk.2) (.int .i64 cT)) (fun _ hk => hk.2) (.int .i64 cU)) (fun _ hk => hk.2) (.int .i64 cV)) (fun _ hk => hk.2) (.slice bX bJ.length bY)) (fun _ hk => ⟨hk.1.1.1.1.1.1.1.2, ⟨hk.1.1.1.1.1.1.2, ⟨hk.1.1.1.1.1.2, ⟨hk.1.1.1.1.2, ⟨hk.1.1.1.2, hk.1.1.2⟩⟩⟩⟩⟩))⟩, ⟨kr (Kd.R_mono (kF (p := ⟨bD, 3, none⟩) (kF (p := ⟨bD, 2, none⟩) (kF (p := ⟨bD, 1, none⟩) (kF (p := ⟨bD, 0, none⟩) (kF (p := ⟨bA, 3, none⟩) (kF (p := ⟨bA, 2, none⟩) (kF (p := ⟨bA, 1, none⟩) (kF (p := ⟨bA, 0, none⟩) (Kd.R_types (Kd.R_types aT.out aE.out (by decide)) aG.out (by decide)) (fun _ hk => hk.1.2) (.int .i64 cQ)) (fun _ hk => hk.1.2) (.int .i64 cR)) (fun _ hk => hk.1.2) (.int .i64 cS)) (fun _ hk => hk.1.2) (.slice bV bI.length bW)) (fun _ hk => hk.2) (.int .i64 cT)) (fun _ hk => hk.2) (.int .i64 cU)) (fun _ hk => hk.2) (.int .i64 cV)) (fun _ hk => hk.2) (.slice bX bJ.length bY)) (fun _ hk => ⟨hk.1.1.1.1.1.1.1.2, ⟨hk.1.1.1.1.1.1.2, ⟨hk.1.1.1.1.1.2, ⟨hk.1.1.1.1.2, ⟨hk.1.1.1.2, hk.1.1.2⟩⟩⟩⟩⟩))⟩, ⟨kr (Kd.R_mono (kF (p := ⟨bD, 3, none⟩) (kF (p := ⟨bD, 2, none⟩) (kF (p := ⟨bD, 1, none⟩) (kF (p := ⟨bD, 0, none⟩) (kF (p := ⟨bA, 3, none⟩) (kF (p := ⟨bA, 2, none⟩) (kF (p := ⟨bA, 1, none⟩) (kF (p := ⟨bA, 0, none⟩) (Kd.R_types (Kd.R_types aW.out aE.out (by decide)) aG.out (by decide)) (fun _ hk => hk.1.2) (.int .i64 cQ)) (fun _ hk => hk.1.2) (.int .i64 cR)) (fun _ hk => hk.1.2) (.int .i64 cS)) (fun _ hk => hk.1.2) (.slice bV bI.length bW)) (fun _ hk => hk.2) (.int .i64 cT)) (fun _ hk => hk.2) (.int .i64 cU)) (fun _ hk => hk.2) (.int .i64 cV)) (fun _ hk => hk.2) (.slice bX bJ.length bY)) (fun _ hk => ⟨hk.1.1.1.1.1.1.2, ⟨hk.1.1.1.1.1.2, ⟨hk.1.1.1.1.2, ⟨hk.1.1.1.2, ⟨hk.1.1.2, hk.1.1.1.1.1.1.1⟩⟩⟩⟩⟩))⟩, ⟨kr (Kd.R_mono (kF (p := ⟨bD, 3, none⟩) (kF (p := ⟨bD, 2, none⟩) (kF (p := ⟨bD, 1, none⟩) (kF (p := ⟨bD, 0, none⟩) (kF (p := ⟨bA, 3, none⟩) (kF (p := ⟨bA, 2, none⟩) (kF (p := ⟨bA, 1, none⟩) (kF (p := ⟨bA, 0, none⟩) (Kd.R_types (Kd.R_types aX.out aE.out (by decide)) aG.out (by decide)) (fun _ hk => hk.1.2) (.int .i64 cQ)) (fun _ hk => hk.1.2) (.int .i64 cR)) (fun _ hk => hk.1.2) (.int .i64 cS)) (fun _ hk => hk.1.2) (.slice bV bI.length bW)) (fun _ hk => hk.2) (.int .i64 cT)) (fun _ hk => hk.2) (.int .i64 cU)) (fun _ hk => hk.2) (.int .i64 cV)) (fun _ hk => hk.2) (.slice bX bJ.length bY)) (fun _ hk => ⟨hk.1.1.1.1.1.1.2, ⟨hk.1.1.1.1.1.2, ⟨hk.1.1.1.1.2, ⟨hk.1.1.1.2, ⟨hk.1.1.2, hk.1.1.1.1.1.1.1⟩⟩⟩⟩⟩))⟩, ⟨fm aA.out⟩, ⟨fm aC.out⟩, ⟨fm aD.out⟩, ⟨bm aE.out⟩, ⟨bm aG.out⟩, ⟨bl HB.out⟩⟩ ?_
  intro kN nn_
  replace aH := nn_.1
  replace aJ := nn_.2.1
  replace aK := nn_.2.2.1
  replace aN := nn_.2.2.2.1
  replace aT := nn_.2.2.2.2.1
  replace aW := nn_.2.2.2.2.2.1
  replace aX := nn_.2.2.2.2.2.2.1
  replace aA := nn_.2.2.2.2.2.2.2.1
  replace aC := nn_.2.2.2.2.2.2.2.2.1
  replace aD := nn_.2.2.2.2.2.2.2.2.2.1
  replace aE := nn_.2.2.2.2.2.2.2.2.2.2.1
  replace aG := nn_.2.2.2.2.2.2.2.2.2.2.2.1
  replace HB := nn_.2.2.2.2.2.2.2.2.2.2.2.2
  clear nn_
  replace aH := aM (Kd.R_drew aH.out)
  replace aJ := aM (Kd.R_drew aJ.out)
  replace aK := aM (Kd.R_drew aK.out)
  replace aN := aM (Kd.R_drew aN.out)
  replace aT := aM (Kd.R_drew aT.out)
  replace aW := aM (Kd.R_drew aW.out)
  replace aX := aM (Kd.R_drew aX.out)
  replace aA := aM (blk_drew aA.out)
  replace aC := aM (blk_drew aC.out)
  replace aD := aM (blk_drew aD.out)
  replace aE := aM (blk_drew aE.out)
  replace aG := aM (blk_drew aG.out)
  replace HB := aM (below_drew1 HB.out)
  have hcv84 := own_string (P := Try.prog) Try.underlying22 Try.underlying5 Try.underlying9 (Kd.own_of_R aJ.out)
  refine start_ (n := 44) (S := fun w' => (convert 22 9 dL).run Try.prog w' = .ok (.string (strOfNums bH)) w' ∧ (convert 22 9 (.slice dW cO.length dM)).run Try.prog w' = .ok (.string (strOfNums cO)) w' ∧ cT4 w' dF (.int .i64 cG) (.int .i64 cH) (.int .i64 cK) (.slice cE aV.length cA) (cT4 w' bQ (.int .i64 dC) (.int .i64 dD) (.int .i64 dE) (.slice cC bL.length cD) (cT4 w' aQ (.int .i64 cW) (.int .i64 cX) (.int .i64 cY) (.slice bT bK.length bU) (cT4 w' bA (.int .i64 cQ) (.int .i64 cR) (.int .i64 cS) (.slice bV bI.length bW) (cS4 w' bD (.int .i64 cT) (.int .i64 cU) (.int .i64 cV) (.slice bX bJ.length bY)))))) (ds := []) (dn 44 0) (by kernel_rfl) rfl rfl ⟨(own_string (P := Try.prog) Try.underlying22 Try.underlying5 Try.underlying9 (Kd.own_of_R aJ.out)), (own_string (P := Try.prog) Try.underlying22 Try.underlying5 Try.underlying9 (Kd.own_of_R aK.out)), cI aA.out 0, cI aA.out 1, cI aA.out 2, cI aA.out 3, cI aC.out 0, cI aC.out 1, cI aC.out 2, cI aC.out 3, cI aD.out 0, cI aD.out 1, cI aD.out 2, cI aD.out 3, cI aE.out 0, cI aE.out 1, cI aE.out 2, cI aE.out 3, cI aG.out 0, cI aG.out 1, cI aG.out 2, cI aG.out 3⟩ (fun hHeld => ?_); refine with_tabW laws_FnFrames.tab9 laws_FnFrames.bits9 (fun HT_ HW_ => ?_)
  generalize kN.drew = qA at aH aJ aK aN aT aW aX aA aC aD aE aG HB hHeld ⊢
  refine nY (N := some 39) HT_ ?_
  refine tY (N := some 40) HT_ HW_ hHeld ?_
  refine tY (N := some 41) HT_ HW_ hHeld ?_
  refine oN (N := some 42) HT_ (fun K hK => ?_)
  refine goes_ Try.func13 (by kernel_rfl) rfl #[.agg #[cG, cH, cK, .slice cE aV.length cA]] (by rfl) rfl rfl xR ?_
  with_reducible refine (spec_FrameBytes.calls k cG cH cK _ _ aV eK _ ?side1 ?side2 jS.out).mono ?_
  (case side1 => exact cM ((Kd.R_reads' aH.out).2.2))
  (case side2 => exact (Kd.R_reads' aH.out).2.1)
  rintro e qC ⟨kG, rfl, ho0, hb⟩
  refine ⟨_, rfl, ?_⟩
  have cP := aM (Kd.R_lower (Kd.R_new' (Kd.R_new' (Kd.R_new' (Kd.R_new' (Kd.R_new' (Kd.R_new' (Kd.R_new' ho0 (Kd.R_lt (kr aH.out))) (Kd.R_lt (kr aJ.out))) (Kd.R_lt (kr aK.out))) (Kd.R_lt (kr aN.out))) (Kd.R_lt (kr aT.out))) (Kd.R_lt (kr aW.out))) (Kd.R_lt (kr aX.out))) (below_size (bl HB.out)))
  replace aH := aM (Kd.R_elder' (kr aH.out) (Kd.R_base ho0) hb)
  replace aJ := aM (Kd.R_elder' (kr aJ.out) (Kd.R_base ho0) hb)
  replace aK := aM (Kd.R_elder' (kr aK.out) (Kd.R_base ho0) hb)
  replace aN := aM (Kd.R_elder' (kr aN.out) (Kd.R_base ho0) hb)
  replace aT := aM (Kd.R_elder' (kr aT.out) (Kd.R_base ho0) hb)
  replace aW := aM (Kd.R_elder' (kr aW.out) (Kd.R_base ho0) hb)
  replace aX := aM (Kd.R_elder' (kr aX.out) (Kd.R_base ho0) hb)
  replace aA := rB aA hb
  replace aC := rB aC hb
  replace aD := rB aD hb
  replace aE := rB aE hb
  replace aG := rB aG hb
  replace HB := rS HB hb
  (try clear hb)
  (try clear hb2)
  (try clear hk)
  (try clear hi)
  (try clear ho0)
  refine hK.out _ _ ⟨(own_string (P := Try.prog) Try.underlying22 Try.underlying5 Try.underlying9 (Kd.own_of_R aJ.out)), (own_string (P := Try.prog) Try.underlying22 Try.underlying5 Try.underlying9 (Kd.own_of_R aK.out)), cI aA.out 0, cI aA.out 1, cI aA.out 2, cI aA.out 3, cI aC.out 0, cI aC.out 1, cI aC.out 2, cI aC.out 3, cI aD.out 0, cI aD.out 1, cI aD.out 2, cI aD.out 3, cI aE.out 0, cI aE.out 1, cI aE.out 2, cI aE.out 3, cI aG.out 0, cI aG.out 1, cI aG.out 2, cI aG.out 3⟩ (fun hHeld => ?_)
  clear hK K
  refine norm_ (a' := ?_) ?_ ?_
  rotate_left
  ·show Act.put _ (some 42) _ = _
   simp only [Act.put, sA, sZ, sS, i64_w, i32_w]
   rfl
  refine oN (N := some 43) HT_ (fun K hK => ?_)
  have hcv86 := own_string (P := Try.prog) Try.underlying22 Try.underlying5 Try.underlying9 (Kd.own_of_R cP.out)
  refine value_ (w1 := ?_) (v := ?_) (by rfl) rfl ?_ ?_
  rotate_left 2
  ·go_simp
   constructor
   ·rfl
   ·rfl
  clear hcv86
  refine hK.out _ _ ⟨(own_string (P := Try.prog) Try.underlying22 Try.underlying5 Try.underlying9 (Kd.own_of_R aJ.out)), (own_string (P := Try.prog) Try.underlying22 Try.underlying5 Try.underlying9 (Kd.own_of_R aK.out)), cI aA.out 0, cI aA.out 1, cI aA.out 2, cI aA.out 3, cI aC.out 0, cI aC.out 1, cI aC.out 2, cI aC.out 3, cI aD.out 0, cI aD.out 1, cI aD.out 2, cI aD.out 3, cI aE.out 0, cI aE.out 1, cI aE.out 2, cI aE.out 3, cI aG.out 0, cI aG.out 1, cI aG.out 2, cI aG.out 3⟩ (fun hHeld => ?_)
  clear hK K
  refine norm_ (a' := ?_) ?_ ?_
  rotate_left
  ·show Act.put _ (some 43) _ = _
   simp only [Act.put, sA, sZ, sS, i64_w, i32_w]
   rfl
  refine nY (N := some 44) HT_ ?_
  refine nY (N := some 45) HT_ ?_
  refine nY (N := some 46) HT_ ?_
  refine nY (N := some 47) HT_ ?_
  refine nY (N := some 48) HT_ ?_
  refine nY (N := some 49) HT_ ?_
  refine nY (N := some 50) HT_ ?_
  refine tY (N := some 51) HT_ HW_ hHeld ?_
  refine tY (N := some 52) HT_ HW_ hHeld ?_
  refine oN (N := some 53) HT_ (fun K hK => ?_)
  refine goes_ Try.func14 (by kernel_rfl) rfl #[.agg #[dC, dD, dE, .slice cC bL.length cD], .agg #[cW, cX, cY, .slice bT bK.length bU]] (by rfl) rfl rfl xR ?_
  with_reducible refine (impl_FrameSame.calls dC dD dE _ _ bL cW cX cY _ _ bK true _ ?side1 ?side2 ?side3 ?side4 jT.out).mono ?_
  (case side1 => exact cM ((Kd.R_reads' aN.out).2.2))
  (case side2 => exact (Kd.R_reads' aN.out).2.1)
  (case side3 => exact cM ((Kd.R_reads' aT.out).2.2))
  (case side4 => exact (Kd.R_reads' aT.out).2.1)
  rintro e qD ⟨rfl, hb⟩
  refine ⟨_, rfl, ?_⟩
  replace aH := rK aH hb
  replace aJ := rK aJ hb
  replace aK := rK aK hb
  replace aN := rK aN hb
  replace aT := rK aT hb
  replace aW := rK aW hb
  replace aX := rK aX hb
  replace cP := rK cP hb
  replace aA := rB aA hb
  replace aC := rB aC hb
  replace aD := rB aD hb
  replace aE := rB aE hb
  replace aG := rB aG hb
  replace HB := rS HB hb
  (try clear hb)
  (try clear hb2)
  (try clear hk)
  (try clear hi)
  refine hK.out _ _ ⟨(own_string (P := Try.prog) Try.underlying22 Try.underlying5 Try.underlying9 (Kd.own_of_R aJ.out)), (own_string (P := Try.prog) Try.underlying22 Try.underlying5 Try.underlying9 (Kd.own_of_R aK.out)), cI aA.out 0, cI aA.out 1, cI aA.out 2, cI aA.out 3, cI aC.out 0, cI aC.out 1, cI aC.out 2, cI aC.out 3, cI aD.out 0, cI aD.out 1, cI aD.out 2, cI aD.out 3, cI aE.out 0, cI aE.out 1, cI aE.out 2, cI aE.out 3, cI aG.out 0, cI aG.out 1, cI aG.out 2, cI aG.out 3⟩ (fun hHeld => ?_)
  clear hK K
  refine norm_ (a' := ?_) ?_ ?_
  rotate_left
  ·show Act.put _ (some 53) _ = _
   simp only [Act.put, sA, sZ, sS, i64_w, i32_w]
   rfl
  refine nY (N := some 54) HT_ ?_
  refine nY (N := some 55) HT_ ?_
  refine nY (N := some 56) HT_ ?_
  refine tY (N := some 57) HT_ HW_ hHeld ?_
  refine tY (N := some 58) HT_ HW_ hHeld ?_
  refine aZ 21 60 (bv 44 3145727) HT_ HW_ hHeld ?_
  refine aZ 22 61 (bv 44 7340031) HT_ HW_ hHeld ?_
  refine one_ (i := 20) (N := some 59) (bv 44 8388607) rfl rfl (one_of HT_.out (by kernel_rfl)) (by decide) (fun K hK => ?_)
  refine goes_ Try.func14 (by kernel_rfl) rfl #[.agg #[cQ, cR, cS, .slice bV bI.length bW], .agg #[cT, cU, cV, .slice bX bJ.length bY]] (by rfl) rfl rfl xR ?_
  with_reducible refine (impl_FrameSame.calls cQ cR cS _ _ bI cT cU cV _ _ bJ dR _ ?side1 ?side2 ?side3 ?side4 jU.out).mono ?_
  (case side1 => exact cM ((Kd.R_reads' aW.out).2.2))
  (case side2 => exact (Kd.R_reads' aW.out).2.1)
  (case side3 => exact cM ((Kd.R_reads' aX.out).2.2))
  (case side4 => exact (Kd.R_reads' aX.out).2.1)
  rintro e qE ⟨rfl, hb⟩
  refine ⟨_, rfl, ?_⟩
  replace aH := rK aH hb
  replace aJ := rK aJ hb
  replace aK := rK aK hb
  replace aN := rK aN hb
  replace aT := rK aT hb
  replace aW := rK aW hb
  replace aX := rK aX hb
  replace cP := rK cP hb
  replace aA := rB aA hb
  replace aC := rB aC hb
  replace aD := rB aD hb
  replace aE := rB aE hb
  replace aG := rB aG hb
  replace HB := rS HB hb
  (try clear hb)
  (try clear hb2)
  (try clear hk)
  (try clear hi)
  refine hK.out _ _ ⟨(own_string (P := Try.prog) Try.underlying22 Try.underlying5 Try.underlying9 (Kd.own_of_R aJ.out)), (own_string (P := Try.prog) Try.underlying22 Try.underlying5 Try.underlying9 (Kd.own_of_R aK.out)), cI aA.out 0, cI aA.out 1, cI aA.out 2, cI aA.out 3, cI aC.out 0, cI aC.out 1, cI aC.out 2, cI aC.out 3, cI aD.out 0, cI aD.out 1, cI aD.out 2, cI aD.out 3, cI aE.out 0, cI aE.out 1, cI aE.out 2, cI aE.out 3, cI aG.out 0, cI aG.out 1, cI aG.out 2, cI aG.out 3⟩ (fun hHeld => ?_)
  clear hK K
  refine norm_ (a' := ?_) ?_ ?_
  rotate_left
  ·show Act.put _ (some 59) _ = _
   simp only [Act.put, sA, sZ, sS, i64_w, i32_w]
   rfl
  refine one_ (i := 23) (N := some 62) (bv 44 16777215) rfl rfl (one_of HT_.out (by kernel_rfl)) (by decide) (fun K hK => ?_)
  refine goes_ Try.func15 (by kernel_rfl) rfl #[.agg #[cQ, cR, cS, .slice bV bI.length bW], .agg #[cT, cU, cV, .slice bX bJ.length bY]] (by rfl) rfl rfl xR ?_
  with_reducible refine (spec_FrameSame.calls cQ cR cS _ _ bI cT cU cV _ _ bJ dS _ ?side1 ?side2 ?side3 ?side4 jV.out).mono ?_
  (case side1 => exact cM ((Kd.R_reads' aW.out).2.2))
  (case side2 => exact (Kd.R_reads' aW.out).2.1)
  (case side3 => exact cM ((Kd.R_reads' aX.out).2.2))
  (case side4 => exact (Kd.R_reads' aX.out).2.1)
  rintro e qF ⟨rfl, hb⟩
  refine ⟨_, rfl, ?_⟩
  replace aH := rK aH hb
  replace aJ := rK aJ hb
  replace aK := rK aK hb
  replace aN := rK aN hb
  replace aT := rK aT hb
  replace aW := rK aW hb
  replace aX := rK aX hb
  replace cP := rK cP hb
  replace aA := rB aA hb
  replace aC := rB aC hb
  replace aD := rB aD hb
  replace aE := rB aE hb
  replace aG := rB aG hb
  replace HB := rS HB hb
  (try clear hb)
  (try clear hb2)
  (try clear hk)
  (try clear hi)
  refine hK.out _ _ ⟨(own_string (P := Try.prog) Try.underlying22 Try.underlying5 Try.underlying9 (Kd.own_of_R aJ.out)), (own_string (P := Try.prog) Try.underlying22 Try.underlying5 Try.underlying9 (Kd.own_of_R aK.out)), cI aA.out 0, cI aA.out 1, cI aA.out 2, cI aA.out 3, cI aC.out 0, cI aC.out 1, cI aC.out 2, cI aC.out 3, cI aD.out 0, cI aD.out 1, cI aD.out 2, cI aD.out 3, cI aE.out 0, cI aE.out 1, cI aE.out 2, cI aE.out 3, cI aG.out 0, cI aG.out 1, cI aG.out 2, cI aG.out 3⟩ (fun hHeld => ?_)
  clear hK K
  refine norm_ (a' := ?_) ?_ ?_
  rotate_left
  ·show Act.put _ (some 62) _ = _
   simp only [Act.put, sA, sZ, sS, i64_w, i32_w]
   rfl
  refine pZ 24 63 (bv 44 33554431) HT_ ?_
  refine pZ 25 64 (bv 44 67108863) HT_ ?_
  refine pZ 26 65 (bv 44 134217727) HT_ ?_
  refine aZ 27 66 (bv 44 268435455) HT_ HW_ hHeld ?_
  refine aZ 29 68 (bv 44 805306367) HT_ HW_ hHeld ?_
  refine one_ (i := 28) (N := some 67) (bv 44 1073741823) rfl rfl (one_of HT_.out (by kernel_rfl)) (by decide) (fun K hK => ?_)
  refine goes_ Try.func16 (by kernel_rfl) rfl #[.agg #[cG, cH, cK, .slice cE aV.length cA]] (by rfl) rfl rfl xR ?_
  with_reducible refine (impl_FrameOk.calls cG cH cK _ _ aV dU _ ?side1 ?side2 jW.out).mono ?_
  (case side1 => exact cM ((Kd.R_reads' aH.out).2.2))
  (case side2 => exact (Kd.R_reads' aH.out).2.1)
  rintro e qG ⟨rfl, hb⟩
  refine ⟨_, rfl, ?_⟩
  replace aH := rK aH hb
  replace aJ := rK aJ hb
  replace aK := rK aK hb
  replace aN := rK aN hb
  replace aT := rK aT hb
  replace aW := rK aW hb
  replace aX := rK aX hb
  replace cP := rK cP hb
  replace aA := rB aA hb
  replace aC := rB aC hb
  replace aD := rB aD hb
  replace aE := rB aE hb
  replace aG := rB aG hb
  replace HB := rS HB hb
  (try clear hb)
  (try clear hb2)
  (try clear hk)
  (try clear hi)
  refine hK.out _ _ ⟨(own_string (P := Try.prog) Try.underlying22 Try.underlying5 Try.underlying9 (Kd.own_of_R aJ.out)), (own_string (P := Try.prog) Try.underlying22 Try.underlying5 Try.underlying9 (Kd.own_of_R aK.out)), cI aA.out 0, cI aA.out 1, cI aA.out 2, cI aA.out 3, cI aC.out 0, cI aC.out 1, cI aC.out 2, cI aC.out 3, cI aD.out 0, cI aD.out 1, cI aD.out 2, cI aD.out 3, cI aE.out 0, cI aE.out 1, cI aE.out 2, cI aE.out 3, cI aG.out 0, cI aG.out 1, cI aG.out 2, cI aG.out 3⟩ (fun hHeld => ?_)
  clear hK K
  refine norm_ (a' := ?_) ?_ ?_
  rotate_left
  ·show Act.put _ (some 67) _ = _
   simp only [Act.put, sA, sZ, sS, i64_w, i32_w]
   rfl
  refine one_ (i := 30) (N := some 69) (bv 44 2147483647) rfl rfl (one_of HT_.out (by kernel_rfl)) (by decide) (fun K hK => ?_)
  refine goes_ Try.func17 (by kernel_rfl) rfl #[.agg #[cG, cH, cK, .slice cE aV.length cA]] (by rfl) rfl rfl xR ?_
  with_reducible refine (spec_FrameOk.calls cG cH cK _ _ aV dV _ ?side1 ?side2 jX.out).mono ?_
  (case side1 => exact cM ((Kd.R_reads' aH.out).2.2))
  (case side2 => exact (Kd.R_reads' aH.out).2.1)
  rintro e qH ⟨rfl, hb⟩
  refine ⟨_, rfl, ?_⟩
  replace aH := rK aH hb
  replace aJ := rK aJ hb
  replace aK := rK aK hb
  replace aN := rK aN hb
  replace aT := rK aT hb
  replace aW := rK aW hb
  replace aX := rK aX hb
  replace cP := rK cP hb
  replace aA := rB aA hb
  replace aC := rB aC hb
  replace aD := rB aD hb
  replace aE := rB aE hb
  replace aG := rB aG hb
  replace HB := rS HB hb
  (try clear hb)
  (try clear hb2)
  (try clear hk)
  (try clear hi)
  refine hK.out _ _ ⟨(own_string (P := Try.prog) Try.underlying22 Try.underlying5 Try.underlying9 (Kd.own_of_R aJ.out)), (own_string (P := Try.prog) Try.underlying22 Try.underlying5 Try.underlying9 (Kd.own_of_R aK.out)), cI aA.out 0, cI aA.out 1, cI aA.out 2, cI aA.out 3, cI aC.out 0, cI aC.out 1, cI aC.out 2, cI aC.out 3, cI aD.out 0, cI aD.out 1, cI aD.out 2, cI aD.out 3, cI aE.out 0, cI aE.out 1, cI aE.out 2, cI aE.out 3, cI aG.out 0, cI aG.out 1, cI aG.out 2, cI aG.out 3⟩ (fun hHeld => ?_)
  clear hK K
  refine norm_ (a' := ?_) ?_ ?_
  rotate_left
  ·show Act.put _ (some 69) _ = _
   simp only [Act.put, sA, sZ, sS, i64_w, i32_w]
   rfl
  refine pZ 31 70 (bv 44 4294967295) HT_ ?_
  refine pZ 32 71 (bv 44 8589934591) HT_ ?_
  refine pZ 33 72 (bv 44 17179869183) HT_ ?_
  refine pZ 34 73 (bv 44 34359738367) HT_ ?_
  refine pZ 35 74 (bv 44 68719476735) HT_ ?_
  refine pZ 39 78 (bv 44 618475290623) HT_ ?_
  refine aZ 40 79 (bv 44 1717986918399) HT_ HW_ hHeld ?_
  refine aZ 36 75 (bv 44 1786706395135) HT_ HW_ hHeld ?_
  refine one_ (i := 37) (N := some 76) (bv 44 1924145348607) rfl rfl (one_of HT_.out (by kernel_rfl)) (by decide) (fun K hK => ?_)
  refine goes_ Try.func8 (by kernel_rfl) rfl #[.agg #[dC, dD, dE, .slice cC bL.length cD]] (by rfl) rfl rfl xR ?_
  with_reducible refine (impl_FrameBytes.calls k dC dD dE _ _ bL eN _ ?side1 ?side2 kM.out).mono ?_
  (case side1 => exact cM ((Kd.R_reads' aN.out).2.2))
  (case side2 => exact (Kd.R_reads' aN.out).2.1)
  rintro e qI ⟨pB, rfl, ho0, hb⟩
  refine ⟨_, rfl, ?_⟩
  have jG := aM (Kd.R_lower (Kd.R_new' (Kd.R_new' (Kd.R_new' (Kd.R_new' (Kd.R_new' (Kd.R_new' (Kd.R_new' (Kd.R_new' ho0 (Kd.R_lt (kr aH.out))) (Kd.R_lt (kr aJ.out))) (Kd.R_lt (kr aK.out))) (Kd.R_lt (kr aN.out))) (Kd.R_lt (kr aT.out))) (Kd.R_lt (kr aW.out))) (Kd.R_lt (kr aX.out))) (Kd.R_lt (kr cP.out))) (below_size (bl HB.out)))
  replace aH := aM (Kd.R_elder' (kr aH.out) (Kd.R_base ho0) hb)
  replace aJ := aM (Kd.R_elder' (kr aJ.out) (Kd.R_base ho0) hb)
  replace aK := aM (Kd.R_elder' (kr aK.out) (Kd.R_base ho0) hb)
  replace aN := aM (Kd.R_elder' (kr aN.out) (Kd.R_base ho0) hb)
  replace aT := aM (Kd.R_elder' (kr aT.out) (Kd.R_base ho0) hb)
  replace aW := aM (Kd.R_elder' (kr aW.out) (Kd.R_base ho0) hb)
  replace aX := aM (Kd.R_elder' (kr aX.out) (Kd.R_base ho0) hb)
  replace cP := aM (Kd.R_elder' (kr cP.out) (Kd.R_base ho0) hb)
  replace aA := rB aA hb
  replace aC := rB aC hb
  replace aD := rB aD hb
  replace aE := rB aE hb
  replace aG := rB aG hb
  replace HB := rS HB hb
  (try clear hb)
  (try clear hb2)
  (try clear hk)
  (try clear hi)
  (try clear ho0)
  have hcv94 := own_string (P := Try.prog) Try.underlying22 Try.underlying5 Try.underlying9 (Kd.own_of_R aK.out)
  refine hK.out _ _ ⟨(own_string (P := Try.prog) Try.underlying22 Try.underlying5 Try.underlying9 (Kd.own_of_R aJ.out)), (own_string (P := Try.prog) Try.underlying22 Try.underlying5 Try.underlying9 (Kd.own_of_R aK.out)), cI aA.out 0, cI aA.out 1, cI aA.out 2, cI aA.out 3, cI aC.out 0, cI aC.out 1, cI aC.out 2, cI aC.out 3, cI aD.out 0, cI aD.out 1, cI aD.out 2, cI aD.out 3, cI aE.out 0, cI aE.out 1, cI aE.out 2, cI aE.out 3, cI aG.out 0, cI aG.out 1, cI aG.out 2, cI aG.out 3⟩ (fun hHeld => ?_)
  clear hK K
  refine norm_ (a' := ?_) ?_ ?_
  rotate_left
  ·show Act.put _ (some 76) _ = _
   simp only [Act.put, sA, sZ, sS, i64_w, i32_w]
   rfl
  refine one_ (i := 38) (N := some 77) (bv 44 2199023255551) rfl rfl (one_of HT_.out (by kernel_rfl)) (by decide) (fun K hK => ?_)
  have hcv93 := own_string (P := Try.prog) Try.underlying22 Try.underlying5 Try.underlying9 (Kd.own_of_R jG.out)
  refine value_ (w1 := ?_) (v := ?_) (by rfl) rfl ?_ ?_
  rotate_left 2
  ·go_simp
   constructor
   ·rfl
   ·rfl
  clear hcv93
  refine hK.out _ _ ⟨(own_string (P := Try.prog) Try.underlying22 Try.underlying5 Try.underlying9 (Kd.own_of_R aJ.out)), (own_string (P := Try.prog) Try.underlying22 Try.underlying5 Try.underlying9 (Kd.own_of_R aK.out)), cI aA.out 0, cI aA.out 1, cI aA.out 2, cI aA.out 3, cI aC.out 0, cI aC.out 1, cI aC.out 2, cI aC.out 3, cI aD.out 0, cI aD.out 1, cI aD.out 2, cI aD.out 3, cI aE.out 0, cI aE.out 1, cI aE.out 2, cI aE.out 3, cI aG.out 0, cI aG.out 1, cI aG.out 2, cI aG.out 3⟩ (fun hHeld => ?_)
  clear hK K
  refine norm_ (a' := ?_) ?_ ?_
  rotate_left
  ·show Act.put _ (some 77) _ = _
   simp only [Act.put, sA, sZ, sS, i64_w, i32_w]
   rfl
  refine pZ 41 80 (bv 44 4398046511103) HT_ ?_
  refine pZ 42 81 (bv 44 8796093022207) HT_ ?_
  refine pZ 43 82 (bv 44 17592186044415) HT_ ?_
  refine done_ (done_of HT_.out (by kernel_rfl)) ?_
  try go_wp2
  go_meet
  case rel => exact ⟨_, (((strOfNums eN).toList != (strOfNums cO).toList)), xE, H', ⟨by first | omega | exact Nat.le_refl _⟩, ⟨kr (Kd.R_mono aJ.out (fun _ hk => by first | exact ⟨hk.1, ⟨hk.2.2.1, ⟨hk.2.2.2.1, ⟨hk.2.2.2.2.1, hk.2.2.2.2.2.1⟩⟩⟩⟩ | (simp only [and_assoc] at hk; exact ⟨hk.1, ⟨hk.2.2.1, ⟨hk.2.2.2.1, ⟨hk.2.2.2.2.1, hk.2.2.2.2.2.1⟩⟩⟩⟩)))⟩, ⟨kr (Kd.R_mono aH.out (fun _ hk => by first | exact ⟨hk.1, ⟨hk.2.2.1, ⟨hk.2.2.2.1, ⟨hk.2.2.2.2.1, hk.2.2.2.2.2.1⟩⟩⟩⟩ | (simp only [and_assoc] at hk; exact ⟨hk.1, ⟨hk.2.2.1, ⟨hk.2.2.2.1, ⟨hk.2.2.2.2.1, hk.2.2.2.2.2.1⟩⟩⟩⟩)))⟩, ⟨kr (Kd.R_mono aN.out (fun _ hk => by first | exact ⟨hk.2.1, ⟨hk.1, ⟨hk.2.2.2.1, ⟨hk.2.2.2.2.1, hk.2.2.2.2.2.1⟩⟩⟩⟩ | (simp only [and_assoc] at hk; exact ⟨hk.2.1, ⟨hk.1, ⟨hk.2.2.2.1, ⟨hk.2.2.2.2.1, hk.2.2.2.2.2.1⟩⟩⟩⟩)))⟩, ⟨kr (Kd.R_mono aT.out (fun _ hk => by first | exact ⟨hk.2.1, ⟨hk.1, ⟨hk.2.2.2.1, ⟨hk.2.2.2.2.1, hk.2.2.2.2.2.1⟩⟩⟩⟩ | (simp only [and_assoc] at hk; exact ⟨hk.2.1, ⟨hk.1, ⟨hk.2.2.2.1, ⟨hk.2.2.2.2.1, hk.2.2.2.2.2.1⟩⟩⟩⟩)))⟩, ⟨kr (Kd.R_mono aW.out (fun _ hk => by first | exact ⟨hk.2.1, ⟨hk.1, ⟨hk.2.2.2.1, ⟨hk.2.2.2.2.1, hk.2.2.2.2.2.1⟩⟩⟩⟩ | (simp only [and_assoc] at hk; exact ⟨hk.2.1, ⟨hk.1, ⟨hk.2.2.2.1, ⟨hk.2.2.2.2.1, hk.2.2.2.2.2.1⟩⟩⟩⟩)))⟩, ⟨kr (Kd.R_mono aX.out (fun _ hk => by first | exact ⟨hk.2.1, ⟨hk.1, ⟨hk.2.2.2.1, ⟨hk.2.2.2.2.1, hk.2.2.2.2.2.1⟩⟩⟩⟩ | (simp only [and_assoc] at hk; exact ⟨hk.2.1, ⟨hk.1, ⟨hk.2.2.2.1, ⟨hk.2.2.2.2.1, hk.2.2.2.2.2.1⟩⟩⟩⟩)))⟩, ⟨bk aA.out⟩, ⟨bk aC.out⟩, ⟨bk aD.out⟩, ⟨bk aE.out⟩, ⟨bk aG.out⟩, ⟨bl HB.out⟩⟩
 case rest =>
  clear iA
  repeat first|clear c1|clear hcv1|clear p2|clear c4|clear hcv11|clear qJ|clear fE|clear fB|clear iG|clear hcv116|clear hcv118
  obtain ⟨kq, fG, rfl, HA, HJ9, dJ, bG, bM, bN, bO, bP, aA, aC, aD, aE, aG, HB⟩ := hcut
  cases kq with
  | zero => exact absurd HA.out (by simp [laws_FnFrames.j0])
  | succ fF =>
   have H := HA.out
   clear HA
   simp only [laws_FnFrames.j0] at H
   by_cases fL : fG = true
   case pos =>
    subst fL
    have H1 : (some false) = some true := by first | (rw [if_pos rfl] at H; exact H) | (rw [if_pos rfl] at H)
    clear H
    have H := H1
    clear H1
    exact absurd (Option.some.inj H) (by decide)
   replace fL := Bool.eq_false_iff.mpr fL
   subst fL
   have H1 : ((impl_FrameOk.f cG cH cK aV).bind fun iB => (if iB = true then ((impl_FrameOf.f fF bH).bind fun eA => (if 0 ≤ (wrap64 ((bH.length : Int) - 1)) then (if (wrap64 ((bH.length : Int) - 1)) ≤ (bH.length : Int) then ((impl_FrameOf.f fF (bH.take ((wrap64 ((bH.length : Int) - 1)) : Int).toNat)).bind fun eP => (if eA.2.2.2.2 = true then ((impl_FrameSame.f eA.1 eA.2.1 eA.2.2.1 eA.2.2.2.1 cG cH cK aV).bind fun eM => (if eM = true then (some (!eP.2.2.2.2)) else (some false))) else (some false))) else (none)) else (none))) else (some ((bH.length : Int) == 0)))) = some true := by first | (rw [if_neg (show ¬ (false = true) by decide)] at H; exact H) | (rw [if_neg (show ¬ (false = true) by decide)] at H)
   clear H
   have H := H1
   clear H1
   obtain ⟨iB, iJ, H⟩ := hB H
   have iC := aM iJ
   clear iJ
   by_cases fM : iB = true
   case neg =>
    replace fM := Bool.eq_false_iff.mpr fM
    subst fM
    have H1 : (some ((bH.length : Int) == 0)) = some true := by first | (rw [if_neg (show ¬ (false = true) by decide)] at H; exact H) | (rw [if_neg (show ¬ (false = true) by decide)] at H)
    clear H
    have H := H1
    clear H1
    have HX_ := aM (Option.some.inj H)
    clear H
    have kO := eQ.out
    have kP := eR.out
    have kQ := eS.out
    have kR := eT.out
    have kS := eU.out
    have kT := eV.out
    have kU := eW.out
    have kV := eX.out
    have kW := cA4 aA.out
    go_wp2_with (first | ((with_reducible refine gC (f := 16) rfl ?_); refine gL (some 84) Try.func16 #[.agg #[cG, cH, cK, .slice cE aV.length cA]] ?_; (with_reducible refine (impl_FrameOk.calls cG cH cK _ _ aV false _ ?side1 ?side2 iC.out).mono ?_); (case side1 => exact cM ((Kd.R_reads' bG.out).2.2)); (case side2 => exact (Kd.R_reads' bG.out).2.1); rintro e pC ⟨rfl, hb⟩; refine ⟨_, rfl, ?_⟩; replace dJ := rK dJ hb; replace bG := rK bG hb; replace bM := rK bM hb; replace bN := rK bN hb; replace bO := rK bO hb; replace bP := rK bP hb; replace aA := rB aA hb; replace aC := rB aC hb; replace aD := rB aD hb; replace aE := rB aE hb; replace aG := rB aG hb; replace HB := rS HB hb; (try clear hb); obtain ⟨oI, oJ, jH⟩ := Kd.R_slice dJ.out; subst jH))
    go_ret
    exact ⟨by first | rfl | (rw [HX_.out] <;> rfl) | (simp [errW_none, errW_some] <;> rfl) | (simp [*, errW_none, errW_some] <;> rfl), bl HB.out⟩
   subst fM
   have H1 : ((impl_FrameOf.f fF bH).bind fun eA => (if 0 ≤ (wrap64 ((bH.length : Int) - 1)) then (if (wrap64 ((bH.length : Int) - 1)) ≤ (bH.length : Int) then ((impl_FrameOf.f fF (bH.take ((wrap64 ((bH.length : Int) - 1)) : Int).toNat)).bind fun eP => (if eA.2.2.2.2 = true then ((impl_FrameSame.f eA.1 eA.2.1 eA.2.2.1 eA.2.2.2.1 cG cH cK aV).bind fun eM => (if eM = true then (some (!eP.2.2.2.2)) else (some false))) else (some false))) else (none)) else (none))) = some true := by first | (rw [if_pos rfl] at H; exact H) | (rw [if_pos rfl] at H)
   clear H
   have H := H1
   clear H1
   obtain ⟨⟨eB, eC, eD, dG, iD⟩, iK, H⟩ := hB H
   try dsimp only at H
   have iW := aM iK
   clear iK
   obtain ⟨ji124, hji124⟩ : ∃ j_ : Int, (wrap64 ((bH.length : Int) - 1)) = j_ := ⟨_, rfl⟩
   replace H : (if 0 ≤ (ji124) then (if (ji124) ≤ (bH.length : Int) then ((impl_FrameOf.f fF (bH.take ((ji124) : Int).toNat)).bind fun eP => (if iD = true then ((impl_FrameSame.f eB eC eD dG cG cH cK aV).bind fun eM => (if eM = true then (some (!eP.2.2.2.2)) else (some false))) else (some false))) else (none)) else (none)) = some true := by first | (rw [hji124] at H; exact H) | (simp only [hji124] at H ⊢; exact H)
   (try rw [hji124] at iC)
   (try rw [hji124] at iW)
   have hji124w : (IntKind.i64.wrap ((bH.length : Int) - 1)) = ji124 := (i64_w _).trans hji124
   by_cases fI : 0 ≤ (ji124)
   case neg =>
    rw [if_neg fI] at H
    exact absurd H (by simp)
   rw [if_pos fI] at H
   have kX := eq_true fI
   have kY : decide (0 ≤ (ji124)) = true := decide_eq_true fI
   clear fI
   by_cases fK : (ji124) ≤ (bH.length : Int)
   case neg =>
    rw [if_neg fK] at H
    exact absurd H (by simp)
   rw [if_pos fK] at H
   have kZ := eq_true fK
   have lA : decide ((ji124) ≤ (bH.length : Int)) = true := decide_eq_true fK
   clear fK
   obtain ⟨fD, fC⟩ : ∃ y_ : List Int, y_ = (bH.take ((ji124) : Int).toNat) := ⟨_, rfl⟩
   replace H : ((impl_FrameOf.f fF fD).bind fun eP => (if iD = true then ((impl_FrameSame.f eB eC eD dG cG cH cK aV).bind fun eM => (if eM = true then (some (!eP.2.2.2.2)) else (some false))) else (some false))) = some true := by first | (rw [fC]; with_reducible exact H) | (have H2_ := (Option.bind_some _ _).symm.trans H; rw [fC]; with_reducible exact H2_) | (have H2_ := (Option.bind_some _ _).symm.trans H; with_reducible exact H2_) | with_reducible exact H | (rw [fC]; exact H) | exact H
   have iL := aM fC
   clear fC
   obtain ⟨⟨eG, eH, eI, eE, iE⟩, iM, H⟩ := hB H
   try dsimp only at H
   have kH := aM iM
   clear iM
   by_cases fN : iD = true
   case neg =>
    replace fN := Bool.eq_false_iff.mpr fN
    subst fN
    have H1 : (some false) = some true := by first | (rw [if_neg (show ¬ (false = true) by decide)] at H; exact H) | (rw [if_neg (show ¬ (false = true) by decide)] at H)
    clear H
    have H := H1
    clear H1
    exact absurd (Option.some.inj H) (by decide)
   subst fN
   have H1 : ((impl_FrameSame.f eB eC eD dG cG cH cK aV).bind fun eM => (if eM = true then (some (!iE)) else (some false))) = some true := by first | (rw [if_pos rfl] at H; exact H) | (rw [if_pos rfl] at H)
   clear H
   have H := H1
   clear H1
   obtain ⟨eM, iN, H⟩ := hB H
   have kI := aM iN
   clear iN
   by_cases fO : eM = true
   case neg =>
    replace fO := Bool.eq_false_iff.mpr fO
    subst fO
    have H1 : (some false) = some true := by first | (rw [if_neg (show ¬ (false = true) by decide)] at H; exact H) | (rw [if_neg (show ¬ (false = true) by decide)] at H)
    clear H
    have H := H1
    clear H1
    exact absurd (Option.some.inj H) (by decide)
   subst fO
   have H1 : (some (!iE)) = some true := by first | (rw [if_pos rfl] at H; exact H) | (rw [if_pos rfl] at H)
   clear H
   have H := H1
   clear H1
   have HX_ := aM (Option.some.inj H)
   clear H
   have lC := eQ.out
   have lD := eR.out
   have lE := eS.out
   have lF := eT.out
   have lG := eU.out
   have lH := eV.out
   have lJ := eW.out
   have lK := eX.out
   have lL := cA4 aA.out
   go_wp2_with (first | ((with_reducible refine gC (f := 16) rfl ?_); refine gL (some 84) Try.func16 #[.agg #[cG, cH, cK, .slice cE aV.length cA]] ?_; (with_reducible refine (impl_FrameOk.calls cG cH cK _ _ aV true _ ?side1 ?side2 iC.out).mono ?_); (case side1 => exact cM ((Kd.R_reads' bG.out).2.2)); (case side2 => exact (Kd.R_reads' bG.out).2.1); rintro e pD ⟨rfl, hb⟩; refine ⟨_, rfl, ?_⟩; replace dJ := rK dJ hb; replace bG := rK bG hb; replace bM := rK bM hb; replace bN := rK bN hb; replace bO := rK bO hb; replace bP := rK bP hb; replace aA := rB aA hb; replace aC := rB aC hb; replace aD := rB aD hb; replace aE := rB aE hb; replace aG := rB aG hb; replace HB := rS HB hb; (try clear hb); obtain ⟨dX, dY, jI⟩ := Kd.R_slice dJ.out; subst jI) | ((with_reducible refine gC (f := 10) rfl ?_); refine gL (some 91) Try.func10 #[.slice dX bH.length dY] ?_; (with_reducible refine (impl_FrameOf.calls fF _ _ bH eB eC eD dG true _ ?side1 ?side2 iW.out).mono ?_); (case side1 => exact cM ((Kd.R_reads' dJ.out).2.2)); (case side2 => exact (Kd.R_reads' dJ.out).2.1); rintro e pE ⟨pF, rfl, ho0, hb⟩; refine ⟨_, rfl, ?_⟩; have dB := aM (Kd.R_lower (Kd.R_new' (Kd.R_new' (Kd.R_new' (Kd.R_new' (Kd.R_new' (Kd.R_new' ho0 (Kd.R_lt (kr dJ.out))) (Kd.R_lt (kr bG.out))) (Kd.R_lt (kr bM.out))) (Kd.R_lt (kr bN.out))) (Kd.R_lt (kr bO.out))) (Kd.R_lt (kr bP.out))) (below_size (bl HB.out))); replace dJ := aM (Kd.R_elder' (kr dJ.out) (Kd.R_base ho0) hb); replace bG := aM (Kd.R_elder' (kr bG.out) (Kd.R_base ho0) hb); replace bM := aM (Kd.R_elder' (kr bM.out) (Kd.R_base ho0) hb); replace bN := aM (Kd.R_elder' (kr bN.out) (Kd.R_base ho0) hb); replace bO := aM (Kd.R_elder' (kr bO.out) (Kd.R_base ho0) hb); replace bP := aM (Kd.R_elder' (kr bP.out) (Kd.R_base ho0) hb); replace aA := rB aA hb; replace aC := rB aC hb; replace aD := rB aD hb; replace aE := rB aE hb; replace aG := rB aG hb; replace HB := rS HB hb; (repeat first|clear hb|clear ho0)) | ((with_reducible refine gD (N := 12) rfl ?_); refine box_event ?hg (N := 12) ?hd (cs := #[.int .i64 0, .int .i64 0, .int .i64 0, .slice none 0 0]) (t := 25) ?hr ?_; (case hd => rfl); (case hg => rfl); (case hr => first | (go_simp; done) | (go_simp; rfl) | (obtain ⟨A_, c_, e_⟩ := Kd.R_slice dJ.out; subst e_; (first | (go_simp; done) | (go_simp; rfl))) | (obtain ⟨A_, c_, e_⟩ := Kd.S_slice dJ.out; subst e_; (first | (go_simp; done) | (go_simp; rfl))) | (obtain ⟨A_, c_, e_⟩ := Kd.R_slice bG.out; subst e_; (first | (go_simp; done) | (go_simp; rfl))) | (obtain ⟨A_, c_, e_⟩ := Kd.S_slice bG.out; subst e_; (first | (go_simp; done) | (go_simp; rfl))) | (obtain ⟨A_, c_, e_⟩ := Kd.R_slice bM.out; subst e_; (first | (go_simp; done) | (go_simp; rfl))) | (obtain ⟨A_, c_, e_⟩ := Kd.S_slice bM.out; subst e_; (first | (go_simp; done) | (go_simp; rfl))) | (obtain ⟨A_, c_, e_⟩ := Kd.R_slice bN.out; subst e_; (first | (go_simp; done) | (go_simp; rfl))) | (obtain ⟨A_, c_, e_⟩ := Kd.S_slice bN.out; subst e_; (first | (go_simp; done) | (go_simp; rfl))) | (obtain ⟨A_, c_, e_⟩ := Kd.R_slice bO.out; subst e_; (first | (go_simp; done) | (go_simp; rfl))) | (obtain ⟨A_, c_, e_⟩ := Kd.S_slice bO.out; subst e_; (first | (go_simp; done) | (go_simp; rfl))) | (obtain ⟨A_, c_, e_⟩ := Kd.R_slice bP.out; subst e_; (first | (go_simp; done) | (go_simp; rfl))) | (obtain ⟨A_, c_, e_⟩ := Kd.S_slice bP.out; subst e_; (first | (go_simp; done) | (go_simp; rfl))) | (obtain ⟨A_, c_, e_⟩ := Kd.R_slice dB.out; subst e_; (first | (go_simp; done) | (go_simp; rfl))) | (obtain ⟨A_, c_, e_⟩ := Kd.S_slice dB.out; subst e_; (first | (go_simp; done) | (go_simp; rfl)))); intro cN hg kJ hbox hb; have dH := aM (hbox); have oK := gF hg HB; have oL := gF hg HB; have gK := nM hg aA; have gM := nH hg aA; have gN := nM hg aC; have gO := nH hg aC; have gP := nM hg aD; have gQ := nH hg aD; have gR := nM hg aE; have gS := nH hg aE; have gT := nM hg aG; have gU := nH hg aG; replace dJ := rK dJ hb; replace bG := rK bG hb; replace bM := rK bM hb; replace bN := rK bN hb; replace bO := rK bO hb; replace bP := rK bP hb; replace dB := rK dB hb; replace aA := rB aA hb; replace aC := rB aC hb; replace aD := rB aD hb; replace aE := rB aE hb; replace aG := rB aG hb; replace HB := rS HB hb; clear hb hbox hg; have lM := gM.out; have lO := gK.out; have lP := gO.out; have lQ := gN.out; have lS := gQ.out; have lT := gP.out; have lU := gS.out; have lV := gR.out; have lW := gU.out; have lX := gT.out; have lY := cA4 dH.out; obtain ⟨dK, dI, jJ⟩ := Kd.R_slice dB.out; subst jJ) | ((with_reducible refine gate_store (t := 25) (p := 12) rfl ?_); refine store_event (t := 25) (p := 12) (v := ?vo_w147) (w1 := ((((kJ.setCell ⟨cN, 0, none⟩ (.int .i64 eB)).setCell ⟨cN, 1, none⟩ (.int .i64 eC)).setCell ⟨cN, 2, none⟩ (.int .i64 eD)).setCell ⟨cN, 3, none⟩ (.slice dK dG.length dI))) ?hg ?ho ?hn ?hr ?_; (case ho => rfl); (case hg => rfl); (case hn => rfl); (case hr => first | (go_simp; done) | (go_simp; rfl) | (obtain ⟨A_, c_, e_⟩ := Kd.R_slice dJ.out; subst e_; (first | (go_simp; done) | (go_simp; rfl))) | (obtain ⟨A_, c_, e_⟩ := Kd.S_slice dJ.out; subst e_; (first | (go_simp; done) | (go_simp; rfl))) | (obtain ⟨A_, c_, e_⟩ := Kd.R_slice bG.out; subst e_; (first | (go_simp; done) | (go_simp; rfl))) | (obtain ⟨A_, c_, e_⟩ := Kd.S_slice bG.out; subst e_; (first | (go_simp; done) | (go_simp; rfl))) | (obtain ⟨A_, c_, e_⟩ := Kd.R_slice bM.out; subst e_; (first | (go_simp; done) | (go_simp; rfl))) | (obtain ⟨A_, c_, e_⟩ := Kd.S_slice bM.out; subst e_; (first | (go_simp; done) | (go_simp; rfl))) | (obtain ⟨A_, c_, e_⟩ := Kd.R_slice bN.out; subst e_; (first | (go_simp; done) | (go_simp; rfl))) | (obtain ⟨A_, c_, e_⟩ := Kd.S_slice bN.out; subst e_; (first | (go_simp; done) | (go_simp; rfl))) | (obtain ⟨A_, c_, e_⟩ := Kd.R_slice bO.out; subst e_; (first | (go_simp; done) | (go_simp; rfl))) | (obtain ⟨A_, c_, e_⟩ := Kd.S_slice bO.out; subst e_; (first | (go_simp; done) | (go_simp; rfl))) | (obtain ⟨A_, c_, e_⟩ := Kd.R_slice bP.out; subst e_; (first | (go_simp; done) | (go_simp; rfl))) | (obtain ⟨A_, c_, e_⟩ := Kd.S_slice bP.out; subst e_; (first | (go_simp; done) | (go_simp; rfl))) | (obtain ⟨A_, c_, e_⟩ := Kd.R_slice dB.out; subst e_; (first | (go_simp; done) | (go_simp; rfl))) | (obtain ⟨A_, c_, e_⟩ := Kd.S_slice dB.out; subst e_; (first | (go_simp; done) | (go_simp; rfl))) | (obtain ⟨A_, c_, e_⟩ := Kd.R_slice dN.out; subst e_; (first | (go_simp; done) | (go_simp; rfl))) | (obtain ⟨A_, c_, e_⟩ := Kd.S_slice dN.out; subst e_; (first | (go_simp; done) | (go_simp; rfl))) | (obtain ⟨A_, c_, e_⟩ := Kd.R_slice eJ.out; subst e_; (first | (go_simp; done) | (go_simp; rfl))) | (obtain ⟨A_, c_, e_⟩ := Kd.S_slice eJ.out; subst e_; (first | (go_simp; done) | (go_simp; rfl)))); intro eF hw; replace dJ : Aside0 (Kd.R (Kd.int .u8) 5 eF w.heap.size (fun k_ => some k_ ≠ (.slice cE aV.length cA : Value).ownBlock ∧ some k_ ≠ (.slice cC bL.length cD : Value).ownBlock ∧ some k_ ≠ (.slice bT bK.length bU : Value).ownBlock ∧ some k_ ≠ (.slice bV bI.length bW : Value).ownBlock ∧ some k_ ≠ (.slice bX bJ.length bY : Value).ownBlock ∧ some k_ ≠ (.slice dK dG.length dI : Value).ownBlock) (.slice dX bH.length dY) bH) := ⟨(by rw [hw]; exact (kr (Kd.R_mono (kF (p := ⟨cN, 3, none⟩) (kF (p := ⟨cN, 2, none⟩) (kF (p := ⟨cN, 1, none⟩) (kF (p := ⟨cN, 0, none⟩) (Kd.R_types dJ.out dH.out (by decide)) (fun _ hk => hk.2) (.int .i64 eB)) (fun _ hk => hk.2) (.int .i64 eC)) (fun _ hk => hk.2) (.int .i64 eD)) (fun _ hk => hk.2) (.slice dK dG.length dI)) (fun _ hk => ⟨hk.1.1.1, ⟨hk.1.1.2.1, ⟨hk.1.1.2.2.1, ⟨hk.1.1.2.2.2.1, ⟨hk.1.1.2.2.2.2, hk.1.2⟩⟩⟩⟩⟩))))⟩; replace bG : Aside0 (Kd.R (Kd.int .u8) 5 eF w.heap.size (fun k_ => some k_ ≠ (.slice dX bH.length dY : Value).ownBlock ∧ some k_ ≠ (.slice cC bL.length cD : Value).ownBlock ∧ some k_ ≠ (.slice bT bK.length bU : Value).ownBlock ∧ some k_ ≠ (.slice bV bI.length bW : Value).ownBlock ∧ some k_ ≠ (.slice bX bJ.length bY : Value).ownBlock ∧ some k_ ≠ (.slice dK dG.length dI : Value).ownBlock) (.slice cE aV.length cA) aV) := ⟨(by rw [hw]; exact (kr (Kd.R_mono (kF (p := ⟨cN, 3, none⟩) (kF (p := ⟨cN, 2, none⟩) (kF (p := ⟨cN, 1, none⟩) (kF (p := ⟨cN, 0, none⟩) (Kd.R_types bG.out dH.out (by decide)) (fun _ hk => hk.2) (.int .i64 eB)) (fun _ hk => hk.2) (.int .i64 eC)) (fun _ hk => hk.2) (.int .i64 eD)) (fun _ hk => hk.2) (.slice dK dG.length dI)) (fun _ hk => ⟨hk.1.1.1, ⟨hk.1.1.2.1, ⟨hk.1.1.2.2.1, ⟨hk.1.1.2.2.2.1, ⟨hk.1.1.2.2.2.2, hk.1.2⟩⟩⟩⟩⟩))))⟩; replace bM : Aside0 (Kd.R (Kd.int .u8) 5 eF w.heap.size (fun k_ => some k_ ≠ (.slice dX bH.length dY : Value).ownBlock ∧ some k_ ≠ (.slice cE aV.length cA : Value).ownBlock ∧ some k_ ≠ (.slice bT bK.length bU : Value).ownBlock ∧ some k_ ≠ (.slice bV bI.length bW : Value).ownBlock ∧ some k_ ≠ (.slice bX bJ.length bY : Value).ownBlock ∧ some k_ ≠ (.slice dK dG.length dI : Value).ownBlock) (.slice cC bL.length cD) bL) := ⟨(by rw [hw]; exact (kr (Kd.R_mono (kF (p := ⟨cN, 3, none⟩) (kF (p := ⟨cN, 2, none⟩) (kF (p := ⟨cN, 1, none⟩) (kF (p := ⟨cN, 0, none⟩) (Kd.R_types bM.out dH.out (by decide)) (fun _ hk => hk.2) (.int .i64 eB)) (fun _ hk => hk.2) (.int .i64 eC)) (fun _ hk => hk.2) (.int .i64 eD)) (fun _ hk => hk.2) (.slice dK dG.length dI)) (fun _ hk => ⟨hk.1.1.1, ⟨hk.1.1.2.1, ⟨hk.1.1.2.2.1, ⟨hk.1.1.2.2.2.1, ⟨hk.1.1.2.2.2.2, hk.1.2⟩⟩⟩⟩⟩))))⟩; replace bN : Aside0 (Kd.R (Kd.int .u8) 5 eF w.heap.size (fun k_ => some k_ ≠ (.slice dX bH.length dY : Value).ownBlock ∧ some k_ ≠ (.slice cE aV.length cA : Value).ownBlock ∧ some k_ ≠ (.slice cC bL.length cD : Value).ownBlock ∧ some k_ ≠ (.slice bV bI.length bW : Value).ownBlock ∧ some k_ ≠ (.slice bX bJ.length bY : Value).ownBlock ∧ some k_ ≠ (.slice dK dG.length dI : Value).ownBlock) (.slice bT bK.length bU) bK) := ⟨(by rw [hw]; exact (kr (Kd.R_mono (kF (p := ⟨cN, 3, none⟩) (kF (p := ⟨cN, 2, none⟩) (kF (p := ⟨cN, 1, none⟩) (kF (p := ⟨cN, 0, none⟩) (Kd.R_types bN.out dH.out (by decide)) (fun _ hk => hk.2) (.int .i64 eB)) (fun _ hk => hk.2) (.int .i64 eC)) (fun _ hk => hk.2) (.int .i64 eD)) (fun _ hk => hk.2) (.slice dK dG.length dI)) (fun _ hk => ⟨hk.1.1.1, ⟨hk.1.1.2.1, ⟨hk.1.1.2.2.1, ⟨hk.1.1.2.2.2.1, ⟨hk.1.1.2.2.2.2, hk.1.2⟩⟩⟩⟩⟩))))⟩; replace bO : Aside0 (Kd.R (Kd.int .u8) 5 eF w.heap.size (fun k_ => some k_ ≠ (.slice dX bH.length dY : Value).ownBlock ∧ some k_ ≠ (.slice cE aV.length cA : Value).ownBlock ∧ some k_ ≠ (.slice cC bL.length cD : Value).ownBlock ∧ some k_ ≠ (.slice bT bK.length bU : Value).ownBlock ∧ some k_ ≠ (.slice bX bJ.length bY : Value).ownBlock ∧ some k_ ≠ (.slice dK dG.length dI : Value).ownBlock) (.slice bV bI.length bW) bI) := ⟨(by rw [hw]; exact (kr (Kd.R_mono (kF (p := ⟨cN, 3, none⟩) (kF (p := ⟨cN, 2, none⟩) (kF (p := ⟨cN, 1, none⟩) (kF (p := ⟨cN, 0, none⟩) (Kd.R_types bO.out dH.out (by decide)) (fun _ hk => hk.2) (.int .i64 eB)) (fun _ hk => hk.2) (.int .i64 eC)) (fun _ hk => hk.2) (.int .i64 eD)) (fun _ hk => hk.2) (.slice dK dG.length dI)) (fun _ hk => ⟨hk.1.1.1, ⟨hk.1.1.2.1, ⟨hk.1.1.2.2.1, ⟨hk.1.1.2.2.2.1, ⟨hk.1.1.2.2.2.2, hk.1.2⟩⟩⟩⟩⟩))))⟩; replace bP : Aside0 (Kd.R (Kd.int .u8) 5 eF w.heap.size (fun k_ => some k_ ≠ (.slice dX bH.length dY : Value).ownBlock ∧ some k_ ≠ (.slice cE aV.length cA : Value).ownBlock ∧ some k_ ≠ (.slice cC bL.length cD : Value).ownBlock ∧ some k_ ≠ (.slice bT bK.length bU : Value).ownBlock ∧ some k_ ≠ (.slice bV bI.length bW : Value).ownBlock ∧ some k_ ≠ (.slice dK dG.length dI : Value).ownBlock) (.slice bX bJ.length bY) bJ) := ⟨(by rw [hw]; exact (kr (Kd.R_mono (kF (p := ⟨cN, 3, none⟩) (kF (p := ⟨cN, 2, none⟩) (kF (p := ⟨cN, 1, none⟩) (kF (p := ⟨cN, 0, none⟩) (Kd.R_types bP.out dH.out (by decide)) (fun _ hk => hk.2) (.int .i64 eB)) (fun _ hk => hk.2) (.int .i64 eC)) (fun _ hk => hk.2) (.int .i64 eD)) (fun _ hk => hk.2) (.slice dK dG.length dI)) (fun _ hk => ⟨hk.1.1.1, ⟨hk.1.1.2.1, ⟨hk.1.1.2.2.1, ⟨hk.1.1.2.2.2.1, ⟨hk.1.1.2.2.2.2, hk.1.2⟩⟩⟩⟩⟩))))⟩; replace dB : Aside0 (Kd.R (Kd.int .u8) 5 eF w.heap.size (fun k_ => some k_ ≠ (.slice dX bH.length dY : Value).ownBlock ∧ some k_ ≠ (.slice cE aV.length cA : Value).ownBlock ∧ some k_ ≠ (.slice cC bL.length cD : Value).ownBlock ∧ some k_ ≠ (.slice bT bK.length bU : Value).ownBlock ∧ some k_ ≠ (.slice bV bI.length bW : Value).ownBlock ∧ some k_ ≠ (.slice bX bJ.length bY : Value).ownBlock) (.slice dK dG.length dI) dG) := ⟨(by rw [hw]; exact (kr (Kd.R_mono (kF (p := ⟨cN, 3, none⟩) (kF (p := ⟨cN, 2, none⟩) (kF (p := ⟨cN, 1, none⟩) (kF (p := ⟨cN, 0, none⟩) (Kd.R_types dB.out dH.out (by decide)) (fun _ hk => hk.2) (.int .i64 eB)) (fun _ hk => hk.2) (.int .i64 eC)) (fun _ hk => hk.2) (.int .i64 eD)) (fun _ hk => hk.2) (.slice dK dG.length dI)) (fun _ hk => ⟨hk.1.1.1.1.1.1.2, ⟨hk.1.1.1.1.1.2, ⟨hk.1.1.1.1.2, ⟨hk.1.1.1.2, ⟨hk.1.1.2, hk.1.2⟩⟩⟩⟩⟩))))⟩; replace aA : Aside0 (eF.heap[dF]? = some (.cells #[cG, cH, cK, .slice cE aV.length cA] 25 (0, 0))) := ⟨(by rw [hw]; exact (fm aA.out))⟩; replace aC : Aside0 (eF.heap[bQ]? = some (.cells #[dC, dD, dE, .slice cC bL.length cD] 25 (0, 0))) := ⟨(by rw [hw]; exact (fm aC.out))⟩; replace aD : Aside0 (eF.heap[aQ]? = some (.cells #[cW, cX, cY, .slice bT bK.length bU] 25 (0, 0))) := ⟨(by rw [hw]; exact (fm aD.out))⟩; replace aE : Aside0 (eF.heap[bA]? = some (.cells #[cQ, cR, cS, .slice bV bI.length bW] 25 (0, 0))) := ⟨(by rw [hw]; exact (fm aE.out))⟩; replace aG : Aside0 (eF.heap[bD]? = some (.cells #[cT, cU, cV, .slice bX bJ.length bY] 25 (0, 0))) := ⟨(by rw [hw]; exact (fm aG.out))⟩; replace dH : Aside0 (eF.heap[cN]? = some (.cells #[eB, eC, eD, .slice dK dG.length dI] 25 (0, 0))) := ⟨(by rw [hw]; exact (bm dH.out))⟩; replace HB : Aside0 (Below w.heap.size w eF) := ⟨(by rw [hw]; exact (bl HB.out))⟩; clear hw; have iF : ((ji124) : Int) ≤ ((bH.length : Int) : Int) := dT; obtain ⟨i0148, hi0148, _, hsz148, _⟩ := info_parts info5; have hcut148 := cut_to (P := Try.prog) 22 5 .i64 Try.underlying22 hi0148 dX bH.length dY (ji124) (dT) iF (Kd.R_reads' dJ.out).2.1; have hr148 := Kd.R_take (m := ((ji124) : Int).toNat) dJ.out (by omega); have iO : fD.length = ((ji124) : Int).toNat := (by rw [iL.out, List.length_take]; omega); rw [← iL.out] at hr148; rw [← iO] at hr148 hcut148; clear iO hi0148 hsz148 dJ; have dN := aM hr148; clear hr148; replace iF := eq_true iF) | ((with_reducible refine gC (f := 10) rfl ?_); refine gL (some 100) Try.func10 #[.slice dX fD.length dY] ?_; (with_reducible refine (impl_FrameOf.calls fF _ _ fD eG eH eI eE iE _ ?side1 ?side2 kH.out).mono ?_); (case side1 => exact cM ((Kd.R_reads' dN.out).2.2)); (case side2 => exact (Kd.R_reads' dN.out).2.1); rintro e pG ⟨pH, rfl, ho0, hb⟩; refine ⟨_, rfl, ?_⟩; have eJ := aM (Kd.R_lower (Kd.R_new' (Kd.R_new' (Kd.R_new' (Kd.R_new' (Kd.R_new' (Kd.R_new' (Kd.R_new' ho0 (Kd.R_lt (kr dN.out))) (Kd.R_lt (kr bG.out))) (Kd.R_lt (kr bM.out))) (Kd.R_lt (kr bN.out))) (Kd.R_lt (kr bO.out))) (Kd.R_lt (kr bP.out))) (Kd.R_lt (kr dB.out))) (below_size (bl HB.out))); replace dN := aM (Kd.R_elder' (kr dN.out) (Kd.R_base ho0) hb); replace bG := aM (Kd.R_elder' (kr bG.out) (Kd.R_base ho0) hb); replace bM := aM (Kd.R_elder' (kr bM.out) (Kd.R_base ho0) hb); replace bN := aM (Kd.R_elder' (kr bN.out) (Kd.R_base ho0) hb); replace bO := aM (Kd.R_elder' (kr bO.out) (Kd.R_base ho0) hb); replace bP := aM (Kd.R_elder' (kr bP.out) (Kd.R_base ho0) hb); replace dB := aM (Kd.R_elder' (kr dB.out) (Kd.R_base ho0) hb); replace aA := rB aA hb; replace aC := rB aC hb; replace aD := rB aD hb; replace aE := rB aE hb; replace aG := rB aG hb; replace dH := rB dH hb; replace HB := rS HB hb; (repeat first|clear hb|clear ho0)) | ((with_reducible refine gD (N := 14) rfl ?_); refine box_event ?hg (N := 14) ?hd (cs := #[.int .i64 0, .int .i64 0, .int .i64 0, .slice none 0 0]) (t := 25) ?hr ?_; (case hd => rfl); (case hg => rfl); (case hr => first | (go_simp; done) | (go_simp; rfl) | (obtain ⟨A_, c_, e_⟩ := Kd.R_slice dN.out; subst e_; (first | (go_simp; done) | (go_simp; rfl))) | (obtain ⟨A_, c_, e_⟩ := Kd.S_slice dN.out; subst e_; (first | (go_simp; done) | (go_simp; rfl))) | (obtain ⟨A_, c_, e_⟩ := Kd.R_slice bG.out; subst e_; (first | (go_simp; done) | (go_simp; rfl))) | (obtain ⟨A_, c_, e_⟩ := Kd.S_slice bG.out; subst e_; (first | (go_simp; done) | (go_simp; rfl))) | (obtain ⟨A_, c_, e_⟩ := Kd.R_slice bM.out; subst e_; (first | (go_simp; done) | (go_simp; rfl))) | (obtain ⟨A_, c_, e_⟩ := Kd.S_slice bM.out; subst e_; (first | (go_simp; done) | (go_simp; rfl))) | (obtain ⟨A_, c_, e_⟩ := Kd.R_slice bN.out; subst e_; (first | (go_simp; done) | (go_simp; rfl))) | (obtain ⟨A_, c_, e_⟩ := Kd.S_slice bN.out; subst e_; (first | (go_simp; done) | (go_simp; rfl))) | (obtain ⟨A_, c_, e_⟩ := Kd.R_slice bO.out; subst e_; (first | (go_simp; done) | (go_simp; rfl))) | (obtain ⟨A_, c_, e_⟩ := Kd.S_slice bO.out; subst e_; (first | (go_simp; done) | (go_simp; rfl))) | (obtain ⟨A_, c_, e_⟩ := Kd.R_slice bP.out; subst e_; (first | (go_simp; done) | (go_simp; rfl))) | (obtain ⟨A_, c_, e_⟩ := Kd.S_slice bP.out; subst e_; (first | (go_simp; done) | (go_simp; rfl))) | (obtain ⟨A_, c_, e_⟩ := Kd.R_slice dB.out; subst e_; (first | (go_simp; done) | (go_simp; rfl))) | (obtain ⟨A_, c_, e_⟩ := Kd.S_slice dB.out; subst e_; (first | (go_simp; done) | (go_simp; rfl))) | (obtain ⟨A_, c_, e_⟩ := Kd.R_slice eJ.out; subst e_; (first | (go_simp; done) | (go_simp; rfl))) | (obtain ⟨A_, c_, e_⟩ := Kd.S_slice eJ.out; subst e_; (first | (go_simp; done) | (go_simp; rfl)))); intro bZ hg pI hbox hb; have dO := aM (hbox); have oM := gF hg HB; have oO := gF hg HB; have gV := nM hg aA; have gW := nH hg aA; have gX := nM hg aC; have gY := nH hg aC; have gZ := nM hg aD; have hD := nH hg aD; have hH := nM hg aE; have hJ := nH hg aE; have hO := nM hg aG; have hU := nH hg aG; have hX := nM hg dH; have hY := nH hg dH; replace dN := rK dN hb; replace bG := rK bG hb; replace bM := rK bM hb; replace bN := rK bN hb; replace bO := rK bO hb; replace bP := rK bP hb; replace dB := rK dB hb; replace eJ := rK eJ hb; replace aA := rB aA hb; replace aC := rB aC hb; replace aD := rB aD hb; replace aE := rB aE hb; replace aG := rB aG hb; replace dH := rB dH hb; replace HB := rS HB hb; clear hb hbox hg; have lZ := gW.out; have mA := gV.out; have mB := gY.out; have mC := gX.out; have mD := hD.out; have mE := gZ.out; have mF := hJ.out; have mG := hH.out; have mH := hU.out; have mI := hO.out; have mJ := hY.out; have mK := hX.out; have mL := cA4 dO.out; obtain ⟨dP, dQ, jK⟩ := Kd.R_slice eJ.out; subst jK; have mM := cA4 dH.out; have mN := cA4 aA.out) | (go_at_call 14; (with_reducible refine (impl_FrameSame.calls eB eC eD _ _ dG cG cH cK _ _ aV true _ ?side1 ?side2 ?side3 ?side4 kI.out).mono ?_); (case side1 => refine (Kd.R_reads' (e := 5) (base := w.heap.size) (ok := fun k_ => ((some k_ ≠ (.slice dX bH.length dY : Value).ownBlock ∧ (some k_ ≠ (.slice cE aV.length cA : Value).ownBlock ∧ (some k_ ≠ (.slice cC bL.length cD : Value).ownBlock ∧ (some k_ ≠ (.slice bT bK.length bU : Value).ownBlock ∧ (some k_ ≠ (.slice bV bI.length bW : Value).ownBlock ∧ some k_ ≠ (.slice bX bJ.length bY : Value).ownBlock))))) ∧ some k_ ≠ (.slice dP eE.length dQ : Value).ownBlock)) (n := dG.length) (c := dI) ?_).2.2; exact (kr (Kd.R_mono (kF (p := ⟨bZ, 3, none⟩) (kF (p := ⟨bZ, 2, none⟩) (kF (p := ⟨bZ, 1, none⟩) (kF (p := ⟨bZ, 0, none⟩) (Kd.R_types dB.out dO.out (by decide)) (fun _ hk => hk.2) (.int .i64 eG)) (fun _ hk => hk.2) (.int .i64 eH)) (fun _ hk => hk.2) (.int .i64 eI)) (fun _ hk => hk.2) (.slice dP eE.length dQ)) (fun _ h_ => h_.1)))); (case side2 => exact (Kd.R_reads' dB.out).2.1); (case side3 => refine (Kd.R_reads' (e := 5) (base := w.heap.size) (ok := fun k_ => ((some k_ ≠ (.slice dX bH.length dY : Value).ownBlock ∧ (some k_ ≠ (.slice cC bL.length cD : Value).ownBlock ∧ (some k_ ≠ (.slice bT bK.length bU : Value).ownBlock ∧ (some k_ ≠ (.slice bV bI.length bW : Value).ownBlock ∧ (some k_ ≠ (.slice bX bJ.length bY : Value).ownBlock ∧ some k_ ≠ (.slice dK dG.length dI : Value).ownBlock))))) ∧ some k_ ≠ (.slice dP eE.length dQ : Value).ownBlock)) (n := aV.length) (c := cA) ?_).2.2; exact (kr (Kd.R_mono (kF (p := ⟨bZ, 3, none⟩) (kF (p := ⟨bZ, 2, none⟩) (kF (p := ⟨bZ, 1, none⟩) (kF (p := ⟨bZ, 0, none⟩) (Kd.R_types bG.out dO.out (by decide)) (fun _ hk => hk.2) (.int .i64 eG)) (fun _ hk => hk.2) (.int .i64 eH)) (fun _ hk => hk.2) (.int .i64 eI)) (fun _ hk => hk.2) (.slice dP eE.length dQ)) (fun _ h_ => h_.1)))); (case side4 => exact (Kd.R_reads' bG.out).2.1); rintro e pJ ⟨rfl, hb⟩; replace dN := aM (kB (kr (Kd.R_mono (kF (p := ⟨bZ, 3, none⟩) (kF (p := ⟨bZ, 2, none⟩) (kF (p := ⟨bZ, 1, none⟩) (kF (p := ⟨bZ, 0, none⟩) (Kd.R_types dN.out dO.out (by decide)) (fun _ hk => hk.2) (.int .i64 eG)) (fun _ hk => hk.2) (.int .i64 eH)) (fun _ hk => hk.2) (.int .i64 eI)) (fun _ hk => hk.2) (.slice dP eE.length dQ)) (fun _ h_ => h_.1))) hb); replace bG := aM (kB (kr (Kd.R_mono (kF (p := ⟨bZ, 3, none⟩) (kF (p := ⟨bZ, 2, none⟩) (kF (p := ⟨bZ, 1, none⟩) (kF (p := ⟨bZ, 0, none⟩) (Kd.R_types bG.out dO.out (by decide)) (fun _ hk => hk.2) (.int .i64 eG)) (fun _ hk => hk.2) (.int .i64 eH)) (fun _ hk => hk.2) (.int .i64 eI)) (fun _ hk => hk.2) (.slice dP eE.length dQ)) (fun _ h_ => h_.1))) hb); replace bM := aM (kB (kr (Kd.R_mono (kF (p := ⟨bZ, 3, none⟩) (kF (p := ⟨bZ, 2, none⟩) (kF (p := ⟨bZ, 1, none⟩) (kF (p := ⟨bZ, 0, none⟩) (Kd.R_types bM.out dO.out (by decide)) (fun _ hk => hk.2) (.int .i64 eG)) (fun _ hk => hk.2) (.int .i64 eH)) (fun _ hk => hk.2) (.int .i64 eI)) (fun _ hk => hk.2) (.slice dP eE.length dQ)) (fun _ h_ => h_.1))) hb); replace bN := aM (kB (kr (Kd.R_mono (kF (p := ⟨bZ, 3, none⟩) (kF (p := ⟨bZ, 2, none⟩) (kF (p := ⟨bZ, 1, none⟩) (kF (p := ⟨bZ, 0, none⟩) (Kd.R_types bN.out dO.out (by decide)) (fun _ hk => hk.2) (.int .i64 eG)) (fun _ hk => hk.2) (.int .i64 eH)) (fun _ hk => hk.2) (.int .i64 eI)) (fun _ hk => hk.2) (.slice dP eE.length dQ)) (fun _ h_ => h_.1))) hb); replace bO := aM (kB (kr (Kd.R_mono (kF (p := ⟨bZ, 3, none⟩) (kF (p := ⟨bZ, 2, none⟩) (kF (p := ⟨bZ, 1, none⟩) (kF (p := ⟨bZ, 0, none⟩) (Kd.R_types bO.out dO.out (by decide)) (fun _ hk => hk.2) (.int .i64 eG)) (fun _ hk => hk.2) (.int .i64 eH)) (fun _ hk => hk.2) (.int .i64 eI)) (fun _ hk => hk.2) (.slice dP eE.length dQ)) (fun _ h_ => h_.1))) hb); replace bP := aM (kB (kr (Kd.R_mono (kF (p := ⟨bZ, 3, none⟩) (kF (p := ⟨bZ, 2, none⟩) (kF (p := ⟨bZ, 1, none⟩) (kF (p := ⟨bZ, 0, none⟩) (Kd.R_types bP.out dO.out (by decide)) (fun _ hk => hk.2) (.int .i64 eG)) (fun _ hk => hk.2) (.int .i64 eH)) (fun _ hk => hk.2) (.int .i64 eI)) (fun _ hk => hk.2) (.slice dP eE.length dQ)) (fun _ h_ => h_.1))) hb); replace dB := aM (kB (kr (Kd.R_mono (kF (p := ⟨bZ, 3, none⟩) (kF (p := ⟨bZ, 2, none⟩) (kF (p := ⟨bZ, 1, none⟩) (kF (p := ⟨bZ, 0, none⟩) (Kd.R_types dB.out dO.out (by decide)) (fun _ hk => hk.2) (.int .i64 eG)) (fun _ hk => hk.2) (.int .i64 eH)) (fun _ hk => hk.2) (.int .i64 eI)) (fun _ hk => hk.2) (.slice dP eE.length dQ)) (fun _ h_ => h_.1))) hb); replace eJ := aM (kB (kr (Kd.R_mono (kF (p := ⟨bZ, 3, none⟩) (kF (p := ⟨bZ, 2, none⟩) (kF (p := ⟨bZ, 1, none⟩) (kF (p := ⟨bZ, 0, none⟩) (Kd.R_types eJ.out dO.out (by decide)) (fun _ hk => hk.2) (.int .i64 eG)) (fun _ hk => hk.2) (.int .i64 eH)) (fun _ hk => hk.2) (.int .i64 eI)) (fun _ hk => hk.2) (.slice dP eE.length dQ)) (fun _ h_ => h_.1))) hb); replace aA := aM (bB (fm aA.out) hb); replace aC := aM (bB (fm aC.out) hb); replace aD := aM (bB (fm aD.out) hb); replace aE := aM (bB (fm aE.out) hb); replace aG := aM (bB (fm aG.out) hb); replace dH := aM (bB (fm dH.out) hb); replace dO := aM (bB (g := bZ) (o := .cells #[eG, eH, eI, .slice dP eE.length dQ] 25 (0, 0)) (bm dO.out) hb); replace HB := rS HB hb; (try clear hb)))
   go_ret
   exact ⟨by first | rfl | (rw [HX_.out] <;> rfl) | (simp [errW_none, errW_some] <;> rfl) | (simp only [← hji124]; first | rfl | (simp [errW_none, errW_some] <;> rfl)) | (simp [*, errW_none, errW_some] <;> rfl), bl HB.out⟩

end Go.Proofs.Ytaoipjdmmamkmaa.PFnFrames

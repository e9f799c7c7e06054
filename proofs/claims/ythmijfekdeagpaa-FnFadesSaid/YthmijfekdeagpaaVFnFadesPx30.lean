/- A part of the proof of laws.FnFades. No condition beyond what its theorems say. -/
import Derived.Test.YthmijfekdeagpaaVFnFadesPx25
import Derived.Test.YthmijfekdeagpaaVFnFadesPx26
import Derived.Test.YthmijfekdeagpaaVFnFadesPx27
import Derived.Test.YthmijfekdeagpaaVFnFadesPx29
namespace Go.Proofs.Ythmijfekdeagpaa.PFnFades
open Go.RowKit Go.Proofs.YthmijfekdeagpaaW.PrintWords Go.Proofs.YthmijfekdeagpaaW.PrintLast Go.Proofs.YthmijfekdeagpaaW.PrintMore
set_option linter.unusedVariables false
set_option linter.unusedSimpArgs false

mutual
def impl_Bridge_react.j0 : Nat → List (S79) → Int → List (S79) → Int → Int → Int → Int → Int → Int → Int → Bool → Option ((List (S151)) × (List (S79)))
 | 0, _, _, _, _, _, _, _, _, _, _, _ => none
 | k + 1, x5, aA, aC, aD, aE, aG, aH, aI, aJ, aK, aN => (impl_Bridge_decide.f k aA aC).bind fun aQ => (impl_Bridge_react.l0 k x5 ([] : List (S151)) aQ (aC.length : Int) 0 aA aQ aD aE aG aH aI aJ aK aN)
def impl_Bridge_react.l0 : Nat → List (S79) → List (S151) → List (S79) → Int → Int → Int → List (S79) → Int → Int → Int → Int → Int → Int → Int → Bool → Option ((List (S151)) × (List (S79)))
 | 0, _, _, _, _, _, _, _, _, _, _, _, _, _, _, _ => none
 | k + 1, x5, x7, aT, aV, aC, aD, aA, aE, aG, aH, aI, aJ, aK, aN, aQ => if aC < aV then (if 0 ≤ aC then (if aC < (aT.length : Int) then (if aC < (x5.length : Int) then (if (((rd_T79 aT aC).f7) != ((rd_T79 x5 aC).f7)) = true then (if x7.length < 2199023255552 then (impl_Bridge_react.l0 k x5 (x7 ++ [(⟨2, aC, (⟨0, 0, 0, 0⟩ : S73), 0, (rd_T79 aT aC).f7⟩ : S151)]) aT aV (wrap64 (aC + 1)) aD aA aE aG aH aI aJ aK aN aQ) else (none)) else (impl_Bridge_react.l0 k x5 x7 aT aV (wrap64 (aC + 1)) aD aA aE aG aH aI aJ aK aN aQ)) else (none)) else (none)) else (none)) else (impl_Bridge_react.l1 k x7 aA (aA.length : Int) 0 aD aA aE aG aH aI aJ aK aN aQ)
def impl_Bridge_react.l1 : Nat → List (S151) → List (S79) → Int → Int → Int → List (S79) → Int → Int → Int → Int → Int → Int → Int → Bool → Option ((List (S151)) × (List (S79)))
 | 0, _, _, _, _, _, _, _, _, _, _, _, _, _, _ => none
 | k + 1, x7, aT, aV, aD, aE, aA, aC, aG, aH, aI, aJ, aK, aN, aQ => if aD < aV then (if 0 ≤ aD then (if aD < (aT.length : Int) then (if aC = 2 then (impl_Bridge_react.j3 k x7 aD aT aV aD (((rd_T79 aT aD).f5) == 2) aE aA aC aG aH aI aJ aK aN aQ) else (impl_Bridge_react.j3 k x7 aD aT aV aD false aE aA aC aG aH aI aJ aK aN aQ)) else (none)) else (none)) else (some (x7, aA))
def impl_Bridge_react.j3 : Nat → List (S151) → Int → List (S79) → Int → Int → Bool → Int → List (S79) → Int → Int → Int → Int → Int → Int → Int → Bool → Option ((List (S151)) × (List (S79)))
 | 0, _, _, _, _, _, _, _, _, _, _, _, _, _, _, _, _ => none
 | k + 1, x7, aT, aV, aW, aX, bA, aA, aC, aE, aG, aH, aI, aJ, aK, aN, aQ => if bA = true then ((impl_Bridge_own.f k aA aC aT).bind fun aD => ((impl_Bridge_hops.f k aA aC).bind fun bD => (if x7.length < 2199023255552 then (impl_Bridge_react.l1 k (x7 ++ [(⟨1, aT, (⟨aD.1, aD.2.1, aD.2.2.1, aD.2.2.2⟩ : S73), bD, false⟩ : S151)]) aV aW (wrap64 (aX + 1)) aA aC aE aG aH aI aJ aK aN aQ) else (none)))) else (impl_Bridge_react.l1 k x7 aV aW (wrap64 (aX + 1)) aA aC aE aG aH aI aJ aK aN aQ)
end
def impl_Bridge_react.f (k : Nat) (aH : Int) (aC : List (S79)) (aE aA aI aJ aK aN aQ : Int) (aG : Bool) : Option ((List (S151)) × (List (S79))) := (impl_Port.f aC).bind fun aT => (if 0 ≤ aA then (if aA < (aC.length : Int) then (if aE = 1 then ((impl_Claim.f k ((rd_T79 aC aA).f0) ((rd_T79 aC aA).f1) ((rd_T79 aC aA).f2.f0) ((rd_T79 aC aA).f2.f1) ((rd_T79 aC aA).f2.f2) ((rd_T79 aC aA).f2.f3) ((rd_T79 aC aA).f3) ((rd_T79 aC aA).f4) ((rd_T79 aC aA).f5) ((rd_T79 aC aA).f6) ((rd_T79 aC aA).f7) aI aJ aK aN aQ).bind fun aD => (impl_Bridge_react.j0 k aT aH (aC.set (aA : Int).toNat (⟨aD.1, aD.2.1, (⟨aD.2.2.1, aD.2.2.2.1, aD.2.2.2.2.1, aD.2.2.2.2.2.1⟩ : S73), aD.2.2.2.2.2.2.1, aD.2.2.2.2.2.2.2.1, aD.2.2.2.2.2.2.2.2.1, aD.2.2.2.2.2.2.2.2.2.1, aD.2.2.2.2.2.2.2.2.2.2⟩ : S79)) aE aA aI aJ aK aN aQ aG)) else (if aE = 2 then ((impl_Bridge_tick.f k aH aC).bind fun aW => (impl_Bridge_react.j0 k aT aH aW aE aA aI aJ aK aN aQ aG)) else (if aE = 3 then (if (((rd_T79 aC aA).f0) == aG) = true then (some (([] : List (S151)), aC)) else ((some (aC.set (aA : Int).toNat (⟨false, false, (⟨0, 0, 0, 0⟩ : S73), 0, 0, 0, 0, false⟩ : S79) : List (S79))).bind fun aV => (if aG = true then (impl_Bridge_react.j0 k aT aH (aV.set (aA : Int).toNat (⟨true, false, (⟨0, 0, 0, 0⟩ : S73), 0, 0, 3, 0, false⟩ : S79)) aE aA aI aJ aK aN aQ aG) else (impl_Bridge_react.j0 k aT aH aV aE aA aI aJ aK aN aQ aG)))) else (impl_Bridge_react.j0 k aT aH aC aE aA aI aJ aK aN aQ aG)))) else (none)) else (none))
theorem impl_Bridge_react.mono_l : ∀ k, (∀ y0 y1 y2 y3 y4 y5 y6 y7 y8 y9 aA, LeO (impl_Bridge_react.j0 k y0 y1 y2 y3 y4 y5 y6 y7 y8 y9 aA) (impl_Bridge_react.j0 (k + 1) y0 y1 y2 y3 y4 y5 y6 y7 y8 y9 aA)) ∧ (∀ y0 y1 y2 y3 y4 y5 y6 y7 y8 y9 aA aC aD aE aG, LeO (impl_Bridge_react.l0 k y0 y1 y2 y3 y4 y5 y6 y7 y8 y9 aA aC aD aE aG) (impl_Bridge_react.l0 (k + 1) y0 y1 y2 y3 y4 y5 y6 y7 y8 y9 aA aC aD aE aG)) ∧ (∀ y0 y1 y2 y3 y4 y5 y6 y7 y8 y9 aA aC aD aE, LeO (impl_Bridge_react.l1 k y0 y1 y2 y3 y4 y5 y6 y7 y8 y9 aA aC aD aE) (impl_Bridge_react.l1 (k + 1) y0 y1 y2 y3 y4 y5 y6 y7 y8 y9 aA aC aD aE)) ∧ (∀ y0 y1 y2 y3 y4 y5 y6 y7 y8 y9 aA aC aD aE aG aH, LeO (impl_Bridge_react.j3 k y0 y1 y2 y3 y4 y5 y6 y7 y8 y9 aA aC aD aE aG aH) (impl_Bridge_react.j3 (k + 1) y0 y1 y2 y3 y4 y5 y6 y7 y8 y9 aA aC aD aE aG aH))
 | 0 => by refine ⟨?_, ?_, ?_, ?_⟩ <;> intros <;> intro r h <;> simp [impl_Bridge_react.j0, impl_Bridge_react.l0, impl_Bridge_react.l1, impl_Bridge_react.j3] at h
 | k + 1 => by
  obtain ⟨ih0, ih1, ih2, ih3⟩ := impl_Bridge_react.mono_l k
  refine ⟨?_, ?_, ?_, ?_⟩
  ·intro y0 y1 y2 y3 y4 y5 y6 y7 y8 y9 aA
   unfold impl_Bridge_react.j0
   repeat' first|(with_reducible first|apply ih0|apply ih1|apply ih2|apply ih3|apply impl_Bridge_decide.mono|apply impl_Bridge_hops.mono|apply impl_Bridge_own.mono|apply impl_Bridge_tick.mono|apply impl_Claim.mono|exact lR _|exact lN _|refine lI ?_ ?_|refine lB ?_ fun _ => ?_)|exact lN _|refine lI ?_ ?_|refine lB ?_ fun _ => ?_
  ·intro y0 y1 y2 y3 y4 y5 y6 y7 y8 y9 aA aC aD aE aG
   unfold impl_Bridge_react.l0
   repeat' first|(with_reducible first|apply ih0|apply ih1|apply ih2|apply ih3|apply impl_Bridge_decide.mono|apply impl_Bridge_hops.mono|apply impl_Bridge_own.mono|apply impl_Bridge_tick.mono|apply impl_Claim.mono|exact lR _|exact lN _|refine lI ?_ ?_|refine lB ?_ fun _ => ?_)|exact lN _|refine lI ?_ ?_|refine lB ?_ fun _ => ?_
  ·intro y0 y1 y2 y3 y4 y5 y6 y7 y8 y9 aA aC aD aE
   unfold impl_Bridge_react.l1
   repeat' first|(with_reducible first|apply ih0|apply ih1|apply ih2|apply ih3|apply impl_Bridge_decide.mono|apply impl_Bridge_hops.mono|apply impl_Bridge_own.mono|apply impl_Bridge_tick.mono|apply impl_Claim.mono|exact lR _|exact lN _|refine lI ?_ ?_|refine lB ?_ fun _ => ?_)|exact lN _|refine lI ?_ ?_|refine lB ?_ fun _ => ?_
  ·intro y0 y1 y2 y3 y4 y5 y6 y7 y8 y9 aA aC aD aE aG aH
   unfold impl_Bridge_react.j3
   repeat' first|(with_reducible first|apply ih0|apply ih1|apply ih2|apply ih3|apply impl_Bridge_decide.mono|apply impl_Bridge_hops.mono|apply impl_Bridge_own.mono|apply impl_Bridge_tick.mono|apply impl_Claim.mono|exact lR _|exact lN _|refine lI ?_ ?_|refine lB ?_ fun _ => ?_)|exact lN _|refine lI ?_ ?_|refine lB ?_ fun _ => ?_
theorem impl_Bridge_react.mono : ∀ a0 a1 a2 a3 a4 a5 a6 a7 a8 a9 k, LeO (impl_Bridge_react.f k a0 a1 a2 a3 a4 a5 a6 a7 a8 a9) (impl_Bridge_react.f (k + 1) a0 a1 a2 a3 a4 a5 a6 a7 a8 a9) := by
 intro a0 a1 a2 a3 a4 a5 a6 a7 a8 a9 k
 obtain ⟨ih0, ih1, ih2, ih3⟩ := impl_Bridge_react.mono_l k
 unfold impl_Bridge_react.f
 repeat' first|(with_reducible first|apply ih0|apply ih1|apply ih2|apply ih3|apply impl_Bridge_decide.mono|apply impl_Bridge_hops.mono|apply impl_Bridge_own.mono|apply impl_Bridge_tick.mono|apply impl_Claim.mono|exact lR _|exact lN _|refine lI ?_ ?_|refine lB ?_ fun _ => ?_)|exact lN _|refine lI ?_ ?_|refine lB ?_ fun _ => ?_
def impl_Bridge_react.T2 : Bool × List (List Nat × List Nat) := (true, [([], []), ([0], [0]), ([1], [1]), ([2], [2]), ([], []), ([4], [4]), ([3, 5], [3, 5]), ([6, 0, 1, 2, 3, 4, 5, 6], [6])])
def impl_Bridge_react.B2 : List Nat := [0, 1, 3, 7, 0, 16, 63, 127]
theorem impl_Bridge_react.tab2 : rtab .any (opsOf Try.f131 2) = impl_Bridge_react.T2 := by kernel_rfl
theorem impl_Bridge_react.bits2 : waitsOk impl_Bridge_react.T2.2 impl_Bridge_react.B2 = true := by kernel_rfl
def impl_Bridge_react.T5 : Bool × List (List Nat × List Nat) := (true, [([], []), ([], []), ([1], [1]), ([2], [2]), ([], []), ([4], [4]), ([], []), ([6], [6]), ([3, 5, 7], [3, 5, 7]), ([0, 0, 1, 2, 3, 4, 5, 6, 7, 8], [0]), ([9, 8, 8, 0, 1, 2, 3, 4, 5, 6, 7, 8], [8, 9])])
def impl_Bridge_react.B5 : List Nat := [0, 0, 2, 6, 0, 16, 0, 64, 254, 511, 1023]
theorem impl_Bridge_react.tab5 : rtab .any (opsOf Try.f131 5) = impl_Bridge_react.T5 := by kernel_rfl
theorem impl_Bridge_react.bits5 : waitsOk impl_Bridge_react.T5.2 impl_Bridge_react.B5 = true := by kernel_rfl
def impl_Bridge_react.T19 : Bool × List (List Nat × List Nat) := (true, [([], []), ([0], [0]), ([], []), ([], []), ([2, 3], [2, 3]), ([4], [4]), ([5], [5]), ([1, 6], [1, 6])])
def impl_Bridge_react.B19 : List Nat := [0, 1, 0, 0, 12, 28, 60, 127]
theorem impl_Bridge_react.tab19 : rtab .any (opsOf Try.f131 19) = impl_Bridge_react.T19 := by kernel_rfl
theorem impl_Bridge_react.bits19 : waitsOk impl_Bridge_react.T19.2 impl_Bridge_react.B19 = true := by kernel_rfl
set_option maxHeartbeats 60000000 in
set_option maxRecDepth 100000 in
theorem impl_Bridge_react.calls (k : Nat) (cQ : Int) (P0_1_ : Nat → Prop) (eY : Value) (aN : List (S79)) (bA aE bM bN bO bP bQ : Int) (bG : Bool) (r1 : List (S151)) (r2 : List (S79)) (w0 w : World) (gb : Nat) (hBK : w.heap[gb]? = some (.cells #[cQ, eY] 28 (0, 0))) (hgb : ¬ P0_1_ gb) (hB : Below w0.heap.size w0 w) (ho0_1 : Kd.R k79 79 w w0.heap.size P0_1_ eY aN) (h : impl_Bridge_react.f k cQ aN bA aE bM bN bO bP bQ bG = some (r1, r2)) :
  Calls Try.prog 131 #[.pointer (some ⟨gb, 0, none⟩), .agg #[bA, aE, bM, bN, bO, bP, bQ, bG]] w fun e w' => ∃ oK : Value, e = .returned (oK) ∧ Kd.R k151 151 w' w0.heap.size (fun k_ => (P0_1_ k_ ∨ w.heap.size ≤ k_)) oK r1 ∧ Kd.R k79 79 w' w0.heap.size (fun k_ => (P0_1_ k_ ∨ w.heap.size ≤ k_)) eY r2 ∧ Below w0.heap.size w0 w' ∧ Kept w w' (fun k_ => P0_1_ k_) := by
 have yM := Try.underlying28
 have yN := Try.underlying89
 have yO := Try.underlying79
 have yP := Try.underlying73
 have vX := Try.underlying151
 have aK := aM (show Kd.R k79 79 w w0.heap.size (fun k_ => (P0_1_ k_ ∨ w.heap.size ≤ k_)) eY aN from Kd.R_mono ho0_1 (fun k_ hk => (.inl hk)))
 have HK := aM (Kept.refl w (fun k_ => P0_1_ k_))
 have HW0 := aM hB.size
 have HB := aM hB
 have HGB := aM hgb
 clear hgb
 clear hB
 have H : ((impl_Port.f aN).bind fun dB => (if 0 ≤ aE then (if aE < (aN.length : Int) then (if bA = 1 then ((impl_Claim.f k ((rd_T79 aN aE).f0) ((rd_T79 aN aE).f1) ((rd_T79 aN aE).f2.f0) ((rd_T79 aN aE).f2.f1) ((rd_T79 aN aE).f2.f2) ((rd_T79 aN aE).f2.f3) ((rd_T79 aN aE).f3) ((rd_T79 aN aE).f4) ((rd_T79 aN aE).f5) ((rd_T79 aN aE).f6) ((rd_T79 aN aE).f7) bM bN bO bP bQ).bind fun dC => (impl_Bridge_react.j0 k dB cQ (aN.set (aE : Int).toNat (⟨dC.1, dC.2.1, (⟨dC.2.2.1, dC.2.2.2.1, dC.2.2.2.2.1, dC.2.2.2.2.2.1⟩ : S73), dC.2.2.2.2.2.2.1, dC.2.2.2.2.2.2.2.1, dC.2.2.2.2.2.2.2.2.1, dC.2.2.2.2.2.2.2.2.2.1, dC.2.2.2.2.2.2.2.2.2.2⟩ : S79)) bA aE bM bN bO bP bQ bG)) else (if bA = 2 then ((impl_Bridge_tick.f k cQ aN).bind fun iM => (impl_Bridge_react.j0 k dB cQ iM bA aE bM bN bO bP bQ bG)) else (if bA = 3 then (if (((rd_T79 aN aE).f0) == bG) = true then (some (([] : List (S151)), aN)) else ((some (aN.set (aE : Int).toNat (⟨false, false, (⟨0, 0, 0, 0⟩ : S73), 0, 0, 0, 0, false⟩ : S79) : List (S79))).bind fun dX => (if bG = true then (impl_Bridge_react.j0 k dB cQ (dX.set (aE : Int).toNat (⟨true, false, (⟨0, 0, 0, 0⟩ : S73), 0, 0, 3, 0, false⟩ : S79)) bA aE bM bN bO bP bQ bG) else (impl_Bridge_react.j0 k dB cQ dX bA aE bM bN bO bP bQ bG)))) else (impl_Bridge_react.j0 k dB cQ aN bA aE bM bN bO bP bQ bG)))) else (none)) else (none))) = some (r1, r2) := h
 clear h
 obtain ⟨dB, oL, H⟩ := hB H
 have A3 := aM oL
 clear oL
 obtain ⟨yQ, H⟩ := gI H
 obtain ⟨yR, H⟩ := gI H
 have lC := aM H
 clear H
 obtain ⟨qX, bL, qY⟩ := Kd.R_slice aK.out
 subst qY
 go_enter Try.func131, Try.ntmps131
 have aI := aM hBK
 clear hBK
 try go_wp2_with (first | ((with_reducible refine gD (N := 3) rfl ?_); refine bR aK (N := 3) (cs := #[bA, aE, bM, bN, bO, bP, bQ, bG]) (t := 89) ?_; intro dD hg w9 hbox hb; have aD := aM (hbox); have nQ := gE hg (kk HK.out).1; have vY := gF hg HB; have bV := nM hg aI; have bW := nH hg aI; replace aK := rK aK hb; replace aI := rB aI hb; replace HK := aM (Kept.below (S := (fun k_ => P0_1_ k_)) (kk HK.out) hb); replace HB := rS HB hb; clear hb hbox hg; have vZ := bV.out; have wA := bW.out; have wB := cA2 aI.out) | ((with_reducible refine gC (f := 144) rfl ?_); refine gL (some 16) Try.func144 #[.slice qX aN.length bL] ?_; (with_reducible refine (impl_Port.calls _ _ aN dB _ ?side1 ?side2 A3.out).mono ?_); (case side1 => exact cM ((Kd.R_reads' aK.out).2.2)); (case side2 => exact (Kd.R_reads' aK.out).2.1); rintro e qZ ⟨cR, rfl, ho0, hb⟩; refine ⟨_, rfl, ?_⟩; have bD := aM (Kd.R_lower (Kd.R_new' (Kd.R_newM (M := fun k_ => (P0_1_ k_ ∨ w.heap.size ≤ k_)) ho0 (kk HK.out).1 (fun k_ h_ => .inr h_)) (Kd.R_lt (kr aK.out))) (below_size (bl HB.out))); replace aK := aM (Kd.R_elder' (kr aK.out) (Kd.R_base ho0) hb); replace aI := rB aI hb; replace aD := rB aD hb; replace HK := aM (Kept.below (S := (fun k_ => P0_1_ k_)) (kk HK.out) hb); replace HB := rS HB hb; (repeat first|clear hb|clear ho0)))
 replace aK := aM (Kd.R_drew aK.out)
 replace bD := aM (Kd.R_drew bD.out)
 replace aI := aM (blk_drew aI.out)
 replace aD := aM (blk_drew aD.out)
 replace HK := aM (Kept.drew HK.out)
 replace HB := aM (below_drew1 HB.out)
 have jG : 0 ≤ (aE : Int) := dT
 have jH : aE < (aN.length : Int) := dT
 obtain ⟨aV, oP, fP, fQ, fS, fT, fU, fV, fW, fX, fY, gA, eW⟩ := at_T79 (Kd.R_reads' aK.out).2.2 aE jG jH
 cases oP
 replace jG := eq_true jG
 replace jH := eq_true jH
 refine start_ (n := 8) (S := fun w' => cT2 w' gb (.int .i64 cQ) (.slice (some aV) aN.length bL) (cT8 w' dD (.int .i64 bA) (.int .i64 aE) (.int .i64 bM) (.int .i64 bN) (.int .i64 bO) (.int .i64 bP) (.int .i64 bQ) (.bool bG) (cE79 w' aV (aE).toNat (rd_T79 aN aE)))) (ds := []) (dn 8 0) (by kernel_rfl) rfl rfl ⟨cI aI.out 0, cI aI.out 1, cI aD.out 0, cI aD.out 1, cI aD.out 2, cI aD.out 3, cI aD.out 4, cI aD.out 5, cI aD.out 6, cI aD.out 7, fP, fQ, fS, fT, fU, fV, fW, fX, fY, gA, eW⟩ (fun hHeld => ?_); refine with_tabW impl_Bridge_react.tab2 impl_Bridge_react.bits2 (fun HT_ HW_ => ?_)
 generalize qZ.drew = jU at aK bD aI aD HK HB fP fQ eW fS fT fU fV fW fX fY gA hHeld ⊢
 refine nY (N := some 17) HT_ ?_
 refine nY (N := some 18) HT_ ?_
 refine nY (N := some 19) HT_ ?_
 refine pZ 4 21 (bv 8 23) HT_ ?_
 refine aZ 3 20 (bv 8 31) HT_ HW_ hHeld ?_
 refine aZ 5 22 (bv 8 63) HT_ HW_ hHeld ?_
 refine pZ 6 23 (bv 8 127) HT_ ?_
 refine pZ 7 6 (bv 8 255) HT_ ?_
 refine done_ (done_of HT_.out (by kernel_rfl)) ?_
 have wC := cA8 aD.out
 go_upto_block 0 with (fail)
 go_cut [6] (fun v6_ wc => ∃ (kq : Nat) (bZ : List (S79)) (bT : Int) (bH : List (S79)), Aside0 (impl_Bridge_react.j0 kq bZ bT bH bA aE bM bN bO bP bQ bG = some (r1, r2)) ∧ Aside0 (kq ≤ k) ∧ Aside0 (Kd.R k79 79 wc w0.heap.size (fun k_ => (P0_1_ k_ ∨ w.heap.size ≤ k_) ∧ some k_ ≠ ((.slice (some aV) aN.length bL) : Value).ownBlock) cR bZ) ∧ Aside0 (Kd.R k79 79 wc w0.heap.size (fun k_ => (P0_1_ k_ ∨ w.heap.size ≤ k_) ∧ some k_ ≠ (cR : Value).ownBlock) (.slice (some aV) aN.length bL) bH) ∧ Aside0 (wc.heap[gb]? = some (.cells #[bT, (.slice (some aV) aN.length bL)] 28 (0, 0))) ∧ Aside0 (wc.heap[dD]? = some (.cells #[bA, aE, bM, bN, bO, bP, bQ, bG] 89 (0, 0))) ∧ Aside0 (Kept w wc (fun k_ => P0_1_ k_)) ∧ Aside0 (Below w0.heap.size w0 wc))
 case first =>
  have H := lC.out
  clear lC
  by_cases eD : bA = 1
  case pos =>
   rw [if_pos eD] at H
   have dF : (bA == 1) = true := beq_iff_eq.mpr eD
   have eZ : (bA != 1) = false := bne_eq_false_iff_eq.mpr eD
   clear eD
   (first | rw [dF] | (simp only [i64_w, i32_w]; rw [dF]) | skip)
   obtain ⟨⟨gU, gV, gW, gX, gY, gZ, hD, hH, hJ, hO, hU⟩, lD, H⟩ := hB H
   try dsimp only at H
   have rA := aM lD
   clear lD
   obtain ⟨lE, fA⟩ : ∃ y_ : List (S79), y_ = (aN.set (aE : Int).toNat (⟨gU, gV, (⟨gW, gX, gY, gZ⟩ : S73), hD, hH, hJ, hO, hU⟩ : S79)) := ⟨_, rfl⟩
   replace H : (impl_Bridge_react.j0 k dB cQ lE bA aE bM bN bO bP bQ bG) = some (r1, r2) := by first | (rw [fA]; with_reducible exact H) | (have H2_ := (Option.bind_some _ _).symm.trans H; rw [fA]; with_reducible exact H2_) | (have H2_ := (Option.bind_some _ _).symm.trans H; with_reducible exact H2_) | with_reducible exact H | (rw [fA]; exact H) | exact H
   have nR := aM fA
   clear fA
   have H' := aM H
   clear H
   try go_wp2
   replace aK := aM (Kd.R_drew aK.out)
   replace bD := aM (Kd.R_drew bD.out)
   replace aI := aM (blk_drew aI.out)
   replace aD := aM (blk_drew aD.out)
   replace HK := aM (Kept.drew HK.out)
   replace HB := aM (below_drew1 HB.out)
   have jI : 0 ≤ (aE : Int) := dT
   have jJ : aE < (aN.length : Int) := dT
   obtain ⟨nS, oQ, gB, gG, gH, gJ, gK, gM, gN, gO, gP, gQ, eX⟩ := at_T79 (Kd.R_reads' aK.out).2.2 aE jI jJ
   obtain rfl : aV = nS := (by injection oQ)
   replace jI := eq_true jI
   replace jJ := eq_true jJ
   refine start_ (n := 11) (S := fun w' => cT8 w' dD (.int .i64 bA) (.int .i64 aE) (.int .i64 bM) (.int .i64 bN) (.int .i64 bO) (.int .i64 bP) (.int .i64 bQ) (.bool bG) (cE79 w' aV (aE).toNat (rd_T79 aN aE))) (ds := [10]) (dn 11 0) (by kernel_rfl) rfl rfl ⟨cI aD.out 0, cI aD.out 1, cI aD.out 2, cI aD.out 3, cI aD.out 4, cI aD.out 5, cI aD.out 6, cI aD.out 7, gB, gG, gH, gJ, gK, gM, gN, gO, gP, gQ, eX⟩ (fun hHeld => ?_); refine with_tabW impl_Bridge_react.tab5 impl_Bridge_react.bits5 (fun HT_ HW_ => ?_)
   generalize jU.drew = zJ at aK bD aI aD HK HB gB gG eX gH gJ gK gM gN gO gP gQ hHeld ⊢
   refine nY (N := some 28) HT_ ?_
   refine nY (N := some 29) HT_ ?_
   refine nY (N := some 30) HT_ ?_
   refine pZ 4 32 (bv 11 23) HT_ ?_
   refine pZ 6 34 (bv 11 87) HT_ ?_
   refine aZ 3 31 (bv 11 95) HT_ HW_ hHeld ?_
   refine aZ 5 33 (bv 11 127) HT_ HW_ hHeld ?_
   refine aZ 7 35 (bv 11 255) HT_ HW_ hHeld ?_
   refine one_ (i := 8) (N := some 36) (bv 11 511) rfl rfl (one_of HT_.out (by kernel_rfl)) (by decide) (fun K hK => ?_)
   refine goes_ Try.func183 (by kernel_rfl) rfl #[.agg #[((rd_T79 aN aE).f0), ((rd_T79 aN aE).f1), ((rd_T79 aN aE).f2.f0), ((rd_T79 aN aE).f2.f1), ((rd_T79 aN aE).f2.f2), ((rd_T79 aN aE).f2.f3), ((rd_T79 aN aE).f3), ((rd_T79 aN aE).f4), ((rd_T79 aN aE).f5), ((rd_T79 aN aE).f6), ((rd_T79 aN aE).f7)], .agg #[bM, bN, bO, bP], bQ] (by rfl) rfl rfl xR ?_
   with_reducible refine (impl_Claim.calls k ((rd_T79 aN aE).f0) ((rd_T79 aN aE).f1) ((rd_T79 aN aE).f2.f0) ((rd_T79 aN aE).f2.f1) ((rd_T79 aN aE).f2.f2) ((rd_T79 aN aE).f2.f3) ((rd_T79 aN aE).f3) ((rd_T79 aN aE).f4) ((rd_T79 aN aE).f5) ((rd_T79 aN aE).f6) ((rd_T79 aN aE).f7) bM bN bO bP bQ gU gV gW gX gY gZ hD hH hJ hO hU _ rA.out).mono ?_
   rintro e zK ⟨rfl, hb⟩
   have HS8_ := (hb.cell (World.block_lt_of_cell? _ _ (hHeld.2.2.2.2.2.2.2.2.1))).trans (hHeld.2.2.2.2.2.2.2.2.1)
   have HS9_ := (hb.cell (World.block_lt_of_cell? _ _ (hHeld.2.2.2.2.2.2.2.2.2.1))).trans (hHeld.2.2.2.2.2.2.2.2.2.1)
   have HS10_ := (hb.cell (World.block_lt_of_cell? _ _ (hHeld.2.2.2.2.2.2.2.2.2.2.1))).trans (hHeld.2.2.2.2.2.2.2.2.2.2.1)
   have HS11_ := (hb.cell (World.block_lt_of_cell? _ _ (hHeld.2.2.2.2.2.2.2.2.2.2.2.1))).trans (hHeld.2.2.2.2.2.2.2.2.2.2.2.1)
   have HS12_ := (hb.cell (World.block_lt_of_cell? _ _ (hHeld.2.2.2.2.2.2.2.2.2.2.2.2.1))).trans (hHeld.2.2.2.2.2.2.2.2.2.2.2.2.1)
   have HS13_ := (hb.cell (World.block_lt_of_cell? _ _ (hHeld.2.2.2.2.2.2.2.2.2.2.2.2.2.1))).trans (hHeld.2.2.2.2.2.2.2.2.2.2.2.2.2.1)
   have HS14_ := (hb.cell (World.block_lt_of_cell? _ _ (hHeld.2.2.2.2.2.2.2.2.2.2.2.2.2.2.1))).trans (hHeld.2.2.2.2.2.2.2.2.2.2.2.2.2.2.1)
   have HS15_ := (hb.cell (World.block_lt_of_cell? _ _ (hHeld.2.2.2.2.2.2.2.2.2.2.2.2.2.2.2.1))).trans (hHeld.2.2.2.2.2.2.2.2.2.2.2.2.2.2.2.1)
   have HS16_ := (hb.cell (World.block_lt_of_cell? _ _ (hHeld.2.2.2.2.2.2.2.2.2.2.2.2.2.2.2.2.1))).trans (hHeld.2.2.2.2.2.2.2.2.2.2.2.2.2.2.2.2.1)
   have HS17_ := (hb.cell (World.block_lt_of_cell? _ _ (hHeld.2.2.2.2.2.2.2.2.2.2.2.2.2.2.2.2.2.1))).trans (hHeld.2.2.2.2.2.2.2.2.2.2.2.2.2.2.2.2.2.1)
   have HS18_ := (hb.cell (World.block_lt_of_cell? _ _ (hHeld.2.2.2.2.2.2.2.2.2.2.2.2.2.2.2.2.2.2))).trans (hHeld.2.2.2.2.2.2.2.2.2.2.2.2.2.2.2.2.2.2)
   refine ⟨_, rfl, ?_⟩
   replace aK := rK aK hb
   replace bD := rK bD hb
   replace aI := rB aI hb
   replace aD := rB aD hb
   replace HK := aM (Kept.below (S := (fun k_ => P0_1_ k_)) (kk HK.out) hb)
   replace HB := rS HB hb
   (try clear hb)
   (try clear hb2)
   (try clear hk)
   (try clear hi)
   have eE : 0 ≤ (aE : Int) := dT
   have eF : (aE : Int) < ((aN.length : Int) : Int) := dT
   obtain ⟨dE, yS, lF, lG, oR, yT, lH⟩ := Kd.R_form aK.out (by omega)
   (first | cases lF | (injection lF with ea_ en_ ec_; (first | subst ea_ | (injection ea_ with ea_; subst ea_)); subst ec_; clear en_))
   have yU := aM lG
   have yV := aM lH
   clear lG oR lH
   have HMgo17 := aM (show (P0_1_ dE ∨ w.heap.size ≤ dE) from (aK.out.1 _ rfl).1)
   (first | simp only [add_plain] at fP | skip)
   (first | simp only [add_plain] at fQ | skip)
   (first | simp only [add_plain] at fS | skip)
   (first | simp only [add_plain] at fT | skip)
   (first | simp only [add_plain] at fU | skip)
   (first | simp only [add_plain] at fV | skip)
   (first | simp only [add_plain] at fW | skip)
   (first | simp only [add_plain] at fX | skip)
   (first | simp only [add_plain] at fY | skip)
   (first | simp only [add_plain] at gA | skip)
   (first | simp only [add_plain] at eW | skip)
   (first | simp only [add_plain] at gB | skip)
   (first | simp only [add_plain] at gG | skip)
   (first | simp only [add_plain] at gH | skip)
   (first | simp only [add_plain] at gJ | skip)
   (first | simp only [add_plain] at gK | skip)
   (first | simp only [add_plain] at gM | skip)
   (first | simp only [add_plain] at gN | skip)
   (first | simp only [add_plain] at gO | skip)
   (first | simp only [add_plain] at gP | skip)
   (first | simp only [add_plain] at gQ | skip)
   (first | simp only [add_plain] at eX | skip)
   obtain ⟨yW, nT, lJ, jV, jW⟩ := Kd.R_elem aK.out z79 (aE : Int) eE eF
   obtain rfl := k79_openM lJ
   obtain ⟨rC, rD, rE, rF, rG, rH, rI, rJ, rL, rM, pB, rN, rO, rQ, rR, rT, rV, rW, rX, rY, rZ, pC⟩ := eS79 (rd_T79 aN aE) jV jW
   clear nT jV jW lJ
   replace eE := eq_true eE
   replace eF := eq_true eF
   obtain ⟨yX, jX, lK, jY, nV⟩ := Kd.R_elem aK.out z79 (aE : Int) (dT) dT
   obtain rfl := k79_openM lK
   have jK := (Kd.R_seg aK.out (aE : Int) (dT) dT (seg := [.bool gU, .bool gV, .int .i64 gW, .int .i64 gX, .int .i64 gY, .int .i64 gZ, .int .i64 hD, .int .i64 hH, .int .i64 hJ, .int .i64 hO, .bool hU]) (j := 0) jX jY (show 11 ≤ 11 from by decide) (x' := (⟨gU, gV, (⟨gW, gX, gY, gZ⟩ : S73), hD, hH, hJ, hO, hU⟩ : S79)) (k79_mkM _ _ _ _) (fun _ hk => hk)).1
   rw [← nR.out] at jK
   have HQ20 := aM jK
   clear jX jY nV lK jK
   refine hK.out _ _ ⟨cI aD.out 0, cI aD.out 1, cI aD.out 2, cI aD.out 3, cI aD.out 4, cI aD.out 5, cI aD.out 6, cI aD.out 7, HS8_, HS9_, HS10_, HS11_, HS12_, HS13_, HS14_, HS15_, HS16_, HS17_, HS18_⟩ (fun hHeld => ?_)
   clear hK K
   refine norm_ (a' := ?_) ?_ ?_
   rotate_left
   ·show Act.put _ (some 36) _ = _
    simp only [Act.put, sA, sZ, sS, i64_w, i32_w]
    rfl
   refine pZ 9 37 (bv 11 1023) HT_ ?_
   refine last_ (i := 10) (N := none) (bv 11 2047) rfl rfl (one_of HT_.out (by kernel_rfl)) (by decide) (fun K hK => ?_)
   refine skip_ (w1 := ?_) (by rfl) rfl ?_ ?_
   rotate_left
   ·go_simp
    rfl
   refine hK.out _ _ ?_
   clear hK K
   refine done_ (done_of HT_.out (by kernel_rfl)) ?_
   try go_wp2
   go_meet
   case rel => exact ⟨_, (dB), (cQ), (lE), H', ⟨by first | omega | exact Nat.le_refl _⟩, ⟨kr (Kd.R_mono (kF (p := ⟨dE, (aE : Int).toNat * 11 + 10, none⟩) (kF (p := ⟨dE, (aE : Int).toNat * 11 + 9, none⟩) (kF (p := ⟨dE, (aE : Int).toNat * 11 + 8, none⟩) (kF (p := ⟨dE, (aE : Int).toNat * 11 + 7, none⟩) (kF (p := ⟨dE, (aE : Int).toNat * 11 + 6, none⟩) (kF (p := ⟨dE, (aE : Int).toNat * 11 + 5, none⟩) (kF (p := ⟨dE, (aE : Int).toNat * 11 + 4, none⟩) (kF (p := ⟨dE, (aE : Int).toNat * 11 + 3, none⟩) (kF (p := ⟨dE, (aE : Int).toNat * 11 + 2, none⟩) (kF (p := ⟨dE, (aE : Int).toNat * 11 + 1, none⟩) (kF (p := ⟨dE, (aE : Int).toNat * 11, none⟩) (Kd.R_mono bD.out (fun k_ hk => (⟨hk, fun e_ => hk.2 (by rw [e_]; rfl)⟩ : _ ∧ k_ ≠ dE))) (fun _ hk => hk.2) (.bool gU)) (fun _ hk => hk.2) (.bool gV)) (fun _ hk => hk.2) (.int .i64 gW)) (fun _ hk => hk.2) (.int .i64 gX)) (fun _ hk => hk.2) (.int .i64 gY)) (fun _ hk => hk.2) (.int .i64 gZ)) (fun _ hk => hk.2) (.int .i64 hD)) (fun _ hk => hk.2) (.int .i64 hH)) (fun _ hk => hk.2) (.int .i64 hJ)) (fun _ hk => hk.2) (.int .i64 hO)) (fun _ hk => hk.2) (.bool hU)) (fun _ hk => ⟨hk.1.1.1, hk.1.2⟩))⟩, ⟨kr HQ20.out⟩, ⟨fR aK.out aI.out⟩, ⟨fR aK.out aD.out⟩, ⟨by repeat (first | (with_reducible first | exact HK.out | apply Kept.alloc | apply Kept.drewN | apply Kept.drew | refine Kept.setCell ?_ HMgo17.out _ | refine Kept.setCell ?_ HMgo17.out _ | refine Kept.setCell ?_ HMgo17.out _ | refine Kept.setCell ?_ HMgo17.out _ | refine Kept.setCell ?_ HMgo17.out _ | refine Kept.setCell ?_ HMgo17.out _ | refine Kept.setCell ?_ HMgo17.out _ | refine Kept.setCell ?_ HMgo17.out _ | refine Kept.setCell ?_ HMgo17.out _ | refine Kept.setCell ?_ HMgo17.out _ | refine Kept.setCell ?_ HMgo17.out _ | refine Kept.setCell ?_ (.inr wD.out) _ | refine Kept.setCell ?_ (.inr nQ.out) _) | exact HK.out)⟩, ⟨bl HB.out⟩⟩
  rw [if_neg eD] at H
  have dF : (bA == 1) = false := beq_eq_false_iff_ne.mpr eD
  have eZ : (bA != 1) = true := bne_iff_ne.mpr eD
  (first | rw [dF] | (simp only [i64_w, i32_w]; rw [dF]) | skip)
  by_cases eG : bA = 2
  case pos =>
   rw [if_pos eG] at H
   have fB : (bA == 2) = true := beq_iff_eq.mpr eG
   have fC : (bA != 2) = false := bne_eq_false_iff_eq.mpr eG
   clear eG
   obtain ⟨iM, lL, H⟩ := hB H
   have sB := aM lL
   clear lL
   have H' := aM H
   clear H
   have wE := bV.out
   have wF := bW.out
   have wG := cA2 aI.out
   go_wp2_with (first | ((with_reducible refine gC (f := 184) rfl ?_); refine gL (some 41) Try.func184 #[.pointer (some ⟨gb, 0, none⟩)] ?_; (with_reducible refine (impl_Bridge_tick.calls (gb := gb) (hBK := (bk aI.out)) (hgb := ?hgb) k cQ (fun k_ => some k_ = (.slice (some aV) aN.length bL : Value).ownBlock) (.slice (some aV) aN.length bL) aN iM w0 _ ?side1 ?side2 sB.out).mono ?_); (case hgb => exact (fun hs_ => (fun e_ => (Kd.R_ne aK.out aI.out (by decide)) e_) hs_)); (case side1 => exact bl HB.out); (case side2 => exact Kd.R_tight rfl aK.out); rintro e zL ⟨rfl, iW, hb, hkp⟩; refine ⟨_, rfl, ?_⟩; replace aI := aM (blk_kept (bk aI.out) hkp (fun hs_ => (fun e_ => (Kd.R_ne aK.out aI.out (by decide)) e_) hs_)); replace aD := aM (blk_kept (bk aD.out) hkp (fun hs_ => (fun e_ => (Kd.R_ne aK.out aD.out (by decide)) e_) hs_)); replace bD := aM (Kd.R_mono (ok' := fun k_ => (P0_1_ k_ ∨ w.heap.size ≤ k_) ∧ some k_ ≠ (.slice (some aV) aN.length bL : Value).ownBlock) (Kd.R_keptB (bD.out) hkp (fun k_ hk_ hs_ => (hk_.2) hs_)) (fun k_ hk_ => ⟨hk_.1.1.1, hk_.1.2⟩)); replace HK := aM (Kept.then_ (S := (fun k_ => P0_1_ k_)) (kk HK.out) hkp (fun k_ hs_ => (fun e_ => (aK.out.1 k_ e_.symm).1) hs_)); replace aK := aM (Kd.R_reok rfl iW (fun k_ e_ => aK.out.1 k_ e_)); replace HB := aM (hb); (repeat first|clear hb|clear hkp|clear iW)))
   go_meet
   case rel => exact ⟨_, (dB), (cQ), (iM), H', ⟨by first | omega | exact Nat.le_refl _⟩, ⟨kr bD.out⟩, ⟨kr aK.out⟩, ⟨bk aI.out⟩, ⟨bk aD.out⟩, ⟨kk HK.out⟩, ⟨bl HB.out⟩⟩
  rw [if_neg eG] at H
  have fB : (bA == 2) = false := beq_eq_false_iff_ne.mpr eG
  have fC : (bA != 2) = true := bne_iff_ne.mpr eG
  by_cases eH : bA = 3
  case neg =>
   rw [if_neg eH] at H
   have fD : (bA == 3) = false := beq_eq_false_iff_ne.mpr eH
   have fE : (bA != 3) = true := bne_iff_ne.mpr eH
   have H' := aM H
   clear H
   go_wp2
   go_meet
   case rel => exact ⟨_, (dB), (cQ), (aN), H', ⟨by first | omega | exact Nat.le_refl _⟩, ⟨kr (Kd.R_mono bD.out (fun _ hk => ⟨hk.1.1, hk.2⟩))⟩, ⟨kr aK.out⟩, ⟨bk aI.out⟩, ⟨bk aD.out⟩, ⟨kk HK.out⟩, ⟨bl HB.out⟩⟩
  rw [if_pos eH] at H
  have fD : (bA == 3) = true := beq_iff_eq.mpr eH
  have fE : (bA != 3) = false := bne_eq_false_iff_eq.mpr eH
  clear eH
  by_cases dG : (((rd_T79 aN aE).f0) == bG) = true
  case pos =>
   rw [if_pos dG] at H
   have fF : (((rd_T79 aN aE).f0) == bG) = true := dG
   (try (have fG : decide (((rd_T79 aN aE).f0) = bG) = true := by simpa using dG))
   (try (have fH : (((rd_T79 aN aE).f0) == bG) = true := by simpa using dG))
   clear dG
   simp only [Option.some.injEq, Prod.mk.injEq] at H
   obtain ⟨rfl, rfl⟩ := H
   try go_wp2
   replace aK := aM (Kd.R_drew aK.out)
   replace bD := aM (Kd.R_drew bD.out)
   replace aI := aM (blk_drew aI.out)
   replace aD := aM (blk_drew aD.out)
   replace HK := aM (Kept.drew HK.out)
   replace HB := aM (below_drew1 HB.out)
   have cY : 0 ≤ (aE : Int) := dT
   have dA : aE < (aN.length : Int) := dT
   obtain ⟨fI, hX, cA, cC, cD, cE, cG, cH, cK, cL, cN, cO, bX⟩ := at_T79 (Kd.R_reads' aK.out).2.2 aE cY dA
   obtain rfl : aV = fI := (by injection hX)
   replace cY := eq_true cY
   replace dA := eq_true dA
   refine start_ (n := 7) (S := fun w' => cT8 w' dD (.int .i64 bA) (.int .i64 aE) (.int .i64 bM) (.int .i64 bN) (.int .i64 bO) (.int .i64 bP) (.int .i64 bQ) (.bool bG) (cE79 w' aV (aE).toNat (rd_T79 aN aE))) (ds := []) (dn 7 0) (by kernel_rfl) rfl rfl ⟨cI aD.out 0, cI aD.out 1, cI aD.out 2, cI aD.out 3, cI aD.out 4, cI aD.out 5, cI aD.out 6, cI aD.out 7, cA, cC, cD, cE, cG, cH, cK, cL, cN, cO, bX⟩ (fun hHeld => ?_)
   generalize jU.drew = zM at aK bD aI aD HK HB cA cC bX cD cE cG cH cK cL cN cO hHeld ⊢
   refine pure_ (i := 0) (N := some 44) (v := ?_) (a' := ?_) (bv 7 1) rfl rfl (by kernel_rfl) (fun _ _ _ h => h) (Or.inl ⟨by rfl, ?_⟩) ?_ ?_
   rotate_left
   ·intro w'
    go_simp
    with_reducible rfl
   rotate_left
   ·simp only [Act.put, sA, sZ, sS, i64_w, i32_w]
    rfl
   refine pure_ (i := 1) (N := some 45) (v := ?_) (a' := ?_) (bv 7 3) rfl rfl (by kernel_rfl) (fun _ _ _ h => h) (Or.inl ⟨by rfl, ?_⟩) ?_ ?_
   rotate_left
   ·intro w'
    go_simp
    with_reducible rfl
   rotate_left
   ·simp only [Act.put, sA, sZ, sS, i64_w, i32_w]
    rfl
   refine pure_ (i := 2) (N := some 46) (v := ?_) (a' := ?_) (bv 7 7) rfl rfl (by kernel_rfl) (fun _ _ _ h => h) (Or.inl ⟨by rfl, ?_⟩) ?_ ?_
   rotate_left
   ·intro w'
    go_simp
    with_reducible rfl
   rotate_left
   ·simp only [Act.put, sA, sZ, sS, i64_w, i32_w]
    rfl
   refine pure_ (i := 4) (N := some 48) (v := ?_) (a' := ?_) (bv 7 23) rfl rfl (by kernel_rfl) (fun _ _ _ h => h) (Or.inl ⟨by rfl, ?_⟩) ?_ ?_
   rotate_left
   ·intro w'
    go_simp
    with_reducible rfl
   rotate_left
   ·simp only [Act.put, sA, sZ, sS, i64_w, i32_w]
    rfl
   refine take_ (i := 3) (N := some 47) (v := ?_) (a' := ?_) (bv 7 31) rfl rfl (by kernel_rfl) (fun _ _ _ h => h) (Or.inl ⟨by rfl, ?_⟩) hHeld ?_ ?_
   rotate_left
   ·rintro w' ⟨s0, s1, s2, s3, s4, s5, s6, s7, s8, s9, iX, iY, iZ, jA, jB, jC, jD, jE, jF⟩
    go_simp
    with_reducible rfl
   rotate_left
   ·simp only [Act.put, sA, sZ, sS, i64_w, i32_w]
    rfl
   refine take_ (i := 5) (N := some 49) (v := ?_) (a' := ?_) (bv 7 63) rfl rfl (by kernel_rfl) (fun _ _ _ h => h) (Or.inl ⟨by rfl, ?_⟩) hHeld ?_ ?_
   rotate_left
   ·rintro w' ⟨s0, s1, s2, s3, s4, s5, s6, s7, s8, s9, iX, iY, iZ, jA, jB, jC, jD, jE, jF⟩
    go_simp
    with_reducible rfl
   rotate_left
   ·simp only [Act.put, sA, sZ, sS, i64_w, i32_w]
    rfl
   refine pure_ (i := 6) (N := some 50) (v := ?_) (a' := ?_) (bv 7 127) rfl rfl (by kernel_rfl) (fun _ _ _ h => h) (Or.inl ⟨by rfl, ?_⟩) ?_ ?_
   rotate_left
   ·intro w'
    go_simp
    with_reducible rfl
   rotate_left
   ·simp only [Act.put, sA, sZ, sS, i64_w, i32_w]
    rfl
   refine done_ (by kernel_rfl) ?_
   try go_wp2
   go_ret
   exact ⟨_, xW, by first | exact Kd.R_nil _ _ _ _ _ | exact Kd.N_nil _ _ _ _ _ | exact Kd.V_nil _ _ _ _ _ | exact Kd.Q_nil _ _ _ _ _ | exact Kd.S_nil _ _ _ _ _, by (with_reducible repeat (first | apply Kd.R_alloc | apply Kd.R_drewN | apply Kd.R_drew)); exact Kd.R_mono aK.out (fun _ hk => hk.1), bl HB.out, kk HK.out⟩
  rw [if_neg dG] at H
  have fF : (((rd_T79 aN aE).f0) == bG) = false := by simpa using dG
  (try (have fG : decide (((rd_T79 aN aE).f0) = bG) = false := by simpa using dG))
  (try (have fH : (((rd_T79 aN aE).f0) == bG) = false := by simpa using dG))
  (try (have wH : ¬ (((rd_T79 aN aE).f0) = bG) := by simpa using dG))
  clear dG
  obtain ⟨dX, jZ, H⟩ := hS H
  have kA := aM jZ
  clear jZ
  by_cases gR : bG = true
  case neg =>
   replace gR := Bool.eq_false_iff.mpr gR
   subst gR
   replace H := hF H
   have H' := aM H
   clear H
   try go_wp2
   replace aK := aM (Kd.R_drew aK.out)
   replace bD := aM (Kd.R_drew bD.out)
   replace aI := aM (blk_drew aI.out)
   replace aD := aM (blk_drew aD.out)
   replace HK := aM (Kept.drew HK.out)
   replace HB := aM (below_drew1 HB.out)
   have cY : 0 ≤ (aE : Int) := dT
   have dA : aE < (aN.length : Int) := dT
   obtain ⟨fI, hX, cA, cC, cD, cE, cG, cH, cK, cL, cN, cO, bX⟩ := at_T79 (Kd.R_reads' aK.out).2.2 aE cY dA
   obtain rfl : aV = fI := (by injection hX)
   replace cY := eq_true cY
   replace dA := eq_true dA
   refine start_ (n := 7) (S := fun w' => cT8 w' dD (.int .i64 bA) (.int .i64 aE) (.int .i64 bM) (.int .i64 bN) (.int .i64 bO) (.int .i64 bP) (.int .i64 bQ) (.bool false) (cE79 w' aV (aE).toNat (rd_T79 aN aE))) (ds := []) (dn 7 0) (by kernel_rfl) rfl rfl ⟨cI aD.out 0, cI aD.out 1, cI aD.out 2, cI aD.out 3, cI aD.out 4, cI aD.out 5, cI aD.out 6, cI aD.out 7, cA, cC, cD, cE, cG, cH, cK, cL, cN, cO, bX⟩ (fun hHeld => ?_)
   generalize jU.drew = lM at aK bD aI aD HK HB cA cC bX cD cE cG cH cK cL cN cO hHeld ⊢
   refine pure_ (i := 0) (N := some 44) (v := ?_) (a' := ?_) (bv 7 1) rfl rfl (by kernel_rfl) (fun _ _ _ h => h) (Or.inl ⟨by rfl, ?_⟩) ?_ ?_
   rotate_left
   ·intro w'
    go_simp
    with_reducible rfl
   rotate_left
   ·simp only [Act.put, sA, sZ, sS, i64_w, i32_w]
    rfl
   refine pure_ (i := 1) (N := some 45) (v := ?_) (a' := ?_) (bv 7 3) rfl rfl (by kernel_rfl) (fun _ _ _ h => h) (Or.inl ⟨by rfl, ?_⟩) ?_ ?_
   rotate_left
   ·intro w'
    go_simp
    with_reducible rfl
   rotate_left
   ·simp only [Act.put, sA, sZ, sS, i64_w, i32_w]
    rfl
   refine pure_ (i := 2) (N := some 46) (v := ?_) (a' := ?_) (bv 7 7) rfl rfl (by kernel_rfl) (fun _ _ _ h => h) (Or.inl ⟨by rfl, ?_⟩) ?_ ?_
   rotate_left
   ·intro w'
    go_simp
    with_reducible rfl
   rotate_left
   ·simp only [Act.put, sA, sZ, sS, i64_w, i32_w]
    rfl
   refine pure_ (i := 4) (N := some 48) (v := ?_) (a' := ?_) (bv 7 23) rfl rfl (by kernel_rfl) (fun _ _ _ h => h) (Or.inl ⟨by rfl, ?_⟩) ?_ ?_
   rotate_left
   ·intro w'
    go_simp
    with_reducible rfl
   rotate_left
   ·simp only [Act.put, sA, sZ, sS, i64_w, i32_w]
    rfl
   refine take_ (i := 3) (N := some 47) (v := ?_) (a' := ?_) (bv 7 31) rfl rfl (by kernel_rfl) (fun _ _ _ h => h) (Or.inl ⟨by rfl, ?_⟩) hHeld ?_ ?_
   rotate_left
   ·rintro w' ⟨s0, s1, s2, s3, s4, s5, s6, s7, s8, s9, iX, iY, iZ, jA, jB, jC, jD, jE, jF⟩
    go_simp
    with_reducible rfl
   rotate_left
   ·simp only [Act.put, sA, sZ, sS, i64_w, i32_w]
    rfl
   refine take_ (i := 5) (N := some 49) (v := ?_) (a' := ?_) (bv 7 63) rfl rfl (by kernel_rfl) (fun _ _ _ h => h) (Or.inl ⟨by rfl, ?_⟩) hHeld ?_ ?_
   rotate_left
   ·rintro w' ⟨s0, s1, s2, s3, s4, s5, s6, s7, s8, s9, iX, iY, iZ, jA, jB, jC, jD, jE, jF⟩
    go_simp
    with_reducible rfl
   rotate_left
   ·simp only [Act.put, sA, sZ, sS, i64_w, i32_w]
    rfl
   refine pure_ (i := 6) (N := some 50) (v := ?_) (a' := ?_) (bv 7 127) rfl rfl (by kernel_rfl) (fun _ _ _ h => h) (Or.inl ⟨by rfl, ?_⟩) ?_ ?_
   rotate_left
   ·intro w'
    go_simp
    with_reducible rfl
   rotate_left
   ·simp only [Act.put, sA, sZ, sS, i64_w, i32_w]
    rfl
   refine done_ (by kernel_rfl) ?_
   have dH : 0 ≤ (aE : Int) := dT
   have dI : (aE : Int) < ((aN.length : Int) : Int) := dT
   obtain ⟨aW, oS, hY, hZ, jL, oT, iA⟩ := Kd.R_form aK.out (by omega)
   (first | cases hY | (injection hY with ea_ en_ ec_; (first | subst ea_ | (injection ea_ with ea_; subst ea_)); subst ec_; clear en_))
   have bI := aM hZ
   have oU := aM iA
   clear hZ jL iA
   have HMgo29 := aM (show (P0_1_ aW ∨ w.heap.size ≤ aW) from (aK.out.1 _ rfl).1)
   (first | simp only [add_plain] at cA | skip)
   (first | simp only [add_plain] at cC | skip)
   (first | simp only [add_plain] at cD | skip)
   (first | simp only [add_plain] at cE | skip)
   (first | simp only [add_plain] at cG | skip)
   (first | simp only [add_plain] at cH | skip)
   (first | simp only [add_plain] at cK | skip)
   (first | simp only [add_plain] at cL | skip)
   (first | simp only [add_plain] at cN | skip)
   (first | simp only [add_plain] at cO | skip)
   (first | simp only [add_plain] at bX | skip)
   obtain ⟨oV, iN, iB, fK, fL⟩ := Kd.R_elem aK.out z79 (aE : Int) dH dI
   obtain rfl := k79_openM iB
   obtain ⟨lO, lP, lQ, lS, lT, lU, lV, lW, lX, lY, kP, lZ, mA, mB, mC, mD, mE, mF, mG, mH, mI, kQ⟩ := eS79 (rd_T79 aN aE) fK fL
   clear iN fK fL iB
   replace dH := eq_true dH
   replace dI := eq_true dI
   have mJ := aM (show Kd.R k79 79 lM w0.heap.size (fun k_ => (P0_1_ k_ ∨ w.heap.size ≤ k_) ∧ some k_ ≠ (cR : Value).ownBlock) (.slice (some ⟨aW, 0, none⟩) aN.length bL) aN from (kr aK.out))
   obtain ⟨yY, kC, mK, cS, cV⟩ := Kd.R_elem mJ.out z79 (aE : Int) (dT) dT
   obtain rfl := k79_openM mK
   have jM := Kd.R_seg mJ.out (aE : Int) (dT) dT (seg := [.bool false, .bool false, .int .i64 0, .int .i64 0, .int .i64 0, .int .i64 0, .int .i64 0, .int .i64 0, .int .i64 0, .int .i64 0, .bool false]) (j := 0) kC cS (show 11 ≤ 11 from by decide) (x' := (⟨false, false, (⟨0, 0, 0, 0⟩ : S73), 0, 0, 0, 0, false⟩ : S79)) (k79_mkM _ _ _ _) (fun _ hk => hk)
   have sC := cZ 11 (cS 0 _ rfl)
   have sD := fZ 11 (cV 0)
   have sE := cJ 11 (cS 1 _ rfl)
   have sF := fJ 11 (cV 1)
   have sG := cJ 11 (cS 2 _ rfl)
   have sH := fJ 11 (cV 2)
   have sI := cJ 11 (cS 3 _ rfl)
   have sJ := fJ 11 (cV 3)
   have sK := cJ 11 (cS 4 _ rfl)
   have sL := fJ 11 (cV 4)
   have sM := cJ 11 (cS 5 _ rfl)
   have sN := fJ 11 (cV 5)
   have sO := cJ 11 (cS 6 _ rfl)
   have sP := fJ 11 (cV 6)
   have sQ := cJ 11 (cS 7 _ rfl)
   have sR := fJ 11 (cV 7)
   have sT := cJ 11 (cS 8 _ rfl)
   have sU := fJ 11 (cV 8)
   have sV := cJ 11 (cS 9 _ rfl)
   have sW := fJ 11 (cV 9)
   have pD := cJ 11 (cS 10 _ rfl)
   have pE := fJ 11 (cV 10)
   clear kC cS cV mK
   try go_wp2_with (first | ((with_reducible refine gate_store (t := 79) (p := 53) rfl ?_); refine store_event (t := 79) (p := 53) (v := ?vo_w41) (w1 := (((((((((((lM.setCell ⟨aW, (aE : Int).toNat * 11, none⟩ (.bool false)).setCell ⟨aW, (aE : Int).toNat * 11 + 1, none⟩ (.bool false)).setCell ⟨aW, (aE : Int).toNat * 11 + 2, none⟩ (.int .i64 0)).setCell ⟨aW, (aE : Int).toNat * 11 + 3, none⟩ (.int .i64 0)).setCell ⟨aW, (aE : Int).toNat * 11 + 4, none⟩ (.int .i64 0)).setCell ⟨aW, (aE : Int).toNat * 11 + 5, none⟩ (.int .i64 0)).setCell ⟨aW, (aE : Int).toNat * 11 + 6, none⟩ (.int .i64 0)).setCell ⟨aW, (aE : Int).toNat * 11 + 7, none⟩ (.int .i64 0)).setCell ⟨aW, (aE : Int).toNat * 11 + 8, none⟩ (.int .i64 0)).setCell ⟨aW, (aE : Int).toNat * 11 + 9, none⟩ (.int .i64 0)).setCell ⟨aW, (aE : Int).toNat * 11 + 10, none⟩ (.bool false))) ?hg ?ho ?hn ?hr ?_; (case ho => rfl); (case hg => rfl); (case hn => rfl); (case hr => first | (go_simp; done) | (go_simp; rfl) | (obtain ⟨A_, c_, e_⟩ := Kd.R_slice aK.out; subst e_; (first | (go_simp; done) | (go_simp; rfl))) | (obtain ⟨A_, c_, e_⟩ := Kd.S_slice aK.out; subst e_; (first | (go_simp; done) | (go_simp; rfl))) | (obtain ⟨A_, c_, e_⟩ := Kd.R_slice bD.out; subst e_; (first | (go_simp; done) | (go_simp; rfl))) | (obtain ⟨A_, c_, e_⟩ := Kd.S_slice bD.out; subst e_; (first | (go_simp; done) | (go_simp; rfl)))); intro mL hw; have hg : lM.grownBy mL (some aW) := (by rw [hw]; exact jM.2); have hp_ : Kd.R k79 79 mL w0.heap.size (fun k_ => (P0_1_ k_ ∨ w.heap.size ≤ k_) ∧ some k_ ≠ (cR : Value).ownBlock) (.slice (some ⟨aW, 0, none⟩) aN.length bL) dX := (by rw [hw, kA.out]; exact jM.1); clear jM; replace aI := aM (blk_grown (bk aI.out) hg (Kd.R_ne aK.out aI.out (by decide))); replace aD := aM (blk_grown (bk aD.out) hg (Kd.R_ne aK.out aD.out (by decide))); replace bD := aM (Kd.R_after (v := (.slice (some ⟨aW, 0, none⟩) aN.length bL)) (v1 := (.slice (some ⟨aW, 0, none⟩) aN.length bL)) (ok := (fun k_ => (P0_1_ k_ ∨ w.heap.size ≤ k_))) (kr (Kd.R_mono bD.out (fun _ hk => ⟨hk.1.1, hk.2⟩))) hg (.inl rfl)); replace HB := aM ((by rw [hw]; exact below_set (below_set (below_set (below_set (below_set (below_set (below_set (below_set (below_set (below_set (below_set (HB.out) bI.out) bI.out) bI.out) bI.out) bI.out) bI.out) bI.out) bI.out) bI.out) bI.out) bI.out : Below w0.heap.size w0 mL)); replace HK := aM (Kept.of_grown (S := (fun k_ => P0_1_ k_)) hg (kk HK.out) (fun k_ e_ => (aK.out.1 k_ e_).1)); replace aK := aM (hp_); clear hg hw hp_; have wI := bW.out; have wJ := bV.out; have wK := cA8 aD.out))
   go_meet
   case rel => exact ⟨_, (dB), (cQ), (dX), H', ⟨by first | omega | exact Nat.le_refl _⟩, ⟨kr bD.out⟩, ⟨kr aK.out⟩, ⟨bk aI.out⟩, ⟨bk aD.out⟩, ⟨kk HK.out⟩, ⟨bl HB.out⟩⟩
  subst gR
  replace H := hP H rfl
  obtain ⟨jN, fM⟩ : ∃ y_ : List (S79), y_ = (dX.set (aE : Int).toNat (⟨true, false, (⟨0, 0, 0, 0⟩ : S73), 0, 0, 3, 0, false⟩ : S79)) := ⟨_, rfl⟩
  replace H : (impl_Bridge_react.j0 k dB cQ jN bA aE bM bN bO bP bQ true) = some (r1, r2) := by first | (rw [fM]; with_reducible exact H) | (have H2_ := (Option.bind_some _ _).symm.trans H; rw [fM]; with_reducible exact H2_) | (have H2_ := (Option.bind_some _ _).symm.trans H; with_reducible exact H2_) | with_reducible exact H | (rw [fM]; exact H) | exact H
  have nZ := aM fM
  clear fM
  have H' := aM H
  clear H
  try go_wp2
  replace aK := aM (Kd.R_drew aK.out)
  replace bD := aM (Kd.R_drew bD.out)
  replace aI := aM (blk_drew aI.out)
  replace aD := aM (blk_drew aD.out)
  replace HK := aM (Kept.drew HK.out)
  replace HB := aM (below_drew1 HB.out)
  have cY : 0 ≤ (aE : Int) := dT
  have dA : aE < (aN.length : Int) := dT
  obtain ⟨fI, hX, cA, cC, cD, cE, cG, cH, cK, cL, cN, cO, bX⟩ := at_T79 (Kd.R_reads' aK.out).2.2 aE cY dA
  obtain rfl : aV = fI := (by injection hX)
  replace cY := eq_true cY
  replace dA := eq_true dA
  refine start_ (n := 7) (S := fun w' => cT8 w' dD (.int .i64 bA) (.int .i64 aE) (.int .i64 bM) (.int .i64 bN) (.int .i64 bO) (.int .i64 bP) (.int .i64 bQ) (.bool true) (cE79 w' aV (aE).toNat (rd_T79 aN aE))) (ds := []) (dn 7 0) (by kernel_rfl) rfl rfl ⟨cI aD.out 0, cI aD.out 1, cI aD.out 2, cI aD.out 3, cI aD.out 4, cI aD.out 5, cI aD.out 6, cI aD.out 7, cA, cC, cD, cE, cG, cH, cK, cL, cN, cO, bX⟩ (fun hHeld => ?_)
  generalize jU.drew = mM at aK bD aI aD HK HB cA cC bX cD cE cG cH cK cL cN cO hHeld ⊢
  refine pure_ (i := 0) (N := some 44) (v := ?_) (a' := ?_) (bv 7 1) rfl rfl (by kernel_rfl) (fun _ _ _ h => h) (Or.inl ⟨by rfl, ?_⟩) ?_ ?_
  rotate_left
  ·intro w'
   go_simp
   with_reducible rfl
  rotate_left
  ·simp only [Act.put, sA, sZ, sS, i64_w, i32_w]
   rfl
  refine pure_ (i := 1) (N := some 45) (v := ?_) (a' := ?_) (bv 7 3) rfl rfl (by kernel_rfl) (fun _ _ _ h => h) (Or.inl ⟨by rfl, ?_⟩) ?_ ?_
  rotate_left
  ·intro w'
   go_simp
   with_reducible rfl
  rotate_left
  ·simp only [Act.put, sA, sZ, sS, i64_w, i32_w]
   rfl
  refine pure_ (i := 2) (N := some 46) (v := ?_) (a' := ?_) (bv 7 7) rfl rfl (by kernel_rfl) (fun _ _ _ h => h) (Or.inl ⟨by rfl, ?_⟩) ?_ ?_
  rotate_left
  ·intro w'
   go_simp
   with_reducible rfl
  rotate_left
  ·simp only [Act.put, sA, sZ, sS, i64_w, i32_w]
   rfl
  refine pure_ (i := 4) (N := some 48) (v := ?_) (a' := ?_) (bv 7 23) rfl rfl (by kernel_rfl) (fun _ _ _ h => h) (Or.inl ⟨by rfl, ?_⟩) ?_ ?_
  rotate_left
  ·intro w'
   go_simp
   with_reducible rfl
  rotate_left
  ·simp only [Act.put, sA, sZ, sS, i64_w, i32_w]
   rfl
  refine take_ (i := 3) (N := some 47) (v := ?_) (a' := ?_) (bv 7 31) rfl rfl (by kernel_rfl) (fun _ _ _ h => h) (Or.inl ⟨by rfl, ?_⟩) hHeld ?_ ?_
  rotate_left
  ·rintro w' ⟨s0, s1, s2, s3, s4, s5, s6, s7, s8, s9, iX, iY, iZ, jA, jB, jC, jD, jE, jF⟩
   go_simp
   with_reducible rfl
  rotate_left
  ·simp only [Act.put, sA, sZ, sS, i64_w, i32_w]
   rfl
  refine take_ (i := 5) (N := some 49) (v := ?_) (a' := ?_) (bv 7 63) rfl rfl (by kernel_rfl) (fun _ _ _ h => h) (Or.inl ⟨by rfl, ?_⟩) hHeld ?_ ?_
  rotate_left
  ·rintro w' ⟨s0, s1, s2, s3, s4, s5, s6, s7, s8, s9, iX, iY, iZ, jA, jB, jC, jD, jE, jF⟩
   go_simp
   with_reducible rfl
  rotate_left
  ·simp only [Act.put, sA, sZ, sS, i64_w, i32_w]
   rfl
  refine pure_ (i := 6) (N := some 50) (v := ?_) (a' := ?_) (bv 7 127) rfl rfl (by kernel_rfl) (fun _ _ _ h => h) (Or.inl ⟨by rfl, ?_⟩) ?_ ?_
  rotate_left
  ·intro w'
   go_simp
   with_reducible rfl
  rotate_left
  ·simp only [Act.put, sA, sZ, sS, i64_w, i32_w]
   rfl
  refine done_ (by kernel_rfl) ?_
  have dH : 0 ≤ (aE : Int) := dT
  have dI : (aE : Int) < ((aN.length : Int) : Int) := dT
  obtain ⟨aW, oS, hY, hZ, jL, oT, iA⟩ := Kd.R_form aK.out (by omega)
  (first | cases hY | (injection hY with ea_ en_ ec_; (first | subst ea_ | (injection ea_ with ea_; subst ea_)); subst ec_; clear en_))
  have bI := aM hZ
  have oU := aM iA
  clear hZ jL iA
  have HMgo29 := aM (show (P0_1_ aW ∨ w.heap.size ≤ aW) from (aK.out.1 _ rfl).1)
  (first | simp only [add_plain] at cA | skip)
  (first | simp only [add_plain] at cC | skip)
  (first | simp only [add_plain] at cD | skip)
  (first | simp only [add_plain] at cE | skip)
  (first | simp only [add_plain] at cG | skip)
  (first | simp only [add_plain] at cH | skip)
  (first | simp only [add_plain] at cK | skip)
  (first | simp only [add_plain] at cL | skip)
  (first | simp only [add_plain] at cN | skip)
  (first | simp only [add_plain] at cO | skip)
  (first | simp only [add_plain] at bX | skip)
  obtain ⟨oV, iN, iB, fK, fL⟩ := Kd.R_elem aK.out z79 (aE : Int) dH dI
  obtain rfl := k79_openM iB
  obtain ⟨lO, lP, lQ, lS, lT, lU, lV, lW, lX, lY, kP, lZ, mA, mB, mC, mD, mE, mF, mG, mH, mI, kQ⟩ := eS79 (rd_T79 aN aE) fK fL
  clear iN fK fL iB
  replace dH := eq_true dH
  replace dI := eq_true dI
  have mN := aM (show Kd.R k79 79 mM w0.heap.size (fun k_ => (P0_1_ k_ ∨ w.heap.size ≤ k_) ∧ some k_ ≠ (cR : Value).ownBlock) (.slice (some ⟨aW, 0, none⟩) aN.length bL) aN from (kr aK.out))
  obtain ⟨yZ, kD, mO, cT, cW⟩ := Kd.R_elem mN.out z79 (aE : Int) (dT) dT
  obtain rfl := k79_openM mO
  have jO := Kd.R_seg mN.out (aE : Int) (dT) dT (seg := [.bool false, .bool false, .int .i64 0, .int .i64 0, .int .i64 0, .int .i64 0, .int .i64 0, .int .i64 0, .int .i64 0, .int .i64 0, .bool false]) (j := 0) kD cT (show 11 ≤ 11 from by decide) (x' := (⟨false, false, (⟨0, 0, 0, 0⟩ : S73), 0, 0, 0, 0, false⟩ : S79)) (k79_mkM _ _ _ _) (fun _ hk => hk)
  have sX := cZ 11 (cT 0 _ rfl)
  have sY := fZ 11 (cW 0)
  have tA := cJ 11 (cT 1 _ rfl)
  have tB := fJ 11 (cW 1)
  have tC := cJ 11 (cT 2 _ rfl)
  have tD := fJ 11 (cW 2)
  have tE := cJ 11 (cT 3 _ rfl)
  have tF := fJ 11 (cW 3)
  have tG := cJ 11 (cT 4 _ rfl)
  have tH := fJ 11 (cW 4)
  have tI := cJ 11 (cT 5 _ rfl)
  have tJ := fJ 11 (cW 5)
  have tK := cJ 11 (cT 6 _ rfl)
  have tL := fJ 11 (cW 6)
  have tM := cJ 11 (cT 7 _ rfl)
  have tN := fJ 11 (cW 7)
  have tO := cJ 11 (cT 8 _ rfl)
  have tP := fJ 11 (cW 8)
  have tQ := cJ 11 (cT 9 _ rfl)
  have tR := fJ 11 (cW 9)
  have pF := cJ 11 (cT 10 _ rfl)
  have pG := fJ 11 (cW 10)
  clear kD cT cW mO
  try go_wp2_with (first | ((with_reducible refine gate_store (t := 79) (p := 53) rfl ?_); refine store_event (t := 79) (p := 53) (v := ?vo_w34) (w1 := (((((((((((mM.setCell ⟨aW, (aE : Int).toNat * 11, none⟩ (.bool false)).setCell ⟨aW, (aE : Int).toNat * 11 + 1, none⟩ (.bool false)).setCell ⟨aW, (aE : Int).toNat * 11 + 2, none⟩ (.int .i64 0)).setCell ⟨aW, (aE : Int).toNat * 11 + 3, none⟩ (.int .i64 0)).setCell ⟨aW, (aE : Int).toNat * 11 + 4, none⟩ (.int .i64 0)).setCell ⟨aW, (aE : Int).toNat * 11 + 5, none⟩ (.int .i64 0)).setCell ⟨aW, (aE : Int).toNat * 11 + 6, none⟩ (.int .i64 0)).setCell ⟨aW, (aE : Int).toNat * 11 + 7, none⟩ (.int .i64 0)).setCell ⟨aW, (aE : Int).toNat * 11 + 8, none⟩ (.int .i64 0)).setCell ⟨aW, (aE : Int).toNat * 11 + 9, none⟩ (.int .i64 0)).setCell ⟨aW, (aE : Int).toNat * 11 + 10, none⟩ (.bool false))) ?hg ?ho ?hn ?hr ?_; (case ho => rfl); (case hg => rfl); (case hn => rfl); (case hr => first | (go_simp; done) | (go_simp; rfl) | (obtain ⟨A_, c_, e_⟩ := Kd.R_slice aK.out; subst e_; (first | (go_simp; done) | (go_simp; rfl))) | (obtain ⟨A_, c_, e_⟩ := Kd.S_slice aK.out; subst e_; (first | (go_simp; done) | (go_simp; rfl))) | (obtain ⟨A_, c_, e_⟩ := Kd.R_slice bD.out; subst e_; (first | (go_simp; done) | (go_simp; rfl))) | (obtain ⟨A_, c_, e_⟩ := Kd.S_slice bD.out; subst e_; (first | (go_simp; done) | (go_simp; rfl)))); intro iJ hw; have hg : mM.grownBy iJ (some aW) := (by rw [hw]; exact jO.2); have hp_ : Kd.R k79 79 iJ w0.heap.size (fun k_ => (P0_1_ k_ ∨ w.heap.size ≤ k_) ∧ some k_ ≠ (cR : Value).ownBlock) (.slice (some ⟨aW, 0, none⟩) aN.length bL) dX := (by rw [hw, kA.out]; exact jO.1); clear jO; replace aI := aM (blk_grown (bk aI.out) hg (Kd.R_ne aK.out aI.out (by decide))); replace aD := aM (blk_grown (bk aD.out) hg (Kd.R_ne aK.out aD.out (by decide))); replace bD := aM (Kd.R_after (v := (.slice (some ⟨aW, 0, none⟩) aN.length bL)) (v1 := (.slice (some ⟨aW, 0, none⟩) aN.length bL)) (ok := (fun k_ => (P0_1_ k_ ∨ w.heap.size ≤ k_))) (kr (Kd.R_mono bD.out (fun _ hk => ⟨hk.1.1, hk.2⟩))) hg (.inl rfl)); replace HB := aM ((by rw [hw]; exact below_set (below_set (below_set (below_set (below_set (below_set (below_set (below_set (below_set (below_set (below_set (HB.out) bI.out) bI.out) bI.out) bI.out) bI.out) bI.out) bI.out) bI.out) bI.out) bI.out) bI.out : Below w0.heap.size w0 iJ)); replace HK := aM (Kept.of_grown (S := (fun k_ => P0_1_ k_)) hg (kk HK.out) (fun k_ e_ => (aK.out.1 k_ e_).1)); replace aK := aM (hp_); clear hg hw hp_; have wL := bW.out; have wM := bV.out; have wN := cA8 aD.out; have eI : 0 ≤ (aE : Int) := dT; have eJ : (aE : Int) < ((aN.length : Int) : Int) := dT; obtain ⟨zA, oA, mP, kE, kG⟩ := Kd.R_elem aK.out z79 (aE : Int) eI eJ; obtain rfl := k79_openM mP; obtain ⟨tS, tT, tV, tW, tX, tZ, uA, uB, uC, uD, pH, uE, uF, uG, uH, uI, uJ, uK, uL, uM, uN, pI⟩ := eS79 (rd_T79 dX aE) kE kG; clear oA kE kG mP; replace eI := eq_true eI; replace eJ := eq_true eJ; have mQ := aM (show Kd.R k79 79 iJ w0.heap.size (fun k_ => (P0_1_ k_ ∨ w.heap.size ≤ k_) ∧ some k_ ≠ (cR : Value).ownBlock) (.slice (some ⟨aW, 0, none⟩) aN.length bL) dX from (kr aK.out)); obtain ⟨zB, kH, mR, cU, cX⟩ := Kd.R_elem mQ.out z79 (aE : Int) (dT) dT; obtain rfl := k79_openM mR; have jP := Kd.R_seg mQ.out (aE : Int) (dT) dT (seg := [.bool true, .bool false, .int .i64 0, .int .i64 0, .int .i64 0, .int .i64 0, .int .i64 0, .int .i64 0, .int .i64 3, .int .i64 0, .bool false]) (j := 0) kH cU (show 11 ≤ 11 from by decide) (x' := (⟨true, false, (⟨0, 0, 0, 0⟩ : S73), 0, 0, 3, 0, false⟩ : S79)) (k79_mkM _ _ _ _) (fun _ hk => hk); have uO := cZ 11 (cU 0 _ rfl); have uP := fZ 11 (cX 0); have uQ := cJ 11 (cU 1 _ rfl); have uR := fJ 11 (cX 1); have uS := cJ 11 (cU 2 _ rfl); have uT := fJ 11 (cX 2); have uU := cJ 11 (cU 3 _ rfl); have uV := fJ 11 (cX 3); have uW := cJ 11 (cU 4 _ rfl); have uX := fJ 11 (cX 4); have uY := cJ 11 (cU 5 _ rfl); have uZ := fJ 11 (cX 5); have vA := cJ 11 (cU 6 _ rfl); have vB := fJ 11 (cX 6); have vC := cJ 11 (cU 7 _ rfl); have vD := fJ 11 (cX 7); have vE := cJ 11 (cU 8 _ rfl); have vF := fJ 11 (cX 8); have vG := cJ 11 (cU 9 _ rfl); have vH := fJ 11 (cX 9); have pJ := cJ 11 (cU 10 _ rfl); have pK := fJ 11 (cX 10); clear kH cU cX mR) | ((with_reducible refine gate_store (t := 79) (p := 58) rfl ?_); refine store_event (t := 79) (p := 58) (v := ?vo_w38) (w1 := (((((((((((iJ.setCell ⟨aW, (aE : Int).toNat * 11, none⟩ (.bool true)).setCell ⟨aW, (aE : Int).toNat * 11 + 1, none⟩ (.bool false)).setCell ⟨aW, (aE : Int).toNat * 11 + 2, none⟩ (.int .i64 0)).setCell ⟨aW, (aE : Int).toNat * 11 + 3, none⟩ (.int .i64 0)).setCell ⟨aW, (aE : Int).toNat * 11 + 4, none⟩ (.int .i64 0)).setCell ⟨aW, (aE : Int).toNat * 11 + 5, none⟩ (.int .i64 0)).setCell ⟨aW, (aE : Int).toNat * 11 + 6, none⟩ (.int .i64 0)).setCell ⟨aW, (aE : Int).toNat * 11 + 7, none⟩ (.int .i64 0)).setCell ⟨aW, (aE : Int).toNat * 11 + 8, none⟩ (.int .i64 3)).setCell ⟨aW, (aE : Int).toNat * 11 + 9, none⟩ (.int .i64 0)).setCell ⟨aW, (aE : Int).toNat * 11 + 10, none⟩ (.bool false))) ?hg ?ho ?hn ?hr ?_; (case ho => rfl); (case hg => rfl); (case hn => rfl); (case hr => first | (go_simp; done) | (go_simp; rfl) | (obtain ⟨A_, c_, e_⟩ := Kd.R_slice aK.out; subst e_; (first | (go_simp; done) | (go_simp; rfl))) | (obtain ⟨A_, c_, e_⟩ := Kd.S_slice aK.out; subst e_; (first | (go_simp; done) | (go_simp; rfl))) | (obtain ⟨A_, c_, e_⟩ := Kd.R_slice bD.out; subst e_; (first | (go_simp; done) | (go_simp; rfl))) | (obtain ⟨A_, c_, e_⟩ := Kd.S_slice bD.out; subst e_; (first | (go_simp; done) | (go_simp; rfl)))); intro mS hw; have hg : iJ.grownBy mS (some aW) := (by rw [hw]; exact jP.2); have hp_ : Kd.R k79 79 mS w0.heap.size (fun k_ => (P0_1_ k_ ∨ w.heap.size ≤ k_) ∧ some k_ ≠ (cR : Value).ownBlock) (.slice (some ⟨aW, 0, none⟩) aN.length bL) jN := (by rw [hw, nZ.out]; exact jP.1); clear jP; replace aI := aM (blk_grown (bk aI.out) hg (Kd.R_ne aK.out aI.out (by decide))); replace aD := aM (blk_grown (bk aD.out) hg (Kd.R_ne aK.out aD.out (by decide))); replace bD := aM (Kd.R_after (v := (.slice (some ⟨aW, 0, none⟩) aN.length bL)) (v1 := (.slice (some ⟨aW, 0, none⟩) aN.length bL)) (ok := (fun k_ => (P0_1_ k_ ∨ w.heap.size ≤ k_))) (kr bD.out) hg (.inl rfl)); replace HB := aM ((by rw [hw]; exact below_set (below_set (below_set (below_set (below_set (below_set (below_set (below_set (below_set (below_set (below_set (HB.out) bI.out) bI.out) bI.out) bI.out) bI.out) bI.out) bI.out) bI.out) bI.out) bI.out) bI.out : Below w0.heap.size w0 mS)); replace HK := aM (Kept.of_grown (S := (fun k_ => P0_1_ k_)) hg (kk HK.out) (fun k_ e_ => (aK.out.1 k_ e_).1)); replace aK := aM (hp_); clear hg hw hp_))
  go_meet
  case rel => exact ⟨_, (dB), (cQ), (jN), H', ⟨by first | omega | exact Nat.le_refl _⟩, ⟨kr bD.out⟩, ⟨kr aK.out⟩, ⟨bk aI.out⟩, ⟨bk aD.out⟩, ⟨kk HK.out⟩, ⟨bl HB.out⟩⟩
 case rest =>
  clear lC
  repeat first|clear c1|clear p1|clear q1|clear c2|clear p2|clear q2|clear c3|clear p3|clear q3|clear c4|clear p8|clear q8|clear eD|clear dF|clear eZ|clear mT|clear eE|clear eF|clear mU|clear mV|clear eG|clear fB|clear fC|clear mW|clear eH|clear fD|clear fE|clear dG|clear fF|clear fG|clear fH|clear mX|clear dH|clear dI|clear gR|clear mY|clear eI|clear eJ|clear mZ|clear nA|clear nB|clear nC|clear nD|clear eE|clear dH|clear eI|clear cY|clear eF|clear dI|clear eJ|clear dA
  obtain ⟨kq, bZ, bT, bH, HA, HJ5, bK, aH, aI, aD, HK, HB⟩ := hcut
  have hl836001_5 := (Kd.R_reads' aH.out).1
  rw [hl836001_5] at aH
  (try simp only [hl836001_5])
  (try simp only [hl836001_5] at aI)
  (try simp only [hl836001_5] at aD)
  (try simp only [hl836001_5] at bK)
  cases kq with
  | zero => exact absurd HA.out (by simp [impl_Bridge_react.j0])
  | succ nE =>
   have H := HA.out
   clear HA
   simp only [impl_Bridge_react.j0] at H
   obtain ⟨aA, nF, H⟩ := hB H
   have vI := aM nF
   clear nF
   have H' := aM H
   clear H
   have wO := bV.out
   have wP := bW.out
   have wQ := cA2 aI.out
   go_wp2_with (first | ((with_reducible refine gC (f := 72) rfl ?_); refine gL (some 60) Try.func72 #[.pointer (some ⟨gb, 0, none⟩)] ?_; (with_reducible refine (impl_Bridge_decide.calls (gb := gb) (hBK := (bk aI.out)) (hgb := ?hgb) nE bT (fun k_ => some k_ = (.slice (some aV) bH.length bL : Value).ownBlock) (.slice (some aV) bH.length bL) bH aA w0 _ ?side1 ?side2 vI.out).mono ?_); (case hgb => exact (fun hs_ => (fun e_ => (Kd.R_ne aH.out aI.out (by decide)) e_) hs_)); (case side1 => exact bl HB.out); (case side2 => exact Kd.R_tight rfl aH.out); rintro e zN ⟨rfl, iW, hb, hkp⟩; refine ⟨_, rfl, ?_⟩; replace bK := aM (Kd.R_mono (ok' := fun k_ => (P0_1_ k_ ∨ w.heap.size ≤ k_) ∧ some k_ ≠ (.slice (some aV) bH.length bL : Value).ownBlock) (Kd.R_keptB (bK.out) hkp (fun k_ hk_ hs_ => (hk_.2) hs_)) (fun k_ hk_ => ⟨hk_.1.1, hk_.1.2⟩)); replace aI := aM (blk_kept (bk aI.out) hkp (fun hs_ => (fun e_ => (Kd.R_ne aH.out aI.out (by decide)) e_) hs_)); replace aD := aM (blk_kept (bk aD.out) hkp (fun hs_ => (fun e_ => (Kd.R_ne aH.out aD.out (by decide)) e_) hs_)); replace HK := aM (Kept.then_ (S := (fun k_ => P0_1_ k_)) (kk HK.out) hkp (fun k_ hs_ => (fun e_ => (aH.out.1 k_ e_.symm).1) hs_)); replace aH := aM (Kd.R_reok rfl iW (fun k_ e_ => aH.out.1 k_ e_)); replace HB := aM (hb); (repeat first|clear hb|clear hkp|clear iW); have wR := cA2 aI.out))
   go_loopg [7, 66] nE (fun kq v7 vJ w' => ∃ (dK : List (S151)) (aC : Int), vJ = .int .i64 aC ∧ Aside0 (impl_Bridge_react.l0 kq bZ dK aA (bH.length : Int) aC bT aA bA aE bM bN bO bP bQ bG = some (r1, r2)) ∧ Aside0 (kq ≤ nE) ∧ Aside0 (Kd.R k79 79 w' w0.heap.size (fun k_ => (P0_1_ k_ ∨ w.heap.size ≤ k_) ∧ some k_ ≠ ((.slice (some aV) bH.length bL) : Value).ownBlock ∧ some k_ ≠ ((.slice (some aV) bH.length bL) : Value).ownBlock) cR bZ) ∧ Aside0 (Kd.R k151 151 w' w0.heap.size (fun k_ => (P0_1_ k_ ∨ w.heap.size ≤ k_)) v7 dK) ∧ Aside0 (Kd.R k79 79 w' w0.heap.size (fun k_ => (P0_1_ k_ ∨ w.heap.size ≤ k_) ∧ some k_ ≠ (cR : Value).ownBlock) (.slice (some aV) bH.length bL) aA) ∧ Aside0 (Kd.R k79 79 w' w0.heap.size (fun k_ => (P0_1_ k_ ∨ w.heap.size ≤ k_) ∧ some k_ ≠ (cR : Value).ownBlock) (.slice (some aV) bH.length bL) aA) ∧ Aside0 (w'.heap[gb]? = some (.cells #[bT, (.slice (some aV) bH.length bL)] 28 (0, 0))) ∧ Aside0 (w'.heap[dD]? = some (.cells #[bA, aE, bM, bN, bO, bP, bQ, bG] 89 (0, 0))) ∧ Aside0 (Kept w w' (fun k_ => P0_1_ k_)) ∧ Aside0 (Below w0.heap.size w0 w'))
   case atStart => exact ⟨(([] : List (S151))), (0), xE, H', ⟨Nat.le_refl _⟩, ⟨by (try simp only [hl836001_5]); (with_reducible repeat (first | apply Kd.R_alloc | apply Kd.R_drewN | apply Kd.R_drew)); exact Kd.R_mono bK.out (fun _ hk => ⟨hk.1, ⟨hk.2, hk.2⟩⟩)⟩, ⟨by (try simp only [hl836001_5]); first | exact Kd.R_nil _ _ _ _ _ | exact Kd.N_nil _ _ _ _ _ | exact Kd.V_nil _ _ _ _ _ | exact Kd.Q_nil _ _ _ _ _ | exact Kd.S_nil _ _ _ _ _⟩, ⟨by (try simp only [hl836001_5]); (with_reducible repeat (first | apply Kd.R_alloc | apply Kd.R_drewN | apply Kd.R_drew)); exact aH.out⟩, ⟨by (try simp only [hl836001_5]); (with_reducible repeat (first | apply Kd.R_alloc | apply Kd.R_drewN | apply Kd.R_drew)); exact aH.out⟩, ⟨by (try simp only [hl836001_5]); exact bk aI.out⟩, ⟨by (try simp only [hl836001_5]); exact bk aD.out⟩, ⟨kk HK.out⟩, ⟨bl HB.out⟩⟩
   case round =>
    clear H'
    repeat first|clear c1|clear p1|clear q1|clear c2|clear p2|clear q2|clear c3|clear p3|clear q3|clear c4|clear c7|clear p8|clear q8|clear eD|clear dF|clear eZ|clear mT|clear eE|clear eF|clear mU|clear mV|clear eG|clear fB|clear fC|clear mW|clear eH|clear fD|clear fE|clear dG|clear fF|clear fG|clear fH|clear mX|clear dH|clear dI|clear gR|clear mY|clear eI|clear eJ|clear mZ|clear nA|clear nB|clear nC|clear nD|clear oM|clear p1|clear eE|clear p2|clear dH|clear p3|clear eI|clear p8|clear cY|clear q1|clear eF|clear q2|clear dI|clear q3|clear eJ|clear q8|clear dA
    obtain ⟨dK, aC, rfl, HA, eV, bK, aX, bJ, aH, aI, aD, HK, HB⟩ := hrel
    have hl64_2 := (Kd.R_reads' bJ.out).1
    rw [hl64_2] at bJ
    (try simp only [hl64_2])
    (try simp only [hl64_2] at aI)
    (try simp only [hl64_2] at aD)
    (try simp only [hl64_2] at bK)
    (try simp only [hl64_2] at aX)
    (try simp only [hl64_2] at aH)
    have hl836001_2 := (Kd.R_reads' aH.out).1
    rw [hl836001_2] at aH
    (try simp only [hl836001_2])
    (try simp only [hl836001_2] at aI)
    (try simp only [hl836001_2] at aD)
    (try simp only [hl836001_2] at bK)
    (try simp only [hl836001_2] at aX)
    (try simp only [hl836001_2] at bJ)
    cases gk with
    | zero => exact absurd HA.out (by simp [impl_Bridge_react.l0])
    | succ k2 =>
     have H := HA.out
     clear HA
     simp only [impl_Bridge_react.l0] at H
     by_cases gS : aC < (bH.length : Int)
     case pos =>
      rw [if_pos gS] at H
      have iO := decide_eq_true gS
      clear gS
      obtain ⟨kI, H⟩ := gI H
      obtain ⟨kJ, H⟩ := gI H
      obtain ⟨kK, H⟩ := gI H
      by_cases dL : (((rd_T79 aA aC).f7) != ((rd_T79 bZ aC).f7)) = true
      case neg =>
       rw [if_neg dL] at H
       have iP : (((rd_T79 aA aC).f7) != ((rd_T79 bZ aC).f7)) = false := by simpa using dL
       (try (have iQ : decide (((rd_T79 aA aC).f7) = ((rd_T79 bZ aC).f7)) = true := by simpa using dL))
       (try (have iR : (((rd_T79 aA aC).f7) == ((rd_T79 bZ aC).f7)) = true := by simpa using dL))
       clear dL
       have H' := aM H
       clear H
       have dY : 0 ≤ (aC : Int) := dT
       have dZ : aC < (aA.length : Int) := dT
       obtain ⟨iS, jQ, kR, kS, kT, kU, kV, kW, kX, kY, kZ, lA, jR⟩ := at_T79 (Kd.R_reads' bJ.out).2.2 aC dY dZ
       obtain rfl : aV = iS := (by injection jQ)
       replace dY := eq_true dY
       replace dZ := eq_true dZ
       try go_wp2_with (first | ((with_reducible refine gD (N := 9) rfl ?_); refine box_event ?hg (N := 9) ?hd (cs := #[.bool false, .bool false, .int .i64 0, .int .i64 0, .int .i64 0, .int .i64 0, .int .i64 0, .int .i64 0, .int .i64 0, .int .i64 0, .bool false]) (t := 79) ?hr ?_; (case hd => rfl); (case hg => rfl); (case hr => first | (go_simp; done) | (go_simp; rfl) | (obtain ⟨A_, c_, e_⟩ := Kd.R_slice bK.out; subst e_; (first | (go_simp; done) | (go_simp; rfl))) | (obtain ⟨A_, c_, e_⟩ := Kd.S_slice bK.out; subst e_; (first | (go_simp; done) | (go_simp; rfl))) | (obtain ⟨A_, c_, e_⟩ := Kd.R_slice aX.out; subst e_; (first | (go_simp; done) | (go_simp; rfl))) | (obtain ⟨A_, c_, e_⟩ := Kd.S_slice aX.out; subst e_; (first | (go_simp; done) | (go_simp; rfl))) | (obtain ⟨A_, c_, e_⟩ := Kd.R_slice bJ.out; subst e_; (first | (go_simp; done) | (go_simp; rfl))) | (obtain ⟨A_, c_, e_⟩ := Kd.S_slice bJ.out; subst e_; (first | (go_simp; done) | (go_simp; rfl))) | (obtain ⟨A_, c_, e_⟩ := Kd.R_slice aH.out; subst e_; (first | (go_simp; done) | (go_simp; rfl))) | (obtain ⟨A_, c_, e_⟩ := Kd.S_slice aH.out; subst e_; (first | (go_simp; done) | (go_simp; rfl)))); intro aG hg zO hbox hb; have aT := aM (hbox); have oB := gE hg (kk HK.out).1; have oC := gF hg HB; have eK := nM hg aI; have eL := nH hg aI; have eM := nM hg aD; have eN := nH hg aD; replace bK := aM (kB (Kd.R_elderB (kr bK.out) aG (Nat.le_of_eq hg.symm)) hb); replace aX := rK aX hb; replace bJ := aM (kB (Kd.R_elderB (kr bJ.out) aG (Nat.le_of_eq hg.symm)) hb); replace aH := aM (kB (Kd.R_elderB (kr aH.out) aG (Nat.le_of_eq hg.symm)) hb); replace aI := rB aI hb; replace aD := rB aD hb; replace HK := aM (Kept.below (S := (fun k_ => P0_1_ k_)) (kk HK.out) hb); replace HB := rS HB hb; clear hb hbox hg; have wT := eL.out; have wU := eK.out; have wV := eN.out; have wW := eM.out; have wX := cA11 aT.out))
       refine nW (fun W => Aside0 (Kd.R k79 79 W w0.heap.size (fun k_ => (P0_1_ k_ ∨ w.heap.size ≤ k_) ∧ some k_ ≠ (.slice (some aV) aA.length bL : Value).ownBlock ∧ some k_ ≠ (.slice (some aV) aA.length bL : Value).ownBlock ∧ k_ ≠ aG) cR bZ) ∧ Aside0 (Kd.R k151 151 W w0.heap.size (fun k_ => (P0_1_ k_ ∨ w.heap.size ≤ k_)) u7 dK) ∧ Aside0 (Kd.R k79 79 W w0.heap.size (fun k_ => (P0_1_ k_ ∨ w.heap.size ≤ k_) ∧ some k_ ≠ (cR : Value).ownBlock ∧ k_ ≠ aG) (.slice (some aV) aA.length bL) aA) ∧ Aside0 (Kd.R k79 79 W w0.heap.size (fun k_ => (P0_1_ k_ ∨ w.heap.size ≤ k_) ∧ some k_ ≠ (cR : Value).ownBlock ∧ k_ ≠ aG) (.slice (some aV) aA.length bL) aA) ∧ Aside0 (W.heap[gb]? = some (.cells #[bT, .slice (some aV) aA.length bL] 28 (0, 0))) ∧ Aside0 (W.heap[dD]? = some (.cells #[bA, aE, bM, bN, bO, bP, bQ, bG] 89 (0, 0))) ∧ Aside0 (W.heap[aG]? = some (.cells #[((rd_T79 aA aC).f0), ((rd_T79 aA aC).f1), ((rd_T79 aA aC).f2.f0), ((rd_T79 aA aC).f2.f1), ((rd_T79 aA aC).f2.f2), ((rd_T79 aA aC).f2.f3), ((rd_T79 aA aC).f3), ((rd_T79 aA aC).f4), ((rd_T79 aA aC).f5), ((rd_T79 aA aC).f6), ((rd_T79 aA aC).f7)] 79 (0, 0))) ∧ Aside0 (Kept w W (fun k_ => P0_1_ k_)) ∧ Aside0 (Below w0.heap.size w0 W)) ⟨⟨kr (Kd.R_mono (kF (p := ⟨aG, 10, none⟩) (kF (p := ⟨aG, 9, none⟩) (kF (p := ⟨aG, 8, none⟩) (kF (p := ⟨aG, 7, none⟩) (kF (p := ⟨aG, 6, none⟩) (kF (p := ⟨aG, 5, none⟩) (kF (p := ⟨aG, 4, none⟩) (kF (p := ⟨aG, 3, none⟩) (kF (p := ⟨aG, 2, none⟩) (kF (p := ⟨aG, 1, none⟩) (kF (p := ⟨aG, 0, none⟩) (Kd.R_mono bK.out (fun k_ hk => (⟨hk, hk.2⟩ : _ ∧ k_ ≠ aG))) (fun _ hk => hk.2) (.bool ((rd_T79 aA aC).f0))) (fun _ hk => hk.2) (.bool ((rd_T79 aA aC).f1))) (fun _ hk => hk.2) (.int .i64 ((rd_T79 aA aC).f2.f0))) (fun _ hk => hk.2) (.int .i64 ((rd_T79 aA aC).f2.f1))) (fun _ hk => hk.2) (.int .i64 ((rd_T79 aA aC).f2.f2))) (fun _ hk => hk.2) (.int .i64 ((rd_T79 aA aC).f2.f3))) (fun _ hk => hk.2) (.int .i64 ((rd_T79 aA aC).f3))) (fun _ hk => hk.2) (.int .i64 ((rd_T79 aA aC).f4))) (fun _ hk => hk.2) (.int .i64 ((rd_T79 aA aC).f5))) (fun _ hk => hk.2) (.int .i64 ((rd_T79 aA aC).f6))) (fun _ hk => hk.2) (.bool ((rd_T79 aA aC).f7))) (fun _ hk => ⟨hk.1.1.1, ⟨hk.1.1.2.1, ⟨hk.1.1.2.2, hk.1.2⟩⟩⟩))⟩, ⟨kr (Kd.R_mono (kF (p := ⟨aG, 10, none⟩) (kF (p := ⟨aG, 9, none⟩) (kF (p := ⟨aG, 8, none⟩) (kF (p := ⟨aG, 7, none⟩) (kF (p := ⟨aG, 6, none⟩) (kF (p := ⟨aG, 5, none⟩) (kF (p := ⟨aG, 4, none⟩) (kF (p := ⟨aG, 3, none⟩) (kF (p := ⟨aG, 2, none⟩) (kF (p := ⟨aG, 1, none⟩) (kF (p := ⟨aG, 0, none⟩) (Kd.R_types aX.out aT.out (by decide)) (fun _ hk => hk.2) (.bool ((rd_T79 aA aC).f0))) (fun _ hk => hk.2) (.bool ((rd_T79 aA aC).f1))) (fun _ hk => hk.2) (.int .i64 ((rd_T79 aA aC).f2.f0))) (fun _ hk => hk.2) (.int .i64 ((rd_T79 aA aC).f2.f1))) (fun _ hk => hk.2) (.int .i64 ((rd_T79 aA aC).f2.f2))) (fun _ hk => hk.2) (.int .i64 ((rd_T79 aA aC).f2.f3))) (fun _ hk => hk.2) (.int .i64 ((rd_T79 aA aC).f3))) (fun _ hk => hk.2) (.int .i64 ((rd_T79 aA aC).f4))) (fun _ hk => hk.2) (.int .i64 ((rd_T79 aA aC).f5))) (fun _ hk => hk.2) (.int .i64 ((rd_T79 aA aC).f6))) (fun _ hk => hk.2) (.bool ((rd_T79 aA aC).f7))) (fun _ hk => hk.1))⟩, ⟨kr (Kd.R_mono (kF (p := ⟨aG, 10, none⟩) (kF (p := ⟨aG, 9, none⟩) (kF (p := ⟨aG, 8, none⟩) (kF (p := ⟨aG, 7, none⟩) (kF (p := ⟨aG, 6, none⟩) (kF (p := ⟨aG, 5, none⟩) (kF (p := ⟨aG, 4, none⟩) (kF (p := ⟨aG, 3, none⟩) (kF (p := ⟨aG, 2, none⟩) (kF (p := ⟨aG, 1, none⟩) (kF (p := ⟨aG, 0, none⟩) (Kd.R_mono bJ.out (fun k_ hk => (⟨hk, hk.2⟩ : _ ∧ k_ ≠ aG))) (fun _ hk => hk.2) (.bool ((rd_T79 aA aC).f0))) (fun _ hk => hk.2) (.bool ((rd_T79 aA aC).f1))) (fun _ hk => hk.2) (.int .i64 ((rd_T79 aA aC).f2.f0))) (fun _ hk => hk.2) (.int .i64 ((rd_T79 aA aC).f2.f1))) (fun _ hk => hk.2) (.int .i64 ((rd_T79 aA aC).f2.f2))) (fun _ hk => hk.2) (.int .i64 ((rd_T79 aA aC).f2.f3))) (fun _ hk => hk.2) (.int .i64 ((rd_T79 aA aC).f3))) (fun _ hk => hk.2) (.int .i64 ((rd_T79 aA aC).f4))) (fun _ hk => hk.2) (.int .i64 ((rd_T79 aA aC).f5))) (fun _ hk => hk.2) (.int .i64 ((rd_T79 aA aC).f6))) (fun _ hk => hk.2) (.bool ((rd_T79 aA aC).f7))) (fun _ hk => ⟨hk.1.1.1, ⟨hk.1.1.2, hk.1.2⟩⟩))⟩, ⟨kr (Kd.R_mono (kF (p := ⟨aG, 10, none⟩) (kF (p := ⟨aG, 9, none⟩) (kF (p := ⟨aG, 8, none⟩) (kF (p := ⟨aG, 7, none⟩) (kF (p := ⟨aG, 6, none⟩) (kF (p := ⟨aG, 5, none⟩) (kF (p := ⟨aG, 4, none⟩) (kF (p := ⟨aG, 3, none⟩) (kF (p := ⟨aG, 2, none⟩) (kF (p := ⟨aG, 1, none⟩) (kF (p := ⟨aG, 0, none⟩) (Kd.R_mono aH.out (fun k_ hk => (⟨hk, hk.2⟩ : _ ∧ k_ ≠ aG))) (fun _ hk => hk.2) (.bool ((rd_T79 aA aC).f0))) (fun _ hk => hk.2) (.bool ((rd_T79 aA aC).f1))) (fun _ hk => hk.2) (.int .i64 ((rd_T79 aA aC).f2.f0))) (fun _ hk => hk.2) (.int .i64 ((rd_T79 aA aC).f2.f1))) (fun _ hk => hk.2) (.int .i64 ((rd_T79 aA aC).f2.f2))) (fun _ hk => hk.2) (.int .i64 ((rd_T79 aA aC).f2.f3))) (fun _ hk => hk.2) (.int .i64 ((rd_T79 aA aC).f3))) (fun _ hk => hk.2) (.int .i64 ((rd_T79 aA aC).f4))) (fun _ hk => hk.2) (.int .i64 ((rd_T79 aA aC).f5))) (fun _ hk => hk.2) (.int .i64 ((rd_T79 aA aC).f6))) (fun _ hk => hk.2) (.bool ((rd_T79 aA aC).f7))) (fun _ hk => ⟨hk.1.1.1, ⟨hk.1.1.2, hk.1.2⟩⟩))⟩, ⟨fm aI.out⟩, ⟨fm aD.out⟩, ⟨bm aT.out⟩, ⟨kk HK.out⟩, ⟨bl HB.out⟩⟩ ?_
       intro vK nn_
       replace bK := nn_.1
       replace aX := nn_.2.1
       replace bJ := nn_.2.2.1
       replace aH := nn_.2.2.2.1
       replace aI := nn_.2.2.2.2.1
       replace aD := nn_.2.2.2.2.2.1
       replace aT := nn_.2.2.2.2.2.2.1
       replace HK := nn_.2.2.2.2.2.2.2.1
       replace HB := nn_.2.2.2.2.2.2.2.2
       clear nn_
       replace bK := aM (Kd.R_drew bK.out)
       replace aX := aM (Kd.R_drew aX.out)
       replace bJ := aM (Kd.R_drew bJ.out)
       replace aH := aM (Kd.R_drew aH.out)
       replace aI := aM (blk_drew aI.out)
       replace aD := aM (blk_drew aD.out)
       replace aT := aM (blk_drew aT.out)
       replace HK := aM (Kept.drew HK.out)
       replace HB := aM (below_drew1 HB.out)
       obtain ⟨zC, zD, nI⟩ := Kd.R_slice bK.out
       (first | subst nI | (injection nI with f1_ f2_ f3_; have f4_ := f1_.symm; have f5_ := f3_.symm; clear f1_ f2_ f3_; subst f4_; subst f5_))
       have eA : 0 ≤ (aC : Int) := dT
       have eB : aC < (bZ.length : Int) := dT
       obtain ⟨iT, jS, dM, dN, dO, dP, dQ, dR, dS, dU, dV, dW, dJ⟩ := at_T79 (Kd.R_reads' bK.out).2.2 aC eA eB
       cases jS
       replace eA := eq_true eA
       replace eB := eq_true eB
       refine start_ (n := 8) (S := fun w' => cT11 w' aG (.bool ((rd_T79 aA aC).f0)) (.bool ((rd_T79 aA aC).f1)) (.int .i64 ((rd_T79 aA aC).f2.f0)) (.int .i64 ((rd_T79 aA aC).f2.f1)) (.int .i64 ((rd_T79 aA aC).f2.f2)) (.int .i64 ((rd_T79 aA aC).f2.f3)) (.int .i64 ((rd_T79 aA aC).f3)) (.int .i64 ((rd_T79 aA aC).f4)) (.int .i64 ((rd_T79 aA aC).f5)) (.int .i64 ((rd_T79 aA aC).f6)) (.bool ((rd_T79 aA aC).f7)) (cE79 w' iT (aC).toNat (rd_T79 bZ aC))) (ds := []) (dn 8 0) (by kernel_rfl) rfl rfl ⟨cI aT.out 0, cI aT.out 1, cI aT.out 2, cI aT.out 3, cI aT.out 4, cI aT.out 5, cI aT.out 6, cI aT.out 7, cI aT.out 8, cI aT.out 9, cI aT.out 10, dM, dN, dO, dP, dQ, dR, dS, dU, dV, dW, dJ⟩ (fun hHeld => ?_); refine with_tabW impl_Bridge_react.tab19 impl_Bridge_react.bits19 (fun HT_ HW_ => ?_)
       generalize vK.drew = zP at bK aX bJ aH aI aD aT HK HB dM dN dJ dO dP dQ dR dS dU dV dW hHeld ⊢
       refine nY (N := some 71) HT_ ?_
       refine pZ 2 73 (bv 8 5) HT_ ?_
       refine pZ 3 74 (bv 8 13) HT_ ?_
       refine pZ 4 75 (bv 8 29) HT_ ?_
       refine pZ 5 76 (bv 8 61) HT_ ?_
       refine aZ 1 72 (bv 8 63) HT_ HW_ hHeld ?_
       refine aZ 6 77 (bv 8 127) HT_ HW_ hHeld ?_
       refine pZ 7 78 (bv 8 255) HT_ ?_
       refine done_ (done_of HT_.out (by kernel_rfl)) ?_
       try go_wp2
       (try simp only [← hl64_2])
       go_roundg k2
       case measure => have := HJ5.out; have := eV.out; omega
       case rel => exact ⟨(dK), (wS aC), xE, H', ⟨by have := HJ5.out; have := eV.out; omega⟩, ⟨by (try simp only [hl836001_5]); (try simp only [hl64_2]); (try simp only [hl836001_2]); (with_reducible repeat (first | apply Kd.R_alloc | apply Kd.R_drewN | apply Kd.R_drew)); exact Kd.R_mono bK.out (fun _ hk => ⟨hk.1, ⟨hk.2.1, hk.2.2.1⟩⟩)⟩, ⟨by (try simp only [hl836001_5]); (try simp only [hl64_2]); (try simp only [hl836001_2]); (with_reducible repeat (first | apply Kd.R_alloc | apply Kd.R_drewN | apply Kd.R_drew)); exact aX.out⟩, ⟨by (try simp only [hl836001_5]); (try simp only [hl64_2]); (try simp only [hl836001_2]); (with_reducible repeat (first | apply Kd.R_alloc | apply Kd.R_drewN | apply Kd.R_drew)); exact Kd.R_mono bJ.out (fun _ hk => ⟨hk.1, hk.2.1⟩)⟩, ⟨by (try simp only [hl836001_5]); (try simp only [hl64_2]); (try simp only [hl836001_2]); (with_reducible repeat (first | apply Kd.R_alloc | apply Kd.R_drewN | apply Kd.R_drew)); exact Kd.R_mono aH.out (fun _ hk => ⟨hk.1, hk.2.1⟩)⟩, ⟨by (try simp only [hl836001_5]); (try simp only [hl64_2]); (try simp only [hl836001_2]); exact bk aI.out⟩, ⟨by (try simp only [hl836001_5]); (try simp only [hl64_2]); (try simp only [hl836001_2]); exact bk aD.out⟩, ⟨kk HK.out⟩, ⟨bl HB.out⟩⟩
      rw [if_pos dL] at H
      have iP : (((rd_T79 aA aC).f7) != ((rd_T79 bZ aC).f7)) = true := dL
      (try (have iQ : decide (((rd_T79 aA aC).f7) = ((rd_T79 bZ aC).f7)) = false := by simpa using dL))
      (try (have iR : (((rd_T79 aA aC).f7) == ((rd_T79 bZ aC).f7)) = false := by simpa using dL))
      (try (have wY : ¬ (((rd_T79 aA aC).f7) = ((rd_T79 bZ aC).f7)) := by simpa using dL))
      clear dL
      by_cases iK : dK.length < 2199023255552
      case neg =>
       rw [if_neg iK] at H
       exact absurd H (by simp)
      rw [if_pos iK] at H
      have LMc54 := aM iK
      clear iK
      obtain ⟨nJ, fN⟩ : ∃ y_ : List (S151), y_ = (dK ++ [(⟨2, aC, (⟨0, 0, 0, 0⟩ : S73), 0, (rd_T79 aA aC).f7⟩ : S151)]) := ⟨_, rfl⟩
      replace H : (impl_Bridge_react.l0 k2 bZ nJ aA (bH.length : Int) (wS aC) bT aA bA aE bM bN bO bP bQ bG) = some (r1, r2) := by first | (rw [fN]; with_reducible exact H) | (have H2_ := (Option.bind_some _ _).symm.trans H; rw [fN]; with_reducible exact H2_) | (have H2_ := (Option.bind_some _ _).symm.trans H; with_reducible exact H2_) | with_reducible exact H | (rw [fN]; exact H) | exact H
      have oD := aM fN
      clear fN
      have H' := aM H
      clear H
      have dY : 0 ≤ (aC : Int) := dT
      have dZ : aC < (aA.length : Int) := dT
      obtain ⟨iS, jQ, kR, kS, kT, kU, kV, kW, kX, kY, kZ, lA, jR⟩ := at_T79 (Kd.R_reads' bJ.out).2.2 aC dY dZ
      obtain rfl : aV = iS := (by injection jQ)
      replace dY := eq_true dY
      replace dZ := eq_true dZ
      try go_wp2_with (first | ((with_reducible refine gD (N := 9) rfl ?_); refine box_event ?hg (N := 9) ?hd (cs := #[.bool false, .bool false, .int .i64 0, .int .i64 0, .int .i64 0, .int .i64 0, .int .i64 0, .int .i64 0, .int .i64 0, .int .i64 0, .bool false]) (t := 79) ?hr ?_; (case hd => rfl); (case hg => rfl); (case hr => first | (go_simp; done) | (go_simp; rfl) | (obtain ⟨A_, c_, e_⟩ := Kd.R_slice bK.out; subst e_; (first | (go_simp; done) | (go_simp; rfl))) | (obtain ⟨A_, c_, e_⟩ := Kd.S_slice bK.out; subst e_; (first | (go_simp; done) | (go_simp; rfl))) | (obtain ⟨A_, c_, e_⟩ := Kd.R_slice aX.out; subst e_; (first | (go_simp; done) | (go_simp; rfl))) | (obtain ⟨A_, c_, e_⟩ := Kd.S_slice aX.out; subst e_; (first | (go_simp; done) | (go_simp; rfl))) | (obtain ⟨A_, c_, e_⟩ := Kd.R_slice bJ.out; subst e_; (first | (go_simp; done) | (go_simp; rfl))) | (obtain ⟨A_, c_, e_⟩ := Kd.S_slice bJ.out; subst e_; (first | (go_simp; done) | (go_simp; rfl))) | (obtain ⟨A_, c_, e_⟩ := Kd.R_slice aH.out; subst e_; (first | (go_simp; done) | (go_simp; rfl))) | (obtain ⟨A_, c_, e_⟩ := Kd.S_slice aH.out; subst e_; (first | (go_simp; done) | (go_simp; rfl)))); intro aG hg zQ hbox hb; have aT := aM (hbox); have oB := gE hg (kk HK.out).1; have oC := gF hg HB; have eK := nM hg aI; have eL := nH hg aI; have eM := nM hg aD; have eN := nH hg aD; replace bK := aM (kB (Kd.R_elderB (kr bK.out) aG (Nat.le_of_eq hg.symm)) hb); replace aX := rK aX hb; replace bJ := aM (kB (Kd.R_elderB (kr bJ.out) aG (Nat.le_of_eq hg.symm)) hb); replace aH := aM (kB (Kd.R_elderB (kr aH.out) aG (Nat.le_of_eq hg.symm)) hb); replace aI := rB aI hb; replace aD := rB aD hb; replace HK := aM (Kept.below (S := (fun k_ => P0_1_ k_)) (kk HK.out) hb); replace HB := rS HB hb; clear hb hbox hg; have wZ := eL.out; have xA := eK.out; have xC := eN.out; have xD := eM.out; have xF := cA11 aT.out))
      refine nW (fun W => Aside0 (Kd.R k79 79 W w0.heap.size (fun k_ => (P0_1_ k_ ∨ w.heap.size ≤ k_) ∧ some k_ ≠ (.slice (some aV) aA.length bL : Value).ownBlock ∧ some k_ ≠ (.slice (some aV) aA.length bL : Value).ownBlock ∧ k_ ≠ aG) cR bZ) ∧ Aside0 (Kd.R k151 151 W w0.heap.size (fun k_ => (P0_1_ k_ ∨ w.heap.size ≤ k_)) u7 dK) ∧ Aside0 (Kd.R k79 79 W w0.heap.size (fun k_ => (P0_1_ k_ ∨ w.heap.size ≤ k_) ∧ some k_ ≠ (cR : Value).ownBlock ∧ k_ ≠ aG) (.slice (some aV) aA.length bL) aA) ∧ Aside0 (Kd.R k79 79 W w0.heap.size (fun k_ => (P0_1_ k_ ∨ w.heap.size ≤ k_) ∧ some k_ ≠ (cR : Value).ownBlock ∧ k_ ≠ aG) (.slice (some aV) aA.length bL) aA) ∧ Aside0 (W.heap[gb]? = some (.cells #[bT, .slice (some aV) aA.length bL] 28 (0, 0))) ∧ Aside0 (W.heap[dD]? = some (.cells #[bA, aE, bM, bN, bO, bP, bQ, bG] 89 (0, 0))) ∧ Aside0 (W.heap[aG]? = some (.cells #[((rd_T79 aA aC).f0), ((rd_T79 aA aC).f1), ((rd_T79 aA aC).f2.f0), ((rd_T79 aA aC).f2.f1), ((rd_T79 aA aC).f2.f2), ((rd_T79 aA aC).f2.f3), ((rd_T79 aA aC).f3), ((rd_T79 aA aC).f4), ((rd_T79 aA aC).f5), ((rd_T79 aA aC).f6), ((rd_T79 aA aC).f7)] 79 (0, 0))) ∧ Aside0 (Kept w W (fun k_ => P0_1_ k_)) ∧ Aside0 (Below w0.heap.size w0 W)) ⟨⟨kr (Kd.R_mono (kF (p := ⟨aG, 10, none⟩) (kF (p := ⟨aG, 9, none⟩) (kF (p := ⟨aG, 8, none⟩) (kF (p := ⟨aG, 7, none⟩) (kF (p := ⟨aG, 6, none⟩) (kF (p := ⟨aG, 5, none⟩) (kF (p := ⟨aG, 4, none⟩) (kF (p := ⟨aG, 3, none⟩) (kF (p := ⟨aG, 2, none⟩) (kF (p := ⟨aG, 1, none⟩) (kF (p := ⟨aG, 0, none⟩) (Kd.R_mono bK.out (fun k_ hk => (⟨hk, hk.2⟩ : _ ∧ k_ ≠ aG))) (fun _ hk => hk.2) (.bool ((rd_T79 aA aC).f0))) (fun _ hk => hk.2) (.bool ((rd_T79 aA aC).f1))) (fun _ hk => hk.2) (.int .i64 ((rd_T79 aA aC).f2.f0))) (fun _ hk => hk.2) (.int .i64 ((rd_T79 aA aC).f2.f1))) (fun _ hk => hk.2) (.int .i64 ((rd_T79 aA aC).f2.f2))) (fun _ hk => hk.2) (.int .i64 ((rd_T79 aA aC).f2.f3))) (fun _ hk => hk.2) (.int .i64 ((rd_T79 aA aC).f3))) (fun _ hk => hk.2) (.int .i64 ((rd_T79 aA aC).f4))) (fun _ hk => hk.2) (.int .i64 ((rd_T79 aA aC).f5))) (fun _ hk => hk.2) (.int .i64 ((rd_T79 aA aC).f6))) (fun _ hk => hk.2) (.bool ((rd_T79 aA aC).f7))) (fun _ hk => ⟨hk.1.1.1, ⟨hk.1.1.2.1, ⟨hk.1.1.2.2, hk.1.2⟩⟩⟩))⟩, ⟨kr (Kd.R_mono (kF (p := ⟨aG, 10, none⟩) (kF (p := ⟨aG, 9, none⟩) (kF (p := ⟨aG, 8, none⟩) (kF (p := ⟨aG, 7, none⟩) (kF (p := ⟨aG, 6, none⟩) (kF (p := ⟨aG, 5, none⟩) (kF (p := ⟨aG, 4, none⟩) (kF (p := ⟨aG, 3, none⟩) (kF (p := ⟨aG, 2, none⟩) (kF (p := ⟨aG, 1, none⟩) (kF (p := ⟨aG, 0, none⟩) (Kd.R_types aX.out aT.out (by decide)) (fun _ hk => hk.2) (.bool ((rd_T79 aA aC).f0))) (fun _ hk => hk.2) (.bool ((rd_T79 aA aC).f1))) (fun _ hk => hk.2) (.int .i64 ((rd_T79 aA aC).f2.f0))) (fun _ hk => hk.2) (.int .i64 ((rd_T79 aA aC).f2.f1))) (fun _ hk => hk.2) (.int .i64 ((rd_T79 aA aC).f2.f2))) (fun _ hk => hk.2) (.int .i64 ((rd_T79 aA aC).f2.f3))) (fun _ hk => hk.2) (.int .i64 ((rd_T79 aA aC).f3))) (fun _ hk => hk.2) (.int .i64 ((rd_T79 aA aC).f4))) (fun _ hk => hk.2) (.int .i64 ((rd_T79 aA aC).f5))) (fun _ hk => hk.2) (.int .i64 ((rd_T79 aA aC).f6))) (fun _ hk => hk.2) (.bool ((rd_T79 aA aC).f7))) (fun _ hk => hk.1))⟩, ⟨kr (Kd.R_mono (kF (p := ⟨aG, 10, none⟩) (kF (p := ⟨aG, 9, none⟩) (kF (p := ⟨aG, 8, none⟩) (kF (p := ⟨aG, 7, none⟩) (kF (p := ⟨aG, 6, none⟩) (kF (p := ⟨aG, 5, none⟩) (kF (p := ⟨aG, 4, none⟩) (kF (p := ⟨aG, 3, none⟩) (kF (p := ⟨aG, 2, none⟩) (kF (p := ⟨aG, 1, none⟩) (kF (p := ⟨aG, 0, none⟩) (Kd.R_mono bJ.out (fun k_ hk => (⟨hk, hk.2⟩ : _ ∧ k_ ≠ aG))) (fun _ hk => hk.2) (.bool ((rd_T79 aA aC).f0))) (fun _ hk => hk.2) (.bool ((rd_T79 aA aC).f1))) (fun _ hk => hk.2) (.int .i64 ((rd_T79 aA aC).f2.f0))) (fun _ hk => hk.2) (.int .i64 ((rd_T79 aA aC).f2.f1))) (fun _ hk => hk.2) (.int .i64 ((rd_T79 aA aC).f2.f2))) (fun _ hk => hk.2) (.int .i64 ((rd_T79 aA aC).f2.f3))) (fun _ hk => hk.2) (.int .i64 ((rd_T79 aA aC).f3))) (fun _ hk => hk.2) (.int .i64 ((rd_T79 aA aC).f4))) (fun _ hk => hk.2) (.int .i64 ((rd_T79 aA aC).f5))) (fun _ hk => hk.2) (.int .i64 ((rd_T79 aA aC).f6))) (fun _ hk => hk.2) (.bool ((rd_T79 aA aC).f7))) (fun _ hk => ⟨hk.1.1.1, ⟨hk.1.1.2, hk.1.2⟩⟩))⟩, ⟨kr (Kd.R_mono (kF (p := ⟨aG, 10, none⟩) (kF (p := ⟨aG, 9, none⟩) (kF (p := ⟨aG, 8, none⟩) (kF (p := ⟨aG, 7, none⟩) (kF (p := ⟨aG, 6, none⟩) (kF (p := ⟨aG, 5, none⟩) (kF (p := ⟨aG, 4, none⟩) (kF (p := ⟨aG, 3, none⟩) (kF (p := ⟨aG, 2, none⟩) (kF (p := ⟨aG, 1, none⟩) (kF (p := ⟨aG, 0, none⟩) (Kd.R_mono aH.out (fun k_ hk => (⟨hk, hk.2⟩ : _ ∧ k_ ≠ aG))) (fun _ hk => hk.2) (.bool ((rd_T79 aA aC).f0))) (fun _ hk => hk.2) (.bool ((rd_T79 aA aC).f1))) (fun _ hk => hk.2) (.int .i64 ((rd_T79 aA aC).f2.f0))) (fun _ hk => hk.2) (.int .i64 ((rd_T79 aA aC).f2.f1))) (fun _ hk => hk.2) (.int .i64 ((rd_T79 aA aC).f2.f2))) (fun _ hk => hk.2) (.int .i64 ((rd_T79 aA aC).f2.f3))) (fun _ hk => hk.2) (.int .i64 ((rd_T79 aA aC).f3))) (fun _ hk => hk.2) (.int .i64 ((rd_T79 aA aC).f4))) (fun _ hk => hk.2) (.int .i64 ((rd_T79 aA aC).f5))) (fun _ hk => hk.2) (.int .i64 ((rd_T79 aA aC).f6))) (fun _ hk => hk.2) (.bool ((rd_T79 aA aC).f7))) (fun _ hk => ⟨hk.1.1.1, ⟨hk.1.1.2, hk.1.2⟩⟩))⟩, ⟨fm aI.out⟩, ⟨fm aD.out⟩, ⟨bm aT.out⟩, ⟨kk HK.out⟩, ⟨bl HB.out⟩⟩ ?_
      intro vL nn_
      replace bK := nn_.1
      replace aX := nn_.2.1
      replace bJ := nn_.2.2.1
      replace aH := nn_.2.2.2.1
      replace aI := nn_.2.2.2.2.1
      replace aD := nn_.2.2.2.2.2.1
      replace aT := nn_.2.2.2.2.2.2.1
      replace HK := nn_.2.2.2.2.2.2.2.1
      replace HB := nn_.2.2.2.2.2.2.2.2
      clear nn_
      replace bK := aM (Kd.R_drew bK.out)
      replace aX := aM (Kd.R_drew aX.out)
      replace bJ := aM (Kd.R_drew bJ.out)
      replace aH := aM (Kd.R_drew aH.out)
      replace aI := aM (blk_drew aI.out)
      replace aD := aM (blk_drew aD.out)
      replace aT := aM (blk_drew aT.out)
      replace HK := aM (Kept.drew HK.out)
      replace HB := aM (below_drew1 HB.out)
      obtain ⟨zE, zF, nK⟩ := Kd.R_slice bK.out
      (first | subst nK | (injection nK with f1_ f2_ f3_; have f4_ := f1_.symm; have f5_ := f3_.symm; clear f1_ f2_ f3_; subst f4_; subst f5_))
      have eA : 0 ≤ (aC : Int) := dT
      have eB : aC < (bZ.length : Int) := dT
      obtain ⟨iT, jS, dM, dN, dO, dP, dQ, dR, dS, dU, dV, dW, dJ⟩ := at_T79 (Kd.R_reads' bK.out).2.2 aC eA eB
      cases jS
      replace eA := eq_true eA
      replace eB := eq_true eB
      refine start_ (n := 8) (S := fun w' => cT11 w' aG (.bool ((rd_T79 aA aC).f0)) (.bool ((rd_T79 aA aC).f1)) (.int .i64 ((rd_T79 aA aC).f2.f0)) (.int .i64 ((rd_T79 aA aC).f2.f1)) (.int .i64 ((rd_T79 aA aC).f2.f2)) (.int .i64 ((rd_T79 aA aC).f2.f3)) (.int .i64 ((rd_T79 aA aC).f3)) (.int .i64 ((rd_T79 aA aC).f4)) (.int .i64 ((rd_T79 aA aC).f5)) (.int .i64 ((rd_T79 aA aC).f6)) (.bool ((rd_T79 aA aC).f7)) (cE79 w' iT (aC).toNat (rd_T79 bZ aC))) (ds := []) (dn 8 0) (by kernel_rfl) rfl rfl ⟨cI aT.out 0, cI aT.out 1, cI aT.out 2, cI aT.out 3, cI aT.out 4, cI aT.out 5, cI aT.out 6, cI aT.out 7, cI aT.out 8, cI aT.out 9, cI aT.out 10, dM, dN, dO, dP, dQ, dR, dS, dU, dV, dW, dJ⟩ (fun hHeld => ?_); refine with_tabW impl_Bridge_react.tab19 impl_Bridge_react.bits19 (fun HT_ HW_ => ?_)
      generalize vL.drew = eO at bK aX bJ aH aI aD aT HK HB dM dN dJ dO dP dQ dR dS dU dV dW hHeld ⊢
      refine nY (N := some 71) HT_ ?_
      refine pZ 2 73 (bv 8 5) HT_ ?_
      refine pZ 3 74 (bv 8 13) HT_ ?_
      refine pZ 4 75 (bv 8 29) HT_ ?_
      refine pZ 5 76 (bv 8 61) HT_ ?_
      refine aZ 1 72 (bv 8 63) HT_ HW_ hHeld ?_
      refine aZ 6 77 (bv 8 127) HT_ HW_ hHeld ?_
      refine pZ 7 78 (bv 8 255) HT_ ?_
      refine done_ (done_of HT_.out (by kernel_rfl)) ?_
      have pL : eO.cell? ⟨aG, 0, none⟩ = some ((rd_T79 aA aC).f0) := cI aT.out 0
      have pM : eO.cell? ⟨aG, 1, none⟩ = some ((rd_T79 aA aC).f1) := cI aT.out 1
      have pN : eO.cell? ⟨aG, 2, none⟩ = some ((rd_T79 aA aC).f2.f0) := cI aT.out 2
      have pO : eO.cell? ⟨aG, 3, none⟩ = some ((rd_T79 aA aC).f2.f1) := cI aT.out 3
      have pP : eO.cell? ⟨aG, 4, none⟩ = some ((rd_T79 aA aC).f2.f2) := cI aT.out 4
      have pQ : eO.cell? ⟨aG, 5, none⟩ = some ((rd_T79 aA aC).f2.f3) := cI aT.out 5
      have pR : eO.cell? ⟨aG, 6, none⟩ = some ((rd_T79 aA aC).f3) := cI aT.out 6
      have pS : eO.cell? ⟨aG, 7, none⟩ = some ((rd_T79 aA aC).f4) := cI aT.out 7
      have pT : eO.cell? ⟨aG, 8, none⟩ = some ((rd_T79 aA aC).f5) := cI aT.out 8
      have pV : eO.cell? ⟨aG, 9, none⟩ = some ((rd_T79 aA aC).f6) := cI aT.out 9
      have oW : eO.cell? ⟨aG, 10, none⟩ = some ((rd_T79 aA aC).f7) := cI aT.out 10
      have pW := bF aT.out 0
      have pX := bF aT.out 1
      have qA := bF aT.out 2
      have qC := bF aT.out 3
      have qD := bF aT.out 4
      have qE := bF aT.out 5
      have qF := bF aT.out 6
      have qG := bF aT.out 7
      have qH := bF aT.out 8
      have qI := bF aT.out 9
      have oX := bF aT.out 10
      try go_wp2_with (first | ((with_reducible refine gate_builtin (b := .append) (xs := #[.tmp 79, .tmp 84]) rfl ?_); at_builtin; refine Kd.R_append k151 (w0 := w0) w0.heap.size rfl (.tmp 79) (.tmp 84) 85 151 (.agg #[(.int .i64 0), (.int .i64 0), (.int .i64 0), (.int .i64 0), (.int .i64 0), (.int .i64 0), (.int .i64 0), (.bool false)]) 64 rfl Try.underlying85 info151 rfl (by decide) (by omega) u7 dK (⟨2, aC, (⟨0, 0, 0, 0⟩ : S73), 0, (rd_T79 aA aC).f7⟩ : S151) [.int .i64 2, .int .i64 aC, .int .i64 0, .int .i64 0, .int .i64 0, .int .i64 0, .int .i64 0, .bool ((rd_T79 aA aC).f7)] (fun k_ => (P0_1_ k_ ∨ w.heap.size ≤ k_)) (fun _ => False) rfl rfl ?aP (fun _ hk => hk.elim) ?aF ?aO ?aB ?aS ?aL ?_; (case aP => exact k151_mkM _ _ _ (⟨2, aC, (⟨0, 0, 0, 0⟩ : S73), 0, (rd_T79 aA aC).f7⟩ : S151)); (case aB => exact (bl HB.out)); (case aF => exact (fun k_ hk => (.inr (Nat.le_trans (kk HK.out).1 hk)))); (case aO => exact (kr aX.out)); (case aS => exact (below_size (bl HB.out))); (case aL => have := LMc54.out; omega); intro zG zR ho hb hg hat; rw [← oD.out] at ho; have oE := aM (ho); replace bK := aM (Kd.R_over' (kr bK.out) (Kd.R_typed (kr aX.out)) (by decide) hg); replace bJ := aM (Kd.R_over' (kr bJ.out) (Kd.R_typed (kr aX.out)) (by decide) hg); replace aH := aM (Kd.R_over' (kr aH.out) (Kd.R_typed (kr aX.out)) (by decide) hg); replace aI := aM (blk_grown (bk aI.out) hg (Kd.R_ne aX.out aI.out (by decide))); replace aD := aM (blk_grown (bk aD.out) hg (Kd.R_ne aX.out aD.out (by decide))); replace aT := aM (blk_grown (bk aT.out) hg (Kd.R_ne aX.out aT.out (by decide))); replace HB := aM (hb); replace HK := aM (Kept.of_grown (S := (fun k_ => P0_1_ k_)) hg (kk HK.out) (fun k_ e_ => (aX.out.1 k_ e_))); clear aX; clear ho hb hg hat))
      (try simp only [← hl64_2])
      go_roundg k2
      case measure => have := HJ5.out; have := eV.out; omega
      case rel => exact ⟨(nJ), (wS aC), xE, H', ⟨by have := HJ5.out; have := eV.out; omega⟩, ⟨by (try simp only [hl836001_5]); (try simp only [hl64_2]); (try simp only [hl836001_2]); (with_reducible repeat (first | apply Kd.R_alloc | apply Kd.R_drewN | apply Kd.R_drew)); exact Kd.R_mono bK.out (fun _ hk => ⟨hk.1, ⟨hk.2.1, hk.2.2.1⟩⟩)⟩, ⟨by (try simp only [hl836001_5]); (try simp only [hl64_2]); (try simp only [hl836001_2]); (with_reducible repeat (first | apply Kd.R_alloc | apply Kd.R_drewN | apply Kd.R_drew)); exact oE.out⟩, ⟨by (try simp only [hl836001_5]); (try simp only [hl64_2]); (try simp only [hl836001_2]); (with_reducible repeat (first | apply Kd.R_alloc | apply Kd.R_drewN | apply Kd.R_drew)); exact Kd.R_mono bJ.out (fun _ hk => ⟨hk.1, hk.2.1⟩)⟩, ⟨by (try simp only [hl836001_5]); (try simp only [hl64_2]); (try simp only [hl836001_2]); (with_reducible repeat (first | apply Kd.R_alloc | apply Kd.R_drewN | apply Kd.R_drew)); exact Kd.R_mono aH.out (fun _ hk => ⟨hk.1, hk.2.1⟩)⟩, ⟨by (try simp only [hl836001_5]); (try simp only [hl64_2]); (try simp only [hl836001_2]); exact bk aI.out⟩, ⟨by (try simp only [hl836001_5]); (try simp only [hl64_2]); (try simp only [hl836001_2]); exact bk aD.out⟩, ⟨kk HK.out⟩, ⟨bl HB.out⟩⟩
     rw [if_neg gS] at H
     have iO := decide_eq_false gS
     (try simp only [hl64_2] at iO)
     clear gS
     have H' := aM H
     clear H
     have xG := bV.out
     have xH := bW.out
     have xI := cA2 aI.out
     go_wp2
     go_loopg [7, 92] k2 (fun kq v7 vM w' => ∃ (eC : List (S151)) (aJ : Int) (bU : Int), vM = .int .i64 aJ ∧ Aside0 (impl_Bridge_react.l1 kq eC aA (aA.length : Int) aJ bU aA bA aE bM bN bO bP bQ bG = some (r1, r2)) ∧ Aside0 (kq ≤ k2) ∧ Aside0 (Kd.R k151 151 w' w0.heap.size (fun k_ => (P0_1_ k_ ∨ w.heap.size ≤ k_)) v7 eC) ∧ Aside0 (Kd.R k79 79 w' w0.heap.size (fun k_ => (P0_1_ k_ ∨ w.heap.size ≤ k_)) (.slice (some aV) aA.length bL) aA) ∧ Aside0 (Kd.R k79 79 w' w0.heap.size (fun k_ => (P0_1_ k_ ∨ w.heap.size ≤ k_)) (.slice (some aV) aA.length bL) aA) ∧ Aside0 (w'.heap[gb]? = some (.cells #[bU, (.slice (some aV) aA.length bL)] 28 (0, 0))) ∧ Aside0 (w'.heap[dD]? = some (.cells #[bA, aE, bM, bN, bO, bP, bQ, bG] 89 (0, 0))) ∧ Aside0 (Kept w w' (fun k_ => P0_1_ k_)) ∧ Aside0 (Below w0.heap.size w0 w'))
     case atStart => exact ⟨(dK), (0), (bT), xE, H', ⟨Nat.le_refl _⟩, ⟨by (try simp only [hl836001_5]); (try simp only [hl64_2]); (try simp only [hl836001_2]); (with_reducible repeat (first | apply Kd.R_alloc | apply Kd.R_drewN | apply Kd.R_drew)); exact aX.out⟩, ⟨by (try simp only [hl836001_5]); (try simp only [hl64_2]); (try simp only [hl836001_2]); (with_reducible repeat (first | apply Kd.R_alloc | apply Kd.R_drewN | apply Kd.R_drew)); exact Kd.R_mono aH.out (fun _ hk => hk.1)⟩, ⟨by (try simp only [hl836001_5]); (try simp only [hl64_2]); (try simp only [hl836001_2]); (with_reducible repeat (first | apply Kd.R_alloc | apply Kd.R_drewN | apply Kd.R_drew)); exact Kd.R_mono aH.out (fun _ hk => hk.1)⟩, ⟨by (try simp only [hl836001_5]); (try simp only [hl64_2]); (try simp only [hl836001_2]); exact bk aI.out⟩, ⟨by (try simp only [hl836001_5]); (try simp only [hl64_2]); (try simp only [hl836001_2]); exact bk aD.out⟩, ⟨kk HK.out⟩, ⟨bl HB.out⟩⟩
     case round =>
      clear H'
      repeat first|clear c1|clear p1|clear q1|clear c2|clear p2|clear q2|clear c3|clear p3|clear q3|clear c4|clear c5|clear c6|clear p6|clear c7|clear p8|clear q8|clear eD|clear dF|clear eZ|clear mT|clear eE|clear eF|clear mU|clear mV|clear eG|clear fB|clear fC|clear mW|clear eH|clear fD|clear fE|clear dG|clear fF|clear fG|clear fH|clear mX|clear dH|clear dI|clear gR|clear mY|clear eI|clear eJ|clear mZ|clear nA|clear nB|clear nC|clear nD|clear oM|clear gS|clear iO|clear vN|clear kI|clear vO|clear kJ|clear vP|clear kK|clear dL|clear iP|clear iQ|clear iR|clear iK|clear vQ|clear vR|clear oO|clear vS|clear vT|clear vU|clear p1|clear eE|clear p2|clear dH|clear p3|clear eI|clear p8|clear cY|clear dY|clear eA|clear q1|clear eF|clear q2|clear dI|clear q3|clear eJ|clear q8|clear dA|clear dZ|clear eB
      obtain ⟨eC, aJ, bU, rfl, HA, iL, aX, bY, aH, aI, aD, HK, HB⟩ := hrel
      cases gk with
      | zero => exact absurd HA.out (by simp [impl_Bridge_react.l1])
      | succ k3 =>
       have H := HA.out
       clear HA
       simp only [impl_Bridge_react.l1] at H
       by_cases iC : aJ < (aA.length : Int)
       case neg =>
        rw [if_neg iC] at H
        have kL := decide_eq_false iC
        clear iC
        simp only [Option.some.injEq, Prod.mk.injEq] at H
        obtain ⟨rfl, rfl⟩ := H
        go_wp2
        go_ret
        exact ⟨_, xW, by (with_reducible repeat (first | apply Kd.R_alloc | apply Kd.R_drewN | apply Kd.R_drew)); exact aX.out, (by first | exact (kr aH.out) | (simp only [hl836001_5, hl64_2, hl836001_2]; exact (kr aH.out))), bl HB.out, kk HK.out⟩
       rw [if_pos iC] at H
       have kL := decide_eq_true iC
       clear iC
       obtain ⟨oF, H⟩ := gI H
       obtain ⟨oG, H⟩ := gI H
       have jT := aM H
       clear H
       have iU : 0 ≤ (aJ : Int) := dT
       have iV : aJ < (aA.length : Int) := dT
       obtain ⟨oH, oY, qJ, qM, qN, qO, qP, qQ, qS, qT, qV, qW, oZ⟩ := at_T79 (Kd.R_reads' bY.out).2.2 aJ iU iV
       obtain rfl : aV = oH := (by injection oY)
       replace iU := eq_true iU
       replace iV := eq_true iV
       go_upto_region 25 with (first | ((with_reducible refine gD (N := 11) rfl ?_); refine box_event ?hg (N := 11) ?hd (cs := #[.bool false, .bool false, .int .i64 0, .int .i64 0, .int .i64 0, .int .i64 0, .int .i64 0, .int .i64 0, .int .i64 0, .int .i64 0, .bool false]) (t := 79) ?hr ?_; (case hd => rfl); (case hg => rfl); (case hr => first | (go_simp; done) | (go_simp; rfl) | (obtain ⟨A_, c_, e_⟩ := Kd.R_slice aX.out; subst e_; (first | (go_simp; done) | (go_simp; rfl))) | (obtain ⟨A_, c_, e_⟩ := Kd.S_slice aX.out; subst e_; (first | (go_simp; done) | (go_simp; rfl))) | (obtain ⟨A_, c_, e_⟩ := Kd.R_slice bY.out; subst e_; (first | (go_simp; done) | (go_simp; rfl))) | (obtain ⟨A_, c_, e_⟩ := Kd.S_slice bY.out; subst e_; (first | (go_simp; done) | (go_simp; rfl))) | (obtain ⟨A_, c_, e_⟩ := Kd.R_slice aH.out; subst e_; (first | (go_simp; done) | (go_simp; rfl))) | (obtain ⟨A_, c_, e_⟩ := Kd.S_slice aH.out; subst e_; (first | (go_simp; done) | (go_simp; rfl)))); intro aQ hg zS hbox hb; have cP := aM (hbox); have xJ := gE hg (kk HK.out).1; have xK := gF hg HB; have eP := nM hg aI; have eQ := nH hg aI; have eR := nM hg aD; have eS := nH hg aD; replace aX := rK aX hb; replace bY := aM (kB (Kd.R_elderB (kr bY.out) aQ (Nat.le_of_eq hg.symm)) hb); replace aH := aM (kB (Kd.R_elderB (kr aH.out) aQ (Nat.le_of_eq hg.symm)) hb); replace aI := rB aI hb; replace aD := rB aD hb; replace HK := aM (Kept.below (S := (fun k_ => P0_1_ k_)) (kk HK.out) hb); replace HB := rS HB hb; clear hb hbox hg; have xL := eQ.out; have xM := eP.out; have xN := eS.out; have xO := eR.out; have xQ := cA11 cP.out))
       (try simp only [Act.put, sA, sZ, sS])
       go_cut [104] (fun pA wc => ∃ (kq : Nat) (eT : Bool), pA = .bool eT ∧ Aside0 (impl_Bridge_react.j3 kq eC aJ aA (aA.length : Int) aJ eT bU aA bA aE bM bN bO bP bQ bG = some (r1, r2)) ∧ Aside0 (kq ≤ k3) ∧ Aside0 (Kd.R k151 151 wc w0.heap.size (fun k_ => (P0_1_ k_ ∨ w.heap.size ≤ k_)) u7 eC) ∧ Aside0 (Kd.R k79 79 wc w0.heap.size (fun k_ => (P0_1_ k_ ∨ w.heap.size ≤ k_) ∧ k_ ≠ aQ) (.slice (some aV) aA.length bL) aA) ∧ Aside0 (Kd.R k79 79 wc w0.heap.size (fun k_ => (P0_1_ k_ ∨ w.heap.size ≤ k_) ∧ k_ ≠ aQ) (.slice (some aV) aA.length bL) aA) ∧ Aside0 (wc.heap[gb]? = some (.cells #[bU, (.slice (some aV) aA.length bL)] 28 (0, 0))) ∧ Aside0 (wc.heap[dD]? = some (.cells #[bA, aE, bM, bN, bO, bP, bQ, bG] 89 (0, 0))) ∧ Aside0 (wc.heap[aQ]? = some (.cells #[((rd_T79 aA aJ).f0), ((rd_T79 aA aJ).f1), ((rd_T79 aA aJ).f2.f0), ((rd_T79 aA aJ).f2.f1), ((rd_T79 aA aJ).f2.f2), ((rd_T79 aA aJ).f2.f3), ((rd_T79 aA aJ).f3), ((rd_T79 aA aJ).f4), ((rd_T79 aA aJ).f5), ((rd_T79 aA aJ).f6), ((rd_T79 aA aJ).f7)] 79 (0, 0))) ∧ Aside0 (Kept w wc (fun k_ => P0_1_ k_)) ∧ Aside0 (Below w0.heap.size w0 wc))
       case first =>
        have H := jT.out
        clear jT
        by_cases gT : bA = 2
        case neg =>
         rw [if_neg gT] at H
         have eU : (bA == 2) = false := beq_eq_false_iff_ne.mpr gT
         have kM : (bA != 2) = true := bne_iff_ne.mpr gT
         (first | rw [eU] | (simp only [i64_w, i32_w]; rw [eU]) | skip)
         have H' := aM H
         clear H
         have xS := bW.out
         have xT := bV.out
         have xU := eR.out
         have xV := eS.out
         have xX := cA8 aD.out
         go_wp2
         go_meet
         case rel => exact ⟨_, (false), xE, H', ⟨by have := HJ5.out; have := eV.out; have := iL.out; first | omega | exact Nat.le_refl _⟩, ⟨by (try simp only [hl836001_5]); (try simp only [hl64_2]); (try simp only [hl836001_2]); (with_reducible repeat (first | apply Kd.R_alloc | apply Kd.R_drewN | apply Kd.R_drew)); exact Kd.R_mono (kF (p := ⟨aQ, 10, none⟩) (kF (p := ⟨aQ, 9, none⟩) (kF (p := ⟨aQ, 8, none⟩) (kF (p := ⟨aQ, 7, none⟩) (kF (p := ⟨aQ, 6, none⟩) (kF (p := ⟨aQ, 5, none⟩) (kF (p := ⟨aQ, 4, none⟩) (kF (p := ⟨aQ, 3, none⟩) (kF (p := ⟨aQ, 2, none⟩) (kF (p := ⟨aQ, 1, none⟩) (kF (p := ⟨aQ, 0, none⟩) (Kd.R_types aX.out cP.out (by decide)) (fun _ hk => hk.2) (.bool ((rd_T79 aA aJ).f0))) (fun _ hk => hk.2) (.bool ((rd_T79 aA aJ).f1))) (fun _ hk => hk.2) (.int .i64 ((rd_T79 aA aJ).f2.f0))) (fun _ hk => hk.2) (.int .i64 ((rd_T79 aA aJ).f2.f1))) (fun _ hk => hk.2) (.int .i64 ((rd_T79 aA aJ).f2.f2))) (fun _ hk => hk.2) (.int .i64 ((rd_T79 aA aJ).f2.f3))) (fun _ hk => hk.2) (.int .i64 ((rd_T79 aA aJ).f3))) (fun _ hk => hk.2) (.int .i64 ((rd_T79 aA aJ).f4))) (fun _ hk => hk.2) (.int .i64 ((rd_T79 aA aJ).f5))) (fun _ hk => hk.2) (.int .i64 ((rd_T79 aA aJ).f6))) (fun _ hk => hk.2) (.bool ((rd_T79 aA aJ).f7))) (fun _ hk => hk.1)⟩, ⟨by (try simp only [hl836001_5]); (try simp only [hl64_2]); (try simp only [hl836001_2]); (with_reducible repeat (first | apply Kd.R_alloc | apply Kd.R_drewN | apply Kd.R_drew)); exact Kd.R_mono (kF (p := ⟨aQ, 10, none⟩) (kF (p := ⟨aQ, 9, none⟩) (kF (p := ⟨aQ, 8, none⟩) (kF (p := ⟨aQ, 7, none⟩) (kF (p := ⟨aQ, 6, none⟩) (kF (p := ⟨aQ, 5, none⟩) (kF (p := ⟨aQ, 4, none⟩) (kF (p := ⟨aQ, 3, none⟩) (kF (p := ⟨aQ, 2, none⟩) (kF (p := ⟨aQ, 1, none⟩) (kF (p := ⟨aQ, 0, none⟩) (Kd.R_mono bY.out (fun k_ hk => (⟨hk, hk.2⟩ : _ ∧ k_ ≠ aQ))) (fun _ hk => hk.2) (.bool ((rd_T79 aA aJ).f0))) (fun _ hk => hk.2) (.bool ((rd_T79 aA aJ).f1))) (fun _ hk => hk.2) (.int .i64 ((rd_T79 aA aJ).f2.f0))) (fun _ hk => hk.2) (.int .i64 ((rd_T79 aA aJ).f2.f1))) (fun _ hk => hk.2) (.int .i64 ((rd_T79 aA aJ).f2.f2))) (fun _ hk => hk.2) (.int .i64 ((rd_T79 aA aJ).f2.f3))) (fun _ hk => hk.2) (.int .i64 ((rd_T79 aA aJ).f3))) (fun _ hk => hk.2) (.int .i64 ((rd_T79 aA aJ).f4))) (fun _ hk => hk.2) (.int .i64 ((rd_T79 aA aJ).f5))) (fun _ hk => hk.2) (.int .i64 ((rd_T79 aA aJ).f6))) (fun _ hk => hk.2) (.bool ((rd_T79 aA aJ).f7))) (fun _ hk => ⟨hk.1.1, hk.1.2⟩)⟩, ⟨by (try simp only [hl836001_5]); (try simp only [hl64_2]); (try simp only [hl836001_2]); (with_reducible repeat (first | apply Kd.R_alloc | apply Kd.R_drewN | apply Kd.R_drew)); exact Kd.R_mono (kF (p := ⟨aQ, 10, none⟩) (kF (p := ⟨aQ, 9, none⟩) (kF (p := ⟨aQ, 8, none⟩) (kF (p := ⟨aQ, 7, none⟩) (kF (p := ⟨aQ, 6, none⟩) (kF (p := ⟨aQ, 5, none⟩) (kF (p := ⟨aQ, 4, none⟩) (kF (p := ⟨aQ, 3, none⟩) (kF (p := ⟨aQ, 2, none⟩) (kF (p := ⟨aQ, 1, none⟩) (kF (p := ⟨aQ, 0, none⟩) (Kd.R_mono aH.out (fun k_ hk => (⟨hk, hk.2⟩ : _ ∧ k_ ≠ aQ))) (fun _ hk => hk.2) (.bool ((rd_T79 aA aJ).f0))) (fun _ hk => hk.2) (.bool ((rd_T79 aA aJ).f1))) (fun _ hk => hk.2) (.int .i64 ((rd_T79 aA aJ).f2.f0))) (fun _ hk => hk.2) (.int .i64 ((rd_T79 aA aJ).f2.f1))) (fun _ hk => hk.2) (.int .i64 ((rd_T79 aA aJ).f2.f2))) (fun _ hk => hk.2) (.int .i64 ((rd_T79 aA aJ).f2.f3))) (fun _ hk => hk.2) (.int .i64 ((rd_T79 aA aJ).f3))) (fun _ hk => hk.2) (.int .i64 ((rd_T79 aA aJ).f4))) (fun _ hk => hk.2) (.int .i64 ((rd_T79 aA aJ).f5))) (fun _ hk => hk.2) (.int .i64 ((rd_T79 aA aJ).f6))) (fun _ hk => hk.2) (.bool ((rd_T79 aA aJ).f7))) (fun _ hk => ⟨hk.1.1, hk.1.2⟩)⟩, ⟨by (try simp only [hl836001_5]); (try simp only [hl64_2]); (try simp only [hl836001_2]); exact fm aI.out⟩, ⟨by (try simp only [hl836001_5]); (try simp only [hl64_2]); (try simp only [hl836001_2]); exact fm aD.out⟩, ⟨by (try simp only [hl836001_5]); (try simp only [hl64_2]); (try simp only [hl836001_2]); exact bm cP.out⟩, ⟨kk HK.out⟩, ⟨bl HB.out⟩⟩
        rw [if_pos gT] at H
        have eU : (bA == 2) = true := beq_iff_eq.mpr gT
        have kM : (bA != 2) = false := bne_eq_false_iff_eq.mpr gT
        clear gT
        (first | rw [eU] | (simp only [i64_w, i32_w]; rw [eU]) | skip)
        have H' := aM H
        clear H
        have xY := bW.out
        have xZ := bV.out
        have yA := eR.out
        have yB := eS.out
        have yC := cA8 aD.out
        have yD := eQ.out
        have yE := eP.out
        have yF := cA11 cP.out
        go_wp2
        go_meet
        case rel => exact ⟨_, ((((rd_T79 aA aJ).f5) == 2)), xE, H', ⟨by have := HJ5.out; have := eV.out; have := iL.out; first | omega | exact Nat.le_refl _⟩, ⟨by (try simp only [hl836001_5]); (try simp only [hl64_2]); (try simp only [hl836001_2]); (with_reducible repeat (first | apply Kd.R_alloc | apply Kd.R_drewN | apply Kd.R_drew)); exact Kd.R_mono (kF (p := ⟨aQ, 10, none⟩) (kF (p := ⟨aQ, 9, none⟩) (kF (p := ⟨aQ, 8, none⟩) (kF (p := ⟨aQ, 7, none⟩) (kF (p := ⟨aQ, 6, none⟩) (kF (p := ⟨aQ, 5, none⟩) (kF (p := ⟨aQ, 4, none⟩) (kF (p := ⟨aQ, 3, none⟩) (kF (p := ⟨aQ, 2, none⟩) (kF (p := ⟨aQ, 1, none⟩) (kF (p := ⟨aQ, 0, none⟩) (Kd.R_types aX.out cP.out (by decide)) (fun _ hk => hk.2) (.bool ((rd_T79 aA aJ).f0))) (fun _ hk => hk.2) (.bool ((rd_T79 aA aJ).f1))) (fun _ hk => hk.2) (.int .i64 ((rd_T79 aA aJ).f2.f0))) (fun _ hk => hk.2) (.int .i64 ((rd_T79 aA aJ).f2.f1))) (fun _ hk => hk.2) (.int .i64 ((rd_T79 aA aJ).f2.f2))) (fun _ hk => hk.2) (.int .i64 ((rd_T79 aA aJ).f2.f3))) (fun _ hk => hk.2) (.int .i64 ((rd_T79 aA aJ).f3))) (fun _ hk => hk.2) (.int .i64 ((rd_T79 aA aJ).f4))) (fun _ hk => hk.2) (.int .i64 ((rd_T79 aA aJ).f5))) (fun _ hk => hk.2) (.int .i64 ((rd_T79 aA aJ).f6))) (fun _ hk => hk.2) (.bool ((rd_T79 aA aJ).f7))) (fun _ hk => hk.1)⟩, ⟨by (try simp only [hl836001_5]); (try simp only [hl64_2]); (try simp only [hl836001_2]); (with_reducible repeat (first | apply Kd.R_alloc | apply Kd.R_drewN | apply Kd.R_drew)); exact Kd.R_mono (kF (p := ⟨aQ, 10, none⟩) (kF (p := ⟨aQ, 9, none⟩) (kF (p := ⟨aQ, 8, none⟩) (kF (p := ⟨aQ, 7, none⟩) (kF (p := ⟨aQ, 6, none⟩) (kF (p := ⟨aQ, 5, none⟩) (kF (p := ⟨aQ, 4, none⟩) (kF (p := ⟨aQ, 3, none⟩) (kF (p := ⟨aQ, 2, none⟩) (kF (p := ⟨aQ, 1, none⟩) (kF (p := ⟨aQ, 0, none⟩) (Kd.R_mono bY.out (fun k_ hk => (⟨hk, hk.2⟩ : _ ∧ k_ ≠ aQ))) (fun _ hk => hk.2) (.bool ((rd_T79 aA aJ).f0))) (fun _ hk => hk.2) (.bool ((rd_T79 aA aJ).f1))) (fun _ hk => hk.2) (.int .i64 ((rd_T79 aA aJ).f2.f0))) (fun _ hk => hk.2) (.int .i64 ((rd_T79 aA aJ).f2.f1))) (fun _ hk => hk.2) (.int .i64 ((rd_T79 aA aJ).f2.f2))) (fun _ hk => hk.2) (.int .i64 ((rd_T79 aA aJ).f2.f3))) (fun _ hk => hk.2) (.int .i64 ((rd_T79 aA aJ).f3))) (fun _ hk => hk.2) (.int .i64 ((rd_T79 aA aJ).f4))) (fun _ hk => hk.2) (.int .i64 ((rd_T79 aA aJ).f5))) (fun _ hk => hk.2) (.int .i64 ((rd_T79 aA aJ).f6))) (fun _ hk => hk.2) (.bool ((rd_T79 aA aJ).f7))) (fun _ hk => ⟨hk.1.1, hk.1.2⟩)⟩, ⟨by (try simp only [hl836001_5]); (try simp only [hl64_2]); (try simp only [hl836001_2]); (with_reducible repeat (first | apply Kd.R_alloc | apply Kd.R_drewN | apply Kd.R_drew)); exact Kd.R_mono (kF (p := ⟨aQ, 10, none⟩) (kF (p := ⟨aQ, 9, none⟩) (kF (p := ⟨aQ, 8, none⟩) (kF (p := ⟨aQ, 7, none⟩) (kF (p := ⟨aQ, 6, none⟩) (kF (p := ⟨aQ, 5, none⟩) (kF (p := ⟨aQ, 4, none⟩) (kF (p := ⟨aQ, 3, none⟩) (kF (p := ⟨aQ, 2, none⟩) (kF (p := ⟨aQ, 1, none⟩) (kF (p := ⟨aQ, 0, none⟩) (Kd.R_mono aH.out (fun k_ hk => (⟨hk, hk.2⟩ : _ ∧ k_ ≠ aQ))) (fun _ hk => hk.2) (.bool ((rd_T79 aA aJ).f0))) (fun _ hk => hk.2) (.bool ((rd_T79 aA aJ).f1))) (fun _ hk => hk.2) (.int .i64 ((rd_T79 aA aJ).f2.f0))) (fun _ hk => hk.2) (.int .i64 ((rd_T79 aA aJ).f2.f1))) (fun _ hk => hk.2) (.int .i64 ((rd_T79 aA aJ).f2.f2))) (fun _ hk => hk.2) (.int .i64 ((rd_T79 aA aJ).f2.f3))) (fun _ hk => hk.2) (.int .i64 ((rd_T79 aA aJ).f3))) (fun _ hk => hk.2) (.int .i64 ((rd_T79 aA aJ).f4))) (fun _ hk => hk.2) (.int .i64 ((rd_T79 aA aJ).f5))) (fun _ hk => hk.2) (.int .i64 ((rd_T79 aA aJ).f6))) (fun _ hk => hk.2) (.bool ((rd_T79 aA aJ).f7))) (fun _ hk => ⟨hk.1.1, hk.1.2⟩)⟩, ⟨by (try simp only [hl836001_5]); (try simp only [hl64_2]); (try simp only [hl836001_2]); exact fm aI.out⟩, ⟨by (try simp only [hl836001_5]); (try simp only [hl64_2]); (try simp only [hl836001_2]); exact fm aD.out⟩, ⟨by (try simp only [hl836001_5]); (try simp only [hl64_2]); (try simp only [hl836001_2]); exact bm cP.out⟩, ⟨kk HK.out⟩, ⟨bl HB.out⟩⟩
       case rest =>
        clear jT
        repeat first|clear c1|clear p1|clear q1|clear c2|clear p2|clear q2|clear c3|clear p3|clear q3|clear c4|clear c5|clear c6|clear p6|clear c7|clear c8|clear p8|clear q8|clear eD|clear dF|clear eZ|clear mT|clear eE|clear eF|clear mU|clear mV|clear eG|clear fB|clear fC|clear mW|clear eH|clear fD|clear fE|clear dG|clear fF|clear fG|clear fH|clear mX|clear dH|clear dI|clear gR|clear mY|clear eI|clear eJ|clear mZ|clear nA|clear nB|clear nC|clear nD|clear oM|clear gS|clear iO|clear vN|clear kI|clear vO|clear kJ|clear vP|clear kK|clear dL|clear iP|clear iQ|clear iR|clear iK|clear vQ|clear vR|clear oO|clear vS|clear vT|clear vU|clear iC|clear kL|clear zT|clear oF|clear zU|clear oG|clear zV|clear zW|clear gT|clear eU|clear kM|clear zX|clear zY|clear zZ|clear Aa|clear Ab|clear Ac|clear Ad|clear Ae|clear Af|clear p1|clear eE|clear p2|clear dH|clear p3|clear eI|clear p6|clear oO|clear p8|clear cY|clear dY|clear eA|clear iU|clear q1|clear eF|clear q2|clear dI|clear q3|clear eJ|clear q8|clear dA|clear dZ|clear eB|clear iV
        obtain ⟨kq, eT, rfl, HA, HJ75, aX, bY, aH, aI, aD, cP, HK, HB⟩ := hcut
        cases kq with
        | zero => exact absurd HA.out (by simp [impl_Bridge_react.j3])
        | succ iD =>
         have H := HA.out
         clear HA
         simp only [impl_Bridge_react.j3] at H
         by_cases kN : eT = true
         case neg =>
          replace kN := Bool.eq_false_iff.mpr kN
          subst kN
          replace H := hF H
          have H' := aM H
          clear H
          go_wp2
          go_roundg iD
          case measure => have := HJ5.out; have := eV.out; have := iL.out; have := HJ75.out; omega
          case rel => exact ⟨(eC), (wS aJ), (bU), xE, H', ⟨by have := HJ5.out; have := eV.out; have := iL.out; have := HJ75.out; omega⟩, ⟨by (try simp only [hl836001_5]); (try simp only [hl64_2]); (try simp only [hl836001_2]); (with_reducible repeat (first | apply Kd.R_alloc | apply Kd.R_drewN | apply Kd.R_drew)); exact aX.out⟩, ⟨by (try simp only [hl836001_5]); (try simp only [hl64_2]); (try simp only [hl836001_2]); (with_reducible repeat (first | apply Kd.R_alloc | apply Kd.R_drewN | apply Kd.R_drew)); exact Kd.R_mono bY.out (fun _ hk => hk.1)⟩, ⟨by (try simp only [hl836001_5]); (try simp only [hl64_2]); (try simp only [hl836001_2]); (with_reducible repeat (first | apply Kd.R_alloc | apply Kd.R_drewN | apply Kd.R_drew)); exact Kd.R_mono aH.out (fun _ hk => hk.1)⟩, ⟨by (try simp only [hl836001_5]); (try simp only [hl64_2]); (try simp only [hl836001_2]); exact bk aI.out⟩, ⟨by (try simp only [hl836001_5]); (try simp only [hl64_2]); (try simp only [hl836001_2]); exact bk aD.out⟩, ⟨kk HK.out⟩, ⟨bl HB.out⟩⟩
         subst kN
         replace H := hP H rfl
         obtain ⟨⟨iE, iF, iG, iH⟩, nN, H⟩ := hB H
         try dsimp only at H
         have vV := aM nN
         clear nN
         obtain ⟨iI, nO, H⟩ := hB H
         have vW := aM nO
         clear nO
         by_cases kO : eC.length < 2199023255552
         case neg =>
          rw [if_neg kO] at H
          exact absurd H (by simp)
         rw [if_pos kO] at H
         have LMc93 := aM kO
         clear kO
         obtain ⟨nP, fO⟩ : ∃ y_ : List (S151), y_ = (eC ++ [(⟨1, aJ, (⟨iE, iF, iG, iH⟩ : S73), iI, false⟩ : S151)]) := ⟨_, rfl⟩
         replace H : (impl_Bridge_react.l1 iD nP aA (aA.length : Int) (wS aJ) bU aA bA aE bM bN bO bP bQ bG) = some (r1, r2) := by first | (rw [fO]; with_reducible exact H) | (have H2_ := (Option.bind_some _ _).symm.trans H; rw [fO]; with_reducible exact H2_) | (have H2_ := (Option.bind_some _ _).symm.trans H; with_reducible exact H2_) | with_reducible exact H | (rw [fO]; exact H) | exact H
         have oI := aM fO
         clear fO
         have H' := aM H
         clear H
         have yG := bV.out
         have yH := bW.out
         have yI := eP.out
         have yJ := eQ.out
         have yK := cA2 aI.out
         go_wp2_with (first | ((with_reducible refine gC (f := 120) rfl ?_); refine gL (some 109) Try.func120 #[.pointer (some ⟨gb, 0, none⟩), aJ] ?_; (with_reducible refine (impl_Bridge_own.calls (gb := gb) (hBK := (bk aI.out)) iD bU _ _ aA aJ iE iF iG iH _ ?side1 ?side2 vV.out).mono ?_); (case side1 => exact cM ((Kd.R_reads' aH.out).2.2)); (case side2 => exact (Kd.R_reads' aH.out).2.1); rintro e Ag ⟨rfl, hb⟩; refine ⟨_, rfl, ?_⟩; replace aX := rK aX hb; replace bY := rK bY hb; replace aH := rK aH hb; replace aI := rB aI hb; replace aD := rB aD hb; replace cP := rB cP hb; replace HK := aM (Kept.below (S := (fun k_ => P0_1_ k_)) (kk HK.out) hb); replace HB := rS HB hb; (try clear hb); have yL := cA2 aI.out) | ((with_reducible refine gC (f := 121) rfl ?_); refine gL (some 111) Try.func121 #[.pointer (some ⟨gb, 0, none⟩)] ?_; (with_reducible refine (impl_Bridge_hops.calls (gb := gb) (hBK := (bk aI.out)) iD bU _ _ aA iI _ ?side1 ?side2 vW.out).mono ?_); (case side1 => exact cM ((Kd.R_reads' aH.out).2.2)); (case side2 => exact (Kd.R_reads' aH.out).2.1); rintro e Ah ⟨rfl, hb⟩; refine ⟨_, rfl, ?_⟩; replace aX := rK aX hb; replace bY := rK bY hb; replace aH := rK aH hb; replace aI := rB aI hb; replace aD := rB aD hb; replace cP := rB cP hb; replace HK := aM (Kept.below (S := (fun k_ => P0_1_ k_)) (kk HK.out) hb); replace HB := rS HB hb; (try clear hb)) | ((with_reducible refine gate_builtin (b := .append) (xs := #[.tmp 105, .tmp 113]) rfl ?_); at_builtin; refine Kd.R_append k151 (w0 := w0) w0.heap.size rfl (.tmp 105) (.tmp 113) 85 151 (.agg #[(.int .i64 0), (.int .i64 0), (.int .i64 0), (.int .i64 0), (.int .i64 0), (.int .i64 0), (.int .i64 0), (.bool false)]) 64 rfl Try.underlying85 info151 rfl (by decide) (by omega) u7 eC (⟨1, aJ, (⟨iE, iF, iG, iH⟩ : S73), iI, false⟩ : S151) [.int .i64 1, .int .i64 aJ, .int .i64 iE, .int .i64 iF, .int .i64 iG, .int .i64 iH, .int .i64 iI, .bool false] (fun k_ => (P0_1_ k_ ∨ w.heap.size ≤ k_)) (fun _ => False) rfl rfl ?aP (fun _ hk => hk.elim) ?aF ?aO ?aB ?aS ?aL ?_; (case aP => exact k151_mkM _ _ _ (⟨1, aJ, (⟨iE, iF, iG, iH⟩ : S73), iI, false⟩ : S151)); (case aB => exact (bl HB.out)); (case aF => exact (fun k_ hk => (.inr (Nat.le_trans (kk HK.out).1 hk)))); (case aO => exact (kr aX.out)); (case aS => exact (below_size (bl HB.out))); (case aL => have := LMc93.out; omega); intro zH zI ho hb hg hat; rw [← oI.out] at ho; have oJ := aM (ho); replace bY := aM (Kd.R_over' (kr bY.out) (Kd.R_typed (kr aX.out)) (by decide) hg); replace aH := aM (Kd.R_over' (kr aH.out) (Kd.R_typed (kr aX.out)) (by decide) hg); replace aI := aM (blk_grown (bk aI.out) hg (Kd.R_ne aX.out aI.out (by decide))); replace aD := aM (blk_grown (bk aD.out) hg (Kd.R_ne aX.out aD.out (by decide))); replace cP := aM (blk_grown (bk cP.out) hg (Kd.R_ne aX.out cP.out (by decide))); replace HB := aM (hb); replace HK := aM (Kept.of_grown (S := (fun k_ => P0_1_ k_)) hg (kk HK.out) (fun k_ e_ => (aX.out.1 k_ e_))); clear aX; clear ho hb hg hat))
         go_roundg iD
         case measure => have := HJ5.out; have := eV.out; have := iL.out; have := HJ75.out; omega
         case rel => exact ⟨(nP), (wS aJ), (bU), xE, H', ⟨by have := HJ5.out; have := eV.out; have := iL.out; have := HJ75.out; omega⟩, ⟨by (try simp only [hl836001_5]); (try simp only [hl64_2]); (try simp only [hl836001_2]); (with_reducible repeat (first | apply Kd.R_alloc | apply Kd.R_drewN | apply Kd.R_drew)); exact oJ.out⟩, ⟨by (try simp only [hl836001_5]); (try simp only [hl64_2]); (try simp only [hl836001_2]); (with_reducible repeat (first | apply Kd.R_alloc | apply Kd.R_drewN | apply Kd.R_drew)); exact Kd.R_mono bY.out (fun _ hk => hk.1)⟩, ⟨by (try simp only [hl836001_5]); (try simp only [hl64_2]); (try simp only [hl836001_2]); (with_reducible repeat (first | apply Kd.R_alloc | apply Kd.R_drewN | apply Kd.R_drew)); exact Kd.R_mono aH.out (fun _ hk => hk.1)⟩, ⟨by (try simp only [hl836001_5]); (try simp only [hl64_2]); (try simp only [hl836001_2]); exact bk aI.out⟩, ⟨by (try simp only [hl836001_5]); (try simp only [hl64_2]); (try simp only [hl836001_2]); exact bk aD.out⟩, ⟨kk HK.out⟩, ⟨bl HB.out⟩⟩

end Go.Proofs.Ythmijfekdeagpaa.PFnFades

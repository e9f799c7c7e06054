/- A part of the proof of laws.FnFades. No condition beyond what its theorems say. -/
import Derived.Test.YthmijfekdeagpaaVFnFadesPx5
namespace Go.Proofs.Ythmijfekdeagpaa.PFnFades
open Go.RowKit Go.Proofs.YthmijfekdeagpaaW.PrintWords Go.Proofs.YthmijfekdeagpaaW.PrintLast Go.Proofs.YthmijfekdeagpaaW.PrintMore
set_option linter.unusedVariables false
set_option linter.unusedSimpArgs false

mutual
def impl_Bridge_rootPort.l0 : Nat → Int → List (S79) → Int → Int → Int → List (S79) → Option (Int)
 | 0, _, _, _, _, _, _ => none
 | k + 1, x3, x9, aE, aA, aC, aD => if aA < aE then (if 0 ≤ aA then (if aA < (x9.length : Int) then (if ((rd_T79 x9 aA).f1 = true) then (if ((rd_T79 x9 aA).f2.f2) = aC then (impl_Bridge_rootPort.j1 k x3 aA x9 aE aA true aC aD ((rd_T79 x9 aA).f0) ((rd_T79 x9 aA).f1) ((rd_T79 x9 aA).f2.f0) ((rd_T79 x9 aA).f2.f1) ((rd_T79 x9 aA).f2.f2) ((rd_T79 x9 aA).f2.f3) ((rd_T79 x9 aA).f3) ((rd_T79 x9 aA).f4) ((rd_T79 x9 aA).f5) ((rd_T79 x9 aA).f6) ((rd_T79 x9 aA).f7)) else (if ((rd_T79 x9 aA).f2.f0) ≥ aC then (impl_Bridge_rootPort.j1 k x3 aA x9 aE aA true aC aD ((rd_T79 x9 aA).f0) ((rd_T79 x9 aA).f1) ((rd_T79 x9 aA).f2.f0) ((rd_T79 x9 aA).f2.f1) ((rd_T79 x9 aA).f2.f2) ((rd_T79 x9 aA).f2.f3) ((rd_T79 x9 aA).f3) ((rd_T79 x9 aA).f4) ((rd_T79 x9 aA).f5) ((rd_T79 x9 aA).f6) ((rd_T79 x9 aA).f7)) else (if ((rd_T79 x9 aA).f2.f1) ≥ 20 then (impl_Bridge_rootPort.j1 k x3 aA x9 aE aA true aC aD ((rd_T79 x9 aA).f0) ((rd_T79 x9 aA).f1) ((rd_T79 x9 aA).f2.f0) ((rd_T79 x9 aA).f2.f1) ((rd_T79 x9 aA).f2.f2) ((rd_T79 x9 aA).f2.f3) ((rd_T79 x9 aA).f3) ((rd_T79 x9 aA).f4) ((rd_T79 x9 aA).f5) ((rd_T79 x9 aA).f6) ((rd_T79 x9 aA).f7)) else (impl_Bridge_rootPort.j1 k x3 aA x9 aE aA (decide (((rd_T79 x9 aA).f3) ≥ 8)) aC aD ((rd_T79 x9 aA).f0) ((rd_T79 x9 aA).f1) ((rd_T79 x9 aA).f2.f0) ((rd_T79 x9 aA).f2.f1) ((rd_T79 x9 aA).f2.f2) ((rd_T79 x9 aA).f2.f3) ((rd_T79 x9 aA).f3) ((rd_T79 x9 aA).f4) ((rd_T79 x9 aA).f5) ((rd_T79 x9 aA).f6) ((rd_T79 x9 aA).f7))))) else (impl_Bridge_rootPort.j1 k x3 aA x9 aE aA true aC aD ((rd_T79 x9 aA).f0) ((rd_T79 x9 aA).f1) ((rd_T79 x9 aA).f2.f0) ((rd_T79 x9 aA).f2.f1) ((rd_T79 x9 aA).f2.f2) ((rd_T79 x9 aA).f2.f3) ((rd_T79 x9 aA).f3) ((rd_T79 x9 aA).f4) ((rd_T79 x9 aA).f5) ((rd_T79 x9 aA).f6) ((rd_T79 x9 aA).f7))) else (none)) else (none)) else (some x3)
def impl_Bridge_rootPort.j1 : Nat → Int → Int → List (S79) → Int → Int → Bool → Int → List (S79) → Bool → Bool → Int → Int → Int → Int → Int → Int → Int → Int → Bool → Option (Int)
 | 0, _, _, _, _, _, _, _, _, _, _, _, _, _, _, _, _, _, _, _ => none
 | k + 1, x3, x4, x9, aD, aE, bD, aC, aA, aN, aQ, aG, aH, aI, aJ, aT, aV, aW, aX, bA => if bD = true then (impl_Bridge_rootPort.l0 k x3 x9 aD (wrap64 (aE + 1)) aC aA) else (if x3 < 0 then (impl_Bridge_rootPort.l0 k x4 x9 aD (wrap64 (aE + 1)) aC aA) else (if 0 ≤ x3 then (if x3 < (aA.length : Int) then ((impl_Better.f k aG aH aI aJ ((rd_T79 aA x3).f2.f0) ((rd_T79 aA x3).f2.f1) ((rd_T79 aA x3).f2.f2) ((rd_T79 aA x3).f2.f3)).bind fun aK => (if aK = true then (impl_Bridge_rootPort.l0 k x4 x9 aD (wrap64 (aE + 1)) aC aA) else (impl_Bridge_rootPort.l0 k x3 x9 aD (wrap64 (aE + 1)) aC aA))) else (none)) else (none)))
end
def impl_Bridge_rootPort.f (k : Nat) (aC : Int) (aA : List (S79)) : Option (Int) := impl_Bridge_rootPort.l0 k (-1) aA (aA.length : Int) 0 aC aA
theorem impl_Bridge_rootPort.mono_l : ∀ k, (∀ y0 y1 y2 y3 y4 y5, LeO (impl_Bridge_rootPort.l0 k y0 y1 y2 y3 y4 y5) (impl_Bridge_rootPort.l0 (k + 1) y0 y1 y2 y3 y4 y5)) ∧ (∀ y0 y1 y2 y3 y4 y5 y6 y7 y8 y9 aA aC aD aE aG aH aI aJ aK, LeO (impl_Bridge_rootPort.j1 k y0 y1 y2 y3 y4 y5 y6 y7 y8 y9 aA aC aD aE aG aH aI aJ aK) (impl_Bridge_rootPort.j1 (k + 1) y0 y1 y2 y3 y4 y5 y6 y7 y8 y9 aA aC aD aE aG aH aI aJ aK))
 | 0 => by refine ⟨?_, ?_⟩ <;> intros <;> intro r h <;> simp [impl_Bridge_rootPort.l0, impl_Bridge_rootPort.j1] at h
 | k + 1 => by
  obtain ⟨ih0, ih1⟩ := impl_Bridge_rootPort.mono_l k
  refine ⟨?_, ?_⟩
  ·intro y0 y1 y2 y3 y4 y5
   unfold impl_Bridge_rootPort.l0
   repeat' first|(with_reducible first|apply ih0|apply ih1|apply impl_Better.mono|exact lR _|exact lN _|refine lI ?_ ?_|refine lB ?_ fun _ => ?_)|exact lN _|refine lI ?_ ?_|refine lB ?_ fun _ => ?_
  ·intro y0 y1 y2 y3 y4 y5 y6 y7 y8 y9 aA aC aD aE aG aH aI aJ aK
   unfold impl_Bridge_rootPort.j1
   repeat' first|(with_reducible first|apply ih0|apply ih1|apply impl_Better.mono|exact lR _|exact lN _|refine lI ?_ ?_|refine lB ?_ fun _ => ?_)|exact lN _|refine lI ?_ ?_|refine lB ?_ fun _ => ?_
theorem impl_Bridge_rootPort.mono : ∀ a0 a1 k, LeO (impl_Bridge_rootPort.f k a0 a1) (impl_Bridge_rootPort.f (k + 1) a0 a1) := by
 intro a0 a1 k
 obtain ⟨ih0, ih1⟩ := impl_Bridge_rootPort.mono_l k
 unfold impl_Bridge_rootPort.f
 repeat' first|(with_reducible first|apply ih0|apply ih1|apply impl_Better.mono|exact lR _|exact lN _|refine lI ?_ ?_|refine lB ?_ fun _ => ?_)|exact lN _|refine lI ?_ ?_|refine lB ?_ fun _ => ?_
def impl_Bridge_rootPort.T5 : Bool × List (List Nat × List Nat) := (true, [([], []), ([0], [0]), ([1], [1]), ([2], [2]), ([3], [3]), ([4, 3], [3, 4]), ([5, 3], [3, 5]), ([3], [3]), ([7, 3], [3, 7]), ([8, 3], [3, 8]), ([9, 3], [3, 9]), ([6, 10, 3], [3, 6, 10]), ([3, 11], [3, 11]), ([12, 3], [12]), ([13], [13]), ([14, 13], [13, 14]), ([15, 13], [13, 15]), ([13], [13]), ([17, 13], [13, 17]), ([18, 13], [13, 18]), ([19, 13], [13, 19]), ([16, 20, 13], [13, 16, 20]), ([13, 21], [13, 21]), ([22, 13], [22]), ([23], [23]), ([24, 23], [23, 24]), ([25, 23], [23, 25]), ([26, 23], [23, 26]), ([23, 27], [23, 27]), ([28, 23], [28]), ([29], [29]), ([30, 29], [29, 30]), ([31, 29], [29, 31]), ([29, 32], [29, 32])])
def impl_Bridge_rootPort.B5 : List Nat := [0, 1, 3, 7, 15, 31, 63, 15, 143, 399, 911, 2047, 4095, 8191, 16383, 32767, 65535, 16383, 147455, 409599, 933887, 2097151, 4194303, 8388607, 16777215, 33554431, 67108863, 134217727, 268435455, 536870911, 1073741823, 2147483647, 4294967295, 8589934591]
theorem impl_Bridge_rootPort.tab5 : rtab .any (opsOf Try.f118 5) = impl_Bridge_rootPort.T5 := by kernel_rfl
theorem impl_Bridge_rootPort.bits5 : waitsOk impl_Bridge_rootPort.T5.2 impl_Bridge_rootPort.B5 = true := by kernel_rfl
def impl_Bridge_rootPort.T6 : Bool × List (List Nat × List Nat) := (true, [([], []), ([0], [0]), ([1], [1]), ([2], [2]), ([3, 2], [2, 3]), ([2], [2]), ([5, 2], [2, 5]), ([6, 2], [2, 6]), ([7, 2], [2, 7]), ([2], [2]), ([8, 9, 2], [2, 8, 9]), ([10, 2], [2, 10]), ([11, 2], [2, 11]), ([4, 12, 2, 2], [2, 4, 12]), ([2, 13], [2, 13])])
def impl_Bridge_rootPort.B6 : List Nat := [0, 1, 3, 7, 15, 7, 39, 103, 231, 7, 999, 2023, 4071, 8191, 16383]
theorem impl_Bridge_rootPort.tab6 : rtab .any (opsOf Try.f118 6) = impl_Bridge_rootPort.T6 := by kernel_rfl
theorem impl_Bridge_rootPort.bits6 : waitsOk impl_Bridge_rootPort.T6.2 impl_Bridge_rootPort.B6 = true := by kernel_rfl
set_option maxHeartbeats 60000000 in
set_option maxRecDepth 100000 in
theorem impl_Bridge_rootPort.calls (k : Nat) (aH : Int) (dD : Option Addr) (bI : Nat) (aC : List (S79)) (r : Int) (w : World) (gb : Nat) (hBK : w.heap[gb]? = some (.cells #[aH, .slice dD aC.length bI] 28 (0, 0))) (hr0_1 : Kd.C k79 w dD aC.length aC) (hc0_1 : aC.length ≤ bI) (h : impl_Bridge_rootPort.f k aH aC = some r) :
  Calls Try.prog 118 #[.pointer (some ⟨gb, 0, none⟩)] w fun e w' => e = .returned (.int .i64 r) ∧ Below w.heap.size w w' := by
 have eI := Try.underlying28
 have eJ := Try.underlying79
 have eK := Try.underlying73
 have cX := aM hr0_1
 have eC := aM hc0_1
 clear hr0_1 hc0_1
 have HB := aM (Below.refl w.heap.size w)
 have H : (impl_Bridge_rootPort.l0 k (-1) aC (aC.length : Int) 0 aH aC) = some r := h
 clear h
 have H' := aM H
 clear H
 go_enter Try.func118, Try.ntmps118
 have aE := aM hBK
 clear hBK
 have eL := cA2 aE.out
 go_wp2
 go_loopg [3, 11] k (fun kq v3 dV w' => ∃ (aG : Int) (aA : Int), v3 = .int .i64 aG ∧ dV = .int .i64 aA ∧ Aside0 (impl_Bridge_rootPort.l0 kq aG aC (aC.length : Int) aA aH aC = some r) ∧ Aside0 (kq ≤ k) ∧ Aside0 (w'.heap[gb]? = some (.cells #[aH, (.slice dD aC.length bI)] 28 (0, 0))) ∧ Aside0 (Below w.heap.size w w'))
 case atStart => exact ⟨((-1)), (0), xE, xE, H', ⟨Nat.le_refl _⟩, ⟨bk aE.out⟩, ⟨bl HB.out⟩⟩
 case round =>
  clear H'
  repeat first|clear c1|clear p2
  obtain ⟨aG, aA, rfl, rfl, HA, bL, aE, HB⟩ := hrel
  cases gk with
  | zero => exact absurd HA.out (by simp [impl_Bridge_rootPort.l0])
  | succ k1 =>
   have H := HA.out
   clear HA
   simp only [impl_Bridge_rootPort.l0] at H
   by_cases c4 : aA < (aC.length : Int)
   case neg =>
    rw [if_neg c4] at H
    have dR := decide_eq_false c4
    clear c4
    obtain rfl := Option.some.inj H
    go_wp2
    go_ret
    exact ⟨xW, bl HB.out⟩
   rw [if_pos c4] at H
   have dR := decide_eq_true c4
   clear c4
   obtain ⟨eM, H⟩ := gI H
   obtain ⟨eN, H⟩ := gI H
   have dK := aM H
   clear H
   have dE : 0 ≤ (aA : Int) := dT
   have dF : aA < (aC.length : Int) := dT
   obtain ⟨aI, dS, cH, cK, cL, cN, cO, cP, cQ, cR, cS, cT, cD⟩ := at_T79 cX.out aA dE dF
   cases dS
   replace cH := xB HB cH
   replace cK := xB HB cK
   replace cL := xB HB cL
   replace cN := xB HB cN
   replace cO := xB HB cO
   replace cP := xB HB cP
   replace cQ := xB HB cQ
   replace cR := xB HB cR
   replace cS := xB HB cS
   replace cT := xB HB cT
   replace cD := xB HB cD
   replace dE := eq_true dE
   replace dF := eq_true dF
   go_upto_region 5 with (first | ((with_reducible refine gD (N := 5) rfl ?_); refine bE (N := 5) (cs := #[.bool false, .bool false, .int .i64 0, .int .i64 0, .int .i64 0, .int .i64 0, .int .i64 0, .int .i64 0, .int .i64 0, .int .i64 0, .bool false]) (t := 79) ?_; intro aK hg w8 hbox hb; have aD := aM (hbox); have eD := gF hg HB; have eE := gF hg HB; have dA := nM hg aE; have dB := nH hg aE; replace aE := rB aE hb; replace HB := rS HB hb; clear hb hbox hg; have eO := dB.out; have eP := dA.out; have eF := cA11 aD.out))
   (try simp only [Act.put, sA, sZ, sS])
   go_cut [49] (fun dW wc => ∃ (kq : Nat) (cC : Bool), dW = .bool cC ∧ Aside0 (impl_Bridge_rootPort.j1 kq aG aA aC (aC.length : Int) aA cC aH aC ((rd_T79 aC aA).f0) ((rd_T79 aC aA).f1) ((rd_T79 aC aA).f2.f0) ((rd_T79 aC aA).f2.f1) ((rd_T79 aC aA).f2.f2) ((rd_T79 aC aA).f2.f3) ((rd_T79 aC aA).f3) ((rd_T79 aC aA).f4) ((rd_T79 aC aA).f5) ((rd_T79 aC aA).f6) ((rd_T79 aC aA).f7) = some r) ∧ Aside0 (kq ≤ k1) ∧ Aside0 (wc.heap[gb]? = some (.cells #[aH, (.slice (some aI) aC.length bI)] 28 (0, 0))) ∧ Aside0 (wc.heap[aK]? = some (.cells #[((rd_T79 aC aA).f0), ((rd_T79 aC aA).f1), ((rd_T79 aC aA).f2.f0), ((rd_T79 aC aA).f2.f1), ((rd_T79 aC aA).f2.f2), ((rd_T79 aC aA).f2.f3), ((rd_T79 aC aA).f3), ((rd_T79 aC aA).f4), ((rd_T79 aC aA).f5), ((rd_T79 aC aA).f6), ((rd_T79 aC aA).f7)] 79 (0, 0))) ∧ Aside0 (Below w.heap.size w wc))
   case first =>
    have H := dK.out
    clear dK
    obtain ⟨bY, hbq11⟩ : ∃ b_ : Bool, b_ = ((rd_T79 aC aA).f1) := ⟨_, rfl⟩
    replace H : (if (bY = true) then (if ((rd_T79 aC aA).f2.f2) = aH then (impl_Bridge_rootPort.j1 k1 aG aA aC (aC.length : Int) aA true aH aC ((rd_T79 aC aA).f0) bY ((rd_T79 aC aA).f2.f0) ((rd_T79 aC aA).f2.f1) ((rd_T79 aC aA).f2.f2) ((rd_T79 aC aA).f2.f3) ((rd_T79 aC aA).f3) ((rd_T79 aC aA).f4) ((rd_T79 aC aA).f5) ((rd_T79 aC aA).f6) ((rd_T79 aC aA).f7)) else (if ((rd_T79 aC aA).f2.f0) ≥ aH then (impl_Bridge_rootPort.j1 k1 aG aA aC (aC.length : Int) aA true aH aC ((rd_T79 aC aA).f0) bY ((rd_T79 aC aA).f2.f0) ((rd_T79 aC aA).f2.f1) ((rd_T79 aC aA).f2.f2) ((rd_T79 aC aA).f2.f3) ((rd_T79 aC aA).f3) ((rd_T79 aC aA).f4) ((rd_T79 aC aA).f5) ((rd_T79 aC aA).f6) ((rd_T79 aC aA).f7)) else (if ((rd_T79 aC aA).f2.f1) ≥ 20 then (impl_Bridge_rootPort.j1 k1 aG aA aC (aC.length : Int) aA true aH aC ((rd_T79 aC aA).f0) bY ((rd_T79 aC aA).f2.f0) ((rd_T79 aC aA).f2.f1) ((rd_T79 aC aA).f2.f2) ((rd_T79 aC aA).f2.f3) ((rd_T79 aC aA).f3) ((rd_T79 aC aA).f4) ((rd_T79 aC aA).f5) ((rd_T79 aC aA).f6) ((rd_T79 aC aA).f7)) else (impl_Bridge_rootPort.j1 k1 aG aA aC (aC.length : Int) aA (decide (((rd_T79 aC aA).f3) ≥ 8)) aH aC ((rd_T79 aC aA).f0) bY ((rd_T79 aC aA).f2.f0) ((rd_T79 aC aA).f2.f1) ((rd_T79 aC aA).f2.f2) ((rd_T79 aC aA).f2.f3) ((rd_T79 aC aA).f3) ((rd_T79 aC aA).f4) ((rd_T79 aC aA).f5) ((rd_T79 aC aA).f6) ((rd_T79 aC aA).f7))))) else (impl_Bridge_rootPort.j1 k1 aG aA aC (aC.length : Int) aA true aH aC ((rd_T79 aC aA).f0) bY ((rd_T79 aC aA).f2.f0) ((rd_T79 aC aA).f2.f1) ((rd_T79 aC aA).f2.f2) ((rd_T79 aC aA).f2.f3) ((rd_T79 aC aA).f3) ((rd_T79 aC aA).f4) ((rd_T79 aC aA).f5) ((rd_T79 aC aA).f6) ((rd_T79 aC aA).f7))) = some r := by rw [← hbq11] at H; exact H
    have bJ := aM hbq11
    clear hbq11
    (try rw [← bJ.out])
    by_cases dC : (bY = true)
    case neg =>
     replace dC := Bool.eq_false_iff.mpr dC
     subst dC
     replace H := hF H
     have H' := aM H
     clear H
     try go_wp2
     refine nW (fun W => Aside0 (W.heap[gb]? = some (.cells #[aH, .slice (some aI) aC.length bI] 28 (0, 0))) ∧ Aside0 (W.heap[aK]? = some (.cells #[((rd_T79 aC aA).f0), .bool false, ((rd_T79 aC aA).f2.f0), ((rd_T79 aC aA).f2.f1), ((rd_T79 aC aA).f2.f2), ((rd_T79 aC aA).f2.f3), ((rd_T79 aC aA).f3), ((rd_T79 aC aA).f4), ((rd_T79 aC aA).f5), ((rd_T79 aC aA).f6), ((rd_T79 aC aA).f7)] 79 (0, 0))) ∧ Aside0 (Below w.heap.size w W)) ⟨⟨fm aE.out⟩, ⟨bm aD.out⟩, ⟨bl HB.out⟩⟩ ?_
     intro dX nn_
     replace aE := nn_.1
     replace aD := nn_.2.1
     replace HB := nn_.2.2
     clear nn_
     replace aE := aM (blk_drew aE.out)
     replace aD := aM (blk_drew aD.out)
     replace HB := aM (below_drew1 HB.out)
     refine start_ (n := 34) (S := fun w' => cS11 w' aK (.bool ((rd_T79 aC aA).f0)) (.bool false) (.int .i64 ((rd_T79 aC aA).f2.f0)) (.int .i64 ((rd_T79 aC aA).f2.f1)) (.int .i64 ((rd_T79 aC aA).f2.f2)) (.int .i64 ((rd_T79 aC aA).f2.f3)) (.int .i64 ((rd_T79 aC aA).f3)) (.int .i64 ((rd_T79 aC aA).f4)) (.int .i64 ((rd_T79 aC aA).f5)) (.int .i64 ((rd_T79 aC aA).f6)) (.bool ((rd_T79 aC aA).f7))) (ds := []) (dn 34 0) (by kernel_rfl) rfl rfl ⟨cI aD.out 0, cI aD.out 1, cI aD.out 2, cI aD.out 3, cI aD.out 4, cI aD.out 5, cI aD.out 6, cI aD.out 7, cI aD.out 8, cI aD.out 9, cI aD.out 10⟩ (fun hHeld => ?_); refine with_tabW impl_Bridge_rootPort.tab5 impl_Bridge_rootPort.bits5 (fun HT_ HW_ => ?_)
     generalize dX.drew = eQ at aE aD HB hHeld ⊢
     refine nY (N := some 16) HT_ ?_
     refine tY (N := some 17) HT_ HW_ hHeld ?_
     refine nY (N := some 18) HT_ ?_
     refine nY (N := some 19) HT_ ?_
     refine nU (N := some 20) HT_ ?_
     refine nU (N := some 21) HT_ ?_
     refine nU (N := some 22) HT_ ?_
     refine nU (N := some 23) HT_ ?_
     refine nU (N := some 24) HT_ ?_
     refine nU (N := some 25) HT_ ?_
     refine nU (N := some 26) HT_ ?_
     refine nU (N := some 27) HT_ ?_
     refine nY (N := some 28) HT_ ?_
     refine nY (N := some 29) HT_ ?_
     refine nU (N := some 30) HT_ ?_
     refine nU (N := some 31) HT_ ?_
     refine nU (N := some 32) HT_ ?_
     refine nU (N := some 33) HT_ ?_
     refine nU (N := some 34) HT_ ?_
     refine nU (N := some 35) HT_ ?_
     refine nU (N := some 36) HT_ ?_
     refine nU (N := some 37) HT_ ?_
     refine nY (N := some 38) HT_ ?_
     refine nY (N := some 39) HT_ ?_
     refine nU (N := some 40) HT_ ?_
     refine nU (N := some 41) HT_ ?_
     refine nU (N := some 42) HT_ ?_
     refine nU (N := some 43) HT_ ?_
     refine nY (N := some 44) HT_ ?_
     refine nY (N := some 45) HT_ ?_
     refine nU (N := some 46) HT_ ?_
     refine nU (N := some 47) HT_ ?_
     refine nU (N := some 48) HT_ ?_
     refine nY (N := some 49) HT_ ?_
     refine done_ (done_of HT_.out (by kernel_rfl)) ?_
     try go_wp2
     go_meet
     case rel => (try rw [← bJ.out]); exact ⟨_, (true), xE, H', ⟨by have := bL.out; first | omega | exact Nat.le_refl _⟩, ⟨bk aE.out⟩, ⟨bk aD.out⟩, ⟨bl HB.out⟩⟩
    subst dC
    replace H := hP H rfl
    by_cases cE : ((rd_T79 aC aA).f2.f2) = aH
    case pos =>
     rw [if_pos cE] at H
     have dM : (((rd_T79 aC aA).f2.f2) == aH) = true := beq_iff_eq.mpr cE
     have dN : (((rd_T79 aC aA).f2.f2) != aH) = false := bne_eq_false_iff_eq.mpr cE
     clear cE
     have H' := aM H
     clear H
     try go_wp2
     refine nW (fun W => Aside0 (W.heap[gb]? = some (.cells #[aH, .slice (some aI) aC.length bI] 28 (0, 0))) ∧ Aside0 (W.heap[aK]? = some (.cells #[((rd_T79 aC aA).f0), .bool true, ((rd_T79 aC aA).f2.f0), ((rd_T79 aC aA).f2.f1), ((rd_T79 aC aA).f2.f2), ((rd_T79 aC aA).f2.f3), ((rd_T79 aC aA).f3), ((rd_T79 aC aA).f4), ((rd_T79 aC aA).f5), ((rd_T79 aC aA).f6), ((rd_T79 aC aA).f7)] 79 (0, 0))) ∧ Aside0 (Below w.heap.size w W)) ⟨⟨fm aE.out⟩, ⟨bm aD.out⟩, ⟨bl HB.out⟩⟩ ?_
     intro dY nn_
     replace aE := nn_.1
     replace aD := nn_.2.1
     replace HB := nn_.2.2
     clear nn_
     replace aE := aM (blk_drew aE.out)
     replace aD := aM (blk_drew aD.out)
     replace HB := aM (below_drew1 HB.out)
     refine start_ (n := 34) (S := fun w' => cT11 w' aK (.bool ((rd_T79 aC aA).f0)) (.bool true) (.int .i64 ((rd_T79 aC aA).f2.f0)) (.int .i64 ((rd_T79 aC aA).f2.f1)) (.int .i64 ((rd_T79 aC aA).f2.f2)) (.int .i64 ((rd_T79 aC aA).f2.f3)) (.int .i64 ((rd_T79 aC aA).f3)) (.int .i64 ((rd_T79 aC aA).f4)) (.int .i64 ((rd_T79 aC aA).f5)) (.int .i64 ((rd_T79 aC aA).f6)) (.bool ((rd_T79 aC aA).f7)) (cS2 w' gb (.int .i64 aH) (.slice (some aI) aC.length bI))) (ds := []) (dn 34 0) (by kernel_rfl) rfl rfl ⟨cI aD.out 0, cI aD.out 1, cI aD.out 2, cI aD.out 3, cI aD.out 4, cI aD.out 5, cI aD.out 6, cI aD.out 7, cI aD.out 8, cI aD.out 9, cI aD.out 10, cI aE.out 0, cI aE.out 1⟩ (fun hHeld => ?_); refine with_tabW impl_Bridge_rootPort.tab5 impl_Bridge_rootPort.bits5 (fun HT_ HW_ => ?_)
     generalize dY.drew = eR at aE aD HB hHeld ⊢
     refine nY (N := some 16) HT_ ?_
     refine tY (N := some 17) HT_ HW_ hHeld ?_
     refine nY (N := some 18) HT_ ?_
     refine nY (N := some 19) HT_ ?_
     refine nY (N := some 20) HT_ ?_
     refine nY (N := some 21) HT_ ?_
     refine pZ 7 23 (bv 34 191) HT_ ?_
     refine pZ 8 24 (bv 34 447) HT_ ?_
     refine pZ 9 25 (bv 34 959) HT_ ?_
     refine aZ 6 22 (bv 34 1023) HT_ HW_ hHeld ?_
     refine aZ 10 26 (bv 34 2047) HT_ HW_ hHeld ?_
     refine pZ 11 27 (bv 34 4095) HT_ ?_
     refine pZ 12 28 (bv 34 8191) HT_ ?_
     refine pZ 13 29 (bv 34 16383) HT_ ?_
     refine pU (i := 14) (N := some 30) (bv 34 32767) HT_ ?_
     refine pU (i := 15) (N := some 31) (bv 34 65535) HT_ ?_
     refine pU (i := 16) (N := some 32) (bv 34 131071) HT_ ?_
     refine pU (i := 17) (N := some 33) (bv 34 262143) HT_ ?_
     refine pU (i := 18) (N := some 34) (bv 34 524287) HT_ ?_
     refine pU (i := 19) (N := some 35) (bv 34 1048575) HT_ ?_
     refine pU (i := 20) (N := some 36) (bv 34 2097151) HT_ ?_
     refine pU (i := 21) (N := some 37) (bv 34 4194303) HT_ ?_
     refine pZ 22 38 (bv 34 8388607) HT_ ?_
     refine pZ 23 39 (bv 34 16777215) HT_ ?_
     refine pU (i := 24) (N := some 40) (bv 34 33554431) HT_ ?_
     refine pU (i := 25) (N := some 41) (bv 34 67108863) HT_ ?_
     refine pU (i := 26) (N := some 42) (bv 34 134217727) HT_ ?_
     refine pU (i := 27) (N := some 43) (bv 34 268435455) HT_ ?_
     refine pZ 28 44 (bv 34 536870911) HT_ ?_
     refine pZ 29 45 (bv 34 1073741823) HT_ ?_
     refine pU (i := 30) (N := some 46) (bv 34 2147483647) HT_ ?_
     refine pU (i := 31) (N := some 47) (bv 34 4294967295) HT_ ?_
     refine pU (i := 32) (N := some 48) (bv 34 8589934591) HT_ ?_
     refine pZ 33 49 (bv 34 17179869183) HT_ ?_
     refine done_ (done_of HT_.out (by kernel_rfl)) ?_
     try go_wp2
     go_meet
     case rel => (try rw [← bJ.out]); exact ⟨_, (true), xE, H', ⟨by have := bL.out; first | omega | exact Nat.le_refl _⟩, ⟨bk aE.out⟩, ⟨bk aD.out⟩, ⟨bl HB.out⟩⟩
    rw [if_neg cE] at H
    have dM : (((rd_T79 aC aA).f2.f2) == aH) = false := beq_eq_false_iff_ne.mpr cE
    have dN : (((rd_T79 aC aA).f2.f2) != aH) = true := bne_iff_ne.mpr cE
    by_cases cU : ((rd_T79 aC aA).f2.f0) ≥ aH
    case pos =>
     rw [if_pos cU] at H
     have dO := decide_eq_true cU
     clear cU
     have H' := aM H
     clear H
     try go_wp2
     refine nW (fun W => Aside0 (W.heap[gb]? = some (.cells #[aH, .slice (some aI) aC.length bI] 28 (0, 0))) ∧ Aside0 (W.heap[aK]? = some (.cells #[((rd_T79 aC aA).f0), .bool true, ((rd_T79 aC aA).f2.f0), ((rd_T79 aC aA).f2.f1), ((rd_T79 aC aA).f2.f2), ((rd_T79 aC aA).f2.f3), ((rd_T79 aC aA).f3), ((rd_T79 aC aA).f4), ((rd_T79 aC aA).f5), ((rd_T79 aC aA).f6), ((rd_T79 aC aA).f7)] 79 (0, 0))) ∧ Aside0 (Below w.heap.size w W)) ⟨⟨fm aE.out⟩, ⟨bm aD.out⟩, ⟨bl HB.out⟩⟩ ?_
     intro dZ nn_
     replace aE := nn_.1
     replace aD := nn_.2.1
     replace HB := nn_.2.2
     clear nn_
     replace aE := aM (blk_drew aE.out)
     replace aD := aM (blk_drew aD.out)
     replace HB := aM (below_drew1 HB.out)
     refine start_ (n := 34) (S := fun w' => cT11 w' aK (.bool ((rd_T79 aC aA).f0)) (.bool true) (.int .i64 ((rd_T79 aC aA).f2.f0)) (.int .i64 ((rd_T79 aC aA).f2.f1)) (.int .i64 ((rd_T79 aC aA).f2.f2)) (.int .i64 ((rd_T79 aC aA).f2.f3)) (.int .i64 ((rd_T79 aC aA).f3)) (.int .i64 ((rd_T79 aC aA).f4)) (.int .i64 ((rd_T79 aC aA).f5)) (.int .i64 ((rd_T79 aC aA).f6)) (.bool ((rd_T79 aC aA).f7)) (cS2 w' gb (.int .i64 aH) (.slice (some aI) aC.length bI))) (ds := []) (dn 34 0) (by kernel_rfl) rfl rfl ⟨cI aD.out 0, cI aD.out 1, cI aD.out 2, cI aD.out 3, cI aD.out 4, cI aD.out 5, cI aD.out 6, cI aD.out 7, cI aD.out 8, cI aD.out 9, cI aD.out 10, cI aE.out 0, cI aE.out 1⟩ (fun hHeld => ?_); refine with_tabW impl_Bridge_rootPort.tab5 impl_Bridge_rootPort.bits5 (fun HT_ HW_ => ?_)
     generalize dZ.drew = eS at aE aD HB hHeld ⊢
     refine nY (N := some 16) HT_ ?_
     refine tY (N := some 17) HT_ HW_ hHeld ?_
     refine nY (N := some 18) HT_ ?_
     refine nY (N := some 19) HT_ ?_
     refine nY (N := some 20) HT_ ?_
     refine nY (N := some 21) HT_ ?_
     refine pZ 7 23 (bv 34 191) HT_ ?_
     refine pZ 8 24 (bv 34 447) HT_ ?_
     refine pZ 9 25 (bv 34 959) HT_ ?_
     refine aZ 6 22 (bv 34 1023) HT_ HW_ hHeld ?_
     refine aZ 10 26 (bv 34 2047) HT_ HW_ hHeld ?_
     refine pZ 11 27 (bv 34 4095) HT_ ?_
     refine pZ 12 28 (bv 34 8191) HT_ ?_
     refine pZ 13 29 (bv 34 16383) HT_ ?_
     refine pZ 14 30 (bv 34 32767) HT_ ?_
     refine pZ 15 31 (bv 34 65535) HT_ ?_
     refine pZ 17 33 (bv 34 196607) HT_ ?_
     refine pZ 18 34 (bv 34 458751) HT_ ?_
     refine pZ 19 35 (bv 34 983039) HT_ ?_
     refine aZ 16 32 (bv 34 1048575) HT_ HW_ hHeld ?_
     refine aZ 20 36 (bv 34 2097151) HT_ HW_ hHeld ?_
     refine pZ 21 37 (bv 34 4194303) HT_ ?_
     refine pZ 22 38 (bv 34 8388607) HT_ ?_
     refine pZ 23 39 (bv 34 16777215) HT_ ?_
     refine pU (i := 24) (N := some 40) (bv 34 33554431) HT_ ?_
     refine pU (i := 25) (N := some 41) (bv 34 67108863) HT_ ?_
     refine pU (i := 26) (N := some 42) (bv 34 134217727) HT_ ?_
     refine pU (i := 27) (N := some 43) (bv 34 268435455) HT_ ?_
     refine pZ 28 44 (bv 34 536870911) HT_ ?_
     refine pZ 29 45 (bv 34 1073741823) HT_ ?_
     refine pU (i := 30) (N := some 46) (bv 34 2147483647) HT_ ?_
     refine pU (i := 31) (N := some 47) (bv 34 4294967295) HT_ ?_
     refine pU (i := 32) (N := some 48) (bv 34 8589934591) HT_ ?_
     refine pZ 33 49 (bv 34 17179869183) HT_ ?_
     refine done_ (done_of HT_.out (by kernel_rfl)) ?_
     try go_wp2
     go_meet
     case rel => (try rw [← bJ.out]); exact ⟨_, (true), xE, H', ⟨by have := bL.out; first | omega | exact Nat.le_refl _⟩, ⟨bk aE.out⟩, ⟨bk aD.out⟩, ⟨bl HB.out⟩⟩
    rw [if_neg cU] at H
    have dO := decide_eq_false cU
    clear cU
    by_cases cG : ((rd_T79 aC aA).f2.f1) ≥ 20
    case pos =>
     rw [if_pos cG] at H
     have dH := decide_eq_true cG
     clear cG
     have H' := aM H
     clear H
     try go_wp2
     refine nW (fun W => Aside0 (W.heap[gb]? = some (.cells #[aH, .slice (some aI) aC.length bI] 28 (0, 0))) ∧ Aside0 (W.heap[aK]? = some (.cells #[((rd_T79 aC aA).f0), .bool true, ((rd_T79 aC aA).f2.f0), ((rd_T79 aC aA).f2.f1), ((rd_T79 aC aA).f2.f2), ((rd_T79 aC aA).f2.f3), ((rd_T79 aC aA).f3), ((rd_T79 aC aA).f4), ((rd_T79 aC aA).f5), ((rd_T79 aC aA).f6), ((rd_T79 aC aA).f7)] 79 (0, 0))) ∧ Aside0 (Below w.heap.size w W)) ⟨⟨fm aE.out⟩, ⟨bm aD.out⟩, ⟨bl HB.out⟩⟩ ?_
     intro eA nn_
     replace aE := nn_.1
     replace aD := nn_.2.1
     replace HB := nn_.2.2
     clear nn_
     replace aE := aM (blk_drew aE.out)
     replace aD := aM (blk_drew aD.out)
     replace HB := aM (below_drew1 HB.out)
     refine start_ (n := 34) (S := fun w' => cT11 w' aK (.bool ((rd_T79 aC aA).f0)) (.bool true) (.int .i64 ((rd_T79 aC aA).f2.f0)) (.int .i64 ((rd_T79 aC aA).f2.f1)) (.int .i64 ((rd_T79 aC aA).f2.f2)) (.int .i64 ((rd_T79 aC aA).f2.f3)) (.int .i64 ((rd_T79 aC aA).f3)) (.int .i64 ((rd_T79 aC aA).f4)) (.int .i64 ((rd_T79 aC aA).f5)) (.int .i64 ((rd_T79 aC aA).f6)) (.bool ((rd_T79 aC aA).f7)) (cS2 w' gb (.int .i64 aH) (.slice (some aI) aC.length bI))) (ds := []) (dn 34 0) (by kernel_rfl) rfl rfl ⟨cI aD.out 0, cI aD.out 1, cI aD.out 2, cI aD.out 3, cI aD.out 4, cI aD.out 5, cI aD.out 6, cI aD.out 7, cI aD.out 8, cI aD.out 9, cI aD.out 10, cI aE.out 0, cI aE.out 1⟩ (fun hHeld => ?_); refine with_tabW impl_Bridge_rootPort.tab5 impl_Bridge_rootPort.bits5 (fun HT_ HW_ => ?_)
     generalize eA.drew = eT at aE aD HB hHeld ⊢
     refine nY (N := some 16) HT_ ?_
     refine tY (N := some 17) HT_ HW_ hHeld ?_
     refine nY (N := some 18) HT_ ?_
     refine nY (N := some 19) HT_ ?_
     refine nY (N := some 20) HT_ ?_
     refine nY (N := some 21) HT_ ?_
     refine pZ 7 23 (bv 34 191) HT_ ?_
     refine pZ 8 24 (bv 34 447) HT_ ?_
     refine pZ 9 25 (bv 34 959) HT_ ?_
     refine aZ 6 22 (bv 34 1023) HT_ HW_ hHeld ?_
     refine aZ 10 26 (bv 34 2047) HT_ HW_ hHeld ?_
     refine pZ 11 27 (bv 34 4095) HT_ ?_
     refine pZ 12 28 (bv 34 8191) HT_ ?_
     refine pZ 13 29 (bv 34 16383) HT_ ?_
     refine pZ 14 30 (bv 34 32767) HT_ ?_
     refine pZ 15 31 (bv 34 65535) HT_ ?_
     refine pZ 17 33 (bv 34 196607) HT_ ?_
     refine pZ 18 34 (bv 34 458751) HT_ ?_
     refine pZ 19 35 (bv 34 983039) HT_ ?_
     refine aZ 16 32 (bv 34 1048575) HT_ HW_ hHeld ?_
     refine aZ 20 36 (bv 34 2097151) HT_ HW_ hHeld ?_
     refine pZ 21 37 (bv 34 4194303) HT_ ?_
     refine pZ 22 38 (bv 34 8388607) HT_ ?_
     refine pZ 23 39 (bv 34 16777215) HT_ ?_
     refine pZ 24 40 (bv 34 33554431) HT_ ?_
     refine pZ 25 41 (bv 34 67108863) HT_ ?_
     refine aZ 26 42 (bv 34 134217727) HT_ HW_ hHeld ?_
     refine pZ 27 43 (bv 34 268435455) HT_ ?_
     refine pZ 28 44 (bv 34 536870911) HT_ ?_
     refine pZ 29 45 (bv 34 1073741823) HT_ ?_
     refine pU (i := 30) (N := some 46) (bv 34 2147483647) HT_ ?_
     refine pU (i := 31) (N := some 47) (bv 34 4294967295) HT_ ?_
     refine pU (i := 32) (N := some 48) (bv 34 8589934591) HT_ ?_
     refine pZ 33 49 (bv 34 17179869183) HT_ ?_
     refine done_ (done_of HT_.out (by kernel_rfl)) ?_
     try go_wp2
     go_meet
     case rel => (try rw [← bJ.out]); exact ⟨_, (true), xE, H', ⟨by have := bL.out; first | omega | exact Nat.le_refl _⟩, ⟨bk aE.out⟩, ⟨bk aD.out⟩, ⟨bl HB.out⟩⟩
    rw [if_neg cG] at H
    have dH := decide_eq_false cG
    clear cG
    have H' := aM H
    clear H
    try go_wp2
    refine nW (fun W => Aside0 (W.heap[gb]? = some (.cells #[aH, .slice (some aI) aC.length bI] 28 (0, 0))) ∧ Aside0 (W.heap[aK]? = some (.cells #[((rd_T79 aC aA).f0), .bool true, ((rd_T79 aC aA).f2.f0), ((rd_T79 aC aA).f2.f1), ((rd_T79 aC aA).f2.f2), ((rd_T79 aC aA).f2.f3), ((rd_T79 aC aA).f3), ((rd_T79 aC aA).f4), ((rd_T79 aC aA).f5), ((rd_T79 aC aA).f6), ((rd_T79 aC aA).f7)] 79 (0, 0))) ∧ Aside0 (Below w.heap.size w W)) ⟨⟨fm aE.out⟩, ⟨bm aD.out⟩, ⟨bl HB.out⟩⟩ ?_
    intro eB nn_
    replace aE := nn_.1
    replace aD := nn_.2.1
    replace HB := nn_.2.2
    clear nn_
    replace aE := aM (blk_drew aE.out)
    replace aD := aM (blk_drew aD.out)
    replace HB := aM (below_drew1 HB.out)
    refine start_ (n := 34) (S := fun w' => cT11 w' aK (.bool ((rd_T79 aC aA).f0)) (.bool true) (.int .i64 ((rd_T79 aC aA).f2.f0)) (.int .i64 ((rd_T79 aC aA).f2.f1)) (.int .i64 ((rd_T79 aC aA).f2.f2)) (.int .i64 ((rd_T79 aC aA).f2.f3)) (.int .i64 ((rd_T79 aC aA).f3)) (.int .i64 ((rd_T79 aC aA).f4)) (.int .i64 ((rd_T79 aC aA).f5)) (.int .i64 ((rd_T79 aC aA).f6)) (.bool ((rd_T79 aC aA).f7)) (cS2 w' gb (.int .i64 aH) (.slice (some aI) aC.length bI))) (ds := []) (dn 34 0) (by kernel_rfl) rfl rfl ⟨cI aD.out 0, cI aD.out 1, cI aD.out 2, cI aD.out 3, cI aD.out 4, cI aD.out 5, cI aD.out 6, cI aD.out 7, cI aD.out 8, cI aD.out 9, cI aD.out 10, cI aE.out 0, cI aE.out 1⟩ (fun hHeld => ?_); refine with_tabW impl_Bridge_rootPort.tab5 impl_Bridge_rootPort.bits5 (fun HT_ HW_ => ?_)
    generalize eB.drew = eU at aE aD HB hHeld ⊢
    refine nY (N := some 16) HT_ ?_
    refine tY (N := some 17) HT_ HW_ hHeld ?_
    refine nY (N := some 18) HT_ ?_
    refine nY (N := some 19) HT_ ?_
    refine nY (N := some 20) HT_ ?_
    refine nY (N := some 21) HT_ ?_
    refine pZ 7 23 (bv 34 191) HT_ ?_
    refine pZ 8 24 (bv 34 447) HT_ ?_
    refine pZ 9 25 (bv 34 959) HT_ ?_
    refine aZ 6 22 (bv 34 1023) HT_ HW_ hHeld ?_
    refine aZ 10 26 (bv 34 2047) HT_ HW_ hHeld ?_
    refine pZ 11 27 (bv 34 4095) HT_ ?_
    refine pZ 12 28 (bv 34 8191) HT_ ?_
    refine pZ 13 29 (bv 34 16383) HT_ ?_
    refine pZ 14 30 (bv 34 32767) HT_ ?_
    refine pZ 15 31 (bv 34 65535) HT_ ?_
    refine pZ 17 33 (bv 34 196607) HT_ ?_
    refine pZ 18 34 (bv 34 458751) HT_ ?_
    refine pZ 19 35 (bv 34 983039) HT_ ?_
    refine aZ 16 32 (bv 34 1048575) HT_ HW_ hHeld ?_
    refine aZ 20 36 (bv 34 2097151) HT_ HW_ hHeld ?_
    refine pZ 21 37 (bv 34 4194303) HT_ ?_
    refine pZ 22 38 (bv 34 8388607) HT_ ?_
    refine pZ 23 39 (bv 34 16777215) HT_ ?_
    refine pZ 24 40 (bv 34 33554431) HT_ ?_
    refine pZ 25 41 (bv 34 67108863) HT_ ?_
    refine aZ 26 42 (bv 34 134217727) HT_ HW_ hHeld ?_
    refine pZ 27 43 (bv 34 268435455) HT_ ?_
    refine pZ 28 44 (bv 34 536870911) HT_ ?_
    refine pZ 29 45 (bv 34 1073741823) HT_ ?_
    refine pZ 30 46 (bv 34 2147483647) HT_ ?_
    refine aZ 31 47 (bv 34 4294967295) HT_ HW_ hHeld ?_
    refine pZ 32 48 (bv 34 8589934591) HT_ ?_
    refine pZ 33 49 (bv 34 17179869183) HT_ ?_
    refine done_ (done_of HT_.out (by kernel_rfl)) ?_
    try go_wp2
    go_meet
    case rel => (try rw [← bJ.out]); exact ⟨_, (decide (((rd_T79 aC aA).f3) ≥ 8)), xE, H', ⟨by have := bL.out; first | omega | exact Nat.le_refl _⟩, ⟨bk aE.out⟩, ⟨bk aD.out⟩, ⟨bl HB.out⟩⟩
   case rest =>
    clear dK
    repeat first|clear c1|clear p2|clear dC|clear cG|clear dH
    obtain ⟨kq, cC, rfl, HA, HJ6, aE, aD, HB⟩ := hcut
    cases kq with
    | zero => exact absurd HA.out (by simp [impl_Bridge_rootPort.j1])
    | succ cV =>
     have H := HA.out
     clear HA
     simp only [impl_Bridge_rootPort.j1] at H
     by_cases dI : cC = true
     case pos =>
      subst dI
      replace H := hP H rfl
      have H' := aM H
      clear H
      go_wp2
      go_roundg cV
      case measure => have := bL.out; have := HJ6.out; omega
      case rel => (try rw [← bJ.out]); exact ⟨(aG), (wS aA), xE, xE, H', ⟨by have := bL.out; have := HJ6.out; omega⟩, ⟨bk aE.out⟩, ⟨bl HB.out⟩⟩
     replace dI := Bool.eq_false_iff.mpr dI
     subst dI
     replace H := hF H
     by_cases cW : aG < 0
     case pos =>
      rw [if_pos cW] at H
      have dP := decide_eq_true cW
      clear cW
      have H' := aM H
      clear H
      try go_wp2
      replace aE := aM (blk_drew aE.out)
      replace aD := aM (blk_drew aD.out)
      replace HB := aM (below_drew1 HB.out)
      refine start_ (n := 15) (S := fun w' => True) (ds := []) (dn 15 0) (by kernel_rfl) rfl rfl trivial (fun hHeld => ?_); refine with_tabW impl_Bridge_rootPort.tab6 impl_Bridge_rootPort.bits6 (fun HT_ HW_ => ?_)
      generalize wc.drew = eV at aE aD HB hHeld ⊢
      refine nY (N := some 50) HT_ ?_
      refine nY (N := some 51) HT_ ?_
      refine nY (N := some 52) HT_ ?_
      refine nU (N := some 53) HT_ ?_
      refine nU (N := some 54) HT_ ?_
      refine nU (N := some 55) HT_ ?_
      refine nU (N := some 56) HT_ ?_
      refine nU (N := some 57) HT_ ?_
      refine nU (N := some 58) HT_ ?_
      refine nU (N := some 59) HT_ ?_
      refine nU (N := some 60) HT_ ?_
      refine nU (N := some 61) HT_ ?_
      refine nU (N := some 62) HT_ ?_
      refine nU (N := some 63) HT_ ?_
      refine nY (N := some 64) HT_ ?_
      refine done_ (done_of HT_.out (by kernel_rfl)) ?_
      try go_wp2
      go_roundg cV
      case measure => have := bL.out; have := HJ6.out; omega
      case rel => (try rw [← bJ.out]); exact ⟨(aA), (wS aA), xE, xE, H', ⟨by have := bL.out; have := HJ6.out; omega⟩, ⟨bk aE.out⟩, ⟨bl HB.out⟩⟩
     rw [if_neg cW] at H
     have dP := decide_eq_false cW
     clear cW
     obtain ⟨eG, H⟩ := gI H
     obtain ⟨eH, H⟩ := gI H
     obtain ⟨dU, dL, H⟩ := hB H
     have dQ := aM dL
     clear dL
     by_cases dJ : dU = true
     case pos =>
      subst dJ
      replace H := hP H rfl
      have H' := aM H
      clear H
      try go_wp2
      replace aE := aM (blk_drew aE.out)
      replace aD := aM (blk_drew aD.out)
      replace HB := aM (below_drew1 HB.out)
      have bZ : 0 ≤ (aG : Int) := dT
      have cA : aG < (aC.length : Int) := dT
      obtain ⟨cY, dG, aN, aQ, aT, aV, aW, aX, bA, bD, bG, bH, aJ⟩ := at_T79 cX.out aG bZ cA
      have bK := aJ
      have bM := bH
      have bN := bG
      have bO := bD
      have bP := bA
      have bQ := aX
      have bT := aW
      have bU := aV
      have bV := aT
      have bW := aQ
      have bX := aN
      obtain rfl : aI = cY := (by injection dG)
      replace aN := xB HB aN
      replace aQ := xB HB aQ
      replace aT := xB HB aT
      replace aV := xB HB aV
      replace aW := xB HB aW
      replace aX := xB HB aX
      replace bA := xB HB bA
      replace bD := xB HB bD
      replace bG := xB HB bG
      replace bH := xB HB bH
      replace aJ := xB HB aJ
      replace bZ := eq_true bZ
      replace cA := eq_true cA
      refine start_ (n := 15) (S := fun w' => cT11 w' aK (.bool ((rd_T79 aC aA).f0)) (.bool ((rd_T79 aC aA).f1)) (.int .i64 ((rd_T79 aC aA).f2.f0)) (.int .i64 ((rd_T79 aC aA).f2.f1)) (.int .i64 ((rd_T79 aC aA).f2.f2)) (.int .i64 ((rd_T79 aC aA).f2.f3)) (.int .i64 ((rd_T79 aC aA).f3)) (.int .i64 ((rd_T79 aC aA).f4)) (.int .i64 ((rd_T79 aC aA).f5)) (.int .i64 ((rd_T79 aC aA).f6)) (.bool ((rd_T79 aC aA).f7)) (cT2 w' gb (.int .i64 aH) (.slice (some aI) aC.length bI) (cE79 w' aI (aG).toNat (rd_T79 aC aG)))) (ds := []) (dn 15 0) (by kernel_rfl) rfl rfl ⟨cI aD.out 0, cI aD.out 1, cI aD.out 2, cI aD.out 3, cI aD.out 4, cI aD.out 5, cI aD.out 6, cI aD.out 7, cI aD.out 8, cI aD.out 9, cI aD.out 10, cI aE.out 0, cI aE.out 1, (xB HB bX), (xB HB bW), (xB HB bV), (xB HB bU), (xB HB bT), (xB HB bQ), (xB HB bP), (xB HB bO), (xB HB bN), (xB HB bM), (xB HB bK)⟩ (fun hHeld => ?_); refine with_tabW impl_Bridge_rootPort.tab6 impl_Bridge_rootPort.bits6 (fun HT_ HW_ => ?_)
      generalize wc.drew = eW at aE aD HB aN aQ aJ aT aV aW aX bA bD bG bH hHeld ⊢
      refine nY (N := some 50) HT_ ?_
      refine nY (N := some 51) HT_ ?_
      refine nY (N := some 52) HT_ ?_
      refine nY (N := some 53) HT_ ?_
      refine pZ 5 55 (bv 15 47) HT_ ?_
      refine pZ 6 56 (bv 15 111) HT_ ?_
      refine pZ 7 57 (bv 15 239) HT_ ?_
      refine pZ 9 59 (bv 15 751) HT_ ?_
      refine aZ 4 54 (bv 15 767) HT_ HW_ hHeld ?_
      refine aZ 8 58 (bv 15 1023) HT_ HW_ hHeld ?_
      refine pZ 10 60 (bv 15 2047) HT_ ?_
      refine pZ 11 61 (bv 15 4095) HT_ ?_
      refine aZ 12 62 (bv 15 8191) HT_ HW_ hHeld ?_
      refine one_ (i := 13) (N := some 63) (bv 15 16383) rfl rfl (one_of HT_.out (by kernel_rfl)) (by decide) (fun K hK => ?_)
      refine goes_ Try.func47 (by kernel_rfl) rfl #[.agg #[((rd_T79 aC aA).f2.f0), ((rd_T79 aC aA).f2.f1), ((rd_T79 aC aA).f2.f2), ((rd_T79 aC aA).f2.f3)], .agg #[((rd_T79 aC aG).f2.f0), ((rd_T79 aC aG).f2.f1), ((rd_T79 aC aG).f2.f2), ((rd_T79 aC aG).f2.f3)]] (by rfl) rfl rfl xR ?_
      with_reducible refine (impl_Better.calls cV ((rd_T79 aC aA).f2.f0) ((rd_T79 aC aA).f2.f1) ((rd_T79 aC aA).f2.f2) ((rd_T79 aC aA).f2.f3) ((rd_T79 aC aG).f2.f0) ((rd_T79 aC aG).f2.f1) ((rd_T79 aC aG).f2.f2) ((rd_T79 aC aG).f2.f3) true _ dQ.out).mono ?_
      rintro e eX ⟨rfl, hb⟩
      refine ⟨_, rfl, ?_⟩
      replace aE := rB aE hb
      replace aD := rB aD hb
      replace HB := rS HB hb
      (try clear hb)
      (try clear hb2)
      (try clear hk)
      (try clear hi)
      refine hK.out _ _ ⟨cI aD.out 0, cI aD.out 1, cI aD.out 2, cI aD.out 3, cI aD.out 4, cI aD.out 5, cI aD.out 6, cI aD.out 7, cI aD.out 8, cI aD.out 9, cI aD.out 10, cI aE.out 0, cI aE.out 1, (xB HB bX), (xB HB bW), (xB HB bV), (xB HB bU), (xB HB bT), (xB HB bQ), (xB HB bP), (xB HB bO), (xB HB bN), (xB HB bM), (xB HB bK)⟩ (fun hHeld => ?_)
      clear hK K
      refine norm_ (a' := ?_) ?_ ?_
      rotate_left
      ·show Act.put _ (some 63) _ = _
       simp only [Act.put, sA, sZ, sS, i64_w, i32_w]
       rfl
      refine pZ 14 64 (bv 15 32767) HT_ ?_
      refine done_ (done_of HT_.out (by kernel_rfl)) ?_
      try go_wp2
      go_roundg cV
      case measure => have := bL.out; have := HJ6.out; omega
      case rel => (try rw [← bJ.out]); exact ⟨(aA), (wS aA), xE, xE, H', ⟨by have := bL.out; have := HJ6.out; omega⟩, ⟨bk aE.out⟩, ⟨bl HB.out⟩⟩
     replace dJ := Bool.eq_false_iff.mpr dJ
     subst dJ
     replace H := hF H
     have H' := aM H
     clear H
     try go_wp2
     replace aE := aM (blk_drew aE.out)
     replace aD := aM (blk_drew aD.out)
     replace HB := aM (below_drew1 HB.out)
     have bZ : 0 ≤ (aG : Int) := dT
     have cA : aG < (aC.length : Int) := dT
     obtain ⟨cY, dG, aN, aQ, aT, aV, aW, aX, bA, bD, bG, bH, aJ⟩ := at_T79 cX.out aG bZ cA
     have bK := aJ
     have bM := bH
     have bN := bG
     have bO := bD
     have bP := bA
     have bQ := aX
     have bT := aW
     have bU := aV
     have bV := aT
     have bW := aQ
     have bX := aN
     obtain rfl : aI = cY := (by injection dG)
     replace aN := xB HB aN
     replace aQ := xB HB aQ
     replace aT := xB HB aT
     replace aV := xB HB aV
     replace aW := xB HB aW
     replace aX := xB HB aX
     replace bA := xB HB bA
     replace bD := xB HB bD
     replace bG := xB HB bG
     replace bH := xB HB bH
     replace aJ := xB HB aJ
     replace bZ := eq_true bZ
     replace cA := eq_true cA
     refine start_ (n := 15) (S := fun w' => cT11 w' aK (.bool ((rd_T79 aC aA).f0)) (.bool ((rd_T79 aC aA).f1)) (.int .i64 ((rd_T79 aC aA).f2.f0)) (.int .i64 ((rd_T79 aC aA).f2.f1)) (.int .i64 ((rd_T79 aC aA).f2.f2)) (.int .i64 ((rd_T79 aC aA).f2.f3)) (.int .i64 ((rd_T79 aC aA).f3)) (.int .i64 ((rd_T79 aC aA).f4)) (.int .i64 ((rd_T79 aC aA).f5)) (.int .i64 ((rd_T79 aC aA).f6)) (.bool ((rd_T79 aC aA).f7)) (cT2 w' gb (.int .i64 aH) (.slice (some aI) aC.length bI) (cE79 w' aI (aG).toNat (rd_T79 aC aG)))) (ds := []) (dn 15 0) (by kernel_rfl) rfl rfl ⟨cI aD.out 0, cI aD.out 1, cI aD.out 2, cI aD.out 3, cI aD.out 4, cI aD.out 5, cI aD.out 6, cI aD.out 7, cI aD.out 8, cI aD.out 9, cI aD.out 10, cI aE.out 0, cI aE.out 1, (xB HB bX), (xB HB bW), (xB HB bV), (xB HB bU), (xB HB bT), (xB HB bQ), (xB HB bP), (xB HB bO), (xB HB bN), (xB HB bM), (xB HB bK)⟩ (fun hHeld => ?_); refine with_tabW impl_Bridge_rootPort.tab6 impl_Bridge_rootPort.bits6 (fun HT_ HW_ => ?_)
     generalize wc.drew = eY at aE aD HB aN aQ aJ aT aV aW aX bA bD bG bH hHeld ⊢
     refine nY (N := some 50) HT_ ?_
     refine nY (N := some 51) HT_ ?_
     refine nY (N := some 52) HT_ ?_
     refine nY (N := some 53) HT_ ?_
     refine pZ 5 55 (bv 15 47) HT_ ?_
     refine pZ 6 56 (bv 15 111) HT_ ?_
     refine pZ 7 57 (bv 15 239) HT_ ?_
     refine pZ 9 59 (bv 15 751) HT_ ?_
     refine aZ 4 54 (bv 15 767) HT_ HW_ hHeld ?_
     refine aZ 8 58 (bv 15 1023) HT_ HW_ hHeld ?_
     refine pZ 10 60 (bv 15 2047) HT_ ?_
     refine pZ 11 61 (bv 15 4095) HT_ ?_
     refine aZ 12 62 (bv 15 8191) HT_ HW_ hHeld ?_
     refine one_ (i := 13) (N := some 63) (bv 15 16383) rfl rfl (one_of HT_.out (by kernel_rfl)) (by decide) (fun K hK => ?_)
     refine goes_ Try.func47 (by kernel_rfl) rfl #[.agg #[((rd_T79 aC aA).f2.f0), ((rd_T79 aC aA).f2.f1), ((rd_T79 aC aA).f2.f2), ((rd_T79 aC aA).f2.f3)], .agg #[((rd_T79 aC aG).f2.f0), ((rd_T79 aC aG).f2.f1), ((rd_T79 aC aG).f2.f2), ((rd_T79 aC aG).f2.f3)]] (by rfl) rfl rfl xR ?_
     with_reducible refine (impl_Better.calls cV ((rd_T79 aC aA).f2.f0) ((rd_T79 aC aA).f2.f1) ((rd_T79 aC aA).f2.f2) ((rd_T79 aC aA).f2.f3) ((rd_T79 aC aG).f2.f0) ((rd_T79 aC aG).f2.f1) ((rd_T79 aC aG).f2.f2) ((rd_T79 aC aG).f2.f3) false _ dQ.out).mono ?_
     rintro e eZ ⟨rfl, hb⟩
     refine ⟨_, rfl, ?_⟩
     replace aE := rB aE hb
     replace aD := rB aD hb
     replace HB := rS HB hb
     (try clear hb)
     (try clear hb2)
     (try clear hk)
     (try clear hi)
     refine hK.out _ _ ⟨cI aD.out 0, cI aD.out 1, cI aD.out 2, cI aD.out 3, cI aD.out 4, cI aD.out 5, cI aD.out 6, cI aD.out 7, cI aD.out 8, cI aD.out 9, cI aD.out 10, cI aE.out 0, cI aE.out 1, (xB HB bX), (xB HB bW), (xB HB bV), (xB HB bU), (xB HB bT), (xB HB bQ), (xB HB bP), (xB HB bO), (xB HB bN), (xB HB bM), (xB HB bK)⟩ (fun hHeld => ?_)
     clear hK K
     refine norm_ (a' := ?_) ?_ ?_
     rotate_left
     ·show Act.put _ (some 63) _ = _
      simp only [Act.put, sA, sZ, sS, i64_w, i32_w]
      rfl
     refine pZ 14 64 (bv 15 32767) HT_ ?_
     refine done_ (done_of HT_.out (by kernel_rfl)) ?_
     try go_wp2
     go_roundg cV
     case measure => have := bL.out; have := HJ6.out; omega
     case rel => (try rw [← bJ.out]); exact ⟨(aG), (wS aA), xE, xE, H', ⟨by have := bL.out; have := HJ6.out; omega⟩, ⟨bk aE.out⟩, ⟨bl HB.out⟩⟩

end Go.Proofs.Ythmijfekdeagpaa.PFnFades

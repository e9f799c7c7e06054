/- Of the proof of laws.FnRootPorts: a part. No condition beyond what its theorems say. -/
import Derived.Test.YthmijfekdeagpaaVFnRootPortsPx13
namespace Go.Proofs.Ythmijfekdeagpaa.PFnRootPorts
open Go.RowKit Go.Proofs.YthmijfekdeagpaaW.PrintWords Go.Proofs.YthmijfekdeagpaaW.PrintLast Go.Proofs.YthmijfekdeagpaaW.PrintMore
attribute [local go_sem] max2_int min2_int max_two min_two max_three min_three max_four min_four   -- for this text's walks alone
set_option linter.unusedVariables false
set_option linter.unusedSimpArgs false

mutual
def impl_Bridge_rootPort.l0 : Nat → Int → List (S79) → Int → Int → Int → List (S79) → Option (Int)
 | 0, _, _, _, _, _, _ => none
 | k + 1, x3, x9, aE, aA, aC, aD => if aA < aE then (if 0 ≤ aA then (if aA < (x9.length : Int) then (if ((rd_T79 x9 aA).f1 = true) then (if ((rd_T79 x9 aA).f2.f2) = aC then (impl_Bridge_rootPort.j1 k x3 aA x9 aE aA true aC aD ((rd_T79 x9 aA).f0) ((rd_T79 x9 aA).f1) ((rd_T79 x9 aA).f2.f0) ((rd_T79 x9 aA).f2.f1) ((rd_T79 x9 aA).f2.f2) ((rd_T79 x9 aA).f2.f3) ((rd_T79 x9 aA).f3) ((rd_T79 x9 aA).f4) ((rd_T79 x9 aA).f5) ((rd_T79 x9 aA).f6) ((rd_T79 x9 aA).f7)) else (if ((rd_T79 x9 aA).f2.f0) ≥ aC then (impl_Bridge_rootPort.j1 k x3 aA x9 aE aA true aC aD ((rd_T79 x9 aA).f0) ((rd_T79 x9 aA).f1) ((rd_T79 x9 aA).f2.f0) ((rd_T79 x9 aA).f2.f1) ((rd_T79 x9 aA).f2.f2) ((rd_T79 x9 aA).f2.f3) ((rd_T79 x9 aA).f3) ((rd_T79 x9 aA).f4) ((rd_T79 x9 aA).f5) ((rd_T79 x9 aA).f6) ((rd_T79 x9 aA).f7)) else (if ((rd_T79 x9 aA).f2.f1) ≥ 20 then (impl_Bridge_rootPort.j1 k x3 aA x9 aE aA true aC aD ((rd_T79 x9 aA).f0) ((rd_T79 x9 aA).f1) ((rd_T79 x9 aA).f2.f0) ((rd_T79 x9 aA).f2.f1) ((rd_T79 x9 aA).f2.f2) ((rd_T79 x9 aA).f2.f3) ((rd_T79 x9 aA).f3) ((rd_T79 x9 aA).f4) ((rd_T79 x9 aA).f5) ((rd_T79 x9 aA).f6) ((rd_T79 x9 aA).f7)) else (impl_Bridge_rootPort.j1 k x3 aA x9 aE aA (decide (((rd_T79 x9 aA).f3) ≥ 8)) aC aD ((rd_T79 x9 aA).f0) ((rd_T79 x9 aA).f1) ((rd_T79 x9 aA).f2.f0) ((rd_T79 x9 aA).f2.f1) ((rd_T79 x9 aA).f2.f2) ((rd_T79 x9 aA).f2.f3) ((rd_T79 x9 aA).f3) ((rd_T79 x9 aA).f4) ((rd_T79 x9 aA).f5) ((rd_T79 x9 aA).f6) ((rd_T79 x9 aA).f7))))) else (impl_Bridge_rootPort.j1 k x3 aA x9 aE aA true aC aD ((rd_T79 x9 aA).f0) ((rd_T79 x9 aA).f1) ((rd_T79 x9 aA).f2.f0) ((rd_T79 x9 aA).f2.f1) ((rd_T79 x9 aA).f2.f2) ((rd_T79 x9 aA).f2.f3) ((rd_T79 x9 aA).f3) ((rd_T79 x9 aA).f4) ((rd_T79 x9 aA).f5) ((rd_T79 x9 aA).f6) ((rd_T79 x9 aA).f7))) else (none)) else (none)) else (some x3)
def impl_Bridge_rootPort.j1 : Nat → Int → Int → List (S79) → Int → Int → Bool → Int → List (S79) → Bool → Bool → Int → Int → Int → Int → Int → Int → Int → Int → Bool → Option (Int)
 | 0, _, _, _, _, _, _, _, _, _, _, _, _, _, _, _, _, _, _, _ => none
 | k + 1, x3, x4, x9, aD, aE, bA, aC, aA, aN, aQ, aG, aH, aI, aJ, aT, aV, aW, aX, aZ => if bA = true then (impl_Bridge_rootPort.l0 k x3 x9 aD (wrap64 (aE + 1)) aC aA) else (if x3 < 0 then (impl_Bridge_rootPort.l0 k x4 x9 aD (wrap64 (aE + 1)) aC aA) else (if 0 ≤ x3 then (if x3 < (aA.length : Int) then ((impl_Better.f k aG aH aI aJ ((rd_T79 aA x3).f2.f0) ((rd_T79 aA x3).f2.f1) ((rd_T79 aA x3).f2.f2) ((rd_T79 aA x3).f2.f3)).bind fun aK => (if aK = true then (impl_Bridge_rootPort.l0 k x4 x9 aD (wrap64 (aE + 1)) aC aA) else (impl_Bridge_rootPort.l0 k x3 x9 aD (wrap64 (aE + 1)) aC aA))) else (none)) else (none)))
end
def impl_Bridge_rootPort.f (k : Nat) (aC : Int) (aA : List (S79)) : Option (Int) := impl_Bridge_rootPort.l0 k (-1) aA (aA.length : Int) 0 aC aA
theorem impl_Bridge_rootPort.mono_l : ∀ k, (∀ y0 y1 y2 y3 y4 y5, LeO (impl_Bridge_rootPort.l0 k y0 y1 y2 y3 y4 y5) (impl_Bridge_rootPort.l0 (k + 1) y0 y1 y2 y3 y4 y5)) ∧ (∀ y0 y1 y2 y3 y4 y5 y6 y7 y8 y9 aA aC aD aE aG aH aI aJ aK, LeO (impl_Bridge_rootPort.j1 k y0 y1 y2 y3 y4 y5 y6 y7 y8 y9 aA aC aD aE aG aH aI aJ aK) (impl_Bridge_rootPort.j1 (k + 1) y0 y1 y2 y3 y4 y5 y6 y7 y8 y9 aA aC aD aE aG aH aI aJ aK))
 | 0 => ⟨fun _ _ _ _ _ _ r h => by simp [impl_Bridge_rootPort.l0] at h, fun _ _ _ _ _ _ _ _ _ _ _ _ _ _ _ _ _ _ _ r h => by simp [impl_Bridge_rootPort.j1] at h⟩
 | k + 1 => by
  obtain ⟨ih0, ih1⟩ := impl_Bridge_rootPort.mono_l k
  refine ⟨?_, ?_⟩
  ·intro y0 y1 y2 y3 y4 y5
   unfold impl_Bridge_rootPort.l0
   repeat' first|(with_reducible first|apply ih0|apply ih1|apply impl_Better.mono|exact LeO.refl _|exact LeO.none _|refine LeO.ite ?_ ?_|refine LeO.bind ?_ (fun _ => ?_))|exact LeO.none _|refine LeO.ite ?_ ?_|refine LeO.bind ?_ (fun _ => ?_)
  ·intro y0 y1 y2 y3 y4 y5 y6 y7 y8 y9 aA aC aD aE aG aH aI aJ aK
   unfold impl_Bridge_rootPort.j1
   repeat' first|(with_reducible first|apply ih0|apply ih1|apply impl_Better.mono|exact LeO.refl _|exact LeO.none _|refine LeO.ite ?_ ?_|refine LeO.bind ?_ (fun _ => ?_))|exact LeO.none _|refine LeO.ite ?_ ?_|refine LeO.bind ?_ (fun _ => ?_)
theorem impl_Bridge_rootPort.mono : ∀ a0 a1 k, LeO (impl_Bridge_rootPort.f k a0 a1) (impl_Bridge_rootPort.f (k + 1) a0 a1) := by
 intro a0 a1 k
 obtain ⟨ih0, ih1⟩ := impl_Bridge_rootPort.mono_l k
 unfold impl_Bridge_rootPort.f
 repeat' first|(with_reducible first|apply ih0|apply ih1|apply impl_Better.mono|exact LeO.refl _|exact LeO.none _|refine LeO.ite ?_ ?_|refine LeO.bind ?_ (fun _ => ?_))|exact LeO.none _|refine LeO.ite ?_ ?_|refine LeO.bind ?_ (fun _ => ?_)
def impl_Bridge_rootPort.T5 : Bool × List (List Nat × List Nat) := (true, [([], []), ([0], [0]), ([1], [1]), ([2], [2]), ([3], [3]), ([4, 3], [3, 4]), ([5, 3], [3, 5]), ([3], [3]), ([7, 3], [3, 7]), ([8, 3], [3, 8]), ([9, 3], [3, 9]), ([6, 10, 3], [3, 6, 10]), ([3, 11], [3, 11]), ([12, 3], [12]), ([13], [13]), ([14, 13], [13, 14]), ([15, 13], [13, 15]), ([13], [13]), ([17, 13], [13, 17]), ([18, 13], [13, 18]), ([19, 13], [13, 19]), ([16, 20, 13], [13, 16, 20]), ([13, 21], [13, 21]), ([22, 13], [22]), ([23], [23]), ([24, 23], [23, 24]), ([25, 23], [23, 25]), ([26, 23], [23, 26]), ([23, 27], [23, 27]), ([28, 23], [28]), ([29], [29]), ([30, 29], [29, 30]), ([31, 29], [29, 31]), ([29, 32], [29, 32])])
def impl_Bridge_rootPort.B5 : List Nat := [0, 1, 3, 7, 15, 31, 63, 15, 143, 399, 911, 2047, 4095, 8191, 16383, 32767, 65535, 16383, 147455, 409599, 933887, 2097151, 4194303, 8388607, 16777215, 33554431, 67108863, 134217727, 268435455, 536870911, 1073741823, 2147483647, 4294967295, 8589934591]
theorem impl_Bridge_rootPort.tab5 : rtab .any (opsOf Try.f118 5) = impl_Bridge_rootPort.T5 := by kernel_rfl
theorem impl_Bridge_rootPort.bits5 : waitsOk impl_Bridge_rootPort.T5.2 impl_Bridge_rootPort.B5 = true := by kernel_rfl
def impl_Bridge_rootPort.T6 : Bool × List (List Nat × List Nat) := (true, [([], []), ([0], [0]), ([1], [1]), ([2], [2]), ([3, 2], [2, 3]), ([2], [2]), ([5, 2], [2, 5]), ([6, 2], [2, 6]), ([7, 2], [2, 7]), ([2], [2]), ([8, 9, 2], [2, 8, 9]), ([10, 2], [2, 10]), ([11, 2], [2, 11]), ([4, 12, 2, 2], [2, 4, 12]), ([2, 13], [2, 13])])
def impl_Bridge_rootPort.B6 : List Nat := [0, 1, 3, 7, 15, 7, 39, 103, 231, 7, 999, 2023, 4071, 8191, 16383]
theorem impl_Bridge_rootPort.tab6 : rtab .any (opsOf Try.f118 6) = impl_Bridge_rootPort.T6 := by kernel_rfl
theorem impl_Bridge_rootPort.bits6 : waitsOk impl_Bridge_rootPort.T6.2 impl_Bridge_rootPort.B6 = true := by kernel_rfl
set_option maxHeartbeats 60000000 in
set_option maxRecDepth 100000 in
theorem impl_Bridge_rootPort.calls (k : Nat) (aI : Int) (dB : Option Addr) (bT : Nat) (aC : List (S79)) (r : Int) (w : World) (gb : Nat) (hBK : w.heap[gb]? = some (.cells #[aI, .slice dB aC.length bT] 28 (0, 0))) (hr0_1 : Kd.C k79 w dB aC.length aC) (hc0_1 : aC.length ≤ bT) (h : impl_Bridge_rootPort.f k aI aC = some r) :
  Calls Try.prog 118 #[.pointer (some ⟨gb, 0, none⟩)] w fun e w' => e = .returned (.int .i64 r) ∧ Below w.heap.size w w' := by
 have eK := Try.underlying28
 have eL := Try.underlying79
 have eM := Try.underlying73
 have cV := aM hr0_1
 have eE := aM hc0_1
 clear hr0_1 hc0_1
 have HB := aM (Below.refl w.heap.size w)
 have H : (impl_Bridge_rootPort.l0 k (-1) aC (aC.length : Int) 0 aI aC) = some r := h
 clear h
 have H' := aM H
 clear H
 go_enter Try.func118, Try.ntmps118
 have aG := aM hBK
 clear hBK
 have dP := cA2 aG.out
 go_wp2
 go_loopg [3, 11] k (fun kq v3 dU w' => ∃ (aE : Int) (aA : Int), v3 = .int .i64 aE ∧ dU = .int .i64 aA ∧ Aside0 (impl_Bridge_rootPort.l0 kq aE aC (aC.length : Int) aA aI aC = some r) ∧ Aside0 (kq ≤ k) ∧ Aside0 (w'.heap[gb]? = some (.cells #[aI, (.slice dB aC.length bT)] 28 (0, 0))) ∧ Aside0 (Below w.heap.size w w'))
 case atStart => exact ⟨((-1)), (0), xE, xE, H', ⟨Nat.le_refl _⟩, ⟨bk aG.out⟩, ⟨bl HB.out⟩⟩
 case round =>
  clear H'
  repeat first|clear c1|clear p2|clear dP|clear dV|clear dW|clear dX
  obtain ⟨aE, aA, rfl, rfl, HA, bV, aG, HB⟩ := hrel
  cases gk with
  | zero => exact absurd HA.out (by simp [impl_Bridge_rootPort.l0])
  | succ k1 =>
   have H := HA.out
   clear HA
   simp only [impl_Bridge_rootPort.l0] at H
   by_cases c4 : aA < (aC.length : Int)
   case neg =>
    rw [if_neg c4] at H
    have dQ := decide_eq_false c4
    clear c4
    obtain rfl := Option.some.inj H
    go_wp2
    go_ret
    exact ⟨xW, bl HB.out⟩
   rw [if_pos c4] at H
   have dQ := decide_eq_true c4
   clear c4
   obtain ⟨eN, H⟩ := gI H
   obtain ⟨eO, H⟩ := gI H
   have dI := aM H
   clear H
   have dC : 0 ≤ (aA : Int) := dT
   have dD : aA < (aC.length : Int) := dT
   obtain ⟨aH, dR, cE, cG, cH, cK, cL, cN, cO, cP, cQ, cR, cA⟩ := at_T79 cV.out aA dC dD
   cases dR
   replace cE := xB HB cE
   replace cG := xB HB cG
   replace cH := xB HB cH
   replace cK := xB HB cK
   replace cL := xB HB cL
   replace cN := xB HB cN
   replace cO := xB HB cO
   replace cP := xB HB cP
   replace cQ := xB HB cQ
   replace cR := xB HB cR
   replace cA := xB HB cA
   replace dC := eq_true dC
   replace dD := eq_true dD
   go_upto_region 5 with (first | ((with_reducible refine gD (N := 5) rfl ?_); refine bE (N := 5) (cs := #[.bool false, .bool false, .int .i64 0, .int .i64 0, .int .i64 0, .int .i64 0, .int .i64 0, .int .i64 0, .int .i64 0, .int .i64 0, .bool false]) (t := 79) ?_; intro aN hg w8 hbox hb; have aD := aM (hbox); have eF := gF hg HB; have eG := gF hg HB; have cX := nM hg aG; have cY := nH hg aG; replace aG := rB aG hb; replace HB := rS HB hb; clear hb hbox hg; have eP := cY.out; have eQ := cX.out; have eH := cA11 aD.out))
   (try simp only [Act.put, sA, sZ, sS])
   go_cut [49] (fun dY wc => ∃ (kq : Nat) (bZ : Bool), dY = .bool bZ ∧ Aside0 (impl_Bridge_rootPort.j1 kq aE aA aC (aC.length : Int) aA bZ aI aC ((rd_T79 aC aA).f0) ((rd_T79 aC aA).f1) ((rd_T79 aC aA).f2.f0) ((rd_T79 aC aA).f2.f1) ((rd_T79 aC aA).f2.f2) ((rd_T79 aC aA).f2.f3) ((rd_T79 aC aA).f3) ((rd_T79 aC aA).f4) ((rd_T79 aC aA).f5) ((rd_T79 aC aA).f6) ((rd_T79 aC aA).f7) = some r) ∧ Aside0 (kq ≤ k1) ∧ Aside0 (wc.heap[gb]? = some (.cells #[aI, (.slice (some aH) aC.length bT)] 28 (0, 0))) ∧ Aside0 (wc.heap[aN]? = some (.cells #[((rd_T79 aC aA).f0), ((rd_T79 aC aA).f1), ((rd_T79 aC aA).f2.f0), ((rd_T79 aC aA).f2.f1), ((rd_T79 aC aA).f2.f2), ((rd_T79 aC aA).f2.f3), ((rd_T79 aC aA).f3), ((rd_T79 aC aA).f4), ((rd_T79 aC aA).f5), ((rd_T79 aC aA).f6), ((rd_T79 aC aA).f7)] 79 (0, 0))) ∧ Aside0 (Below w.heap.size w wc))
   case first =>
    have H := dI.out
    clear dI
    obtain ⟨bW, hbq11⟩ : ∃ b_ : Bool, b_ = ((rd_T79 aC aA).f1) := ⟨_, rfl⟩
    replace H : (if (bW = true) then (if ((rd_T79 aC aA).f2.f2) = aI then (impl_Bridge_rootPort.j1 k1 aE aA aC (aC.length : Int) aA true aI aC ((rd_T79 aC aA).f0) bW ((rd_T79 aC aA).f2.f0) ((rd_T79 aC aA).f2.f1) ((rd_T79 aC aA).f2.f2) ((rd_T79 aC aA).f2.f3) ((rd_T79 aC aA).f3) ((rd_T79 aC aA).f4) ((rd_T79 aC aA).f5) ((rd_T79 aC aA).f6) ((rd_T79 aC aA).f7)) else (if ((rd_T79 aC aA).f2.f0) ≥ aI then (impl_Bridge_rootPort.j1 k1 aE aA aC (aC.length : Int) aA true aI aC ((rd_T79 aC aA).f0) bW ((rd_T79 aC aA).f2.f0) ((rd_T79 aC aA).f2.f1) ((rd_T79 aC aA).f2.f2) ((rd_T79 aC aA).f2.f3) ((rd_T79 aC aA).f3) ((rd_T79 aC aA).f4) ((rd_T79 aC aA).f5) ((rd_T79 aC aA).f6) ((rd_T79 aC aA).f7)) else (if ((rd_T79 aC aA).f2.f1) ≥ 20 then (impl_Bridge_rootPort.j1 k1 aE aA aC (aC.length : Int) aA true aI aC ((rd_T79 aC aA).f0) bW ((rd_T79 aC aA).f2.f0) ((rd_T79 aC aA).f2.f1) ((rd_T79 aC aA).f2.f2) ((rd_T79 aC aA).f2.f3) ((rd_T79 aC aA).f3) ((rd_T79 aC aA).f4) ((rd_T79 aC aA).f5) ((rd_T79 aC aA).f6) ((rd_T79 aC aA).f7)) else (impl_Bridge_rootPort.j1 k1 aE aA aC (aC.length : Int) aA (decide (((rd_T79 aC aA).f3) ≥ 8)) aI aC ((rd_T79 aC aA).f0) bW ((rd_T79 aC aA).f2.f0) ((rd_T79 aC aA).f2.f1) ((rd_T79 aC aA).f2.f2) ((rd_T79 aC aA).f2.f3) ((rd_T79 aC aA).f3) ((rd_T79 aC aA).f4) ((rd_T79 aC aA).f5) ((rd_T79 aC aA).f6) ((rd_T79 aC aA).f7))))) else (impl_Bridge_rootPort.j1 k1 aE aA aC (aC.length : Int) aA true aI aC ((rd_T79 aC aA).f0) bW ((rd_T79 aC aA).f2.f0) ((rd_T79 aC aA).f2.f1) ((rd_T79 aC aA).f2.f2) ((rd_T79 aC aA).f2.f3) ((rd_T79 aC aA).f3) ((rd_T79 aC aA).f4) ((rd_T79 aC aA).f5) ((rd_T79 aC aA).f6) ((rd_T79 aC aA).f7))) = some r := by rw [← hbq11] at H; exact H
    have bU := aM hbq11
    clear hbq11
    (try rw [← bU.out])
    by_cases dA : (bW = true)
    case neg =>
     replace dA := Bool.eq_false_iff.mpr dA
     subst dA
     replace H := hF H
     have H' := aM H
     clear H
     try go_wp2
     refine nW (fun W => Aside0 (W.heap[gb]? = some (.cells #[aI, .slice (some aH) aC.length bT] 28 (0, 0))) ∧ Aside0 (W.heap[aN]? = some (.cells #[((rd_T79 aC aA).f0), .bool false, ((rd_T79 aC aA).f2.f0), ((rd_T79 aC aA).f2.f1), ((rd_T79 aC aA).f2.f2), ((rd_T79 aC aA).f2.f3), ((rd_T79 aC aA).f3), ((rd_T79 aC aA).f4), ((rd_T79 aC aA).f5), ((rd_T79 aC aA).f6), ((rd_T79 aC aA).f7)] 79 (0, 0))) ∧ Aside0 (Below w.heap.size w W)) ⟨⟨fm aG.out⟩, ⟨bm aD.out⟩, ⟨bl HB.out⟩⟩ ?_
     intro dZ nn_
     replace aG := nn_.1
     replace aD := nn_.2.1
     replace HB := nn_.2.2
     clear nn_
     replace aG := aM (blk_drew aG.out)
     replace aD := aM (blk_drew aD.out)
     replace HB := aM (below_drew1 HB.out)
     refine start_ (n := 34) (S := fun w' => cS11 w' aN (.bool ((rd_T79 aC aA).f0)) (.bool false) (.int .i64 ((rd_T79 aC aA).f2.f0)) (.int .i64 ((rd_T79 aC aA).f2.f1)) (.int .i64 ((rd_T79 aC aA).f2.f2)) (.int .i64 ((rd_T79 aC aA).f2.f3)) (.int .i64 ((rd_T79 aC aA).f3)) (.int .i64 ((rd_T79 aC aA).f4)) (.int .i64 ((rd_T79 aC aA).f5)) (.int .i64 ((rd_T79 aC aA).f6)) (.bool ((rd_T79 aC aA).f7))) (ds := []) (dn 34 0) (by kernel_rfl) rfl rfl ⟨cI aD.out 0, cI aD.out 1, cI aD.out 2, cI aD.out 3, cI aD.out 4, cI aD.out 5, cI aD.out 6, cI aD.out 7, cI aD.out 8, cI aD.out 9, cI aD.out 10⟩ (fun hHeld => ?_); refine with_tabW impl_Bridge_rootPort.tab5 impl_Bridge_rootPort.bits5 (fun HT_ HW_ => ?_)
     generalize dZ.drew = eR at aG aD HB hHeld ⊢
     refine nY (N := some 16) HT_ ?_
     refine tY (N := some 17) HT_ HW_ hHeld ?_
     refine nY (N := some 18) HT_ ?_
     refine nY (N := some 19) HT_ ?_
     refine nU (N := some 20) HT_ ?_
     refine nU (N := some 21) HT_ ?_
     refine nU (N := some 22) HT_ ?_
     refine nU (N := some 23) HT_ ?_
     refine nU (N := some 24) HT_ ?_
     refine nU (N := some 25) HT_ ?_
     refine nU (N := some 26) HT_ ?_
     refine nU (N := some 27) HT_ ?_
     refine nY (N := some 28) HT_ ?_
     refine nY (N := some 29) HT_ ?_
     refine nU (N := some 30) HT_ ?_
     refine nU (N := some 31) HT_ ?_
     refine nU (N := some 32) HT_ ?_
     refine nU (N := some 33) HT_ ?_
     refine nU (N := some 34) HT_ ?_
     refine nU (N := some 35) HT_ ?_
     refine nU (N := some 36) HT_ ?_
     refine nU (N := some 37) HT_ ?_
     refine nY (N := some 38) HT_ ?_
     refine nY (N := some 39) HT_ ?_
     refine nU (N := some 40) HT_ ?_
     refine nU (N := some 41) HT_ ?_
     refine nU (N := some 42) HT_ ?_
     refine nU (N := some 43) HT_ ?_
     refine nY (N := some 44) HT_ ?_
     refine nY (N := some 45) HT_ ?_
     refine nU (N := some 46) HT_ ?_
     refine nU (N := some 47) HT_ ?_
     refine nU (N := some 48) HT_ ?_
     refine nY (N := some 49) HT_ ?_
     refine done_ (done_of HT_.out (by kernel_rfl)) ?_
     try go_wp2
     go_meet
     case rel => (try rw [← bU.out]); exact ⟨_, (true), xE, H', ⟨by have := bV.out; first | omega | exact Nat.le_refl _⟩, ⟨bk aG.out⟩, ⟨bk aD.out⟩, ⟨bl HB.out⟩⟩
    subst dA
    replace H := hP H rfl
    by_cases cC : ((rd_T79 aC aA).f2.f2) = aI
    case pos =>
     rw [if_pos cC] at H
     have dK : (((rd_T79 aC aA).f2.f2) == aI) = true := beq_iff_eq.mpr cC
     have dL : (((rd_T79 aC aA).f2.f2) != aI) = false := bne_eq_false_iff_eq.mpr cC
     clear cC
     have H' := aM H
     clear H
     try go_wp2
     refine nW (fun W => Aside0 (W.heap[gb]? = some (.cells #[aI, .slice (some aH) aC.length bT] 28 (0, 0))) ∧ Aside0 (W.heap[aN]? = some (.cells #[((rd_T79 aC aA).f0), .bool true, ((rd_T79 aC aA).f2.f0), ((rd_T79 aC aA).f2.f1), ((rd_T79 aC aA).f2.f2), ((rd_T79 aC aA).f2.f3), ((rd_T79 aC aA).f3), ((rd_T79 aC aA).f4), ((rd_T79 aC aA).f5), ((rd_T79 aC aA).f6), ((rd_T79 aC aA).f7)] 79 (0, 0))) ∧ Aside0 (Below w.heap.size w W)) ⟨⟨fm aG.out⟩, ⟨bm aD.out⟩, ⟨bl HB.out⟩⟩ ?_
     intro eA nn_
     replace aG := nn_.1
     replace aD := nn_.2.1
     replace HB := nn_.2.2
     clear nn_
     replace aG := aM (blk_drew aG.out)
     replace aD := aM (blk_drew aD.out)
     replace HB := aM (below_drew1 HB.out)
     refine start_ (n := 34) (S := fun w' => cT11 w' aN (.bool ((rd_T79 aC aA).f0)) (.bool true) (.int .i64 ((rd_T79 aC aA).f2.f0)) (.int .i64 ((rd_T79 aC aA).f2.f1)) (.int .i64 ((rd_T79 aC aA).f2.f2)) (.int .i64 ((rd_T79 aC aA).f2.f3)) (.int .i64 ((rd_T79 aC aA).f3)) (.int .i64 ((rd_T79 aC aA).f4)) (.int .i64 ((rd_T79 aC aA).f5)) (.int .i64 ((rd_T79 aC aA).f6)) (.bool ((rd_T79 aC aA).f7)) (cS2 w' gb (.int .i64 aI) (.slice (some aH) aC.length bT))) (ds := []) (dn 34 0) (by kernel_rfl) rfl rfl ⟨cI aD.out 0, cI aD.out 1, cI aD.out 2, cI aD.out 3, cI aD.out 4, cI aD.out 5, cI aD.out 6, cI aD.out 7, cI aD.out 8, cI aD.out 9, cI aD.out 10, cI aG.out 0, cI aG.out 1⟩ (fun hHeld => ?_); refine with_tabW impl_Bridge_rootPort.tab5 impl_Bridge_rootPort.bits5 (fun HT_ HW_ => ?_)
     generalize eA.drew = eS at aG aD HB hHeld ⊢
     refine nY (N := some 16) HT_ ?_
     refine tY (N := some 17) HT_ HW_ hHeld ?_
     refine nY (N := some 18) HT_ ?_
     refine nY (N := some 19) HT_ ?_
     refine nY (N := some 20) HT_ ?_
     refine nY (N := some 21) HT_ ?_
     refine pY (i := 7) (N := some 23) #[Y,Y,Y,Y,Y,Y,U,Y,U,U,U,U,U,U,U,U,U,U,U,U,U,U,U,U,U,U,U,U,U,U,U,U,U,U] HT_ ?_
     refine pY (i := 8) (N := some 24) #[Y,Y,Y,Y,Y,Y,U,Y,Y,U,U,U,U,U,U,U,U,U,U,U,U,U,U,U,U,U,U,U,U,U,U,U,U,U] HT_ ?_
     refine pY (i := 9) (N := some 25) #[Y,Y,Y,Y,Y,Y,U,Y,Y,Y,U,U,U,U,U,U,U,U,U,U,U,U,U,U,U,U,U,U,U,U,U,U,U,U] HT_ ?_
     refine aY (i := 6) (N := some 22) #[Y,Y,Y,Y,Y,Y,Y,Y,Y,Y,U,U,U,U,U,U,U,U,U,U,U,U,U,U,U,U,U,U,U,U,U,U,U,U] HT_ HW_ hHeld ?_
     refine aY (i := 10) (N := some 26) #[Y,Y,Y,Y,Y,Y,Y,Y,Y,Y,Y,U,U,U,U,U,U,U,U,U,U,U,U,U,U,U,U,U,U,U,U,U,U,U] HT_ HW_ hHeld ?_
     refine pY (i := 11) (N := some 27) #[Y,Y,Y,Y,Y,Y,Y,Y,Y,Y,Y,Y,U,U,U,U,U,U,U,U,U,U,U,U,U,U,U,U,U,U,U,U,U,U] HT_ ?_
     refine pY (i := 12) (N := some 28) #[Y,Y,Y,Y,Y,Y,Y,Y,Y,Y,Y,Y,Y,U,U,U,U,U,U,U,U,U,U,U,U,U,U,U,U,U,U,U,U,U] HT_ ?_
     refine pY (i := 13) (N := some 29) #[Y,Y,Y,Y,Y,Y,Y,Y,Y,Y,Y,Y,Y,Y,U,U,U,U,U,U,U,U,U,U,U,U,U,U,U,U,U,U,U,U] HT_ ?_
     refine pU (i := 14) (N := some 30) #[Y,Y,Y,Y,Y,Y,Y,Y,Y,Y,Y,Y,Y,Y,Y,U,U,U,U,U,U,U,U,U,U,U,U,U,U,U,U,U,U,U] HT_ ?_
     refine pU (i := 15) (N := some 31) #[Y,Y,Y,Y,Y,Y,Y,Y,Y,Y,Y,Y,Y,Y,Y,Y,U,U,U,U,U,U,U,U,U,U,U,U,U,U,U,U,U,U] HT_ ?_
     refine pU (i := 16) (N := some 32) #[Y,Y,Y,Y,Y,Y,Y,Y,Y,Y,Y,Y,Y,Y,Y,Y,Y,U,U,U,U,U,U,U,U,U,U,U,U,U,U,U,U,U] HT_ ?_
     refine pU (i := 17) (N := some 33) #[Y,Y,Y,Y,Y,Y,Y,Y,Y,Y,Y,Y,Y,Y,Y,Y,Y,Y,U,U,U,U,U,U,U,U,U,U,U,U,U,U,U,U] HT_ ?_
     refine pU (i := 18) (N := some 34) #[Y,Y,Y,Y,Y,Y,Y,Y,Y,Y,Y,Y,Y,Y,Y,Y,Y,Y,Y,U,U,U,U,U,U,U,U,U,U,U,U,U,U,U] HT_ ?_
     refine pU (i := 19) (N := some 35) #[Y,Y,Y,Y,Y,Y,Y,Y,Y,Y,Y,Y,Y,Y,Y,Y,Y,Y,Y,Y,U,U,U,U,U,U,U,U,U,U,U,U,U,U] HT_ ?_
     refine pU (i := 20) (N := some 36) #[Y,Y,Y,Y,Y,Y,Y,Y,Y,Y,Y,Y,Y,Y,Y,Y,Y,Y,Y,Y,Y,U,U,U,U,U,U,U,U,U,U,U,U,U] HT_ ?_
     refine pU (i := 21) (N := some 37) #[Y,Y,Y,Y,Y,Y,Y,Y,Y,Y,Y,Y,Y,Y,Y,Y,Y,Y,Y,Y,Y,Y,U,U,U,U,U,U,U,U,U,U,U,U] HT_ ?_
     refine pY (i := 22) (N := some 38) #[Y,Y,Y,Y,Y,Y,Y,Y,Y,Y,Y,Y,Y,Y,Y,Y,Y,Y,Y,Y,Y,Y,Y,U,U,U,U,U,U,U,U,U,U,U] HT_ ?_
     refine pY (i := 23) (N := some 39) #[Y,Y,Y,Y,Y,Y,Y,Y,Y,Y,Y,Y,Y,Y,Y,Y,Y,Y,Y,Y,Y,Y,Y,Y,U,U,U,U,U,U,U,U,U,U] HT_ ?_
     refine pU (i := 24) (N := some 40) #[Y,Y,Y,Y,Y,Y,Y,Y,Y,Y,Y,Y,Y,Y,Y,Y,Y,Y,Y,Y,Y,Y,Y,Y,Y,U,U,U,U,U,U,U,U,U] HT_ ?_
     refine pU (i := 25) (N := some 41) #[Y,Y,Y,Y,Y,Y,Y,Y,Y,Y,Y,Y,Y,Y,Y,Y,Y,Y,Y,Y,Y,Y,Y,Y,Y,Y,U,U,U,U,U,U,U,U] HT_ ?_
     refine pU (i := 26) (N := some 42) #[Y,Y,Y,Y,Y,Y,Y,Y,Y,Y,Y,Y,Y,Y,Y,Y,Y,Y,Y,Y,Y,Y,Y,Y,Y,Y,Y,U,U,U,U,U,U,U] HT_ ?_
     refine pU (i := 27) (N := some 43) #[Y,Y,Y,Y,Y,Y,Y,Y,Y,Y,Y,Y,Y,Y,Y,Y,Y,Y,Y,Y,Y,Y,Y,Y,Y,Y,Y,Y,U,U,U,U,U,U] HT_ ?_
     refine pY (i := 28) (N := some 44) #[Y,Y,Y,Y,Y,Y,Y,Y,Y,Y,Y,Y,Y,Y,Y,Y,Y,Y,Y,Y,Y,Y,Y,Y,Y,Y,Y,Y,Y,U,U,U,U,U] HT_ ?_
     refine pY (i := 29) (N := some 45) #[Y,Y,Y,Y,Y,Y,Y,Y,Y,Y,Y,Y,Y,Y,Y,Y,Y,Y,Y,Y,Y,Y,Y,Y,Y,Y,Y,Y,Y,Y,U,U,U,U] HT_ ?_
     refine pU (i := 30) (N := some 46) #[Y,Y,Y,Y,Y,Y,Y,Y,Y,Y,Y,Y,Y,Y,Y,Y,Y,Y,Y,Y,Y,Y,Y,Y,Y,Y,Y,Y,Y,Y,Y,U,U,U] HT_ ?_
     refine pU (i := 31) (N := some 47) #[Y,Y,Y,Y,Y,Y,Y,Y,Y,Y,Y,Y,Y,Y,Y,Y,Y,Y,Y,Y,Y,Y,Y,Y,Y,Y,Y,Y,Y,Y,Y,Y,U,U] HT_ ?_
     refine pU (i := 32) (N := some 48) #[Y,Y,Y,Y,Y,Y,Y,Y,Y,Y,Y,Y,Y,Y,Y,Y,Y,Y,Y,Y,Y,Y,Y,Y,Y,Y,Y,Y,Y,Y,Y,Y,Y,U] HT_ ?_
     refine pY (i := 33) (N := some 49) #[Y,Y,Y,Y,Y,Y,Y,Y,Y,Y,Y,Y,Y,Y,Y,Y,Y,Y,Y,Y,Y,Y,Y,Y,Y,Y,Y,Y,Y,Y,Y,Y,Y,Y] HT_ ?_
     refine done_ (done_of HT_.out (by kernel_rfl)) ?_
     try go_wp2
     go_meet
     case rel => (try rw [← bU.out]); exact ⟨_, (true), xE, H', ⟨by have := bV.out; first | omega | exact Nat.le_refl _⟩, ⟨bk aG.out⟩, ⟨bk aD.out⟩, ⟨bl HB.out⟩⟩
    rw [if_neg cC] at H
    have dK : (((rd_T79 aC aA).f2.f2) == aI) = false := beq_eq_false_iff_ne.mpr cC
    have dL : (((rd_T79 aC aA).f2.f2) != aI) = true := bne_iff_ne.mpr cC
    by_cases cS : ((rd_T79 aC aA).f2.f0) ≥ aI
    case pos =>
     rw [if_pos cS] at H
     have dM := decide_eq_true cS
     clear cS
     have H' := aM H
     clear H
     try go_wp2
     refine nW (fun W => Aside0 (W.heap[gb]? = some (.cells #[aI, .slice (some aH) aC.length bT] 28 (0, 0))) ∧ Aside0 (W.heap[aN]? = some (.cells #[((rd_T79 aC aA).f0), .bool true, ((rd_T79 aC aA).f2.f0), ((rd_T79 aC aA).f2.f1), ((rd_T79 aC aA).f2.f2), ((rd_T79 aC aA).f2.f3), ((rd_T79 aC aA).f3), ((rd_T79 aC aA).f4), ((rd_T79 aC aA).f5), ((rd_T79 aC aA).f6), ((rd_T79 aC aA).f7)] 79 (0, 0))) ∧ Aside0 (Below w.heap.size w W)) ⟨⟨fm aG.out⟩, ⟨bm aD.out⟩, ⟨bl HB.out⟩⟩ ?_
     intro eB nn_
     replace aG := nn_.1
     replace aD := nn_.2.1
     replace HB := nn_.2.2
     clear nn_
     replace aG := aM (blk_drew aG.out)
     replace aD := aM (blk_drew aD.out)
     replace HB := aM (below_drew1 HB.out)
     refine start_ (n := 34) (S := fun w' => cT11 w' aN (.bool ((rd_T79 aC aA).f0)) (.bool true) (.int .i64 ((rd_T79 aC aA).f2.f0)) (.int .i64 ((rd_T79 aC aA).f2.f1)) (.int .i64 ((rd_T79 aC aA).f2.f2)) (.int .i64 ((rd_T79 aC aA).f2.f3)) (.int .i64 ((rd_T79 aC aA).f3)) (.int .i64 ((rd_T79 aC aA).f4)) (.int .i64 ((rd_T79 aC aA).f5)) (.int .i64 ((rd_T79 aC aA).f6)) (.bool ((rd_T79 aC aA).f7)) (cS2 w' gb (.int .i64 aI) (.slice (some aH) aC.length bT))) (ds := []) (dn 34 0) (by kernel_rfl) rfl rfl ⟨cI aD.out 0, cI aD.out 1, cI aD.out 2, cI aD.out 3, cI aD.out 4, cI aD.out 5, cI aD.out 6, cI aD.out 7, cI aD.out 8, cI aD.out 9, cI aD.out 10, cI aG.out 0, cI aG.out 1⟩ (fun hHeld => ?_); refine with_tabW impl_Bridge_rootPort.tab5 impl_Bridge_rootPort.bits5 (fun HT_ HW_ => ?_)
     generalize eB.drew = eT at aG aD HB hHeld ⊢
     refine nY (N := some 16) HT_ ?_
     refine tY (N := some 17) HT_ HW_ hHeld ?_
     refine nY (N := some 18) HT_ ?_
     refine nY (N := some 19) HT_ ?_
     refine nY (N := some 20) HT_ ?_
     refine nY (N := some 21) HT_ ?_
     refine pY (i := 7) (N := some 23) #[Y,Y,Y,Y,Y,Y,U,Y,U,U,U,U,U,U,U,U,U,U,U,U,U,U,U,U,U,U,U,U,U,U,U,U,U,U] HT_ ?_
     refine pY (i := 8) (N := some 24) #[Y,Y,Y,Y,Y,Y,U,Y,Y,U,U,U,U,U,U,U,U,U,U,U,U,U,U,U,U,U,U,U,U,U,U,U,U,U] HT_ ?_
     refine pY (i := 9) (N := some 25) #[Y,Y,Y,Y,Y,Y,U,Y,Y,Y,U,U,U,U,U,U,U,U,U,U,U,U,U,U,U,U,U,U,U,U,U,U,U,U] HT_ ?_
     refine aY (i := 6) (N := some 22) #[Y,Y,Y,Y,Y,Y,Y,Y,Y,Y,U,U,U,U,U,U,U,U,U,U,U,U,U,U,U,U,U,U,U,U,U,U,U,U] HT_ HW_ hHeld ?_
     refine aY (i := 10) (N := some 26) #[Y,Y,Y,Y,Y,Y,Y,Y,Y,Y,Y,U,U,U,U,U,U,U,U,U,U,U,U,U,U,U,U,U,U,U,U,U,U,U] HT_ HW_ hHeld ?_
     refine pY (i := 11) (N := some 27) #[Y,Y,Y,Y,Y,Y,Y,Y,Y,Y,Y,Y,U,U,U,U,U,U,U,U,U,U,U,U,U,U,U,U,U,U,U,U,U,U] HT_ ?_
     refine pY (i := 12) (N := some 28) #[Y,Y,Y,Y,Y,Y,Y,Y,Y,Y,Y,Y,Y,U,U,U,U,U,U,U,U,U,U,U,U,U,U,U,U,U,U,U,U,U] HT_ ?_
     refine pY (i := 13) (N := some 29) #[Y,Y,Y,Y,Y,Y,Y,Y,Y,Y,Y,Y,Y,Y,U,U,U,U,U,U,U,U,U,U,U,U,U,U,U,U,U,U,U,U] HT_ ?_
     refine pY (i := 14) (N := some 30) #[Y,Y,Y,Y,Y,Y,Y,Y,Y,Y,Y,Y,Y,Y,Y,U,U,U,U,U,U,U,U,U,U,U,U,U,U,U,U,U,U,U] HT_ ?_
     refine pY (i := 15) (N := some 31) #[Y,Y,Y,Y,Y,Y,Y,Y,Y,Y,Y,Y,Y,Y,Y,Y,U,U,U,U,U,U,U,U,U,U,U,U,U,U,U,U,U,U] HT_ ?_
     refine pY (i := 17) (N := some 33) #[Y,Y,Y,Y,Y,Y,Y,Y,Y,Y,Y,Y,Y,Y,Y,Y,U,Y,U,U,U,U,U,U,U,U,U,U,U,U,U,U,U,U] HT_ ?_
     refine pY (i := 18) (N := some 34) #[Y,Y,Y,Y,Y,Y,Y,Y,Y,Y,Y,Y,Y,Y,Y,Y,U,Y,Y,U,U,U,U,U,U,U,U,U,U,U,U,U,U,U] HT_ ?_
     refine pY (i := 19) (N := some 35) #[Y,Y,Y,Y,Y,Y,Y,Y,Y,Y,Y,Y,Y,Y,Y,Y,U,Y,Y,Y,U,U,U,U,U,U,U,U,U,U,U,U,U,U] HT_ ?_
     refine aY (i := 16) (N := some 32) #[Y,Y,Y,Y,Y,Y,Y,Y,Y,Y,Y,Y,Y,Y,Y,Y,Y,Y,Y,Y,U,U,U,U,U,U,U,U,U,U,U,U,U,U] HT_ HW_ hHeld ?_
     refine aY (i := 20) (N := some 36) #[Y,Y,Y,Y,Y,Y,Y,Y,Y,Y,Y,Y,Y,Y,Y,Y,Y,Y,Y,Y,Y,U,U,U,U,U,U,U,U,U,U,U,U,U] HT_ HW_ hHeld ?_
     refine pY (i := 21) (N := some 37) #[Y,Y,Y,Y,Y,Y,Y,Y,Y,Y,Y,Y,Y,Y,Y,Y,Y,Y,Y,Y,Y,Y,U,U,U,U,U,U,U,U,U,U,U,U] HT_ ?_
     refine pY (i := 22) (N := some 38) #[Y,Y,Y,Y,Y,Y,Y,Y,Y,Y,Y,Y,Y,Y,Y,Y,Y,Y,Y,Y,Y,Y,Y,U,U,U,U,U,U,U,U,U,U,U] HT_ ?_
     refine pY (i := 23) (N := some 39) #[Y,Y,Y,Y,Y,Y,Y,Y,Y,Y,Y,Y,Y,Y,Y,Y,Y,Y,Y,Y,Y,Y,Y,Y,U,U,U,U,U,U,U,U,U,U] HT_ ?_
     refine pU (i := 24) (N := some 40) #[Y,Y,Y,Y,Y,Y,Y,Y,Y,Y,Y,Y,Y,Y,Y,Y,Y,Y,Y,Y,Y,Y,Y,Y,Y,U,U,U,U,U,U,U,U,U] HT_ ?_
     refine pU (i := 25) (N := some 41) #[Y,Y,Y,Y,Y,Y,Y,Y,Y,Y,Y,Y,Y,Y,Y,Y,Y,Y,Y,Y,Y,Y,Y,Y,Y,Y,U,U,U,U,U,U,U,U] HT_ ?_
     refine pU (i := 26) (N := some 42) #[Y,Y,Y,Y,Y,Y,Y,Y,Y,Y,Y,Y,Y,Y,Y,Y,Y,Y,Y,Y,Y,Y,Y,Y,Y,Y,Y,U,U,U,U,U,U,U] HT_ ?_
     refine pU (i := 27) (N := some 43) #[Y,Y,Y,Y,Y,Y,Y,Y,Y,Y,Y,Y,Y,Y,Y,Y,Y,Y,Y,Y,Y,Y,Y,Y,Y,Y,Y,Y,U,U,U,U,U,U] HT_ ?_
     refine pY (i := 28) (N := some 44) #[Y,Y,Y,Y,Y,Y,Y,Y,Y,Y,Y,Y,Y,Y,Y,Y,Y,Y,Y,Y,Y,Y,Y,Y,Y,Y,Y,Y,Y,U,U,U,U,U] HT_ ?_
     refine pY (i := 29) (N := some 45) #[Y,Y,Y,Y,Y,Y,Y,Y,Y,Y,Y,Y,Y,Y,Y,Y,Y,Y,Y,Y,Y,Y,Y,Y,Y,Y,Y,Y,Y,Y,U,U,U,U] HT_ ?_
     refine pU (i := 30) (N := some 46) #[Y,Y,Y,Y,Y,Y,Y,Y,Y,Y,Y,Y,Y,Y,Y,Y,Y,Y,Y,Y,Y,Y,Y,Y,Y,Y,Y,Y,Y,Y,Y,U,U,U] HT_ ?_
     refine pU (i := 31) (N := some 47) #[Y,Y,Y,Y,Y,Y,Y,Y,Y,Y,Y,Y,Y,Y,Y,Y,Y,Y,Y,Y,Y,Y,Y,Y,Y,Y,Y,Y,Y,Y,Y,Y,U,U] HT_ ?_
     refine pU (i := 32) (N := some 48) #[Y,Y,Y,Y,Y,Y,Y,Y,Y,Y,Y,Y,Y,Y,Y,Y,Y,Y,Y,Y,Y,Y,Y,Y,Y,Y,Y,Y,Y,Y,Y,Y,Y,U] HT_ ?_
     refine pY (i := 33) (N := some 49) #[Y,Y,Y,Y,Y,Y,Y,Y,Y,Y,Y,Y,Y,Y,Y,Y,Y,Y,Y,Y,Y,Y,Y,Y,Y,Y,Y,Y,Y,Y,Y,Y,Y,Y] HT_ ?_
     refine done_ (done_of HT_.out (by kernel_rfl)) ?_
     try go_wp2
     go_meet
     case rel => (try rw [← bU.out]); exact ⟨_, (true), xE, H', ⟨by have := bV.out; first | omega | exact Nat.le_refl _⟩, ⟨bk aG.out⟩, ⟨bk aD.out⟩, ⟨bl HB.out⟩⟩
    rw [if_neg cS] at H
    have dM := decide_eq_false cS
    clear cS
    by_cases cD : ((rd_T79 aC aA).f2.f1) ≥ 20
    case pos =>
     rw [if_pos cD] at H
     have dF := decide_eq_true cD
     clear cD
     have H' := aM H
     clear H
     try go_wp2
     refine nW (fun W => Aside0 (W.heap[gb]? = some (.cells #[aI, .slice (some aH) aC.length bT] 28 (0, 0))) ∧ Aside0 (W.heap[aN]? = some (.cells #[((rd_T79 aC aA).f0), .bool true, ((rd_T79 aC aA).f2.f0), ((rd_T79 aC aA).f2.f1), ((rd_T79 aC aA).f2.f2), ((rd_T79 aC aA).f2.f3), ((rd_T79 aC aA).f3), ((rd_T79 aC aA).f4), ((rd_T79 aC aA).f5), ((rd_T79 aC aA).f6), ((rd_T79 aC aA).f7)] 79 (0, 0))) ∧ Aside0 (Below w.heap.size w W)) ⟨⟨fm aG.out⟩, ⟨bm aD.out⟩, ⟨bl HB.out⟩⟩ ?_
     intro eC nn_
     replace aG := nn_.1
     replace aD := nn_.2.1
     replace HB := nn_.2.2
     clear nn_
     replace aG := aM (blk_drew aG.out)
     replace aD := aM (blk_drew aD.out)
     replace HB := aM (below_drew1 HB.out)
     refine start_ (n := 34) (S := fun w' => cT11 w' aN (.bool ((rd_T79 aC aA).f0)) (.bool true) (.int .i64 ((rd_T79 aC aA).f2.f0)) (.int .i64 ((rd_T79 aC aA).f2.f1)) (.int .i64 ((rd_T79 aC aA).f2.f2)) (.int .i64 ((rd_T79 aC aA).f2.f3)) (.int .i64 ((rd_T79 aC aA).f3)) (.int .i64 ((rd_T79 aC aA).f4)) (.int .i64 ((rd_T79 aC aA).f5)) (.int .i64 ((rd_T79 aC aA).f6)) (.bool ((rd_T79 aC aA).f7)) (cS2 w' gb (.int .i64 aI) (.slice (some aH) aC.length bT))) (ds := []) (dn 34 0) (by kernel_rfl) rfl rfl ⟨cI aD.out 0, cI aD.out 1, cI aD.out 2, cI aD.out 3, cI aD.out 4, cI aD.out 5, cI aD.out 6, cI aD.out 7, cI aD.out 8, cI aD.out 9, cI aD.out 10, cI aG.out 0, cI aG.out 1⟩ (fun hHeld => ?_); refine with_tabW impl_Bridge_rootPort.tab5 impl_Bridge_rootPort.bits5 (fun HT_ HW_ => ?_)
     generalize eC.drew = eU at aG aD HB hHeld ⊢
     refine nY (N := some 16) HT_ ?_
     refine tY (N := some 17) HT_ HW_ hHeld ?_
     refine nY (N := some 18) HT_ ?_
     refine nY (N := some 19) HT_ ?_
     refine nY (N := some 20) HT_ ?_
     refine nY (N := some 21) HT_ ?_
     refine pY (i := 7) (N := some 23) #[Y,Y,Y,Y,Y,Y,U,Y,U,U,U,U,U,U,U,U,U,U,U,U,U,U,U,U,U,U,U,U,U,U,U,U,U,U] HT_ ?_
     refine pY (i := 8) (N := some 24) #[Y,Y,Y,Y,Y,Y,U,Y,Y,U,U,U,U,U,U,U,U,U,U,U,U,U,U,U,U,U,U,U,U,U,U,U,U,U] HT_ ?_
     refine pY (i := 9) (N := some 25) #[Y,Y,Y,Y,Y,Y,U,Y,Y,Y,U,U,U,U,U,U,U,U,U,U,U,U,U,U,U,U,U,U,U,U,U,U,U,U] HT_ ?_
     refine aY (i := 6) (N := some 22) #[Y,Y,Y,Y,Y,Y,Y,Y,Y,Y,U,U,U,U,U,U,U,U,U,U,U,U,U,U,U,U,U,U,U,U,U,U,U,U] HT_ HW_ hHeld ?_
     refine aY (i := 10) (N := some 26) #[Y,Y,Y,Y,Y,Y,Y,Y,Y,Y,Y,U,U,U,U,U,U,U,U,U,U,U,U,U,U,U,U,U,U,U,U,U,U,U] HT_ HW_ hHeld ?_
     refine pY (i := 11) (N := some 27) #[Y,Y,Y,Y,Y,Y,Y,Y,Y,Y,Y,Y,U,U,U,U,U,U,U,U,U,U,U,U,U,U,U,U,U,U,U,U,U,U] HT_ ?_
     refine pY (i := 12) (N := some 28) #[Y,Y,Y,Y,Y,Y,Y,Y,Y,Y,Y,Y,Y,U,U,U,U,U,U,U,U,U,U,U,U,U,U,U,U,U,U,U,U,U] HT_ ?_
     refine pY (i := 13) (N := some 29) #[Y,Y,Y,Y,Y,Y,Y,Y,Y,Y,Y,Y,Y,Y,U,U,U,U,U,U,U,U,U,U,U,U,U,U,U,U,U,U,U,U] HT_ ?_
     refine pY (i := 14) (N := some 30) #[Y,Y,Y,Y,Y,Y,Y,Y,Y,Y,Y,Y,Y,Y,Y,U,U,U,U,U,U,U,U,U,U,U,U,U,U,U,U,U,U,U] HT_ ?_
     refine pY (i := 15) (N := some 31) #[Y,Y,Y,Y,Y,Y,Y,Y,Y,Y,Y,Y,Y,Y,Y,Y,U,U,U,U,U,U,U,U,U,U,U,U,U,U,U,U,U,U] HT_ ?_
     refine pY (i := 17) (N := some 33) #[Y,Y,Y,Y,Y,Y,Y,Y,Y,Y,Y,Y,Y,Y,Y,Y,U,Y,U,U,U,U,U,U,U,U,U,U,U,U,U,U,U,U] HT_ ?_
     refine pY (i := 18) (N := some 34) #[Y,Y,Y,Y,Y,Y,Y,Y,Y,Y,Y,Y,Y,Y,Y,Y,U,Y,Y,U,U,U,U,U,U,U,U,U,U,U,U,U,U,U] HT_ ?_
     refine pY (i := 19) (N := some 35) #[Y,Y,Y,Y,Y,Y,Y,Y,Y,Y,Y,Y,Y,Y,Y,Y,U,Y,Y,Y,U,U,U,U,U,U,U,U,U,U,U,U,U,U] HT_ ?_
     refine aY (i := 16) (N := some 32) #[Y,Y,Y,Y,Y,Y,Y,Y,Y,Y,Y,Y,Y,Y,Y,Y,Y,Y,Y,Y,U,U,U,U,U,U,U,U,U,U,U,U,U,U] HT_ HW_ hHeld ?_
     refine aY (i := 20) (N := some 36) #[Y,Y,Y,Y,Y,Y,Y,Y,Y,Y,Y,Y,Y,Y,Y,Y,Y,Y,Y,Y,Y,U,U,U,U,U,U,U,U,U,U,U,U,U] HT_ HW_ hHeld ?_
     refine pY (i := 21) (N := some 37) #[Y,Y,Y,Y,Y,Y,Y,Y,Y,Y,Y,Y,Y,Y,Y,Y,Y,Y,Y,Y,Y,Y,U,U,U,U,U,U,U,U,U,U,U,U] HT_ ?_
     refine pY (i := 22) (N := some 38) #[Y,Y,Y,Y,Y,Y,Y,Y,Y,Y,Y,Y,Y,Y,Y,Y,Y,Y,Y,Y,Y,Y,Y,U,U,U,U,U,U,U,U,U,U,U] HT_ ?_
     refine pY (i := 23) (N := some 39) #[Y,Y,Y,Y,Y,Y,Y,Y,Y,Y,Y,Y,Y,Y,Y,Y,Y,Y,Y,Y,Y,Y,Y,Y,U,U,U,U,U,U,U,U,U,U] HT_ ?_
     refine pY (i := 24) (N := some 40) #[Y,Y,Y,Y,Y,Y,Y,Y,Y,Y,Y,Y,Y,Y,Y,Y,Y,Y,Y,Y,Y,Y,Y,Y,Y,U,U,U,U,U,U,U,U,U] HT_ ?_
     refine pY (i := 25) (N := some 41) #[Y,Y,Y,Y,Y,Y,Y,Y,Y,Y,Y,Y,Y,Y,Y,Y,Y,Y,Y,Y,Y,Y,Y,Y,Y,Y,U,U,U,U,U,U,U,U] HT_ ?_
     refine aY (i := 26) (N := some 42) #[Y,Y,Y,Y,Y,Y,Y,Y,Y,Y,Y,Y,Y,Y,Y,Y,Y,Y,Y,Y,Y,Y,Y,Y,Y,Y,Y,U,U,U,U,U,U,U] HT_ HW_ hHeld ?_
     refine pY (i := 27) (N := some 43) #[Y,Y,Y,Y,Y,Y,Y,Y,Y,Y,Y,Y,Y,Y,Y,Y,Y,Y,Y,Y,Y,Y,Y,Y,Y,Y,Y,Y,U,U,U,U,U,U] HT_ ?_
     refine pY (i := 28) (N := some 44) #[Y,Y,Y,Y,Y,Y,Y,Y,Y,Y,Y,Y,Y,Y,Y,Y,Y,Y,Y,Y,Y,Y,Y,Y,Y,Y,Y,Y,Y,U,U,U,U,U] HT_ ?_
     refine pY (i := 29) (N := some 45) #[Y,Y,Y,Y,Y,Y,Y,Y,Y,Y,Y,Y,Y,Y,Y,Y,Y,Y,Y,Y,Y,Y,Y,Y,Y,Y,Y,Y,Y,Y,U,U,U,U] HT_ ?_
     refine pU (i := 30) (N := some 46) #[Y,Y,Y,Y,Y,Y,Y,Y,Y,Y,Y,Y,Y,Y,Y,Y,Y,Y,Y,Y,Y,Y,Y,Y,Y,Y,Y,Y,Y,Y,Y,U,U,U] HT_ ?_
     refine pU (i := 31) (N := some 47) #[Y,Y,Y,Y,Y,Y,Y,Y,Y,Y,Y,Y,Y,Y,Y,Y,Y,Y,Y,Y,Y,Y,Y,Y,Y,Y,Y,Y,Y,Y,Y,Y,U,U] HT_ ?_
     refine pU (i := 32) (N := some 48) #[Y,Y,Y,Y,Y,Y,Y,Y,Y,Y,Y,Y,Y,Y,Y,Y,Y,Y,Y,Y,Y,Y,Y,Y,Y,Y,Y,Y,Y,Y,Y,Y,Y,U] HT_ ?_
     refine pY (i := 33) (N := some 49) #[Y,Y,Y,Y,Y,Y,Y,Y,Y,Y,Y,Y,Y,Y,Y,Y,Y,Y,Y,Y,Y,Y,Y,Y,Y,Y,Y,Y,Y,Y,Y,Y,Y,Y] HT_ ?_
     refine done_ (done_of HT_.out (by kernel_rfl)) ?_
     try go_wp2
     go_meet
     case rel => (try rw [← bU.out]); exact ⟨_, (true), xE, H', ⟨by have := bV.out; first | omega | exact Nat.le_refl _⟩, ⟨bk aG.out⟩, ⟨bk aD.out⟩, ⟨bl HB.out⟩⟩
    rw [if_neg cD] at H
    have dF := decide_eq_false cD
    clear cD
    have H' := aM H
    clear H
    try go_wp2
    refine nW (fun W => Aside0 (W.heap[gb]? = some (.cells #[aI, .slice (some aH) aC.length bT] 28 (0, 0))) ∧ Aside0 (W.heap[aN]? = some (.cells #[((rd_T79 aC aA).f0), .bool true, ((rd_T79 aC aA).f2.f0), ((rd_T79 aC aA).f2.f1), ((rd_T79 aC aA).f2.f2), ((rd_T79 aC aA).f2.f3), ((rd_T79 aC aA).f3), ((rd_T79 aC aA).f4), ((rd_T79 aC aA).f5), ((rd_T79 aC aA).f6), ((rd_T79 aC aA).f7)] 79 (0, 0))) ∧ Aside0 (Below w.heap.size w W)) ⟨⟨fm aG.out⟩, ⟨bm aD.out⟩, ⟨bl HB.out⟩⟩ ?_
    intro eD nn_
    replace aG := nn_.1
    replace aD := nn_.2.1
    replace HB := nn_.2.2
    clear nn_
    replace aG := aM (blk_drew aG.out)
    replace aD := aM (blk_drew aD.out)
    replace HB := aM (below_drew1 HB.out)
    refine start_ (n := 34) (S := fun w' => cT11 w' aN (.bool ((rd_T79 aC aA).f0)) (.bool true) (.int .i64 ((rd_T79 aC aA).f2.f0)) (.int .i64 ((rd_T79 aC aA).f2.f1)) (.int .i64 ((rd_T79 aC aA).f2.f2)) (.int .i64 ((rd_T79 aC aA).f2.f3)) (.int .i64 ((rd_T79 aC aA).f3)) (.int .i64 ((rd_T79 aC aA).f4)) (.int .i64 ((rd_T79 aC aA).f5)) (.int .i64 ((rd_T79 aC aA).f6)) (.bool ((rd_T79 aC aA).f7)) (cS2 w' gb (.int .i64 aI) (.slice (some aH) aC.length bT))) (ds := []) (dn 34 0) (by kernel_rfl) rfl rfl ⟨cI aD.out 0, cI aD.out 1, cI aD.out 2, cI aD.out 3, cI aD.out 4, cI aD.out 5, cI aD.out 6, cI aD.out 7, cI aD.out 8, cI aD.out 9, cI aD.out 10, cI aG.out 0, cI aG.out 1⟩ (fun hHeld => ?_); refine with_tabW impl_Bridge_rootPort.tab5 impl_Bridge_rootPort.bits5 (fun HT_ HW_ => ?_)
    generalize eD.drew = eV at aG aD HB hHeld ⊢
    refine nY (N := some 16) HT_ ?_
    refine tY (N := some 17) HT_ HW_ hHeld ?_
    refine nY (N := some 18) HT_ ?_
    refine nY (N := some 19) HT_ ?_
    refine nY (N := some 20) HT_ ?_
    refine nY (N := some 21) HT_ ?_
    refine pY (i := 7) (N := some 23) #[Y,Y,Y,Y,Y,Y,U,Y,U,U,U,U,U,U,U,U,U,U,U,U,U,U,U,U,U,U,U,U,U,U,U,U,U,U] HT_ ?_
    refine pY (i := 8) (N := some 24) #[Y,Y,Y,Y,Y,Y,U,Y,Y,U,U,U,U,U,U,U,U,U,U,U,U,U,U,U,U,U,U,U,U,U,U,U,U,U] HT_ ?_
    refine pY (i := 9) (N := some 25) #[Y,Y,Y,Y,Y,Y,U,Y,Y,Y,U,U,U,U,U,U,U,U,U,U,U,U,U,U,U,U,U,U,U,U,U,U,U,U] HT_ ?_
    refine aY (i := 6) (N := some 22) #[Y,Y,Y,Y,Y,Y,Y,Y,Y,Y,U,U,U,U,U,U,U,U,U,U,U,U,U,U,U,U,U,U,U,U,U,U,U,U] HT_ HW_ hHeld ?_
    refine aY (i := 10) (N := some 26) #[Y,Y,Y,Y,Y,Y,Y,Y,Y,Y,Y,U,U,U,U,U,U,U,U,U,U,U,U,U,U,U,U,U,U,U,U,U,U,U] HT_ HW_ hHeld ?_
    refine pY (i := 11) (N := some 27) #[Y,Y,Y,Y,Y,Y,Y,Y,Y,Y,Y,Y,U,U,U,U,U,U,U,U,U,U,U,U,U,U,U,U,U,U,U,U,U,U] HT_ ?_
    refine pY (i := 12) (N := some 28) #[Y,Y,Y,Y,Y,Y,Y,Y,Y,Y,Y,Y,Y,U,U,U,U,U,U,U,U,U,U,U,U,U,U,U,U,U,U,U,U,U] HT_ ?_
    refine pY (i := 13) (N := some 29) #[Y,Y,Y,Y,Y,Y,Y,Y,Y,Y,Y,Y,Y,Y,U,U,U,U,U,U,U,U,U,U,U,U,U,U,U,U,U,U,U,U] HT_ ?_
    refine pY (i := 14) (N := some 30) #[Y,Y,Y,Y,Y,Y,Y,Y,Y,Y,Y,Y,Y,Y,Y,U,U,U,U,U,U,U,U,U,U,U,U,U,U,U,U,U,U,U] HT_ ?_
    refine pY (i := 15) (N := some 31) #[Y,Y,Y,Y,Y,Y,Y,Y,Y,Y,Y,Y,Y,Y,Y,Y,U,U,U,U,U,U,U,U,U,U,U,U,U,U,U,U,U,U] HT_ ?_
    refine pY (i := 17) (N := some 33) #[Y,Y,Y,Y,Y,Y,Y,Y,Y,Y,Y,Y,Y,Y,Y,Y,U,Y,U,U,U,U,U,U,U,U,U,U,U,U,U,U,U,U] HT_ ?_
    refine pY (i := 18) (N := some 34) #[Y,Y,Y,Y,Y,Y,Y,Y,Y,Y,Y,Y,Y,Y,Y,Y,U,Y,Y,U,U,U,U,U,U,U,U,U,U,U,U,U,U,U] HT_ ?_
    refine pY (i := 19) (N := some 35) #[Y,Y,Y,Y,Y,Y,Y,Y,Y,Y,Y,Y,Y,Y,Y,Y,U,Y,Y,Y,U,U,U,U,U,U,U,U,U,U,U,U,U,U] HT_ ?_
    refine aY (i := 16) (N := some 32) #[Y,Y,Y,Y,Y,Y,Y,Y,Y,Y,Y,Y,Y,Y,Y,Y,Y,Y,Y,Y,U,U,U,U,U,U,U,U,U,U,U,U,U,U] HT_ HW_ hHeld ?_
    refine aY (i := 20) (N := some 36) #[Y,Y,Y,Y,Y,Y,Y,Y,Y,Y,Y,Y,Y,Y,Y,Y,Y,Y,Y,Y,Y,U,U,U,U,U,U,U,U,U,U,U,U,U] HT_ HW_ hHeld ?_
    refine pY (i := 21) (N := some 37) #[Y,Y,Y,Y,Y,Y,Y,Y,Y,Y,Y,Y,Y,Y,Y,Y,Y,Y,Y,Y,Y,Y,U,U,U,U,U,U,U,U,U,U,U,U] HT_ ?_
    refine pY (i := 22) (N := some 38) #[Y,Y,Y,Y,Y,Y,Y,Y,Y,Y,Y,Y,Y,Y,Y,Y,Y,Y,Y,Y,Y,Y,Y,U,U,U,U,U,U,U,U,U,U,U] HT_ ?_
    refine pY (i := 23) (N := some 39) #[Y,Y,Y,Y,Y,Y,Y,Y,Y,Y,Y,Y,Y,Y,Y,Y,Y,Y,Y,Y,Y,Y,Y,Y,U,U,U,U,U,U,U,U,U,U] HT_ ?_
    refine pY (i := 24) (N := some 40) #[Y,Y,Y,Y,Y,Y,Y,Y,Y,Y,Y,Y,Y,Y,Y,Y,Y,Y,Y,Y,Y,Y,Y,Y,Y,U,U,U,U,U,U,U,U,U] HT_ ?_
    refine pY (i := 25) (N := some 41) #[Y,Y,Y,Y,Y,Y,Y,Y,Y,Y,Y,Y,Y,Y,Y,Y,Y,Y,Y,Y,Y,Y,Y,Y,Y,Y,U,U,U,U,U,U,U,U] HT_ ?_
    refine aY (i := 26) (N := some 42) #[Y,Y,Y,Y,Y,Y,Y,Y,Y,Y,Y,Y,Y,Y,Y,Y,Y,Y,Y,Y,Y,Y,Y,Y,Y,Y,Y,U,U,U,U,U,U,U] HT_ HW_ hHeld ?_
    refine pY (i := 27) (N := some 43) #[Y,Y,Y,Y,Y,Y,Y,Y,Y,Y,Y,Y,Y,Y,Y,Y,Y,Y,Y,Y,Y,Y,Y,Y,Y,Y,Y,Y,U,U,U,U,U,U] HT_ ?_
    refine pY (i := 28) (N := some 44) #[Y,Y,Y,Y,Y,Y,Y,Y,Y,Y,Y,Y,Y,Y,Y,Y,Y,Y,Y,Y,Y,Y,Y,Y,Y,Y,Y,Y,Y,U,U,U,U,U] HT_ ?_
    refine pY (i := 29) (N := some 45) #[Y,Y,Y,Y,Y,Y,Y,Y,Y,Y,Y,Y,Y,Y,Y,Y,Y,Y,Y,Y,Y,Y,Y,Y,Y,Y,Y,Y,Y,Y,U,U,U,U] HT_ ?_
    refine pY (i := 30) (N := some 46) #[Y,Y,Y,Y,Y,Y,Y,Y,Y,Y,Y,Y,Y,Y,Y,Y,Y,Y,Y,Y,Y,Y,Y,Y,Y,Y,Y,Y,Y,Y,Y,U,U,U] HT_ ?_
    refine aY (i := 31) (N := some 47) #[Y,Y,Y,Y,Y,Y,Y,Y,Y,Y,Y,Y,Y,Y,Y,Y,Y,Y,Y,Y,Y,Y,Y,Y,Y,Y,Y,Y,Y,Y,Y,Y,U,U] HT_ HW_ hHeld ?_
    refine pY (i := 32) (N := some 48) #[Y,Y,Y,Y,Y,Y,Y,Y,Y,Y,Y,Y,Y,Y,Y,Y,Y,Y,Y,Y,Y,Y,Y,Y,Y,Y,Y,Y,Y,Y,Y,Y,Y,U] HT_ ?_
    refine pY (i := 33) (N := some 49) #[Y,Y,Y,Y,Y,Y,Y,Y,Y,Y,Y,Y,Y,Y,Y,Y,Y,Y,Y,Y,Y,Y,Y,Y,Y,Y,Y,Y,Y,Y,Y,Y,Y,Y] HT_ ?_
    refine done_ (done_of HT_.out (by kernel_rfl)) ?_
    try go_wp2
    go_meet
    case rel => (try rw [← bU.out]); exact ⟨_, (decide (((rd_T79 aC aA).f3) ≥ 8)), xE, H', ⟨by have := bV.out; first | omega | exact Nat.le_refl _⟩, ⟨bk aG.out⟩, ⟨bk aD.out⟩, ⟨bl HB.out⟩⟩
   case rest =>
    clear dI
    repeat first|clear c1|clear p2|clear dA|clear cD|clear dF
    obtain ⟨kq, bZ, rfl, HA, HJ6, aG, aD, HB⟩ := hcut
    cases kq with
    | zero => exact absurd HA.out (by simp [impl_Bridge_rootPort.j1])
    | succ cT =>
     have H := HA.out
     clear HA
     simp only [impl_Bridge_rootPort.j1] at H
     by_cases dG : bZ = true
     case pos =>
      subst dG
      replace H := hP H rfl
      have H' := aM H
      clear H
      go_wp2
      go_roundg cT
      case measure => have := bV.out; have := HJ6.out; omega
      case rel => (try rw [← bU.out]); exact ⟨(aE), (wrap64 (aA + 1)), xE, xE, H', ⟨by have := bV.out; have := HJ6.out; omega⟩, ⟨bk aG.out⟩, ⟨bl HB.out⟩⟩
     replace dG := Bool.eq_false_iff.mpr dG
     subst dG
     replace H := hF H
     by_cases cU : aE < 0
     case pos =>
      rw [if_pos cU] at H
      have dN := decide_eq_true cU
      clear cU
      have H' := aM H
      clear H
      try go_wp2
      replace aG := aM (blk_drew aG.out)
      replace aD := aM (blk_drew aD.out)
      replace HB := aM (below_drew1 HB.out)
      refine start_ (n := 15) (S := fun w' => True) (ds := []) (dn 15 0) (by kernel_rfl) rfl rfl trivial (fun hHeld => ?_); refine with_tabW impl_Bridge_rootPort.tab6 impl_Bridge_rootPort.bits6 (fun HT_ HW_ => ?_)
      generalize wc.drew = eW at aG aD HB hHeld ⊢
      refine nY (N := some 50) HT_ ?_
      refine nY (N := some 51) HT_ ?_
      refine nY (N := some 52) HT_ ?_
      refine nU (N := some 53) HT_ ?_
      refine nU (N := some 54) HT_ ?_
      refine nU (N := some 55) HT_ ?_
      refine nU (N := some 56) HT_ ?_
      refine nU (N := some 57) HT_ ?_
      refine nU (N := some 58) HT_ ?_
      refine nU (N := some 59) HT_ ?_
      refine nU (N := some 60) HT_ ?_
      refine nU (N := some 61) HT_ ?_
      refine nU (N := some 62) HT_ ?_
      refine nU (N := some 63) HT_ ?_
      refine nY (N := some 64) HT_ ?_
      refine done_ (done_of HT_.out (by kernel_rfl)) ?_
      try go_wp2
      go_roundg cT
      case measure => have := bV.out; have := HJ6.out; omega
      case rel => (try rw [← bU.out]); exact ⟨(aA), (wrap64 (aA + 1)), xE, xE, H', ⟨by have := bV.out; have := HJ6.out; omega⟩, ⟨bk aG.out⟩, ⟨bl HB.out⟩⟩
     rw [if_neg cU] at H
     have dN := decide_eq_false cU
     clear cU
     obtain ⟨eI, H⟩ := gI H
     obtain ⟨eJ, H⟩ := gI H
     obtain ⟨dS, dJ, H⟩ := hB H
     have dO := aM dJ
     clear dJ
     by_cases dH : dS = true
     case pos =>
      subst dH
      replace H := hP H rfl
      have H' := aM H
      clear H
      try go_wp2
      replace aG := aM (blk_drew aG.out)
      replace aD := aM (blk_drew aD.out)
      replace HB := aM (below_drew1 HB.out)
      have bX : 0 ≤ (aE : Int) := dT
      have bY : aE < (aC.length : Int) := dT
      obtain ⟨cW, dE, aQ, aT, aV, aW, aX, aZ, bA, bD, bG, bH, aJ⟩ := at_T79 cV.out aE bX bY
      have aK := aJ
      have bI := bH
      have bJ := bG
      have bK := bD
      have bL := bA
      have bM := aZ
      have bN := aX
      have bO := aW
      have bP := aV
      have bQ := aT
      have bR := aQ
      obtain rfl : aH = cW := (by injection dE)
      replace aQ := xB HB aQ
      replace aT := xB HB aT
      replace aV := xB HB aV
      replace aW := xB HB aW
      replace aX := xB HB aX
      replace aZ := xB HB aZ
      replace bA := xB HB bA
      replace bD := xB HB bD
      replace bG := xB HB bG
      replace bH := xB HB bH
      replace aJ := xB HB aJ
      replace bX := eq_true bX
      replace bY := eq_true bY
      refine start_ (n := 15) (S := fun w' => cT11 w' aN (.bool ((rd_T79 aC aA).f0)) (.bool ((rd_T79 aC aA).f1)) (.int .i64 ((rd_T79 aC aA).f2.f0)) (.int .i64 ((rd_T79 aC aA).f2.f1)) (.int .i64 ((rd_T79 aC aA).f2.f2)) (.int .i64 ((rd_T79 aC aA).f2.f3)) (.int .i64 ((rd_T79 aC aA).f3)) (.int .i64 ((rd_T79 aC aA).f4)) (.int .i64 ((rd_T79 aC aA).f5)) (.int .i64 ((rd_T79 aC aA).f6)) (.bool ((rd_T79 aC aA).f7)) (cT2 w' gb (.int .i64 aI) (.slice (some aH) aC.length bT) (w'.cell? (aH.add ((aE).toNat * 11)) = some ((rd_T79 aC aE).f0) ∧ w'.cell? ⟨(aH.add ((aE).toNat * 11)).block, (aH.add ((aE).toNat * 11)).off + 1, none⟩ = some ((rd_T79 aC aE).f1) ∧ w'.cell? ⟨(aH.add ((aE).toNat * 11)).block, (aH.add ((aE).toNat * 11)).off + 2, none⟩ = some ((rd_T79 aC aE).f2.f0) ∧ w'.cell? ⟨(aH.add ((aE).toNat * 11)).block, (aH.add ((aE).toNat * 11)).off + 3, none⟩ = some ((rd_T79 aC aE).f2.f1) ∧ w'.cell? ⟨(aH.add ((aE).toNat * 11)).block, (aH.add ((aE).toNat * 11)).off + 4, none⟩ = some ((rd_T79 aC aE).f2.f2) ∧ w'.cell? ⟨(aH.add ((aE).toNat * 11)).block, (aH.add ((aE).toNat * 11)).off + 5, none⟩ = some ((rd_T79 aC aE).f2.f3) ∧ w'.cell? ⟨(aH.add ((aE).toNat * 11)).block, (aH.add ((aE).toNat * 11)).off + 6, none⟩ = some ((rd_T79 aC aE).f3) ∧ w'.cell? ⟨(aH.add ((aE).toNat * 11)).block, (aH.add ((aE).toNat * 11)).off + 7, none⟩ = some ((rd_T79 aC aE).f4) ∧ w'.cell? ⟨(aH.add ((aE).toNat * 11)).block, (aH.add ((aE).toNat * 11)).off + 8, none⟩ = some ((rd_T79 aC aE).f5) ∧ w'.cell? ⟨(aH.add ((aE).toNat * 11)).block, (aH.add ((aE).toNat * 11)).off + 9, none⟩ = some ((rd_T79 aC aE).f6) ∧ w'.cell? ⟨(aH.add ((aE).toNat * 11)).block, (aH.add ((aE).toNat * 11)).off + 10, none⟩ = some ((rd_T79 aC aE).f7)))) (ds := []) (dn 15 0) (by kernel_rfl) rfl rfl ⟨cI aD.out 0, cI aD.out 1, cI aD.out 2, cI aD.out 3, cI aD.out 4, cI aD.out 5, cI aD.out 6, cI aD.out 7, cI aD.out 8, cI aD.out 9, cI aD.out 10, cI aG.out 0, cI aG.out 1, ((HB.out.cell (World.block_lt_of_cell? w _ bR)).trans bR), ((HB.out.cell (World.block_lt_of_cell? w _ bQ)).trans bQ), ((HB.out.cell (World.block_lt_of_cell? w _ bP)).trans bP), ((HB.out.cell (World.block_lt_of_cell? w _ bO)).trans bO), ((HB.out.cell (World.block_lt_of_cell? w _ bN)).trans bN), ((HB.out.cell (World.block_lt_of_cell? w _ bM)).trans bM), ((HB.out.cell (World.block_lt_of_cell? w _ bL)).trans bL), ((HB.out.cell (World.block_lt_of_cell? w _ bK)).trans bK), ((HB.out.cell (World.block_lt_of_cell? w _ bJ)).trans bJ), ((HB.out.cell (World.block_lt_of_cell? w _ bI)).trans bI), ((HB.out.cell (World.block_lt_of_cell? w _ aK)).trans aK)⟩ (fun hHeld => ?_); refine with_tabW impl_Bridge_rootPort.tab6 impl_Bridge_rootPort.bits6 (fun HT_ HW_ => ?_)
      generalize wc.drew = eX at aG aD HB aQ aT aJ aV aW aX aZ bA bD bG bH hHeld ⊢
      refine nY (N := some 50) HT_ ?_
      refine nY (N := some 51) HT_ ?_
      refine nY (N := some 52) HT_ ?_
      refine nY (N := some 53) HT_ ?_
      refine pY (i := 5) (N := some 55) #[Y,Y,Y,Y,U,Y,U,U,U,U,U,U,U,U,U] HT_ ?_
      refine pY (i := 6) (N := some 56) #[Y,Y,Y,Y,U,Y,Y,U,U,U,U,U,U,U,U] HT_ ?_
      refine pY (i := 7) (N := some 57) #[Y,Y,Y,Y,U,Y,Y,Y,U,U,U,U,U,U,U] HT_ ?_
      refine pY (i := 9) (N := some 59) #[Y,Y,Y,Y,U,Y,Y,Y,U,Y,U,U,U,U,U] HT_ ?_
      refine aY (i := 4) (N := some 54) #[Y,Y,Y,Y,Y,Y,Y,Y,U,Y,U,U,U,U,U] HT_ HW_ hHeld ?_
      refine aY (i := 8) (N := some 58) #[Y,Y,Y,Y,Y,Y,Y,Y,Y,Y,U,U,U,U,U] HT_ HW_ hHeld ?_
      refine pY (i := 10) (N := some 60) #[Y,Y,Y,Y,Y,Y,Y,Y,Y,Y,Y,U,U,U,U] HT_ ?_
      refine pY (i := 11) (N := some 61) #[Y,Y,Y,Y,Y,Y,Y,Y,Y,Y,Y,Y,U,U,U] HT_ ?_
      refine aY (i := 12) (N := some 62) #[Y,Y,Y,Y,Y,Y,Y,Y,Y,Y,Y,Y,Y,U,U] HT_ HW_ hHeld ?_
      refine one_ (i := 13) (N := some 63) #[Y,Y,Y,Y,Y,Y,Y,Y,Y,Y,Y,Y,Y,Y,U] rfl rfl (one_of HT_.out (by kernel_rfl)) (by decide) (fun K hK => ?_)
      refine goes_ Try.func47 (by kernel_rfl) rfl #[.agg #[((rd_T79 aC aA).f2.f0), ((rd_T79 aC aA).f2.f1), ((rd_T79 aC aA).f2.f2), ((rd_T79 aC aA).f2.f3)], .agg #[((rd_T79 aC aE).f2.f0), ((rd_T79 aC aE).f2.f1), ((rd_T79 aC aE).f2.f2), ((rd_T79 aC aE).f2.f3)]] (by rfl) rfl rfl xR ?_
      with_reducible refine (impl_Better.calls cT ((rd_T79 aC aA).f2.f0) ((rd_T79 aC aA).f2.f1) ((rd_T79 aC aA).f2.f2) ((rd_T79 aC aA).f2.f3) ((rd_T79 aC aE).f2.f0) ((rd_T79 aC aE).f2.f1) ((rd_T79 aC aE).f2.f2) ((rd_T79 aC aE).f2.f3) true _ dO.out).mono ?_
      rintro e eY ⟨rfl, hb⟩
      refine ⟨_, rfl, ?_⟩
      replace aG := rB aG hb
      replace aD := rB aD hb
      replace HB := rS HB hb
      (try clear hb)
      (try clear hb2)
      (try clear hk)
      (try clear hi)
      refine hK.out _ _ ⟨cI aD.out 0, cI aD.out 1, cI aD.out 2, cI aD.out 3, cI aD.out 4, cI aD.out 5, cI aD.out 6, cI aD.out 7, cI aD.out 8, cI aD.out 9, cI aD.out 10, cI aG.out 0, cI aG.out 1, ((HB.out.cell (World.block_lt_of_cell? w _ bR)).trans bR), ((HB.out.cell (World.block_lt_of_cell? w _ bQ)).trans bQ), ((HB.out.cell (World.block_lt_of_cell? w _ bP)).trans bP), ((HB.out.cell (World.block_lt_of_cell? w _ bO)).trans bO), ((HB.out.cell (World.block_lt_of_cell? w _ bN)).trans bN), ((HB.out.cell (World.block_lt_of_cell? w _ bM)).trans bM), ((HB.out.cell (World.block_lt_of_cell? w _ bL)).trans bL), ((HB.out.cell (World.block_lt_of_cell? w _ bK)).trans bK), ((HB.out.cell (World.block_lt_of_cell? w _ bJ)).trans bJ), ((HB.out.cell (World.block_lt_of_cell? w _ bI)).trans bI), ((HB.out.cell (World.block_lt_of_cell? w _ aK)).trans aK)⟩ (fun hHeld => ?_)
      clear hK K
      refine norm_ (a' := ?_) ?_ ?_
      rotate_left
      ·show Act.put _ (some 63) _ = _
       simp only [Act.put, sA, sZ, sS, i64_w, i32_w]
       rfl
      refine pY (i := 14) (N := some 64) #[Y,Y,Y,Y,Y,Y,Y,Y,Y,Y,Y,Y,Y,Y,Y] HT_ ?_
      refine done_ (done_of HT_.out (by kernel_rfl)) ?_
      try go_wp2
      go_roundg cT
      case measure => have := bV.out; have := HJ6.out; omega
      case rel => (try rw [← bU.out]); exact ⟨(aA), (wrap64 (aA + 1)), xE, xE, H', ⟨by have := bV.out; have := HJ6.out; omega⟩, ⟨bk aG.out⟩, ⟨bl HB.out⟩⟩
     replace dH := Bool.eq_false_iff.mpr dH
     subst dH
     replace H := hF H
     have H' := aM H
     clear H
     try go_wp2
     replace aG := aM (blk_drew aG.out)
     replace aD := aM (blk_drew aD.out)
     replace HB := aM (below_drew1 HB.out)
     have bX : 0 ≤ (aE : Int) := dT
     have bY : aE < (aC.length : Int) := dT
     obtain ⟨cW, dE, aQ, aT, aV, aW, aX, aZ, bA, bD, bG, bH, aJ⟩ := at_T79 cV.out aE bX bY
     have aK := aJ
     have bI := bH
     have bJ := bG
     have bK := bD
     have bL := bA
     have bM := aZ
     have bN := aX
     have bO := aW
     have bP := aV
     have bQ := aT
     have bR := aQ
     obtain rfl : aH = cW := (by injection dE)
     replace aQ := xB HB aQ
     replace aT := xB HB aT
     replace aV := xB HB aV
     replace aW := xB HB aW
     replace aX := xB HB aX
     replace aZ := xB HB aZ
     replace bA := xB HB bA
     replace bD := xB HB bD
     replace bG := xB HB bG
     replace bH := xB HB bH
     replace aJ := xB HB aJ
     replace bX := eq_true bX
     replace bY := eq_true bY
     refine start_ (n := 15) (S := fun w' => cT11 w' aN (.bool ((rd_T79 aC aA).f0)) (.bool ((rd_T79 aC aA).f1)) (.int .i64 ((rd_T79 aC aA).f2.f0)) (.int .i64 ((rd_T79 aC aA).f2.f1)) (.int .i64 ((rd_T79 aC aA).f2.f2)) (.int .i64 ((rd_T79 aC aA).f2.f3)) (.int .i64 ((rd_T79 aC aA).f3)) (.int .i64 ((rd_T79 aC aA).f4)) (.int .i64 ((rd_T79 aC aA).f5)) (.int .i64 ((rd_T79 aC aA).f6)) (.bool ((rd_T79 aC aA).f7)) (cT2 w' gb (.int .i64 aI) (.slice (some aH) aC.length bT) (w'.cell? (aH.add ((aE).toNat * 11)) = some ((rd_T79 aC aE).f0) ∧ w'.cell? ⟨(aH.add ((aE).toNat * 11)).block, (aH.add ((aE).toNat * 11)).off + 1, none⟩ = some ((rd_T79 aC aE).f1) ∧ w'.cell? ⟨(aH.add ((aE).toNat * 11)).block, (aH.add ((aE).toNat * 11)).off + 2, none⟩ = some ((rd_T79 aC aE).f2.f0) ∧ w'.cell? ⟨(aH.add ((aE).toNat * 11)).block, (aH.add ((aE).toNat * 11)).off + 3, none⟩ = some ((rd_T79 aC aE).f2.f1) ∧ w'.cell? ⟨(aH.add ((aE).toNat * 11)).block, (aH.add ((aE).toNat * 11)).off + 4, none⟩ = some ((rd_T79 aC aE).f2.f2) ∧ w'.cell? ⟨(aH.add ((aE).toNat * 11)).block, (aH.add ((aE).toNat * 11)).off + 5, none⟩ = some ((rd_T79 aC aE).f2.f3) ∧ w'.cell? ⟨(aH.add ((aE).toNat * 11)).block, (aH.add ((aE).toNat * 11)).off + 6, none⟩ = some ((rd_T79 aC aE).f3) ∧ w'.cell? ⟨(aH.add ((aE).toNat * 11)).block, (aH.add ((aE).toNat * 11)).off + 7, none⟩ = some ((rd_T79 aC aE).f4) ∧ w'.cell? ⟨(aH.add ((aE).toNat * 11)).block, (aH.add ((aE).toNat * 11)).off + 8, none⟩ = some ((rd_T79 aC aE).f5) ∧ w'.cell? ⟨(aH.add ((aE).toNat * 11)).block, (aH.add ((aE).toNat * 11)).off + 9, none⟩ = some ((rd_T79 aC aE).f6) ∧ w'.cell? ⟨(aH.add ((aE).toNat * 11)).block, (aH.add ((aE).toNat * 11)).off + 10, none⟩ = some ((rd_T79 aC aE).f7)))) (ds := []) (dn 15 0) (by kernel_rfl) rfl rfl ⟨cI aD.out 0, cI aD.out 1, cI aD.out 2, cI aD.out 3, cI aD.out 4, cI aD.out 5, cI aD.out 6, cI aD.out 7, cI aD.out 8, cI aD.out 9, cI aD.out 10, cI aG.out 0, cI aG.out 1, ((HB.out.cell (World.block_lt_of_cell? w _ bR)).trans bR), ((HB.out.cell (World.block_lt_of_cell? w _ bQ)).trans bQ), ((HB.out.cell (World.block_lt_of_cell? w _ bP)).trans bP), ((HB.out.cell (World.block_lt_of_cell? w _ bO)).trans bO), ((HB.out.cell (World.block_lt_of_cell? w _ bN)).trans bN), ((HB.out.cell (World.block_lt_of_cell? w _ bM)).trans bM), ((HB.out.cell (World.block_lt_of_cell? w _ bL)).trans bL), ((HB.out.cell (World.block_lt_of_cell? w _ bK)).trans bK), ((HB.out.cell (World.block_lt_of_cell? w _ bJ)).trans bJ), ((HB.out.cell (World.block_lt_of_cell? w _ bI)).trans bI), ((HB.out.cell (World.block_lt_of_cell? w _ aK)).trans aK)⟩ (fun hHeld => ?_); refine with_tabW impl_Bridge_rootPort.tab6 impl_Bridge_rootPort.bits6 (fun HT_ HW_ => ?_)
     generalize wc.drew = eZ at aG aD HB aQ aT aJ aV aW aX aZ bA bD bG bH hHeld ⊢
     refine nY (N := some 50) HT_ ?_
     refine nY (N := some 51) HT_ ?_
     refine nY (N := some 52) HT_ ?_
     refine nY (N := some 53) HT_ ?_
     refine pY (i := 5) (N := some 55) #[Y,Y,Y,Y,U,Y,U,U,U,U,U,U,U,U,U] HT_ ?_
     refine pY (i := 6) (N := some 56) #[Y,Y,Y,Y,U,Y,Y,U,U,U,U,U,U,U,U] HT_ ?_
     refine pY (i := 7) (N := some 57) #[Y,Y,Y,Y,U,Y,Y,Y,U,U,U,U,U,U,U] HT_ ?_
     refine pY (i := 9) (N := some 59) #[Y,Y,Y,Y,U,Y,Y,Y,U,Y,U,U,U,U,U] HT_ ?_
     refine aY (i := 4) (N := some 54) #[Y,Y,Y,Y,Y,Y,Y,Y,U,Y,U,U,U,U,U] HT_ HW_ hHeld ?_
     refine aY (i := 8) (N := some 58) #[Y,Y,Y,Y,Y,Y,Y,Y,Y,Y,U,U,U,U,U] HT_ HW_ hHeld ?_
     refine pY (i := 10) (N := some 60) #[Y,Y,Y,Y,Y,Y,Y,Y,Y,Y,Y,U,U,U,U] HT_ ?_
     refine pY (i := 11) (N := some 61) #[Y,Y,Y,Y,Y,Y,Y,Y,Y,Y,Y,Y,U,U,U] HT_ ?_
     refine aY (i := 12) (N := some 62) #[Y,Y,Y,Y,Y,Y,Y,Y,Y,Y,Y,Y,Y,U,U] HT_ HW_ hHeld ?_
     refine one_ (i := 13) (N := some 63) #[Y,Y,Y,Y,Y,Y,Y,Y,Y,Y,Y,Y,Y,Y,U] rfl rfl (one_of HT_.out (by kernel_rfl)) (by decide) (fun K hK => ?_)
     refine goes_ Try.func47 (by kernel_rfl) rfl #[.agg #[((rd_T79 aC aA).f2.f0), ((rd_T79 aC aA).f2.f1), ((rd_T79 aC aA).f2.f2), ((rd_T79 aC aA).f2.f3)], .agg #[((rd_T79 aC aE).f2.f0), ((rd_T79 aC aE).f2.f1), ((rd_T79 aC aE).f2.f2), ((rd_T79 aC aE).f2.f3)]] (by rfl) rfl rfl xR ?_
     with_reducible refine (impl_Better.calls cT ((rd_T79 aC aA).f2.f0) ((rd_T79 aC aA).f2.f1) ((rd_T79 aC aA).f2.f2) ((rd_T79 aC aA).f2.f3) ((rd_T79 aC aE).f2.f0) ((rd_T79 aC aE).f2.f1) ((rd_T79 aC aE).f2.f2) ((rd_T79 aC aE).f2.f3) false _ dO.out).mono ?_
     rintro e fA ⟨rfl, hb⟩
     refine ⟨_, rfl, ?_⟩
     replace aG := rB aG hb
     replace aD := rB aD hb
     replace HB := rS HB hb
     (try clear hb)
     (try clear hb2)
     (try clear hk)
     (try clear hi)
     refine hK.out _ _ ⟨cI aD.out 0, cI aD.out 1, cI aD.out 2, cI aD.out 3, cI aD.out 4, cI aD.out 5, cI aD.out 6, cI aD.out 7, cI aD.out 8, cI aD.out 9, cI aD.out 10, cI aG.out 0, cI aG.out 1, ((HB.out.cell (World.block_lt_of_cell? w _ bR)).trans bR), ((HB.out.cell (World.block_lt_of_cell? w _ bQ)).trans bQ), ((HB.out.cell (World.block_lt_of_cell? w _ bP)).trans bP), ((HB.out.cell (World.block_lt_of_cell? w _ bO)).trans bO), ((HB.out.cell (World.block_lt_of_cell? w _ bN)).trans bN), ((HB.out.cell (World.block_lt_of_cell? w _ bM)).trans bM), ((HB.out.cell (World.block_lt_of_cell? w _ bL)).trans bL), ((HB.out.cell (World.block_lt_of_cell? w _ bK)).trans bK), ((HB.out.cell (World.block_lt_of_cell? w _ bJ)).trans bJ), ((HB.out.cell (World.block_lt_of_cell? w _ bI)).trans bI), ((HB.out.cell (World.block_lt_of_cell? w _ aK)).trans aK)⟩ (fun hHeld => ?_)
     clear hK K
     refine norm_ (a' := ?_) ?_ ?_
     rotate_left
     ·show Act.put _ (some 63) _ = _
      simp only [Act.put, sA, sZ, sS, i64_w, i32_w]
      rfl
     refine pY (i := 14) (N := some 64) #[Y,Y,Y,Y,Y,Y,Y,Y,Y,Y,Y,Y,Y,Y,Y] HT_ ?_
     refine done_ (done_of HT_.out (by kernel_rfl)) ?_
     try go_wp2
     go_roundg cT
     case measure => have := bV.out; have := HJ6.out; omega
     case rel => (try rw [← bU.out]); exact ⟨(aE), (wrap64 (aA + 1)), xE, xE, H', ⟨by have := bV.out; have := HJ6.out; omega⟩, ⟨bk aG.out⟩, ⟨bl HB.out⟩⟩

end Go.Proofs.Ythmijfekdeagpaa.PFnRootPorts

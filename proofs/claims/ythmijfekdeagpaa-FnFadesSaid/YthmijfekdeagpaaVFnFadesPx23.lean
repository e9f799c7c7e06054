/- A part of the proof of laws.FnFades. No condition beyond what its theorems say. -/
import Derived.Test.YthmijfekdeagpaaVFnFadesPx6
namespace Go.Proofs.Ythmijfekdeagpaa.PFnFades
open Go.RowKit Go.Proofs.YthmijfekdeagpaaW.PrintWords Go.Proofs.YthmijfekdeagpaaW.PrintLast Go.Proofs.YthmijfekdeagpaaW.PrintMore
set_option linter.unusedVariables false
set_option linter.unusedSimpArgs false

def impl_Bridge_own.f (k : Nat) (aC : Int) (aD : List (S79)) (a1 : Int) : Option (Int × Int × Int × Int) := (impl_Bridge_rootPort.f k aC aD).bind fun aA => (if aA ≥ 0 then (if 0 ≤ aA then (if aA < (aD.length : Int) then (some ((rd_T79 aD aA).f2.f0, wrap64 (((rd_T79 aD aA).f2.f1) + 1), aC, a1)) else (none)) else (none)) else (some (aC, 0, aC, a1)))
theorem impl_Bridge_own.mono : ∀ a0 a1 a2 k, LeO (impl_Bridge_own.f k a0 a1 a2) (impl_Bridge_own.f (k + 1) a0 a1 a2) := by
 intro a0 a1 a2 k
 unfold impl_Bridge_own.f
 repeat' first|(with_reducible first|apply impl_Bridge_rootPort.mono|exact lR _|exact lN _|refine lI ?_ ?_|refine lB ?_ fun _ => ?_)|exact lN _|refine lI ?_ ?_|refine lB ?_ fun _ => ?_
def impl_Bridge_own.T1 : Bool × List (List Nat × List Nat) := (true, [([], []), ([0], [0]), ([1], [1]), ([2], [2]), ([], []), ([4], [4]), ([5], [5]), ([6], [6]), ([], []), ([3, 7, 8], [3, 7, 8]), ([], []), ([10, 9, 0, 1, 2, 3, 4, 5, 6, 7, 8, 9, 10], [9, 10])])
def impl_Bridge_own.B1 : List Nat := [0, 1, 3, 7, 0, 16, 48, 112, 0, 511, 0, 2047]
theorem impl_Bridge_own.tab1 : rtab .any (opsOf Try.f120 1) = impl_Bridge_own.T1 := by kernel_rfl
theorem impl_Bridge_own.bits1 : waitsOk impl_Bridge_own.T1.2 impl_Bridge_own.B1 = true := by kernel_rfl
def impl_Bridge_own.T4 : Bool × List (List Nat × List Nat) := (true, [([], []), ([0], [0]), ([1], [1]), ([2], [2]), ([], []), ([3, 4], [3, 4]), ([5], [5]), ([6], [6]), ([7], [7]), ([], []), ([9], [9]), ([10], [10]), ([11], [11]), ([], []), ([12, 13], [12, 13]), ([14], [14]), ([15], [15]), ([16], [16]), ([17], [17]), ([0, 1, 2, 3, 4, 5, 6, 7, 8], []), ([19, 8, 0, 1, 2, 3, 4, 5, 6, 7, 8], [8, 19]), ([0, 1, 2, 3, 4, 5, 6, 7, 8, 9, 10, 11, 12, 13, 14, 15, 16, 17, 18, 19, 20], []), ([21, 18, 20, 0, 1, 2, 3, 4, 5, 6, 7, 8, 9, 10, 11, 12, 13, 14, 15, 16, 17, 18, 19, 20], [18, 21])])
def impl_Bridge_own.B4 : List Nat := [0, 1, 3, 7, 0, 31, 63, 127, 255, 0, 512, 1536, 3584, 0, 15872, 32256, 65024, 130560, 261632, 511, 524799, 2097151, 4194303]
theorem impl_Bridge_own.tab4 : rtab .any (opsOf Try.f120 4) = impl_Bridge_own.T4 := by kernel_rfl
theorem impl_Bridge_own.bits4 : waitsOk impl_Bridge_own.T4.2 impl_Bridge_own.B4 = true := by kernel_rfl
set_option maxHeartbeats 60000000 in
set_option maxRecDepth 100000 in
theorem impl_Bridge_own.calls (k : Nat) (aQ : Int) (dF : Option Addr) (dE : Nat) (aN : List (S79)) (a1 r1 r2 r3 r4 : Int) (w : World) (gb : Nat) (hBK : w.heap[gb]? = some (.cells #[aQ, .slice dF aN.length dE] 28 (0, 0))) (hr0_1 : Kd.C k79 w dF aN.length aN) (hc0_1 : aN.length ≤ dE) (h : impl_Bridge_own.f k aQ aN a1 = some (r1, r2, r3, r4)) :
  Calls Try.prog 120 #[.pointer (some ⟨gb, 0, none⟩), a1] w fun e w' => e = .returned (.agg #[r1, r2, r3, r4]) ∧ Below w.heap.size w w' := by
 have eO := Try.underlying28
 have eP := Try.underlying73
 have dC := aM hr0_1
 have dM := aM hc0_1
 clear hr0_1 hc0_1
 have HB := aM (Below.refl w.heap.size w)
 have H : ((impl_Bridge_rootPort.f k aQ aN).bind fun aK => (if aK ≥ 0 then (if 0 ≤ aK then (if aK < (aN.length : Int) then (some ((rd_T79 aN aK).f2.f0, wS ((rd_T79 aN aK).f2.f1), aQ, a1)) else (none)) else (none)) else (some (aQ, 0, aQ, a1)))) = some (r1, r2, r3, r4) := h
 clear h
 obtain ⟨aK, dR, H⟩ := hB H
 have A3 := aM dR
 clear dR
 by_cases c4 : aK ≥ 0
 case neg =>
  rw [if_neg c4] at H
  have dS := decide_eq_false c4
  clear c4
  simp only [Option.some.injEq, Prod.mk.injEq] at H
  obtain ⟨rfl, rfl, rfl, rfl⟩ := H
  go_enter Try.func120, Try.ntmps120
  have aC := aM hBK
  clear hBK
  try go_wp2_with (first | ((with_reducible refine gD (N := 4) rfl ?_); refine bE (N := 4) (cs := #[.int .i64 0, .int .i64 0, .int .i64 0, .int .i64 0]) (t := 73) ?_; intro dG hg dW hbox hb; have aE := aM (hbox); have dN := gF hg HB; have dO := gF hg HB; have aW := nM hg aC; have aX := nH hg aC; replace aC := rB aC hb; replace HB := rS HB hb; clear hb hbox hg))
  replace aC := aM (blk_drew aC.out)
  replace aE := aM (blk_drew aE.out)
  replace HB := aM (below_drew1 HB.out)
  refine start_ (n := 12) (S := fun w' => cS2 w' gb (.int .i64 aQ) (.slice dF aN.length dE)) (ds := []) (dn 12 0) (by kernel_rfl) rfl rfl ⟨cI aC.out 0, cI aC.out 1⟩ (fun hHeld => ?_); refine with_tabW impl_Bridge_own.tab1 impl_Bridge_own.bits1 (fun HT_ HW_ => ?_)
  generalize dW.drew = fC at aC aE HB hHeld ⊢
  refine nY (N := some 7) HT_ ?_
  refine nY (N := some 8) HT_ ?_
  refine nY (N := some 9) HT_ ?_
  refine pZ 4 11 (bv 12 23) HT_ ?_
  refine pZ 5 12 (bv 12 55) HT_ ?_
  refine pZ 6 13 (bv 12 119) HT_ ?_
  refine pZ 8 15 (bv 12 375) HT_ ?_
  refine aZ 3 10 (bv 12 383) HT_ HW_ hHeld ?_
  refine aZ 7 14 (bv 12 511) HT_ HW_ hHeld ?_
  refine pZ 9 16 (bv 12 1023) HT_ ?_
  refine one_ (i := 10) (N := some 5) (bv 12 2047) rfl rfl (one_of HT_.out (by kernel_rfl)) (by decide) (fun K hK => ?_)
  refine box_step ?hg (N := 5) ?hd (cs := #[.int .i64 0, .int .i64 0, .int .i64 0, .int .i64 0]) (t := 73) ?hr ?_; (case hd => rfl); (case hg => rfl); (case hr => first | (go_simp; done) | (go_simp; rfl))
  intro dH hg fD hbox hb
  have aD := aM (hbox)
  have aA := gF hg HB
  have dP := gF hg HB
  have aG := nM hg aC
  have aH := nH hg aC
  have aI := nM hg aE
  have aJ := nH hg aE
  replace aC := rB aC hb
  replace aE := rB aE hb
  replace HB := rS HB hb
  clear hb hbox hg
  refine hK.out _ _ ⟨cI aC.out 0, cI aC.out 1⟩ (fun hHeld => ?_)
  clear hK K
  refine norm_ (a' := ?_) ?_ ?_
  rotate_left
  ·show Act.put _ (some 5) _ = _
   simp only [Act.put, sA, sZ, sS, i64_w, i32_w]
   rfl
  refine one_ (i := 11) (N := none) (bv 12 4095) rfl rfl (one_of HT_.out (by kernel_rfl)) (by decide) (fun K hK => ?_)
  have eQ := cI aD.out 0
  have hfs28 := bF aD.out 0
  have hns28_0 := aG.out
  have hns28_1 := aI.out
  have hms28_0 := aH.out
  have hms28_1 := aJ.out
  have eR := cI aD.out 1
  have hfs29 := bF aD.out 1
  have hns29_0 := aG.out
  have hns29_1 := aI.out
  have hms29_0 := aH.out
  have hms29_1 := aJ.out
  have eS := cI aD.out 2
  have hfs30 := bF aD.out 2
  have hns30_0 := aG.out
  have hns30_1 := aI.out
  have hms30_0 := aH.out
  have hms30_1 := aJ.out
  have eT := cI aD.out 3
  have hfs31 := bF aD.out 3
  have hns31_0 := aG.out
  have hns31_1 := aI.out
  have hms31_0 := aH.out
  have hms31_1 := aJ.out
  refine skip_ (w1 := ?_) (by rfl) rfl ?_ ?_
  rotate_left
  ·go_simp
   rfl
  refine hK.out _ _ ⟨(cm (hHeld.1)), (cm (hHeld.2))⟩ (fun hHeld => ?_)
  clear hK K
  refine done_ (done_of HT_.out (by kernel_rfl)) ?_
  try go_wp2_with (first | ((with_reducible refine gC (f := 118) rfl ?_); refine gL (some 18) Try.func118 #[.pointer (some ⟨gb, 0, none⟩)] ?_; (with_reducible refine (impl_Bridge_rootPort.calls (gb := gb) (hBK := (fm aC.out)) k aQ _ _ aN aK _ ?side1 ?side2 A3.out).mono ?_); (case side1 => exact cB dC.out (bl HB.out)); (case side2 => exact dM.out); rintro e fE ⟨rfl, hb⟩; refine ⟨_, rfl, ?_⟩; replace aC := aM (bB (fm aC.out) hb); replace aE := aM (bB (fm aE.out) hb); replace aD := aM (bB (g := dH) (o := .cells #[aQ, .int .i64 0, aQ, a1] 73 (0, 0)) (bm aD.out) hb); replace HB := rS HB hb; (try clear hb); have dY := aH.out; have dZ := aG.out; have eA := aJ.out; have eB := aI.out; have eC := cA4 aD.out; have eD := aX.out; have eE := aW.out; have eF := cA4 aE.out))
  refine bodyPost_ret (results_cell_row rfl _ _ dG 73 #[aQ, .int .i64 0, aQ, a1] (0, 0) _ rfl (bm aE.out) Try.underlying73 rfl (by kernel_rfl)) rfl ?_
  exact ⟨xW, bl HB.out⟩
 rw [if_pos c4] at H
 have dS := decide_eq_true c4
 clear c4
 obtain ⟨eU, H⟩ := gI H
 obtain ⟨eV, H⟩ := gI H
 simp only [Option.some.injEq, Prod.mk.injEq] at H
 obtain ⟨rfl, rfl, rfl, rfl⟩ := H
 go_enter Try.func120, Try.ntmps120
 have aC := aM hBK
 clear hBK
 try go_wp2_with (first | ((with_reducible refine gD (N := 4) rfl ?_); refine bE (N := 4) (cs := #[.int .i64 0, .int .i64 0, .int .i64 0, .int .i64 0]) (t := 73) ?_; intro dG hg w8 hbox hb; have aE := aM (hbox); have dN := gF hg HB; have dO := gF hg HB; have aW := nM hg aC; have aX := nH hg aC; replace aC := rB aC hb; replace HB := rS HB hb; clear hb hbox hg))
 replace aC := aM (blk_drew aC.out)
 replace aE := aM (blk_drew aE.out)
 replace HB := aM (below_drew1 HB.out)
 refine start_ (n := 12) (S := fun w' => cS2 w' gb (.int .i64 aQ) (.slice dF aN.length dE)) (ds := []) (dn 12 0) (by kernel_rfl) rfl rfl ⟨cI aC.out 0, cI aC.out 1⟩ (fun hHeld => ?_); refine with_tabW impl_Bridge_own.tab1 impl_Bridge_own.bits1 (fun HT_ HW_ => ?_)
 generalize w8.drew = w9 at aC aE HB hHeld ⊢
 refine nY (N := some 7) HT_ ?_
 refine nY (N := some 8) HT_ ?_
 refine nY (N := some 9) HT_ ?_
 refine pZ 4 11 (bv 12 23) HT_ ?_
 refine pZ 5 12 (bv 12 55) HT_ ?_
 refine pZ 6 13 (bv 12 119) HT_ ?_
 refine pZ 8 15 (bv 12 375) HT_ ?_
 refine aZ 3 10 (bv 12 383) HT_ HW_ hHeld ?_
 refine aZ 7 14 (bv 12 511) HT_ HW_ hHeld ?_
 refine pZ 9 16 (bv 12 1023) HT_ ?_
 refine one_ (i := 10) (N := some 5) (bv 12 2047) rfl rfl (one_of HT_.out (by kernel_rfl)) (by decide) (fun K hK => ?_)
 refine box_step ?hg (N := 5) ?hd (cs := #[.int .i64 0, .int .i64 0, .int .i64 0, .int .i64 0]) (t := 73) ?hr ?_; (case hd => rfl); (case hg => rfl); (case hr => first | (go_simp; done) | (go_simp; rfl))
 intro dH hg fF hbox hb
 have aD := aM (hbox)
 have aA := gF hg HB
 have dP := gF hg HB
 have aG := nM hg aC
 have aH := nH hg aC
 have aI := nM hg aE
 have aJ := nH hg aE
 replace aC := rB aC hb
 replace aE := rB aE hb
 replace HB := rS HB hb
 clear hb hbox hg
 refine hK.out _ _ ⟨cI aC.out 0, cI aC.out 1⟩ (fun hHeld => ?_)
 clear hK K
 refine norm_ (a' := ?_) ?_ ?_
 rotate_left
 ·show Act.put _ (some 5) _ = _
  simp only [Act.put, sA, sZ, sS, i64_w, i32_w]
  rfl
 refine one_ (i := 11) (N := none) (bv 12 4095) rfl rfl (one_of HT_.out (by kernel_rfl)) (by decide) (fun K hK => ?_)
 have eW := cI aD.out 0
 have hfs11 := bF aD.out 0
 have hns11_0 := aG.out
 have hns11_1 := aI.out
 have hms11_0 := aH.out
 have hms11_1 := aJ.out
 have eX := cI aD.out 1
 have hfs12 := bF aD.out 1
 have hns12_0 := aG.out
 have hns12_1 := aI.out
 have hms12_0 := aH.out
 have hms12_1 := aJ.out
 have eY := cI aD.out 2
 have hfs13 := bF aD.out 2
 have hns13_0 := aG.out
 have hns13_1 := aI.out
 have hms13_0 := aH.out
 have hms13_1 := aJ.out
 have eZ := cI aD.out 3
 have hfs14 := bF aD.out 3
 have hns14_0 := aG.out
 have hns14_1 := aI.out
 have hms14_0 := aH.out
 have hms14_1 := aJ.out
 refine skip_ (w1 := ?_) (by rfl) rfl ?_ ?_
 rotate_left
 ·go_simp
  rfl
 refine hK.out _ _ ⟨(cm (hHeld.1)), (cm (hHeld.2))⟩ (fun hHeld => ?_)
 clear hK K
 refine done_ (done_of HT_.out (by kernel_rfl)) ?_
 try go_wp2_with (first | ((with_reducible refine gC (f := 118) rfl ?_); refine gL (some 18) Try.func118 #[.pointer (some ⟨gb, 0, none⟩)] ?_; (with_reducible refine (impl_Bridge_rootPort.calls (gb := gb) (hBK := (fm aC.out)) k aQ _ _ aN aK _ ?side1 ?side2 A3.out).mono ?_); (case side1 => exact cB dC.out (bl HB.out)); (case side2 => exact dM.out); rintro e dX ⟨rfl, hb⟩; refine ⟨_, rfl, ?_⟩; replace aC := aM (bB (fm aC.out) hb); replace aE := aM (bB (fm aE.out) hb); replace aD := aM (bB (g := dH) (o := .cells #[aQ, .int .i64 0, aQ, a1] 73 (0, 0)) (bm aD.out) hb); replace HB := rS HB hb; (try clear hb); have hcw_gb723_0 := cI aE.out 0; have hfw_gb723_0 := bF aE.out 0; have hcw_gb723_1 := cI aE.out 1; have hfw_gb723_1 := bF aE.out 1; have hcw_gb723_2 := cI aE.out 2; have hfw_gb723_2 := bF aE.out 2; have hcw_gb723_3 := cI aE.out 3; have hfw_gb723_3 := bF aE.out 3; have hcw_gb724_0 := cI aD.out 0; have hfw_gb724_0 := bF aD.out 0; have hcw_gb724_1 := cI aD.out 1; have hfw_gb724_1 := bF aD.out 1; have hcw_gb724_2 := cI aD.out 2; have hfw_gb724_2 := bF aD.out 2; have hcw_gb724_3 := cI aD.out 3; have hfw_gb724_3 := bF aD.out 3))
 replace aC := aM (blk_drew aC.out)
 replace aE := aM (blk_drew aE.out)
 replace aD := aM (blk_drew aD.out)
 replace HB := aM (below_drew1 HB.out)
 have dI : 0 ≤ (aK : Int) := dT
 have dJ : aK < (aN.length : Int) := dT
 obtain ⟨dD, dU, bA, bD, bG, bH, bI, bJ, bK, bL, bM, bN, aT⟩ := at_T79 dC.out aK dI dJ
 have cA := aT
 have cD := bN
 have cE := bM
 have cG := bL
 have cH := bK
 have cK := bJ
 have cL := bI
 have cN := bH
 have cO := bG
 have cP := bD
 have cQ := bA
 cases dU
 replace bA := xB HB bA
 replace bD := xB HB bD
 replace bG := xB HB bG
 replace bH := xB HB bH
 replace bI := xB HB bI
 replace bJ := xB HB bJ
 replace bK := xB HB bK
 replace bL := xB HB bL
 replace bM := xB HB bM
 replace bN := xB HB bN
 replace aT := xB HB aT
 replace dI := eq_true dI
 replace dJ := eq_true dJ
 have dK : 0 ≤ (aK : Int) := dT
 have dL : aK < (aN.length : Int) := dT
 obtain ⟨dQ, dV, bO, bP, bQ, bT, bU, bV, bW, bX, bY, bZ, aV⟩ := at_T79 dC.out aK dK dL
 have cC := aV
 have cR := bZ
 have cS := bY
 have cT := bX
 have cU := bW
 have cV := bV
 have cW := bU
 have cX := bT
 have cY := bQ
 have dA := bP
 have dB := bO
 obtain rfl : dD = dQ := (by injection dV)
 replace bO := xB HB bO
 replace bP := xB HB bP
 replace bQ := xB HB bQ
 replace bT := xB HB bT
 replace bU := xB HB bU
 replace bV := xB HB bV
 replace bW := xB HB bW
 replace bX := xB HB bX
 replace bY := xB HB bY
 replace bZ := xB HB bZ
 replace aV := xB HB aV
 replace dK := eq_true dK
 replace dL := eq_true dL
 refine start_ (n := 23) (S := fun w' => cT2 w' gb (.int .i64 aQ) (.slice (some dD) aN.length dE) (cF79 w' dD (aK).toNat (rd_T79 aN aK) (cE79 w' dD (aK).toNat (rd_T79 aN aK)))) (ds := []) (dn 23 0) (by kernel_rfl) rfl rfl ⟨cI aC.out 0, cI aC.out 1, (xB HB cQ), (xB HB cP), (xB HB cO), (xB HB cN), (xB HB cL), (xB HB cK), (xB HB cH), (xB HB cG), (xB HB cE), (xB HB cD), (xB HB cA), (xB HB dB), (xB HB dA), (xB HB cY), (xB HB cX), (xB HB cW), (xB HB cV), (xB HB cU), (xB HB cT), (xB HB cS), (xB HB cR), (xB HB cC)⟩ (fun hHeld => ?_); refine with_tabW impl_Bridge_own.tab4 impl_Bridge_own.bits4 (fun HT_ HW_ => ?_)
 generalize dX.drew = fG at aC aE aD HB bA bD aT bG bH bI bJ bK bL bM bN bO bP aV bQ bT bU bV bW bX bY bZ hHeld ⊢
 refine nY (N := some 21) HT_ ?_
 refine nY (N := some 22) HT_ ?_
 refine nY (N := some 23) HT_ ?_
 refine pZ 4 25 (bv 23 23) HT_ ?_
 refine pZ 9 30 (bv 23 535) HT_ ?_
 refine pZ 10 31 (bv 23 1559) HT_ ?_
 refine pZ 11 32 (bv 23 3607) HT_ ?_
 refine pZ 13 34 (bv 23 11799) HT_ ?_
 refine aZ 3 24 (bv 23 11807) HT_ HW_ hHeld ?_
 refine pZ 5 26 (bv 23 11839) HT_ ?_
 refine pZ 6 27 (bv 23 11903) HT_ ?_
 refine pZ 7 28 (bv 23 12031) HT_ ?_
 refine aZ 8 29 (bv 23 12287) HT_ HW_ hHeld ?_
 refine pZ 19 40 (bv 23 536575) HT_ ?_
 refine aZ 12 33 (bv 23 540671) HT_ HW_ hHeld ?_
 refine pZ 14 35 (bv 23 557055) HT_ ?_
 refine pZ 15 36 (bv 23 589823) HT_ ?_
 refine pZ 16 37 (bv 23 655359) HT_ ?_
 refine aZ 17 38 (bv 23 786431) HT_ HW_ hHeld ?_
 refine pZ 18 39 (bv 23 1048575) HT_ ?_
 refine one_ (i := 20) (N := none) (bv 23 2097151) rfl rfl (one_of HT_.out (by kernel_rfl)) (by decide) (fun K hK => ?_)
 have fA := cI aD.out 0
 have hfs17 := bF aD.out 0
 have hns17_0 := aG.out
 have hns17_1 := aI.out
 have hms17_0 := aH.out
 have hms17_1 := aJ.out
 refine skip_ (w1 := ?_) (by rfl) rfl ?_ ?_
 rotate_left
 ·go_simp
  rfl
 refine hK.out _ _ ⟨(cm (hHeld.1)), (cm (hHeld.2.1)), ((cF cQ aA.out).trans (hHeld.2.2.1)), ((cF cP aA.out).trans (hHeld.2.2.2.1)), ((cF cO aA.out).trans (hHeld.2.2.2.2.1)), ((cF cN aA.out).trans (hHeld.2.2.2.2.2.1)), ((cF cL aA.out).trans (hHeld.2.2.2.2.2.2.1)), ((cF cK aA.out).trans (hHeld.2.2.2.2.2.2.2.1)), ((cF cH aA.out).trans (hHeld.2.2.2.2.2.2.2.2.1)), ((cF cG aA.out).trans (hHeld.2.2.2.2.2.2.2.2.2.1)), ((cF cE aA.out).trans (hHeld.2.2.2.2.2.2.2.2.2.2.1)), ((cF cD aA.out).trans (hHeld.2.2.2.2.2.2.2.2.2.2.2.1)), ((cF cA aA.out).trans (hHeld.2.2.2.2.2.2.2.2.2.2.2.2.1)), ((cF dB aA.out).trans (hHeld.2.2.2.2.2.2.2.2.2.2.2.2.2.1)), ((cF dA aA.out).trans (hHeld.2.2.2.2.2.2.2.2.2.2.2.2.2.2.1)), ((cF cY aA.out).trans (hHeld.2.2.2.2.2.2.2.2.2.2.2.2.2.2.2.1)), ((cF cX aA.out).trans (hHeld.2.2.2.2.2.2.2.2.2.2.2.2.2.2.2.2.1)), ((cF cW aA.out).trans (hHeld.2.2.2.2.2.2.2.2.2.2.2.2.2.2.2.2.2.1)), ((cF cV aA.out).trans (hHeld.2.2.2.2.2.2.2.2.2.2.2.2.2.2.2.2.2.2.1)), ((cF cU aA.out).trans (hHeld.2.2.2.2.2.2.2.2.2.2.2.2.2.2.2.2.2.2.2.1)), ((cF cT aA.out).trans (hHeld.2.2.2.2.2.2.2.2.2.2.2.2.2.2.2.2.2.2.2.2.1)), ((cF cS aA.out).trans (hHeld.2.2.2.2.2.2.2.2.2.2.2.2.2.2.2.2.2.2.2.2.2.1)), ((cF cR aA.out).trans (hHeld.2.2.2.2.2.2.2.2.2.2.2.2.2.2.2.2.2.2.2.2.2.2.1)), ((cF cC aA.out).trans (hHeld.2.2.2.2.2.2.2.2.2.2.2.2.2.2.2.2.2.2.2.2.2.2.2))⟩ (fun hHeld => ?_)
 clear hK K
 refine pZ 21 41 (bv 23 4194303) HT_ ?_
 refine one_ (i := 22) (N := none) (bv 23 8388607) rfl rfl (one_of HT_.out (by kernel_rfl)) (by decide) (fun K hK => ?_)
 have fB := cI aD.out 1
 have hfs18 := bF aD.out 1
 have hns18_0 := aG.out
 have hns18_1 := aI.out
 have hms18_0 := aH.out
 have hms18_1 := aJ.out
 refine skip_ (w1 := ?_) (by rfl) rfl ?_ ?_
 rotate_left
 ·go_simp
  rfl
 refine hK.out _ _ ⟨(cm (hHeld.1)), (cm (hHeld.2.1)), ((cF cQ aA.out).trans (hHeld.2.2.1)), ((cF cP aA.out).trans (hHeld.2.2.2.1)), ((cF cO aA.out).trans (hHeld.2.2.2.2.1)), ((cF cN aA.out).trans (hHeld.2.2.2.2.2.1)), ((cF cL aA.out).trans (hHeld.2.2.2.2.2.2.1)), ((cF cK aA.out).trans (hHeld.2.2.2.2.2.2.2.1)), ((cF cH aA.out).trans (hHeld.2.2.2.2.2.2.2.2.1)), ((cF cG aA.out).trans (hHeld.2.2.2.2.2.2.2.2.2.1)), ((cF cE aA.out).trans (hHeld.2.2.2.2.2.2.2.2.2.2.1)), ((cF cD aA.out).trans (hHeld.2.2.2.2.2.2.2.2.2.2.2.1)), ((cF cA aA.out).trans (hHeld.2.2.2.2.2.2.2.2.2.2.2.2.1)), ((cF dB aA.out).trans (hHeld.2.2.2.2.2.2.2.2.2.2.2.2.2.1)), ((cF dA aA.out).trans (hHeld.2.2.2.2.2.2.2.2.2.2.2.2.2.2.1)), ((cF cY aA.out).trans (hHeld.2.2.2.2.2.2.2.2.2.2.2.2.2.2.2.1)), ((cF cX aA.out).trans (hHeld.2.2.2.2.2.2.2.2.2.2.2.2.2.2.2.2.1)), ((cF cW aA.out).trans (hHeld.2.2.2.2.2.2.2.2.2.2.2.2.2.2.2.2.2.1)), ((cF cV aA.out).trans (hHeld.2.2.2.2.2.2.2.2.2.2.2.2.2.2.2.2.2.2.1)), ((cF cU aA.out).trans (hHeld.2.2.2.2.2.2.2.2.2.2.2.2.2.2.2.2.2.2.2.1)), ((cF cT aA.out).trans (hHeld.2.2.2.2.2.2.2.2.2.2.2.2.2.2.2.2.2.2.2.2.1)), ((cF cS aA.out).trans (hHeld.2.2.2.2.2.2.2.2.2.2.2.2.2.2.2.2.2.2.2.2.2.1)), ((cF cR aA.out).trans (hHeld.2.2.2.2.2.2.2.2.2.2.2.2.2.2.2.2.2.2.2.2.2.2.1)), ((cF cC aA.out).trans (hHeld.2.2.2.2.2.2.2.2.2.2.2.2.2.2.2.2.2.2.2.2.2.2.2))⟩ (fun hHeld => ?_)
 clear hK K
 refine done_ (done_of HT_.out (by kernel_rfl)) ?_
 have eG := aH.out
 have eH := aG.out
 have eI := aJ.out
 have eJ := aI.out
 have eK := cA4 aD.out
 have eL := aX.out
 have eM := aW.out
 have eN := cA4 aE.out
 try go_wp2
 refine bodyPost_ret (results_cell_row rfl _ _ dG 73 #[((rd_T79 aN aK).f2.f0), .int .i64 (wS ((rd_T79 aN aK).f2.f1)), aQ, a1] (0, 0) _ rfl (bm aE.out) Try.underlying73 rfl (by kernel_rfl)) rfl ?_
 exact ⟨xW, bl HB.out⟩

def impl_Own.f (k : Nat) (aD : Int) (aC : List (S79)) (a1 : Int) : Option (Int × Int × Int × Int) := (impl_inRange.f a1 0 (wrap64 ((aC.length : Int) - 1))).bind fun aE => (if aE = true then ((impl_BridgeOk.f k aD aC).bind fun aG => (if aG = true then ((impl_Bridge_own.f k aD aC a1).bind fun aA => (some (aA.1, aA.2.1, aA.2.2.1, aA.2.2.2))) else (some (0, 0, 0, 0)))) else (some (0, 0, 0, 0)))
theorem impl_Own.mono : ∀ a0 a1 a2 k, LeO (impl_Own.f k a0 a1 a2) (impl_Own.f (k + 1) a0 a1 a2) := by
 intro a0 a1 a2 k
 unfold impl_Own.f
 repeat' first|(with_reducible first|apply impl_BridgeOk.mono|apply impl_Bridge_own.mono|exact lR _|exact lN _|refine lI ?_ ?_|refine lB ?_ fun _ => ?_)|exact lN _|refine lI ?_ ?_|refine lB ?_ fun _ => ?_
set_option maxHeartbeats 60000000 in
set_option maxRecDepth 100000 in
theorem impl_Own.calls (k : Nat) (aH : Int) (aN : Option Addr) (aQ : Nat) (aD : List (S79)) (a1 r1 r2 r3 r4 : Int) (w : World) (hr0_1 : Kd.C k79 w aN aD.length aD) (hc0_1 : aD.length ≤ aQ) (h : impl_Own.f k aH aD a1 = some (r1, r2, r3, r4)) :
  Calls Try.prog 40 #[.agg #[aH, .slice aN aD.length aQ], a1] w fun e w' => e = .returned (.agg #[r1, r2, r3, r4]) ∧ Below w.heap.size w w' := by
 have cH := Try.underlying28
 have cK := Try.underlying73
 have aT := aM hr0_1
 have aV := aM hc0_1
 clear hr0_1 hc0_1
 have HB := aM (Below.refl w.heap.size w)
 have H : ((impl_inRange.f a1 0 (wrap64 ((aD.length : Int) - 1))).bind fun aW => (if aW = true then ((impl_BridgeOk.f k aH aD).bind fun aX => (if aX = true then ((impl_Bridge_own.f k aH aD a1).bind fun aJ => (some (aJ.1, aJ.2.1, aJ.2.2.1, aJ.2.2.2))) else (some (0, 0, 0, 0)))) else (some (0, 0, 0, 0)))) = some (r1, r2, r3, r4) := h
 clear h
 obtain ⟨aW, bO, H⟩ := hB H
 have A3 := aM bO
 clear bO
 by_cases c4 : aW = true
 case neg =>
  replace c4 := Bool.eq_false_iff.mpr c4
  subst c4
  replace H := hF H
  simp only [Option.some.injEq, Prod.mk.injEq] at H
  obtain ⟨rfl, rfl, rfl, rfl⟩ := H
  go_enter Try.func40, Try.ntmps40
  go_wp2_with (first | ((with_reducible refine gD (N := 2) rfl ?_); refine bE (N := 2) (cs := #[aH, .slice aN aD.length aQ]) (t := 28) ?_; intro aK hg cL hbox hb; have aA := aM (hbox); have bA := gF hg HB; have bD := gF hg HB; replace HB := rS HB hb; clear hb hbox hg) | ((with_reducible refine gD (N := 4) rfl ?_); refine bE (N := 4) (cs := #[.int .i64 0, .int .i64 0, .int .i64 0, .int .i64 0]) (t := 73) ?_; intro aI hg bI hbox hb; have aC := aM (hbox); have bG := gF hg HB; have bH := gF hg HB; have aE := nM hg aA; have aG := nH hg aA; replace aA := rB aA hb; replace HB := rS HB hb; clear hb hbox hg; have bT := aE.out; have bU := aG.out; have bV := cA2 aA.out) | ((with_reducible refine gC (f := 86) rfl ?_); refine gL (some 10) Try.func86 #[a1, .int .i64 0, .int .i64 (wrap64 ((aD.length : Int) - 1))] ?_; (with_reducible refine (impl_inRange.calls a1 0 (wrap64 ((aD.length : Int) - 1)) false _ A3.out).mono ?_); rintro e w' ⟨rfl, ⟨nd, rfl⟩⟩; refine ⟨_, rfl, ?_⟩; (try (rw [drewN_self bI]; generalize hq_ : World.drewN bI _ = bI; replace aA := qB hq_ (bk aA.out); replace aC := qB hq_ (bk aC.out); replace HB := qL hq_ (bl HB.out); clear hq_)); have bW := cA4 aC.out; have hcw_gb728_0 := cI aA.out 0; have hfw_gb728_0 := bF aA.out 0; have hcw_gb728_1 := cI aA.out 1; have hfw_gb728_1 := bF aA.out 1))
  refine bodyPost_ret (results_cell_row rfl _ _ aI 73 #[.int .i64 0, .int .i64 0, .int .i64 0, .int .i64 0] (0, 0) _ rfl (bm aC.out) Try.underlying73 rfl (by kernel_rfl)) rfl ?_
  exact ⟨xW, bl HB.out⟩
 subst c4
 replace H := hP H rfl
 obtain ⟨aX, bP, H⟩ := hB H
 have A5 := aM bP
 clear bP
 by_cases c6 : aX = true
 case neg =>
  replace c6 := Bool.eq_false_iff.mpr c6
  subst c6
  replace H := hF H
  simp only [Option.some.injEq, Prod.mk.injEq] at H
  obtain ⟨rfl, rfl, rfl, rfl⟩ := H
  go_enter Try.func40, Try.ntmps40
  go_wp2_with (first | ((with_reducible refine gD (N := 2) rfl ?_); refine bE (N := 2) (cs := #[aH, .slice aN aD.length aQ]) (t := 28) ?_; intro aK hg cN hbox hb; have aA := aM (hbox); have bA := gF hg HB; have bD := gF hg HB; replace HB := rS HB hb; clear hb hbox hg) | ((with_reducible refine gD (N := 4) rfl ?_); refine bE (N := 4) (cs := #[.int .i64 0, .int .i64 0, .int .i64 0, .int .i64 0]) (t := 73) ?_; intro aI hg bJ hbox hb; have aC := aM (hbox); have bG := gF hg HB; have bH := gF hg HB; have aE := nM hg aA; have aG := nH hg aA; replace aA := rB aA hb; replace HB := rS HB hb; clear hb hbox hg; have bX := aE.out; have bY := aG.out; have bZ := cA2 aA.out) | ((with_reducible refine gC (f := 86) rfl ?_); refine gL (some 10) Try.func86 #[a1, .int .i64 0, .int .i64 (wrap64 ((aD.length : Int) - 1))] ?_; (with_reducible refine (impl_inRange.calls a1 0 (wrap64 ((aD.length : Int) - 1)) true _ A3.out).mono ?_); rintro e w' ⟨rfl, ⟨nd, rfl⟩⟩; refine ⟨_, rfl, ?_⟩; (try (rw [drewN_self bJ]; generalize hq_ : World.drewN bJ _ = bJ; replace aA := qB hq_ (bk aA.out); replace aC := qB hq_ (bk aC.out); replace HB := qL hq_ (bl HB.out); clear hq_)); have hcw_gb728_0 := cI aA.out 0; have hfw_gb728_0 := bF aA.out 0; have hcw_gb728_1 := cI aA.out 1; have hfw_gb728_1 := bF aA.out 1; have hcw_gb729_0 := cI aC.out 0; have hfw_gb729_0 := bF aC.out 0; have hcw_gb729_1 := cI aC.out 1; have hfw_gb729_1 := bF aC.out 1; have hcw_gb729_2 := cI aC.out 2; have hfw_gb729_2 := bF aC.out 2; have hcw_gb729_3 := cI aC.out 3; have hfw_gb729_3 := bF aC.out 3) | (go_at_call 45; (with_reducible refine (impl_BridgeOk.calls k aH _ _ aD false _ ?side1 ?side2 A5.out).mono ?_); (case side1 => exact cM (cB aT.out HB.out)); (case side2 => exact aV.out); rintro e cO ⟨rfl, hb⟩; replace aA := rB aA hb; replace aC := rB aC hb; replace HB := rS HB hb; (try clear hb); have cA := cA4 aC.out; have hcw_gb728_0 := cI aA.out 0; have hfw_gb728_0 := bF aA.out 0; have hcw_gb728_1 := cI aA.out 1; have hfw_gb728_1 := bF aA.out 1))
  refine bodyPost_ret (results_cell_row rfl _ _ aI 73 #[.int .i64 0, .int .i64 0, .int .i64 0, .int .i64 0] (0, 0) _ rfl (bm aC.out) Try.underlying73 rfl (by kernel_rfl)) rfl ?_
  exact ⟨xW, bl HB.out⟩
 subst c6
 replace H := hP H rfl
 obtain ⟨⟨bK, bL, bM, bN⟩, bQ, H⟩ := hB H
 try dsimp only at H
 have A7 := aM bQ
 clear bQ
 simp only [Option.some.injEq, Prod.mk.injEq] at H
 obtain ⟨rfl, rfl, rfl, rfl⟩ := H
 go_enter Try.func40, Try.ntmps40
 go_wp2_with (first | ((with_reducible refine gD (N := 2) rfl ?_); refine bE (N := 2) (cs := #[aH, .slice aN aD.length aQ]) (t := 28) ?_; intro aK hg w8 hbox hb; have aA := aM (hbox); have bA := gF hg HB; have bD := gF hg HB; replace HB := rS HB hb; clear hb hbox hg) | ((with_reducible refine gD (N := 4) rfl ?_); refine bE (N := 4) (cs := #[.int .i64 0, .int .i64 0, .int .i64 0, .int .i64 0]) (t := 73) ?_; intro aI hg w9 hbox hb; have aC := aM (hbox); have bG := gF hg HB; have bH := gF hg HB; have aE := nM hg aA; have aG := nH hg aA; replace aA := rB aA hb; replace HB := rS HB hb; clear hb hbox hg; have cC := aE.out; have cD := aG.out; have cE := cA2 aA.out) | ((with_reducible refine gC (f := 86) rfl ?_); refine gL (some 10) Try.func86 #[a1, .int .i64 0, .int .i64 (wrap64 ((aD.length : Int) - 1))] ?_; (with_reducible refine (impl_inRange.calls a1 0 (wrap64 ((aD.length : Int) - 1)) true _ A3.out).mono ?_); rintro e w' ⟨rfl, ⟨nd, rfl⟩⟩; refine ⟨_, rfl, ?_⟩; (try (rw [drewN_self w9]; generalize hq_ : World.drewN w9 _ = w9; replace aA := qB hq_ (bk aA.out); replace aC := qB hq_ (bk aC.out); replace HB := qL hq_ (bl HB.out); clear hq_)); have hcw_gb728_0 := cI aA.out 0; have hfw_gb728_0 := bF aA.out 0; have hcw_gb728_1 := cI aA.out 1; have hfw_gb728_1 := bF aA.out 1; have hcw_gb729_0 := cI aC.out 0; have hfw_gb729_0 := bF aC.out 0; have hcw_gb729_1 := cI aC.out 1; have hfw_gb729_1 := bF aC.out 1; have hcw_gb729_2 := cI aC.out 2; have hfw_gb729_2 := bF aC.out 2; have hcw_gb729_3 := cI aC.out 3; have hfw_gb729_3 := bF aC.out 3) | (go_at_call 45; (with_reducible refine (impl_BridgeOk.calls k aH _ _ aD true _ ?side1 ?side2 A5.out).mono ?_); (case side1 => exact cM (cB aT.out HB.out)); (case side2 => exact aV.out); rintro e cP ⟨rfl, hb⟩; replace aA := rB aA hb; replace aC := rB aC hb; replace HB := rS HB hb; (try clear hb); have hcw_gb728_0 := cI aA.out 0; have hfw_gb728_0 := bF aA.out 0; have hcw_gb728_1 := cI aA.out 1; have hfw_gb728_1 := bF aA.out 1; have hcw_gb729_0 := cI aC.out 0; have hfw_gb729_0 := bF aC.out 0; have hcw_gb729_1 := cI aC.out 1; have hfw_gb729_1 := bF aC.out 1; have hcw_gb729_2 := cI aC.out 2; have hfw_gb729_2 := bF aC.out 2; have hcw_gb729_3 := cI aC.out 3; have hfw_gb729_3 := bF aC.out 3) | ((with_reducible refine gC (f := 120) rfl ?_); refine gL (some 19) Try.func120 #[.pointer (some ⟨aK, 0, none⟩), a1] ?_; (with_reducible refine (impl_Bridge_own.calls (gb := aK) (hBK := (bk aA.out)) k aH _ _ aD a1 bK bL bM bN _ ?side1 ?side2 A7.out).mono ?_); (case side1 => exact cM (cB aT.out HB.out)); (case side2 => exact aV.out); rintro e cQ ⟨rfl, hb⟩; refine ⟨_, rfl, ?_⟩; replace aA := rB aA hb; replace aC := rB aC hb; replace HB := rS HB hb; (try clear hb); have cG := cA4 aC.out; have hcw_gb728_0 := cI aA.out 0; have hfw_gb728_0 := bF aA.out 0; have hcw_gb728_1 := cI aA.out 1; have hfw_gb728_1 := bF aA.out 1))
 refine bodyPost_ret (results_cell_row rfl _ _ aI 73 #[bK, bL, bM, bN] (0, 0) _ rfl (bm aC.out) Try.underlying73 rfl (by kernel_rfl)) rfl ?_
 exact ⟨xW, bl HB.out⟩

def impl_Port.f (l0 : List (S79)) : Option ((List (S79))) := (some (([] : List (S79)) : List (S79))).bind fun aA => (if aA.length + l0.length < 1759218604441 then (some (aA ++ l0)) else (none))
set_option maxHeartbeats 60000000 in
set_option maxRecDepth 100000 in
theorem impl_Port.calls (A0 : Option Addr) (c0 : Nat) (l0 : List (S79)) (r : List (S79)) (w : World) (hr0 : Kd.C k79 w A0 l0.length l0) (hc0 : l0.length ≤ c0) (h : impl_Port.f l0 = some r) :
  Calls Try.prog 144 #[.slice A0 l0.length c0] w fun e w' => ∃ aJ : Value, e = .returned (aJ) ∧ Kd.R k79 79 w' w.heap.size (fun _ => True) aJ r ∧ Below w.heap.size w w' := by
 have qn : ∀ (w : World) (a : Option Addr) (n c n' c' : Nat), (binOp .eql 26 (.slice a n c) (.slice none n' c')).run Try.prog w = .ok (.bool a.isNone) w := fun w a n c n' c' => Lib.run_eql_slice_nil w _ _ a n c n' c' Try.underlying26
 by_cases hnil : A0 = none
 ·have hl : l0 = [] := by
   have hc := hr0.2.2
   rw [hnil] at hc
   cases l0 with
   | nil => rfl
   | cons x t => obtain ⟨_, hx, _⟩ := hc (by simp); cases hx
  subst hnil
  subst hl
  have hr : r = [] := by simpa [impl_Port.f] using h.symm
  subst hr
  clear hr0 h
  go_enter Try.func144, Try.ntmps144
  go_wp2
  go_ret
  exact ⟨_, rfl, Kd.R_nil _ _ _ _ _, Below.refl _ _⟩
 have hsome : A0.isNone = false := by cases A0 <;> simp at hnil ⊢
 clear hnil
 have aQ := aM hr0
 have aV := aM hc0
 clear hr0 hc0
 have HB := aM (Below.refl w.heap.size w)
 have H : ((some (([] : List (S79)) : List (S79))).bind fun aC => (if aC.length + l0.length < 1759218604441 then (some (aC ++ l0)) else (none))) = some r := h
 clear h
 obtain ⟨aC, aE, H⟩ := hS H
 have aG := aM aE
 clear aE
 by_cases c2 : aC.length + l0.length < 1759218604441
 case neg =>
  rw [if_neg c2] at H
  exact absurd H (by simp)
 rw [if_pos c2] at H
 have LMc2 := aM c2
 clear c2
 obtain ⟨aK, aA⟩ : ∃ y_ : List (S79), y_ = (aC ++ l0) := ⟨_, rfl⟩
 replace H : (some aK) = some r := by first | (rw [aA]; with_reducible exact H) | (have H2_ := (Option.bind_some _ _).symm.trans H; rw [aA]; with_reducible exact H2_) | (have H2_ := (Option.bind_some _ _).symm.trans H; with_reducible exact H2_) | with_reducible exact H | (rw [aA]; exact H) | exact H
 have aH := aM aA
 clear aA
 obtain rfl := Option.some.inj H
 go_enter Try.func144, Try.ntmps144
 go_wp2_with (first | ((with_reducible refine gD (N := 5) rfl ?_); refine Kd.R_lit k79 _ 79 ?hg (N := 5) ?hd (xs := ([] : List (S79))) (inner := []) (ok := fun _ => True) (okp := fun _ => True) ?hr ?hp (fun _ hk => hk) trivial (Below.refl _ _) (Nat.le_refl _) (by simp) ?_; (case hd => rfl); (case hg => rfl); (case hr => first | (go_simp; done) | (go_simp; rfl) | (obtain ⟨A_, c_, e_⟩ := Kd.R_slice aD.out; subst e_; (first | (go_simp; done) | (go_simp; rfl))) | (obtain ⟨A_, c_, e_⟩ := Kd.S_slice aD.out; subst e_; (first | (go_simp; done) | (go_simp; rfl)))); (case hp => exact (Reps.none _ _)); intro aN w3 ho4 hb hg_ hnew_; clear hg_ hnew_; (first | rw [← aG.out] at ho4 | (simp only [Int.reduceToNat] at ho4; rw [← aG.out] at ho4)); have aD := aM (Kd.R_lower ho4 (below_size (bl HB.out))); replace HB := rS HB hb; clear hb ho4) | ((with_reducible refine gate_builtin (b := .append) (xs := #[.tmp 5, .tmp 6]) rfl ?_); at_builtin; refine Kd.R_append_rows k79 (w0 := w) w.heap.size rfl (.tmp 5) (.tmp 6) 26 79 (.agg #[(.bool false), (.bool false), (.int .i64 0), (.int .i64 0), (.int .i64 0), (.int .i64 0), (.int .i64 0), (.int .i64 0), (.int .i64 0), (.int .i64 0), (.bool false)]) 80 rfl Try.underlying26 info79 rfl (by decide) (by omega) aN aC l0 _ _ _ (fun _ => True) (fun _ => False) rfl rfl ?aO ?aR (fun _ _ h => h) (fun _ h => h.elim) ?aF ?aB ?aS ?aL ?_; (case aR => repeat (first | exact (cB aQ.out HB.out) | (with_reducible refine Kd.C_alloc ?_ _) | (with_reducible refine Kd.C_drewN ?_ _) | (with_reducible refine Kd.C_drew ?_))); (case aB => exact (bl HB.out)); (case aF => exact (fun _ _ => trivial)); (case aO => exact (kr aD.out)); (case aS => exact (below_size (bl HB.out))); (case aL => have := LMc2.out; omega); intro aT w5 ho hb hg hat; rw [← aH.out] at ho; have aI := aM (ho); replace HB := aM (hb); clear aD; clear ho hb hg hat))
 go_ret
 exact ⟨_, xW, by (with_reducible repeat (first | apply Kd.R_alloc | apply Kd.R_drewN | apply Kd.R_drew)); exact aI.out, bl HB.out⟩

end Go.Proofs.Ythmijfekdeagpaa.PFnFades

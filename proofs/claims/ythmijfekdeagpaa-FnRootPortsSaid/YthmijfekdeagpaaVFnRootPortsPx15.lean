/- Of the proof of laws.FnRootPorts: a part. No condition beyond what its theorems say. -/
import Derived.Test.YthmijfekdeagpaaVFnRootPortsPx14
namespace Go.Proofs.Ythmijfekdeagpaa.PFnRootPorts
open Go.RowKit Go.Proofs.YthmijfekdeagpaaW.PrintWords Go.Proofs.YthmijfekdeagpaaW.PrintLast Go.Proofs.YthmijfekdeagpaaW.PrintMore
attribute [local go_sem] max2_int min2_int max_two min_two max_three min_three max_four min_four   -- for this text's walks alone
set_option linter.unusedVariables false
set_option linter.unusedSimpArgs false

def impl_Bridge_own.f (k : Nat) (aC : Int) (aD : List (S79)) (a1 : Int) : Option (Int × Int × Int × Int) := (impl_Bridge_rootPort.f k aC aD).bind fun aA => (if aA ≥ 0 then (if 0 ≤ aA then (if aA < (aD.length : Int) then (some ((rd_T79 aD aA).f2.f0, wrap64 (((rd_T79 aD aA).f2.f1) + 1), aC, a1)) else (none)) else (none)) else (some (aC, 0, aC, a1)))
theorem impl_Bridge_own.mono : ∀ a0 a1 a2 k, LeO (impl_Bridge_own.f k a0 a1 a2) (impl_Bridge_own.f (k + 1) a0 a1 a2) := by
 intro a0 a1 a2 k
 unfold impl_Bridge_own.f
 repeat' first|(with_reducible first|apply impl_Bridge_rootPort.mono|exact LeO.refl _|exact LeO.none _|refine LeO.ite ?_ ?_|refine LeO.bind ?_ (fun _ => ?_))|exact LeO.none _|refine LeO.ite ?_ ?_|refine LeO.bind ?_ (fun _ => ?_)
def impl_Bridge_own.T1 : Bool × List (List Nat × List Nat) := (true, [([], []), ([0], [0]), ([1], [1]), ([2], [2]), ([], []), ([4], [4]), ([5], [5]), ([6], [6]), ([], []), ([3, 7, 8], [3, 7, 8]), ([], []), ([10, 9, 0, 1, 2, 3, 4, 5, 6, 7, 8, 9, 10], [9, 10])])
def impl_Bridge_own.B1 : List Nat := [0, 1, 3, 7, 0, 16, 48, 112, 0, 511, 0, 2047]
theorem impl_Bridge_own.tab1 : rtab .any (opsOf Try.f120 1) = impl_Bridge_own.T1 := by kernel_rfl
theorem impl_Bridge_own.bits1 : waitsOk impl_Bridge_own.T1.2 impl_Bridge_own.B1 = true := by kernel_rfl
def impl_Bridge_own.T4 : Bool × List (List Nat × List Nat) := (true, [([], []), ([0], [0]), ([1], [1]), ([2], [2]), ([], []), ([3, 4], [3, 4]), ([5], [5]), ([6], [6]), ([7], [7]), ([], []), ([9], [9]), ([10], [10]), ([11], [11]), ([], []), ([12, 13], [12, 13]), ([14], [14]), ([15], [15]), ([16], [16]), ([17], [17]), ([0, 1, 2, 3, 4, 5, 6, 7, 8], []), ([19, 8, 0, 1, 2, 3, 4, 5, 6, 7, 8], [8, 19]), ([0, 1, 2, 3, 4, 5, 6, 7, 8, 9, 10, 11, 12, 13, 14, 15, 16, 17, 18, 19, 20], []), ([21, 18, 20, 0, 1, 2, 3, 4, 5, 6, 7, 8, 9, 10, 11, 12, 13, 14, 15, 16, 17, 18, 19, 20], [18, 21])])
def impl_Bridge_own.B4 : List Nat := [0, 1, 3, 7, 0, 31, 63, 127, 255, 0, 512, 1536, 3584, 0, 15872, 32256, 65024, 130560, 261632, 511, 524799, 2097151, 4194303]
theorem impl_Bridge_own.tab4 : rtab .any (opsOf Try.f120 4) = impl_Bridge_own.T4 := by kernel_rfl
theorem impl_Bridge_own.bits4 : waitsOk impl_Bridge_own.T4.2 impl_Bridge_own.B4 = true := by kernel_rfl
set_option maxHeartbeats 60000000 in
set_option maxRecDepth 100000 in
theorem impl_Bridge_own.calls (k : Nat) (aT : Int) (dD : Option Addr) (dC : Nat) (aI : List (S79)) (a1 : Int) (r1 : Int) (r2 : Int) (r3 : Int) (r4 : Int) (w : World) (gb : Nat) (hBK : w.heap[gb]? = some (.cells #[aT, .slice dD aI.length dC] 28 (0, 0))) (hr0_1 : Kd.C k79 w dD aI.length aI) (hc0_1 : aI.length ≤ dC) (h : impl_Bridge_own.f k aT aI a1 = some (r1, r2, r3, r4)) :
  Calls Try.prog 120 #[.pointer (some ⟨gb, 0, none⟩), a1] w fun e w' => e = .returned (.agg #[r1, r2, r3, r4]) ∧ Below w.heap.size w w' := by
 have eM := Try.underlying28
 have eN := Try.underlying73
 have dB := aM hr0_1
 have dK := aM hc0_1
 clear hr0_1 hc0_1
 have HB := aM (Below.refl w.heap.size w)
 have H : ((impl_Bridge_rootPort.f k aT aI).bind fun aA => (if aA ≥ 0 then (if 0 ≤ aA then (if aA < (aI.length : Int) then (some ((rd_T79 aI aA).f2.f0, wrap64 (((rd_T79 aI aA).f2.f1) + 1), aT, a1)) else (none)) else (none)) else (some (aT, 0, aT, a1)))) = some (r1, r2, r3, r4) := h
 clear h
 obtain ⟨aA, dP, H⟩ := hB H
 have A3 := aM dP
 clear dP
 by_cases c4 : aA ≥ 0
 case neg =>
  rw [if_neg c4] at H
  have dQ := decide_eq_false c4
  clear c4
  simp only [Option.some.injEq, Prod.mk.injEq] at H
  obtain ⟨rfl, rfl, rfl, rfl⟩ := H
  go_enter Try.func120, Try.ntmps120
  have aE := aM hBK
  clear hBK
  try go_wp2_with (first | ((with_reducible refine gD (N := 4) rfl ?_); refine bE (N := 4) (cs := #[.int .i64 0, .int .i64 0, .int .i64 0, .int .i64 0]) (t := 73) ?_; intro dE hg dU hbox hb; have aH := aM (hbox); have dL := gF hg HB; have dM := gF hg HB; have bA := nM hg aE; have bD := nH hg aE; replace aE := rB aE hb; replace HB := rS HB hb; clear hb hbox hg))
  replace aE := aM (blk_drew aE.out)
  replace aH := aM (blk_drew aH.out)
  replace HB := aM (below_drew1 HB.out)
  refine start_ (n := 12) (S := fun w' => cS2 w' gb (.int .i64 aT) (.slice dD aI.length dC)) (ds := []) (dn 12 0) (by kernel_rfl) rfl rfl ⟨cI aE.out 0, cI aE.out 1⟩ (fun hHeld => ?_); refine with_tabW impl_Bridge_own.tab1 impl_Bridge_own.bits1 (fun HT_ HW_ => ?_)
  generalize dU.drew = fA at aE aH HB hHeld ⊢
  refine nY (N := some 7) HT_ ?_
  refine nY (N := some 8) HT_ ?_
  refine nY (N := some 9) HT_ ?_
  refine pY (i := 4) (N := some 11) #[Y,Y,Y,U,Y,U,U,U,U,U,U,U] HT_ ?_
  refine pY (i := 5) (N := some 12) #[Y,Y,Y,U,Y,Y,U,U,U,U,U,U] HT_ ?_
  refine pY (i := 6) (N := some 13) #[Y,Y,Y,U,Y,Y,Y,U,U,U,U,U] HT_ ?_
  refine pY (i := 8) (N := some 15) #[Y,Y,Y,U,Y,Y,Y,U,Y,U,U,U] HT_ ?_
  refine aY (i := 3) (N := some 10) #[Y,Y,Y,Y,Y,Y,Y,U,Y,U,U,U] HT_ HW_ hHeld ?_
  refine aY (i := 7) (N := some 14) #[Y,Y,Y,Y,Y,Y,Y,Y,Y,U,U,U] HT_ HW_ hHeld ?_
  refine pY (i := 9) (N := some 16) #[Y,Y,Y,Y,Y,Y,Y,Y,Y,Y,U,U] HT_ ?_
  refine one_ (i := 10) (N := some 5) #[Y,Y,Y,Y,Y,Y,Y,Y,Y,Y,Y,U] rfl rfl (one_of HT_.out (by kernel_rfl)) (by decide) (fun K hK => ?_)
  refine box_step ?hg (N := 5) ?hd (cs := #[.int .i64 0, .int .i64 0, .int .i64 0, .int .i64 0]) (t := 73) ?hr ?_; (case hd => rfl); (case hg => rfl); (case hr => first | (go_simp; done) | (go_simp; rfl))
  intro dF hg fB hbox hb
  have aG := aM (hbox)
  have aC := gF hg HB
  have dN := gF hg HB
  have aJ := nM hg aE
  have aK := nH hg aE
  have aN := nM hg aH
  have aQ := nH hg aH
  replace aE := rB aE hb
  replace aH := rB aH hb
  replace HB := rS HB hb
  clear hb hbox hg
  refine hK.out _ _ ⟨cI aE.out 0, cI aE.out 1⟩ (fun hHeld => ?_)
  clear hK K
  refine norm_ (a' := ?_) ?_ ?_
  rotate_left
  ·show Act.put _ (some 5) _ = _
   simp only [Act.put, sA, sZ, sS, i64_w, i32_w]
   rfl
  refine one_ (i := 11) (N := none) #[Y,Y,Y,Y,Y,Y,Y,Y,Y,Y,Y,Y] rfl rfl (one_of HT_.out (by kernel_rfl)) (by decide) (fun K hK => ?_)
  have eO := cI aG.out 0
  have hfs28 := bF aG.out 0
  have hns28_0 := aJ.out
  have hns28_1 := aN.out
  have hms28_0 := aK.out
  have hms28_1 := aQ.out
  have eP := cI aG.out 1
  have hfs29 := bF aG.out 1
  have hns29_0 := aJ.out
  have hns29_1 := aN.out
  have hms29_0 := aK.out
  have hms29_1 := aQ.out
  have eQ := cI aG.out 2
  have hfs30 := bF aG.out 2
  have hns30_0 := aJ.out
  have hns30_1 := aN.out
  have hms30_0 := aK.out
  have hms30_1 := aQ.out
  have eR := cI aG.out 3
  have hfs31 := bF aG.out 3
  have hns31_0 := aJ.out
  have hns31_1 := aN.out
  have hms31_0 := aK.out
  have hms31_1 := aQ.out
  refine skip_ (w1 := ?_) (by rfl) rfl ?_ ?_
  rotate_left
  ·go_simp
   rfl
  refine hK.out _ _ ⟨(cm (hHeld.1)), (cm (hHeld.2))⟩ (fun hHeld => ?_)
  clear hK K
  refine done_ (done_of HT_.out (by kernel_rfl)) ?_
  try go_wp2_with (first | ((with_reducible refine gC (f := 118) rfl ?_); refine gL (some 18) Try.func118 #[.pointer (some ⟨gb, 0, none⟩)] ?_; (with_reducible refine (impl_Bridge_rootPort.calls (gb := gb) (hBK := (fm aE.out)) k aT _ _ aI aA _ ?side1 ?side2 A3.out).mono ?_); (case side1 => exact cB dB.out (bl HB.out)); (case side2 => exact dK.out); rintro e fC ⟨rfl, hb⟩; refine ⟨_, rfl, ?_⟩; replace aE := aM (bB (fm aE.out) hb); replace aH := aM (bB (fm aH.out) hb); replace aG := aM (bB (g := dF) (o := .cells #[aT, .int .i64 0, aT, a1] 73 (0, 0)) (bm aG.out) hb); replace HB := rS HB hb; (try clear hb); have dW := aK.out; have dX := aJ.out; have dY := aQ.out; have dZ := aN.out; have eA := cA4 aG.out; have eB := bD.out; have eC := bA.out; have eD := cA4 aH.out))
  refine bodyPost_ret (results_cell_row rfl _ _ dE 73 #[aT, .int .i64 0, aT, a1] (0, 0) _ rfl (bm aH.out) Try.underlying73 rfl (by kernel_rfl)) rfl ?_
  exact ⟨xW, bl HB.out⟩
 rw [if_pos c4] at H
 have dQ := decide_eq_true c4
 clear c4
 obtain ⟨eS, H⟩ := gI H
 obtain ⟨eT, H⟩ := gI H
 simp only [Option.some.injEq, Prod.mk.injEq] at H
 obtain ⟨rfl, rfl, rfl, rfl⟩ := H
 go_enter Try.func120, Try.ntmps120
 have aE := aM hBK
 clear hBK
 try go_wp2_with (first | ((with_reducible refine gD (N := 4) rfl ?_); refine bE (N := 4) (cs := #[.int .i64 0, .int .i64 0, .int .i64 0, .int .i64 0]) (t := 73) ?_; intro dE hg w8 hbox hb; have aH := aM (hbox); have dL := gF hg HB; have dM := gF hg HB; have bA := nM hg aE; have bD := nH hg aE; replace aE := rB aE hb; replace HB := rS HB hb; clear hb hbox hg))
 replace aE := aM (blk_drew aE.out)
 replace aH := aM (blk_drew aH.out)
 replace HB := aM (below_drew1 HB.out)
 refine start_ (n := 12) (S := fun w' => cS2 w' gb (.int .i64 aT) (.slice dD aI.length dC)) (ds := []) (dn 12 0) (by kernel_rfl) rfl rfl ⟨cI aE.out 0, cI aE.out 1⟩ (fun hHeld => ?_); refine with_tabW impl_Bridge_own.tab1 impl_Bridge_own.bits1 (fun HT_ HW_ => ?_)
 generalize w8.drew = w9 at aE aH HB hHeld ⊢
 refine nY (N := some 7) HT_ ?_
 refine nY (N := some 8) HT_ ?_
 refine nY (N := some 9) HT_ ?_
 refine pY (i := 4) (N := some 11) #[Y,Y,Y,U,Y,U,U,U,U,U,U,U] HT_ ?_
 refine pY (i := 5) (N := some 12) #[Y,Y,Y,U,Y,Y,U,U,U,U,U,U] HT_ ?_
 refine pY (i := 6) (N := some 13) #[Y,Y,Y,U,Y,Y,Y,U,U,U,U,U] HT_ ?_
 refine pY (i := 8) (N := some 15) #[Y,Y,Y,U,Y,Y,Y,U,Y,U,U,U] HT_ ?_
 refine aY (i := 3) (N := some 10) #[Y,Y,Y,Y,Y,Y,Y,U,Y,U,U,U] HT_ HW_ hHeld ?_
 refine aY (i := 7) (N := some 14) #[Y,Y,Y,Y,Y,Y,Y,Y,Y,U,U,U] HT_ HW_ hHeld ?_
 refine pY (i := 9) (N := some 16) #[Y,Y,Y,Y,Y,Y,Y,Y,Y,Y,U,U] HT_ ?_
 refine one_ (i := 10) (N := some 5) #[Y,Y,Y,Y,Y,Y,Y,Y,Y,Y,Y,U] rfl rfl (one_of HT_.out (by kernel_rfl)) (by decide) (fun K hK => ?_)
 refine box_step ?hg (N := 5) ?hd (cs := #[.int .i64 0, .int .i64 0, .int .i64 0, .int .i64 0]) (t := 73) ?hr ?_; (case hd => rfl); (case hg => rfl); (case hr => first | (go_simp; done) | (go_simp; rfl))
 intro dF hg fD hbox hb
 have aG := aM (hbox)
 have aC := gF hg HB
 have dN := gF hg HB
 have aJ := nM hg aE
 have aK := nH hg aE
 have aN := nM hg aH
 have aQ := nH hg aH
 replace aE := rB aE hb
 replace aH := rB aH hb
 replace HB := rS HB hb
 clear hb hbox hg
 refine hK.out _ _ ⟨cI aE.out 0, cI aE.out 1⟩ (fun hHeld => ?_)
 clear hK K
 refine norm_ (a' := ?_) ?_ ?_
 rotate_left
 ·show Act.put _ (some 5) _ = _
  simp only [Act.put, sA, sZ, sS, i64_w, i32_w]
  rfl
 refine one_ (i := 11) (N := none) #[Y,Y,Y,Y,Y,Y,Y,Y,Y,Y,Y,Y] rfl rfl (one_of HT_.out (by kernel_rfl)) (by decide) (fun K hK => ?_)
 have eU := cI aG.out 0
 have hfs11 := bF aG.out 0
 have hns11_0 := aJ.out
 have hns11_1 := aN.out
 have hms11_0 := aK.out
 have hms11_1 := aQ.out
 have eV := cI aG.out 1
 have hfs12 := bF aG.out 1
 have hns12_0 := aJ.out
 have hns12_1 := aN.out
 have hms12_0 := aK.out
 have hms12_1 := aQ.out
 have eW := cI aG.out 2
 have hfs13 := bF aG.out 2
 have hns13_0 := aJ.out
 have hns13_1 := aN.out
 have hms13_0 := aK.out
 have hms13_1 := aQ.out
 have eX := cI aG.out 3
 have hfs14 := bF aG.out 3
 have hns14_0 := aJ.out
 have hns14_1 := aN.out
 have hms14_0 := aK.out
 have hms14_1 := aQ.out
 refine skip_ (w1 := ?_) (by rfl) rfl ?_ ?_
 rotate_left
 ·go_simp
  rfl
 refine hK.out _ _ ⟨(cm (hHeld.1)), (cm (hHeld.2))⟩ (fun hHeld => ?_)
 clear hK K
 refine done_ (done_of HT_.out (by kernel_rfl)) ?_
 try go_wp2_with (first | ((with_reducible refine gC (f := 118) rfl ?_); refine gL (some 18) Try.func118 #[.pointer (some ⟨gb, 0, none⟩)] ?_; (with_reducible refine (impl_Bridge_rootPort.calls (gb := gb) (hBK := (fm aE.out)) k aT _ _ aI aA _ ?side1 ?side2 A3.out).mono ?_); (case side1 => exact cB dB.out (bl HB.out)); (case side2 => exact dK.out); rintro e dV ⟨rfl, hb⟩; refine ⟨_, rfl, ?_⟩; replace aE := aM (bB (fm aE.out) hb); replace aH := aM (bB (fm aH.out) hb); replace aG := aM (bB (g := dF) (o := .cells #[aT, .int .i64 0, aT, a1] 73 (0, 0)) (bm aG.out) hb); replace HB := rS HB hb; (try clear hb); have hcw_gb301_0 := cI aH.out 0; have hfw_gb301_0 := bF aH.out 0; have hcw_gb301_1 := cI aH.out 1; have hfw_gb301_1 := bF aH.out 1; have hcw_gb301_2 := cI aH.out 2; have hfw_gb301_2 := bF aH.out 2; have hcw_gb301_3 := cI aH.out 3; have hfw_gb301_3 := bF aH.out 3; have hcw_gb302_0 := cI aG.out 0; have hfw_gb302_0 := bF aG.out 0; have hcw_gb302_1 := cI aG.out 1; have hfw_gb302_1 := bF aG.out 1; have hcw_gb302_2 := cI aG.out 2; have hfw_gb302_2 := bF aG.out 2; have hcw_gb302_3 := cI aG.out 3; have hfw_gb302_3 := bF aG.out 3))
 replace aE := aM (blk_drew aE.out)
 replace aH := aM (blk_drew aH.out)
 replace aG := aM (blk_drew aG.out)
 replace HB := aM (below_drew1 HB.out)
 have dG : 0 ≤ (aA : Int) := dT
 have dH : aA < (aI.length : Int) := dT
 obtain ⟨aD, dR, bG, bH, bI, bJ, bK, bL, bM, bN, bO, bP, aV⟩ := at_T79 dB.out aA dG dH
 have aW := aV
 have bQ := bP
 have bR := bO
 have bT := bN
 have bU := bM
 have bV := bL
 have bW := bK
 have bX := bJ
 have bY := bI
 have bZ := bH
 have cA := bG
 cases dR
 replace bG := xB HB bG
 replace bH := xB HB bH
 replace bI := xB HB bI
 replace bJ := xB HB bJ
 replace bK := xB HB bK
 replace bL := xB HB bL
 replace bM := xB HB bM
 replace bN := xB HB bN
 replace bO := xB HB bO
 replace bP := xB HB bP
 replace aV := xB HB aV
 replace dG := eq_true dG
 replace dH := eq_true dH
 have dI : 0 ≤ (aA : Int) := dT
 have dJ : aA < (aI.length : Int) := dT
 obtain ⟨dO, dS, cC, cD, cE, cG, cH, cK, cL, cN, cO, cP, aX⟩ := at_T79 dB.out aA dI dJ
 have aZ := aX
 have cQ := cP
 have cR := cO
 have cS := cN
 have cT := cL
 have cU := cK
 have cV := cH
 have cW := cG
 have cX := cE
 have cY := cD
 have dA := cC
 obtain rfl : aD = dO := (by injection dS)
 replace cC := xB HB cC
 replace cD := xB HB cD
 replace cE := xB HB cE
 replace cG := xB HB cG
 replace cH := xB HB cH
 replace cK := xB HB cK
 replace cL := xB HB cL
 replace cN := xB HB cN
 replace cO := xB HB cO
 replace cP := xB HB cP
 replace aX := xB HB aX
 replace dI := eq_true dI
 replace dJ := eq_true dJ
 refine start_ (n := 23) (S := fun w' => cT2 w' gb (.int .i64 aT) (.slice (some aD) aI.length dC) (w'.cell? (aD.add ((aA).toNat * 11)) = some ((rd_T79 aI aA).f0) ∧ w'.cell? ⟨(aD.add ((aA).toNat * 11)).block, (aD.add ((aA).toNat * 11)).off + 1, none⟩ = some ((rd_T79 aI aA).f1) ∧ w'.cell? ⟨(aD.add ((aA).toNat * 11)).block, (aD.add ((aA).toNat * 11)).off + 2, none⟩ = some ((rd_T79 aI aA).f2.f0) ∧ w'.cell? ⟨(aD.add ((aA).toNat * 11)).block, (aD.add ((aA).toNat * 11)).off + 3, none⟩ = some ((rd_T79 aI aA).f2.f1) ∧ w'.cell? ⟨(aD.add ((aA).toNat * 11)).block, (aD.add ((aA).toNat * 11)).off + 4, none⟩ = some ((rd_T79 aI aA).f2.f2) ∧ w'.cell? ⟨(aD.add ((aA).toNat * 11)).block, (aD.add ((aA).toNat * 11)).off + 5, none⟩ = some ((rd_T79 aI aA).f2.f3) ∧ w'.cell? ⟨(aD.add ((aA).toNat * 11)).block, (aD.add ((aA).toNat * 11)).off + 6, none⟩ = some ((rd_T79 aI aA).f3) ∧ w'.cell? ⟨(aD.add ((aA).toNat * 11)).block, (aD.add ((aA).toNat * 11)).off + 7, none⟩ = some ((rd_T79 aI aA).f4) ∧ w'.cell? ⟨(aD.add ((aA).toNat * 11)).block, (aD.add ((aA).toNat * 11)).off + 8, none⟩ = some ((rd_T79 aI aA).f5) ∧ w'.cell? ⟨(aD.add ((aA).toNat * 11)).block, (aD.add ((aA).toNat * 11)).off + 9, none⟩ = some ((rd_T79 aI aA).f6) ∧ w'.cell? ⟨(aD.add ((aA).toNat * 11)).block, (aD.add ((aA).toNat * 11)).off + 10, none⟩ = some ((rd_T79 aI aA).f7) ∧ w'.cell? (aD.add ((aA).toNat * 11)) = some ((rd_T79 aI aA).f0) ∧ w'.cell? ⟨(aD.add ((aA).toNat * 11)).block, (aD.add ((aA).toNat * 11)).off + 1, none⟩ = some ((rd_T79 aI aA).f1) ∧ w'.cell? ⟨(aD.add ((aA).toNat * 11)).block, (aD.add ((aA).toNat * 11)).off + 2, none⟩ = some ((rd_T79 aI aA).f2.f0) ∧ w'.cell? ⟨(aD.add ((aA).toNat * 11)).block, (aD.add ((aA).toNat * 11)).off + 3, none⟩ = some ((rd_T79 aI aA).f2.f1) ∧ w'.cell? ⟨(aD.add ((aA).toNat * 11)).block, (aD.add ((aA).toNat * 11)).off + 4, none⟩ = some ((rd_T79 aI aA).f2.f2) ∧ w'.cell? ⟨(aD.add ((aA).toNat * 11)).block, (aD.add ((aA).toNat * 11)).off + 5, none⟩ = some ((rd_T79 aI aA).f2.f3) ∧ w'.cell? ⟨(aD.add ((aA).toNat * 11)).block, (aD.add ((aA).toNat * 11)).off + 6, none⟩ = some ((rd_T79 aI aA).f3) ∧ w'.cell? ⟨(aD.add ((aA).toNat * 11)).block, (aD.add ((aA).toNat * 11)).off + 7, none⟩ = some ((rd_T79 aI aA).f4) ∧ w'.cell? ⟨(aD.add ((aA).toNat * 11)).block, (aD.add ((aA).toNat * 11)).off + 8, none⟩ = some ((rd_T79 aI aA).f5) ∧ w'.cell? ⟨(aD.add ((aA).toNat * 11)).block, (aD.add ((aA).toNat * 11)).off + 9, none⟩ = some ((rd_T79 aI aA).f6) ∧ w'.cell? ⟨(aD.add ((aA).toNat * 11)).block, (aD.add ((aA).toNat * 11)).off + 10, none⟩ = some ((rd_T79 aI aA).f7))) (ds := []) (dn 23 0) (by kernel_rfl) rfl rfl ⟨cI aE.out 0, cI aE.out 1, ((HB.out.cell (World.block_lt_of_cell? w _ cA)).trans cA), ((HB.out.cell (World.block_lt_of_cell? w _ bZ)).trans bZ), ((HB.out.cell (World.block_lt_of_cell? w _ bY)).trans bY), ((HB.out.cell (World.block_lt_of_cell? w _ bX)).trans bX), ((HB.out.cell (World.block_lt_of_cell? w _ bW)).trans bW), ((HB.out.cell (World.block_lt_of_cell? w _ bV)).trans bV), ((HB.out.cell (World.block_lt_of_cell? w _ bU)).trans bU), ((HB.out.cell (World.block_lt_of_cell? w _ bT)).trans bT), ((HB.out.cell (World.block_lt_of_cell? w _ bR)).trans bR), ((HB.out.cell (World.block_lt_of_cell? w _ bQ)).trans bQ), ((HB.out.cell (World.block_lt_of_cell? w _ aW)).trans aW), ((HB.out.cell (World.block_lt_of_cell? w _ dA)).trans dA), ((HB.out.cell (World.block_lt_of_cell? w _ cY)).trans cY), ((HB.out.cell (World.block_lt_of_cell? w _ cX)).trans cX), ((HB.out.cell (World.block_lt_of_cell? w _ cW)).trans cW), ((HB.out.cell (World.block_lt_of_cell? w _ cV)).trans cV), ((HB.out.cell (World.block_lt_of_cell? w _ cU)).trans cU), ((HB.out.cell (World.block_lt_of_cell? w _ cT)).trans cT), ((HB.out.cell (World.block_lt_of_cell? w _ cS)).trans cS), ((HB.out.cell (World.block_lt_of_cell? w _ cR)).trans cR), ((HB.out.cell (World.block_lt_of_cell? w _ cQ)).trans cQ), ((HB.out.cell (World.block_lt_of_cell? w _ aZ)).trans aZ)⟩ (fun hHeld => ?_); refine with_tabW impl_Bridge_own.tab4 impl_Bridge_own.bits4 (fun HT_ HW_ => ?_)
 generalize dV.drew = fE at aE aH aG HB bG bH aV bI bJ bK bL bM bN bO bP cC cD aX cE cG cH cK cL cN cO cP hHeld ⊢
 refine nY (N := some 21) HT_ ?_
 refine nY (N := some 22) HT_ ?_
 refine nY (N := some 23) HT_ ?_
 refine pY (i := 4) (N := some 25) #[Y,Y,Y,U,Y,U,U,U,U,U,U,U,U,U,U,U,U,U,U,U,U,U,U] HT_ ?_
 refine pY (i := 9) (N := some 30) #[Y,Y,Y,U,Y,U,U,U,U,Y,U,U,U,U,U,U,U,U,U,U,U,U,U] HT_ ?_
 refine pY (i := 10) (N := some 31) #[Y,Y,Y,U,Y,U,U,U,U,Y,Y,U,U,U,U,U,U,U,U,U,U,U,U] HT_ ?_
 refine pY (i := 11) (N := some 32) #[Y,Y,Y,U,Y,U,U,U,U,Y,Y,Y,U,U,U,U,U,U,U,U,U,U,U] HT_ ?_
 refine pY (i := 13) (N := some 34) #[Y,Y,Y,U,Y,U,U,U,U,Y,Y,Y,U,Y,U,U,U,U,U,U,U,U,U] HT_ ?_
 refine aY (i := 3) (N := some 24) #[Y,Y,Y,Y,Y,U,U,U,U,Y,Y,Y,U,Y,U,U,U,U,U,U,U,U,U] HT_ HW_ hHeld ?_
 refine pY (i := 5) (N := some 26) #[Y,Y,Y,Y,Y,Y,U,U,U,Y,Y,Y,U,Y,U,U,U,U,U,U,U,U,U] HT_ ?_
 refine pY (i := 6) (N := some 27) #[Y,Y,Y,Y,Y,Y,Y,U,U,Y,Y,Y,U,Y,U,U,U,U,U,U,U,U,U] HT_ ?_
 refine pY (i := 7) (N := some 28) #[Y,Y,Y,Y,Y,Y,Y,Y,U,Y,Y,Y,U,Y,U,U,U,U,U,U,U,U,U] HT_ ?_
 refine aY (i := 8) (N := some 29) #[Y,Y,Y,Y,Y,Y,Y,Y,Y,Y,Y,Y,U,Y,U,U,U,U,U,U,U,U,U] HT_ HW_ hHeld ?_
 refine pY (i := 19) (N := some 40) #[Y,Y,Y,Y,Y,Y,Y,Y,Y,Y,Y,Y,U,Y,U,U,U,U,U,Y,U,U,U] HT_ ?_
 refine aY (i := 12) (N := some 33) #[Y,Y,Y,Y,Y,Y,Y,Y,Y,Y,Y,Y,Y,Y,U,U,U,U,U,Y,U,U,U] HT_ HW_ hHeld ?_
 refine pY (i := 14) (N := some 35) #[Y,Y,Y,Y,Y,Y,Y,Y,Y,Y,Y,Y,Y,Y,Y,U,U,U,U,Y,U,U,U] HT_ ?_
 refine pY (i := 15) (N := some 36) #[Y,Y,Y,Y,Y,Y,Y,Y,Y,Y,Y,Y,Y,Y,Y,Y,U,U,U,Y,U,U,U] HT_ ?_
 refine pY (i := 16) (N := some 37) #[Y,Y,Y,Y,Y,Y,Y,Y,Y,Y,Y,Y,Y,Y,Y,Y,Y,U,U,Y,U,U,U] HT_ ?_
 refine aY (i := 17) (N := some 38) #[Y,Y,Y,Y,Y,Y,Y,Y,Y,Y,Y,Y,Y,Y,Y,Y,Y,Y,U,Y,U,U,U] HT_ HW_ hHeld ?_
 refine pY (i := 18) (N := some 39) #[Y,Y,Y,Y,Y,Y,Y,Y,Y,Y,Y,Y,Y,Y,Y,Y,Y,Y,Y,Y,U,U,U] HT_ ?_
 refine one_ (i := 20) (N := none) #[Y,Y,Y,Y,Y,Y,Y,Y,Y,Y,Y,Y,Y,Y,Y,Y,Y,Y,Y,Y,Y,U,U] rfl rfl (one_of HT_.out (by kernel_rfl)) (by decide) (fun K hK => ?_)
 have eY := cI aG.out 0
 have hfs17 := bF aG.out 0
 have hns17_0 := aJ.out
 have hns17_1 := aN.out
 have hms17_0 := aK.out
 have hms17_1 := aQ.out
 refine skip_ (w1 := ?_) (by rfl) rfl ?_ ?_
 rotate_left
 ·go_simp
  rfl
 refine hK.out _ _ ⟨(cm (hHeld.1)), (cm (hHeld.2.1)), ((cF cA aC.out).trans (hHeld.2.2.1)), ((cF bZ aC.out).trans (hHeld.2.2.2.1)), ((cF bY aC.out).trans (hHeld.2.2.2.2.1)), ((cF bX aC.out).trans (hHeld.2.2.2.2.2.1)), ((cF bW aC.out).trans (hHeld.2.2.2.2.2.2.1)), ((cF bV aC.out).trans (hHeld.2.2.2.2.2.2.2.1)), ((cF bU aC.out).trans (hHeld.2.2.2.2.2.2.2.2.1)), ((cF bT aC.out).trans (hHeld.2.2.2.2.2.2.2.2.2.1)), ((cF bR aC.out).trans (hHeld.2.2.2.2.2.2.2.2.2.2.1)), ((cF bQ aC.out).trans (hHeld.2.2.2.2.2.2.2.2.2.2.2.1)), ((cF aW aC.out).trans (hHeld.2.2.2.2.2.2.2.2.2.2.2.2.1)), ((cF dA aC.out).trans (hHeld.2.2.2.2.2.2.2.2.2.2.2.2.2.1)), ((cF cY aC.out).trans (hHeld.2.2.2.2.2.2.2.2.2.2.2.2.2.2.1)), ((cF cX aC.out).trans (hHeld.2.2.2.2.2.2.2.2.2.2.2.2.2.2.2.1)), ((cF cW aC.out).trans (hHeld.2.2.2.2.2.2.2.2.2.2.2.2.2.2.2.2.1)), ((cF cV aC.out).trans (hHeld.2.2.2.2.2.2.2.2.2.2.2.2.2.2.2.2.2.1)), ((cF cU aC.out).trans (hHeld.2.2.2.2.2.2.2.2.2.2.2.2.2.2.2.2.2.2.1)), ((cF cT aC.out).trans (hHeld.2.2.2.2.2.2.2.2.2.2.2.2.2.2.2.2.2.2.2.1)), ((cF cS aC.out).trans (hHeld.2.2.2.2.2.2.2.2.2.2.2.2.2.2.2.2.2.2.2.2.1)), ((cF cR aC.out).trans (hHeld.2.2.2.2.2.2.2.2.2.2.2.2.2.2.2.2.2.2.2.2.2.1)), ((cF cQ aC.out).trans (hHeld.2.2.2.2.2.2.2.2.2.2.2.2.2.2.2.2.2.2.2.2.2.2.1)), ((cF aZ aC.out).trans (hHeld.2.2.2.2.2.2.2.2.2.2.2.2.2.2.2.2.2.2.2.2.2.2.2))⟩ (fun hHeld => ?_)
 clear hK K
 refine pY (i := 21) (N := some 41) #[Y,Y,Y,Y,Y,Y,Y,Y,Y,Y,Y,Y,Y,Y,Y,Y,Y,Y,Y,Y,Y,Y,U] HT_ ?_
 refine one_ (i := 22) (N := none) #[Y,Y,Y,Y,Y,Y,Y,Y,Y,Y,Y,Y,Y,Y,Y,Y,Y,Y,Y,Y,Y,Y,Y] rfl rfl (one_of HT_.out (by kernel_rfl)) (by decide) (fun K hK => ?_)
 have eZ := cI aG.out 1
 have hfs18 := bF aG.out 1
 have hns18_0 := aJ.out
 have hns18_1 := aN.out
 have hms18_0 := aK.out
 have hms18_1 := aQ.out
 refine skip_ (w1 := ?_) (by rfl) rfl ?_ ?_
 rotate_left
 ·go_simp
  rfl
 refine hK.out _ _ ⟨(cm (hHeld.1)), (cm (hHeld.2.1)), ((cF cA aC.out).trans (hHeld.2.2.1)), ((cF bZ aC.out).trans (hHeld.2.2.2.1)), ((cF bY aC.out).trans (hHeld.2.2.2.2.1)), ((cF bX aC.out).trans (hHeld.2.2.2.2.2.1)), ((cF bW aC.out).trans (hHeld.2.2.2.2.2.2.1)), ((cF bV aC.out).trans (hHeld.2.2.2.2.2.2.2.1)), ((cF bU aC.out).trans (hHeld.2.2.2.2.2.2.2.2.1)), ((cF bT aC.out).trans (hHeld.2.2.2.2.2.2.2.2.2.1)), ((cF bR aC.out).trans (hHeld.2.2.2.2.2.2.2.2.2.2.1)), ((cF bQ aC.out).trans (hHeld.2.2.2.2.2.2.2.2.2.2.2.1)), ((cF aW aC.out).trans (hHeld.2.2.2.2.2.2.2.2.2.2.2.2.1)), ((cF dA aC.out).trans (hHeld.2.2.2.2.2.2.2.2.2.2.2.2.2.1)), ((cF cY aC.out).trans (hHeld.2.2.2.2.2.2.2.2.2.2.2.2.2.2.1)), ((cF cX aC.out).trans (hHeld.2.2.2.2.2.2.2.2.2.2.2.2.2.2.2.1)), ((cF cW aC.out).trans (hHeld.2.2.2.2.2.2.2.2.2.2.2.2.2.2.2.2.1)), ((cF cV aC.out).trans (hHeld.2.2.2.2.2.2.2.2.2.2.2.2.2.2.2.2.2.1)), ((cF cU aC.out).trans (hHeld.2.2.2.2.2.2.2.2.2.2.2.2.2.2.2.2.2.2.1)), ((cF cT aC.out).trans (hHeld.2.2.2.2.2.2.2.2.2.2.2.2.2.2.2.2.2.2.2.1)), ((cF cS aC.out).trans (hHeld.2.2.2.2.2.2.2.2.2.2.2.2.2.2.2.2.2.2.2.2.1)), ((cF cR aC.out).trans (hHeld.2.2.2.2.2.2.2.2.2.2.2.2.2.2.2.2.2.2.2.2.2.1)), ((cF cQ aC.out).trans (hHeld.2.2.2.2.2.2.2.2.2.2.2.2.2.2.2.2.2.2.2.2.2.2.1)), ((cF aZ aC.out).trans (hHeld.2.2.2.2.2.2.2.2.2.2.2.2.2.2.2.2.2.2.2.2.2.2.2))⟩ (fun hHeld => ?_)
 clear hK K
 refine done_ (done_of HT_.out (by kernel_rfl)) ?_
 have eE := aK.out
 have eF := aJ.out
 have eG := aQ.out
 have eH := aN.out
 have eI := cA4 aG.out
 have eJ := bD.out
 have eK := bA.out
 have eL := cA4 aH.out
 try go_wp2
 refine bodyPost_ret (results_cell_row rfl _ _ dE 73 #[((rd_T79 aI aA).f2.f0), .int .i64 (wrap64 (((rd_T79 aI aA).f2.f1) + 1)), aT, a1] (0, 0) _ rfl (bm aH.out) Try.underlying73 rfl (by kernel_rfl)) rfl ?_
 exact ⟨xW, bl HB.out⟩

end Go.Proofs.Ythmijfekdeagpaa.PFnRootPorts

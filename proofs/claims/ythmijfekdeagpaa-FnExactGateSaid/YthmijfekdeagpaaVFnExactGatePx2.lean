/- A part of the proof of laws.FnExactGate. No condition beyond what its theorems say. -/
import Derived.Test.YthmijfekdeagpaaVFnExactGatePx1
namespace Go.Proofs.Ythmijfekdeagpaa.PFnExactGate
open Go.RowKit Go.Proofs.YthmijfekdeagpaaW.PrintWords Go.Proofs.YthmijfekdeagpaaW.PrintLast Go.Proofs.YthmijfekdeagpaaW.PrintMore
set_option linter.unusedVariables false
set_option linter.unusedSimpArgs false

def spec_TableOk.l0 : Nat → List (S138) → Int → Option (Bool)
 | 0, _, _ => none
 | k + 1, x0, x3 => if x3 < (x0.length : Int) then (if 0 ≤ x3 then ((spec_l1In.f ((rd_T138 x0 x3).f0) 1 9).bind fun aA => (if aA = true then ((spec_l1In.f ((rd_T138 x0 x3).f1) 1 4).bind fun aC => (if aC = true then ((spec_l1In.f ((rd_T138 x0 x3).f2) 0 3).bind fun aD => (if aD = true then ((spec_l1In.f ((rd_T138 x0 x3).f3) 1 20).bind fun aE => (if aE = true then (if x3 > 0 then (if 0 ≤ (wrap64 (x3 - 1)) then (if (wrap64 (x3 - 1)) < (x0.length : Int) then ((spec_l3Before.f ((rd_T138 x0 (wrap64 (x3 - 1))).f0) ((rd_T138 x0 (wrap64 (x3 - 1))).f1) ((rd_T138 x0 (wrap64 (x3 - 1))).f2) ((rd_T138 x0 (wrap64 (x3 - 1))).f3) ((rd_T138 x0 x3).f0) ((rd_T138 x0 x3).f1) ((rd_T138 x0 x3).f2) ((rd_T138 x0 x3).f3)).bind fun aG => (if aG = true then (spec_TableOk.l0 k x0 (wrap64 (x3 + 1))) else (some false))) else (none)) else (none)) else (spec_TableOk.l0 k x0 (wrap64 (x3 + 1)))) else (some false))) else (some false))) else (some false))) else (some false))) else (none)) else (some (decide ((x0.length : Int) ≤ 12)))
def spec_TableOk.f (k : Nat) (l0 : List (S138)) : Option (Bool) := spec_TableOk.l0 k l0 0
theorem spec_TableOk.mono_l : ∀ k, (∀ y0 y1, LeO (spec_TableOk.l0 k y0 y1) (spec_TableOk.l0 (k + 1) y0 y1))
 | 0 => fun _ _ r h => by simp [spec_TableOk.l0] at h
 | k + 1 => by
  have ih0 := spec_TableOk.mono_l k
  ·intro y0 y1
   unfold spec_TableOk.l0
   repeat' first|(with_reducible first|apply ih0|exact lR _|exact lN _|refine lI ?_ ?_|refine lB ?_ fun _ => ?_)|exact lN _|refine lI ?_ ?_|refine lB ?_ fun _ => ?_
theorem spec_TableOk.mono : ∀ a0 k, LeO (spec_TableOk.f k a0) (spec_TableOk.f (k + 1) a0) := by
 intro a0 k
 have ih0 := spec_TableOk.mono_l k
 unfold spec_TableOk.f
 repeat' first|(with_reducible first|apply ih0|exact lR _|exact lN _|refine lI ?_ ?_|refine lB ?_ fun _ => ?_)|exact lN _|refine lI ?_ ?_|refine lB ?_ fun _ => ?_
def spec_TableOk.T5 : Bool × List (List Nat × List Nat) := (true, [([], []), ([0], [0]), ([1], [1]), ([2], [2]), ([3, 2], [3]), ([4], [4]), ([5, 4], [4, 5]), ([6, 4, 4], [4, 6]), ([7, 4], [4, 7]), ([4, 8], [4, 8]), ([9, 7], [9]), ([10], [10]), ([11, 10], [10, 11]), ([12, 10, 10], [10, 12]), ([13, 10], [10, 13]), ([10, 14], [10, 14]), ([15, 13], [15]), ([16], [16]), ([17, 16], [16, 17]), ([18, 16, 16], [16, 18]), ([19, 16], [16, 19]), ([16, 20], [16, 20]), ([21, 19], [21]), ([22], [22]), ([23, 22], [22, 23]), ([24, 22, 22], [22, 24]), ([25], [25]), ([25], [25]), ([27, 25], [25, 27]), ([26, 28, 25], [25, 26, 28]), ([29, 25], [25, 29]), ([25], [25]), ([30, 31, 25, 25], [25, 30, 31]), ([32, 25], [25, 32]), ([25, 33, 22], [22, 25, 33]), ([22, 34], [22, 34])])
def spec_TableOk.B5 : List Nat := [0, 1, 3, 7, 15, 31, 63, 127, 255, 511, 1023, 2047, 4095, 8191, 16383, 32767, 65535, 131071, 262143, 524287, 1048575, 2097151, 4194303, 8388607, 16777215, 33554431, 67108863, 67108863, 201326591, 536870911, 1073741823, 67108863, 4294967295, 8589934591, 17179869183, 34359738367]
theorem spec_TableOk.tab5 : rtab .any (opsOf Try.f126 5) = spec_TableOk.T5 := by kernel_rfl
theorem spec_TableOk.bits5 : waitsOk spec_TableOk.T5.2 spec_TableOk.B5 = true := by kernel_rfl
set_option maxHeartbeats 60000000 in
set_option maxRecDepth 100000 in
theorem spec_TableOk.calls (k : Nat) (A0 : Option Addr) (c0 : Nat) (l0 : List (S138)) (r : Bool) (w : World) (hr0 : Kd.C k138 w A0 l0.length l0) (hc0 : l0.length ≤ c0) (h : spec_TableOk.f k l0 = some r) :
  Calls Try.prog 126 #[.slice A0 l0.length c0] w fun e w' => e = .returned (.bool r) ∧ Below w.heap.size w w' := by
 have dD := Try.underlying138
 have bO := aM hr0
 have dO := aM hc0
 clear hr0 hc0
 have HB := aM (Below.refl w.heap.size w)
 have H : (spec_TableOk.l0 k l0 0) = some r := h
 clear h
 have H' := aM H
 clear H
 go_enter Try.func126, Try.ntmps126
 go_wp2
 go_loopg [3] k (fun kq v3 w' => ∃ (aC : Int), v3 = .int .i64 aC ∧ Aside0 (spec_TableOk.l0 kq l0 aC = some r) ∧ Aside0 (kq ≤ k) ∧ Aside0 (Below w.heap.size w w'))
 case atStart => exact ⟨(0), xE, H', ⟨Nat.le_refl _⟩, ⟨bl HB.out⟩⟩
 case round =>
  clear H'
  try clear c1
  obtain ⟨aC, rfl, HA, cC, HB⟩ := hrel
  cases gk with
  | zero => exact absurd HA.out (by simp [spec_TableOk.l0])
  | succ k1 =>
   have H := HA.out
   clear HA
   simp only [spec_TableOk.l0] at H
   by_cases c2 : aC < (l0.length : Int)
   case neg =>
    rw [if_neg c2] at H
    have cQ := decide_eq_false c2
    clear c2
    obtain rfl := Option.some.inj H
    go_wp2
    go_ret
    exact ⟨xW, bl HB.out⟩
   rw [if_pos c2] at H
   have cQ := decide_eq_true c2
   clear c2
   obtain ⟨dN, H⟩ := gI H
   obtain ⟨cR, cL, H⟩ := hB H
   have A4 := aM cL
   clear cL
   by_cases c5 : cR = true
   case neg =>
    replace c5 := Bool.eq_false_iff.mpr c5
    subst c5
    replace H := hF H
    obtain rfl := Option.some.inj H
    have aJ : 0 ≤ (aC : Int) := dT
    have aK : aC < (l0.length : Int) := dT
    obtain ⟨aI, bJ, aD, aE, aG, aH⟩ := at_T138 bO.out aC aJ aK
    cases bJ
    replace aD := xB HB aD
    replace aE := xB HB aE
    replace aG := xB HB aG
    replace aH := xB HB aH
    replace aJ := eq_true aJ
    replace aK := eq_true aK
    try go_wp2_with (first | ((with_reducible refine gD (N := 4) rfl ?_); refine bE (N := 4) (cs := #[.int .i64 0, .int .i64 0, .int .i64 0, .int .i64 0]) (t := 138) ?_; intro aN hg dP hbox hb; have aA := aM (hbox); have bK := gF hg HB; have bL := gF hg HB; replace HB := rS HB hb; clear hb hbox hg; have dE := cA4 aA.out))
    refine nW (fun W => Aside0 (W.heap[aN]? = some (.cells #[((rd_T138 l0 aC).f0), ((rd_T138 l0 aC).f1), ((rd_T138 l0 aC).f2), ((rd_T138 l0 aC).f3)] 138 (0, 0))) ∧ Aside0 (Below w.heap.size w W)) ⟨⟨bm aA.out⟩, ⟨bl HB.out⟩⟩ ?_
    intro cV nn_
    replace aA := nn_.1
    replace HB := nn_.2
    clear nn_
    replace aA := aM (blk_drew aA.out)
    replace HB := aM (below_drew1 HB.out)
    refine start_ (n := 36) (S := fun w' => cS4 w' aN (.int .i64 ((rd_T138 l0 aC).f0)) (.int .i64 ((rd_T138 l0 aC).f1)) (.int .i64 ((rd_T138 l0 aC).f2)) (.int .i64 ((rd_T138 l0 aC).f3))) (ds := []) (dn 36 0) (by kernel_rfl) rfl rfl ⟨cI aA.out 0, cI aA.out 1, cI aA.out 2, cI aA.out 3⟩ (fun hHeld => ?_); refine with_tabW spec_TableOk.tab5 spec_TableOk.bits5 (fun HT_ HW_ => ?_)
    generalize cV.drew = dQ at aA HB hHeld ⊢
    refine nY (N := some 15) HT_ ?_
    refine tY (N := some 16) HT_ HW_ hHeld ?_
    refine oN (N := some 17) HT_ (fun K hK => ?_)
    refine goes_ Try.func80 (by kernel_rfl) rfl #[((rd_T138 l0 aC).f0), .int .i64 1, .int .i64 9] (by rfl) rfl rfl xR ?_
    with_reducible refine (spec_l1In.calls ((rd_T138 l0 aC).f0) 1 9 false _ A4.out).mono ?_
    rintro e w' ⟨rfl, ⟨nd, rfl⟩⟩
    refine ⟨_, rfl, ?_⟩
    refine hK.out _ _ ⟨cI aA.out 0, cI aA.out 1, cI aA.out 2, cI aA.out 3⟩ (fun hHeld => ?_)
    clear hK K
    refine norm_ (a' := ?_) ?_ ?_
    rotate_left
    ·show Act.put _ (some 17) _ = _
     simp only [Act.put, sA, sZ, sS, i64_w, i32_w]
     rfl
    refine nY (N := some 18) HT_ ?_
    refine nY (N := some 19) HT_ ?_
    refine nU (N := some 20) HT_ ?_
    refine nU (N := some 21) HT_ ?_
    refine nU (N := some 22) HT_ ?_
    refine nU (N := some 23) HT_ ?_
    refine nY (N := some 24) HT_ ?_
    refine nY (N := some 25) HT_ ?_
    refine nU (N := some 26) HT_ ?_
    refine nU (N := some 27) HT_ ?_
    refine nU (N := some 28) HT_ ?_
    refine nU (N := some 29) HT_ ?_
    refine nY (N := some 30) HT_ ?_
    refine nY (N := some 31) HT_ ?_
    refine nU (N := some 32) HT_ ?_
    refine nU (N := some 33) HT_ ?_
    refine nU (N := some 34) HT_ ?_
    refine nU (N := some 35) HT_ ?_
    refine nY (N := some 36) HT_ ?_
    refine nY (N := some 37) HT_ ?_
    refine nU (N := some 38) HT_ ?_
    refine nU (N := some 39) HT_ ?_
    refine nU (N := some 40) HT_ ?_
    refine nU (N := some 41) HT_ ?_
    refine nU (N := some 42) HT_ ?_
    refine nU (N := some 43) HT_ ?_
    refine nU (N := some 44) HT_ ?_
    refine nU (N := some 45) HT_ ?_
    refine nU (N := some 46) HT_ ?_
    refine nU (N := some 47) HT_ ?_
    refine nU (N := some 48) HT_ ?_
    refine nU (N := some 49) HT_ ?_
    refine nY (N := some 50) HT_ ?_
    refine done_ (done_of HT_.out (by kernel_rfl)) ?_
    try go_wp2
    go_ret
    exact ⟨xW, bl HB.out⟩
   subst c5
   replace H := hP H rfl
   obtain ⟨cS, cN, H⟩ := hB H
   have A6 := aM cN
   clear cN
   by_cases c7 : cS = true
   case neg =>
    replace c7 := Bool.eq_false_iff.mpr c7
    subst c7
    replace H := hF H
    obtain rfl := Option.some.inj H
    have aJ : 0 ≤ (aC : Int) := dT
    have aK : aC < (l0.length : Int) := dT
    obtain ⟨aI, bJ, aD, aE, aG, aH⟩ := at_T138 bO.out aC aJ aK
    cases bJ
    replace aD := xB HB aD
    replace aE := xB HB aE
    replace aG := xB HB aG
    replace aH := xB HB aH
    replace aJ := eq_true aJ
    replace aK := eq_true aK
    try go_wp2_with (first | ((with_reducible refine gD (N := 4) rfl ?_); refine bE (N := 4) (cs := #[.int .i64 0, .int .i64 0, .int .i64 0, .int .i64 0]) (t := 138) ?_; intro aN hg dR hbox hb; have aA := aM (hbox); have bK := gF hg HB; have bL := gF hg HB; replace HB := rS HB hb; clear hb hbox hg; have dF := cA4 aA.out))
    refine nW (fun W => Aside0 (W.heap[aN]? = some (.cells #[((rd_T138 l0 aC).f0), ((rd_T138 l0 aC).f1), ((rd_T138 l0 aC).f2), ((rd_T138 l0 aC).f3)] 138 (0, 0))) ∧ Aside0 (Below w.heap.size w W)) ⟨⟨bm aA.out⟩, ⟨bl HB.out⟩⟩ ?_
    intro cW nn_
    replace aA := nn_.1
    replace HB := nn_.2
    clear nn_
    replace aA := aM (blk_drew aA.out)
    replace HB := aM (below_drew1 HB.out)
    refine start_ (n := 36) (S := fun w' => cS4 w' aN (.int .i64 ((rd_T138 l0 aC).f0)) (.int .i64 ((rd_T138 l0 aC).f1)) (.int .i64 ((rd_T138 l0 aC).f2)) (.int .i64 ((rd_T138 l0 aC).f3))) (ds := []) (dn 36 0) (by kernel_rfl) rfl rfl ⟨cI aA.out 0, cI aA.out 1, cI aA.out 2, cI aA.out 3⟩ (fun hHeld => ?_); refine with_tabW spec_TableOk.tab5 spec_TableOk.bits5 (fun HT_ HW_ => ?_)
    generalize cW.drew = dS at aA HB hHeld ⊢
    refine nY (N := some 15) HT_ ?_
    refine tY (N := some 16) HT_ HW_ hHeld ?_
    refine oN (N := some 17) HT_ (fun K hK => ?_)
    refine goes_ Try.func80 (by kernel_rfl) rfl #[((rd_T138 l0 aC).f0), .int .i64 1, .int .i64 9] (by rfl) rfl rfl xR ?_
    with_reducible refine (spec_l1In.calls ((rd_T138 l0 aC).f0) 1 9 true _ A4.out).mono ?_
    rintro e w' ⟨rfl, ⟨nd, rfl⟩⟩
    refine ⟨_, rfl, ?_⟩
    refine hK.out _ _ ⟨cI aA.out 0, cI aA.out 1, cI aA.out 2, cI aA.out 3⟩ (fun hHeld => ?_)
    clear hK K
    refine norm_ (a' := ?_) ?_ ?_
    rotate_left
    ·show Act.put _ (some 17) _ = _
     simp only [Act.put, sA, sZ, sS, i64_w, i32_w]
     rfl
    refine nY (N := some 18) HT_ ?_
    refine nY (N := some 19) HT_ ?_
    refine nY (N := some 20) HT_ ?_
    refine tY (N := some 21) HT_ HW_ hHeld ?_
    refine oN (N := some 22) HT_ (fun K hK => ?_)
    refine goes_ Try.func80 (by kernel_rfl) rfl #[((rd_T138 l0 aC).f1), .int .i64 1, .int .i64 4] (by rfl) rfl rfl xR ?_
    with_reducible refine (spec_l1In.calls ((rd_T138 l0 aC).f1) 1 4 false _ A6.out).mono ?_
    rintro e w' ⟨rfl, ⟨nd, rfl⟩⟩
    refine ⟨_, rfl, ?_⟩
    refine hK.out _ _ ⟨cI aA.out 0, cI aA.out 1, cI aA.out 2, cI aA.out 3⟩ (fun hHeld => ?_)
    clear hK K
    refine norm_ (a' := ?_) ?_ ?_
    rotate_left
    ·show Act.put _ (some 22) _ = _
     simp only [Act.put, sA, sZ, sS, i64_w, i32_w]
     rfl
    refine nY (N := some 23) HT_ ?_
    refine nY (N := some 24) HT_ ?_
    refine nY (N := some 25) HT_ ?_
    refine nU (N := some 26) HT_ ?_
    refine nU (N := some 27) HT_ ?_
    refine nU (N := some 28) HT_ ?_
    refine nU (N := some 29) HT_ ?_
    refine nY (N := some 30) HT_ ?_
    refine nY (N := some 31) HT_ ?_
    refine nU (N := some 32) HT_ ?_
    refine nU (N := some 33) HT_ ?_
    refine nU (N := some 34) HT_ ?_
    refine nU (N := some 35) HT_ ?_
    refine nY (N := some 36) HT_ ?_
    refine nY (N := some 37) HT_ ?_
    refine nU (N := some 38) HT_ ?_
    refine nU (N := some 39) HT_ ?_
    refine nU (N := some 40) HT_ ?_
    refine nU (N := some 41) HT_ ?_
    refine nU (N := some 42) HT_ ?_
    refine nU (N := some 43) HT_ ?_
    refine nU (N := some 44) HT_ ?_
    refine nU (N := some 45) HT_ ?_
    refine nU (N := some 46) HT_ ?_
    refine nU (N := some 47) HT_ ?_
    refine nU (N := some 48) HT_ ?_
    refine nU (N := some 49) HT_ ?_
    refine nY (N := some 50) HT_ ?_
    refine done_ (done_of HT_.out (by kernel_rfl)) ?_
    try go_wp2
    go_ret
    exact ⟨xW, bl HB.out⟩
   subst c7
   replace H := hP H rfl
   obtain ⟨cT, cO, H⟩ := hB H
   have A8 := aM cO
   clear cO
   by_cases c9 : cT = true
   case neg =>
    replace c9 := Bool.eq_false_iff.mpr c9
    subst c9
    replace H := hF H
    obtain rfl := Option.some.inj H
    have aJ : 0 ≤ (aC : Int) := dT
    have aK : aC < (l0.length : Int) := dT
    obtain ⟨aI, bJ, aD, aE, aG, aH⟩ := at_T138 bO.out aC aJ aK
    cases bJ
    replace aD := xB HB aD
    replace aE := xB HB aE
    replace aG := xB HB aG
    replace aH := xB HB aH
    replace aJ := eq_true aJ
    replace aK := eq_true aK
    try go_wp2_with (first | ((with_reducible refine gD (N := 4) rfl ?_); refine bE (N := 4) (cs := #[.int .i64 0, .int .i64 0, .int .i64 0, .int .i64 0]) (t := 138) ?_; intro aN hg dU hbox hb; have aA := aM (hbox); have bK := gF hg HB; have bL := gF hg HB; replace HB := rS HB hb; clear hb hbox hg; have dG := cA4 aA.out))
    refine nW (fun W => Aside0 (W.heap[aN]? = some (.cells #[((rd_T138 l0 aC).f0), ((rd_T138 l0 aC).f1), ((rd_T138 l0 aC).f2), ((rd_T138 l0 aC).f3)] 138 (0, 0))) ∧ Aside0 (Below w.heap.size w W)) ⟨⟨bm aA.out⟩, ⟨bl HB.out⟩⟩ ?_
    intro cX nn_
    replace aA := nn_.1
    replace HB := nn_.2
    clear nn_
    replace aA := aM (blk_drew aA.out)
    replace HB := aM (below_drew1 HB.out)
    refine start_ (n := 36) (S := fun w' => cS4 w' aN (.int .i64 ((rd_T138 l0 aC).f0)) (.int .i64 ((rd_T138 l0 aC).f1)) (.int .i64 ((rd_T138 l0 aC).f2)) (.int .i64 ((rd_T138 l0 aC).f3))) (ds := []) (dn 36 0) (by kernel_rfl) rfl rfl ⟨cI aA.out 0, cI aA.out 1, cI aA.out 2, cI aA.out 3⟩ (fun hHeld => ?_); refine with_tabW spec_TableOk.tab5 spec_TableOk.bits5 (fun HT_ HW_ => ?_)
    generalize cX.drew = dV at aA HB hHeld ⊢
    refine nY (N := some 15) HT_ ?_
    refine tY (N := some 16) HT_ HW_ hHeld ?_
    refine oN (N := some 17) HT_ (fun K hK => ?_)
    refine goes_ Try.func80 (by kernel_rfl) rfl #[((rd_T138 l0 aC).f0), .int .i64 1, .int .i64 9] (by rfl) rfl rfl xR ?_
    with_reducible refine (spec_l1In.calls ((rd_T138 l0 aC).f0) 1 9 true _ A4.out).mono ?_
    rintro e w' ⟨rfl, ⟨nd, rfl⟩⟩
    refine ⟨_, rfl, ?_⟩
    refine hK.out _ _ ⟨cI aA.out 0, cI aA.out 1, cI aA.out 2, cI aA.out 3⟩ (fun hHeld => ?_)
    clear hK K
    refine norm_ (a' := ?_) ?_ ?_
    rotate_left
    ·show Act.put _ (some 17) _ = _
     simp only [Act.put, sA, sZ, sS, i64_w, i32_w]
     rfl
    refine nY (N := some 18) HT_ ?_
    refine nY (N := some 19) HT_ ?_
    refine nY (N := some 20) HT_ ?_
    refine tY (N := some 21) HT_ HW_ hHeld ?_
    refine oN (N := some 22) HT_ (fun K hK => ?_)
    refine goes_ Try.func80 (by kernel_rfl) rfl #[((rd_T138 l0 aC).f1), .int .i64 1, .int .i64 4] (by rfl) rfl rfl xR ?_
    with_reducible refine (spec_l1In.calls ((rd_T138 l0 aC).f1) 1 4 true _ A6.out).mono ?_
    rintro e w' ⟨rfl, ⟨nd, rfl⟩⟩
    refine ⟨_, rfl, ?_⟩
    refine hK.out _ _ ⟨cI aA.out 0, cI aA.out 1, cI aA.out 2, cI aA.out 3⟩ (fun hHeld => ?_)
    clear hK K
    refine norm_ (a' := ?_) ?_ ?_
    rotate_left
    ·show Act.put _ (some 22) _ = _
     simp only [Act.put, sA, sZ, sS, i64_w, i32_w]
     rfl
    refine nY (N := some 23) HT_ ?_
    refine nY (N := some 24) HT_ ?_
    refine nY (N := some 25) HT_ ?_
    refine nY (N := some 26) HT_ ?_
    refine tY (N := some 27) HT_ HW_ hHeld ?_
    refine oN (N := some 28) HT_ (fun K hK => ?_)
    refine goes_ Try.func80 (by kernel_rfl) rfl #[((rd_T138 l0 aC).f2), .int .i64 0, .int .i64 3] (by rfl) rfl rfl xR ?_
    with_reducible refine (spec_l1In.calls ((rd_T138 l0 aC).f2) 0 3 false _ A8.out).mono ?_
    rintro e w' ⟨rfl, ⟨nd, rfl⟩⟩
    refine ⟨_, rfl, ?_⟩
    refine hK.out _ _ ⟨cI aA.out 0, cI aA.out 1, cI aA.out 2, cI aA.out 3⟩ (fun hHeld => ?_)
    clear hK K
    refine norm_ (a' := ?_) ?_ ?_
    rotate_left
    ·show Act.put _ (some 28) _ = _
     simp only [Act.put, sA, sZ, sS, i64_w, i32_w]
     rfl
    refine nY (N := some 29) HT_ ?_
    refine nY (N := some 30) HT_ ?_
    refine nY (N := some 31) HT_ ?_
    refine nU (N := some 32) HT_ ?_
    refine nU (N := some 33) HT_ ?_
    refine nU (N := some 34) HT_ ?_
    refine nU (N := some 35) HT_ ?_
    refine nY (N := some 36) HT_ ?_
    refine nY (N := some 37) HT_ ?_
    refine nU (N := some 38) HT_ ?_
    refine nU (N := some 39) HT_ ?_
    refine nU (N := some 40) HT_ ?_
    refine nU (N := some 41) HT_ ?_
    refine nU (N := some 42) HT_ ?_
    refine nU (N := some 43) HT_ ?_
    refine nU (N := some 44) HT_ ?_
    refine nU (N := some 45) HT_ ?_
    refine nU (N := some 46) HT_ ?_
    refine nU (N := some 47) HT_ ?_
    refine nU (N := some 48) HT_ ?_
    refine nU (N := some 49) HT_ ?_
    refine nY (N := some 50) HT_ ?_
    refine done_ (done_of HT_.out (by kernel_rfl)) ?_
    try go_wp2
    go_ret
    exact ⟨xW, bl HB.out⟩
   subst c9
   replace H := hP H rfl
   obtain ⟨cU, cG, H⟩ := hB H
   have bU := aM cG
   clear cG
   by_cases cD : cU = true
   case neg =>
    replace cD := Bool.eq_false_iff.mpr cD
    subst cD
    replace H := hF H
    obtain rfl := Option.some.inj H
    have aJ : 0 ≤ (aC : Int) := dT
    have aK : aC < (l0.length : Int) := dT
    obtain ⟨aI, bJ, aD, aE, aG, aH⟩ := at_T138 bO.out aC aJ aK
    cases bJ
    replace aD := xB HB aD
    replace aE := xB HB aE
    replace aG := xB HB aG
    replace aH := xB HB aH
    replace aJ := eq_true aJ
    replace aK := eq_true aK
    try go_wp2_with (first | ((with_reducible refine gD (N := 4) rfl ?_); refine bE (N := 4) (cs := #[.int .i64 0, .int .i64 0, .int .i64 0, .int .i64 0]) (t := 138) ?_; intro aN hg dW hbox hb; have aA := aM (hbox); have bK := gF hg HB; have bL := gF hg HB; replace HB := rS HB hb; clear hb hbox hg; have dH := cA4 aA.out))
    refine nW (fun W => Aside0 (W.heap[aN]? = some (.cells #[((rd_T138 l0 aC).f0), ((rd_T138 l0 aC).f1), ((rd_T138 l0 aC).f2), ((rd_T138 l0 aC).f3)] 138 (0, 0))) ∧ Aside0 (Below w.heap.size w W)) ⟨⟨bm aA.out⟩, ⟨bl HB.out⟩⟩ ?_
    intro cY nn_
    replace aA := nn_.1
    replace HB := nn_.2
    clear nn_
    replace aA := aM (blk_drew aA.out)
    replace HB := aM (below_drew1 HB.out)
    refine start_ (n := 36) (S := fun w' => cS4 w' aN (.int .i64 ((rd_T138 l0 aC).f0)) (.int .i64 ((rd_T138 l0 aC).f1)) (.int .i64 ((rd_T138 l0 aC).f2)) (.int .i64 ((rd_T138 l0 aC).f3))) (ds := []) (dn 36 0) (by kernel_rfl) rfl rfl ⟨cI aA.out 0, cI aA.out 1, cI aA.out 2, cI aA.out 3⟩ (fun hHeld => ?_); refine with_tabW spec_TableOk.tab5 spec_TableOk.bits5 (fun HT_ HW_ => ?_)
    generalize cY.drew = dX at aA HB hHeld ⊢
    refine nY (N := some 15) HT_ ?_
    refine tY (N := some 16) HT_ HW_ hHeld ?_
    refine oN (N := some 17) HT_ (fun K hK => ?_)
    refine goes_ Try.func80 (by kernel_rfl) rfl #[((rd_T138 l0 aC).f0), .int .i64 1, .int .i64 9] (by rfl) rfl rfl xR ?_
    with_reducible refine (spec_l1In.calls ((rd_T138 l0 aC).f0) 1 9 true _ A4.out).mono ?_
    rintro e w' ⟨rfl, ⟨nd, rfl⟩⟩
    refine ⟨_, rfl, ?_⟩
    refine hK.out _ _ ⟨cI aA.out 0, cI aA.out 1, cI aA.out 2, cI aA.out 3⟩ (fun hHeld => ?_)
    clear hK K
    refine norm_ (a' := ?_) ?_ ?_
    rotate_left
    ·show Act.put _ (some 17) _ = _
     simp only [Act.put, sA, sZ, sS, i64_w, i32_w]
     rfl
    refine nY (N := some 18) HT_ ?_
    refine nY (N := some 19) HT_ ?_
    refine nY (N := some 20) HT_ ?_
    refine tY (N := some 21) HT_ HW_ hHeld ?_
    refine oN (N := some 22) HT_ (fun K hK => ?_)
    refine goes_ Try.func80 (by kernel_rfl) rfl #[((rd_T138 l0 aC).f1), .int .i64 1, .int .i64 4] (by rfl) rfl rfl xR ?_
    with_reducible refine (spec_l1In.calls ((rd_T138 l0 aC).f1) 1 4 true _ A6.out).mono ?_
    rintro e w' ⟨rfl, ⟨nd, rfl⟩⟩
    refine ⟨_, rfl, ?_⟩
    refine hK.out _ _ ⟨cI aA.out 0, cI aA.out 1, cI aA.out 2, cI aA.out 3⟩ (fun hHeld => ?_)
    clear hK K
    refine norm_ (a' := ?_) ?_ ?_
    rotate_left
    ·show Act.put _ (some 22) _ = _
     simp only [Act.put, sA, sZ, sS, i64_w, i32_w]
     rfl
    refine nY (N := some 23) HT_ ?_
    refine nY (N := some 24) HT_ ?_
    refine nY (N := some 25) HT_ ?_
    refine nY (N := some 26) HT_ ?_
    refine tY (N := some 27) HT_ HW_ hHeld ?_
    refine oN (N := some 28) HT_ (fun K hK => ?_)
    refine goes_ Try.func80 (by kernel_rfl) rfl #[((rd_T138 l0 aC).f2), .int .i64 0, .int .i64 3] (by rfl) rfl rfl xR ?_
    with_reducible refine (spec_l1In.calls ((rd_T138 l0 aC).f2) 0 3 true _ A8.out).mono ?_
    rintro e w' ⟨rfl, ⟨nd, rfl⟩⟩
    refine ⟨_, rfl, ?_⟩
    refine hK.out _ _ ⟨cI aA.out 0, cI aA.out 1, cI aA.out 2, cI aA.out 3⟩ (fun hHeld => ?_)
    clear hK K
    refine norm_ (a' := ?_) ?_ ?_
    rotate_left
    ·show Act.put _ (some 28) _ = _
     simp only [Act.put, sA, sZ, sS, i64_w, i32_w]
     rfl
    refine nY (N := some 29) HT_ ?_
    refine nY (N := some 30) HT_ ?_
    refine nY (N := some 31) HT_ ?_
    refine nY (N := some 32) HT_ ?_
    refine tY (N := some 33) HT_ HW_ hHeld ?_
    refine oN (N := some 34) HT_ (fun K hK => ?_)
    refine goes_ Try.func80 (by kernel_rfl) rfl #[((rd_T138 l0 aC).f3), .int .i64 1, .int .i64 20] (by rfl) rfl rfl xR ?_
    with_reducible refine (spec_l1In.calls ((rd_T138 l0 aC).f3) 1 20 false _ bU.out).mono ?_
    rintro e w' ⟨rfl, ⟨nd, rfl⟩⟩
    refine ⟨_, rfl, ?_⟩
    refine hK.out _ _ ⟨cI aA.out 0, cI aA.out 1, cI aA.out 2, cI aA.out 3⟩ (fun hHeld => ?_)
    clear hK K
    refine norm_ (a' := ?_) ?_ ?_
    rotate_left
    ·show Act.put _ (some 34) _ = _
     simp only [Act.put, sA, sZ, sS, i64_w, i32_w]
     rfl
    refine nY (N := some 35) HT_ ?_
    refine nY (N := some 36) HT_ ?_
    refine nY (N := some 37) HT_ ?_
    refine nU (N := some 38) HT_ ?_
    refine nU (N := some 39) HT_ ?_
    refine nU (N := some 40) HT_ ?_
    refine nU (N := some 41) HT_ ?_
    refine nU (N := some 42) HT_ ?_
    refine nU (N := some 43) HT_ ?_
    refine nU (N := some 44) HT_ ?_
    refine nU (N := some 45) HT_ ?_
    refine nU (N := some 46) HT_ ?_
    refine nU (N := some 47) HT_ ?_
    refine nU (N := some 48) HT_ ?_
    refine nU (N := some 49) HT_ ?_
    refine nY (N := some 50) HT_ ?_
    refine done_ (done_of HT_.out (by kernel_rfl)) ?_
    try go_wp2
    go_ret
    exact ⟨xW, bl HB.out⟩
   subst cD
   replace H := hP H rfl
   by_cases bP : aC > 0
   case neg =>
    rw [if_neg bP] at H
    have cK := decide_eq_false bP
    clear bP
    have H' := aM H
    clear H
    have aJ : 0 ≤ (aC : Int) := dT
    have aK : aC < (l0.length : Int) := dT
    obtain ⟨aI, bJ, aD, aE, aG, aH⟩ := at_T138 bO.out aC aJ aK
    cases bJ
    replace aD := xB HB aD
    replace aE := xB HB aE
    replace aG := xB HB aG
    replace aH := xB HB aH
    replace aJ := eq_true aJ
    replace aK := eq_true aK
    try go_wp2_with (first | ((with_reducible refine gD (N := 4) rfl ?_); refine bE (N := 4) (cs := #[.int .i64 0, .int .i64 0, .int .i64 0, .int .i64 0]) (t := 138) ?_; intro aN hg dY hbox hb; have aA := aM (hbox); have bK := gF hg HB; have bL := gF hg HB; replace HB := rS HB hb; clear hb hbox hg; have dI := cA4 aA.out))
    refine nW (fun W => Aside0 (W.heap[aN]? = some (.cells #[((rd_T138 l0 aC).f0), ((rd_T138 l0 aC).f1), ((rd_T138 l0 aC).f2), ((rd_T138 l0 aC).f3)] 138 (0, 0))) ∧ Aside0 (Below w.heap.size w W)) ⟨⟨bm aA.out⟩, ⟨bl HB.out⟩⟩ ?_
    intro dA nn_
    replace aA := nn_.1
    replace HB := nn_.2
    clear nn_
    replace aA := aM (blk_drew aA.out)
    replace HB := aM (below_drew1 HB.out)
    refine start_ (n := 36) (S := fun w' => cS4 w' aN (.int .i64 ((rd_T138 l0 aC).f0)) (.int .i64 ((rd_T138 l0 aC).f1)) (.int .i64 ((rd_T138 l0 aC).f2)) (.int .i64 ((rd_T138 l0 aC).f3))) (ds := []) (dn 36 0) (by kernel_rfl) rfl rfl ⟨cI aA.out 0, cI aA.out 1, cI aA.out 2, cI aA.out 3⟩ (fun hHeld => ?_); refine with_tabW spec_TableOk.tab5 spec_TableOk.bits5 (fun HT_ HW_ => ?_)
    generalize dA.drew = dZ at aA HB hHeld ⊢
    refine nY (N := some 15) HT_ ?_
    refine tY (N := some 16) HT_ HW_ hHeld ?_
    refine oN (N := some 17) HT_ (fun K hK => ?_)
    refine goes_ Try.func80 (by kernel_rfl) rfl #[((rd_T138 l0 aC).f0), .int .i64 1, .int .i64 9] (by rfl) rfl rfl xR ?_
    with_reducible refine (spec_l1In.calls ((rd_T138 l0 aC).f0) 1 9 true _ A4.out).mono ?_
    rintro e w' ⟨rfl, ⟨nd, rfl⟩⟩
    refine ⟨_, rfl, ?_⟩
    refine hK.out _ _ ⟨cI aA.out 0, cI aA.out 1, cI aA.out 2, cI aA.out 3⟩ (fun hHeld => ?_)
    clear hK K
    refine norm_ (a' := ?_) ?_ ?_
    rotate_left
    ·show Act.put _ (some 17) _ = _
     simp only [Act.put, sA, sZ, sS, i64_w, i32_w]
     rfl
    refine nY (N := some 18) HT_ ?_
    refine nY (N := some 19) HT_ ?_
    refine nY (N := some 20) HT_ ?_
    refine tY (N := some 21) HT_ HW_ hHeld ?_
    refine oN (N := some 22) HT_ (fun K hK => ?_)
    refine goes_ Try.func80 (by kernel_rfl) rfl #[((rd_T138 l0 aC).f1), .int .i64 1, .int .i64 4] (by rfl) rfl rfl xR ?_
    with_reducible refine (spec_l1In.calls ((rd_T138 l0 aC).f1) 1 4 true _ A6.out).mono ?_
    rintro e w' ⟨rfl, ⟨nd, rfl⟩⟩
    refine ⟨_, rfl, ?_⟩
    refine hK.out _ _ ⟨cI aA.out 0, cI aA.out 1, cI aA.out 2, cI aA.out 3⟩ (fun hHeld => ?_)
    clear hK K
    refine norm_ (a' := ?_) ?_ ?_
    rotate_left
    ·show Act.put _ (some 22) _ = _
     simp only [Act.put, sA, sZ, sS, i64_w, i32_w]
     rfl
    refine nY (N := some 23) HT_ ?_
    refine nY (N := some 24) HT_ ?_
    refine nY (N := some 25) HT_ ?_
    refine nY (N := some 26) HT_ ?_
    refine tY (N := some 27) HT_ HW_ hHeld ?_
    refine oN (N := some 28) HT_ (fun K hK => ?_)
    refine goes_ Try.func80 (by kernel_rfl) rfl #[((rd_T138 l0 aC).f2), .int .i64 0, .int .i64 3] (by rfl) rfl rfl xR ?_
    with_reducible refine (spec_l1In.calls ((rd_T138 l0 aC).f2) 0 3 true _ A8.out).mono ?_
    rintro e w' ⟨rfl, ⟨nd, rfl⟩⟩
    refine ⟨_, rfl, ?_⟩
    refine hK.out _ _ ⟨cI aA.out 0, cI aA.out 1, cI aA.out 2, cI aA.out 3⟩ (fun hHeld => ?_)
    clear hK K
    refine norm_ (a' := ?_) ?_ ?_
    rotate_left
    ·show Act.put _ (some 28) _ = _
     simp only [Act.put, sA, sZ, sS, i64_w, i32_w]
     rfl
    refine nY (N := some 29) HT_ ?_
    refine nY (N := some 30) HT_ ?_
    refine nY (N := some 31) HT_ ?_
    refine nY (N := some 32) HT_ ?_
    refine tY (N := some 33) HT_ HW_ hHeld ?_
    refine oN (N := some 34) HT_ (fun K hK => ?_)
    refine goes_ Try.func80 (by kernel_rfl) rfl #[((rd_T138 l0 aC).f3), .int .i64 1, .int .i64 20] (by rfl) rfl rfl xR ?_
    with_reducible refine (spec_l1In.calls ((rd_T138 l0 aC).f3) 1 20 true _ bU.out).mono ?_
    rintro e w' ⟨rfl, ⟨nd, rfl⟩⟩
    refine ⟨_, rfl, ?_⟩
    refine hK.out _ _ ⟨cI aA.out 0, cI aA.out 1, cI aA.out 2, cI aA.out 3⟩ (fun hHeld => ?_)
    clear hK K
    refine norm_ (a' := ?_) ?_ ?_
    rotate_left
    ·show Act.put _ (some 34) _ = _
     simp only [Act.put, sA, sZ, sS, i64_w, i32_w]
     rfl
    refine nY (N := some 35) HT_ ?_
    refine nY (N := some 36) HT_ ?_
    refine nY (N := some 37) HT_ ?_
    refine nY (N := some 38) HT_ ?_
    refine nY (N := some 39) HT_ ?_
    refine nY (N := some 40) HT_ ?_
    refine nU (N := some 41) HT_ ?_
    refine nU (N := some 42) HT_ ?_
    refine nU (N := some 43) HT_ ?_
    refine nU (N := some 44) HT_ ?_
    refine nU (N := some 45) HT_ ?_
    refine nU (N := some 46) HT_ ?_
    refine nU (N := some 47) HT_ ?_
    refine nU (N := some 48) HT_ ?_
    refine nY (N := some 49) HT_ ?_
    refine nY (N := some 50) HT_ ?_
    refine done_ (done_of HT_.out (by kernel_rfl)) ?_
    try go_wp2
    go_roundg k1
    case measure => have := cC.out; omega
    case rel => exact ⟨(wS aC), xE, H', ⟨by have := cC.out; omega⟩, ⟨bl HB.out⟩⟩
   rw [if_pos bP] at H
   have cK := decide_eq_true bP
   clear bP
   obtain ⟨ji13, hji13⟩ : ∃ j_ : Int, (wrap64 (aC - 1)) = j_ := ⟨_, rfl⟩
   replace H : (if 0 ≤ (ji13) then (if (ji13) < (l0.length : Int) then ((spec_l3Before.f ((rd_T138 l0 (ji13)).f0) ((rd_T138 l0 (ji13)).f1) ((rd_T138 l0 (ji13)).f2) ((rd_T138 l0 (ji13)).f3) ((rd_T138 l0 aC).f0) ((rd_T138 l0 aC).f1) ((rd_T138 l0 aC).f2) ((rd_T138 l0 aC).f3)).bind fun bW => (if bW = true then (spec_TableOk.l0 k1 l0 (wS aC)) else (some false))) else (none)) else (none)) = some r := by first | (rw [hji13] at H; exact H) | (simp only [hji13] at H ⊢; exact H)
   (try rw [hji13] at A4)
   (try rw [hji13] at A6)
   (try rw [hji13] at A8)
   (try rw [hji13] at bU)
   have hji13w : (IntKind.i64.wrap (aC - 1)) = ji13 := (i64_w _).trans hji13
   obtain ⟨dJ, H⟩ := gI H
   obtain ⟨dK, H⟩ := gI H
   obtain ⟨bW, cH, H⟩ := hB H
   have cP := aM cH
   clear cH
   by_cases cE : bW = true
   case neg =>
    replace cE := Bool.eq_false_iff.mpr cE
    subst cE
    replace H := hF H
    obtain rfl := Option.some.inj H
    have aJ : 0 ≤ (aC : Int) := dT
    have aK : aC < (l0.length : Int) := dT
    obtain ⟨aI, bJ, aD, aE, aG, aH⟩ := at_T138 bO.out aC aJ aK
    cases bJ
    replace aD := xB HB aD
    replace aE := xB HB aE
    replace aG := xB HB aG
    replace aH := xB HB aH
    replace aJ := eq_true aJ
    replace aK := eq_true aK
    try go_wp2_with (first | ((with_reducible refine gD (N := 4) rfl ?_); refine bE (N := 4) (cs := #[.int .i64 0, .int .i64 0, .int .i64 0, .int .i64 0]) (t := 138) ?_; intro aN hg eA hbox hb; have aA := aM (hbox); have bK := gF hg HB; have bL := gF hg HB; replace HB := rS HB hb; clear hb hbox hg; have dL := cA4 aA.out))
    refine nW (fun W => Aside0 (W.heap[aN]? = some (.cells #[((rd_T138 l0 aC).f0), ((rd_T138 l0 aC).f1), ((rd_T138 l0 aC).f2), ((rd_T138 l0 aC).f3)] 138 (0, 0))) ∧ Aside0 (Below w.heap.size w W)) ⟨⟨bm aA.out⟩, ⟨bl HB.out⟩⟩ ?_
    intro dB nn_
    replace aA := nn_.1
    replace HB := nn_.2
    clear nn_
    replace aA := aM (blk_drew aA.out)
    replace HB := aM (below_drew1 HB.out)
    have bM : 0 ≤ ((ji13) : Int) := dT
    have bN : (ji13) < (l0.length : Int) := dT
    obtain ⟨bQ, cA, aX, bA, bD, bI⟩ := at_T138 bO.out (ji13) bM bN
    have aQ := bI
    have aT := bD
    have aV := bA
    have aW := aX
    obtain rfl : aI = bQ := (by injection cA)
    replace aX := xB HB aX
    replace bA := xB HB bA
    replace bD := xB HB bD
    replace bI := xB HB bI
    replace bM := eq_true bM
    replace bN := eq_true bN
    refine start_ (n := 36) (S := fun w' => cT4 w' aN (.int .i64 ((rd_T138 l0 aC).f0)) (.int .i64 ((rd_T138 l0 aC).f1)) (.int .i64 ((rd_T138 l0 aC).f2)) (.int .i64 ((rd_T138 l0 aC).f3)) (w'.cell? (aI.add (((ji13)).toNat * 4)) = some ((rd_T138 l0 (ji13)).f0) ∧ w'.cell? ⟨(aI.add (((ji13)).toNat * 4)).block, (aI.add (((ji13)).toNat * 4)).off + 1, none⟩ = some ((rd_T138 l0 (ji13)).f1) ∧ w'.cell? ⟨(aI.add (((ji13)).toNat * 4)).block, (aI.add (((ji13)).toNat * 4)).off + 2, none⟩ = some ((rd_T138 l0 (ji13)).f2) ∧ w'.cell? ⟨(aI.add (((ji13)).toNat * 4)).block, (aI.add (((ji13)).toNat * 4)).off + 3, none⟩ = some ((rd_T138 l0 (ji13)).f3))) (ds := []) (dn 36 0) (by kernel_rfl) rfl rfl ⟨cI aA.out 0, cI aA.out 1, cI aA.out 2, cI aA.out 3, (xB HB aW :), (xB HB aV :), (xB HB aT :), (xB HB aQ :)⟩ (fun hHeld => ?_); refine with_tabW spec_TableOk.tab5 spec_TableOk.bits5 (fun HT_ HW_ => ?_)
    generalize dB.drew = eB at aA HB aX bA bD bI hHeld ⊢
    refine nY (N := some 15) HT_ ?_
    refine tY (N := some 16) HT_ HW_ hHeld ?_
    refine oN (N := some 17) HT_ (fun K hK => ?_)
    refine goes_ Try.func80 (by kernel_rfl) rfl #[((rd_T138 l0 aC).f0), .int .i64 1, .int .i64 9] (by rfl) rfl rfl xR ?_
    with_reducible refine (spec_l1In.calls ((rd_T138 l0 aC).f0) 1 9 true _ A4.out).mono ?_
    rintro e w' ⟨rfl, ⟨nd, rfl⟩⟩
    refine ⟨_, rfl, ?_⟩
    refine hK.out _ _ ⟨cI aA.out 0, cI aA.out 1, cI aA.out 2, cI aA.out 3, (xB HB aW :), (xB HB aV :), (xB HB aT :), (xB HB aQ :)⟩ (fun hHeld => ?_)
    clear hK K
    refine norm_ (a' := ?_) ?_ ?_
    rotate_left
    ·show Act.put _ (some 17) _ = _
     simp only [Act.put, sA, sZ, sS, i64_w, i32_w]
     rfl
    refine nY (N := some 18) HT_ ?_
    refine nY (N := some 19) HT_ ?_
    refine nY (N := some 20) HT_ ?_
    refine tY (N := some 21) HT_ HW_ hHeld ?_
    refine oN (N := some 22) HT_ (fun K hK => ?_)
    refine goes_ Try.func80 (by kernel_rfl) rfl #[((rd_T138 l0 aC).f1), .int .i64 1, .int .i64 4] (by rfl) rfl rfl xR ?_
    with_reducible refine (spec_l1In.calls ((rd_T138 l0 aC).f1) 1 4 true _ A6.out).mono ?_
    rintro e w' ⟨rfl, ⟨nd, rfl⟩⟩
    refine ⟨_, rfl, ?_⟩
    refine hK.out _ _ ⟨cI aA.out 0, cI aA.out 1, cI aA.out 2, cI aA.out 3, (xB HB aW :), (xB HB aV :), (xB HB aT :), (xB HB aQ :)⟩ (fun hHeld => ?_)
    clear hK K
    refine norm_ (a' := ?_) ?_ ?_
    rotate_left
    ·show Act.put _ (some 22) _ = _
     simp only [Act.put, sA, sZ, sS, i64_w, i32_w]
     rfl
    refine nY (N := some 23) HT_ ?_
    refine nY (N := some 24) HT_ ?_
    refine nY (N := some 25) HT_ ?_
    refine nY (N := some 26) HT_ ?_
    refine tY (N := some 27) HT_ HW_ hHeld ?_
    refine oN (N := some 28) HT_ (fun K hK => ?_)
    refine goes_ Try.func80 (by kernel_rfl) rfl #[((rd_T138 l0 aC).f2), .int .i64 0, .int .i64 3] (by rfl) rfl rfl xR ?_
    with_reducible refine (spec_l1In.calls ((rd_T138 l0 aC).f2) 0 3 true _ A8.out).mono ?_
    rintro e w' ⟨rfl, ⟨nd, rfl⟩⟩
    refine ⟨_, rfl, ?_⟩
    refine hK.out _ _ ⟨cI aA.out 0, cI aA.out 1, cI aA.out 2, cI aA.out 3, (xB HB aW :), (xB HB aV :), (xB HB aT :), (xB HB aQ :)⟩ (fun hHeld => ?_)
    clear hK K
    refine norm_ (a' := ?_) ?_ ?_
    rotate_left
    ·show Act.put _ (some 28) _ = _
     simp only [Act.put, sA, sZ, sS, i64_w, i32_w]
     rfl
    refine nY (N := some 29) HT_ ?_
    refine nY (N := some 30) HT_ ?_
    refine nY (N := some 31) HT_ ?_
    refine nY (N := some 32) HT_ ?_
    refine tY (N := some 33) HT_ HW_ hHeld ?_
    refine oN (N := some 34) HT_ (fun K hK => ?_)
    refine goes_ Try.func80 (by kernel_rfl) rfl #[((rd_T138 l0 aC).f3), .int .i64 1, .int .i64 20] (by rfl) rfl rfl xR ?_
    with_reducible refine (spec_l1In.calls ((rd_T138 l0 aC).f3) 1 20 true _ bU.out).mono ?_
    rintro e w' ⟨rfl, ⟨nd, rfl⟩⟩
    refine ⟨_, rfl, ?_⟩
    refine hK.out _ _ ⟨cI aA.out 0, cI aA.out 1, cI aA.out 2, cI aA.out 3, (xB HB aW :), (xB HB aV :), (xB HB aT :), (xB HB aQ :)⟩ (fun hHeld => ?_)
    clear hK K
    refine norm_ (a' := ?_) ?_ ?_
    rotate_left
    ·show Act.put _ (some 34) _ = _
     simp only [Act.put, sA, sZ, sS, i64_w, i32_w]
     rfl
    refine nY (N := some 35) HT_ ?_
    refine nY (N := some 36) HT_ ?_
    refine nY (N := some 37) HT_ ?_
    refine nY (N := some 38) HT_ ?_
    refine nY (N := some 39) HT_ ?_
    refine nY (N := some 40) HT_ ?_
    refine nY (N := some 41) HT_ ?_
    refine nY (N := some 42) HT_ ?_
    refine nY (N := some 43) HT_ ?_
    refine nY (N := some 44) HT_ ?_
    refine tY (N := some 45) HT_ HW_ hHeld ?_
    refine tY (N := some 46) HT_ HW_ hHeld ?_
    refine oN (N := some 47) HT_ (fun K hK => ?_)
    refine goes_ Try.func168 (by kernel_rfl) rfl #[.agg #[((rd_T138 l0 (ji13)).f0), ((rd_T138 l0 (ji13)).f1), ((rd_T138 l0 (ji13)).f2), ((rd_T138 l0 (ji13)).f3)], .agg #[((rd_T138 l0 aC).f0), ((rd_T138 l0 aC).f1), ((rd_T138 l0 aC).f2), ((rd_T138 l0 aC).f3)]] (by rfl) rfl rfl (by (try simp only [List.map_toArray, List.map_cons, List.map_nil]); first | done | (simp only [hji13]; rfl) | rfl | (simp only [List.length_drop, List.length_take]; rfl)) ?_
    with_reducible refine (spec_l3Before.calls ((rd_T138 l0 (ji13)).f0) ((rd_T138 l0 (ji13)).f1) ((rd_T138 l0 (ji13)).f2) ((rd_T138 l0 (ji13)).f3) ((rd_T138 l0 aC).f0) ((rd_T138 l0 aC).f1) ((rd_T138 l0 aC).f2) ((rd_T138 l0 aC).f3) false _ cP.out).mono ?_
    rintro e eC ⟨rfl, hb⟩
    refine ⟨_, rfl, ?_⟩
    replace aA := rB aA hb
    replace HB := rS HB hb
    (try clear hb)
    (try clear hb2)
    (try clear hk)
    (try clear hi)
    refine hK.out _ _ ⟨cI aA.out 0, cI aA.out 1, cI aA.out 2, cI aA.out 3, (xB HB aW :), (xB HB aV :), (xB HB aT :), (xB HB aQ :)⟩ (fun hHeld => ?_)
    clear hK K
    refine norm_ (a' := ?_) ?_ ?_
    rotate_left
    ·show Act.put _ (some 47) _ = _
     simp only [Act.put, sA, sZ, sS, i64_w, i32_w]
     rfl
    refine nY (N := some 48) HT_ ?_
    refine nY (N := some 49) HT_ ?_
    refine nY (N := some 50) HT_ ?_
    refine done_ (done_of HT_.out (by kernel_rfl)) ?_
    try go_wp2
    go_ret
    exact ⟨by first | rfl | (simp [errW_none, errW_some] <;> rfl) | (simp only [← hji13]; first | rfl | (simp [errW_none, errW_some] <;> rfl)) | (simp [*, errW_none, errW_some] <;> rfl), bl HB.out⟩
   subst cE
   replace H := hP H rfl
   have H' := aM H
   clear H
   have aJ : 0 ≤ (aC : Int) := dT
   have aK : aC < (l0.length : Int) := dT
   obtain ⟨aI, bJ, aD, aE, aG, aH⟩ := at_T138 bO.out aC aJ aK
   cases bJ
   replace aD := xB HB aD
   replace aE := xB HB aE
   replace aG := xB HB aG
   replace aH := xB HB aH
   replace aJ := eq_true aJ
   replace aK := eq_true aK
   try go_wp2_with (first | ((with_reducible refine gD (N := 4) rfl ?_); refine bE (N := 4) (cs := #[.int .i64 0, .int .i64 0, .int .i64 0, .int .i64 0]) (t := 138) ?_; intro aN hg eD hbox hb; have aA := aM (hbox); have bK := gF hg HB; have bL := gF hg HB; replace HB := rS HB hb; clear hb hbox hg; have dM := cA4 aA.out))
   refine nW (fun W => Aside0 (W.heap[aN]? = some (.cells #[((rd_T138 l0 aC).f0), ((rd_T138 l0 aC).f1), ((rd_T138 l0 aC).f2), ((rd_T138 l0 aC).f3)] 138 (0, 0))) ∧ Aside0 (Below w.heap.size w W)) ⟨⟨bm aA.out⟩, ⟨bl HB.out⟩⟩ ?_
   intro dC nn_
   replace aA := nn_.1
   replace HB := nn_.2
   clear nn_
   replace aA := aM (blk_drew aA.out)
   replace HB := aM (below_drew1 HB.out)
   have bM : 0 ≤ ((ji13) : Int) := dT
   have bN : (ji13) < (l0.length : Int) := dT
   obtain ⟨bQ, cA, aX, bA, bD, bI⟩ := at_T138 bO.out (ji13) bM bN
   have aQ := bI
   have aT := bD
   have aV := bA
   have aW := aX
   obtain rfl : aI = bQ := (by injection cA)
   replace aX := xB HB aX
   replace bA := xB HB bA
   replace bD := xB HB bD
   replace bI := xB HB bI
   replace bM := eq_true bM
   replace bN := eq_true bN
   refine start_ (n := 36) (S := fun w' => cT4 w' aN (.int .i64 ((rd_T138 l0 aC).f0)) (.int .i64 ((rd_T138 l0 aC).f1)) (.int .i64 ((rd_T138 l0 aC).f2)) (.int .i64 ((rd_T138 l0 aC).f3)) (w'.cell? (aI.add (((ji13)).toNat * 4)) = some ((rd_T138 l0 (ji13)).f0) ∧ w'.cell? ⟨(aI.add (((ji13)).toNat * 4)).block, (aI.add (((ji13)).toNat * 4)).off + 1, none⟩ = some ((rd_T138 l0 (ji13)).f1) ∧ w'.cell? ⟨(aI.add (((ji13)).toNat * 4)).block, (aI.add (((ji13)).toNat * 4)).off + 2, none⟩ = some ((rd_T138 l0 (ji13)).f2) ∧ w'.cell? ⟨(aI.add (((ji13)).toNat * 4)).block, (aI.add (((ji13)).toNat * 4)).off + 3, none⟩ = some ((rd_T138 l0 (ji13)).f3))) (ds := []) (dn 36 0) (by kernel_rfl) rfl rfl ⟨cI aA.out 0, cI aA.out 1, cI aA.out 2, cI aA.out 3, (xB HB aW :), (xB HB aV :), (xB HB aT :), (xB HB aQ :)⟩ (fun hHeld => ?_); refine with_tabW spec_TableOk.tab5 spec_TableOk.bits5 (fun HT_ HW_ => ?_)
   generalize dC.drew = eE at aA HB aX bA bD bI hHeld ⊢
   refine nY (N := some 15) HT_ ?_
   refine tY (N := some 16) HT_ HW_ hHeld ?_
   refine oN (N := some 17) HT_ (fun K hK => ?_)
   refine goes_ Try.func80 (by kernel_rfl) rfl #[((rd_T138 l0 aC).f0), .int .i64 1, .int .i64 9] (by rfl) rfl rfl xR ?_
   with_reducible refine (spec_l1In.calls ((rd_T138 l0 aC).f0) 1 9 true _ A4.out).mono ?_
   rintro e w' ⟨rfl, ⟨nd, rfl⟩⟩
   refine ⟨_, rfl, ?_⟩
   refine hK.out _ _ ⟨cI aA.out 0, cI aA.out 1, cI aA.out 2, cI aA.out 3, (xB HB aW :), (xB HB aV :), (xB HB aT :), (xB HB aQ :)⟩ (fun hHeld => ?_)
   clear hK K
   refine norm_ (a' := ?_) ?_ ?_
   rotate_left
   ·show Act.put _ (some 17) _ = _
    simp only [Act.put, sA, sZ, sS, i64_w, i32_w]
    rfl
   refine nY (N := some 18) HT_ ?_
   refine nY (N := some 19) HT_ ?_
   refine nY (N := some 20) HT_ ?_
   refine tY (N := some 21) HT_ HW_ hHeld ?_
   refine oN (N := some 22) HT_ (fun K hK => ?_)
   refine goes_ Try.func80 (by kernel_rfl) rfl #[((rd_T138 l0 aC).f1), .int .i64 1, .int .i64 4] (by rfl) rfl rfl xR ?_
   with_reducible refine (spec_l1In.calls ((rd_T138 l0 aC).f1) 1 4 true _ A6.out).mono ?_
   rintro e w' ⟨rfl, ⟨nd, rfl⟩⟩
   refine ⟨_, rfl, ?_⟩
   refine hK.out _ _ ⟨cI aA.out 0, cI aA.out 1, cI aA.out 2, cI aA.out 3, (xB HB aW :), (xB HB aV :), (xB HB aT :), (xB HB aQ :)⟩ (fun hHeld => ?_)
   clear hK K
   refine norm_ (a' := ?_) ?_ ?_
   rotate_left
   ·show Act.put _ (some 22) _ = _
    simp only [Act.put, sA, sZ, sS, i64_w, i32_w]
    rfl
   refine nY (N := some 23) HT_ ?_
   refine nY (N := some 24) HT_ ?_
   refine nY (N := some 25) HT_ ?_
   refine nY (N := some 26) HT_ ?_
   refine tY (N := some 27) HT_ HW_ hHeld ?_
   refine oN (N := some 28) HT_ (fun K hK => ?_)
   refine goes_ Try.func80 (by kernel_rfl) rfl #[((rd_T138 l0 aC).f2), .int .i64 0, .int .i64 3] (by rfl) rfl rfl xR ?_
   with_reducible refine (spec_l1In.calls ((rd_T138 l0 aC).f2) 0 3 true _ A8.out).mono ?_
   rintro e w' ⟨rfl, ⟨nd, rfl⟩⟩
   refine ⟨_, rfl, ?_⟩
   refine hK.out _ _ ⟨cI aA.out 0, cI aA.out 1, cI aA.out 2, cI aA.out 3, (xB HB aW :), (xB HB aV :), (xB HB aT :), (xB HB aQ :)⟩ (fun hHeld => ?_)
   clear hK K
   refine norm_ (a' := ?_) ?_ ?_
   rotate_left
   ·show Act.put _ (some 28) _ = _
    simp only [Act.put, sA, sZ, sS, i64_w, i32_w]
    rfl
   refine nY (N := some 29) HT_ ?_
   refine nY (N := some 30) HT_ ?_
   refine nY (N := some 31) HT_ ?_
   refine nY (N := some 32) HT_ ?_
   refine tY (N := some 33) HT_ HW_ hHeld ?_
   refine oN (N := some 34) HT_ (fun K hK => ?_)
   refine goes_ Try.func80 (by kernel_rfl) rfl #[((rd_T138 l0 aC).f3), .int .i64 1, .int .i64 20] (by rfl) rfl rfl xR ?_
   with_reducible refine (spec_l1In.calls ((rd_T138 l0 aC).f3) 1 20 true _ bU.out).mono ?_
   rintro e w' ⟨rfl, ⟨nd, rfl⟩⟩
   refine ⟨_, rfl, ?_⟩
   refine hK.out _ _ ⟨cI aA.out 0, cI aA.out 1, cI aA.out 2, cI aA.out 3, (xB HB aW :), (xB HB aV :), (xB HB aT :), (xB HB aQ :)⟩ (fun hHeld => ?_)
   clear hK K
   refine norm_ (a' := ?_) ?_ ?_
   rotate_left
   ·show Act.put _ (some 34) _ = _
    simp only [Act.put, sA, sZ, sS, i64_w, i32_w]
    rfl
   refine nY (N := some 35) HT_ ?_
   refine nY (N := some 36) HT_ ?_
   refine nY (N := some 37) HT_ ?_
   refine nY (N := some 38) HT_ ?_
   refine nY (N := some 39) HT_ ?_
   refine nY (N := some 40) HT_ ?_
   refine nY (N := some 41) HT_ ?_
   refine nY (N := some 42) HT_ ?_
   refine nY (N := some 43) HT_ ?_
   refine nY (N := some 44) HT_ ?_
   refine tY (N := some 45) HT_ HW_ hHeld ?_
   refine tY (N := some 46) HT_ HW_ hHeld ?_
   refine oN (N := some 47) HT_ (fun K hK => ?_)
   refine goes_ Try.func168 (by kernel_rfl) rfl #[.agg #[((rd_T138 l0 (ji13)).f0), ((rd_T138 l0 (ji13)).f1), ((rd_T138 l0 (ji13)).f2), ((rd_T138 l0 (ji13)).f3)], .agg #[((rd_T138 l0 aC).f0), ((rd_T138 l0 aC).f1), ((rd_T138 l0 aC).f2), ((rd_T138 l0 aC).f3)]] (by rfl) rfl rfl (by (try simp only [List.map_toArray, List.map_cons, List.map_nil]); first | done | (simp only [hji13]; rfl) | rfl | (simp only [List.length_drop, List.length_take]; rfl)) ?_
   with_reducible refine (spec_l3Before.calls ((rd_T138 l0 (ji13)).f0) ((rd_T138 l0 (ji13)).f1) ((rd_T138 l0 (ji13)).f2) ((rd_T138 l0 (ji13)).f3) ((rd_T138 l0 aC).f0) ((rd_T138 l0 aC).f1) ((rd_T138 l0 aC).f2) ((rd_T138 l0 aC).f3) true _ cP.out).mono ?_
   rintro e eF ⟨rfl, hb⟩
   refine ⟨_, rfl, ?_⟩
   replace aA := rB aA hb
   replace HB := rS HB hb
   (try clear hb)
   (try clear hb2)
   (try clear hk)
   (try clear hi)
   refine hK.out _ _ ⟨cI aA.out 0, cI aA.out 1, cI aA.out 2, cI aA.out 3, (xB HB aW :), (xB HB aV :), (xB HB aT :), (xB HB aQ :)⟩ (fun hHeld => ?_)
   clear hK K
   refine norm_ (a' := ?_) ?_ ?_
   rotate_left
   ·show Act.put _ (some 47) _ = _
    simp only [Act.put, sA, sZ, sS, i64_w, i32_w]
    rfl
   refine nY (N := some 48) HT_ ?_
   refine nY (N := some 49) HT_ ?_
   refine nY (N := some 50) HT_ ?_
   refine done_ (done_of HT_.out (by kernel_rfl)) ?_
   try go_wp2
   go_roundg k1
   case measure => have := cC.out; omega
   case rel => exact ⟨(wS aC), xE, H', ⟨by have := cC.out; omega⟩, ⟨bl HB.out⟩⟩

end Go.Proofs.Ythmijfekdeagpaa.PFnExactGate

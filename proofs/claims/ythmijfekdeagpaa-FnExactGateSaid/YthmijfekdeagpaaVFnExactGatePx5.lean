/- A part of the proof of laws.FnExactGate. No condition beyond what its theorems say. -/
import Derived.Test.YthmijfekdeagpaaVFnExactGatePx3
import Derived.Test.YthmijfekdeagpaaVFnExactGatePx4
namespace Go.Proofs.Ythmijfekdeagpaa.PFnExactGate
open Go.RowKit Go.Proofs.YthmijfekdeagpaaW.PrintWords Go.Proofs.YthmijfekdeagpaaW.PrintLast Go.Proofs.YthmijfekdeagpaaW.PrintMore
set_option linter.unusedVariables false
set_option linter.unusedSimpArgs false

def spec_Forget.l0 : Nat → List (S138) → Int → List (S138) → Int → Option ((List (S138)))
 | 0, _, _, _, _ => none
 | k + 1, x0, x1, x5, x6 => if x6 < (x0.length : Int) then (if 0 ≤ x6 then (if ((rd_T138 x0 x6).f2) = x1 then (spec_Forget.l0 k x0 x1 x5 (wrap64 (x6 + 1))) else (if x5.length < 4398046511104 then (spec_Forget.l0 k x0 x1 (x5 ++ [(⟨(rd_T138 x0 x6).f0, (rd_T138 x0 x6).f1, (rd_T138 x0 x6).f2, (rd_T138 x0 x6).f3⟩ : S138)]) (wrap64 (x6 + 1))) else (none))) else (none)) else (some x5)
def spec_Forget.f (k : Nat) (l0 : List (S138)) (a1 : Int) : Option ((List (S138))) := spec_Forget.l0 k l0 a1 (([] : List (S138))) 0
theorem spec_Forget.mono_l : ∀ k, (∀ y0 y1 y2 y3, LeO (spec_Forget.l0 k y0 y1 y2 y3) (spec_Forget.l0 (k + 1) y0 y1 y2 y3))
 | 0 => fun _ _ _ _ r h => by simp [spec_Forget.l0] at h
 | k + 1 => by
  have ih0 := spec_Forget.mono_l k
  ·intro y0 y1 y2 y3
   unfold spec_Forget.l0
   repeat' first|(with_reducible first|apply ih0|exact lR _|exact lN _|refine lI ?_ ?_|refine lB ?_ fun _ => ?_)|exact lN _|refine lI ?_ ?_|refine lB ?_ fun _ => ?_
theorem spec_Forget.mono : ∀ a0 a1 k, LeO (spec_Forget.f k a0 a1) (spec_Forget.f (k + 1) a0 a1) := by
 intro a0 a1 k
 have ih0 := spec_Forget.mono_l k
 unfold spec_Forget.f
 repeat' first|(with_reducible first|apply ih0|exact lR _|exact lN _|refine lI ?_ ?_|refine lB ?_ fun _ => ?_)|exact lN _|refine lI ?_ ?_|refine lB ?_ fun _ => ?_
set_option maxHeartbeats 60000000 in
set_option maxRecDepth 100000 in
theorem spec_Forget.calls (k : Nat) (A0 : Option Addr) (c0 : Nat) (l0 : List (S138)) (a1 : Int) (r : List (S138)) (w : World) (hr0 : Kd.C k138 w A0 l0.length l0) (hc0 : l0.length ≤ c0) (h : spec_Forget.f k l0 a1 = some r) :
  Calls Try.prog 81 #[.slice A0 l0.length c0, a1] w fun e w' => ∃ cA : Value, e = .returned (cA) ∧ Kd.R k138 138 w' w.heap.size (fun _ => True) cA r ∧ Below w.heap.size w w' := by
 have cH := Try.underlying138
 have bM := aM hr0
 have cO := aM hc0
 clear hr0 hc0
 have HB := aM (Below.refl w.heap.size w)
 have H : (spec_Forget.l0 k l0 a1 (([] : List (S138))) 0) = some r := h
 clear h
 obtain ⟨bN, aK⟩ : ∃ y_ : List (S138), y_ = (([] : List (S138))) := ⟨_, rfl⟩
 replace H : (spec_Forget.l0 k l0 a1 bN 0) = some r := by first | (rw [aK]; with_reducible exact H) | (have H2_ := (Option.bind_some _ _).symm.trans H; rw [aK]; with_reducible exact H2_) | (have H2_ := (Option.bind_some _ _).symm.trans H; with_reducible exact H2_) | with_reducible exact H | (rw [aK]; exact H) | exact H
 have bJ := aM aK
 clear aK
 have H' := aM H
 clear H
 go_enter Try.func81, Try.ntmps81
 go_wp2_with (first | ((with_reducible refine gD (N := 7) rfl ?_); refine Kd.R_lit k138 _ 138 ?hg (N := 7) ?hd (xs := ([] : List (S138))) (inner := []) (ok := fun _ => True) (okp := fun _ => True) ?hr ?hp (fun _ hk => hk) trivial (Below.refl _ _) (Nat.le_refl _) (by simp) ?_; (case hd => rfl); (case hg => rfl); (case hr => first | (go_simp; done) | (go_simp; rfl)); (case hp => exact (Reps.none _ _)); intro cK w3 ho4 hb hg_ hnew_; clear hg_ hnew_; (first | rw [← bJ.out] at ho4 | (simp only [Int.reduceToNat] at ho4; rw [← bJ.out] at ho4)); have bP := aM (Kd.R_lower ho4 (below_size (bl HB.out))); replace HB := rS HB hb; clear hb ho4))
 go_loopg [5, 6] k (fun kq v5 v6 w' => ∃ (aH : List (S138)) (aA : Int), v6 = .int .i64 aA ∧ Aside0 (spec_Forget.l0 kq l0 a1 aH aA = some r) ∧ Aside0 (kq ≤ k) ∧ Aside0 (Kd.R k138 138 w' w.heap.size (fun _ => True) v5 aH) ∧ Aside0 (Below w.heap.size w w'))
 case atStart => exact ⟨(bN), (0), xE, H', ⟨Nat.le_refl _⟩, ⟨kr bP.out⟩, ⟨bl HB.out⟩⟩
 case round =>
  clear H'
  try clear p2
  obtain ⟨aH, aA, rfl, HA, bK, aX, HB⟩ := hrel
  cases gk with
  | zero => exact absurd HA.out (by simp [spec_Forget.l0])
  | succ k1 =>
   have H := HA.out
   clear HA
   simp only [spec_Forget.l0] at H
   by_cases c5 : aA < (l0.length : Int)
   case neg =>
    rw [if_neg c5] at H
    have cC := decide_eq_false c5
    clear c5
    obtain rfl := Option.some.inj H
    go_wp2
    go_ret
    exact ⟨_, xW, by (with_reducible repeat (first | apply Kd.R_alloc | apply Kd.R_drewN | apply Kd.R_drew)); exact aX.out, bl HB.out⟩
   rw [if_pos c5] at H
   have cC := decide_eq_true c5
   clear c5
   obtain ⟨cL, H⟩ := gI H
   by_cases c7 : ((rd_T138 l0 aA).f2) = a1
   case pos =>
    rw [if_pos c7] at H
    have cD : (((rd_T138 l0 aA).f2) == a1) = true := beq_iff_eq.mpr c7
    have cE : (((rd_T138 l0 aA).f2) != a1) = false := bne_eq_false_iff_eq.mpr c7
    clear c7
    have H' := aM H
    clear H
    have aI : 0 ≤ (aA : Int) := dT
    have aJ : aA < (l0.length : Int) := dT
    obtain ⟨bL, bA, aC, aD, aE, aG⟩ := at_T138 bM.out aA aI aJ
    cases bA
    replace aC := xB HB aC
    replace aD := xB HB aD
    replace aE := xB HB aE
    replace aG := xB HB aG
    replace aI := eq_true aI
    replace aJ := eq_true aJ
    go_wp2
    go_roundg k1
    case measure => have := bK.out; omega
    case rel => exact ⟨(aH), (wS aA), xE, H', ⟨by have := bK.out; omega⟩, ⟨kr aX.out⟩, ⟨bl HB.out⟩⟩
   rw [if_neg c7] at H
   have cD : (((rd_T138 l0 aA).f2) == a1) = false := beq_eq_false_iff_ne.mpr c7
   have cE : (((rd_T138 l0 aA).f2) != a1) = true := bne_iff_ne.mpr c7
   by_cases c8 : aH.length < 4398046511104
   case neg =>
    rw [if_neg c8] at H
    exact absurd H (by simp)
   rw [if_pos c8] at H
   have LMc8 := aM c8
   clear c8
   obtain ⟨bO, aN⟩ : ∃ y_ : List (S138), y_ = (aH ++ [(⟨(rd_T138 l0 aA).f0, (rd_T138 l0 aA).f1, (rd_T138 l0 aA).f2, (rd_T138 l0 aA).f3⟩ : S138)]) := ⟨_, rfl⟩
   replace H : (spec_Forget.l0 k1 l0 a1 bO (wS aA)) = some r := by first | (rw [aN]; with_reducible exact H) | (have H2_ := (Option.bind_some _ _).symm.trans H; rw [aN]; with_reducible exact H2_) | (have H2_ := (Option.bind_some _ _).symm.trans H; with_reducible exact H2_) | with_reducible exact H | (rw [aN]; exact H) | exact H
   have bQ := aM aN
   clear aN
   have H' := aM H
   clear H
   have aI : 0 ≤ (aA : Int) := dT
   have aJ : aA < (l0.length : Int) := dT
   obtain ⟨bL, bA, aC, aD, aE, aG⟩ := at_T138 bM.out aA aI aJ
   cases bA
   replace aC := xB HB aC
   replace aD := xB HB aD
   replace aE := xB HB aE
   replace aG := xB HB aG
   replace aI := eq_true aI
   replace aJ := eq_true aJ
   have bD : 0 ≤ (aA : Int) := dT
   have bI : aA < (l0.length : Int) := dT
   obtain ⟨bU, cG, aQ, aT, aV, aW⟩ := at_T138 bM.out aA bD bI
   obtain rfl : bL = bU := (by injection cG)
   replace aQ := xB HB aQ
   replace aT := xB HB aT
   replace aV := xB HB aV
   replace aW := xB HB aW
   replace bD := eq_true bD
   replace bI := eq_true bI
   go_wp2_with (first | ((with_reducible refine gate_builtin (b := .append) (xs := #[.tmp 21, .tmp 26]) rfl ?_); at_builtin; refine Kd.R_append k138 (w0 := w) w.heap.size rfl (.tmp 21) (.tmp 26) 41 138 (.agg #[(.int .i64 0), (.int .i64 0), (.int .i64 0), (.int .i64 0)]) 32 rfl Try.underlying41 info138 rfl (by decide) (by omega) u5 aH (⟨(rd_T138 l0 aA).f0, (rd_T138 l0 aA).f1, (rd_T138 l0 aA).f2, (rd_T138 l0 aA).f3⟩ : S138) [.int .i64 ((rd_T138 l0 aA).f0), .int .i64 ((rd_T138 l0 aA).f1), .int .i64 ((rd_T138 l0 aA).f2), .int .i64 ((rd_T138 l0 aA).f3)] (fun _ => True) (fun _ => False) rfl rfl ?aP (fun _ hk => hk.elim) ?aF ?aO ?aB ?aS ?aL ?_; (case aP => exact k138_mkM _ _ _ (⟨(rd_T138 l0 aA).f0, (rd_T138 l0 aA).f1, (rd_T138 l0 aA).f2, (rd_T138 l0 aA).f3⟩ : S138)); (case aB => exact (bl HB.out)); (case aF => exact (fun _ _ => trivial)); (case aO => exact (kr aX.out)); (case aS => exact (below_size (bl HB.out))); (case aL => have := LMc8.out; omega); intro cN w9 ho hb hg hat; rw [← bQ.out] at ho; have bW := aM (ho); replace HB := aM (hb); clear aX; clear ho hb hg hat))
   go_roundg k1
   case measure => have := bK.out; omega
   case rel => exact ⟨(bO), (wS aA), xE, H', ⟨by have := bK.out; omega⟩, ⟨kr bW.out⟩, ⟨bl HB.out⟩⟩

def spec_Gate.f (k : Nat) (aC : List Bool) (aE : List (S63)) (aD : List (S138)) (a1 : Int) (a2 : Bool) : Option (List Bool × (List (S63)) × (List (S138))) := (spec_l5Copy.f k aC aE aD).bind fun aA => ((spec_CardOk.f k aC aE aD).bind fun aG => (if aG = true then ((spec_l1In.f a1 0 (wrap64 ((aC.length : Int) - 1))).bind fun aH => (if aH = true then (if 0 ≤ a1 then (if a1 < (aC.length : Int) then (if ((rdOf false aC a1) == a2) = true then (some (aA.1, aA.2.1, aA.2.2)) else (if a1 < (aA.1.length : Int) then ((spec_Forget.f k aD a1).bind fun aI => (some ((aA.1.set (a1 : Int).toNat a2), aA.2.1, aI))) else (none))) else (none)) else (none)) else (some (aA.1, aA.2.1, aA.2.2)))) else (some (aA.1, aA.2.1, aA.2.2))))
theorem spec_Gate.mono : ∀ a0 a1 a2 a3 a4 k, LeO (spec_Gate.f k a0 a1 a2 a3 a4) (spec_Gate.f (k + 1) a0 a1 a2 a3 a4) := by
 intro a0 a1 a2 a3 a4 k
 unfold spec_Gate.f
 repeat' first|(with_reducible first|apply spec_CardOk.mono|apply spec_Forget.mono|apply spec_l5Copy.mono|exact lR _|exact lN _|refine lI ?_ ?_|refine lB ?_ fun _ => ?_)|exact lN _|refine lI ?_ ?_|refine lB ?_ fun _ => ?_
set_option maxHeartbeats 60000000 in
set_option maxRecDepth 100000 in
theorem spec_Gate.calls (k : Nat) (bO : Option Addr) (bP : Nat) (aK : List Bool) (bQ : Option Addr) (bU : Nat) (aW : List (S63)) (bM : Option Addr) (bN : Nat) (aV : List (S138)) (a1 : Int) (a2 : Bool) (r1 : List Bool) (r2 : List (S63)) (r3 : List (S138)) (w : World) (hr0_0 : Kd.C Kd.bool w bO aK.length aK) (hc0_0 : aK.length ≤ bP) (hr0_1 : Kd.C k63 w bQ aW.length aW) (hc0_1 : aW.length ≤ bU) (hr0_2 : Kd.C k138 w bM aV.length aV) (hc0_2 : aV.length ≤ bN) (h : spec_Gate.f k aK aW aV a1 a2 = some (r1, r2, r3)) :
  Calls Try.prog 20 #[.agg #[.slice bO aK.length bP, .slice bQ aW.length bU, .slice bM aV.length bN], a1, a2] w fun e w' => ∃ fF fG fH : Value, e = .returned (.agg #[fF, fG, fH]) ∧ Kd.R Kd.bool 4 w' w.heap.size (fun _ => True) fF r1 ∧ Kd.S k63 63 w' w.heap.size (fun _ => True) fG r2 ∧ Kd.R k138 138 w' w.heap.size (fun _ => True) fH r3 ∧ Below w.heap.size w w' := by
 have jH := Try.underlying43
 have cA := aM hr0_0
 have cK := aM hc0_0
 clear hr0_0 hc0_0
 have cL := aM hr0_1
 have cN := aM hc0_1
 clear hr0_1 hc0_1
 have cD := aM hr0_2
 have cE := aM hc0_2
 clear hr0_2 hc0_2
 have HB := aM (Below.refl w.heap.size w)
 have H : ((spec_l5Copy.f k aK aW aV).bind fun bL => ((spec_CardOk.f k aK aW aV).bind fun eC => (if eC = true then ((spec_l1In.f a1 0 (wrap64 ((aK.length : Int) - 1))).bind fun eD => (if eD = true then (if 0 ≤ a1 then (if a1 < (aK.length : Int) then (if ((rdOf false aK a1) == a2) = true then (some (bL.1, bL.2.1, bL.2.2)) else (if a1 < (bL.1.length : Int) then ((spec_Forget.f k aV a1).bind fun cC => (some ((bL.1.set (a1 : Int).toNat a2), bL.2.1, cC))) else (none))) else (none)) else (none)) else (some (bL.1, bL.2.1, bL.2.2)))) else (some (bL.1, bL.2.1, bL.2.2))))) = some (r1, r2, r3) := h
 clear h
 obtain ⟨⟨aQ, aN, aT⟩, fI, H⟩ := hB H
 try dsimp only at H
 have A4 := aM fI
 clear fI
 obtain ⟨eC, fK, H⟩ := hB H
 have A5 := aM fK
 clear fK
 by_cases c6 : eC = true
 case neg =>
  replace c6 := Bool.eq_false_iff.mpr c6
  subst c6
  replace H := hF H
  simp only [Option.some.injEq, Prod.mk.injEq] at H
  obtain ⟨rfl, rfl, rfl⟩ := H
  go_enter Try.func20, Try.ntmps20
  go_wp2_with (first | ((with_reducible refine gD (N := 3) rfl ?_); (try (refine gate_guard (by rfl) ?_; dsimp only)); refine box_event ?hg (N := 3) ?hd (cs := #[.slice bO aK.length bP, .slice bQ aW.length bU, .slice bM aV.length bN]) (t := 43) ?hr ?_; (case hd => rfl); (case hg => rfl); (case hr => first | (go_simp; done) | (go_simp; rfl) | (obtain ⟨A_, c_, e_⟩ := Kd.R_slice aD.out; subst e_; (first | (go_simp; done) | (go_simp; rfl))) | (obtain ⟨A_, c_, e_⟩ := Kd.S_slice aD.out; subst e_; (first | (go_simp; done) | (go_simp; rfl))) | (obtain ⟨A_, c_, e_⟩ := Kd.R_slice aG.out; subst e_; (first | (go_simp; done) | (go_simp; rfl))) | (obtain ⟨A_, c_, e_⟩ := Kd.S_slice aG.out; subst e_; (first | (go_simp; done) | (go_simp; rfl))) | (obtain ⟨A_, c_, e_⟩ := Kd.R_slice aH.out; subst e_; (first | (go_simp; done) | (go_simp; rfl))) | (obtain ⟨A_, c_, e_⟩ := Kd.S_slice aH.out; subst e_; (first | (go_simp; done) | (go_simp; rfl)))); intro cG hg jN hbox hb; have aC := aM (hbox); have dS := gF hg HB; have dU := gF hg HB; replace HB := rS HB hb; clear hb hbox hg) | ((with_reducible refine gD (N := 6) rfl ?_); (try (refine gate_guard (by rfl) ?_; dsimp only)); refine box_event ?hg (N := 6) ?hd (cs := #[.slice none 0 0, .slice none 0 0, .slice none 0 0]) (t := 43) ?hr ?_; (case hd => rfl); (case hg => rfl); (case hr => first | (go_simp; done) | (go_simp; rfl) | (obtain ⟨A_, c_, e_⟩ := Kd.R_slice aD.out; subst e_; (first | (go_simp; done) | (go_simp; rfl))) | (obtain ⟨A_, c_, e_⟩ := Kd.S_slice aD.out; subst e_; (first | (go_simp; done) | (go_simp; rfl))) | (obtain ⟨A_, c_, e_⟩ := Kd.R_slice aG.out; subst e_; (first | (go_simp; done) | (go_simp; rfl))) | (obtain ⟨A_, c_, e_⟩ := Kd.S_slice aG.out; subst e_; (first | (go_simp; done) | (go_simp; rfl))) | (obtain ⟨A_, c_, e_⟩ := Kd.R_slice aH.out; subst e_; (first | (go_simp; done) | (go_simp; rfl))) | (obtain ⟨A_, c_, e_⟩ := Kd.S_slice aH.out; subst e_; (first | (go_simp; done) | (go_simp; rfl)))); intro aI hg jO hbox hb; have aA := aM (hbox); have dV := gF hg HB; have dW := gF hg HB; have aX := nM hg aC; have bA := nH hg aC; replace aC := rB aC hb; replace HB := rS HB hb; clear hb hbox hg; have gM := aX.out; have gN := bA.out; have gO := cA3 aC.out) | ((with_reducible refine gC (f := 79) rfl ?_); refine gL (some 9) Try.func79 #[.agg #[.slice bO aK.length bP, .slice bQ aW.length bU, .slice bM aV.length bN]] ?_; (with_reducible refine (spec_l5Copy.calls k _ _ aK _ _ aW _ _ aV aQ aN aT _ ?side1 ?side2 ?side3 ?side4 ?side5 ?side6 A4.out).mono ?_); (case side1 => exact cM (cB cA.out HB.out)); (case side2 => exact cK.out); (case side3 => exact cM (cB cL.out HB.out)); (case side4 => exact cN.out); (case side5 => exact cM (cB cD.out HB.out)); (case side6 => exact cE.out); rintro e jP ⟨eE, eF, eI, rfl, ho0, ho1, ho2, hb⟩; refine ⟨_, rfl, ?_⟩; have aD := aM (Kd.R_lower ho0 (below_size (bl HB.out))); have aG := aM (Kd.S_lower ho1 (below_size (bl HB.out))); have aH := aM (Kd.R_lower ho2 (below_size (bl HB.out))); replace aC := rB aC hb; replace aA := rB aA hb; replace HB := rS HB hb; (repeat first|clear hb|clear ho0|clear ho1|clear ho2); have hcw_gb166_0 := cI aC.out 0; have hfw_gb166_0 := bF aC.out 0; have hcw_gb166_1 := cI aC.out 1; have hfw_gb166_1 := bF aC.out 1; have hcw_gb166_2 := cI aC.out 2; have hfw_gb166_2 := bF aC.out 2; have hcw_gb167_0 := cI aA.out 0; have hfw_gb167_0 := bF aA.out 0; have hcw_gb167_1 := cI aA.out 1; have hfw_gb167_1 := bF aA.out 1; have hcw_gb167_2 := cI aA.out 2; have hfw_gb167_2 := bF aA.out 2) | ((with_reducible refine gD (N := 7) rfl ?_); (try (refine gate_guard (by rfl) ?_; dsimp only)); refine box_event ?hg (N := 7) ?hd (cs := #[.slice none 0 0, .slice none 0 0, .slice none 0 0]) (t := 43) ?hr ?_; (case hd => rfl); (case hg => rfl); (case hr => first | (go_simp; done) | (go_simp; rfl) | (obtain ⟨A_, c_, e_⟩ := Kd.R_slice aD.out; subst e_; (first | (go_simp; done) | (go_simp; rfl))) | (obtain ⟨A_, c_, e_⟩ := Kd.S_slice aD.out; subst e_; (first | (go_simp; done) | (go_simp; rfl))) | (obtain ⟨A_, c_, e_⟩ := Kd.R_slice aG.out; subst e_; (first | (go_simp; done) | (go_simp; rfl))) | (obtain ⟨A_, c_, e_⟩ := Kd.S_slice aG.out; subst e_; (first | (go_simp; done) | (go_simp; rfl))) | (obtain ⟨A_, c_, e_⟩ := Kd.R_slice aH.out; subst e_; (first | (go_simp; done) | (go_simp; rfl))) | (obtain ⟨A_, c_, e_⟩ := Kd.S_slice aH.out; subst e_; (first | (go_simp; done) | (go_simp; rfl)))); intro aJ hg jQ hbox hb; have aE := aM (hbox); have dX := gF hg HB; have dY := gF hg HB; have bD := nM hg aC; have bI := nH hg aC; have bJ := nM hg aA; have bK := nH hg aA; replace aD := rK aD hb; replace aG := aM (Kd.S_below (by (with_reducible repeat (first | apply Kd.S_alloc | apply Kd.S_drewN | apply Kd.S_drew)); exact aG.out) hb); replace aH := rK aH hb; replace aC := rB aC hb; replace aA := rB aA hb; replace HB := rS HB hb; clear hb hbox hg; obtain ⟨cW, cX, fM⟩ := Kd.R_slice aD.out; subst fM; have gP := bI.out; have gQ := bD.out; have gR := bK.out; have gS := bJ.out; have gT := cA3 aE.out; obtain ⟨cY, dA, fN⟩ := Kd.S_slice aG.out; subst fN; obtain ⟨dB, dC, fO⟩ := Kd.R_slice aH.out; subst fO; have gU := cA3 aC.out; have hcw_gb167_0 := cI aA.out 0; have hfw_gb167_0 := bF aA.out 0; have hcw_gb167_1 := cI aA.out 1; have hfw_gb167_1 := bF aA.out 1; have hcw_gb167_2 := cI aA.out 2; have hfw_gb167_2 := bF aA.out 2) | ((with_reducible refine gC (f := 50) rfl ?_); refine gL (some 11) Try.func50 #[.agg #[.slice bO aK.length bP, .slice bQ aW.length bU, .slice bM aV.length bN]] ?_; (with_reducible refine (spec_CardOk.calls k _ _ aK _ _ aW _ _ aV false _ ?side1 ?side2 ?side3 ?side4 ?side5 ?side6 A5.out).mono ?_); (case side1 => exact cB cA.out (bl HB.out)); (case side2 => exact cK.out); (case side3 => exact cB cL.out (bl HB.out)); (case side4 => exact cN.out); (case side5 => exact cB cD.out (bl HB.out)); (case side6 => exact cE.out); rintro e jR ⟨rfl, hb⟩; refine ⟨_, rfl, ?_⟩; replace aD := aM (kB (kr (Kd.R_mono (kF (p := ⟨aJ, 2, none⟩) (kF (p := ⟨aJ, 1, none⟩) (kF (p := ⟨aJ, 0, none⟩) (Kd.R_types aD.out aE.out (by decide)) (fun _ hk => hk.2) (.slice cW aQ.length cX)) (fun _ hk => hk.2) (.slice cY aN.length dA)) (fun _ hk => hk.2) (.slice dB aT.length dC)) (fun _ h_ => h_.1))) hb); replace aG := aM (Kd.S_below (by (with_reducible repeat (first | apply Kd.S_alloc | apply Kd.S_drewN | apply Kd.S_drew)); exact (Kd.S_mono (Kd.S_far (p := ⟨aJ, 2, none⟩) (Kd.S_far (p := ⟨aJ, 1, none⟩) (Kd.S_far (p := ⟨aJ, 0, none⟩) (Kd.S_types aG.out aE.out (by decide)) (fun _ hk => hk.2) (.slice cW aQ.length cX)) (fun _ hk => hk.2) (.slice cY aN.length dA)) (fun _ hk => hk.2) (.slice dB aT.length dC)) (fun _ h_ => h_.1))) hb); replace aH := aM (kB (kr (Kd.R_mono (kF (p := ⟨aJ, 2, none⟩) (kF (p := ⟨aJ, 1, none⟩) (kF (p := ⟨aJ, 0, none⟩) (Kd.R_types aH.out aE.out (by decide)) (fun _ hk => hk.2) (.slice cW aQ.length cX)) (fun _ hk => hk.2) (.slice cY aN.length dA)) (fun _ hk => hk.2) (.slice dB aT.length dC)) (fun _ h_ => h_.1))) hb); replace aC := aM (bB (fm aC.out) hb); replace aA := aM (bB (fm aA.out) hb); replace aE := aM (bB (g := aJ) (o := .cells #[.slice cW aQ.length cX, .slice cY aN.length dA, .slice dB aT.length dC] 43 (0, 0)) (bm aE.out) hb); replace HB := rS HB hb; (try clear hb); have gV := cA3 aE.out; have gW := cA3 aA.out; have hcw_gb166_0 := cI aC.out 0; have hfw_gb166_0 := bF aC.out 0; have hcw_gb166_1 := cI aC.out 1; have hfw_gb166_1 := bF aC.out 1; have hcw_gb166_2 := cI aC.out 2; have hfw_gb166_2 := bF aC.out 2))
  refine bodyPost_ret (results_cell_row rfl _ _ aI 43 #[.slice cW aQ.length cX, .slice cY aN.length dA, .slice dB aT.length dC] (0, 0) _ rfl (bm aA.out) Try.underlying43 rfl (by kernel_rfl)) rfl ?_
  exact ⟨_, _, _, xW, by (with_reducible repeat (first | apply Kd.R_alloc | apply Kd.R_drewN | apply Kd.R_drew)); exact Kd.R_mono (kF (p := ⟨aI, 2, none⟩) (kF (p := ⟨aI, 1, none⟩) (kF (p := ⟨aI, 0, none⟩) (Kd.R_types aD.out aA.out (by decide)) (fun _ hk => hk.2) (.slice cW aQ.length cX)) (fun _ hk => hk.2) (.slice cY aN.length dA)) (fun _ hk => hk.2) (.slice dB aT.length dC)) (fun _ hk => trivial), by (with_reducible repeat (first | apply Kd.S_alloc | apply Kd.S_drewN | apply Kd.S_drew)); exact Kd.S_mono (Kd.S_far (p := ⟨aI, 2, none⟩) (Kd.S_far (p := ⟨aI, 1, none⟩) (Kd.S_far (p := ⟨aI, 0, none⟩) (Kd.S_types aG.out aA.out (by decide)) (fun _ hk => hk.2) (.slice cW aQ.length cX)) (fun _ hk => hk.2) (.slice cY aN.length dA)) (fun _ hk => hk.2) (.slice dB aT.length dC)) (fun _ hk => trivial), by (with_reducible repeat (first | apply Kd.R_alloc | apply Kd.R_drewN | apply Kd.R_drew)); exact Kd.R_mono (kF (p := ⟨aI, 2, none⟩) (kF (p := ⟨aI, 1, none⟩) (kF (p := ⟨aI, 0, none⟩) (Kd.R_types aH.out aA.out (by decide)) (fun _ hk => hk.2) (.slice cW aQ.length cX)) (fun _ hk => hk.2) (.slice cY aN.length dA)) (fun _ hk => hk.2) (.slice dB aT.length dC)) (fun _ hk => trivial), bl HB.out⟩
 subst c6
 replace H := hP H rfl
 obtain ⟨eD, fL, H⟩ := hB H
 have A7 := aM fL
 clear fL
 by_cases c8 : eD = true
 case neg =>
  replace c8 := Bool.eq_false_iff.mpr c8
  subst c8
  replace H := hF H
  simp only [Option.some.injEq, Prod.mk.injEq] at H
  obtain ⟨rfl, rfl, rfl⟩ := H
  go_enter Try.func20, Try.ntmps20
  go_wp2_with (first | ((with_reducible refine gD (N := 3) rfl ?_); (try (refine gate_guard (by rfl) ?_; dsimp only)); refine box_event ?hg (N := 3) ?hd (cs := #[.slice bO aK.length bP, .slice bQ aW.length bU, .slice bM aV.length bN]) (t := 43) ?hr ?_; (case hd => rfl); (case hg => rfl); (case hr => first | (go_simp; done) | (go_simp; rfl) | (obtain ⟨A_, c_, e_⟩ := Kd.R_slice aD.out; subst e_; (first | (go_simp; done) | (go_simp; rfl))) | (obtain ⟨A_, c_, e_⟩ := Kd.S_slice aD.out; subst e_; (first | (go_simp; done) | (go_simp; rfl))) | (obtain ⟨A_, c_, e_⟩ := Kd.R_slice aG.out; subst e_; (first | (go_simp; done) | (go_simp; rfl))) | (obtain ⟨A_, c_, e_⟩ := Kd.S_slice aG.out; subst e_; (first | (go_simp; done) | (go_simp; rfl))) | (obtain ⟨A_, c_, e_⟩ := Kd.R_slice aH.out; subst e_; (first | (go_simp; done) | (go_simp; rfl))) | (obtain ⟨A_, c_, e_⟩ := Kd.S_slice aH.out; subst e_; (first | (go_simp; done) | (go_simp; rfl)))); intro cG hg jS hbox hb; have aC := aM (hbox); have dS := gF hg HB; have dU := gF hg HB; replace HB := rS HB hb; clear hb hbox hg) | ((with_reducible refine gD (N := 6) rfl ?_); (try (refine gate_guard (by rfl) ?_; dsimp only)); refine box_event ?hg (N := 6) ?hd (cs := #[.slice none 0 0, .slice none 0 0, .slice none 0 0]) (t := 43) ?hr ?_; (case hd => rfl); (case hg => rfl); (case hr => first | (go_simp; done) | (go_simp; rfl) | (obtain ⟨A_, c_, e_⟩ := Kd.R_slice aD.out; subst e_; (first | (go_simp; done) | (go_simp; rfl))) | (obtain ⟨A_, c_, e_⟩ := Kd.S_slice aD.out; subst e_; (first | (go_simp; done) | (go_simp; rfl))) | (obtain ⟨A_, c_, e_⟩ := Kd.R_slice aG.out; subst e_; (first | (go_simp; done) | (go_simp; rfl))) | (obtain ⟨A_, c_, e_⟩ := Kd.S_slice aG.out; subst e_; (first | (go_simp; done) | (go_simp; rfl))) | (obtain ⟨A_, c_, e_⟩ := Kd.R_slice aH.out; subst e_; (first | (go_simp; done) | (go_simp; rfl))) | (obtain ⟨A_, c_, e_⟩ := Kd.S_slice aH.out; subst e_; (first | (go_simp; done) | (go_simp; rfl)))); intro aI hg jT hbox hb; have aA := aM (hbox); have dV := gF hg HB; have dW := gF hg HB; have aX := nM hg aC; have bA := nH hg aC; replace aC := rB aC hb; replace HB := rS HB hb; clear hb hbox hg; have gX := aX.out; have gY := bA.out; have gZ := cA3 aC.out) | ((with_reducible refine gC (f := 79) rfl ?_); refine gL (some 9) Try.func79 #[.agg #[.slice bO aK.length bP, .slice bQ aW.length bU, .slice bM aV.length bN]] ?_; (with_reducible refine (spec_l5Copy.calls k _ _ aK _ _ aW _ _ aV aQ aN aT _ ?side1 ?side2 ?side3 ?side4 ?side5 ?side6 A4.out).mono ?_); (case side1 => exact cM (cB cA.out HB.out)); (case side2 => exact cK.out); (case side3 => exact cM (cB cL.out HB.out)); (case side4 => exact cN.out); (case side5 => exact cM (cB cD.out HB.out)); (case side6 => exact cE.out); rintro e jU ⟨eE, eF, eI, rfl, ho0, ho1, ho2, hb⟩; refine ⟨_, rfl, ?_⟩; have aD := aM (Kd.R_lower ho0 (below_size (bl HB.out))); have aG := aM (Kd.S_lower ho1 (below_size (bl HB.out))); have aH := aM (Kd.R_lower ho2 (below_size (bl HB.out))); replace aC := rB aC hb; replace aA := rB aA hb; replace HB := rS HB hb; (repeat first|clear hb|clear ho0|clear ho1|clear ho2); have hcw_gb166_0 := cI aC.out 0; have hfw_gb166_0 := bF aC.out 0; have hcw_gb166_1 := cI aC.out 1; have hfw_gb166_1 := bF aC.out 1; have hcw_gb166_2 := cI aC.out 2; have hfw_gb166_2 := bF aC.out 2; have hcw_gb167_0 := cI aA.out 0; have hfw_gb167_0 := bF aA.out 0; have hcw_gb167_1 := cI aA.out 1; have hfw_gb167_1 := bF aA.out 1; have hcw_gb167_2 := cI aA.out 2; have hfw_gb167_2 := bF aA.out 2) | ((with_reducible refine gD (N := 7) rfl ?_); (try (refine gate_guard (by rfl) ?_; dsimp only)); refine box_event ?hg (N := 7) ?hd (cs := #[.slice none 0 0, .slice none 0 0, .slice none 0 0]) (t := 43) ?hr ?_; (case hd => rfl); (case hg => rfl); (case hr => first | (go_simp; done) | (go_simp; rfl) | (obtain ⟨A_, c_, e_⟩ := Kd.R_slice aD.out; subst e_; (first | (go_simp; done) | (go_simp; rfl))) | (obtain ⟨A_, c_, e_⟩ := Kd.S_slice aD.out; subst e_; (first | (go_simp; done) | (go_simp; rfl))) | (obtain ⟨A_, c_, e_⟩ := Kd.R_slice aG.out; subst e_; (first | (go_simp; done) | (go_simp; rfl))) | (obtain ⟨A_, c_, e_⟩ := Kd.S_slice aG.out; subst e_; (first | (go_simp; done) | (go_simp; rfl))) | (obtain ⟨A_, c_, e_⟩ := Kd.R_slice aH.out; subst e_; (first | (go_simp; done) | (go_simp; rfl))) | (obtain ⟨A_, c_, e_⟩ := Kd.S_slice aH.out; subst e_; (first | (go_simp; done) | (go_simp; rfl)))); intro aJ hg jV hbox hb; have aE := aM (hbox); have dX := gF hg HB; have dY := gF hg HB; have bD := nM hg aC; have bI := nH hg aC; have bJ := nM hg aA; have bK := nH hg aA; replace aD := rK aD hb; replace aG := aM (Kd.S_below (by (with_reducible repeat (first | apply Kd.S_alloc | apply Kd.S_drewN | apply Kd.S_drew)); exact aG.out) hb); replace aH := rK aH hb; replace aC := rB aC hb; replace aA := rB aA hb; replace HB := rS HB hb; clear hb hbox hg; obtain ⟨dD, dE, fP⟩ := Kd.R_slice aD.out; subst fP; have hJ := bI.out; have hO := bD.out; have hU := bK.out; have hX := bJ.out; have hY := cA3 aE.out; obtain ⟨cO, cP, fQ⟩ := Kd.S_slice aG.out; subst fQ; obtain ⟨dF, dG, fS⟩ := Kd.R_slice aH.out; subst fS; have hZ := cA3 aC.out; have hcw_gb167_0 := cI aA.out 0; have hfw_gb167_0 := bF aA.out 0; have hcw_gb167_1 := cI aA.out 1; have hfw_gb167_1 := bF aA.out 1; have hcw_gb167_2 := cI aA.out 2; have hfw_gb167_2 := bF aA.out 2) | ((with_reducible refine gC (f := 50) rfl ?_); refine gL (some 11) Try.func50 #[.agg #[.slice bO aK.length bP, .slice bQ aW.length bU, .slice bM aV.length bN]] ?_; (with_reducible refine (spec_CardOk.calls k _ _ aK _ _ aW _ _ aV true _ ?side1 ?side2 ?side3 ?side4 ?side5 ?side6 A5.out).mono ?_); (case side1 => exact cB cA.out (bl HB.out)); (case side2 => exact cK.out); (case side3 => exact cB cL.out (bl HB.out)); (case side4 => exact cN.out); (case side5 => exact cB cD.out (bl HB.out)); (case side6 => exact cE.out); rintro e eL ⟨rfl, hb⟩; refine ⟨_, rfl, ?_⟩; replace aD := aM (kB (kr (Kd.R_mono (kF (p := ⟨aJ, 2, none⟩) (kF (p := ⟨aJ, 1, none⟩) (kF (p := ⟨aJ, 0, none⟩) (Kd.R_types aD.out aE.out (by decide)) (fun _ hk => hk.2) (.slice dD aQ.length dE)) (fun _ hk => hk.2) (.slice cO aN.length cP)) (fun _ hk => hk.2) (.slice dF aT.length dG)) (fun _ h_ => h_.1))) hb); replace aG := aM (Kd.S_below (by (with_reducible repeat (first | apply Kd.S_alloc | apply Kd.S_drewN | apply Kd.S_drew)); exact (Kd.S_mono (Kd.S_far (p := ⟨aJ, 2, none⟩) (Kd.S_far (p := ⟨aJ, 1, none⟩) (Kd.S_far (p := ⟨aJ, 0, none⟩) (Kd.S_types aG.out aE.out (by decide)) (fun _ hk => hk.2) (.slice dD aQ.length dE)) (fun _ hk => hk.2) (.slice cO aN.length cP)) (fun _ hk => hk.2) (.slice dF aT.length dG)) (fun _ h_ => h_.1))) hb); replace aH := aM (kB (kr (Kd.R_mono (kF (p := ⟨aJ, 2, none⟩) (kF (p := ⟨aJ, 1, none⟩) (kF (p := ⟨aJ, 0, none⟩) (Kd.R_types aH.out aE.out (by decide)) (fun _ hk => hk.2) (.slice dD aQ.length dE)) (fun _ hk => hk.2) (.slice cO aN.length cP)) (fun _ hk => hk.2) (.slice dF aT.length dG)) (fun _ h_ => h_.1))) hb); replace aC := aM (bB (fm aC.out) hb); replace aA := aM (bB (fm aA.out) hb); replace aE := aM (bB (g := aJ) (o := .cells #[.slice dD aQ.length dE, .slice cO aN.length cP, .slice dF aT.length dG] 43 (0, 0)) (bm aE.out) hb); replace HB := rS HB hb; (try clear hb); have iA := cA3 aC.out; have hcw_gb167_0 := cI aA.out 0; have hfw_gb167_0 := bF aA.out 0; have hcw_gb167_1 := cI aA.out 1; have hfw_gb167_1 := bF aA.out 1; have hcw_gb167_2 := cI aA.out 2; have hfw_gb167_2 := bF aA.out 2; have hcw_gb177_0 := cI aE.out 0; have hfw_gb177_0 := bF aE.out 0; have hcw_gb177_1 := cI aE.out 1; have hfw_gb177_1 := bF aE.out 1; have hcw_gb177_2 := cI aE.out 2; have hfw_gb177_2 := bF aE.out 2) | (go_at_call 80; (with_reducible refine (spec_l1In.calls a1 0 (wrap64 ((aK.length : Int) - 1)) false _ A7.out).mono ?_); rintro e w' ⟨rfl, ⟨nd, rfl⟩⟩; (try (rw [drewN_self eL]; generalize hq_ : World.drewN eL _ = eL; replace aD := qR hq_ (kr aD.out); replace aG : Aside0 (Kd.S k63 63 eL w.heap.size (fun _ => True) (.slice cO aN.length cP) aN) := ⟨by rw [← hq_]; exact (by (with_reducible repeat (first | apply Kd.S_alloc | apply Kd.S_drewN | apply Kd.S_drew)); exact aG.out)⟩; replace aH := qR hq_ (kr aH.out); replace aC := qB hq_ (bk aC.out); replace aA := qB hq_ (bk aA.out); replace aE := qB hq_ (bk aE.out); replace HB := qL hq_ (bl HB.out); clear hq_)); have iB := cA3 aE.out; have iC := cA3 aA.out; have hcw_gb166_0 := cI aC.out 0; have hfw_gb166_0 := bF aC.out 0; have hcw_gb166_1 := cI aC.out 1; have hfw_gb166_1 := bF aC.out 1; have hcw_gb166_2 := cI aC.out 2; have hfw_gb166_2 := bF aC.out 2))
  refine bodyPost_ret (results_cell_row rfl _ _ aI 43 #[.slice dD aQ.length dE, .slice cO aN.length cP, .slice dF aT.length dG] (0, 0) _ rfl (bm aA.out) Try.underlying43 rfl (by kernel_rfl)) rfl ?_
  exact ⟨_, _, _, xW, by (with_reducible repeat (first | apply Kd.R_alloc | apply Kd.R_drewN | apply Kd.R_drew)); exact Kd.R_mono (kF (p := ⟨aI, 2, none⟩) (kF (p := ⟨aI, 1, none⟩) (kF (p := ⟨aI, 0, none⟩) (Kd.R_types aD.out aA.out (by decide)) (fun _ hk => hk.2) (.slice dD aQ.length dE)) (fun _ hk => hk.2) (.slice cO aN.length cP)) (fun _ hk => hk.2) (.slice dF aT.length dG)) (fun _ hk => trivial), by (with_reducible repeat (first | apply Kd.S_alloc | apply Kd.S_drewN | apply Kd.S_drew)); exact Kd.S_mono (Kd.S_far (p := ⟨aI, 2, none⟩) (Kd.S_far (p := ⟨aI, 1, none⟩) (Kd.S_far (p := ⟨aI, 0, none⟩) (Kd.S_types aG.out aA.out (by decide)) (fun _ hk => hk.2) (.slice dD aQ.length dE)) (fun _ hk => hk.2) (.slice cO aN.length cP)) (fun _ hk => hk.2) (.slice dF aT.length dG)) (fun _ hk => trivial), by (with_reducible repeat (first | apply Kd.R_alloc | apply Kd.R_drewN | apply Kd.R_drew)); exact Kd.R_mono (kF (p := ⟨aI, 2, none⟩) (kF (p := ⟨aI, 1, none⟩) (kF (p := ⟨aI, 0, none⟩) (Kd.R_types aH.out aA.out (by decide)) (fun _ hk => hk.2) (.slice dD aQ.length dE)) (fun _ hk => hk.2) (.slice cO aN.length cP)) (fun _ hk => hk.2) (.slice dF aT.length dG)) (fun _ hk => trivial), bl HB.out⟩
 subst c8
 replace H := hP H rfl
 obtain ⟨jI, H⟩ := gI H
 obtain ⟨iD, H⟩ := gI H
 by_cases dH : ((rdOf false aK a1) == a2) = true
 case pos =>
  rw [if_pos dH] at H
  have fA : ((rdOf false aK a1) == a2) = true := dH
  (try (have fB : decide ((rdOf false aK a1) = a2) = true := by simpa using dH))
  (try (have fC : ((rdOf false aK a1) == a2) = true := by simpa using dH))
  clear dH
  simp only [Option.some.injEq, Prod.mk.injEq] at H
  obtain ⟨rfl, rfl, rfl⟩ := H
  go_enter Try.func20, Try.ntmps20
  go_wp2_with (first | ((with_reducible refine gD (N := 3) rfl ?_); (try (refine gate_guard (by rfl) ?_; dsimp only)); refine box_event ?hg (N := 3) ?hd (cs := #[.slice bO aK.length bP, .slice bQ aW.length bU, .slice bM aV.length bN]) (t := 43) ?hr ?_; (case hd => rfl); (case hg => rfl); (case hr => first | (go_simp; done) | (go_simp; rfl) | (obtain ⟨A_, c_, e_⟩ := Kd.R_slice aD.out; subst e_; (first | (go_simp; done) | (go_simp; rfl))) | (obtain ⟨A_, c_, e_⟩ := Kd.S_slice aD.out; subst e_; (first | (go_simp; done) | (go_simp; rfl))) | (obtain ⟨A_, c_, e_⟩ := Kd.R_slice aG.out; subst e_; (first | (go_simp; done) | (go_simp; rfl))) | (obtain ⟨A_, c_, e_⟩ := Kd.S_slice aG.out; subst e_; (first | (go_simp; done) | (go_simp; rfl))) | (obtain ⟨A_, c_, e_⟩ := Kd.R_slice aH.out; subst e_; (first | (go_simp; done) | (go_simp; rfl))) | (obtain ⟨A_, c_, e_⟩ := Kd.S_slice aH.out; subst e_; (first | (go_simp; done) | (go_simp; rfl)))); intro cG hg jW hbox hb; have aC := aM (hbox); have dS := gF hg HB; have dU := gF hg HB; replace HB := rS HB hb; clear hb hbox hg) | ((with_reducible refine gD (N := 6) rfl ?_); (try (refine gate_guard (by rfl) ?_; dsimp only)); refine box_event ?hg (N := 6) ?hd (cs := #[.slice none 0 0, .slice none 0 0, .slice none 0 0]) (t := 43) ?hr ?_; (case hd => rfl); (case hg => rfl); (case hr => first | (go_simp; done) | (go_simp; rfl) | (obtain ⟨A_, c_, e_⟩ := Kd.R_slice aD.out; subst e_; (first | (go_simp; done) | (go_simp; rfl))) | (obtain ⟨A_, c_, e_⟩ := Kd.S_slice aD.out; subst e_; (first | (go_simp; done) | (go_simp; rfl))) | (obtain ⟨A_, c_, e_⟩ := Kd.R_slice aG.out; subst e_; (first | (go_simp; done) | (go_simp; rfl))) | (obtain ⟨A_, c_, e_⟩ := Kd.S_slice aG.out; subst e_; (first | (go_simp; done) | (go_simp; rfl))) | (obtain ⟨A_, c_, e_⟩ := Kd.R_slice aH.out; subst e_; (first | (go_simp; done) | (go_simp; rfl))) | (obtain ⟨A_, c_, e_⟩ := Kd.S_slice aH.out; subst e_; (first | (go_simp; done) | (go_simp; rfl)))); intro aI hg jX hbox hb; have aA := aM (hbox); have dV := gF hg HB; have dW := gF hg HB; have aX := nM hg aC; have bA := nH hg aC; replace aC := rB aC hb; replace HB := rS HB hb; clear hb hbox hg; have iE := aX.out; have iF := bA.out; have iG := cA3 aC.out) | ((with_reducible refine gC (f := 79) rfl ?_); refine gL (some 9) Try.func79 #[.agg #[.slice bO aK.length bP, .slice bQ aW.length bU, .slice bM aV.length bN]] ?_; (with_reducible refine (spec_l5Copy.calls k _ _ aK _ _ aW _ _ aV aQ aN aT _ ?side1 ?side2 ?side3 ?side4 ?side5 ?side6 A4.out).mono ?_); (case side1 => exact cM (cB cA.out HB.out)); (case side2 => exact cK.out); (case side3 => exact cM (cB cL.out HB.out)); (case side4 => exact cN.out); (case side5 => exact cM (cB cD.out HB.out)); (case side6 => exact cE.out); rintro e jY ⟨eE, eF, eI, rfl, ho0, ho1, ho2, hb⟩; refine ⟨_, rfl, ?_⟩; have aD := aM (Kd.R_lower ho0 (below_size (bl HB.out))); have aG := aM (Kd.S_lower ho1 (below_size (bl HB.out))); have aH := aM (Kd.R_lower ho2 (below_size (bl HB.out))); replace aC := rB aC hb; replace aA := rB aA hb; replace HB := rS HB hb; (repeat first|clear hb|clear ho0|clear ho1|clear ho2); have hcw_gb166_0 := cI aC.out 0; have hfw_gb166_0 := bF aC.out 0; have hcw_gb166_1 := cI aC.out 1; have hfw_gb166_1 := bF aC.out 1; have hcw_gb166_2 := cI aC.out 2; have hfw_gb166_2 := bF aC.out 2; have hcw_gb167_0 := cI aA.out 0; have hfw_gb167_0 := bF aA.out 0; have hcw_gb167_1 := cI aA.out 1; have hfw_gb167_1 := bF aA.out 1; have hcw_gb167_2 := cI aA.out 2; have hfw_gb167_2 := bF aA.out 2) | ((with_reducible refine gD (N := 7) rfl ?_); (try (refine gate_guard (by rfl) ?_; dsimp only)); refine box_event ?hg (N := 7) ?hd (cs := #[.slice none 0 0, .slice none 0 0, .slice none 0 0]) (t := 43) ?hr ?_; (case hd => rfl); (case hg => rfl); (case hr => first | (go_simp; done) | (go_simp; rfl) | (obtain ⟨A_, c_, e_⟩ := Kd.R_slice aD.out; subst e_; (first | (go_simp; done) | (go_simp; rfl))) | (obtain ⟨A_, c_, e_⟩ := Kd.S_slice aD.out; subst e_; (first | (go_simp; done) | (go_simp; rfl))) | (obtain ⟨A_, c_, e_⟩ := Kd.R_slice aG.out; subst e_; (first | (go_simp; done) | (go_simp; rfl))) | (obtain ⟨A_, c_, e_⟩ := Kd.S_slice aG.out; subst e_; (first | (go_simp; done) | (go_simp; rfl))) | (obtain ⟨A_, c_, e_⟩ := Kd.R_slice aH.out; subst e_; (first | (go_simp; done) | (go_simp; rfl))) | (obtain ⟨A_, c_, e_⟩ := Kd.S_slice aH.out; subst e_; (first | (go_simp; done) | (go_simp; rfl)))); intro aJ hg jZ hbox hb; have aE := aM (hbox); have dX := gF hg HB; have dY := gF hg HB; have bD := nM hg aC; have bI := nH hg aC; have bJ := nM hg aA; have bK := nH hg aA; replace aD := rK aD hb; replace aG := aM (Kd.S_below (by (with_reducible repeat (first | apply Kd.S_alloc | apply Kd.S_drewN | apply Kd.S_drew)); exact aG.out) hb); replace aH := rK aH hb; replace aC := rB aC hb; replace aA := rB aA hb; replace HB := rS HB hb; clear hb hbox hg; obtain ⟨dI, dJ, fT⟩ := Kd.R_slice aD.out; subst fT; have iH := bI.out; have iI := bD.out; have iJ := bK.out; have iK := bJ.out; have iL := cA3 aE.out; obtain ⟨cQ, cR, fU⟩ := Kd.S_slice aG.out; subst fU; obtain ⟨dK, dL, fV⟩ := Kd.R_slice aH.out; subst fV; have iM := cA3 aC.out; have hcw_gb167_0 := cI aA.out 0; have hfw_gb167_0 := bF aA.out 0; have hcw_gb167_1 := cI aA.out 1; have hfw_gb167_1 := bF aA.out 1; have hcw_gb167_2 := cI aA.out 2; have hfw_gb167_2 := bF aA.out 2) | ((with_reducible refine gC (f := 50) rfl ?_); refine gL (some 11) Try.func50 #[.agg #[.slice bO aK.length bP, .slice bQ aW.length bU, .slice bM aV.length bN]] ?_; (with_reducible refine (spec_CardOk.calls k _ _ aK _ _ aW _ _ aV true _ ?side1 ?side2 ?side3 ?side4 ?side5 ?side6 A5.out).mono ?_); (case side1 => exact cB cA.out (bl HB.out)); (case side2 => exact cK.out); (case side3 => exact cB cL.out (bl HB.out)); (case side4 => exact cN.out); (case side5 => exact cB cD.out (bl HB.out)); (case side6 => exact cE.out); rintro e dR ⟨rfl, hb⟩; refine ⟨_, rfl, ?_⟩; replace aD := aM (kB (kr (Kd.R_mono (kF (p := ⟨aJ, 2, none⟩) (kF (p := ⟨aJ, 1, none⟩) (kF (p := ⟨aJ, 0, none⟩) (Kd.R_types aD.out aE.out (by decide)) (fun _ hk => hk.2) (.slice dI aQ.length dJ)) (fun _ hk => hk.2) (.slice cQ aN.length cR)) (fun _ hk => hk.2) (.slice dK aT.length dL)) (fun _ h_ => h_.1))) hb); replace aG := aM (Kd.S_below (by (with_reducible repeat (first | apply Kd.S_alloc | apply Kd.S_drewN | apply Kd.S_drew)); exact (Kd.S_mono (Kd.S_far (p := ⟨aJ, 2, none⟩) (Kd.S_far (p := ⟨aJ, 1, none⟩) (Kd.S_far (p := ⟨aJ, 0, none⟩) (Kd.S_types aG.out aE.out (by decide)) (fun _ hk => hk.2) (.slice dI aQ.length dJ)) (fun _ hk => hk.2) (.slice cQ aN.length cR)) (fun _ hk => hk.2) (.slice dK aT.length dL)) (fun _ h_ => h_.1))) hb); replace aH := aM (kB (kr (Kd.R_mono (kF (p := ⟨aJ, 2, none⟩) (kF (p := ⟨aJ, 1, none⟩) (kF (p := ⟨aJ, 0, none⟩) (Kd.R_types aH.out aE.out (by decide)) (fun _ hk => hk.2) (.slice dI aQ.length dJ)) (fun _ hk => hk.2) (.slice cQ aN.length cR)) (fun _ hk => hk.2) (.slice dK aT.length dL)) (fun _ h_ => h_.1))) hb); replace aC := aM (bB (fm aC.out) hb); replace aA := aM (bB (fm aA.out) hb); replace aE := aM (bB (g := aJ) (o := .cells #[.slice dI aQ.length dJ, .slice cQ aN.length cR, .slice dK aT.length dL] 43 (0, 0)) (bm aE.out) hb); replace HB := rS HB hb; (try clear hb); have iN := cA3 aC.out; have hcw_gb167_0 := cI aA.out 0; have hfw_gb167_0 := bF aA.out 0; have hcw_gb167_1 := cI aA.out 1; have hfw_gb167_1 := bF aA.out 1; have hcw_gb167_2 := cI aA.out 2; have hfw_gb167_2 := bF aA.out 2; have hcw_gb177_0 := cI aE.out 0; have hfw_gb177_0 := bF aE.out 0; have hcw_gb177_1 := cI aE.out 1; have hfw_gb177_1 := bF aE.out 1; have hcw_gb177_2 := cI aE.out 2; have hfw_gb177_2 := bF aE.out 2) | (go_at_call 80; (with_reducible refine (spec_l1In.calls a1 0 (wrap64 ((aK.length : Int) - 1)) true _ A7.out).mono ?_); rintro e w' ⟨rfl, ⟨nd, rfl⟩⟩; (try (rw [drewN_self dR]; generalize hq_ : World.drewN dR _ = dR; replace aD := qR hq_ (kr aD.out); replace aG : Aside0 (Kd.S k63 63 dR w.heap.size (fun _ => True) (.slice cQ aN.length cR) aN) := ⟨by rw [← hq_]; exact (by (with_reducible repeat (first | apply Kd.S_alloc | apply Kd.S_drewN | apply Kd.S_drew)); exact aG.out)⟩; replace aH := qR hq_ (kr aH.out); replace aC := qB hq_ (bk aC.out); replace aA := qB hq_ (bk aA.out); replace aE := qB hq_ (bk aE.out); replace HB := qL hq_ (bl HB.out); clear hq_)); have dM : 0 ≤ (a1 : Int) := dT; have dN : a1 < (aK.length : Int) := dT; obtain ⟨fD, eJ, bW⟩ := Kd.at_bool cA.out a1 dM dN; cases eJ; replace bW := (HB.out.cell (World.block_lt_of_cell? w _ bW)).trans bW; replace dM := eq_true dM; replace dN := eq_true dN; have iO := cA3 aE.out; have iP := cA3 aA.out; have hcw_gb166_0 : dR.cell? ⟨cG, 0, none⟩ = some _ := cI aC.out 0; have hfw_gb166_0 := bF aC.out 0; have hcw_gb166_1 : dR.cell? ⟨cG, 1, none⟩ = some _ := cI aC.out 1; have hfw_gb166_1 := bF aC.out 1; have hcw_gb166_2 : dR.cell? ⟨cG, 2, none⟩ = some _ := cI aC.out 2; have hfw_gb166_2 := bF aC.out 2))
  refine bodyPost_ret (results_cell_row rfl _ _ aI 43 #[.slice dI aQ.length dJ, .slice cQ aN.length cR, .slice dK aT.length dL] (0, 0) _ rfl (bm aA.out) Try.underlying43 rfl (by kernel_rfl)) rfl ?_
  exact ⟨_, _, _, xW, by (with_reducible repeat (first | apply Kd.R_alloc | apply Kd.R_drewN | apply Kd.R_drew)); exact Kd.R_mono (kF (p := ⟨aI, 2, none⟩) (kF (p := ⟨aI, 1, none⟩) (kF (p := ⟨aI, 0, none⟩) (Kd.R_types aD.out aA.out (by decide)) (fun _ hk => hk.2) (.slice dI aQ.length dJ)) (fun _ hk => hk.2) (.slice cQ aN.length cR)) (fun _ hk => hk.2) (.slice dK aT.length dL)) (fun _ hk => trivial), by (with_reducible repeat (first | apply Kd.S_alloc | apply Kd.S_drewN | apply Kd.S_drew)); exact Kd.S_mono (Kd.S_far (p := ⟨aI, 2, none⟩) (Kd.S_far (p := ⟨aI, 1, none⟩) (Kd.S_far (p := ⟨aI, 0, none⟩) (Kd.S_types aG.out aA.out (by decide)) (fun _ hk => hk.2) (.slice dI aQ.length dJ)) (fun _ hk => hk.2) (.slice cQ aN.length cR)) (fun _ hk => hk.2) (.slice dK aT.length dL)) (fun _ hk => trivial), by (with_reducible repeat (first | apply Kd.R_alloc | apply Kd.R_drewN | apply Kd.R_drew)); exact Kd.R_mono (kF (p := ⟨aI, 2, none⟩) (kF (p := ⟨aI, 1, none⟩) (kF (p := ⟨aI, 0, none⟩) (Kd.R_types aH.out aA.out (by decide)) (fun _ hk => hk.2) (.slice dI aQ.length dJ)) (fun _ hk => hk.2) (.slice cQ aN.length cR)) (fun _ hk => hk.2) (.slice dK aT.length dL)) (fun _ hk => trivial), bl HB.out⟩
 rw [if_neg dH] at H
 have fA : ((rdOf false aK a1) == a2) = false := by simpa using dH
 (try (have fB : decide ((rdOf false aK a1) = a2) = false := by simpa using dH))
 (try (have fC : ((rdOf false aK a1) == a2) = false := by simpa using dH))
 (try (have iQ : ¬ ((rdOf false aK a1) = a2) := by simpa using dH))
 clear dH
 obtain ⟨iR, H⟩ := gI H
 obtain ⟨eN, dQ⟩ : ∃ y_ : List Bool, y_ = (aQ.set (a1 : Int).toNat a2) := ⟨_, rfl⟩
 replace H : ((spec_Forget.f k aV a1).bind fun cC => (some (eN, aN, cC))) = some (r1, r2, r3) := by first | (rw [dQ]; with_reducible exact H) | (have H2_ := (Option.bind_some _ _).symm.trans H; rw [dQ]; with_reducible exact H2_) | (have H2_ := (Option.bind_some _ _).symm.trans H; with_reducible exact H2_) | with_reducible exact H | (rw [dQ]; exact H) | exact H
 have fE := aM dQ
 clear dQ
 obtain ⟨cC, eO, H⟩ := hB H
 have gH := aM eO
 clear eO
 simp only [Option.some.injEq, Prod.mk.injEq] at H
 obtain ⟨rfl, rfl, rfl⟩ := H
 go_enter Try.func20, Try.ntmps20
 go_wp2_with (first | ((with_reducible refine gD (N := 3) rfl ?_); (try (refine gate_guard (by rfl) ?_; dsimp only)); refine box_event ?hg (N := 3) ?hd (cs := #[.slice bO aK.length bP, .slice bQ aW.length bU, .slice bM aV.length bN]) (t := 43) ?hr ?_; (case hd => rfl); (case hg => rfl); (case hr => first | (go_simp; done) | (go_simp; rfl) | (obtain ⟨A_, c_, e_⟩ := Kd.R_slice aD.out; subst e_; (first | (go_simp; done) | (go_simp; rfl))) | (obtain ⟨A_, c_, e_⟩ := Kd.S_slice aD.out; subst e_; (first | (go_simp; done) | (go_simp; rfl))) | (obtain ⟨A_, c_, e_⟩ := Kd.R_slice aG.out; subst e_; (first | (go_simp; done) | (go_simp; rfl))) | (obtain ⟨A_, c_, e_⟩ := Kd.S_slice aG.out; subst e_; (first | (go_simp; done) | (go_simp; rfl))) | (obtain ⟨A_, c_, e_⟩ := Kd.R_slice aH.out; subst e_; (first | (go_simp; done) | (go_simp; rfl))) | (obtain ⟨A_, c_, e_⟩ := Kd.S_slice aH.out; subst e_; (first | (go_simp; done) | (go_simp; rfl)))); intro cG hg kA hbox hb; have aC := aM (hbox); have dS := gF hg HB; have dU := gF hg HB; replace HB := rS HB hb; clear hb hbox hg) | ((with_reducible refine gD (N := 6) rfl ?_); (try (refine gate_guard (by rfl) ?_; dsimp only)); refine box_event ?hg (N := 6) ?hd (cs := #[.slice none 0 0, .slice none 0 0, .slice none 0 0]) (t := 43) ?hr ?_; (case hd => rfl); (case hg => rfl); (case hr => first | (go_simp; done) | (go_simp; rfl) | (obtain ⟨A_, c_, e_⟩ := Kd.R_slice aD.out; subst e_; (first | (go_simp; done) | (go_simp; rfl))) | (obtain ⟨A_, c_, e_⟩ := Kd.S_slice aD.out; subst e_; (first | (go_simp; done) | (go_simp; rfl))) | (obtain ⟨A_, c_, e_⟩ := Kd.R_slice aG.out; subst e_; (first | (go_simp; done) | (go_simp; rfl))) | (obtain ⟨A_, c_, e_⟩ := Kd.S_slice aG.out; subst e_; (first | (go_simp; done) | (go_simp; rfl))) | (obtain ⟨A_, c_, e_⟩ := Kd.R_slice aH.out; subst e_; (first | (go_simp; done) | (go_simp; rfl))) | (obtain ⟨A_, c_, e_⟩ := Kd.S_slice aH.out; subst e_; (first | (go_simp; done) | (go_simp; rfl)))); intro aI hg kC hbox hb; have aA := aM (hbox); have dV := gF hg HB; have dW := gF hg HB; have aX := nM hg aC; have bA := nH hg aC; replace aC := rB aC hb; replace HB := rS HB hb; clear hb hbox hg; have iS := aX.out; have iT := bA.out; have iU := cA3 aC.out) | ((with_reducible refine gC (f := 79) rfl ?_); refine gL (some 9) Try.func79 #[.agg #[.slice bO aK.length bP, .slice bQ aW.length bU, .slice bM aV.length bN]] ?_; (with_reducible refine (spec_l5Copy.calls k _ _ aK _ _ aW _ _ aV aQ aN aT _ ?side1 ?side2 ?side3 ?side4 ?side5 ?side6 A4.out).mono ?_); (case side1 => exact cM (cB cA.out HB.out)); (case side2 => exact cK.out); (case side3 => exact cM (cB cL.out HB.out)); (case side4 => exact cN.out); (case side5 => exact cM (cB cD.out HB.out)); (case side6 => exact cE.out); rintro e kD ⟨eE, eF, eI, rfl, ho0, ho1, ho2, hb⟩; refine ⟨_, rfl, ?_⟩; have aD := aM (Kd.R_lower ho0 (below_size (bl HB.out))); have aG := aM (Kd.S_lower ho1 (below_size (bl HB.out))); have aH := aM (Kd.R_lower ho2 (below_size (bl HB.out))); replace aC := rB aC hb; replace aA := rB aA hb; replace HB := rS HB hb; (repeat first|clear hb|clear ho0|clear ho1|clear ho2); have hcw_gb166_0 := cI aC.out 0; have hfw_gb166_0 := bF aC.out 0; have hcw_gb166_1 := cI aC.out 1; have hfw_gb166_1 := bF aC.out 1; have hcw_gb166_2 := cI aC.out 2; have hfw_gb166_2 := bF aC.out 2; have hcw_gb167_0 := cI aA.out 0; have hfw_gb167_0 := bF aA.out 0; have hcw_gb167_1 := cI aA.out 1; have hfw_gb167_1 := bF aA.out 1; have hcw_gb167_2 := cI aA.out 2; have hfw_gb167_2 := bF aA.out 2) | ((with_reducible refine gD (N := 7) rfl ?_); (try (refine gate_guard (by rfl) ?_; dsimp only)); refine box_event ?hg (N := 7) ?hd (cs := #[.slice none 0 0, .slice none 0 0, .slice none 0 0]) (t := 43) ?hr ?_; (case hd => rfl); (case hg => rfl); (case hr => first | (go_simp; done) | (go_simp; rfl) | (obtain ⟨A_, c_, e_⟩ := Kd.R_slice aD.out; subst e_; (first | (go_simp; done) | (go_simp; rfl))) | (obtain ⟨A_, c_, e_⟩ := Kd.S_slice aD.out; subst e_; (first | (go_simp; done) | (go_simp; rfl))) | (obtain ⟨A_, c_, e_⟩ := Kd.R_slice aG.out; subst e_; (first | (go_simp; done) | (go_simp; rfl))) | (obtain ⟨A_, c_, e_⟩ := Kd.S_slice aG.out; subst e_; (first | (go_simp; done) | (go_simp; rfl))) | (obtain ⟨A_, c_, e_⟩ := Kd.R_slice aH.out; subst e_; (first | (go_simp; done) | (go_simp; rfl))) | (obtain ⟨A_, c_, e_⟩ := Kd.S_slice aH.out; subst e_; (first | (go_simp; done) | (go_simp; rfl)))); intro aJ hg kE hbox hb; have aE := aM (hbox); have dX := gF hg HB; have dY := gF hg HB; have bD := nM hg aC; have bI := nH hg aC; have bJ := nM hg aA; have bK := nH hg aA; replace aD := rK aD hb; replace aG := aM (Kd.S_below (by (with_reducible repeat (first | apply Kd.S_alloc | apply Kd.S_drewN | apply Kd.S_drew)); exact aG.out) hb); replace aH := rK aH hb; replace aC := rB aC hb; replace aA := rB aA hb; replace HB := rS HB hb; clear hb hbox hg; obtain ⟨dZ, cH, fW⟩ := Kd.R_slice aD.out; subst fW; have iV := bI.out; have iW := bD.out; have iX := bK.out; have iY := bJ.out; have iZ := cA3 aE.out; obtain ⟨cS, cT, fX⟩ := Kd.S_slice aG.out; subst fX; obtain ⟨eA, eB, fY⟩ := Kd.R_slice aH.out; subst fY; have jA := cA3 aC.out; have hcw_gb167_0 := cI aA.out 0; have hfw_gb167_0 := bF aA.out 0; have hcw_gb167_1 := cI aA.out 1; have hfw_gb167_1 := bF aA.out 1; have hcw_gb167_2 := cI aA.out 2; have hfw_gb167_2 := bF aA.out 2) | ((with_reducible refine gC (f := 50) rfl ?_); refine gL (some 11) Try.func50 #[.agg #[.slice bO aK.length bP, .slice bQ aW.length bU, .slice bM aV.length bN]] ?_; (with_reducible refine (spec_CardOk.calls k _ _ aK _ _ aW _ _ aV true _ ?side1 ?side2 ?side3 ?side4 ?side5 ?side6 A5.out).mono ?_); (case side1 => exact cB cA.out (bl HB.out)); (case side2 => exact cK.out); (case side3 => exact cB cL.out (bl HB.out)); (case side4 => exact cN.out); (case side5 => exact cB cD.out (bl HB.out)); (case side6 => exact cE.out); rintro e cV ⟨rfl, hb⟩; refine ⟨_, rfl, ?_⟩; replace aD := aM (kB (kr (Kd.R_mono (kF (p := ⟨aJ, 2, none⟩) (kF (p := ⟨aJ, 1, none⟩) (kF (p := ⟨aJ, 0, none⟩) (Kd.R_types aD.out aE.out (by decide)) (fun _ hk => hk.2) (.slice dZ aQ.length cH)) (fun _ hk => hk.2) (.slice cS aN.length cT)) (fun _ hk => hk.2) (.slice eA aT.length eB)) (fun _ h_ => h_.1))) hb); replace aG := aM (Kd.S_below (by (with_reducible repeat (first | apply Kd.S_alloc | apply Kd.S_drewN | apply Kd.S_drew)); exact (Kd.S_mono (Kd.S_far (p := ⟨aJ, 2, none⟩) (Kd.S_far (p := ⟨aJ, 1, none⟩) (Kd.S_far (p := ⟨aJ, 0, none⟩) (Kd.S_types aG.out aE.out (by decide)) (fun _ hk => hk.2) (.slice dZ aQ.length cH)) (fun _ hk => hk.2) (.slice cS aN.length cT)) (fun _ hk => hk.2) (.slice eA aT.length eB)) (fun _ h_ => h_.1))) hb); replace aH := aM (kB (kr (Kd.R_mono (kF (p := ⟨aJ, 2, none⟩) (kF (p := ⟨aJ, 1, none⟩) (kF (p := ⟨aJ, 0, none⟩) (Kd.R_types aH.out aE.out (by decide)) (fun _ hk => hk.2) (.slice dZ aQ.length cH)) (fun _ hk => hk.2) (.slice cS aN.length cT)) (fun _ hk => hk.2) (.slice eA aT.length eB)) (fun _ h_ => h_.1))) hb); replace aC := aM (bB (fm aC.out) hb); replace aA := aM (bB (fm aA.out) hb); replace aE := aM (bB (g := aJ) (o := .cells #[.slice dZ aQ.length cH, .slice cS aN.length cT, .slice eA aT.length eB] 43 (0, 0)) (bm aE.out) hb); replace HB := rS HB hb; (try clear hb); have jB := cA3 aC.out; have hcw_gb167_0 := cI aA.out 0; have hfw_gb167_0 := bF aA.out 0; have hcw_gb167_1 := cI aA.out 1; have hfw_gb167_1 := bF aA.out 1; have hcw_gb167_2 := cI aA.out 2; have hfw_gb167_2 := bF aA.out 2; have hcw_gb177_0 := cI aE.out 0; have hfw_gb177_0 := bF aE.out 0; have hcw_gb177_1 := cI aE.out 1; have hfw_gb177_1 := bF aE.out 1; have hcw_gb177_2 := cI aE.out 2; have hfw_gb177_2 := bF aE.out 2) | (go_at_call 80; (with_reducible refine (spec_l1In.calls a1 0 (wrap64 ((aK.length : Int) - 1)) true _ A7.out).mono ?_); rintro e w' ⟨rfl, ⟨nd, rfl⟩⟩; (try (rw [drewN_self cV]; generalize hq_ : World.drewN cV _ = cV; replace aD := qR hq_ (kr aD.out); replace aG : Aside0 (Kd.S k63 63 cV w.heap.size (fun _ => True) (.slice cS aN.length cT) aN) := ⟨by rw [← hq_]; exact (by (with_reducible repeat (first | apply Kd.S_alloc | apply Kd.S_drewN | apply Kd.S_drew)); exact aG.out)⟩; replace aH := qR hq_ (kr aH.out); replace aC := qB hq_ (bk aC.out); replace aA := qB hq_ (bk aA.out); replace aE := qB hq_ (bk aE.out); replace HB := qL hq_ (bl HB.out); clear hq_)); have dM : 0 ≤ (a1 : Int) := dT; have dN : a1 < (aK.length : Int) := dT; obtain ⟨fD, eJ, bW⟩ := Kd.at_bool cA.out a1 dM dN; cases eJ; replace bW := (HB.out.cell (World.block_lt_of_cell? w _ bW)).trans bW; replace dM := eq_true dM; replace dN := eq_true dN; have jC := cA3 aE.out; have eP : 0 ≤ (a1 : Int) := dT; have eQ : (a1 : Int) < ((aQ.length : Int) : Int) := dT; obtain ⟨cU, jJ, eR, eS, gA, jK, eU⟩ := Kd.R_form aD.out (by omega); (first | cases eR | (injection eR with ea_ en_ ec_; (first | subst ea_ | (injection ea_ with ea_; subst ea_)); subst ec_; clear en_)); have gB := aM eS; have jL := aM eU; clear eS gA eU; obtain ⟨gJ, gK⟩ := Kd.R_celln false aD.out (a1 : Int) eP eQ; replace eP := eq_true eP; replace eQ := eq_true eQ; obtain ⟨jD, hz48_⟩ := Kd.R_celln false aD.out (a1 : Int) (dT) (dT); have eK := Kd.R_putg aD.out (a1 : Int) a2; have hcw_gb166_0 : cV.cell? ⟨cG, 0, none⟩ = some _ := cI aC.out 0; have hfw_gb166_0 := bF aC.out 0; have hcw_gb166_1 : cV.cell? ⟨cG, 1, none⟩ = some _ := cI aC.out 1; have hfw_gb166_1 := bF aC.out 1; have hcw_gb166_2 : cV.cell? ⟨cG, 2, none⟩ = some _ := cI aC.out 2; have hfw_gb166_2 := bF aC.out 2; have hcw_gb167_0 : cV.cell? ⟨aI, 0, none⟩ = some _ := cI aA.out 0; have hfw_gb167_0 := bF aA.out 0; have hcw_gb167_1 : cV.cell? ⟨aI, 1, none⟩ = some _ := cI aA.out 1; have hfw_gb167_1 := bF aA.out 1; have hcw_gb167_2 : cV.cell? ⟨aI, 2, none⟩ = some _ := cI aA.out 2; have hfw_gb167_2 := bF aA.out 2) | ((with_reducible refine gate_store (t := 4) (p := 36) rfl ?_); refine store_event (t := 4) (p := 36) (v := ?vo_w49) (w1 := (cV.setCell ⟨cU, (a1 : Int).toNat, none⟩ (.bool a2))) ?hg ?ho ?hn ?hr ?_; (case ho => rfl); (case hg => rfl); (case hn => rfl); (case hr => first | (go_simp; done) | (go_simp; rfl) | (obtain ⟨A_, c_, e_⟩ := Kd.R_slice aD.out; subst e_; (first | (go_simp; done) | (go_simp; rfl))) | (obtain ⟨A_, c_, e_⟩ := Kd.S_slice aD.out; subst e_; (first | (go_simp; done) | (go_simp; rfl))) | (obtain ⟨A_, c_, e_⟩ := Kd.R_slice aG.out; subst e_; (first | (go_simp; done) | (go_simp; rfl))) | (obtain ⟨A_, c_, e_⟩ := Kd.S_slice aG.out; subst e_; (first | (go_simp; done) | (go_simp; rfl))) | (obtain ⟨A_, c_, e_⟩ := Kd.R_slice aH.out; subst e_; (first | (go_simp; done) | (go_simp; rfl))) | (obtain ⟨A_, c_, e_⟩ := Kd.S_slice aH.out; subst e_; (first | (go_simp; done) | (go_simp; rfl)))); intro eW hw; have hg : cV.grownBy eW (some cU) := (by rw [hw]; exact eK.2); have hp_ : Kd.R Kd.bool 4 eW w.heap.size (fun _ => True) (.slice (some ⟨cU, 0, none⟩) aQ.length cH) eN := (by rw [hw, fE.out]; exact eK.1); clear eK; replace aC := aM (blk_grown (bk aC.out) hg (Kd.R_ne aD.out aC.out (by decide))); replace aA := aM (blk_grown (bk aA.out) hg (Kd.R_ne aD.out aA.out (by decide))); replace aG := aM (Kd.S_over' (v := (.slice (some ⟨cU, 0, none⟩) aQ.length cH)) (by (with_reducible repeat (first | apply Kd.S_alloc | apply Kd.S_drewN | apply Kd.S_drew)); exact aG.out) (Kd.R_typed aD.out) (by decide) hg); replace aH := aM (Kd.R_over' (v := (.slice (some ⟨cU, 0, none⟩) aQ.length cH)) (kr aH.out) (Kd.R_typed aD.out) (by decide) hg); replace aE := aM (blk_grown (bk aE.out) hg (Kd.R_ne aD.out aE.out (by decide))); replace aD := aM (hp_); replace HB := aM ((by rw [hw]; exact below_set (HB.out) gB.out : Below w.heap.size w eW)); clear hg hw hp_; have jE := cA3 aC.out) | ((with_reducible refine gC (f := 81) rfl ?_); refine gL (some 40) Try.func81 #[.slice bM aV.length bN, a1] ?_; (with_reducible refine (spec_Forget.calls k _ _ aV a1 cC _ ?side1 ?side2 gH.out).mono ?_); (case side1 => exact cM (cB cD.out HB.out)); (case side2 => exact cE.out); rintro e kG ⟨jM, rfl, ho0, hb⟩; refine ⟨_, rfl, ?_⟩; have eM := aM (Kd.R_lower (Kd.R_new' ho0 (Kd.R_lt (kr aH.out))) (below_size (bl HB.out))); replace aD := rK aD hb; replace aG := aM (Kd.S_below (by (with_reducible repeat (first | apply Kd.S_alloc | apply Kd.S_drewN | apply Kd.S_drew)); exact aG.out) hb); replace aH := aM (Kd.R_elder' (kr aH.out) (Kd.R_base ho0) hb); replace aC := rB aC hb; replace aA := rB aA hb; replace aE := rB aE hb; replace HB := rS HB hb; (repeat first|clear hb|clear ho0); obtain ⟨dO, dP, gG⟩ := Kd.R_slice eM.out; subst gG; have jF := cA3 aE.out; have jG := cA3 aA.out; have hcw_gb166_0 := cI aC.out 0; have hfw_gb166_0 := bF aC.out 0; have hcw_gb166_1 := cI aC.out 1; have hfw_gb166_1 := bF aC.out 1; have hcw_gb166_2 := cI aC.out 2; have hfw_gb166_2 := bF aC.out 2))
 refine bodyPost_ret (results_cell_row rfl _ _ aI 43 #[.slice (some ⟨cU, 0, none⟩) aQ.length cH, .slice cS aN.length cT, .slice dO cC.length dP] (0, 0) _ rfl (bm aA.out) Try.underlying43 rfl (by kernel_rfl)) rfl ?_
 exact ⟨_, _, _, xW, by (with_reducible repeat (first | apply Kd.R_alloc | apply Kd.R_drewN | apply Kd.R_drew)); exact Kd.R_mono (kF (p := ⟨aI, 2, none⟩) (kF (p := ⟨aI, 1, none⟩) (kF (p := ⟨aI, 0, none⟩) (kF (p := ⟨aJ, 2, none⟩) (Kd.R_types (Kd.R_types aD.out aE.out (by decide)) aA.out (by decide)) (fun _ hk => hk.1.2) (.slice dO cC.length dP)) (fun _ hk => hk.2) (.slice (some ⟨cU, 0, none⟩) aQ.length cH)) (fun _ hk => hk.2) (.slice cS aN.length cT)) (fun _ hk => hk.2) (.slice dO cC.length dP)) (fun _ hk => trivial), by (with_reducible repeat (first | apply Kd.S_alloc | apply Kd.S_drewN | apply Kd.S_drew)); exact Kd.S_mono (Kd.S_far (p := ⟨aI, 2, none⟩) (Kd.S_far (p := ⟨aI, 1, none⟩) (Kd.S_far (p := ⟨aI, 0, none⟩) (Kd.S_far (p := ⟨aJ, 2, none⟩) (Kd.S_types (Kd.S_types aG.out aE.out (by decide)) aA.out (by decide)) (fun _ hk => hk.1.2) (.slice dO cC.length dP)) (fun _ hk => hk.2) (.slice (some ⟨cU, 0, none⟩) aQ.length cH)) (fun _ hk => hk.2) (.slice cS aN.length cT)) (fun _ hk => hk.2) (.slice dO cC.length dP)) (fun _ hk => trivial), by (with_reducible repeat (first | apply Kd.R_alloc | apply Kd.R_drewN | apply Kd.R_drew)); exact Kd.R_mono (kF (p := ⟨aI, 2, none⟩) (kF (p := ⟨aI, 1, none⟩) (kF (p := ⟨aI, 0, none⟩) (kF (p := ⟨aJ, 2, none⟩) (Kd.R_types (Kd.R_types eM.out aE.out (by decide)) aA.out (by decide)) (fun _ hk => hk.1.2) (.slice dO cC.length dP)) (fun _ hk => hk.2) (.slice (some ⟨cU, 0, none⟩) aQ.length cH)) (fun _ hk => hk.2) (.slice cS aN.length cT)) (fun _ hk => hk.2) (.slice dO cC.length dP)) (fun _ hk => trivial), bl HB.out⟩

def laws_toBoolS.l0 : Nat → List Bool → List Bool → Int → Option (List Bool)
 | 0, _, _, _ => none
 | k + 1, x0, x3, x4 => if x4 < (x0.length : Int) then (if 0 ≤ x4 then (if x4 < (x3.length : Int) then (laws_toBoolS.l0 k x0 (x3.set (x4 : Int).toNat (rdOf false x0 x4)) (wrap64 (x4 + 1))) else (none)) else (none)) else (some x3)
def laws_toBoolS.f (k : Nat) (l0 : List Bool) : Option (List Bool) := if 0 ≤ (l0.length : Int) then (if ((l0.length : Int) : Int).toNat ≤ 281474976710656 then (laws_toBoolS.l0 k l0 (List.replicate ((l0.length : Int) : Int).toNat false) 0) else (none)) else (none)
theorem laws_toBoolS.mono_l : ∀ k, (∀ y0 y1 y2, LeO (laws_toBoolS.l0 k y0 y1 y2) (laws_toBoolS.l0 (k + 1) y0 y1 y2))
 | 0 => fun _ _ _ r h => by simp [laws_toBoolS.l0] at h
 | k + 1 => by
  have ih0 := laws_toBoolS.mono_l k
  ·intro y0 y1 y2
   unfold laws_toBoolS.l0
   repeat' first|(with_reducible first|apply ih0|exact lR _|exact lN _|refine lI ?_ ?_|refine lB ?_ fun _ => ?_)|exact lN _|refine lI ?_ ?_|refine lB ?_ fun _ => ?_
theorem laws_toBoolS.mono : ∀ a0 k, LeO (laws_toBoolS.f k a0) (laws_toBoolS.f (k + 1) a0) := by
 intro a0 k
 have ih0 := laws_toBoolS.mono_l k
 unfold laws_toBoolS.f
 repeat' first|(with_reducible first|apply ih0|exact lR _|exact lN _|refine lI ?_ ?_|refine lB ?_ fun _ => ?_)|exact lN _|refine lI ?_ ?_|refine lB ?_ fun _ => ?_
set_option maxHeartbeats 60000000 in
set_option maxRecDepth 100000 in
theorem laws_toBoolS.calls (k : Nat) (A0 : Option Addr) (c0 : Nat) (l0 : List Bool) (r : List Bool) (w : World) (hr0 : Kd.C Kd.bool w A0 l0.length l0) (hc0 : l0.length ≤ c0) (h : laws_toBoolS.f k l0 = some r) :
  Calls Try.prog 82 #[.slice A0 l0.length c0] w fun e w' => ∃ bD : Value, e = .returned (bD) ∧ Kd.R Kd.bool 4 w' w.heap.size (fun _ => True) bD r ∧ Below w.heap.size w w' := by
 have cA := aM hr0
 have cO := aM hc0
 clear hr0 hc0
 have HB := aM (Below.refl w.heap.size w)
 have H : (if 0 ≤ (l0.length : Int) then (if ((l0.length : Int) : Int).toNat ≤ 281474976710656 then (laws_toBoolS.l0 k l0 (List.replicate ((l0.length : Int) : Int).toNat false) 0) else (none)) else (none)) = some r := h
 clear h
 by_cases c2 : 0 ≤ (l0.length : Int)
 case neg =>
  rw [if_neg c2] at H
  exact absurd H (by simp)
 rw [if_pos c2] at H
 have bM := eq_true c2
 have bN : decide (0 ≤ (l0.length : Int)) = true := decide_eq_true c2
 clear c2
 by_cases c3 : ((l0.length : Int) : Int).toNat ≤ 281474976710656
 case neg =>
  rw [if_neg c3] at H
  exact absurd H (by simp)
 rw [if_pos c3] at H
 have bO := eq_true c3
 have bP : decide (((l0.length : Int) : Int).toNat ≤ 281474976710656) = true := decide_eq_true c3
 clear c3
 obtain ⟨aT, aD⟩ : ∃ y_ : List Bool, y_ = (List.replicate ((l0.length : Int) : Int).toNat false) := ⟨_, rfl⟩
 replace H : (laws_toBoolS.l0 k l0 aT 0) = some r := by first | (rw [aD]; with_reducible exact H) | (have H2_ := (Option.bind_some _ _).symm.trans H; rw [aD]; with_reducible exact H2_) | (have H2_ := (Option.bind_some _ _).symm.trans H; with_reducible exact H2_) | with_reducible exact H | (rw [aD]; exact H) | exact H
 have aQ := aM aD
 clear aD
 have H' := aM H
 clear H
 go_enter Try.func82, Try.ntmps82
 go_wp2_with (first | ((with_reducible refine gD (N := 7) rfl ?_); refine Kd.R_make Kd.bool _ 4 rfl (N := 7) rfl 34 _ _ rfl (l0.length : Int) rfl rfl Try.underlying34 (.bool false) 1 info4 rfl (by decide) (by omega) false (ok := fun _ => True) (okp := fun _ => True) rfl (fun _ hk => hk) trivial (dT) (Nat.le_trans (Nat.mul_le_mul_right _ (dT : (l0.length : Int).toNat ≤ 281474976710656)) (by omega)) (Below.refl _ _) (Nat.le_refl _) ?_; intro bQ w4 ho5 hb hg_ hnew_; clear hg_ hnew_; (first | rw [← aQ.out] at ho5 | (simp only [Int.reduceToNat] at ho5; rw [← aQ.out] at ho5)); have aX := aM (Kd.R_lower ho5 (below_size (bl HB.out))); replace HB := rS HB hb; clear hb ho5))
 go_loopg [4] k (fun kq v4 w' => ∃ (aG : List Bool) (aA : Int), v4 = .int .i64 aA ∧ Aside0 (laws_toBoolS.l0 kq l0 aG aA = some r) ∧ Aside0 (kq ≤ k) ∧ Aside0 (Kd.R Kd.bool 4 w' w.heap.size (fun _ => True) bQ aG) ∧ Aside0 (Below w.heap.size w w'))
 case atStart => exact ⟨(aT), (0), xE, H', ⟨Nat.le_refl _⟩, ⟨kr aX.out⟩, ⟨bl HB.out⟩⟩
 case round =>
  clear H'
  repeat first|clear c2|clear bM|clear bN|clear p2|clear c3|clear bO|clear bP
  obtain ⟨aG, aA, rfl, HA, bI, aC, HB⟩ := hrel
  cases gk with
  | zero => exact absurd HA.out (by simp [laws_toBoolS.l0])
  | succ k1 =>
   have H := HA.out
   clear HA
   simp only [laws_toBoolS.l0] at H
   by_cases c6 : aA < (l0.length : Int)
   case neg =>
    rw [if_neg c6] at H
    have bU := decide_eq_false c6
    clear c6
    obtain rfl := Option.some.inj H
    go_wp2
    go_ret
    exact ⟨_, xW, by (with_reducible repeat (first | apply Kd.R_alloc | apply Kd.R_drewN | apply Kd.R_drew)); exact aC.out, bl HB.out⟩
   rw [if_pos c6] at H
   have bU := decide_eq_true c6
   clear c6
   obtain ⟨cL, H⟩ := gI H
   obtain ⟨cN, H⟩ := gI H
   obtain ⟨aI, aE⟩ : ∃ y_ : List Bool, y_ = (aG.set (aA : Int).toNat (rdOf false l0 aA)) := ⟨_, rfl⟩
   replace H : (laws_toBoolS.l0 k1 l0 aI (wS aA)) = some r := by first | (rw [aE]; with_reducible exact H) | (have H2_ := (Option.bind_some _ _).symm.trans H; rw [aE]; with_reducible exact H2_) | (have H2_ := (Option.bind_some _ _).symm.trans H; with_reducible exact H2_) | with_reducible exact H | (rw [aE]; exact H) | exact H
   have bA := aM aE
   clear aE
   have H' := aM H
   clear H
   have aJ : 0 ≤ (aA : Int) := dT
   have aK : aA < (l0.length : Int) := dT
   obtain ⟨cG, bW, aH⟩ := Kd.at_bool cA.out aA aJ aK
   cases bW
   replace aH := xB HB aH
   replace aJ := eq_true aJ
   replace aK := eq_true aK
   have p9 : 0 ≤ (aA : Int) := dT
   have q9 : (aA : Int) < ((aG.length : Int) : Int) := dT
   obtain ⟨aV, cC, bJ, bK, cD, cP, bL⟩ := Kd.R_form aC.out (by omega)
   (first | cases bJ | (injection bJ with ea_ en_ ec_; (first | subst ea_ | (injection ea_ with ea_; subst ea_)); subst ec_; clear en_))
   have cE := aM bK
   have cQ := aM bL
   clear bK cD bL
   obtain ⟨cH, cK⟩ := Kd.R_celln false aC.out (aA : Int) p9 q9
   replace p9 := eq_true p9
   replace q9 := eq_true q9
   have aN := Kd.R_putg aC.out (aA : Int) (rdOf false l0 aA)
   go_wp2_with (first | ((with_reducible refine gate_store (t := 4) (p := 20) rfl ?_); refine store_event (t := 4) (p := 20) (v := ?vo_w11) (w1 := (wr.setCell ⟨aV, (aA : Int).toNat, none⟩ (.bool (rdOf false l0 aA)))) ?hg ?ho ?hn ?hr ?_; (case ho => rfl); (case hg => rfl); (case hn => rfl); (case hr => first | (go_simp; done) | (go_simp; rfl) | (obtain ⟨A_, c_, e_⟩ := Kd.R_slice aC.out; subst e_; (first | (go_simp; done) | (go_simp; rfl))) | (obtain ⟨A_, c_, e_⟩ := Kd.S_slice aC.out; subst e_; (first | (go_simp; done) | (go_simp; rfl)))); intro aW hw; have hg : wr.grownBy aW (some aV) := (by rw [hw]; exact aN.2); have hp_ : Kd.R Kd.bool 4 aW w.heap.size (fun _ => True) (.slice (some ⟨aV, 0, none⟩) aG.length cC) aI := (by rw [hw, bA.out]; exact aN.1); clear aN; replace aC := aM (hp_); replace HB := aM ((by rw [hw]; exact below_set (HB.out) cE.out : Below w.heap.size w aW)); clear hg hw hp_))
   go_roundg k1
   case measure => have := bI.out; omega
   case rel => exact ⟨(aI), (wS aA), xE, H', ⟨by have := bI.out; omega⟩, ⟨kr aC.out⟩, ⟨bl HB.out⟩⟩

def laws_toIntS.l0 : Nat → List Int → List Int → Int → Option (List Int)
 | 0, _, _, _ => none
 | k + 1, x0, x3, x4 => if x4 < (x0.length : Int) then (if 0 ≤ x4 then (if x4 < (x3.length : Int) then (laws_toIntS.l0 k x0 (x3.set (x4 : Int).toNat (rd x0 x4)) (wrap64 (x4 + 1))) else (none)) else (none)) else (some x3)
def laws_toIntS.f (k : Nat) (l0 : List Int) : Option (List Int) := if 0 ≤ (l0.length : Int) then (if ((l0.length : Int) : Int).toNat ≤ 35184372088832 then (laws_toIntS.l0 k l0 (List.replicate ((l0.length : Int) : Int).toNat 0) 0) else (none)) else (none)
theorem laws_toIntS.mono_l : ∀ k, (∀ y0 y1 y2, LeO (laws_toIntS.l0 k y0 y1 y2) (laws_toIntS.l0 (k + 1) y0 y1 y2))
 | 0 => fun _ _ _ r h => by simp [laws_toIntS.l0] at h
 | k + 1 => by
  have ih0 := laws_toIntS.mono_l k
  ·intro y0 y1 y2
   unfold laws_toIntS.l0
   repeat' first|(with_reducible first|apply ih0|exact lR _|exact lN _|refine lI ?_ ?_|refine lB ?_ fun _ => ?_)|exact lN _|refine lI ?_ ?_|refine lB ?_ fun _ => ?_
theorem laws_toIntS.mono : ∀ a0 k, LeO (laws_toIntS.f k a0) (laws_toIntS.f (k + 1) a0) := by
 intro a0 k
 have ih0 := laws_toIntS.mono_l k
 unfold laws_toIntS.f
 repeat' first|(with_reducible first|apply ih0|exact lR _|exact lN _|refine lI ?_ ?_|refine lB ?_ fun _ => ?_)|exact lN _|refine lI ?_ ?_|refine lB ?_ fun _ => ?_
set_option maxHeartbeats 60000000 in
set_option maxRecDepth 100000 in
theorem laws_toIntS.calls (k : Nat) (A0 : Option Addr) (c0 : Nat) (l0 : List Int) (r : List Int) (w : World) (hr0 : Kd.C (Kd.int .i64) w A0 l0.length l0) (hc0 : l0.length ≤ c0) (h : laws_toIntS.f k l0 = some r) :
  Calls Try.prog 188 #[.slice A0 l0.length c0] w fun e w' => ∃ bD : Value, e = .returned (bD) ∧ Kd.R (Kd.int .i64) 3 w' w.heap.size (fun _ => True) bD r ∧ Below w.heap.size w w' := by
 have cA := aM hr0
 have cO := aM hc0
 clear hr0 hc0
 have HB := aM (Below.refl w.heap.size w)
 have H : (if 0 ≤ (l0.length : Int) then (if ((l0.length : Int) : Int).toNat ≤ 35184372088832 then (laws_toIntS.l0 k l0 (List.replicate ((l0.length : Int) : Int).toNat 0) 0) else (none)) else (none)) = some r := h
 clear h
 by_cases c2 : 0 ≤ (l0.length : Int)
 case neg =>
  rw [if_neg c2] at H
  exact absurd H (by simp)
 rw [if_pos c2] at H
 have bM := eq_true c2
 have bN : decide (0 ≤ (l0.length : Int)) = true := decide_eq_true c2
 clear c2
 by_cases c3 : ((l0.length : Int) : Int).toNat ≤ 35184372088832
 case neg =>
  rw [if_neg c3] at H
  exact absurd H (by simp)
 rw [if_pos c3] at H
 have bO := eq_true c3
 have bP : decide (((l0.length : Int) : Int).toNat ≤ 35184372088832) = true := decide_eq_true c3
 clear c3
 obtain ⟨aT, aD⟩ : ∃ y_ : List Int, y_ = (List.replicate ((l0.length : Int) : Int).toNat 0) := ⟨_, rfl⟩
 replace H : (laws_toIntS.l0 k l0 aT 0) = some r := by first | (rw [aD]; with_reducible exact H) | (have H2_ := (Option.bind_some _ _).symm.trans H; rw [aD]; with_reducible exact H2_) | (have H2_ := (Option.bind_some _ _).symm.trans H; with_reducible exact H2_) | with_reducible exact H | (rw [aD]; exact H) | exact H
 have aQ := aM aD
 clear aD
 have H' := aM H
 clear H
 go_enter Try.func188, Try.ntmps188
 go_wp2_with (first | ((with_reducible refine gD (N := 7) rfl ?_); refine Kd.R_make (Kd.int .i64) _ 3 rfl (N := 7) rfl 61 _ _ rfl (l0.length : Int) rfl rfl Try.underlying61 (.int .i64 0) 8 info3 rfl (by decide) (by omega) 0 (ok := fun _ => True) (okp := fun _ => True) rfl (fun _ hk => hk) trivial (dT) (Nat.le_trans (Nat.mul_le_mul_right _ (dT : (l0.length : Int).toNat ≤ 35184372088832)) (by omega)) (Below.refl _ _) (Nat.le_refl _) ?_; intro bQ w4 ho5 hb hg_ hnew_; clear hg_ hnew_; (first | rw [← aQ.out] at ho5 | (simp only [Int.reduceToNat] at ho5; rw [← aQ.out] at ho5)); have aX := aM (Kd.R_lower ho5 (below_size (bl HB.out))); replace HB := rS HB hb; clear hb ho5))
 go_loopg [4] k (fun kq v4 w' => ∃ (aG : List Int) (aA : Int), v4 = .int .i64 aA ∧ Aside0 (laws_toIntS.l0 kq l0 aG aA = some r) ∧ Aside0 (kq ≤ k) ∧ Aside0 (Kd.R (Kd.int .i64) 3 w' w.heap.size (fun _ => True) bQ aG) ∧ Aside0 (Below w.heap.size w w'))
 case atStart => exact ⟨(aT), (0), xE, H', ⟨Nat.le_refl _⟩, ⟨kr aX.out⟩, ⟨bl HB.out⟩⟩
 case round =>
  clear H'
  repeat first|clear c1|clear c2|clear bM|clear bN|clear p2|clear c3|clear bO|clear bP
  obtain ⟨aG, aA, rfl, HA, bI, aC, HB⟩ := hrel
  cases gk with
  | zero => exact absurd HA.out (by simp [laws_toIntS.l0])
  | succ k1 =>
   have H := HA.out
   clear HA
   simp only [laws_toIntS.l0] at H
   by_cases c6 : aA < (l0.length : Int)
   case neg =>
    rw [if_neg c6] at H
    have bU := decide_eq_false c6
    clear c6
    obtain rfl := Option.some.inj H
    go_wp2
    go_ret
    exact ⟨_, xW, by (with_reducible repeat (first | apply Kd.R_alloc | apply Kd.R_drewN | apply Kd.R_drew)); exact aC.out, bl HB.out⟩
   rw [if_pos c6] at H
   have bU := decide_eq_true c6
   clear c6
   obtain ⟨cL, H⟩ := gI H
   obtain ⟨cN, H⟩ := gI H
   obtain ⟨aI, aE⟩ : ∃ y_ : List Int, y_ = (aG.set (aA : Int).toNat (rd l0 aA)) := ⟨_, rfl⟩
   replace H : (laws_toIntS.l0 k1 l0 aI (wS aA)) = some r := by first | (rw [aE]; with_reducible exact H) | (have H2_ := (Option.bind_some _ _).symm.trans H; rw [aE]; with_reducible exact H2_) | (have H2_ := (Option.bind_some _ _).symm.trans H; with_reducible exact H2_) | with_reducible exact H | (rw [aE]; exact H) | exact H
   have bA := aM aE
   clear aE
   have H' := aM H
   clear H
   have aJ : 0 ≤ (aA : Int) := dT
   have aK : aA < (l0.length : Int) := dT
   obtain ⟨cG, bW, aH⟩ := Kd.at_int cA.out aA aJ aK
   cases bW
   replace aH := xB HB aH
   replace aJ := eq_true aJ
   replace aK := eq_true aK
   have p9 : 0 ≤ (aA : Int) := dT
   have q9 : (aA : Int) < ((aG.length : Int) : Int) := dT
   obtain ⟨aV, cC, bJ, bK, cD, cP, bL⟩ := Kd.R_form aC.out (by omega)
   (first | cases bJ | (injection bJ with ea_ en_ ec_; (first | subst ea_ | (injection ea_ with ea_; subst ea_)); subst ec_; clear en_))
   have cE := aM bK
   have cQ := aM bL
   clear bK cD bL
   obtain ⟨cH, cK⟩ := Kd.R_celln 0 aC.out (aA : Int) p9 q9
   replace p9 := eq_true p9
   replace q9 := eq_true q9
   have aN := Kd.R_putg aC.out (aA : Int) (rd l0 aA)
   go_wp2_with (first | ((with_reducible refine gate_store (t := 3) (p := 20) rfl ?_); refine store_event (t := 3) (p := 20) (v := ?vo_w11) (w1 := (wr.setCell ⟨aV, (aA : Int).toNat, none⟩ (.int .i64 (rd l0 aA)))) ?hg ?ho ?hn ?hr ?_; (case ho => rfl); (case hg => rfl); (case hn => rfl); (case hr => first | (go_simp; done) | (go_simp; rfl) | (obtain ⟨A_, c_, e_⟩ := Kd.R_slice aC.out; subst e_; (first | (go_simp; done) | (go_simp; rfl))) | (obtain ⟨A_, c_, e_⟩ := Kd.S_slice aC.out; subst e_; (first | (go_simp; done) | (go_simp; rfl)))); intro aW hw; have hg : wr.grownBy aW (some aV) := (by rw [hw]; exact aN.2); have hp_ : Kd.R (Kd.int .i64) 3 aW w.heap.size (fun _ => True) (.slice (some ⟨aV, 0, none⟩) aG.length cC) aI := (by rw [hw, bA.out]; exact aN.1); clear aN; replace aC := aM (hp_); replace HB := aM ((by rw [hw]; exact below_set (HB.out) cE.out : Below w.heap.size w aW)); clear hg hw hp_))
   go_roundg k1
   case measure => have := bI.out; omega
   case rel => exact ⟨(aI), (wS aA), xE, H', ⟨by have := bI.out; omega⟩, ⟨kr aC.out⟩, ⟨bl HB.out⟩⟩

def laws_toMember.f (k : Nat) (aA : Int) (aC : List Int) : Option (Int × List Int) := (laws_toIntS.f k aC).bind fun aD => (some (aA, aD))
theorem laws_toMember.mono : ∀ a0 a1 k, LeO (laws_toMember.f k a0 a1) (laws_toMember.f (k + 1) a0 a1) := by
 intro a0 a1 k
 unfold laws_toMember.f
 repeat' first|(with_reducible first|apply laws_toIntS.mono|exact lR _|exact lN _|refine lI ?_ ?_|refine lB ?_ fun _ => ?_)|exact lN _|refine lI ?_ ?_|refine lB ?_ fun _ => ?_
set_option maxHeartbeats 60000000 in
set_option maxRecDepth 100000 in
theorem laws_toMember.calls (k : Nat) (aE : Int) (aI : Option Addr) (aJ : Nat) (aD : List Int) (r1 : Int) (r2 : List Int) (w : World) (hr0_1 : Kd.C (Kd.int .i64) w aI aD.length aD) (hc0_1 : aD.length ≤ aJ) (h : laws_toMember.f k aE aD = some (r1, r2)) :
  Calls Try.prog 148 #[.agg #[aE, .slice aI aD.length aJ]] w fun e w' => ∃ bM : Value, e = .returned (.agg #[r1, bM]) ∧ Kd.R (Kd.int .i64) 3 w' w.heap.size (fun _ => True) bM r2 ∧ Below w.heap.size w w' := by
 have bP := Try.underlying165
 have cL := Try.underlying63
 have bK := aM hr0_1
 have bL := aM hc0_1
 clear hr0_1 hc0_1
 have HB := aM (Below.refl w.heap.size w)
 have H : ((laws_toIntS.f k aD).bind fun aH => (some (aE, aH))) = some (r1, r2) := h
 clear h
 obtain ⟨aH, bN, H⟩ := hB H
 have A2 := aM bN
 clear bN
 simp only [Option.some.injEq, Prod.mk.injEq] at H
 obtain ⟨rfl, rfl⟩ := H
 go_enter Try.func148, Try.ntmps148
 go_wp2_with (first | ((with_reducible refine gD (N := 1) rfl ?_); refine bE (N := 1) (cs := #[aE, .slice aI aD.length aJ]) (t := 165) ?_; intro bQ hg w3 hbox hb; have aA := aM (hbox); have bU := gF hg HB; have bW := gF hg HB; replace HB := rS HB hb; clear hb hbox hg) | ((with_reducible refine gD (N := 2) rfl ?_); refine bE (N := 2) (cs := #[.int .i64 0, .slice none 0 0]) (t := 63) ?_; intro aK hg w4 hbox hb; have aC := aM (hbox); have cA := gF hg HB; have cC := gF hg HB; have aN := nM hg aA; have aQ := nH hg aA; replace aA := rB aA hb; replace HB := rS HB hb; clear hb hbox hg) | ((with_reducible refine gD (N := 3) rfl ?_); refine bE (N := 3) (cs := #[.int .i64 0, .slice none 0 0]) (t := 63) ?_; intro bI hg w5 hbox hb; have aG := aM (hbox); have cD := gF hg HB; have cE := gF hg HB; have aT := nM hg aA; have aV := nH hg aA; have aW := nM hg aC; have aX := nH hg aC; replace aA := rB aA hb; replace aC := rB aC hb; replace HB := rS HB hb; clear hb hbox hg; have cN := aN.out; have cO := aQ.out; have cP := aT.out; have cQ := aV.out; have cR := cA2 aA.out; have cS := aX.out; have cT := aW.out; have cG := cA2 aG.out) | ((with_reducible refine gC (f := 188) rfl ?_); refine gL (some 9) Try.func188 #[.slice aI aD.length aJ] ?_; (with_reducible refine (laws_toIntS.calls k _ _ aD aH _ ?side1 ?side2 A2.out).mono ?_); (case side1 => exact cB bK.out (bl HB.out)); (case side2 => exact bL.out); rintro e cV ⟨cU, rfl, ho0, hb⟩; refine ⟨_, rfl, ?_⟩; have bJ := aM (Kd.R_lower ho0 (below_size (bl HB.out))); replace aA := aM (bB (fm aA.out) hb); replace aC := aM (bB (fm aC.out) hb); replace aG := aM (bB (g := bI) (o := .cells #[aE, .slice none 0 0] 63 (0, 0)) (by (with_reducible repeat (first | refine blk_drewN ?_ _ | refine blk_drew ?_ | refine blk_alloc ?_ _)); refine blk_put (cs := #[.int .i64 0, .slice none 0 0]) ?_ 0 _ rfl; (with_reducible repeat (first | refine blk_drewN ?_ _ | refine blk_drew ?_ | refine blk_alloc ?_ _)); exact aG.out) hb); replace HB := rS HB hb; (repeat first|clear hb|clear ho0); obtain ⟨bA, bD, bO⟩ := Kd.R_slice bJ.out; subst bO; have cH := cA2 aG.out; have cK := cA2 aC.out))
 refine bodyPost_ret (results_cell_row rfl _ _ aK 63 #[aE, .slice bA aH.length bD] (0, 0) _ rfl (bm aC.out) Try.underlying63 rfl (by kernel_rfl)) rfl ?_
 exact ⟨_, xW, by (with_reducible repeat (first | apply Kd.R_alloc | apply Kd.R_drewN | apply Kd.R_drew)); exact Kd.R_mono (kF (p := ⟨aK, 1, none⟩) (kF (p := ⟨aK, 0, none⟩) (kF (p := ⟨bI, 1, none⟩) (Kd.R_types (Kd.R_types bJ.out aG.out (by decide)) aC.out (by decide)) (fun _ hk => hk.1.2) (.slice bA aH.length bD)) (fun _ hk => hk.2) (.int .i64 aE)) (fun _ hk => hk.2) (.slice bA aH.length bD)) (fun _ hk => trivial), bl HB.out⟩

def laws_toMemberS.l0 : Nat → List (S165) → List (S63) → Int → Option ((List (S63)))
 | 0, _, _, _ => none
 | k + 1, x0, x3, x4 => if x4 < (x0.length : Int) then (if 0 ≤ x4 then ((laws_toMember.f k ((rd_T165 x0 x4).f0) ((rd_T165 x0 x4).f1)).bind fun aA => (if x4 < (x3.length : Int) then (laws_toMemberS.l0 k x0 (x3.set (x4 : Int).toNat (⟨aA.1, aA.2⟩ : S63)) (wrap64 (x4 + 1))) else (none))) else (none)) else (some x3)
def laws_toMemberS.f (k : Nat) (l0 : List (S165)) : Option ((List (S63))) := if 0 ≤ (l0.length : Int) then (if ((l0.length : Int) : Int).toNat ≤ 8796093022208 then (laws_toMemberS.l0 k l0 (List.replicate ((l0.length : Int) : Int).toNat z63) 0) else (none)) else (none)
theorem laws_toMemberS.mono_l : ∀ k, (∀ y0 y1 y2, LeO (laws_toMemberS.l0 k y0 y1 y2) (laws_toMemberS.l0 (k + 1) y0 y1 y2))
 | 0 => fun _ _ _ r h => by simp [laws_toMemberS.l0] at h
 | k + 1 => by
  have ih0 := laws_toMemberS.mono_l k
  ·intro y0 y1 y2
   unfold laws_toMemberS.l0
   repeat' first|(with_reducible first|apply ih0|apply laws_toMember.mono|exact lR _|exact lN _|refine lI ?_ ?_|refine lB ?_ fun _ => ?_)|exact lN _|refine lI ?_ ?_|refine lB ?_ fun _ => ?_
theorem laws_toMemberS.mono : ∀ a0 k, LeO (laws_toMemberS.f k a0) (laws_toMemberS.f (k + 1) a0) := by
 intro a0 k
 have ih0 := laws_toMemberS.mono_l k
 unfold laws_toMemberS.f
 repeat' first|(with_reducible first|apply ih0|apply laws_toMember.mono|exact lR _|exact lN _|refine lI ?_ ?_|refine lB ?_ fun _ => ?_)|exact lN _|refine lI ?_ ?_|refine lB ?_ fun _ => ?_
set_option maxHeartbeats 60000000 in
set_option maxRecDepth 100000 in
theorem laws_toMemberS.calls (k : Nat) (A0 : Option Addr) (c0 : Nat) (l0 : List (S165)) (r : List (S63)) (w : World) (hr0 : Kd.C k165 w A0 l0.length l0) (hc0 : l0.length ≤ c0) (h : laws_toMemberS.f k l0 = some r) :
  Calls Try.prog 83 #[.slice A0 l0.length c0] w fun e w' => ∃ cS : Value, e = .returned (cS) ∧ Kd.S k63 63 w' w.heap.size (fun _ => True) cS r ∧ Below w.heap.size w w' := by
 have dO := Try.underlying165
 have dQ := Try.underlying63
 have dF := aM hr0
 have dY := aM hc0
 clear hr0 hc0
 have HB := aM (Below.refl w.heap.size w)
 have H : (if 0 ≤ (l0.length : Int) then (if ((l0.length : Int) : Int).toNat ≤ 8796093022208 then (laws_toMemberS.l0 k l0 (List.replicate ((l0.length : Int) : Int).toNat z63) 0) else (none)) else (none)) = some r := h
 clear h
 by_cases c2 : 0 ≤ (l0.length : Int)
 case neg =>
  rw [if_neg c2] at H
  exact absurd H (by simp)
 rw [if_pos c2] at H
 have cV := eq_true c2
 have cW : decide (0 ≤ (l0.length : Int)) = true := decide_eq_true c2
 clear c2
 by_cases c3 : ((l0.length : Int) : Int).toNat ≤ 8796093022208
 case neg =>
  rw [if_neg c3] at H
  exact absurd H (by simp)
 rw [if_pos c3] at H
 have cX := eq_true c3
 have cY : decide (((l0.length : Int) : Int).toNat ≤ 8796093022208) = true := decide_eq_true c3
 clear c3
 obtain ⟨bP, aG⟩ : ∃ y_ : List (S63), y_ = (List.replicate ((l0.length : Int) : Int).toNat z63) := ⟨_, rfl⟩
 replace H : (laws_toMemberS.l0 k l0 bP 0) = some r := by first | (rw [aG]; with_reducible exact H) | (have H2_ := (Option.bind_some _ _).symm.trans H; rw [aG]; with_reducible exact H2_) | (have H2_ := (Option.bind_some _ _).symm.trans H; with_reducible exact H2_) | with_reducible exact H | (rw [aG]; exact H) | exact H
 have bM := aM aG
 clear aG
 have H' := aM H
 clear H
 go_enter Try.func83, Try.ntmps83
 go_wp2_with (first | ((with_reducible refine gD (N := 7) rfl ?_); refine Kd.S_make k63 _ 63 rfl (N := 7) rfl 40 _ _ rfl (l0.length : Int) rfl rfl Try.underlying40 (.agg #[(.int .i64 0), (.slice none 0 0)]) 32 info63 rfl (by decide) (by omega) z63 (ok := fun _ => True) (okp := fun _ => True) (k63_mkM _ _ _ z63 (Kd.R_nil _ _ _ _ _)) (fun _ hk => hk) trivial (dT) (Nat.le_trans (Nat.mul_le_mul_right _ (dT : (l0.length : Int).toNat ≤ 8796093022208)) (by omega)) (Below.refl _ _) (Nat.le_refl _) ?_; intro dA w4 ho5 hb hg_ hnew_; clear hg_ hnew_; (first | rw [← bM.out] at ho5 | (simp only [Int.reduceToNat] at ho5; rw [← bM.out] at ho5)); have cO := aM (Kd.S_lower ho5 (below_size (bl HB.out))); replace HB := rS HB hb; clear hb ho5))
 go_loopg [4] k (fun kq v4 w' => ∃ (aD : List (S63)) (aA : Int), v4 = .int .i64 aA ∧ Aside0 (laws_toMemberS.l0 kq l0 aD aA = some r) ∧ Aside0 (kq ≤ k) ∧ Aside0 (Kd.S k63 63 w' w.heap.size (fun _ => True) dA aD) ∧ Aside0 (Below w.heap.size w w'))
 case atStart => exact ⟨(bP), (0), xE, H', ⟨Nat.le_refl _⟩, ⟨by (with_reducible repeat (first | apply Kd.S_alloc | apply Kd.S_drewN | apply Kd.S_drew)); exact cO.out⟩, ⟨bl HB.out⟩⟩
 case round =>
  clear H'
  repeat first|clear c2|clear cV|clear cW|clear p2|clear c3|clear cX|clear cY
  obtain ⟨aD, aA, rfl, HA, cT, aC, HB⟩ := hrel
  cases gk with
  | zero => exact absurd HA.out (by simp [laws_toMemberS.l0])
  | succ k1 =>
   have H := HA.out
   clear HA
   simp only [laws_toMemberS.l0] at H
   by_cases c6 : aA < (l0.length : Int)
   case neg =>
    rw [if_neg c6] at H
    have dB := decide_eq_false c6
    clear c6
    obtain rfl := Option.some.inj H
    go_wp2
    go_ret
    exact ⟨_, xW, by (with_reducible repeat (first | apply Kd.S_alloc | apply Kd.S_drewN | apply Kd.S_drew)); exact aC.out, bl HB.out⟩
   rw [if_pos c6] at H
   have dB := decide_eq_true c6
   clear c6
   obtain ⟨dR, H⟩ := gI H
   obtain ⟨⟨aJ, aT⟩, cU, H⟩ := hB H
   try dsimp only at H
   have A8 := aM cU
   clear cU
   obtain ⟨dS, H⟩ := gI H
   obtain ⟨bI, aH⟩ : ∃ y_ : List (S63), y_ = (aD.set (aA : Int).toNat (⟨aJ, aT⟩ : S63)) := ⟨_, rfl⟩
   replace H : (laws_toMemberS.l0 k1 l0 bI (wS aA)) = some r := by first | (rw [aH]; with_reducible exact H) | (have H2_ := (Option.bind_some _ _).symm.trans H; rw [aH]; with_reducible exact H2_) | (have H2_ := (Option.bind_some _ _).symm.trans H; with_reducible exact H2_) | with_reducible exact H | (rw [aH]; exact H) | exact H
   have cP := aM aH
   clear aH
   have H' := aM H
   clear H
   have bJ : 0 ≤ (aA : Int) := dT
   have bK : aA < (l0.length : Int) := dT
   obtain ⟨dP, bQ, bU, dC, aN, aQ, hl204_1, hi204_1⟩ := at_T165 dF.out aA bJ bK
   cases dC
   replace aN := xB HB aN
   replace aQ := xB HB aQ
   have bN := aM hi204_1
   have bO := aM hl204_1
   clear hi204_1 hl204_1
   replace bJ := eq_true bJ
   replace bK := eq_true bK
   go_wp2_with (first | ((with_reducible refine gC (f := 148) rfl ?_); refine gL (some 20) Try.func148 #[.agg #[((rd_T165 l0 aA).f0), .slice bQ ((rd_T165 l0 aA).f1).length bU]] ?_; (with_reducible refine (laws_toMember.calls k1 ((rd_T165 l0 aA).f0) _ _ ((rd_T165 l0 aA).f1) aJ aT _ ?side1 ?side2 A8.out).mono ?_); (case side1 => exact cM (cB bN.out HB.out)); (case side2 => exact bO.out); rintro e aK ⟨aV, rfl, ho0, hb⟩; refine ⟨_, rfl, ?_⟩; have aI := aM (Kd.R_lower ho0 (below_size (bl HB.out))); replace aC := aM (Kd.S_elder' (by (with_reducible repeat (first | apply Kd.S_alloc | apply Kd.S_drewN | apply Kd.S_drew)); exact aC.out) (Kd.R_base ho0) hb); replace HB := rS HB hb; (repeat first|clear hb|clear ho0); have bW : 0 ≤ (aA : Int) := dT; have cA : (aA : Int) < ((aD.length : Int) : Int) := dT; obtain ⟨aE, cC, cD, cE, dD, dU, cG⟩ := Kd.S_form aC.out (by omega); (first | cases cD | (injection cD with ea_ en_ ec_; (first | subst ea_ | (injection ea_ with ea_; subst ea_)); subst ec_; clear en_)); have cH := aM cE; have dV := aM cG; clear cE dD cG; obtain ⟨_, dW, cQ, cK, aW, aX, _, _⟩ := Kd.S_elem aC.out z63 (aA : Int) bW cA; obtain ⟨ve10_1, rfl, ge10_1⟩ := k63_openM cK; have dG : aK.cell? ⟨aE, (aA : Int).toNat * 2, none⟩ = some ((rd_T63 aD aA).f0) := aW 0 _ rfl; have dH : aK.cell? ⟨aE, (aA : Int).toNat * 2 + 1, none⟩ = some (ve10_1) := aW 1 _ rfl; have dI : aK.frozen? ⟨aE, (aA : Int).toNat * 2, none⟩ = false := aX 0; have dJ : aK.frozen? ⟨aE, (aA : Int).toNat * 2 + 1, none⟩ = false := aX 1; clear cQ aW aX cK; replace bW := eq_true bW; replace cA := eq_true cA; have n_ := aM (Kd.S_mono (ok' := (fun k_ => some k_ ≠ (aV : Value).ownBlock)) aC.out (fun k_ hk => hk.2)); clear aC; have aC := n_; clear n_; have dE := aM (show Kd.S k63 63 aK w.heap.size (fun k_ => ((fun _ => True)) k_ ∧ ¬ ((fun k_ => some k_ = (aV : Value).ownBlock)) k_) (.slice (some ⟨aE, 0, none⟩) aD.length cC) aD from (by (with_reducible repeat (first | apply Kd.S_alloc | apply Kd.S_drewN | apply Kd.S_drew)); exact Kd.S_mono aC.out (fun k_ hk => ⟨trivial, fun e_ => hk e_⟩))); obtain ⟨oki12, dX, cR, cL, bA, bD, hoki12, hH12⟩ := Kd.S_elem dE.out z63 (aA : Int) (dT) (by have h_ : (aA : Int) < ((aD.length : Int) : Int) := dT; first | exact h_ | (have e_ := (Kd.S_reads' aC.out).1; omega) | simpa using h_); obtain ⟨ve12_1, rfl, ge12_1⟩ := k63_openM cL; have bL := Kd.S_seg hH12 (dT) (by have h_ : (aA : Int) < ((aD.length : Int) : Int) := dT; first | exact h_ | (have e_ := (Kd.S_reads' aC.out).1; omega) | simpa using h_) (seg := [.int .i64 aJ, aV]) (j := 0) (show 2 ≤ 2 from by decide) (x' := (⟨aJ, aT⟩ : S63)) (k63_mkM _ _ _ (⟨aJ, aT⟩ : S63) (Kd.R_mono (Kd.R_tight rfl (Kd.R_mono (ok' := fun k_ => ((fun _ => True)) k_ ∧ k_ ≠ aE) (Kd.R_apart' (aI.out) (Kd.S_typed aC.out) (by decide)) (fun k_ hk => ⟨trivial, fun e_ => (hk.2) (by rw [e_]; rfl)⟩))) (fun _ h_ => Or.inr (h_)))) (fun _ hk => hk) (fun k_ hk_ => ((Kd.R_mono (ok' := fun k_ => ((fun _ => True)) k_ ∧ k_ ≠ aE) (Kd.R_apart' (aI.out) (Kd.S_typed aC.out) (by decide)) (fun k_ hk => ⟨trivial, fun e_ => (hk.2) (by rw [e_]; rfl)⟩))).1 k_ hk_.symm); have dK := cZ 2 (bA 0 _ rfl); have dL := fZ 2 (bD 0); have dM := cJ 2 (bA 1 _ rfl); have dN := fJ 2 (bD 1); clear cR bA bD cL hoki12 hH12) | ((with_reducible refine gate_store (t := 63) (p := 21) rfl ?_); refine store_event (t := 63) (p := 21) (v := ?vo_w13) (w1 := ((aK.setCell ⟨aE, (aA : Int).toNat * 2, none⟩ (.int .i64 aJ)).setCell ⟨aE, (aA : Int).toNat * 2 + 1, none⟩ (aV))) ?hg ?ho ?hn ?hr ?_; (case ho => rfl); (case hg => rfl); (case hn => rfl); (case hr => first | (go_simp; done) | (go_simp; rfl) | (obtain ⟨A_, c_, e_⟩ := Kd.R_slice aI.out; subst e_; (first | (go_simp; done) | (go_simp; rfl))) | (obtain ⟨A_, c_, e_⟩ := Kd.S_slice aI.out; subst e_; (first | (go_simp; done) | (go_simp; rfl))) | (obtain ⟨A_, c_, e_⟩ := Kd.R_slice aC.out; subst e_; (first | (go_simp; done) | (go_simp; rfl))) | (obtain ⟨A_, c_, e_⟩ := Kd.S_slice aC.out; subst e_; (first | (go_simp; done) | (go_simp; rfl)))); intro cN hw; have hg : aK.grownBy cN (some aE) := (by rw [hw]; exact bL.2); have hp_ : Kd.S k63 63 cN w.heap.size (fun _ => True) (.slice (some ⟨aE, 0, none⟩) aD.length cC) bI := (by rw [hw, cP.out]; exact bL.1); clear bL; replace aC := aM (hp_); replace HB := aM ((by rw [hw]; exact below_set (below_set (HB.out) cH.out) cH.out : Below w.heap.size w cN)); clear aI; clear hg hw hp_))
   go_roundg k1
   case measure => have := cT.out; omega
   case rel => exact ⟨(bI), (wS aA), xE, H', ⟨by have := cT.out; omega⟩, ⟨by (with_reducible repeat (first | apply Kd.S_alloc | apply Kd.S_drewN | apply Kd.S_drew)); exact aC.out⟩, ⟨bl HB.out⟩⟩

def laws_toHeard.f (aA aC aD aE : Int) : Option (Int × Int × Int × Int) := some (aA, aC, aD, aE)
set_option maxHeartbeats 60000000 in
set_option maxRecDepth 100000 in
theorem laws_toHeard.calls (aD aE aG aH r1 r2 r3 r4 : Int) (w : World) (h : laws_toHeard.f aD aE aG aH = some (r1, r2, r3, r4)) :
  Calls Try.prog 149 #[.agg #[aD, aE, aG, aH]] w fun e w' => e = .returned (.agg #[r1, r2, r3, r4]) ∧ Below w.heap.size w w' := by
 have aX := Try.underlying168
 have bA := Try.underlying138
 have HB := aM (Below.refl w.heap.size w)
 have H : (some (aD, aE, aG, aH)) = some (r1, r2, r3, r4) := h
 clear h
 simp only [Option.some.injEq, Prod.mk.injEq] at H
 obtain ⟨rfl, rfl, rfl, rfl⟩ := H
 go_enter Try.func149, Try.ntmps149
 go_wp2_with (first | ((with_reducible refine gD (N := 1) rfl ?_); refine bE (N := 1) (cs := #[aD, aE, aG, aH]) (t := 168) ?_; intro bD hg w2 hbox hb; have aA := aM (hbox); have bI := gF hg HB; have bJ := gF hg HB; replace HB := rS HB hb; clear hb hbox hg) | ((with_reducible refine gD (N := 2) rfl ?_); refine bE (N := 2) (cs := #[.int .i64 0, .int .i64 0, .int .i64 0, .int .i64 0]) (t := 138) ?_; intro aV hg w3 hbox hb; have aC := aM (hbox); have bK := gF hg HB; have bL := gF hg HB; have aI := nM hg aA; have aJ := nH hg aA; replace aA := rB aA hb; replace HB := rS HB hb; clear hb hbox hg) | ((with_reducible refine gD (N := 3) rfl ?_); refine bE (N := 3) (cs := #[.int .i64 0, .int .i64 0, .int .i64 0, .int .i64 0]) (t := 138) ?_; intro bM hg w4 hbox hb; have aW := aM (hbox); have bN := gF hg HB; have bO := gF hg HB; have aK := nM hg aA; have aN := nH hg aA; have aQ := nM hg aC; have aT := nH hg aC; replace aA := rB aA hb; replace aC := rB aC hb; replace HB := rS HB hb; clear hb hbox hg; have bQ := aI.out; have bU := aJ.out; have bW := aK.out; have cA := aN.out; have cC := cA4 aA.out; have cD := aT.out; have cE := aQ.out; have cG := cA4 aW.out; have bP := cA4 aC.out))
 refine bodyPost_ret (results_cell_row rfl _ _ aV 138 #[aD, aE, aG, aH] (0, 0) _ rfl (bm aC.out) Try.underlying138 rfl (by kernel_rfl)) rfl ?_
 exact ⟨xW, bl HB.out⟩

def laws_toHeardS.l0 : Nat → List (S168) → List (S138) → Int → Option ((List (S138)))
 | 0, _, _, _ => none
 | k + 1, x0, x3, x4 => if x4 < (x0.length : Int) then (if 0 ≤ x4 then ((laws_toHeard.f ((rd_T168 x0 x4).f0) ((rd_T168 x0 x4).f1) ((rd_T168 x0 x4).f2) ((rd_T168 x0 x4).f3)).bind fun aA => (if x4 < (x3.length : Int) then (laws_toHeardS.l0 k x0 (x3.set (x4 : Int).toNat (⟨aA.1, aA.2.1, aA.2.2.1, aA.2.2.2⟩ : S138)) (wrap64 (x4 + 1))) else (none))) else (none)) else (some x3)
def laws_toHeardS.f (k : Nat) (l0 : List (S168)) : Option ((List (S138))) := if 0 ≤ (l0.length : Int) then (if ((l0.length : Int) : Int).toNat ≤ 8796093022208 then (laws_toHeardS.l0 k l0 (List.replicate ((l0.length : Int) : Int).toNat z138) 0) else (none)) else (none)
theorem laws_toHeardS.mono_l : ∀ k, (∀ y0 y1 y2, LeO (laws_toHeardS.l0 k y0 y1 y2) (laws_toHeardS.l0 (k + 1) y0 y1 y2))
 | 0 => fun _ _ _ r h => by simp [laws_toHeardS.l0] at h
 | k + 1 => by
  have ih0 := laws_toHeardS.mono_l k
  ·intro y0 y1 y2
   unfold laws_toHeardS.l0
   repeat' first|(with_reducible first|apply ih0|exact lR _|exact lN _|refine lI ?_ ?_|refine lB ?_ fun _ => ?_)|exact lN _|refine lI ?_ ?_|refine lB ?_ fun _ => ?_
theorem laws_toHeardS.mono : ∀ a0 k, LeO (laws_toHeardS.f k a0) (laws_toHeardS.f (k + 1) a0) := by
 intro a0 k
 have ih0 := laws_toHeardS.mono_l k
 unfold laws_toHeardS.f
 repeat' first|(with_reducible first|apply ih0|exact lR _|exact lN _|refine lI ?_ ?_|refine lB ?_ fun _ => ?_)|exact lN _|refine lI ?_ ?_|refine lB ?_ fun _ => ?_
set_option maxHeartbeats 60000000 in
set_option maxRecDepth 100000 in
theorem laws_toHeardS.calls (k : Nat) (A0 : Option Addr) (c0 : Nat) (l0 : List (S168)) (r : List (S138)) (w : World) (hr0 : Kd.C k168 w A0 l0.length l0) (hc0 : l0.length ≤ c0) (h : laws_toHeardS.f k l0 = some r) :
  Calls Try.prog 84 #[.slice A0 l0.length c0] w fun e w' => ∃ cR : Value, e = .returned (cR) ∧ Kd.R k138 138 w' w.heap.size (fun _ => True) cR r ∧ Below w.heap.size w w' := by
 have dV := Try.underlying168
 have dW := Try.underlying138
 have dD := aM hr0
 have eE := aM hc0
 clear hr0 hc0
 have HB := aM (Below.refl w.heap.size w)
 have H : (if 0 ≤ (l0.length : Int) then (if ((l0.length : Int) : Int).toNat ≤ 8796093022208 then (laws_toHeardS.l0 k l0 (List.replicate ((l0.length : Int) : Int).toNat z138) 0) else (none)) else (none)) = some r := h
 clear h
 by_cases c2 : 0 ≤ (l0.length : Int)
 case neg =>
  rw [if_neg c2] at H
  exact absurd H (by simp)
 rw [if_pos c2] at H
 have cU := eq_true c2
 have cV : decide (0 ≤ (l0.length : Int)) = true := decide_eq_true c2
 clear c2
 by_cases c3 : ((l0.length : Int) : Int).toNat ≤ 8796093022208
 case neg =>
  rw [if_neg c3] at H
  exact absurd H (by simp)
 rw [if_pos c3] at H
 have cW := eq_true c3
 have cX : decide (((l0.length : Int) : Int).toNat ≤ 8796093022208) = true := decide_eq_true c3
 clear c3
 obtain ⟨bQ, aH⟩ : ∃ y_ : List (S138), y_ = (List.replicate ((l0.length : Int) : Int).toNat z138) := ⟨_, rfl⟩
 replace H : (laws_toHeardS.l0 k l0 bQ 0) = some r := by first | (rw [aH]; with_reducible exact H) | (have H2_ := (Option.bind_some _ _).symm.trans H; rw [aH]; with_reducible exact H2_) | (have H2_ := (Option.bind_some _ _).symm.trans H; with_reducible exact H2_) | with_reducible exact H | (rw [aH]; exact H) | exact H
 have bM := aM aH
 clear aH
 have H' := aM H
 clear H
 go_enter Try.func84, Try.ntmps84
 go_wp2_with (first | ((with_reducible refine gD (N := 7) rfl ?_); refine Kd.R_make k138 _ 138 rfl (N := 7) rfl 41 _ _ rfl (l0.length : Int) rfl rfl Try.underlying41 (.agg #[(.int .i64 0), (.int .i64 0), (.int .i64 0), (.int .i64 0)]) 32 info138 rfl (by decide) (by omega) z138 (ok := fun _ => True) (okp := fun _ => True) (k138_mkM _ _ _ z138 ) (fun _ hk => hk) trivial (dT) (Nat.le_trans (Nat.mul_le_mul_right _ (dT : (l0.length : Int).toNat ≤ 8796093022208)) (by omega)) (Below.refl _ _) (Nat.le_refl _) ?_; intro cY w4 ho5 hb hg_ hnew_; clear hg_ hnew_; (first | rw [← bM.out] at ho5 | (simp only [Int.reduceToNat] at ho5; rw [← bM.out] at ho5)); have cO := aM (Kd.R_lower ho5 (below_size (bl HB.out))); replace HB := rS HB hb; clear hb ho5))
 go_loopg [4] k (fun kq v4 w' => ∃ (aD : List (S138)) (aA : Int), v4 = .int .i64 aA ∧ Aside0 (laws_toHeardS.l0 kq l0 aD aA = some r) ∧ Aside0 (kq ≤ k) ∧ Aside0 (Kd.R k138 138 w' w.heap.size (fun _ => True) cY aD) ∧ Aside0 (Below w.heap.size w w'))
 case atStart => exact ⟨(bQ), (0), xE, H', ⟨Nat.le_refl _⟩, ⟨kr cO.out⟩, ⟨bl HB.out⟩⟩
 case round =>
  clear H'
  repeat first|clear c2|clear cU|clear cV|clear p2|clear c3|clear cW|clear cX
  obtain ⟨aD, aA, rfl, HA, cS, aC, HB⟩ := hrel
  cases gk with
  | zero => exact absurd HA.out (by simp [laws_toHeardS.l0])
  | succ k1 =>
   have H := HA.out
   clear HA
   simp only [laws_toHeardS.l0] at H
   by_cases c6 : aA < (l0.length : Int)
   case neg =>
    rw [if_neg c6] at H
    have dA := decide_eq_false c6
    clear c6
    obtain rfl := Option.some.inj H
    go_wp2
    go_ret
    exact ⟨_, xW, by (with_reducible repeat (first | apply Kd.R_alloc | apply Kd.R_drewN | apply Kd.R_drew)); exact aC.out, bl HB.out⟩
   rw [if_pos c6] at H
   have dA := decide_eq_true c6
   clear c6
   obtain ⟨dY, H⟩ := gI H
   obtain ⟨⟨aK, aN, aQ, aT⟩, cT, H⟩ := hB H
   try dsimp only at H
   have A8 := aM cT
   clear cT
   obtain ⟨dZ, H⟩ := gI H
   obtain ⟨bI, aI⟩ : ∃ y_ : List (S138), y_ = (aD.set (aA : Int).toNat (⟨aK, aN, aQ, aT⟩ : S138)) := ⟨_, rfl⟩
   replace H : (laws_toHeardS.l0 k1 l0 bI (wS aA)) = some r := by first | (rw [aI]; with_reducible exact H) | (have H2_ := (Option.bind_some _ _).symm.trans H; rw [aI]; with_reducible exact H2_) | (have H2_ := (Option.bind_some _ _).symm.trans H; with_reducible exact H2_) | with_reducible exact H | (rw [aI]; exact H) | exact H
   have cP := aM aI
   clear aI
   have H' := aM H
   clear H
   have bJ : 0 ≤ (aA : Int) := dT
   have bK : aA < (l0.length : Int) := dT
   obtain ⟨dX, dB, aV, aW, aX, bA⟩ := at_T168 dD.out aA bJ bK
   cases dB
   replace aV := xB HB aV
   replace aW := xB HB aW
   replace aX := xB HB aX
   replace bA := xB HB bA
   replace bJ := eq_true bJ
   replace bK := eq_true bK
   go_wp2_with (first | ((with_reducible refine gC (f := 149) rfl ?_); refine gL (some 20) Try.func149 #[.agg #[((rd_T168 l0 aA).f0), ((rd_T168 l0 aA).f1), ((rd_T168 l0 aA).f2), ((rd_T168 l0 aA).f3)]] ?_; (with_reducible refine (laws_toHeard.calls ((rd_T168 l0 aA).f0) ((rd_T168 l0 aA).f1) ((rd_T168 l0 aA).f2) ((rd_T168 l0 aA).f3) aK aN aQ aT _ A8.out).mono ?_); rintro e bU ⟨rfl, hb⟩; refine ⟨_, rfl, ?_⟩; replace aC := rK aC hb; replace HB := rS HB hb; (try clear hb); have bW : 0 ≤ (aA : Int) := dT; have cA : (aA : Int) < ((aD.length : Int) : Int) := dT; obtain ⟨aG, cC, cD, cE, dC, eA, cG⟩ := Kd.R_form aC.out (by omega); (first | cases cD | (injection cD with ea_ en_ ec_; (first | subst ea_ | (injection ea_ with ea_; subst ea_)); subst ec_; clear en_)); have bD := aM cE; have eB := aM cG; clear cE dC cG; obtain ⟨eC, cQ, cH, bN, bO⟩ := Kd.R_elem aC.out z138 (aA : Int) bW cA; obtain rfl := k138_openM cH; obtain ⟨dE, dF, dG, dH, dI, dJ, dK, dL⟩ := eS138 (rd_T138 aD aA) bN bO; clear cQ bN bO cH; replace bW := eq_true bW; replace cA := eq_true cA; have cK := aM (show Kd.R k138 138 bU w.heap.size (fun _ => True) (.slice (some ⟨aG, 0, none⟩) aD.length cC) aD from (kr aC.out)); obtain ⟨eD, bP, cL, aE, aJ⟩ := Kd.R_elem cK.out z138 (aA : Int) (dT) dT; obtain rfl := k138_openM cL; have bL := Kd.R_seg cK.out (aA : Int) (dT) dT (seg := [.int .i64 aK, .int .i64 aN, .int .i64 aQ, .int .i64 aT]) (j := 0) bP aE (show 4 ≤ 4 from by decide) (x' := (⟨aK, aN, aQ, aT⟩ : S138)) (k138_mkM _ _ _ _) (fun _ hk => hk); have dM := cZ 4 (aE 0 _ rfl); have dN := fZ 4 (aJ 0); have dO := cJ 4 (aE 1 _ rfl); have dP := fJ 4 (aJ 1); have dQ := cJ 4 (aE 2 _ rfl); have dR := fJ 4 (aJ 2); have dS := cJ 4 (aE 3 _ rfl); have dU := fJ 4 (aJ 3); clear bP aE aJ cL) | ((with_reducible refine gate_store (t := 138) (p := 21) rfl ?_); refine store_event (t := 138) (p := 21) (v := ?vo_w13) (w1 := ((((bU.setCell ⟨aG, (aA : Int).toNat * 4, none⟩ (.int .i64 aK)).setCell ⟨aG, (aA : Int).toNat * 4 + 1, none⟩ (.int .i64 aN)).setCell ⟨aG, (aA : Int).toNat * 4 + 2, none⟩ (.int .i64 aQ)).setCell ⟨aG, (aA : Int).toNat * 4 + 3, none⟩ (.int .i64 aT))) ?hg ?ho ?hn ?hr ?_; (case ho => rfl); (case hg => rfl); (case hn => rfl); (case hr => first | (go_simp; done) | (go_simp; rfl) | (obtain ⟨A_, c_, e_⟩ := Kd.R_slice aC.out; subst e_; (first | (go_simp; done) | (go_simp; rfl))) | (obtain ⟨A_, c_, e_⟩ := Kd.S_slice aC.out; subst e_; (first | (go_simp; done) | (go_simp; rfl)))); intro cN hw; have hg : bU.grownBy cN (some aG) := (by rw [hw]; exact bL.2); have hp_ : Kd.R k138 138 cN w.heap.size (fun _ => True) (.slice (some ⟨aG, 0, none⟩) aD.length cC) bI := (by rw [hw, cP.out]; exact bL.1); clear bL; replace aC := aM (hp_); replace HB := aM ((by rw [hw]; exact below_set (below_set (below_set (below_set (HB.out) bD.out) bD.out) bD.out) bD.out : Below w.heap.size w cN)); clear hg hw hp_))
   go_roundg k1
   case measure => have := cS.out; omega
   case rel => exact ⟨(bI), (wS aA), xE, H', ⟨by have := cS.out; omega⟩, ⟨kr aC.out⟩, ⟨bl HB.out⟩⟩

end Go.Proofs.Ythmijfekdeagpaa.PFnExactGate

/- A part of the proof of laws.FnExactGate. No condition beyond what its theorems say. -/
import Derived.Test.YthmijfekdeagpaaVFnExactGatePx9
namespace Go.Proofs.Ythmijfekdeagpaa.PFnExactGate
open Go.RowKit Go.Proofs.YthmijfekdeagpaaW.PrintWords Go.Proofs.YthmijfekdeagpaaW.PrintLast Go.Proofs.YthmijfekdeagpaaW.PrintMore
set_option linter.unusedVariables false
set_option linter.unusedSimpArgs false

def impl_Forget.l0 : Nat → Int → List (S138) → List (S138) → Int → Int → Option ((List (S138)))
 | 0, _, _, _, _, _ => none
 | k + 1, x1, x5, x8, x9, aA => if aA < x9 then (if 0 ≤ aA then (if aA < (x8.length : Int) then (if ((rd_T138 x8 aA).f2) = x1 then (impl_Forget.l0 k x1 x5 x8 x9 (wrap64 (aA + 1))) else (if x5.length < 4398046511104 then (impl_Forget.l0 k x1 (x5 ++ [(⟨(rd_T138 x8 aA).f0, (rd_T138 x8 aA).f1, (rd_T138 x8 aA).f2, (rd_T138 x8 aA).f3⟩ : S138)]) x8 x9 (wrap64 (aA + 1))) else (none))) else (none)) else (none)) else (some x5)
def impl_Forget.f (k : Nat) (l0 : List (S138)) (a1 : Int) : Option ((List (S138))) := impl_Forget.l0 k a1 ([] : List (S138)) l0 (l0.length : Int) 0
theorem impl_Forget.mono_l : ∀ k, (∀ y0 y1 y2 y3 y4, LeO (impl_Forget.l0 k y0 y1 y2 y3 y4) (impl_Forget.l0 (k + 1) y0 y1 y2 y3 y4))
 | 0 => fun _ _ _ _ _ r h => by simp [impl_Forget.l0] at h
 | k + 1 => by
  have ih0 := impl_Forget.mono_l k
  ·intro y0 y1 y2 y3 y4
   unfold impl_Forget.l0
   repeat' first|(with_reducible first|apply ih0|exact lR _|exact lN _|refine lI ?_ ?_|refine lB ?_ fun _ => ?_)|exact lN _|refine lI ?_ ?_|refine lB ?_ fun _ => ?_
theorem impl_Forget.mono : ∀ a0 a1 k, LeO (impl_Forget.f k a0 a1) (impl_Forget.f (k + 1) a0 a1) := by
 intro a0 a1 k
 have ih0 := impl_Forget.mono_l k
 unfold impl_Forget.f
 repeat' first|(with_reducible first|apply ih0|exact lR _|exact lN _|refine lI ?_ ?_|refine lB ?_ fun _ => ?_)|exact lN _|refine lI ?_ ?_|refine lB ?_ fun _ => ?_
set_option maxHeartbeats 60000000 in
set_option maxRecDepth 100000 in
theorem impl_Forget.calls (k : Nat) (A0 : Option Addr) (c0 : Nat) (l0 : List (S138)) (a1 : Int) (r : List (S138)) (w : World) (hr0 : Kd.C k138 w A0 l0.length l0) (hc0 : l0.length ≤ c0) (h : impl_Forget.f k l0 a1 = some r) :
  Calls Try.prog 87 #[.slice A0 l0.length c0, a1] w fun e w' => ∃ bL : Value, e = .returned (bL) ∧ Kd.R k138 138 w' w.heap.size (fun _ => True) bL r ∧ Below w.heap.size w w' := by
 have bU := Try.underlying138
 have bM := aM hr0
 have cG := aM hc0
 clear hr0 hc0
 have HB := aM (Below.refl w.heap.size w)
 have H : (impl_Forget.l0 k a1 ([] : List (S138)) l0 (l0.length : Int) 0) = some r := h
 clear h
 have H' := aM H
 clear H
 go_enter Try.func87, Try.ntmps87
 go_wp2
 go_loopg [5, 10] k (fun kq v5 bQ w' => ∃ (aK : List (S138)) (aA : Int), bQ = .int .i64 aA ∧ Aside0 (impl_Forget.l0 kq a1 aK l0 (l0.length : Int) aA = some r) ∧ Aside0 (kq ≤ k) ∧ Aside0 (Kd.R k138 138 w' w.heap.size (fun _ => True) v5 aK) ∧ Aside0 (Below w.heap.size w w'))
 case atStart => exact ⟨(([] : List (S138))), (0), xE, H', ⟨Nat.le_refl _⟩, ⟨by first | exact Kd.R_nil _ _ _ _ _ | exact Kd.N_nil _ _ _ _ _ | exact Kd.V_nil _ _ _ _ _ | exact Kd.Q_nil _ _ _ _ _ | exact Kd.S_nil _ _ _ _ _⟩, ⟨bl HB.out⟩⟩
 case round =>
  clear H'
  try clear p2
  obtain ⟨aK, aA, rfl, HA, aW, aD, HB⟩ := hrel
  cases gk with
  | zero => exact absurd HA.out (by simp [impl_Forget.l0])
  | succ k1 =>
   have H := HA.out
   clear HA
   simp only [impl_Forget.l0] at H
   by_cases c3 : aA < (l0.length : Int)
   case neg =>
    rw [if_neg c3] at H
    have bN := decide_eq_false c3
    clear c3
    obtain rfl := Option.some.inj H
    go_wp2
    go_ret
    exact ⟨_, xW, by (with_reducible repeat (first | apply Kd.R_alloc | apply Kd.R_drewN | apply Kd.R_drew)); exact aD.out, bl HB.out⟩
   rw [if_pos c3] at H
   have bN := decide_eq_true c3
   clear c3
   obtain ⟨cA, H⟩ := gI H
   obtain ⟨cC, H⟩ := gI H
   by_cases c6 : ((rd_T138 l0 aA).f2) = a1
   case pos =>
    rw [if_pos c6] at H
    have bO : (((rd_T138 l0 aA).f2) == a1) = true := beq_iff_eq.mpr c6
    have bP : (((rd_T138 l0 aA).f2) != a1) = false := bne_eq_false_iff_eq.mpr c6
    clear c6
    have H' := aM H
    clear H
    have aN : 0 ≤ (aA : Int) := dT
    have aQ : aA < (l0.length : Int) := dT
    obtain ⟨bA, aV, aE, aG, aH, aI⟩ := at_T138 bM.out aA aN aQ
    cases aV
    replace aE := xB HB aE
    replace aG := xB HB aG
    replace aH := xB HB aH
    replace aI := xB HB aI
    replace aN := eq_true aN
    replace aQ := eq_true aQ
    go_wp2_with (first | ((with_reducible refine gD (N := 7) rfl ?_); refine bR aD (N := 7) (cs := #[.int .i64 0, .int .i64 0, .int .i64 0, .int .i64 0]) (t := 138) ?_; intro aC hg w7 hbox hb; have aJ := aM (hbox); have bD := gF hg HB; have bI := gF hg HB; replace aD := aM (kB (Kd.R_elderB (kr aD.out) aC (Nat.le_of_eq hg.symm)) hb); replace HB := rS HB hb; clear hb hbox hg; have cD := cA4 aJ.out))
    go_roundg k1
    case measure => have := aW.out; omega
    case rel => exact ⟨(aK), (wS aA), xE, H', ⟨by have := aW.out; omega⟩, ⟨kr (Kd.R_mono (kF (p := ⟨aC, 3, none⟩) (kF (p := ⟨aC, 2, none⟩) (kF (p := ⟨aC, 1, none⟩) (kF (p := ⟨aC, 0, none⟩) (Kd.R_mono aD.out (fun k_ hk => (⟨hk, hk.2⟩ : _ ∧ k_ ≠ aC))) (fun _ hk => hk.2) (.int .i64 ((rd_T138 l0 aA).f0))) (fun _ hk => hk.2) (.int .i64 ((rd_T138 l0 aA).f1))) (fun _ hk => hk.2) (.int .i64 ((rd_T138 l0 aA).f2))) (fun _ hk => hk.2) (.int .i64 ((rd_T138 l0 aA).f3))) (fun _ hk => trivial))⟩, ⟨bl HB.out⟩⟩
   rw [if_neg c6] at H
   have bO : (((rd_T138 l0 aA).f2) == a1) = false := beq_eq_false_iff_ne.mpr c6
   have bP : (((rd_T138 l0 aA).f2) != a1) = true := bne_iff_ne.mpr c6
   by_cases c9 : aK.length < 4398046511104
   case neg =>
    rw [if_neg c9] at H
    exact absurd H (by simp)
   rw [if_pos c9] at H
   have LMc9 := aM c9
   clear c9
   obtain ⟨aX, aT⟩ : ∃ y_ : List (S138), y_ = (aK ++ [(⟨(rd_T138 l0 aA).f0, (rd_T138 l0 aA).f1, (rd_T138 l0 aA).f2, (rd_T138 l0 aA).f3⟩ : S138)]) := ⟨_, rfl⟩
   replace H : (impl_Forget.l0 k1 a1 aX l0 (l0.length : Int) (wS aA)) = some r := by first | (rw [aT]; with_reducible exact H) | (have H2_ := (Option.bind_some _ _).symm.trans H; rw [aT]; with_reducible exact H2_) | (have H2_ := (Option.bind_some _ _).symm.trans H; with_reducible exact H2_) | with_reducible exact H | (rw [aT]; exact H) | exact H
   have bJ := aM aT
   clear aT
   have H' := aM H
   clear H
   have aN : 0 ≤ (aA : Int) := dT
   have aQ : aA < (l0.length : Int) := dT
   obtain ⟨bA, aV, aE, aG, aH, aI⟩ := at_T138 bM.out aA aN aQ
   cases aV
   replace aE := xB HB aE
   replace aG := xB HB aG
   replace aH := xB HB aH
   replace aI := xB HB aI
   replace aN := eq_true aN
   replace aQ := eq_true aQ
   go_wp2_with (first | ((with_reducible refine gD (N := 7) rfl ?_); refine bR aD (N := 7) (cs := #[.int .i64 0, .int .i64 0, .int .i64 0, .int .i64 0]) (t := 138) ?_; intro aC hg cH hbox hb; have aJ := aM (hbox); have bD := gF hg HB; have bI := gF hg HB; replace aD := aM (kB (Kd.R_elderB (kr aD.out) aC (Nat.le_of_eq hg.symm)) hb); replace HB := rS HB hb; clear hb hbox hg; have bW := cA4 aJ.out) | ((with_reducible refine gate_builtin (b := .append) (xs := #[.tmp 18, .tmp 20]) rfl ?_); at_builtin; refine Kd.R_append k138 (w0 := w) w.heap.size rfl (.tmp 18) (.tmp 20) 41 138 (.agg #[(.int .i64 0), (.int .i64 0), (.int .i64 0), (.int .i64 0)]) 32 rfl Try.underlying41 info138 rfl (by decide) (by omega) u5 aK (⟨(rd_T138 l0 aA).f0, (rd_T138 l0 aA).f1, (rd_T138 l0 aA).f2, (rd_T138 l0 aA).f3⟩ : S138) [.int .i64 ((rd_T138 l0 aA).f0), .int .i64 ((rd_T138 l0 aA).f1), .int .i64 ((rd_T138 l0 aA).f2), .int .i64 ((rd_T138 l0 aA).f3)] (fun k_ => k_ ≠ aC) (fun _ => False) rfl (by first | (go_simp; done) | (go_simp; rfl)) ?aP (fun _ hk => hk.elim) ?aF ?aO ?aB ?aS ?aL ?_; (case aP => exact k138_mkM _ _ _ (⟨(rd_T138 l0 aA).f0, (rd_T138 l0 aA).f1, (rd_T138 l0 aA).f2, (rd_T138 l0 aA).f3⟩ : S138)); (case aB => exact (bl HB.out)); (case aF => exact (fun k_ hk => Kd.freshB (g := aC) (o := .cells #[((rd_T138 l0 aA).f0), ((rd_T138 l0 aA).f1), ((rd_T138 l0 aA).f2), ((rd_T138 l0 aA).f3)] 138 (0, 0)) (bm aJ.out) k_ hk)); (case aO => exact (kr (Kd.R_mono (kF (p := ⟨aC, 3, none⟩) (kF (p := ⟨aC, 2, none⟩) (kF (p := ⟨aC, 1, none⟩) (kF (p := ⟨aC, 0, none⟩) (Kd.R_mono aD.out (fun k_ hk => (⟨hk, hk.2⟩ : _ ∧ k_ ≠ aC))) (fun _ hk => hk.2) (.int .i64 ((rd_T138 l0 aA).f0))) (fun _ hk => hk.2) (.int .i64 ((rd_T138 l0 aA).f1))) (fun _ hk => hk.2) (.int .i64 ((rd_T138 l0 aA).f2))) (fun _ hk => hk.2) (.int .i64 ((rd_T138 l0 aA).f3))) (fun _ hk => hk.1.2)))); (case aS => exact (below_size (bl HB.out))); (case aL => have := LMc9.out; omega); intro cE cK ho hb hg hat; rw [← bJ.out] at ho; have bK := aM (ho); replace aJ := aM (blk_grown (g := aC) (o := .cells #[((rd_T138 l0 aA).f0), ((rd_T138 l0 aA).f1), ((rd_T138 l0 aA).f2), ((rd_T138 l0 aA).f3)] 138 (0, 0)) (bm aJ.out) hg (Kd.R_away aD.out (fun _ hk => hk.2))); replace HB := aM (hb); clear aD; clear ho hb hg hat))
   go_roundg k1
   case measure => have := aW.out; omega
   case rel => exact ⟨(aX), (wS aA), xE, H', ⟨by have := aW.out; omega⟩, ⟨kr (Kd.R_mono bK.out (fun _ hk => trivial))⟩, ⟨bl HB.out⟩⟩

def impl_Gate.f (k : Nat) (aC : List Bool) (aD : List (S63)) (aE : List (S138)) (a1 : Int) (a2 : Bool) : Option (List Bool × (List (S63)) × (List (S138))) := (impl_copyCard.f k aC aD aE).bind fun aA => ((impl_inRange.f a1 0 (wrap64 ((aC.length : Int) - 1))).bind fun aG => (if aG = true then ((impl_CardOk.f k aC aD aE).bind fun aH => (if aH = true then (if 0 ≤ a1 then (if a1 < (aC.length : Int) then (if ((rdOf false aC a1) == a2) = true then (some (aA.1, aA.2.1, aA.2.2)) else (if a1 < (aA.1.length : Int) then ((impl_Forget.f k aA.2.2 a1).bind fun aI => (some ((aA.1.set (a1 : Int).toNat a2), aA.2.1, aI))) else (none))) else (none)) else (none)) else (some (aA.1, aA.2.1, aA.2.2)))) else (some (aA.1, aA.2.1, aA.2.2))))
theorem impl_Gate.mono : ∀ a0 a1 a2 a3 a4 k, LeO (impl_Gate.f k a0 a1 a2 a3 a4) (impl_Gate.f (k + 1) a0 a1 a2 a3 a4) := by
 intro a0 a1 a2 a3 a4 k
 unfold impl_Gate.f
 repeat' first|(with_reducible first|apply impl_CardOk.mono|apply impl_Forget.mono|apply impl_copyCard.mono|exact lR _|exact lN _|refine lI ?_ ?_|refine lB ?_ fun _ => ?_)|exact lN _|refine lI ?_ ?_|refine lB ?_ fun _ => ?_
set_option maxHeartbeats 60000000 in
set_option maxRecDepth 100000 in
theorem impl_Gate.calls (k : Nat) (bQ : Option Addr) (bU : Nat) (aK : List Bool) (bW : Option Addr) (cA : Nat) (aV : List (S63)) (cC : Option Addr) (cD : Nat) (aW : List (S138)) (a1 : Int) (a2 : Bool) (r1 : List Bool) (r2 : List (S63)) (r3 : List (S138)) (w : World) (hr0_0 : Kd.C Kd.bool w bQ aK.length aK) (hc0_0 : aK.length ≤ bU) (hr0_1 : Kd.C k63 w bW aV.length aV) (hc0_1 : aV.length ≤ cA) (hr0_2 : Kd.C k138 w cC aW.length aW) (hc0_2 : aW.length ≤ cD) (h : impl_Gate.f k aK aV aW a1 a2 = some (r1, r2, r3)) :
  Calls Try.prog 22 #[.agg #[.slice bQ aK.length bU, .slice bW aV.length cA, .slice cC aW.length cD], a1, a2] w fun e w' => ∃ fC fD fE : Value, e = .returned (.agg #[fC, fD, fE]) ∧ Kd.R Kd.bool 4 w' w.heap.size (fun _ => True) fC r1 ∧ Kd.S k63 63 w' w.heap.size (fun _ => True) fD r2 ∧ Kd.R k138 138 w' w.heap.size (fun _ => True) fE r3 ∧ Below w.heap.size w w' := by
 have jD := Try.underlying43
 have bO := aM hr0_0
 have cE := aM hc0_0
 clear hr0_0 hc0_0
 have cG := aM hr0_1
 have cH := aM hc0_1
 clear hr0_1 hc0_1
 have cK := aM hr0_2
 have cL := aM hc0_2
 clear hr0_2 hc0_2
 have HB := aM (Below.refl w.heap.size w)
 have H : ((impl_copyCard.f k aK aV aW).bind fun bL => ((impl_inRange.f a1 0 (wrap64 ((aK.length : Int) - 1))).bind fun eA => (if eA = true then ((impl_CardOk.f k aK aV aW).bind fun eB => (if eB = true then (if 0 ≤ a1 then (if a1 < (aK.length : Int) then (if ((rdOf false aK a1) == a2) = true then (some (bL.1, bL.2.1, bL.2.2)) else (if a1 < (bL.1.length : Int) then ((impl_Forget.f k bL.2.2 a1).bind fun bN => (some ((bL.1.set (a1 : Int).toNat a2), bL.2.1, bN))) else (none))) else (none)) else (none)) else (some (bL.1, bL.2.1, bL.2.2)))) else (some (bL.1, bL.2.1, bL.2.2))))) = some (r1, r2, r3) := h
 clear h
 obtain ⟨⟨aN, aQ, aT⟩, fF, H⟩ := hB H
 try dsimp only at H
 have A4 := aM fF
 clear fF
 obtain ⟨eA, fG, H⟩ := hB H
 have A5 := aM fG
 clear fG
 by_cases c6 : eA = true
 case neg =>
  replace c6 := Bool.eq_false_iff.mpr c6
  subst c6
  replace H := hF H
  simp only [Option.some.injEq, Prod.mk.injEq] at H
  obtain ⟨rfl, rfl, rfl⟩ := H
  go_enter Try.func22, Try.ntmps22
  go_wp2_with (first | ((with_reducible refine gD (N := 3) rfl ?_); refine box_event ?hg (N := 3) ?hd (cs := #[.slice bQ aK.length bU, .slice bW aV.length cA, .slice cC aW.length cD]) (t := 43) ?hr ?_; (case hd => rfl); (case hg => rfl); (case hr => first | (go_simp; done) | (go_simp; rfl) | (obtain ⟨A_, c_, e_⟩ := Kd.R_slice aC.out; subst e_; (first | (go_simp; done) | (go_simp; rfl))) | (obtain ⟨A_, c_, e_⟩ := Kd.S_slice aC.out; subst e_; (first | (go_simp; done) | (go_simp; rfl))) | (obtain ⟨A_, c_, e_⟩ := Kd.R_slice aG.out; subst e_; (first | (go_simp; done) | (go_simp; rfl))) | (obtain ⟨A_, c_, e_⟩ := Kd.S_slice aG.out; subst e_; (first | (go_simp; done) | (go_simp; rfl))) | (obtain ⟨A_, c_, e_⟩ := Kd.R_slice aE.out; subst e_; (first | (go_simp; done) | (go_simp; rfl))) | (obtain ⟨A_, c_, e_⟩ := Kd.S_slice aE.out; subst e_; (first | (go_simp; done) | (go_simp; rfl)))); intro dR hg jJ hbox hb; have aA := aM (hbox); have dS := gF hg HB; have dU := gF hg HB; replace HB := rS HB hb; clear hb hbox hg) | ((with_reducible refine gD (N := 6) rfl ?_); refine box_event ?hg (N := 6) ?hd (cs := #[.slice none 0 0, .slice none 0 0, .slice none 0 0]) (t := 43) ?hr ?_; (case hd => rfl); (case hg => rfl); (case hr => first | (go_simp; done) | (go_simp; rfl) | (obtain ⟨A_, c_, e_⟩ := Kd.R_slice aC.out; subst e_; (first | (go_simp; done) | (go_simp; rfl))) | (obtain ⟨A_, c_, e_⟩ := Kd.S_slice aC.out; subst e_; (first | (go_simp; done) | (go_simp; rfl))) | (obtain ⟨A_, c_, e_⟩ := Kd.R_slice aG.out; subst e_; (first | (go_simp; done) | (go_simp; rfl))) | (obtain ⟨A_, c_, e_⟩ := Kd.S_slice aG.out; subst e_; (first | (go_simp; done) | (go_simp; rfl))) | (obtain ⟨A_, c_, e_⟩ := Kd.R_slice aE.out; subst e_; (first | (go_simp; done) | (go_simp; rfl))) | (obtain ⟨A_, c_, e_⟩ := Kd.S_slice aE.out; subst e_; (first | (go_simp; done) | (go_simp; rfl)))); intro aI hg jK hbox hb; have aD := aM (hbox); have dV := gF hg HB; have dW := gF hg HB; have aX := nM hg aA; have bA := nH hg aA; replace aA := rB aA hb; replace HB := rS HB hb; clear hb hbox hg; have gJ := aX.out; have gK := bA.out; have gM := cA3 aA.out) | ((with_reducible refine gC (f := 85) rfl ?_); refine gL (some 9) Try.func85 #[.agg #[.slice bQ aK.length bU, .slice bW aV.length cA, .slice cC aW.length cD]] ?_; (with_reducible refine (impl_copyCard.calls k _ _ aK _ _ aV _ _ aW aN aQ aT _ ?side1 ?side2 ?side3 ?side4 ?side5 ?side6 A4.out).mono ?_); (case side1 => exact cM (cB bO.out HB.out)); (case side2 => exact cE.out); (case side3 => exact cM (cB cG.out HB.out)); (case side4 => exact cH.out); (case side5 => exact cM (cB cK.out HB.out)); (case side6 => exact cL.out); rintro e jL ⟨eC, eD, eE, rfl, ho0, ho1, ho2, hb⟩; refine ⟨_, rfl, ?_⟩; have aC := aM (Kd.R_lower ho0 (below_size (bl HB.out))); have aG := aM (Kd.S_lower ho1 (below_size (bl HB.out))); have aE := aM (Kd.R_lower ho2 (below_size (bl HB.out))); replace aA := rB aA hb; replace aD := rB aD hb; replace HB := rS HB hb; (repeat first|clear hb|clear ho0|clear ho1|clear ho2)) | ((with_reducible refine gD (N := 7) rfl ?_); refine box_event ?hg (N := 7) ?hd (cs := #[.slice none 0 0, .slice none 0 0, .slice none 0 0]) (t := 43) ?hr ?_; (case hd => rfl); (case hg => rfl); (case hr => first | (go_simp; done) | (go_simp; rfl) | (obtain ⟨A_, c_, e_⟩ := Kd.R_slice aC.out; subst e_; (first | (go_simp; done) | (go_simp; rfl))) | (obtain ⟨A_, c_, e_⟩ := Kd.S_slice aC.out; subst e_; (first | (go_simp; done) | (go_simp; rfl))) | (obtain ⟨A_, c_, e_⟩ := Kd.R_slice aG.out; subst e_; (first | (go_simp; done) | (go_simp; rfl))) | (obtain ⟨A_, c_, e_⟩ := Kd.S_slice aG.out; subst e_; (first | (go_simp; done) | (go_simp; rfl))) | (obtain ⟨A_, c_, e_⟩ := Kd.R_slice aE.out; subst e_; (first | (go_simp; done) | (go_simp; rfl))) | (obtain ⟨A_, c_, e_⟩ := Kd.S_slice aE.out; subst e_; (first | (go_simp; done) | (go_simp; rfl)))); intro aH hg jM hbox hb; have aJ := aM (hbox); have dX := gF hg HB; have dY := gF hg HB; have bD := nM hg aA; have bI := nH hg aA; have bJ := nM hg aD; have bK := nH hg aD; replace aC := rK aC hb; replace aG := aM (Kd.S_below (by (with_reducible repeat (first | apply Kd.S_alloc | apply Kd.S_drewN | apply Kd.S_drew)); exact aG.out) hb); replace aE := rK aE hb; replace aA := rB aA hb; replace aD := rB aD hb; replace HB := rS HB hb; clear hb hbox hg; obtain ⟨dE, dF, fK⟩ := Kd.R_slice aC.out; subst fK; have gN := bI.out; have gO := bD.out; have gP := bK.out; have gQ := bJ.out; have gR := cA3 aJ.out; obtain ⟨dG, dH, fL⟩ := Kd.S_slice aG.out; subst fL; obtain ⟨dI, dJ, fM⟩ := Kd.R_slice aE.out; subst fM; have gS := cA3 aA.out) | ((with_reducible refine gC (f := 86) rfl ?_); refine gL (some 15) Try.func86 #[a1, .int .i64 0, .int .i64 (wrap64 ((aK.length : Int) - 1))] ?_; (with_reducible refine (impl_inRange.calls a1 0 (wrap64 ((aK.length : Int) - 1)) false _ A5.out).mono ?_); rintro e w' ⟨rfl, ⟨nd, rfl⟩⟩; refine ⟨_, rfl, ?_⟩; have gT := cA3 aD.out))
  refine bodyPost_ret (results_cell_row rfl _ _ aI 43 #[.slice dE aN.length dF, .slice dG aQ.length dH, .slice dI aT.length dJ] (0, 0) _ rfl (bm aD.out) Try.underlying43 rfl (by kernel_rfl)) rfl ?_
  exact ⟨_, _, _, xW, by (with_reducible repeat (first | apply Kd.R_alloc | apply Kd.R_drewN | apply Kd.R_drew)); exact Kd.R_mono (kF (p := ⟨aI, 2, none⟩) (kF (p := ⟨aI, 1, none⟩) (kF (p := ⟨aI, 0, none⟩) (kF (p := ⟨aH, 2, none⟩) (kF (p := ⟨aH, 1, none⟩) (kF (p := ⟨aH, 0, none⟩) (Kd.R_types (Kd.R_types aC.out aJ.out (by decide)) aD.out (by decide)) (fun _ hk => hk.1.2) (.slice dE aN.length dF)) (fun _ hk => hk.1.2) (.slice dG aQ.length dH)) (fun _ hk => hk.1.2) (.slice dI aT.length dJ)) (fun _ hk => hk.2) (.slice dE aN.length dF)) (fun _ hk => hk.2) (.slice dG aQ.length dH)) (fun _ hk => hk.2) (.slice dI aT.length dJ)) (fun _ hk => trivial), by (with_reducible repeat (first | apply Kd.S_alloc | apply Kd.S_drewN | apply Kd.S_drew)); exact Kd.S_mono (Kd.S_far (p := ⟨aI, 2, none⟩) (Kd.S_far (p := ⟨aI, 1, none⟩) (Kd.S_far (p := ⟨aI, 0, none⟩) (Kd.S_far (p := ⟨aH, 2, none⟩) (Kd.S_far (p := ⟨aH, 1, none⟩) (Kd.S_far (p := ⟨aH, 0, none⟩) (Kd.S_types (Kd.S_types aG.out aJ.out (by decide)) aD.out (by decide)) (fun _ hk => hk.1.2) (.slice dE aN.length dF)) (fun _ hk => hk.1.2) (.slice dG aQ.length dH)) (fun _ hk => hk.1.2) (.slice dI aT.length dJ)) (fun _ hk => hk.2) (.slice dE aN.length dF)) (fun _ hk => hk.2) (.slice dG aQ.length dH)) (fun _ hk => hk.2) (.slice dI aT.length dJ)) (fun _ hk => trivial), by (with_reducible repeat (first | apply Kd.R_alloc | apply Kd.R_drewN | apply Kd.R_drew)); exact Kd.R_mono (kF (p := ⟨aI, 2, none⟩) (kF (p := ⟨aI, 1, none⟩) (kF (p := ⟨aI, 0, none⟩) (kF (p := ⟨aH, 2, none⟩) (kF (p := ⟨aH, 1, none⟩) (kF (p := ⟨aH, 0, none⟩) (Kd.R_types (Kd.R_types aE.out aJ.out (by decide)) aD.out (by decide)) (fun _ hk => hk.1.2) (.slice dE aN.length dF)) (fun _ hk => hk.1.2) (.slice dG aQ.length dH)) (fun _ hk => hk.1.2) (.slice dI aT.length dJ)) (fun _ hk => hk.2) (.slice dE aN.length dF)) (fun _ hk => hk.2) (.slice dG aQ.length dH)) (fun _ hk => hk.2) (.slice dI aT.length dJ)) (fun _ hk => trivial), bl HB.out⟩
 subst c6
 replace H := hP H rfl
 obtain ⟨eB, fH, H⟩ := hB H
 have A7 := aM fH
 clear fH
 by_cases c8 : eB = true
 case neg =>
  replace c8 := Bool.eq_false_iff.mpr c8
  subst c8
  replace H := hF H
  simp only [Option.some.injEq, Prod.mk.injEq] at H
  obtain ⟨rfl, rfl, rfl⟩ := H
  go_enter Try.func22, Try.ntmps22
  go_wp2_with (first | ((with_reducible refine gD (N := 3) rfl ?_); refine box_event ?hg (N := 3) ?hd (cs := #[.slice bQ aK.length bU, .slice bW aV.length cA, .slice cC aW.length cD]) (t := 43) ?hr ?_; (case hd => rfl); (case hg => rfl); (case hr => first | (go_simp; done) | (go_simp; rfl) | (obtain ⟨A_, c_, e_⟩ := Kd.R_slice aC.out; subst e_; (first | (go_simp; done) | (go_simp; rfl))) | (obtain ⟨A_, c_, e_⟩ := Kd.S_slice aC.out; subst e_; (first | (go_simp; done) | (go_simp; rfl))) | (obtain ⟨A_, c_, e_⟩ := Kd.R_slice aG.out; subst e_; (first | (go_simp; done) | (go_simp; rfl))) | (obtain ⟨A_, c_, e_⟩ := Kd.S_slice aG.out; subst e_; (first | (go_simp; done) | (go_simp; rfl))) | (obtain ⟨A_, c_, e_⟩ := Kd.R_slice aE.out; subst e_; (first | (go_simp; done) | (go_simp; rfl))) | (obtain ⟨A_, c_, e_⟩ := Kd.S_slice aE.out; subst e_; (first | (go_simp; done) | (go_simp; rfl)))); intro dR hg jN hbox hb; have aA := aM (hbox); have dS := gF hg HB; have dU := gF hg HB; replace HB := rS HB hb; clear hb hbox hg) | ((with_reducible refine gD (N := 6) rfl ?_); refine box_event ?hg (N := 6) ?hd (cs := #[.slice none 0 0, .slice none 0 0, .slice none 0 0]) (t := 43) ?hr ?_; (case hd => rfl); (case hg => rfl); (case hr => first | (go_simp; done) | (go_simp; rfl) | (obtain ⟨A_, c_, e_⟩ := Kd.R_slice aC.out; subst e_; (first | (go_simp; done) | (go_simp; rfl))) | (obtain ⟨A_, c_, e_⟩ := Kd.S_slice aC.out; subst e_; (first | (go_simp; done) | (go_simp; rfl))) | (obtain ⟨A_, c_, e_⟩ := Kd.R_slice aG.out; subst e_; (first | (go_simp; done) | (go_simp; rfl))) | (obtain ⟨A_, c_, e_⟩ := Kd.S_slice aG.out; subst e_; (first | (go_simp; done) | (go_simp; rfl))) | (obtain ⟨A_, c_, e_⟩ := Kd.R_slice aE.out; subst e_; (first | (go_simp; done) | (go_simp; rfl))) | (obtain ⟨A_, c_, e_⟩ := Kd.S_slice aE.out; subst e_; (first | (go_simp; done) | (go_simp; rfl)))); intro aI hg jO hbox hb; have aD := aM (hbox); have dV := gF hg HB; have dW := gF hg HB; have aX := nM hg aA; have bA := nH hg aA; replace aA := rB aA hb; replace HB := rS HB hb; clear hb hbox hg; have gU := aX.out; have gV := bA.out; have gW := cA3 aA.out) | ((with_reducible refine gC (f := 85) rfl ?_); refine gL (some 9) Try.func85 #[.agg #[.slice bQ aK.length bU, .slice bW aV.length cA, .slice cC aW.length cD]] ?_; (with_reducible refine (impl_copyCard.calls k _ _ aK _ _ aV _ _ aW aN aQ aT _ ?side1 ?side2 ?side3 ?side4 ?side5 ?side6 A4.out).mono ?_); (case side1 => exact cM (cB bO.out HB.out)); (case side2 => exact cE.out); (case side3 => exact cM (cB cG.out HB.out)); (case side4 => exact cH.out); (case side5 => exact cM (cB cK.out HB.out)); (case side6 => exact cL.out); rintro e jP ⟨eC, eD, eE, rfl, ho0, ho1, ho2, hb⟩; refine ⟨_, rfl, ?_⟩; have aC := aM (Kd.R_lower ho0 (below_size (bl HB.out))); have aG := aM (Kd.S_lower ho1 (below_size (bl HB.out))); have aE := aM (Kd.R_lower ho2 (below_size (bl HB.out))); replace aA := rB aA hb; replace aD := rB aD hb; replace HB := rS HB hb; (repeat first|clear hb|clear ho0|clear ho1|clear ho2)) | ((with_reducible refine gD (N := 7) rfl ?_); refine box_event ?hg (N := 7) ?hd (cs := #[.slice none 0 0, .slice none 0 0, .slice none 0 0]) (t := 43) ?hr ?_; (case hd => rfl); (case hg => rfl); (case hr => first | (go_simp; done) | (go_simp; rfl) | (obtain ⟨A_, c_, e_⟩ := Kd.R_slice aC.out; subst e_; (first | (go_simp; done) | (go_simp; rfl))) | (obtain ⟨A_, c_, e_⟩ := Kd.S_slice aC.out; subst e_; (first | (go_simp; done) | (go_simp; rfl))) | (obtain ⟨A_, c_, e_⟩ := Kd.R_slice aG.out; subst e_; (first | (go_simp; done) | (go_simp; rfl))) | (obtain ⟨A_, c_, e_⟩ := Kd.S_slice aG.out; subst e_; (first | (go_simp; done) | (go_simp; rfl))) | (obtain ⟨A_, c_, e_⟩ := Kd.R_slice aE.out; subst e_; (first | (go_simp; done) | (go_simp; rfl))) | (obtain ⟨A_, c_, e_⟩ := Kd.S_slice aE.out; subst e_; (first | (go_simp; done) | (go_simp; rfl)))); intro aH hg jQ hbox hb; have aJ := aM (hbox); have dX := gF hg HB; have dY := gF hg HB; have bD := nM hg aA; have bI := nH hg aA; have bJ := nM hg aD; have bK := nH hg aD; replace aC := rK aC hb; replace aG := aM (Kd.S_below (by (with_reducible repeat (first | apply Kd.S_alloc | apply Kd.S_drewN | apply Kd.S_drew)); exact aG.out) hb); replace aE := rK aE hb; replace aA := rB aA hb; replace aD := rB aD hb; replace HB := rS HB hb; clear hb hbox hg; obtain ⟨cO, cP, fN⟩ := Kd.R_slice aC.out; subst fN; have gX := bI.out; have gY := bD.out; have gZ := bK.out; have hJ := bJ.out; have hO := cA3 aJ.out; obtain ⟨cQ, cR, fO⟩ := Kd.S_slice aG.out; subst fO; obtain ⟨cS, cT, fP⟩ := Kd.R_slice aE.out; subst fP; have hU := cA3 aA.out) | ((with_reducible refine gC (f := 86) rfl ?_); refine gL (some 15) Try.func86 #[a1, .int .i64 0, .int .i64 (wrap64 ((aK.length : Int) - 1))] ?_; (with_reducible refine (impl_inRange.calls a1 0 (wrap64 ((aK.length : Int) - 1)) true _ A5.out).mono ?_); rintro e w' ⟨rfl, ⟨nd, rfl⟩⟩; refine ⟨_, rfl, ?_⟩) | (go_at_call 31; (with_reducible refine (impl_CardOk.calls k _ _ aK _ _ aV _ _ aW false _ ?side1 ?side2 ?side3 ?side4 ?side5 ?side6 A7.out).mono ?_); (case side1 => exact cB bO.out (bl HB.out)); (case side2 => exact cE.out); (case side3 => exact cB cG.out (bl HB.out)); (case side4 => exact cH.out); (case side5 => exact cB cK.out (bl HB.out)); (case side6 => exact cL.out); rintro e jR ⟨rfl, hb⟩; replace aC := aM (kB (kr (Kd.R_mono (kF (p := ⟨aH, 2, none⟩) (kF (p := ⟨aH, 1, none⟩) (kF (p := ⟨aH, 0, none⟩) (Kd.R_types aC.out aJ.out (by decide)) (fun _ hk => hk.2) (.slice cO aN.length cP)) (fun _ hk => hk.2) (.slice cQ aQ.length cR)) (fun _ hk => hk.2) (.slice cS aT.length cT)) (fun _ h_ => h_.1))) hb); replace aG := aM (Kd.S_below (by (with_reducible repeat (first | apply Kd.S_alloc | apply Kd.S_drewN | apply Kd.S_drew)); exact (Kd.S_mono (Kd.S_far (p := ⟨aH, 2, none⟩) (Kd.S_far (p := ⟨aH, 1, none⟩) (Kd.S_far (p := ⟨aH, 0, none⟩) (Kd.S_types aG.out aJ.out (by decide)) (fun _ hk => hk.2) (.slice cO aN.length cP)) (fun _ hk => hk.2) (.slice cQ aQ.length cR)) (fun _ hk => hk.2) (.slice cS aT.length cT)) (fun _ h_ => h_.1))) hb); replace aE := aM (kB (kr (Kd.R_mono (kF (p := ⟨aH, 2, none⟩) (kF (p := ⟨aH, 1, none⟩) (kF (p := ⟨aH, 0, none⟩) (Kd.R_types aE.out aJ.out (by decide)) (fun _ hk => hk.2) (.slice cO aN.length cP)) (fun _ hk => hk.2) (.slice cQ aQ.length cR)) (fun _ hk => hk.2) (.slice cS aT.length cT)) (fun _ h_ => h_.1))) hb); replace aA := aM (bB (fm aA.out) hb); replace aD := aM (bB (fm aD.out) hb); replace aJ := aM (bB (g := aH) (o := .cells #[.slice cO aN.length cP, .slice cQ aQ.length cR, .slice cS aT.length cT] 43 (0, 0)) (bm aJ.out) hb); replace HB := rS HB hb; (try clear hb); have hX := cA3 aJ.out; have hY := cA3 aD.out))
  refine bodyPost_ret (results_cell_row rfl _ _ aI 43 #[.slice cO aN.length cP, .slice cQ aQ.length cR, .slice cS aT.length cT] (0, 0) _ rfl (bm aD.out) Try.underlying43 rfl (by kernel_rfl)) rfl ?_
  exact ⟨_, _, _, xW, by (with_reducible repeat (first | apply Kd.R_alloc | apply Kd.R_drewN | apply Kd.R_drew)); exact Kd.R_mono (kF (p := ⟨aI, 2, none⟩) (kF (p := ⟨aI, 1, none⟩) (kF (p := ⟨aI, 0, none⟩) (Kd.R_types aC.out aD.out (by decide)) (fun _ hk => hk.2) (.slice cO aN.length cP)) (fun _ hk => hk.2) (.slice cQ aQ.length cR)) (fun _ hk => hk.2) (.slice cS aT.length cT)) (fun _ hk => trivial), by (with_reducible repeat (first | apply Kd.S_alloc | apply Kd.S_drewN | apply Kd.S_drew)); exact Kd.S_mono (Kd.S_far (p := ⟨aI, 2, none⟩) (Kd.S_far (p := ⟨aI, 1, none⟩) (Kd.S_far (p := ⟨aI, 0, none⟩) (Kd.S_types aG.out aD.out (by decide)) (fun _ hk => hk.2) (.slice cO aN.length cP)) (fun _ hk => hk.2) (.slice cQ aQ.length cR)) (fun _ hk => hk.2) (.slice cS aT.length cT)) (fun _ hk => trivial), by (with_reducible repeat (first | apply Kd.R_alloc | apply Kd.R_drewN | apply Kd.R_drew)); exact Kd.R_mono (kF (p := ⟨aI, 2, none⟩) (kF (p := ⟨aI, 1, none⟩) (kF (p := ⟨aI, 0, none⟩) (Kd.R_types aE.out aD.out (by decide)) (fun _ hk => hk.2) (.slice cO aN.length cP)) (fun _ hk => hk.2) (.slice cQ aQ.length cR)) (fun _ hk => hk.2) (.slice cS aT.length cT)) (fun _ hk => trivial), bl HB.out⟩
 subst c8
 replace H := hP H rfl
 obtain ⟨jE, H⟩ := gI H
 obtain ⟨hZ, H⟩ := gI H
 by_cases cU : ((rdOf false aK a1) == a2) = true
 case pos =>
  rw [if_pos cU] at H
  have eS : ((rdOf false aK a1) == a2) = true := cU
  (try (have eU : decide ((rdOf false aK a1) = a2) = true := by simpa using cU))
  (try (have eW : ((rdOf false aK a1) == a2) = true := by simpa using cU))
  clear cU
  simp only [Option.some.injEq, Prod.mk.injEq] at H
  obtain ⟨rfl, rfl, rfl⟩ := H
  go_enter Try.func22, Try.ntmps22
  go_wp2_with (first | ((with_reducible refine gD (N := 3) rfl ?_); refine box_event ?hg (N := 3) ?hd (cs := #[.slice bQ aK.length bU, .slice bW aV.length cA, .slice cC aW.length cD]) (t := 43) ?hr ?_; (case hd => rfl); (case hg => rfl); (case hr => first | (go_simp; done) | (go_simp; rfl) | (obtain ⟨A_, c_, e_⟩ := Kd.R_slice aC.out; subst e_; (first | (go_simp; done) | (go_simp; rfl))) | (obtain ⟨A_, c_, e_⟩ := Kd.S_slice aC.out; subst e_; (first | (go_simp; done) | (go_simp; rfl))) | (obtain ⟨A_, c_, e_⟩ := Kd.R_slice aG.out; subst e_; (first | (go_simp; done) | (go_simp; rfl))) | (obtain ⟨A_, c_, e_⟩ := Kd.S_slice aG.out; subst e_; (first | (go_simp; done) | (go_simp; rfl))) | (obtain ⟨A_, c_, e_⟩ := Kd.R_slice aE.out; subst e_; (first | (go_simp; done) | (go_simp; rfl))) | (obtain ⟨A_, c_, e_⟩ := Kd.S_slice aE.out; subst e_; (first | (go_simp; done) | (go_simp; rfl)))); intro dR hg jS hbox hb; have aA := aM (hbox); have dS := gF hg HB; have dU := gF hg HB; replace HB := rS HB hb; clear hb hbox hg) | ((with_reducible refine gD (N := 6) rfl ?_); refine box_event ?hg (N := 6) ?hd (cs := #[.slice none 0 0, .slice none 0 0, .slice none 0 0]) (t := 43) ?hr ?_; (case hd => rfl); (case hg => rfl); (case hr => first | (go_simp; done) | (go_simp; rfl) | (obtain ⟨A_, c_, e_⟩ := Kd.R_slice aC.out; subst e_; (first | (go_simp; done) | (go_simp; rfl))) | (obtain ⟨A_, c_, e_⟩ := Kd.S_slice aC.out; subst e_; (first | (go_simp; done) | (go_simp; rfl))) | (obtain ⟨A_, c_, e_⟩ := Kd.R_slice aG.out; subst e_; (first | (go_simp; done) | (go_simp; rfl))) | (obtain ⟨A_, c_, e_⟩ := Kd.S_slice aG.out; subst e_; (first | (go_simp; done) | (go_simp; rfl))) | (obtain ⟨A_, c_, e_⟩ := Kd.R_slice aE.out; subst e_; (first | (go_simp; done) | (go_simp; rfl))) | (obtain ⟨A_, c_, e_⟩ := Kd.S_slice aE.out; subst e_; (first | (go_simp; done) | (go_simp; rfl)))); intro aI hg jT hbox hb; have aD := aM (hbox); have dV := gF hg HB; have dW := gF hg HB; have aX := nM hg aA; have bA := nH hg aA; replace aA := rB aA hb; replace HB := rS HB hb; clear hb hbox hg; have iA := aX.out; have iB := bA.out; have iC := cA3 aA.out) | ((with_reducible refine gC (f := 85) rfl ?_); refine gL (some 9) Try.func85 #[.agg #[.slice bQ aK.length bU, .slice bW aV.length cA, .slice cC aW.length cD]] ?_; (with_reducible refine (impl_copyCard.calls k _ _ aK _ _ aV _ _ aW aN aQ aT _ ?side1 ?side2 ?side3 ?side4 ?side5 ?side6 A4.out).mono ?_); (case side1 => exact cM (cB bO.out HB.out)); (case side2 => exact cE.out); (case side3 => exact cM (cB cG.out HB.out)); (case side4 => exact cH.out); (case side5 => exact cM (cB cK.out HB.out)); (case side6 => exact cL.out); rintro e jU ⟨eC, eD, eE, rfl, ho0, ho1, ho2, hb⟩; refine ⟨_, rfl, ?_⟩; have aC := aM (Kd.R_lower ho0 (below_size (bl HB.out))); have aG := aM (Kd.S_lower ho1 (below_size (bl HB.out))); have aE := aM (Kd.R_lower ho2 (below_size (bl HB.out))); replace aA := rB aA hb; replace aD := rB aD hb; replace HB := rS HB hb; (repeat first|clear hb|clear ho0|clear ho1|clear ho2)) | ((with_reducible refine gD (N := 7) rfl ?_); refine box_event ?hg (N := 7) ?hd (cs := #[.slice none 0 0, .slice none 0 0, .slice none 0 0]) (t := 43) ?hr ?_; (case hd => rfl); (case hg => rfl); (case hr => first | (go_simp; done) | (go_simp; rfl) | (obtain ⟨A_, c_, e_⟩ := Kd.R_slice aC.out; subst e_; (first | (go_simp; done) | (go_simp; rfl))) | (obtain ⟨A_, c_, e_⟩ := Kd.S_slice aC.out; subst e_; (first | (go_simp; done) | (go_simp; rfl))) | (obtain ⟨A_, c_, e_⟩ := Kd.R_slice aG.out; subst e_; (first | (go_simp; done) | (go_simp; rfl))) | (obtain ⟨A_, c_, e_⟩ := Kd.S_slice aG.out; subst e_; (first | (go_simp; done) | (go_simp; rfl))) | (obtain ⟨A_, c_, e_⟩ := Kd.R_slice aE.out; subst e_; (first | (go_simp; done) | (go_simp; rfl))) | (obtain ⟨A_, c_, e_⟩ := Kd.S_slice aE.out; subst e_; (first | (go_simp; done) | (go_simp; rfl)))); intro aH hg jV hbox hb; have aJ := aM (hbox); have dX := gF hg HB; have dY := gF hg HB; have bD := nM hg aA; have bI := nH hg aA; have bJ := nM hg aD; have bK := nH hg aD; replace aC := rK aC hb; replace aG := aM (Kd.S_below (by (with_reducible repeat (first | apply Kd.S_alloc | apply Kd.S_drewN | apply Kd.S_drew)); exact aG.out) hb); replace aE := rK aE hb; replace aA := rB aA hb; replace aD := rB aD hb; replace HB := rS HB hb; clear hb hbox hg; obtain ⟨cV, cW, fQ⟩ := Kd.R_slice aC.out; subst fQ; have iD := bI.out; have iE := bD.out; have iF := bK.out; have iG := bJ.out; have iH := cA3 aJ.out; obtain ⟨cX, cY, fS⟩ := Kd.S_slice aG.out; subst fS; obtain ⟨dA, dB, fT⟩ := Kd.R_slice aE.out; subst fT; have iI := cA3 aA.out) | ((with_reducible refine gC (f := 86) rfl ?_); refine gL (some 15) Try.func86 #[a1, .int .i64 0, .int .i64 (wrap64 ((aK.length : Int) - 1))] ?_; (with_reducible refine (impl_inRange.calls a1 0 (wrap64 ((aK.length : Int) - 1)) true _ A5.out).mono ?_); rintro e w' ⟨rfl, ⟨nd, rfl⟩⟩; refine ⟨_, rfl, ?_⟩) | (go_at_call 31; (with_reducible refine (impl_CardOk.calls k _ _ aK _ _ aV _ _ aW true _ ?side1 ?side2 ?side3 ?side4 ?side5 ?side6 A7.out).mono ?_); (case side1 => exact cB bO.out (bl HB.out)); (case side2 => exact cE.out); (case side3 => exact cB cG.out (bl HB.out)); (case side4 => exact cH.out); (case side5 => exact cB cK.out (bl HB.out)); (case side6 => exact cL.out); rintro e jW ⟨rfl, hb⟩; replace aC := aM (kB (kr (Kd.R_mono (kF (p := ⟨aH, 2, none⟩) (kF (p := ⟨aH, 1, none⟩) (kF (p := ⟨aH, 0, none⟩) (Kd.R_types aC.out aJ.out (by decide)) (fun _ hk => hk.2) (.slice cV aN.length cW)) (fun _ hk => hk.2) (.slice cX aQ.length cY)) (fun _ hk => hk.2) (.slice dA aT.length dB)) (fun _ h_ => h_.1))) hb); replace aG := aM (Kd.S_below (by (with_reducible repeat (first | apply Kd.S_alloc | apply Kd.S_drewN | apply Kd.S_drew)); exact (Kd.S_mono (Kd.S_far (p := ⟨aH, 2, none⟩) (Kd.S_far (p := ⟨aH, 1, none⟩) (Kd.S_far (p := ⟨aH, 0, none⟩) (Kd.S_types aG.out aJ.out (by decide)) (fun _ hk => hk.2) (.slice cV aN.length cW)) (fun _ hk => hk.2) (.slice cX aQ.length cY)) (fun _ hk => hk.2) (.slice dA aT.length dB)) (fun _ h_ => h_.1))) hb); replace aE := aM (kB (kr (Kd.R_mono (kF (p := ⟨aH, 2, none⟩) (kF (p := ⟨aH, 1, none⟩) (kF (p := ⟨aH, 0, none⟩) (Kd.R_types aE.out aJ.out (by decide)) (fun _ hk => hk.2) (.slice cV aN.length cW)) (fun _ hk => hk.2) (.slice cX aQ.length cY)) (fun _ hk => hk.2) (.slice dA aT.length dB)) (fun _ h_ => h_.1))) hb); replace aA := aM (bB (fm aA.out) hb); replace aD := aM (bB (fm aD.out) hb); replace aJ := aM (bB (g := aH) (o := .cells #[.slice cV aN.length cW, .slice cX aQ.length cY, .slice dA aT.length dB] 43 (0, 0)) (bm aJ.out) hb); replace HB := rS HB hb; (try clear hb); have iJ := cA3 aA.out; have dK : 0 ≤ (a1 : Int) := dT; have dL : a1 < (aK.length : Int) := dT; obtain ⟨fA, eF, bM⟩ := Kd.at_bool bO.out a1 dK dL; cases eF; replace bM := (HB.out.cell (World.block_lt_of_cell? w _ bM)).trans bM; replace dK := eq_true dK; replace dL := eq_true dL; have iK := cA3 aJ.out; have iL := cA3 aD.out))
  refine bodyPost_ret (results_cell_row rfl _ _ aI 43 #[.slice cV aN.length cW, .slice cX aQ.length cY, .slice dA aT.length dB] (0, 0) _ rfl (bm aD.out) Try.underlying43 rfl (by kernel_rfl)) rfl ?_
  exact ⟨_, _, _, xW, by (with_reducible repeat (first | apply Kd.R_alloc | apply Kd.R_drewN | apply Kd.R_drew)); exact Kd.R_mono (kF (p := ⟨aI, 2, none⟩) (kF (p := ⟨aI, 1, none⟩) (kF (p := ⟨aI, 0, none⟩) (Kd.R_types aC.out aD.out (by decide)) (fun _ hk => hk.2) (.slice cV aN.length cW)) (fun _ hk => hk.2) (.slice cX aQ.length cY)) (fun _ hk => hk.2) (.slice dA aT.length dB)) (fun _ hk => trivial), by (with_reducible repeat (first | apply Kd.S_alloc | apply Kd.S_drewN | apply Kd.S_drew)); exact Kd.S_mono (Kd.S_far (p := ⟨aI, 2, none⟩) (Kd.S_far (p := ⟨aI, 1, none⟩) (Kd.S_far (p := ⟨aI, 0, none⟩) (Kd.S_types aG.out aD.out (by decide)) (fun _ hk => hk.2) (.slice cV aN.length cW)) (fun _ hk => hk.2) (.slice cX aQ.length cY)) (fun _ hk => hk.2) (.slice dA aT.length dB)) (fun _ hk => trivial), by (with_reducible repeat (first | apply Kd.R_alloc | apply Kd.R_drewN | apply Kd.R_drew)); exact Kd.R_mono (kF (p := ⟨aI, 2, none⟩) (kF (p := ⟨aI, 1, none⟩) (kF (p := ⟨aI, 0, none⟩) (Kd.R_types aE.out aD.out (by decide)) (fun _ hk => hk.2) (.slice cV aN.length cW)) (fun _ hk => hk.2) (.slice cX aQ.length cY)) (fun _ hk => hk.2) (.slice dA aT.length dB)) (fun _ hk => trivial), bl HB.out⟩
 rw [if_neg cU] at H
 have eS : ((rdOf false aK a1) == a2) = false := by simpa using cU
 (try (have eU : decide ((rdOf false aK a1) = a2) = false := by simpa using cU))
 (try (have eW : ((rdOf false aK a1) == a2) = false := by simpa using cU))
 (try (have iM : ¬ ((rdOf false aK a1) = a2) := by simpa using cU))
 clear cU
 obtain ⟨iN, H⟩ := gI H
 obtain ⟨eK, dO⟩ : ∃ y_ : List Bool, y_ = (aN.set (a1 : Int).toNat a2) := ⟨_, rfl⟩
 replace H : ((impl_Forget.f k aT a1).bind fun bN => (some (eK, aQ, bN))) = some (r1, r2, r3) := by first | (rw [dO]; with_reducible exact H) | (have H2_ := (Option.bind_some _ _).symm.trans H; rw [dO]; with_reducible exact H2_) | (have H2_ := (Option.bind_some _ _).symm.trans H; with_reducible exact H2_) | with_reducible exact H | (rw [dO]; exact H) | exact H
 have fB := aM dO
 clear dO
 obtain ⟨bN, eL, H⟩ := hB H
 have gB := aM eL
 clear eL
 simp only [Option.some.injEq, Prod.mk.injEq] at H
 obtain ⟨rfl, rfl, rfl⟩ := H
 go_enter Try.func22, Try.ntmps22
 go_wp2_with (first | ((with_reducible refine gD (N := 3) rfl ?_); refine box_event ?hg (N := 3) ?hd (cs := #[.slice bQ aK.length bU, .slice bW aV.length cA, .slice cC aW.length cD]) (t := 43) ?hr ?_; (case hd => rfl); (case hg => rfl); (case hr => first | (go_simp; done) | (go_simp; rfl) | (obtain ⟨A_, c_, e_⟩ := Kd.R_slice aC.out; subst e_; (first | (go_simp; done) | (go_simp; rfl))) | (obtain ⟨A_, c_, e_⟩ := Kd.S_slice aC.out; subst e_; (first | (go_simp; done) | (go_simp; rfl))) | (obtain ⟨A_, c_, e_⟩ := Kd.R_slice aG.out; subst e_; (first | (go_simp; done) | (go_simp; rfl))) | (obtain ⟨A_, c_, e_⟩ := Kd.S_slice aG.out; subst e_; (first | (go_simp; done) | (go_simp; rfl))) | (obtain ⟨A_, c_, e_⟩ := Kd.R_slice aE.out; subst e_; (first | (go_simp; done) | (go_simp; rfl))) | (obtain ⟨A_, c_, e_⟩ := Kd.S_slice aE.out; subst e_; (first | (go_simp; done) | (go_simp; rfl)))); intro dR hg jX hbox hb; have aA := aM (hbox); have dS := gF hg HB; have dU := gF hg HB; replace HB := rS HB hb; clear hb hbox hg) | ((with_reducible refine gD (N := 6) rfl ?_); refine box_event ?hg (N := 6) ?hd (cs := #[.slice none 0 0, .slice none 0 0, .slice none 0 0]) (t := 43) ?hr ?_; (case hd => rfl); (case hg => rfl); (case hr => first | (go_simp; done) | (go_simp; rfl) | (obtain ⟨A_, c_, e_⟩ := Kd.R_slice aC.out; subst e_; (first | (go_simp; done) | (go_simp; rfl))) | (obtain ⟨A_, c_, e_⟩ := Kd.S_slice aC.out; subst e_; (first | (go_simp; done) | (go_simp; rfl))) | (obtain ⟨A_, c_, e_⟩ := Kd.R_slice aG.out; subst e_; (first | (go_simp; done) | (go_simp; rfl))) | (obtain ⟨A_, c_, e_⟩ := Kd.S_slice aG.out; subst e_; (first | (go_simp; done) | (go_simp; rfl))) | (obtain ⟨A_, c_, e_⟩ := Kd.R_slice aE.out; subst e_; (first | (go_simp; done) | (go_simp; rfl))) | (obtain ⟨A_, c_, e_⟩ := Kd.S_slice aE.out; subst e_; (first | (go_simp; done) | (go_simp; rfl)))); intro aI hg jY hbox hb; have aD := aM (hbox); have dV := gF hg HB; have dW := gF hg HB; have aX := nM hg aA; have bA := nH hg aA; replace aA := rB aA hb; replace HB := rS HB hb; clear hb hbox hg; have iO := aX.out; have iP := bA.out; have iQ := cA3 aA.out) | ((with_reducible refine gC (f := 85) rfl ?_); refine gL (some 9) Try.func85 #[.agg #[.slice bQ aK.length bU, .slice bW aV.length cA, .slice cC aW.length cD]] ?_; (with_reducible refine (impl_copyCard.calls k _ _ aK _ _ aV _ _ aW aN aQ aT _ ?side1 ?side2 ?side3 ?side4 ?side5 ?side6 A4.out).mono ?_); (case side1 => exact cM (cB bO.out HB.out)); (case side2 => exact cE.out); (case side3 => exact cM (cB cG.out HB.out)); (case side4 => exact cH.out); (case side5 => exact cM (cB cK.out HB.out)); (case side6 => exact cL.out); rintro e jZ ⟨eC, eD, eE, rfl, ho0, ho1, ho2, hb⟩; refine ⟨_, rfl, ?_⟩; have aC := aM (Kd.R_lower ho0 (below_size (bl HB.out))); have aG := aM (Kd.S_lower ho1 (below_size (bl HB.out))); have aE := aM (Kd.R_lower ho2 (below_size (bl HB.out))); replace aA := rB aA hb; replace aD := rB aD hb; replace HB := rS HB hb; (repeat first|clear hb|clear ho0|clear ho1|clear ho2)) | ((with_reducible refine gD (N := 7) rfl ?_); refine box_event ?hg (N := 7) ?hd (cs := #[.slice none 0 0, .slice none 0 0, .slice none 0 0]) (t := 43) ?hr ?_; (case hd => rfl); (case hg => rfl); (case hr => first | (go_simp; done) | (go_simp; rfl) | (obtain ⟨A_, c_, e_⟩ := Kd.R_slice aC.out; subst e_; (first | (go_simp; done) | (go_simp; rfl))) | (obtain ⟨A_, c_, e_⟩ := Kd.S_slice aC.out; subst e_; (first | (go_simp; done) | (go_simp; rfl))) | (obtain ⟨A_, c_, e_⟩ := Kd.R_slice aG.out; subst e_; (first | (go_simp; done) | (go_simp; rfl))) | (obtain ⟨A_, c_, e_⟩ := Kd.S_slice aG.out; subst e_; (first | (go_simp; done) | (go_simp; rfl))) | (obtain ⟨A_, c_, e_⟩ := Kd.R_slice aE.out; subst e_; (first | (go_simp; done) | (go_simp; rfl))) | (obtain ⟨A_, c_, e_⟩ := Kd.S_slice aE.out; subst e_; (first | (go_simp; done) | (go_simp; rfl)))); intro aH hg kA hbox hb; have aJ := aM (hbox); have dX := gF hg HB; have dY := gF hg HB; have bD := nM hg aA; have bI := nH hg aA; have bJ := nM hg aD; have bK := nH hg aD; replace aC := rK aC hb; replace aG := aM (Kd.S_below (by (with_reducible repeat (first | apply Kd.S_alloc | apply Kd.S_drewN | apply Kd.S_drew)); exact aG.out) hb); replace aE := rK aE hb; replace aA := rB aA hb; replace aD := rB aD hb; replace HB := rS HB hb; clear hb hbox hg; obtain ⟨dZ, bP, fU⟩ := Kd.R_slice aC.out; subst fU; have iR := bI.out; have iS := bD.out; have iT := bK.out; have iU := bJ.out; have iV := cA3 aJ.out; obtain ⟨dC, dD, fV⟩ := Kd.S_slice aG.out; subst fV; obtain ⟨dP, dQ, fW⟩ := Kd.R_slice aE.out; subst fW; have iW := cA3 aA.out) | ((with_reducible refine gC (f := 86) rfl ?_); refine gL (some 15) Try.func86 #[a1, .int .i64 0, .int .i64 (wrap64 ((aK.length : Int) - 1))] ?_; (with_reducible refine (impl_inRange.calls a1 0 (wrap64 ((aK.length : Int) - 1)) true _ A5.out).mono ?_); rintro e w' ⟨rfl, ⟨nd, rfl⟩⟩; refine ⟨_, rfl, ?_⟩) | (go_at_call 31; (with_reducible refine (impl_CardOk.calls k _ _ aK _ _ aV _ _ aW true _ ?side1 ?side2 ?side3 ?side4 ?side5 ?side6 A7.out).mono ?_); (case side1 => exact cB bO.out (bl HB.out)); (case side2 => exact cE.out); (case side3 => exact cB cG.out (bl HB.out)); (case side4 => exact cH.out); (case side5 => exact cB cK.out (bl HB.out)); (case side6 => exact cL.out); rintro e fI ⟨rfl, hb⟩; replace aC := aM (kB (kr (Kd.R_mono (kF (p := ⟨aH, 2, none⟩) (kF (p := ⟨aH, 1, none⟩) (kF (p := ⟨aH, 0, none⟩) (Kd.R_types aC.out aJ.out (by decide)) (fun _ hk => hk.2) (.slice dZ aN.length bP)) (fun _ hk => hk.2) (.slice dC aQ.length dD)) (fun _ hk => hk.2) (.slice dP aT.length dQ)) (fun _ h_ => h_.1))) hb); replace aG := aM (Kd.S_below (by (with_reducible repeat (first | apply Kd.S_alloc | apply Kd.S_drewN | apply Kd.S_drew)); exact (Kd.S_mono (Kd.S_far (p := ⟨aH, 2, none⟩) (Kd.S_far (p := ⟨aH, 1, none⟩) (Kd.S_far (p := ⟨aH, 0, none⟩) (Kd.S_types aG.out aJ.out (by decide)) (fun _ hk => hk.2) (.slice dZ aN.length bP)) (fun _ hk => hk.2) (.slice dC aQ.length dD)) (fun _ hk => hk.2) (.slice dP aT.length dQ)) (fun _ h_ => h_.1))) hb); replace aE := aM (kB (kr (Kd.R_mono (kF (p := ⟨aH, 2, none⟩) (kF (p := ⟨aH, 1, none⟩) (kF (p := ⟨aH, 0, none⟩) (Kd.R_types aE.out aJ.out (by decide)) (fun _ hk => hk.2) (.slice dZ aN.length bP)) (fun _ hk => hk.2) (.slice dC aQ.length dD)) (fun _ hk => hk.2) (.slice dP aT.length dQ)) (fun _ h_ => h_.1))) hb); replace aA := aM (bB (fm aA.out) hb); replace aD := aM (bB (fm aD.out) hb); replace aJ := aM (bB (g := aH) (o := .cells #[.slice dZ aN.length bP, .slice dC aQ.length dD, .slice dP aT.length dQ] 43 (0, 0)) (bm aJ.out) hb); replace HB := rS HB hb; (try clear hb); have iX := cA3 aA.out; have dK : 0 ≤ (a1 : Int) := dT; have dL : a1 < (aK.length : Int) := dT; obtain ⟨fA, eF, bM⟩ := Kd.at_bool bO.out a1 dK dL; cases eF; replace bM := (HB.out.cell (World.block_lt_of_cell? w _ bM)).trans bM; replace dK := eq_true dK; replace dL := eq_true dL; have iY := cA3 aJ.out; have eM : 0 ≤ (a1 : Int) := dT; have eN : (a1 : Int) < ((aN.length : Int) : Int) := dT; obtain ⟨cN, jF, eO, eP, fX, jG, eQ⟩ := Kd.R_form aC.out (by omega); (first | cases eO | (injection eO with ea_ en_ ec_; (first | subst ea_ | (injection ea_ with ea_; subst ea_)); subst ec_; clear en_)); have fY := aM eP; have jH := aM eQ; clear eP fX eQ; obtain ⟨gG, gH⟩ := Kd.R_celln false aC.out (a1 : Int) eM eN; replace eM := eq_true eM; replace eN := eq_true eN; obtain ⟨iZ, hz48_⟩ := Kd.R_celln false aC.out (a1 : Int) (dT) (dT); have eI := Kd.R_putg aC.out (a1 : Int) a2) | ((with_reducible refine gate_store (t := 4) (p := 36) rfl ?_); refine store_event (t := 4) (p := 36) (v := ?vo_w49) (w1 := (fI.setCell ⟨cN, (a1 : Int).toNat, none⟩ (.bool a2))) ?hg ?ho ?hn ?hr ?_; (case ho => rfl); (case hg => rfl); (case hn => rfl); (case hr => first | (go_simp; done) | (go_simp; rfl) | (obtain ⟨A_, c_, e_⟩ := Kd.R_slice aC.out; subst e_; (first | (go_simp; done) | (go_simp; rfl))) | (obtain ⟨A_, c_, e_⟩ := Kd.S_slice aC.out; subst e_; (first | (go_simp; done) | (go_simp; rfl))) | (obtain ⟨A_, c_, e_⟩ := Kd.R_slice aG.out; subst e_; (first | (go_simp; done) | (go_simp; rfl))) | (obtain ⟨A_, c_, e_⟩ := Kd.S_slice aG.out; subst e_; (first | (go_simp; done) | (go_simp; rfl))) | (obtain ⟨A_, c_, e_⟩ := Kd.R_slice aE.out; subst e_; (first | (go_simp; done) | (go_simp; rfl))) | (obtain ⟨A_, c_, e_⟩ := Kd.S_slice aE.out; subst e_; (first | (go_simp; done) | (go_simp; rfl)))); intro eR hw; have hg : fI.grownBy eR (some cN) := (by rw [hw]; exact eI.2); have hp_ : Kd.R Kd.bool 4 eR w.heap.size (fun _ => True) (.slice (some ⟨cN, 0, none⟩) aN.length bP) eK := (by rw [hw, fB.out]; exact eI.1); clear eI; replace aA := aM (blk_grown (bk aA.out) hg (Kd.R_ne aC.out aA.out (by decide))); replace aD := aM (blk_grown (bk aD.out) hg (Kd.R_ne aC.out aD.out (by decide))); replace aG := aM (Kd.S_over' (v := (.slice (some ⟨cN, 0, none⟩) aN.length bP)) (by (with_reducible repeat (first | apply Kd.S_alloc | apply Kd.S_drewN | apply Kd.S_drew)); exact aG.out) (Kd.R_typed aC.out) (by decide) hg); replace aE := aM (Kd.R_over' (v := (.slice (some ⟨cN, 0, none⟩) aN.length bP)) (kr aE.out) (Kd.R_typed aC.out) (by decide) hg); replace aJ := aM (blk_grown (bk aJ.out) hg (Kd.R_ne aC.out aJ.out (by decide))); replace aC := aM (hp_); replace HB := aM ((by rw [hw]; exact below_set (HB.out) fY.out : Below w.heap.size w eR)); clear hg hw hp_; have jA := cA3 aJ.out) | ((with_reducible refine gC (f := 87) rfl ?_); refine gL (some 40) Try.func87 #[.slice dP aT.length dQ, a1] ?_; (with_reducible refine (impl_Forget.calls k _ _ aT a1 bN _ ?side1 ?side2 gB.out).mono ?_); (case side1 => exact cM ((Kd.R_reads' aE.out).2.2)); (case side2 => exact (Kd.R_reads' aE.out).2.1); rintro e kC ⟨jI, rfl, ho0, hb⟩; refine ⟨_, rfl, ?_⟩; have eJ := aM (Kd.R_lower (Kd.R_new' ho0 (Kd.R_lt (kr aE.out))) (below_size (bl HB.out))); replace aC := rK aC hb; replace aG := aM (Kd.S_below (by (with_reducible repeat (first | apply Kd.S_alloc | apply Kd.S_drewN | apply Kd.S_drew)); exact aG.out) hb); replace aE := aM (Kd.R_elder' (kr aE.out) (Kd.R_base ho0) hb); replace aA := rB aA hb; replace aD := rB aD hb; replace aJ := rB aJ hb; replace HB := rS HB hb; (repeat first|clear hb|clear ho0); obtain ⟨dM, dN, gA⟩ := Kd.R_slice eJ.out; subst gA; have jB := cA3 aJ.out; have jC := cA3 aD.out))
 refine bodyPost_ret (results_cell_row rfl _ _ aI 43 #[.slice (some ⟨cN, 0, none⟩) aN.length bP, .slice dC aQ.length dD, .slice dM bN.length dN] (0, 0) _ rfl (bm aD.out) Try.underlying43 rfl (by kernel_rfl)) rfl ?_
 exact ⟨_, _, _, xW, by (with_reducible repeat (first | apply Kd.R_alloc | apply Kd.R_drewN | apply Kd.R_drew)); exact Kd.R_mono (kF (p := ⟨aI, 2, none⟩) (kF (p := ⟨aI, 1, none⟩) (kF (p := ⟨aI, 0, none⟩) (kF (p := ⟨aH, 2, none⟩) (Kd.R_types (Kd.R_types aC.out aJ.out (by decide)) aD.out (by decide)) (fun _ hk => hk.1.2) (.slice dM bN.length dN)) (fun _ hk => hk.2) (.slice (some ⟨cN, 0, none⟩) aN.length bP)) (fun _ hk => hk.2) (.slice dC aQ.length dD)) (fun _ hk => hk.2) (.slice dM bN.length dN)) (fun _ hk => trivial), by (with_reducible repeat (first | apply Kd.S_alloc | apply Kd.S_drewN | apply Kd.S_drew)); exact Kd.S_mono (Kd.S_far (p := ⟨aI, 2, none⟩) (Kd.S_far (p := ⟨aI, 1, none⟩) (Kd.S_far (p := ⟨aI, 0, none⟩) (Kd.S_far (p := ⟨aH, 2, none⟩) (Kd.S_types (Kd.S_types aG.out aJ.out (by decide)) aD.out (by decide)) (fun _ hk => hk.1.2) (.slice dM bN.length dN)) (fun _ hk => hk.2) (.slice (some ⟨cN, 0, none⟩) aN.length bP)) (fun _ hk => hk.2) (.slice dC aQ.length dD)) (fun _ hk => hk.2) (.slice dM bN.length dN)) (fun _ hk => trivial), by (with_reducible repeat (first | apply Kd.R_alloc | apply Kd.R_drewN | apply Kd.R_drew)); exact Kd.R_mono (kF (p := ⟨aI, 2, none⟩) (kF (p := ⟨aI, 1, none⟩) (kF (p := ⟨aI, 0, none⟩) (kF (p := ⟨aH, 2, none⟩) (Kd.R_types (Kd.R_types eJ.out aJ.out (by decide)) aD.out (by decide)) (fun _ hk => hk.1.2) (.slice dM bN.length dN)) (fun _ hk => hk.2) (.slice (some ⟨cN, 0, none⟩) aN.length bP)) (fun _ hk => hk.2) (.slice dC aQ.length dD)) (fun _ hk => hk.2) (.slice dM bN.length dN)) (fun _ hk => trivial), bl HB.out⟩

def laws_eqBoolS.l0 : Nat → List Bool → List Bool → Int → Option (Bool)
 | 0, _, _, _ => none
 | k + 1, x0, x1, x5 => if x5 < (x0.length : Int) then (if 0 ≤ x5 then (if x5 < (x1.length : Int) then (if ((rdOf false x0 x5) != (rdOf false x1 x5)) = true then (some false) else (laws_eqBoolS.l0 k x0 x1 (wrap64 (x5 + 1)))) else (none)) else (none)) else (some true)
def laws_eqBoolS.f (k : Nat) (l0 : List Bool) (l1 : List Bool) : Option (Bool) := if (l0.length : Int) = (l1.length : Int) then (laws_eqBoolS.l0 k l0 l1 0) else (some false)
theorem laws_eqBoolS.mono_l : ∀ k, (∀ y0 y1 y2, LeO (laws_eqBoolS.l0 k y0 y1 y2) (laws_eqBoolS.l0 (k + 1) y0 y1 y2))
 | 0 => fun _ _ _ r h => by simp [laws_eqBoolS.l0] at h
 | k + 1 => by
  have ih0 := laws_eqBoolS.mono_l k
  ·intro y0 y1 y2
   unfold laws_eqBoolS.l0
   repeat' first|(with_reducible first|apply ih0|exact lR _|exact lN _|refine lI ?_ ?_|refine lB ?_ fun _ => ?_)|exact lN _|refine lI ?_ ?_|refine lB ?_ fun _ => ?_
theorem laws_eqBoolS.mono : ∀ a0 a1 k, LeO (laws_eqBoolS.f k a0 a1) (laws_eqBoolS.f (k + 1) a0 a1) := by
 intro a0 a1 k
 have ih0 := laws_eqBoolS.mono_l k
 unfold laws_eqBoolS.f
 repeat' first|(with_reducible first|apply ih0|exact lR _|exact lN _|refine lI ?_ ?_|refine lB ?_ fun _ => ?_)|exact lN _|refine lI ?_ ?_|refine lB ?_ fun _ => ?_
set_option maxHeartbeats 60000000 in
set_option maxRecDepth 100000 in
theorem laws_eqBoolS.calls (k : Nat) (A0 : Option Addr) (c0 : Nat) (l0 : List Bool) (A1 : Option Addr) (c1 : Nat) (l1 : List Bool) (r : Bool) (w : World) (hr0 : Kd.C Kd.bool w A0 l0.length l0) (hc0 : l0.length ≤ c0) (hr1 : Kd.C Kd.bool w A1 l1.length l1) (hc1 : l1.length ≤ c1) (h : laws_eqBoolS.f k l0 l1 = some r) :
  Calls Try.prog 88 #[.slice A0 l0.length c0, .slice A1 l1.length c1] w fun e w' => e = .returned (.bool r) ∧ Drawn0 w w' := by
 have aX := aM hr0
 have bP := aM hc0
 clear hr0 hc0
 have bA := aM hr1
 have bQ := aM hc1
 clear hr1 hc1
 have H : (if (l0.length : Int) = (l1.length : Int) then (laws_eqBoolS.l0 k l0 l1 0) else (some false)) = some r := h
 clear h
 by_cases c3 : (l0.length : Int) = (l1.length : Int)
 case neg =>
  rw [if_neg c3] at H
  have aN : ((l0.length : Int) == (l1.length : Int)) = false := beq_eq_false_iff_ne.mpr c3
  have aQ : ((l0.length : Int) != (l1.length : Int)) = true := bne_iff_ne.mpr c3
  have aT : (l0.length == l1.length) = false := by first | simpa using c3 | (simp at c3 ⊢; omega)
  obtain rfl := Option.some.inj H
  go_enter Try.func88, Try.ntmps88
  go_wp2
  repeat (go_quiet (fail); try go_wp2)
  go_ret
  exact ⟨by first | rfl | (simp; done) | (simp [*]; done), by repeat (first | exact Drawn0.refl _ | apply Drawn0.step)⟩
 rw [if_pos c3] at H
 have aN : ((l0.length : Int) == (l1.length : Int)) = true := beq_iff_eq.mpr c3
 have aQ : ((l0.length : Int) != (l1.length : Int)) = false := bne_eq_false_iff_eq.mpr c3
 have aT : (l0.length == l1.length) = true := by first | simpa using c3 | (simp at c3 ⊢; omega)
 clear c3
 have H' := aM H
 clear H
 go_enter Try.func88, Try.ntmps88
 go_wp2
 repeat (go_quiet (fail); try go_wp2)
 go_loopg [5] k (fun kq v5 w' => ∃ (aA : Int), v5 = .int .i64 aA ∧ Aside0 (laws_eqBoolS.l0 kq l0 l1 aA = some r) ∧ Aside0 (kq ≤ k) ∧ Drawn0 w w')
 case atStart => exact ⟨(0), xE, H', ⟨Nat.le_refl _⟩, by repeat (first | exact Drawn0.refl _ | apply Drawn0.step)⟩
 case round =>
  clear H'
  repeat first|clear c1|clear p2|clear c3|clear aN|clear aQ|clear aT
  obtain ⟨aA, rfl, HA, bD, ⟨m1, rfl⟩⟩ := hrel
  cases gk with
  | zero => exact absurd HA.out (by simp [laws_eqBoolS.l0])
  | succ k1 =>
   have H := HA.out
   clear HA
   simp only [laws_eqBoolS.l0] at H
   by_cases c4 : aA < (l0.length : Int)
   case neg =>
    rw [if_neg c4] at H
    have bI := decide_eq_false c4
    clear c4
    obtain rfl := Option.some.inj H
    go_wp2
    repeat (go_quiet (fail); try go_wp2)
    go_ret
    exact ⟨by first | rfl | (simp; done) | (simp [*]; done), by repeat (first | exact Drawn0.refl _ | apply Drawn0.step)⟩
   rw [if_pos c4] at H
   have bI := decide_eq_true c4
   clear c4
   obtain ⟨bM, H⟩ := gI H
   obtain ⟨bN, H⟩ := gI H
   by_cases c7 : ((rdOf false l0 aA) != (rdOf false l1 aA)) = true
   case pos =>
    rw [if_pos c7] at H
    have bJ : ((rdOf false l0 aA) != (rdOf false l1 aA)) = true := c7
    (try (have bK : decide ((rdOf false l0 aA) = (rdOf false l1 aA)) = false := by simpa using c7))
    (try (have bL : ((rdOf false l0 aA) == (rdOf false l1 aA)) = false := by simpa using c7))
    (try (have bO : ¬ ((rdOf false l0 aA) = (rdOf false l1 aA)) := by simpa using c7))
    clear c7
    obtain rfl := Option.some.inj H
    have aC : 0 ≤ (aA : Int) := dT
    have aD : aA < (l0.length : Int) := dT
    obtain ⟨aV, aH, aJ⟩ := Kd.at_bool aX.out aA aC aD
    cases aH
    replace aC := eq_true aC
    replace aD := eq_true aD
    have aE : 0 ≤ (aA : Int) := dT
    have aG : aA < (l1.length : Int) := dT
    obtain ⟨aW, aI, aK⟩ := Kd.at_bool bA.out aA aE aG
    cases aI
    replace aE := eq_true aE
    replace aG := eq_true aG
    go_wp2
    repeat (go_quiet (fail); try go_wp2)
    go_ret
    exact ⟨by first | rfl | (simp; done) | (simp [*]; done), by repeat (first | exact Drawn0.refl _ | apply Drawn0.step)⟩
   rw [if_neg c7] at H
   have bJ : ((rdOf false l0 aA) != (rdOf false l1 aA)) = false := by simpa using c7
   (try (have bK : decide ((rdOf false l0 aA) = (rdOf false l1 aA)) = true := by simpa using c7))
   (try (have bL : ((rdOf false l0 aA) == (rdOf false l1 aA)) = true := by simpa using c7))
   clear c7
   have H' := aM H
   clear H
   have aC : 0 ≤ (aA : Int) := dT
   have aD : aA < (l0.length : Int) := dT
   obtain ⟨aV, aH, aJ⟩ := Kd.at_bool aX.out aA aC aD
   cases aH
   replace aC := eq_true aC
   replace aD := eq_true aD
   have aE : 0 ≤ (aA : Int) := dT
   have aG : aA < (l1.length : Int) := dT
   obtain ⟨aW, aI, aK⟩ := Kd.at_bool bA.out aA aE aG
   cases aI
   replace aE := eq_true aE
   replace aG := eq_true aG
   go_wp2
   repeat (go_quiet (fail); try go_wp2)
   go_roundg k1
   case measure => have := bD.out; omega
   case rel => exact ⟨(wS aA), xE, H', ⟨by have := bD.out; omega⟩, by repeat (first | exact Drawn0.refl _ | apply Drawn0.step)⟩

def laws_eqIntS.l0 : Nat → List Int → List Int → Int → Option (Bool)
 | 0, _, _, _ => none
 | k + 1, x0, x1, x5 => if x5 < (x0.length : Int) then (if 0 ≤ x5 then (if x5 < (x1.length : Int) then (if (rd x0 x5) = (rd x1 x5) then (laws_eqIntS.l0 k x0 x1 (wrap64 (x5 + 1))) else (some false)) else (none)) else (none)) else (some true)
def laws_eqIntS.f (k : Nat) (l0 : List Int) (l1 : List Int) : Option (Bool) := if (l0.length : Int) = (l1.length : Int) then (laws_eqIntS.l0 k l0 l1 0) else (some false)
theorem laws_eqIntS.mono_l : ∀ k, (∀ y0 y1 y2, LeO (laws_eqIntS.l0 k y0 y1 y2) (laws_eqIntS.l0 (k + 1) y0 y1 y2))
 | 0 => fun _ _ _ r h => by simp [laws_eqIntS.l0] at h
 | k + 1 => by
  have ih0 := laws_eqIntS.mono_l k
  ·intro y0 y1 y2
   unfold laws_eqIntS.l0
   repeat' first|(with_reducible first|apply ih0|exact lR _|exact lN _|refine lI ?_ ?_|refine lB ?_ fun _ => ?_)|exact lN _|refine lI ?_ ?_|refine lB ?_ fun _ => ?_
theorem laws_eqIntS.mono : ∀ a0 a1 k, LeO (laws_eqIntS.f k a0 a1) (laws_eqIntS.f (k + 1) a0 a1) := by
 intro a0 a1 k
 have ih0 := laws_eqIntS.mono_l k
 unfold laws_eqIntS.f
 repeat' first|(with_reducible first|apply ih0|exact lR _|exact lN _|refine lI ?_ ?_|refine lB ?_ fun _ => ?_)|exact lN _|refine lI ?_ ?_|refine lB ?_ fun _ => ?_
set_option maxHeartbeats 60000000 in
set_option maxRecDepth 100000 in
theorem laws_eqIntS.calls (k : Nat) (A0 : Option Addr) (c0 : Nat) (l0 : List Int) (A1 : Option Addr) (c1 : Nat) (l1 : List Int) (r : Bool) (w : World) (hr0 : Kd.C (Kd.int .i64) w A0 l0.length l0) (hc0 : l0.length ≤ c0) (hr1 : Kd.C (Kd.int .i64) w A1 l1.length l1) (hc1 : l1.length ≤ c1) (h : laws_eqIntS.f k l0 l1 = some r) :
  Calls Try.prog 189 #[.slice A0 l0.length c0, .slice A1 l1.length c1] w fun e w' => e = .returned (.bool r) ∧ Drawn0 w w' := by
 have aX := aM hr0
 have bN := aM hc0
 clear hr0 hc0
 have bA := aM hr1
 have bO := aM hc1
 clear hr1 hc1
 have H : (if (l0.length : Int) = (l1.length : Int) then (laws_eqIntS.l0 k l0 l1 0) else (some false)) = some r := h
 clear h
 by_cases c3 : (l0.length : Int) = (l1.length : Int)
 case neg =>
  rw [if_neg c3] at H
  have aN : ((l0.length : Int) == (l1.length : Int)) = false := beq_eq_false_iff_ne.mpr c3
  have aQ : ((l0.length : Int) != (l1.length : Int)) = true := bne_iff_ne.mpr c3
  have aT : (l0.length == l1.length) = false := by first | simpa using c3 | (simp at c3 ⊢; omega)
  obtain rfl := Option.some.inj H
  go_enter Try.func189, Try.ntmps189
  go_wp2
  repeat (go_quiet (fail); try go_wp2)
  go_ret
  exact ⟨by first | rfl | (simp; done) | (simp [*]; done), by repeat (first | exact Drawn0.refl _ | apply Drawn0.step)⟩
 rw [if_pos c3] at H
 have aN : ((l0.length : Int) == (l1.length : Int)) = true := beq_iff_eq.mpr c3
 have aQ : ((l0.length : Int) != (l1.length : Int)) = false := bne_eq_false_iff_eq.mpr c3
 have aT : (l0.length == l1.length) = true := by first | simpa using c3 | (simp at c3 ⊢; omega)
 clear c3
 have H' := aM H
 clear H
 go_enter Try.func189, Try.ntmps189
 go_wp2
 repeat (go_quiet (fail); try go_wp2)
 go_loopg [5] k (fun kq v5 w' => ∃ (aA : Int), v5 = .int .i64 aA ∧ Aside0 (laws_eqIntS.l0 kq l0 l1 aA = some r) ∧ Aside0 (kq ≤ k) ∧ Drawn0 w w')
 case atStart => exact ⟨(0), xE, H', ⟨Nat.le_refl _⟩, by repeat (first | exact Drawn0.refl _ | apply Drawn0.step)⟩
 case round =>
  clear H'
  repeat first|clear c1|clear p2|clear c3|clear aN|clear aQ|clear aT
  obtain ⟨aA, rfl, HA, bD, ⟨m1, rfl⟩⟩ := hrel
  cases gk with
  | zero => exact absurd HA.out (by simp [laws_eqIntS.l0])
  | succ k1 =>
   have H := HA.out
   clear HA
   simp only [laws_eqIntS.l0] at H
   by_cases c4 : aA < (l0.length : Int)
   case neg =>
    rw [if_neg c4] at H
    have bI := decide_eq_false c4
    clear c4
    obtain rfl := Option.some.inj H
    go_wp2
    repeat (go_quiet (fail); try go_wp2)
    go_ret
    exact ⟨by first | rfl | (simp; done) | (simp [*]; done), by repeat (first | exact Drawn0.refl _ | apply Drawn0.step)⟩
   rw [if_pos c4] at H
   have bI := decide_eq_true c4
   clear c4
   obtain ⟨bL, H⟩ := gI H
   obtain ⟨bM, H⟩ := gI H
   by_cases c7 : (rd l0 aA) = (rd l1 aA)
   case neg =>
    rw [if_neg c7] at H
    have bJ : ((rd l0 aA) == (rd l1 aA)) = false := beq_eq_false_iff_ne.mpr c7
    have bK : ((rd l0 aA) != (rd l1 aA)) = true := bne_iff_ne.mpr c7
    obtain rfl := Option.some.inj H
    have aC : 0 ≤ (aA : Int) := dT
    have aD : aA < (l0.length : Int) := dT
    obtain ⟨aV, aH, aJ⟩ := Kd.at_int aX.out aA aC aD
    cases aH
    replace aC := eq_true aC
    replace aD := eq_true aD
    have aE : 0 ≤ (aA : Int) := dT
    have aG : aA < (l1.length : Int) := dT
    obtain ⟨aW, aI, aK⟩ := Kd.at_int bA.out aA aE aG
    cases aI
    replace aE := eq_true aE
    replace aG := eq_true aG
    go_wp2
    repeat (go_quiet (fail); try go_wp2)
    go_ret
    exact ⟨by first | rfl | (simp; done) | (simp [*]; done), by repeat (first | exact Drawn0.refl _ | apply Drawn0.step)⟩
   rw [if_pos c7] at H
   have bJ : ((rd l0 aA) == (rd l1 aA)) = true := beq_iff_eq.mpr c7
   have bK : ((rd l0 aA) != (rd l1 aA)) = false := bne_eq_false_iff_eq.mpr c7
   clear c7
   have H' := aM H
   clear H
   have aC : 0 ≤ (aA : Int) := dT
   have aD : aA < (l0.length : Int) := dT
   obtain ⟨aV, aH, aJ⟩ := Kd.at_int aX.out aA aC aD
   cases aH
   replace aC := eq_true aC
   replace aD := eq_true aD
   have aE : 0 ≤ (aA : Int) := dT
   have aG : aA < (l1.length : Int) := dT
   obtain ⟨aW, aI, aK⟩ := Kd.at_int bA.out aA aE aG
   cases aI
   replace aE := eq_true aE
   replace aG := eq_true aG
   go_wp2
   repeat (go_quiet (fail); try go_wp2)
   go_roundg k1
   case measure => have := bD.out; omega
   case rel => exact ⟨(wS aA), xE, H', ⟨by have := bD.out; omega⟩, by repeat (first | exact Drawn0.refl _ | apply Drawn0.step)⟩

def laws_eqMember.f (k : Nat) (aA : Int) (aC : List Int) (aD : Int) (aE : List Int) : Option (Bool) := if aA = aD then ((laws_eqIntS.f k aC aE).bind fun aG => (if aG = true then (some true) else (some false))) else (some false)
theorem laws_eqMember.mono : ∀ a0 a1 a2 a3 k, LeO (laws_eqMember.f k a0 a1 a2 a3) (laws_eqMember.f (k + 1) a0 a1 a2 a3) := by
 intro a0 a1 a2 a3 k
 unfold laws_eqMember.f
 repeat' first|(with_reducible first|apply laws_eqIntS.mono|exact lR _|exact lN _|refine lI ?_ ?_|refine lB ?_ fun _ => ?_)|exact lN _|refine lI ?_ ?_|refine lB ?_ fun _ => ?_
set_option maxHeartbeats 60000000 in
set_option maxRecDepth 100000 in
theorem laws_eqMember.calls (k : Nat) (aH : Int) (aJ : Option Addr) (aK : Nat) (aC : List Int) (aI : Int) (aN : Option Addr) (aQ : Nat) (aD : List Int) (r : Bool) (w : World) (hr0_1 : Kd.C (Kd.int .i64) w aJ aC.length aC) (hc0_1 : aC.length ≤ aK) (hr1_1 : Kd.C (Kd.int .i64) w aN aD.length aD) (hc1_1 : aD.length ≤ aQ) (h : laws_eqMember.f k aH aC aI aD = some r) :
  Calls Try.prog 153 #[.agg #[aH, .slice aJ aC.length aK], .agg #[aI, .slice aN aD.length aQ]] w fun e w' => e = .returned (.bool r) ∧ Below w.heap.size w w' := by
 have cL := Try.underlying63
 have aW := aM hr0_1
 have aX := aM hc0_1
 clear hr0_1 hc0_1
 have bA := aM hr1_1
 have bD := aM hc1_1
 clear hr1_1 hc1_1
 have HB := aM (Below.refl w.heap.size w)
 have H : (if aH = aI then ((laws_eqIntS.f k aC aD).bind fun aV => (if aV = true then (some true) else (some false))) else (some false)) = some r := h
 clear h
 by_cases c3 : aH = aI
 case neg =>
  rw [if_neg c3] at H
  have bP : (aH == aI) = false := beq_eq_false_iff_ne.mpr c3
  have bQ : (aH != aI) = true := bne_iff_ne.mpr c3
  obtain rfl := Option.some.inj H
  go_enter Try.func153, Try.ntmps153
  go_wp2_with (first | ((with_reducible refine gD (N := 2) rfl ?_); refine bE (N := 2) (cs := #[aH, .slice aJ aC.length aK]) (t := 63) ?_; intro bI hg cQ hbox hb; have aA := aM (hbox); have bJ := gF hg HB; have bK := gF hg HB; replace HB := rS HB hb; clear hb hbox hg) | ((with_reducible refine gD (N := 3) rfl ?_); refine bE (N := 3) (cs := #[aI, .slice aN aD.length aQ]) (t := 63) ?_; intro bL hg cR hbox hb; have aT := aM (hbox); have bM := gF hg HB; have bN := gF hg HB; have aE := nM hg aA; have aG := nH hg aA; replace aA := rB aA hb; replace HB := rS HB hb; clear hb hbox hg; have bU := aE.out; have bW := aG.out; have cA := cA2 aA.out; have cC := cA2 aT.out))
  go_ret
  exact ⟨xW, bl HB.out⟩
 rw [if_pos c3] at H
 have bP : (aH == aI) = true := beq_iff_eq.mpr c3
 have bQ : (aH != aI) = false := bne_eq_false_iff_eq.mpr c3
 clear c3
 obtain ⟨aV, bO, H⟩ := hB H
 have A4 := aM bO
 clear bO
 by_cases c5 : aV = true
 case pos =>
  subst c5
  replace H := hP H rfl
  obtain rfl := Option.some.inj H
  go_enter Try.func153, Try.ntmps153
  go_wp2_with (first | ((with_reducible refine gD (N := 2) rfl ?_); refine bE (N := 2) (cs := #[aH, .slice aJ aC.length aK]) (t := 63) ?_; intro bI hg w6 hbox hb; have aA := aM (hbox); have bJ := gF hg HB; have bK := gF hg HB; replace HB := rS HB hb; clear hb hbox hg) | ((with_reducible refine gD (N := 3) rfl ?_); refine bE (N := 3) (cs := #[aI, .slice aN aD.length aQ]) (t := 63) ?_; intro bL hg w7 hbox hb; have aT := aM (hbox); have bM := gF hg HB; have bN := gF hg HB; have aE := nM hg aA; have aG := nH hg aA; replace aA := rB aA hb; replace HB := rS HB hb; clear hb hbox hg; have cN := aE.out; have cO := aG.out; have cP := cA2 aA.out; have cD := cA2 aT.out) | ((with_reducible refine gC (f := 189) rfl ?_); refine gL (some 14) Try.func189 #[.slice aJ aC.length aK, .slice aN aD.length aQ] ?_; (with_reducible refine (laws_eqIntS.calls k _ _ aC _ _ aD true _ ?side1 ?side2 ?side3 ?side4 A4.out).mono ?_); (case side1 => exact cM (cB aW.out HB.out)); (case side2 => exact aX.out); (case side3 => exact cM (cB bA.out HB.out)); (case side4 => exact bD.out); rintro e w' ⟨rfl, ⟨nd, rfl⟩⟩; refine ⟨_, rfl, ?_⟩))
  go_ret
  exact ⟨xW, bl HB.out⟩
 replace c5 := Bool.eq_false_iff.mpr c5
 subst c5
 replace H := hF H
 obtain rfl := Option.some.inj H
 go_enter Try.func153, Try.ntmps153
 go_wp2_with (first | ((with_reducible refine gD (N := 2) rfl ?_); refine bE (N := 2) (cs := #[aH, .slice aJ aC.length aK]) (t := 63) ?_; intro bI hg cS hbox hb; have aA := aM (hbox); have bJ := gF hg HB; have bK := gF hg HB; replace HB := rS HB hb; clear hb hbox hg) | ((with_reducible refine gD (N := 3) rfl ?_); refine bE (N := 3) (cs := #[aI, .slice aN aD.length aQ]) (t := 63) ?_; intro bL hg cT hbox hb; have aT := aM (hbox); have bM := gF hg HB; have bN := gF hg HB; have aE := nM hg aA; have aG := nH hg aA; replace aA := rB aA hb; replace HB := rS HB hb; clear hb hbox hg; have cE := aE.out; have cG := aG.out; have cH := cA2 aA.out; have cK := cA2 aT.out) | ((with_reducible refine gC (f := 189) rfl ?_); refine gL (some 14) Try.func189 #[.slice aJ aC.length aK, .slice aN aD.length aQ] ?_; (with_reducible refine (laws_eqIntS.calls k _ _ aC _ _ aD false _ ?side1 ?side2 ?side3 ?side4 A4.out).mono ?_); (case side1 => exact cM (cB aW.out HB.out)); (case side2 => exact aX.out); (case side3 => exact cM (cB bA.out HB.out)); (case side4 => exact bD.out); rintro e w' ⟨rfl, ⟨nd, rfl⟩⟩; refine ⟨_, rfl, ?_⟩))
 go_ret
 exact ⟨xW, bl HB.out⟩

end Go.Proofs.Ythmijfekdeagpaa.PFnExactGate

/- A part of the proof of laws.FnFrames. No condition beyond what its theorems say. -/
import Derived.Test.YtaoipjdmmamkmaaVFnFramesPx1
import Derived.Test.YtaoipjdmmamkmaaVFnFramesPx2
namespace Go.Proofs.Ytaoipjdmmamkmaa.PFnFrames
open Go.RowKit Go.Proofs.YtaoipjdmmamkmaaW.PrintWords Go.Proofs.YtaoipjdmmamkmaaW.PrintLast Go.Proofs.YtaoipjdmmamkmaaW.PrintMore
set_option linter.unusedVariables false
set_option linter.unusedSimpArgs false

def spec_SumOf.l0 : Nat → List Int → Int → Int → Int → Option (Int)
 | 0, _, _, _, _ => none
 | k + 1, x0, x3, x4, x5 => if x5 < (x0.length : Int) then (if 0 ≤ x5 then (spec_SumOf.l0 k x0 (Int.tmod (wrap64 (x3 + (wrap64 (rd x0 x5)))) 65521) (Int.tmod (wrap64 (x4 + (Int.tmod (wrap64 (x3 + (wrap64 (rd x0 x5)))) 65521))) 65521) (wrap64 (x5 + 1))) else (none)) else (some (wrap64 ((wrap64 (x4 * 65536)) + x3)))
def spec_SumOf.f (k : Nat) (l0 : List Int) : Option (Int) := spec_SumOf.l0 k l0 1 0 0
theorem spec_SumOf.mono_l : ∀ k, (∀ y0 y1 y2 y3, LeO (spec_SumOf.l0 k y0 y1 y2 y3) (spec_SumOf.l0 (k + 1) y0 y1 y2 y3))
 | 0 => fun _ _ _ _ r h => by simp [spec_SumOf.l0] at h
 | k + 1 => by
  have ih0 := spec_SumOf.mono_l k
  ·intro y0 y1 y2 y3
   unfold spec_SumOf.l0
   repeat' first|(with_reducible first|apply ih0|exact lR _|exact lN _|refine lI ?_ ?_|refine lB ?_ fun _ => ?_)|exact lN _|refine lI ?_ ?_|refine lB ?_ fun _ => ?_
theorem spec_SumOf.mono : ∀ a0 k, LeO (spec_SumOf.f k a0) (spec_SumOf.f (k + 1) a0) := by
 intro a0 k
 have ih0 := spec_SumOf.mono_l k
 unfold spec_SumOf.f
 repeat' first|(with_reducible first|apply ih0|exact lR _|exact lN _|refine lI ?_ ?_|refine lB ?_ fun _ => ?_)|exact lN _|refine lI ?_ ?_|refine lB ?_ fun _ => ?_
set_option maxHeartbeats 60000000 in
set_option maxRecDepth 100000 in
theorem spec_SumOf.calls (k : Nat) (A0 : Option Addr) (c0 : Nat) (l0 : List Int) (r : Int) (w : World) (hr0 : Kd.C (Kd.int .u8) w A0 l0.length l0) (hc0 : l0.length ≤ c0) (h : spec_SumOf.f k l0 = some r) :
  Calls Try.prog 54 #[.slice A0 l0.length c0] w fun e w' => e = .returned (.int .i64 r) ∧ Drawn0 w w' := by
 have aN := aM hr0
 have aV := aM hc0
 clear hr0 hc0
 have H : (spec_SumOf.l0 k l0 1 0 0) = some r := h
 clear h
 have H' := aM H
 clear H
 go_enter Try.func54, Try.ntmps54
 go_wp2
 go_loopg [3, 4, 5] k (fun kq v3 v4 v5 w' => ∃ (aC : Int) (aD : Int) (aA : Int), v3 = .int .i64 aC ∧ v4 = .int .i64 aD ∧ v5 = .int .i64 aA ∧ Aside0 (spec_SumOf.l0 kq l0 aC aD aA = some r) ∧ Aside0 (kq ≤ k) ∧ Drawn0 w w')
 case atStart => exact ⟨(1), (0), (0), xE, xE, xE, H', ⟨Nat.le_refl _⟩, by repeat (first | exact Drawn0.refl _ | apply Drawn0.step)⟩
 case round =>
  clear H'
  obtain ⟨aC, aD, aA, rfl, rfl, rfl, HA, aH, ⟨m1, rfl⟩⟩ := hrel
  cases gk with
  | zero => exact absurd HA.out (by simp [spec_SumOf.l0])
  | succ k1 =>
   have H := HA.out
   clear HA
   simp only [spec_SumOf.l0] at H
   by_cases c2 : aA < (l0.length : Int)
   case neg =>
    rw [if_neg c2] at H
    have aI := decide_eq_false c2
    clear c2
    obtain rfl := Option.some.inj H
    go_wp2
    go_ret
    exact ⟨by first | rfl | (simp; done) | (simp [*]; done), by repeat (first | exact Drawn0.refl _ | apply Drawn0.step)⟩
   rw [if_pos c2] at H
   have aI := decide_eq_true c2
   clear c2
   obtain ⟨aT, H⟩ := gI H
   have H' := aM H
   clear H
   have aE : 0 ≤ (aA : Int) := dT
   have aG : aA < (l0.length : Int) := dT
   obtain ⟨aQ, aJ, aK⟩ := Kd.at_int aN.out aA aE aG
   cases aJ
   replace aE := eq_true aE
   replace aG := eq_true aG
   go_wp2
   go_roundg k1
   case measure => have := aH.out; omega
   case rel => exact ⟨(Int.tmod (wrap64 (aC + (wrap64 (rd l0 aA)))) 65521), (Int.tmod (wrap64 (aD + (Int.tmod (wrap64 (aC + (wrap64 (rd l0 aA)))) 65521))) 65521), (wS aA), xE, xE, xE, H', ⟨by have := aH.out; omega⟩, by repeat (first | exact Drawn0.refl _ | apply Drawn0.step)⟩

def spec_FrameBytes.f (k : Nat) (aD aE aG : Int) (aA : List Int) : Option (List Int) := (spec_FrameOk.f aD aE aG aA).bind fun aN => (if aN = true then ((some (([(aD) % 256, (aE) % 256, (aG) % 256] : List Int) : List Int)).bind fun aH => ((spec_PutNum.f k (aA.length : Int)).bind fun aI => (if aH.length + aI.length < 140737488355328 then ((some (aH ++ aI : List Int)).bind fun aJ => (if aJ.length + aA.length < 140737488355328 then ((some (aJ ++ aA : List Int)).bind fun aC => ((spec_SumOf.f k aC).bind fun aQ => ((spec_l2Sum.f aQ).bind fun aK => (if aC.length + aK.length < 140737488355328 then (some (aC ++ aK)) else (none))))) else (none))) else (none)))) else (some (([] : List Int))))
theorem spec_FrameBytes.mono : ∀ a0 a1 a2 a3 k, LeO (spec_FrameBytes.f k a0 a1 a2 a3) (spec_FrameBytes.f (k + 1) a0 a1 a2 a3) := by
 intro a0 a1 a2 a3 k
 unfold spec_FrameBytes.f
 repeat' first|(with_reducible first|apply spec_PutNum.mono|apply spec_SumOf.mono|exact lR _|exact lN _|refine lI ?_ ?_|refine lB ?_ fun _ => ?_)|exact lN _|refine lI ?_ ?_|refine lB ?_ fun _ => ?_
set_option maxHeartbeats 60000000 in
set_option maxRecDepth 100000 in
theorem spec_FrameBytes.calls (k : Nat) (aG aH aI : Int) (bA : Option Addr) (bD : Nat) (aD : List Int) (r : List Int) (w : World) (hr0_3 : Kd.C (Kd.int .u8) w bA aD.length aD) (hc0_3 : aD.length ≤ bD) (h : spec_FrameBytes.f k aG aH aI aD = some r) :
  Calls Try.prog 13 #[.agg #[aG, aH, aI, .slice bA aD.length bD]] w fun e w' => ∃ cL : Value, e = .returned (cL) ∧ Kd.R (Kd.int .u8) 5 w' w.heap.size (fun _ => True) cL r ∧ Below w.heap.size w w' := by
 have dE := Try.underlying25
 have bJ := aM hr0_3
 have bN := aM hc0_3
 clear hr0_3 hc0_3
 have HB := aM (Below.refl w.heap.size w)
 have H : ((spec_FrameOk.f aG aH aI aD).bind fun bM => (if bM = true then ((some (([(aG) % 256, (aH) % 256, (aI) % 256] : List Int) : List Int)).bind fun bG => ((spec_PutNum.f k (aD.length : Int)).bind fun aN => (if bG.length + aN.length < 140737488355328 then ((some (bG ++ aN : List Int)).bind fun bH => (if bH.length + aD.length < 140737488355328 then ((some (bH ++ aD : List Int)).bind fun aQ => ((spec_SumOf.f k aQ).bind fun bI => ((spec_l2Sum.f bI).bind fun aT => (if aQ.length + aT.length < 140737488355328 then (some (aQ ++ aT)) else (none))))) else (none))) else (none)))) else (some (([] : List Int))))) = some r := h
 clear h
 obtain ⟨bM, cN, H⟩ := hB H
 have A2 := aM cN
 clear cN
 by_cases c3 : bM = true
 case neg =>
  replace c3 := Bool.eq_false_iff.mpr c3
  subst c3
  replace H := hF H
  obtain ⟨cR, aW⟩ : ∃ y_ : List Int, y_ = (([] : List Int)) := ⟨_, rfl⟩
  replace H : (some cR) = some r := by first | (rw [aW]; with_reducible exact H) | (have H2_ := (Option.bind_some _ _).symm.trans H; rw [aW]; with_reducible exact H2_) | (have H2_ := (Option.bind_some _ _).symm.trans H; with_reducible exact H2_) | with_reducible exact H | (rw [aW]; exact H) | exact H
  have bO := aM aW
  clear aW
  obtain rfl := Option.some.inj H
  go_enter Try.func13, Try.ntmps13
  go_wp2_with (first | ((with_reducible refine gD (N := 1) rfl ?_); refine bE (N := 1) (cs := #[aG, aH, aI, .slice bA aD.length bD]) (t := 25) ?_; intro bZ hg dK hbox hb; have aA := aM (hbox); have cA := gF hg HB; have cC := gF hg HB; replace HB := rS HB hb; clear hb hbox hg; have cY := cA4 aA.out) | ((with_reducible refine gC (f := 17) rfl ?_); refine gL (some 5) Try.func17 #[.agg #[aG, aH, aI, .slice bA aD.length bD]] ?_; (with_reducible refine (spec_FrameOk.calls aG aH aI _ _ aD false _ ?side1 ?side2 A2.out).mono ?_); (case side1 => exact cM (cB bJ.out HB.out)); (case side2 => exact bN.out); rintro e dL ⟨rfl, hb⟩; refine ⟨_, rfl, ?_⟩; replace aA := rB aA hb; replace HB := rS HB hb; (try clear hb)) | ((with_reducible refine gD (N := 7) rfl ?_); refine Kd.R_lit (Kd.int .u8) _ 5 ?hg (N := 7) ?hd (xs := ([] : List Int)) (inner := []) (ok := fun _ => True) (okp := fun _ => True) ?hr ?hp (fun _ hk => hk) trivial (Below.refl _ _) (Nat.le_refl _) (by simp) ?_; (case hd => rfl); (case hg => rfl); (case hr => first | (go_simp; done) | (go_simp; rfl)); (case hp => exact (Reps.none _ _)); intro dF dM ho30 hb hg_ hnew_; clear hg_ hnew_; (first | rw [← bO.out] at ho30 | (simp only [Int.reduceToNat] at ho30; rw [← bO.out] at ho30)); have cD := aM (Kd.R_lower ho30 (below_size (bl HB.out))); replace aA := rB aA hb; replace HB := rS HB hb; clear hb ho30))
  go_ret
  exact ⟨_, xW, by (with_reducible repeat (first | apply Kd.R_alloc | apply Kd.R_drewN | apply Kd.R_drew)); exact cD.out, bl HB.out⟩
 subst c3
 replace H := hP H rfl
 obtain ⟨bG, bP, H⟩ := hS H
 have bQ := aM bP
 clear bP
 obtain ⟨aN, cO, H⟩ := hB H
 have A4 := aM cO
 clear cO
 by_cases c5 : bG.length + aN.length < 140737488355328
 case neg =>
  rw [if_neg c5] at H
  exact absurd H (by simp)
 rw [if_pos c5] at H
 have LMc5 := aM c5
 clear c5
 obtain ⟨bH, bT, H⟩ := hS H
 have cE := aM bT
 clear bT
 by_cases c6 : bH.length + aD.length < 140737488355328
 case neg =>
  rw [if_neg c6] at H
  exact absurd H (by simp)
 rw [if_pos c6] at H
 have LMc6 := aM c6
 clear c6
 obtain ⟨aQ, bU, H⟩ := hS H
 have cG := aM bU
 clear bU
 obtain ⟨bI, cP, H⟩ := hB H
 have A7 := aM cP
 clear cP
 obtain ⟨aT, cQ, H⟩ := hB H
 have A8 := aM cQ
 clear cQ
 by_cases c9 : aQ.length + aT.length < 140737488355328
 case neg =>
  rw [if_neg c9] at H
  exact absurd H (by simp)
 rw [if_pos c9] at H
 have LMc9 := aM c9
 clear c9
 obtain ⟨cS, aX⟩ : ∃ y_ : List Int, y_ = (aQ ++ aT) := ⟨_, rfl⟩
 replace H : (some cS) = some r := by first | (rw [aX]; with_reducible exact H) | (have H2_ := (Option.bind_some _ _).symm.trans H; rw [aX]; with_reducible exact H2_) | (have H2_ := (Option.bind_some _ _).symm.trans H; with_reducible exact H2_) | with_reducible exact H | (rw [aX]; exact H) | exact H
 have cH := aM aX
 clear aX
 obtain rfl := Option.some.inj H
 go_enter Try.func13, Try.ntmps13
 go_wp2_with (first | ((with_reducible refine gD (N := 1) rfl ?_); refine box_event ?hg (N := 1) ?hd (cs := #[aG, aH, aI, .slice bA aD.length bD]) (t := 25) ?hr ?_; (case hd => rfl); (case hg => rfl); (case hr => first | (go_simp; done) | (go_simp; rfl) | (obtain ⟨A_, c_, e_⟩ := Kd.R_slice aJ.out; subst e_; (first | (go_simp; done) | (go_simp; rfl))) | (obtain ⟨A_, c_, e_⟩ := Kd.S_slice aJ.out; subst e_; (first | (go_simp; done) | (go_simp; rfl))) | (obtain ⟨A_, c_, e_⟩ := Kd.R_slice aC.out; subst e_; (first | (go_simp; done) | (go_simp; rfl))) | (obtain ⟨A_, c_, e_⟩ := Kd.S_slice aC.out; subst e_; (first | (go_simp; done) | (go_simp; rfl))) | (obtain ⟨A_, c_, e_⟩ := Kd.R_slice aV.out; subst e_; (first | (go_simp; done) | (go_simp; rfl))) | (obtain ⟨A_, c_, e_⟩ := Kd.S_slice aV.out; subst e_; (first | (go_simp; done) | (go_simp; rfl))) | (obtain ⟨A_, c_, e_⟩ := Kd.R_slice aE.out; subst e_; (first | (go_simp; done) | (go_simp; rfl))) | (obtain ⟨A_, c_, e_⟩ := Kd.S_slice aE.out; subst e_; (first | (go_simp; done) | (go_simp; rfl))) | (obtain ⟨A_, c_, e_⟩ := Kd.R_slice aK.out; subst e_; (first | (go_simp; done) | (go_simp; rfl))) | (obtain ⟨A_, c_, e_⟩ := Kd.S_slice aK.out; subst e_; (first | (go_simp; done) | (go_simp; rfl)))); intro bZ hg dN hbox hb; have aA := aM (hbox); have cA := gF hg HB; have cC := gF hg HB; replace HB := rS HB hb; clear hb hbox hg; have dA := cA4 aA.out) | ((with_reducible refine gC (f := 17) rfl ?_); refine gL (some 5) Try.func17 #[.agg #[aG, aH, aI, .slice bA aD.length bD]] ?_; (with_reducible refine (spec_FrameOk.calls aG aH aI _ _ aD true _ ?side1 ?side2 A2.out).mono ?_); (case side1 => exact cM (cB bJ.out HB.out)); (case side2 => exact bN.out); rintro e dO ⟨rfl, hb⟩; refine ⟨_, rfl, ?_⟩; replace aA := rB aA hb; replace HB := rS HB hb; (try clear hb); have dB := cA4 aA.out) | ((with_reducible refine gD (N := 17) rfl ?_); refine Kd.R_lit (Kd.int .u8) _ 5 ?hg (N := 17) ?hd (xs := ([(aG) % 256, (aH) % 256, (aI) % 256] : List Int)) (inner := [.int .u8 ((aG) % 256), .int .u8 ((aH) % 256), .int .u8 ((aI) % 256)]) (ok := fun _ => True) (okp := fun _ => True) ?hr ?hp (fun _ hk => hk) trivial (Below.refl _ _) (Nat.le_refl _) (by simp) ?_; (case hd => rfl); (case hg => rfl); (case hr => first | (go_simp; done) | (go_simp; rfl) | (obtain ⟨A_, c_, e_⟩ := Kd.R_slice aJ.out; subst e_; (first | (go_simp; done) | (go_simp; rfl))) | (obtain ⟨A_, c_, e_⟩ := Kd.S_slice aJ.out; subst e_; (first | (go_simp; done) | (go_simp; rfl))) | (obtain ⟨A_, c_, e_⟩ := Kd.R_slice aC.out; subst e_; (first | (go_simp; done) | (go_simp; rfl))) | (obtain ⟨A_, c_, e_⟩ := Kd.S_slice aC.out; subst e_; (first | (go_simp; done) | (go_simp; rfl))) | (obtain ⟨A_, c_, e_⟩ := Kd.R_slice aV.out; subst e_; (first | (go_simp; done) | (go_simp; rfl))) | (obtain ⟨A_, c_, e_⟩ := Kd.S_slice aV.out; subst e_; (first | (go_simp; done) | (go_simp; rfl))) | (obtain ⟨A_, c_, e_⟩ := Kd.R_slice aE.out; subst e_; (first | (go_simp; done) | (go_simp; rfl))) | (obtain ⟨A_, c_, e_⟩ := Kd.S_slice aE.out; subst e_; (first | (go_simp; done) | (go_simp; rfl))) | (obtain ⟨A_, c_, e_⟩ := Kd.R_slice aK.out; subst e_; (first | (go_simp; done) | (go_simp; rfl))) | (obtain ⟨A_, c_, e_⟩ := Kd.S_slice aK.out; subst e_; (first | (go_simp; done) | (go_simp; rfl)))); (case hp => exact (Reps.one (show Kd.M (Kd.int .u8) _ _ _ ((aG) % 256) [.int .u8 ((aG) % 256)] from rfl) (Reps.one (show Kd.M (Kd.int .u8) _ _ _ ((aH) % 256) [.int .u8 ((aH) % 256)] from rfl) (Reps.one (show Kd.M (Kd.int .u8) _ _ _ ((aI) % 256) [.int .u8 ((aI) % 256)] from rfl) (Reps.none _ _))))); intro cT dP ho15 hb hg_ hnew_; clear hg_ hnew_; (first | rw [← bQ.out] at ho15 | (simp only [Int.reduceToNat] at ho15; rw [← bQ.out] at ho15)); have aJ := aM (Kd.R_lower ho15 (below_size (bl HB.out))); replace aA := rB aA hb; replace HB := rS HB hb; clear hb ho15; have dC := cA4 aA.out) | ((with_reducible refine gC (f := 52) rfl ?_); refine gL (some 22) Try.func52 #[.int .i64 (aD.length : Int)] ?_; (with_reducible refine (spec_PutNum.calls k (aD.length : Int) aN _ A4.out).mono ?_); rintro e dQ ⟨dG, rfl, ho0, hb⟩; refine ⟨_, rfl, ?_⟩; have aC := aM (Kd.R_lower (Kd.R_new' ho0 (Kd.R_lt (kr aJ.out))) (below_size (bl HB.out))); replace aJ := aM (Kd.R_elder' (kr aJ.out) (Kd.R_base ho0) hb); replace aA := rB aA hb; replace HB := rS HB hb; (repeat first|clear hb|clear ho0); obtain ⟨bK, bL, cU⟩ := Kd.R_slice aC.out; subst cU) | ((with_reducible refine gate_builtin (b := .append) (xs := #[.tmp 18, .tmp 22]) rfl ?_); at_builtin; refine Kd.R_append_rows (Kd.int .u8) (w0 := w) w.heap.size rfl (.tmp 18) (.tmp 22) 22 5 (.int .u8 0) 1 rfl Try.underlying22 info5 rfl (by decide) (by omega) cT bG aN _ _ _ (fun k_ => some k_ ≠ (.slice bK aN.length bL : Value).ownBlock) (fun _ => False) rfl rfl ?aO ?aR (fun _ _ h => h) (fun _ h => h.elim) ?aF ?aB ?aS ?aL ?_; (case aR => repeat (first | exact (Kd.R_reads' aC.out).2.2 | (with_reducible refine Kd.C_alloc ?_ _) | (with_reducible refine Kd.C_drewN ?_ _) | (with_reducible refine Kd.C_drew ?_))); (case aB => exact (bl HB.out)); (case aF => exact (fun k_ hk => Kd.fresh' (Kd.R_lt (kr aC.out)) k_ hk)); (case aO => exact (kr (Kd.R_mono aJ.out (fun _ hk => hk.2)))); (case aS => exact (below_size (bl HB.out))); (case aL => have := LMc5.out; omega); intro cV dR ho hb hg hat; rw [← cE.out] at ho; have aV := aM (ho); replace aA := aM (blk_grown (bk aA.out) hg (Kd.R_ne aJ.out aA.out (by decide))); replace aC := aM (Kd.R_after (ok := (fun _ => True)) (kr aC.out) hg hat); replace HB := aM (hb); clear aJ; clear ho hb hg hat; have dD := cA4 aA.out) | ((with_reducible refine gate_builtin (b := .append) (xs := #[.tmp 24, .tmp 26]) rfl ?_); at_builtin; refine Kd.R_append_rows (Kd.int .u8) (w0 := w) w.heap.size rfl (.tmp 24) (.tmp 26) 22 5 (.int .u8 0) 1 rfl Try.underlying22 info5 rfl (by decide) (by omega) cV bH aD _ _ _ (fun k_ => some k_ ≠ (.slice bK aN.length bL : Value).ownBlock) (fun _ => False) rfl rfl ?aO ?aR (fun _ _ h => h) (fun _ h => h.elim) ?aF ?aB ?aS ?aL ?_; (case aR => repeat (first | exact (cB bJ.out HB.out) | (with_reducible refine Kd.C_alloc ?_ _) | (with_reducible refine Kd.C_drewN ?_ _) | (with_reducible refine Kd.C_drew ?_))); (case aB => exact (bl HB.out)); (case aF => exact (fun k_ hk => Kd.fresh' (Kd.R_lt (kr aC.out)) k_ hk)); (case aO => exact (kr aV.out)); (case aS => exact (below_size (bl HB.out))); (case aL => have := LMc6.out; omega); intro dH dS ho hb hg hat; rw [← cG.out] at ho; have aE := aM (ho); replace aA := aM (blk_grown (bk aA.out) hg (Kd.R_ne aV.out aA.out (by decide))); replace aC := aM (Kd.R_after (ok := (fun _ => True)) (kr aC.out) hg hat); replace HB := aM (hb); clear aV; clear ho hb hg hat; obtain ⟨bV, bW, cW⟩ := Kd.R_slice aE.out; subst cW) | ((with_reducible refine gC (f := 54) rfl ?_); refine gL (some 30) Try.func54 #[.slice bV aQ.length bW] ?_; (with_reducible refine (spec_SumOf.calls k _ _ aQ bI _ ?side1 ?side2 A7.out).mono ?_); (case side1 => exact cM ((Kd.R_reads' aE.out).2.2)); (case side2 => exact (Kd.R_reads' aE.out).2.1); rintro e w' ⟨rfl, ⟨nd, rfl⟩⟩; refine ⟨_, rfl, ?_⟩) | ((with_reducible refine gC (f := 53) rfl ?_); refine gL (some 31) Try.func53 #[bI] ?_; (with_reducible refine (spec_l2Sum.calls bI aT _ A8.out).mono ?_); rintro e dU ⟨dI, rfl, ho0, hb⟩; refine ⟨_, rfl, ?_⟩; have aK := aM (Kd.R_lower (Kd.R_new' (Kd.R_new' ho0 (Kd.R_lt (kr aC.out))) (Kd.R_lt (kr aE.out))) (below_size (bl HB.out))); replace aC := aM (Kd.R_elder' (kr aC.out) (Kd.R_base ho0) hb); replace aE := aM (Kd.R_elder' (kr aE.out) (Kd.R_base ho0) hb); replace aA := rB aA hb; replace HB := rS HB hb; (repeat first|clear hb|clear ho0); obtain ⟨bX, bY, cX⟩ := Kd.R_slice aK.out; subst cX) | ((with_reducible refine gate_builtin (b := .append) (xs := #[.tmp 28, .tmp 31]) rfl ?_); at_builtin; refine Kd.R_append_rows (Kd.int .u8) (w0 := w) w.heap.size rfl (.tmp 28) (.tmp 31) 22 5 (.int .u8 0) 1 rfl Try.underlying22 info5 rfl (by decide) (by omega) (.slice bV aQ.length bW) aQ aT _ _ _ (fun k_ => some k_ ≠ (.slice bK aN.length bL : Value).ownBlock ∧ some k_ ≠ (.slice bX aT.length bY : Value).ownBlock) (fun _ => False) rfl rfl ?aO ?aR (fun _ _ h => h) (fun _ h => h.elim) ?aF ?aB ?aS ?aL ?_; (case aR => repeat (first | exact (Kd.R_reads' aK.out).2.2 | (with_reducible refine Kd.C_alloc ?_ _) | (with_reducible refine Kd.C_drewN ?_ _) | (with_reducible refine Kd.C_drew ?_))); (case aB => exact (bl HB.out)); (case aF => exact (fun k_ hk => ⟨Kd.fresh' (Kd.R_lt (kr aC.out)) k_ hk, Kd.fresh' (Kd.R_lt (kr aK.out)) k_ hk⟩)); (case aO => exact (kr aE.out)); (case aS => exact (below_size (bl HB.out))); (case aL => have := LMc9.out; omega); intro dJ dV ho hb hg hat; rw [← cH.out] at ho; have cK := aM (ho); replace aA := aM (blk_grown (bk aA.out) hg (Kd.R_ne aE.out aA.out (by decide))); replace aC := aM (Kd.R_after (ok := (fun k_ => some k_ ≠ (.slice bX aT.length bY : Value).ownBlock)) (kr (Kd.R_mono aC.out (fun _ hk => ⟨hk.2, hk.1.2⟩))) hg hat); replace aK := aM (Kd.R_after (ok := (fun k_ => some k_ ≠ (.slice bK aN.length bL : Value).ownBlock)) (kr (Kd.R_mono aK.out (fun _ hk => ⟨hk.1.2, hk.2⟩))) hg hat); replace HB := aM (hb); clear aE; clear ho hb hg hat))
 go_ret
 exact ⟨_, xW, by (with_reducible repeat (first | apply Kd.R_alloc | apply Kd.R_drewN | apply Kd.R_drew)); exact Kd.R_mono cK.out (fun _ hk => trivial), bl HB.out⟩

def spec_l2DentR.f (aE : List Int) (aK aN : Int) (l1 : List Int) : Option (List Int × Int × Int) := (spec_l1Below.f aE aK aN (wrap64 ((l1.length : Int) + 1))).bind fun aA => ((spec_l1Below.f aE aA.2.1 aA.2.2 5).bind fun aC => (if aC.1 = 0 then (none) else (if aC.1 = 1 then ((some (([] : List Int) : List Int)).bind fun aG => (if 0 ≤ aA.1 then (if aA.1 ≤ (l1.length : Int) then (if aG.length + (l1.take (aA.1 : Int).toNat).length < 140737488355328 then ((some (aG ++ (l1.take (aA.1 : Int).toNat) : List Int)).bind fun aH => ((spec_l1PickInt.f aE aC.2.1 aC.2.2 (([0, 1, 128, 3] : List Int))).bind fun aD => ((some (([(aD.1) % 256] : List Int) : List Int)).bind fun aI => (if aI.length + (l1.drop (aA.1 : Int).toNat).length < 140737488355328 then ((some (aI ++ (l1.drop (aA.1 : Int).toNat) : List Int)).bind fun aJ => (if aH.length + aJ.length < 140737488355328 then (some ((aH ++ aJ), aD.2.1, aD.2.2)) else (none))) else (none))))) else (none)) else (none)) else (none))) else (none))))
theorem l2Dent_len {α : Type} {d : Kd α} {w : World} {A : Option Addr} {n m : Nat} {xs : List α} (e : n = m) (h : d.C w A n xs) : d.C w A m xs := e ▸ h
def spec_l2DentR.T6 : Bool × List (List Nat × List Nat) := (true, [([], []), ([], []), ([], []), ([1, 2], [1, 2]), ([0, 3], [0, 3]), ([], []), ([], []), ([5, 6, 4], [5, 6]), ([7], [7]), ([8], [8]), ([], []), ([], []), ([10, 11], [10, 11]), ([9, 12, 7], [9, 12]), ([4, 13, 13], [4, 13]), ([14, 14, 0, 1, 2, 3, 4, 5, 6, 7, 8, 9, 10, 11, 12, 13, 14], [14])])
def spec_l2DentR.B6 : List Nat := [0, 0, 0, 6, 15, 0, 0, 127, 255, 511, 0, 0, 3072, 8191, 16383, 32767]
theorem spec_l2DentR.tab6 : rtab .any (opsOf Try.f43 6) = spec_l2DentR.T6 := by kernel_rfl
theorem spec_l2DentR.bits6 : waitsOk spec_l2DentR.T6.2 spec_l2DentR.B6 = true := by kernel_rfl
set_option maxHeartbeats 60000000 in
set_option maxRecDepth 100000 in
theorem spec_l2DentR.calls (g : Nat) (aH : List Int) (bU bV : Int) (A1 : Option Addr) (c1 : Nat) (l1 : List Int) (r1 : List Int) (r2 r3 : Int) (w0 w : World) (hI : IsS91 w0 w g aH bU bV) (hB : Below w0.heap.size w0 w) (hr1 : Kd.C (Kd.int .u8) w A1 l1.length l1) (hc1 : l1.length ≤ c1) (dC : ∀ ad, A1 = some ad → 0 < l1.length → ad.block ≠ g) (h : spec_l2DentR.f aH bU bV l1 = some (r1, r2, r3)) :
  Calls Try.prog 43 #[.pointer (some ⟨g, 0, none⟩), .slice A1 l1.length c1] w fun e w' => ∃ dD : Value, e = .returned (dD) ∧ Kd.R (Kd.int .u8) 5 w' w.heap.size (fun _ => True) dD r1 ∧ IsS91 w0 w' g aH r2 r3 ∧ Below w0.heap.size w0 w' ∧ KeepBut w w' g none := by
 have cD := aM hr1
 have dE := aM hc1
 clear hr1 hc1
 have aC := aM hI
 have HK := aM (KeepBut.refl w g none)
 have HL := aM hB.size
 clear hI
 have HW0 := aM hB.size
 have HB := aM hB
 clear hB
 have H : ((spec_l1Below.f aH bU bV (wS (l1.length : Int))).bind fun aI => ((spec_l1Below.f aH aI.2.1 aI.2.2 5).bind fun bO => (if bO.1 = 0 then (none) else (if bO.1 = 1 then ((some (([] : List Int) : List Int)).bind fun bD => (if 0 ≤ aI.1 then (if aI.1 ≤ (l1.length : Int) then (if bD.length + (l1.take (aI.1 : Int).toNat).length < 140737488355328 then ((some (bD ++ (l1.take (aI.1 : Int).toNat) : List Int)).bind fun aJ => ((spec_l1PickInt.f aH bO.2.1 bO.2.2 (([0, 1, 128, 3] : List Int))).bind fun aN => ((some (([(aN.1) % 256] : List Int) : List Int)).bind fun aV => (if aV.length + (l1.drop (aI.1 : Int).toNat).length < 140737488355328 then ((some (aV ++ (l1.drop (aI.1 : Int).toNat) : List Int)).bind fun aK => (if aJ.length + aK.length < 140737488355328 then (some ((aJ ++ aK), aN.2.1, aN.2.2)) else (none))) else (none))))) else (none)) else (none)) else (none))) else (none))))) = some (r1, r2, r3) := h
 clear h
 obtain ⟨⟨aA, cR, cS⟩, dF, H⟩ := hB H
 try dsimp only at H
 have A3 := aM dF
 clear dF
 obtain ⟨⟨bG, bH, bI⟩, dG, H⟩ := hB H
 try dsimp only at H
 have A4 := aM dG
 clear dG
 by_cases c5 : bG = 0
 case pos =>
  rw [if_pos c5] at H
  exact absurd H (by simp)
 rw [if_neg c5] at H
 have eE : (bG == 0) = false := beq_eq_false_iff_ne.mpr c5
 have eF : (bG != 0) = true := bne_iff_ne.mpr c5
 by_cases bY : bG = 1
 case neg =>
  rw [if_neg bY] at H
  exact absurd H (by simp)
 rw [if_pos bY] at H
 have dU : (bG == 1) = true := beq_iff_eq.mpr bY
 have dV : (bG != 1) = false := bne_eq_false_iff_eq.mpr bY
 clear bY
 obtain ⟨bD, cE, H⟩ := hS H
 have bP := aM cE
 clear cE
 by_cases bZ : 0 ≤ aA
 case neg =>
  rw [if_neg bZ] at H
  exact absurd H (by simp)
 rw [if_pos bZ] at H
 have dW := eq_true bZ
 have dX : decide (0 ≤ aA) = true := decide_eq_true bZ
 clear bZ
 by_cases cA : aA ≤ (l1.length : Int)
 case neg =>
  rw [if_neg cA] at H
  exact absurd H (by simp)
 rw [if_pos cA] at H
 have dY := eq_true cA
 have dZ : decide (aA ≤ (l1.length : Int)) = true := decide_eq_true cA
 clear cA
 by_cases cG : bD.length + (l1.take (aA : Int).toNat).length < 140737488355328
 case neg =>
  rw [if_neg cG] at H
  exact absurd H (by simp)
 rw [if_pos cG] at H
 have LMc13 := aM cG
 clear cG
 obtain ⟨aJ, cH, H⟩ := hS H
 have bW := aM cH
 clear cH
 obtain ⟨bQ, bK⟩ : ∃ y_ : List Int, y_ = (([0, 1, 128, 3] : List Int)) := ⟨_, rfl⟩
 replace H : ((spec_l1PickInt.f aH bH bI bQ).bind fun aN => ((some (([(aN.1) % 256] : List Int) : List Int)).bind fun aV => (if aV.length + (l1.drop (aA : Int).toNat).length < 140737488355328 then ((some (aV ++ (l1.drop (aA : Int).toNat) : List Int)).bind fun aK => (if aJ.length + aK.length < 140737488355328 then (some ((aJ ++ aK), aN.2.1, aN.2.2)) else (none))) else (none)))) = some (r1, r2, r3) := by first | (rw [bK]; with_reducible exact H) | (have H2_ := (Option.bind_some _ _).symm.trans H; rw [bK]; with_reducible exact H2_) | (have H2_ := (Option.bind_some _ _).symm.trans H; with_reducible exact H2_) | with_reducible exact H | (rw [bK]; exact H) | exact H
 have aX := aM bK
 clear bK
 obtain ⟨⟨bT, cT, cU⟩, cV, H⟩ := hB H
 try dsimp only at H
 have dO := aM cV
 clear cV
 obtain ⟨aV, cK, H⟩ := hS H
 have cL := aM cK
 clear cK
 have eA := eq_true (dT : 0 ≤ aA)
 have eB := eq_true (dT : aA ≤ (l1.length : Int))
 by_cases cN : aV.length + (l1.drop (aA : Int).toNat).length < 140737488355328
 case neg =>
  rw [if_neg cN] at H
  exact absurd H (by simp)
 rw [if_pos cN] at H
 have LMc17 := aM cN
 clear cN
 obtain ⟨aK, cO, H⟩ := hS H
 have cY := aM cO
 clear cO
 by_cases cP : aJ.length + aK.length < 140737488355328
 case neg =>
  rw [if_neg cP] at H
  exact absurd H (by simp)
 rw [if_pos cP] at H
 have LMc18 := aM cP
 clear cP
 obtain ⟨dI, bL⟩ : ∃ y_ : List Int, y_ = (aJ ++ aK) := ⟨_, rfl⟩
 replace H : (some (dI, cT, cU)) = some (r1, r2, r3) := by first | (rw [bL]; with_reducible exact H) | (have H2_ := (Option.bind_some _ _).symm.trans H; rw [bL]; with_reducible exact H2_) | (have H2_ := (Option.bind_some _ _).symm.trans H; with_reducible exact H2_) | with_reducible exact H | (rw [bL]; exact H) | exact H
 have dA := aM bL
 clear bL
 simp only [Option.some.injEq, Prod.mk.injEq] at H
 obtain ⟨rfl, rfl, rfl⟩ := H
 go_enter Try.func43, Try.ntmps43
 try go_wp2_with (first | ((with_reducible refine gC (f := 64) rfl ?_); refine gL (some 10) Try.func64 #[.pointer (some ⟨g, 0, none⟩), .int .i64 (wS (l1.length : Int))] ?_; (with_reducible refine (spec_l1Below.calls g aH bU bV (wS (l1.length : Int)) aA cR cS w0 _ ?side1 ?side2 A3.out).mono ?_); (case side1 => exact IsS91.mv aC.out); (case side2 => exact IsS91.bl HB.out); rintro e eI ⟨rfl, hi, hb, hk⟩; refine ⟨_, rfl, ?_⟩; replace HK := aM (KeepBut.trans (km HK.out) hk (.inl rfl)); replace HB := aM (hb); replace aC := aM (hi); (repeat first|clear hb|clear hk|clear hi)) | ((with_reducible refine gC (f := 64) rfl ?_); refine gL (some 12) Try.func64 #[.pointer (some ⟨g, 0, none⟩), .int .i64 5] ?_; (with_reducible refine (spec_l1Below.calls g aH cR cS 5 bG bH bI w0 _ ?side1 ?side2 A4.out).mono ?_); (case side1 => exact IsS91.mv aC.out); (case side2 => exact IsS91.bl HB.out); rintro e dP ⟨rfl, hi, hb, hk⟩; refine ⟨_, rfl, ?_⟩; replace HK := aM (KeepBut.trans (km HK.out) hk (.inl rfl)); replace HB := aM (hb); replace aC := aM (hi); (repeat first|clear hb|clear hk|clear hi)))
 replace aC := aM (IsS91.drew aC.out)
 replace HK := aM (keep_drew HK.out)
 replace HB := aM (below_drew1 HB.out)
 obtain ⟨i022, hi022, _, hsz22, _⟩ := info_parts info5
 obtain ⟨hcut22, hA22, hC22⟩ := print_take_of (P := Try.prog) (Value.int .u8) 0 22 5 .i64 Try.underlying22 hi022 hsz22 A1 c1 l1 aA (dT) (dT) dE.out
 have aQ := aM (Kd.C_of_reads (h1 := fun _ => rfl) (hA22 _ (Kd.reads_of_C cD.out)))
 have eC := aM hC22
 have bA : ∀ ad : Addr, A1 = some ad → 0 < (l1.take (aA : Int).toNat).length → ad.block ≠ g := fun ad he h_ => by cases he; exact Kd.foot_ne (fun W_ hk_ => Kd.C_of_reads (h1 := fun _ => rfl) (hA22 _ (Kd.reads_of_C (Kd.C_foot_ne (fun h => h) cD.out dC W_ hk_)))) h_ (by decide)
 clear hA22 hC22 hi022 hsz22
 obtain ⟨i023, hi023, _, hsz23, _⟩ := info_parts info5
 obtain ⟨dQ, hcut23, hA23, hC23⟩ := print_drop_of (P := Try.prog) (Value.int .u8) 0 22 5 .i64 Try.underlying22 hi023 hsz23 A1 c1 l1 aA (dT) (dT) dE.out
 have bX := aM (Kd.C_of_reads (h1 := fun _ => rfl) (hA23 _ (Kd.reads_of_C cD.out)))
 have eD := aM hC23
 have cQ : ∀ ad : Addr, dQ = some ad → 0 < (l1.drop (aA : Int).toNat).length → ad.block ≠ g := fun ad he h_ => by cases he; exact Kd.foot_ne (fun W_ hk_ => Kd.C_of_reads (h1 := fun _ => rfl) (hA23 _ (Kd.reads_of_C (Kd.C_foot_ne (fun h => h) cD.out dC W_ hk_)))) h_ (by decide)
 clear hA23 hC23 hi023 hsz23
 refine start_ (n := 16) (S := fun w' => True) (ds := []) (dn 16 0) (by kernel_rfl) rfl rfl trivial (fun hHeld => ?_); refine with_tabW spec_l2DentR.tab6 spec_l2DentR.bits6 (fun HT_ HW_ => ?_)
 generalize dP.drew = eJ at aC HK HB aQ bX hHeld ⊢
 refine pZ 1 21 (bv 16 2) HT_ ?_
 refine pZ 2 22 (bv 16 6) HT_ ?_
 refine pZ 3 23 (bv 16 14) HT_ ?_
 refine pZ 5 25 (bv 16 46) HT_ ?_
 refine pZ 10 30 (bv 16 1070) HT_ ?_
 refine pZ 11 31 (bv 16 3118) HT_ ?_
 refine pZ 12 32 (bv 16 7214) HT_ ?_
 refine join_ (σ := Value × Value × Value) 6 (bv 16 7295) (fun s_ => [(20, s_.1), (24, s_.2.1), (26, s_.2.2)]) (fun s_ w' => (Kd.R (Kd.int .u8) 5 w' w.heap.size (fun _ => True) s_.2.1 aJ) ∧ (Kd.R (Kd.int .i64) 3 w' w.heap.size (fun _ => True) s_.2.2 bQ) ∧ (IsS91 w0 w' g aH bH bI) ∧ (KeepBut w w' g none) ∧ (Below w0.heap.size w0 w')) ?_ ?_
 rotate_left
 ·intro hCont
  refine two_ (i := 0) (j := 6) (Ni := some 20) (Nj := some 26) (bv 16 7215) (bv 16 7278) rfl rfl rfl rfl (two_of HT_.out (by kernel_rfl)) (by decide) (by decide) (fun K hK => ?_) (fun K hK => ?_)
  ·skip
   refine Kd.R_lit_step (Kd.int .u8) _ 5 ?hg (N := 20) ?hd (xs := ([] : List Int)) (inner := []) (ok := fun _ => True) (okp := fun _ => True) ?hr ?hp (fun _ hk => hk) trivial (Below.refl _ _) (Nat.le_refl _) (by simp) ?_; (case hd => rfl); (case hg => rfl); (case hr => first | (go_simp; done) | (go_simp; rfl)); (case hp => exact (Reps.none _ _))
   intro aW dR ho25 hb hg_ hnew_
   clear hg_ hnew_
   (first | rw [← bP.out] at ho25 | (simp only [Int.reduceToNat] at ho25; rw [← bP.out] at ho25))
   have aG := aM (Kd.R_lower ho25 (keep_size (km HK.out)))
   replace aC := aM (IsS91.below (IsS91.mv aC.out) hb)
   replace HK := rU HK hb
   replace HB := aM (bS (IsS91.bl HB.out) hb)
   clear hb ho25
   refine hK.out _ _ trivial (fun hHeld => ?_)
   clear hK K
   refine norm_ (a' := ?_) ?_ ?_
   rotate_left
   ·show Act.put _ (some 20) _ = _
    simp only [Act.put, sA, sZ, sS, i64_w, i32_w]
    rfl
   refine two_ (i := 4) (j := 6) (Ni := some 24) (Nj := some 26) (bv 16 7231) (bv 16 7279) rfl rfl rfl rfl (two_of HT_.out (by kernel_rfl)) (by decide) (by decide) (fun K hK => ?_) (fun K hK => ?_)
   ·skip
    refine Kd.R_append_rows_step (Kd.int .u8) w.heap.size (by rfl) (.tmp 20) (.tmp 23) 22 5 (.int .u8 0) 1 rfl Try.underlying22 info5 rfl (by decide) (by omega) aW bD (l1.take (aA : Int).toNat) _ _ _ (fun _ => True) (fun _ => False) rfl rfl ?aO ?aR (fun _ _ h => h) (fun _ h => h.elim) ?aF (Below.refl _ _) ?aS ?aL ?_
    (case aR => first | (refine l2Dent_len (show (l1.take (aA : Int).toNat).length = aA.toNat from (by rw [List.length_take]; have h_ : (aA : Int) ≤ (l1.length : Int) := dT; omega)) ?_; exact Kd.C_keep 0 aQ.out (km HK.out) bA) | (exact Kd.C_keep 0 aQ.out (km HK.out) bA))
    (case aF => exact (fun _ _ => trivial))
    (case aO => exact (kr aG.out))
    (case aS => exact (keep_size (km HK.out)))
    (case aL => have := LMc13.out; have hlx_ := (show (l1.take (aA : Int).toNat).length = aA.toNat from (by rw [List.length_take]; have h_ : (aA : Int) ≤ (l1.length : Int) := dT; omega)); omega)
    intro aT dH ho hb hg hat
    rw [← bW.out] at ho
    have aE := aM (ho)
    replace aC := aM (IsS91.grown (IsS91.mv aC.out) hg (IsS91.own_ne aC.out aG.out (by decide)))
    replace HB := aM (below_weaken (IsS91.bl HB.out) HL.out hb)
    replace HK := aM (KeepBut.trans (km HK.out) (KeepBut.of_grown hg g) (Kd.R_base2 aG.out))
    clear aG
    clear ho hb hg hat
    refine hK.out _ _ trivial (fun hHeld => ?_)
    clear hK K
    refine norm_ (a' := ?_) ?_ ?_
    rotate_left
    ·show Act.put _ (some 24) _ = _
     simp only [Act.put, sA, sZ, sS, i64_w, i32_w]
     rfl
    refine one_ (i := 6) (N := some 26) (bv 16 7295) rfl rfl (one_of HT_.out (by kernel_rfl)) (by decide) (fun K hK => ?_)
    refine Kd.R_lit_step (Kd.int .i64) _ 3 ?hg (N := 26) ?hd (xs := ([0, 1, 128, 3] : List Int)) (inner := [.int .i64 0, .int .i64 1, .int .i64 128, .int .i64 3]) (ok := fun _ => True) (okp := fun _ => True) ?hr ?hp (fun _ hk => hk) trivial (Below.refl _ _) (Nat.le_refl _) (by simp) ?_; (case hd => rfl); (case hg => rfl); (case hr => first | (go_simp; done) | (go_simp; rfl)); (case hp => exact (Reps.one (show Kd.M (Kd.int .i64) _ _ _ 0 [.int .i64 0] from rfl) (Reps.one (show Kd.M (Kd.int .i64) _ _ _ 1 [.int .i64 1] from rfl) (Reps.one (show Kd.M (Kd.int .i64) _ _ _ 128 [.int .i64 128] from rfl) (Reps.one (show Kd.M (Kd.int .i64) _ _ _ 3 [.int .i64 3] from rfl) (Reps.none _ _))))))
    intro bJ eK ho28 hb hg_ hnew_
    clear hg_ hnew_
    (first | rw [← aX.out] at ho28 | (simp only [Int.reduceToNat] at ho28; rw [← aX.out] at ho28))
    have aD := aM (Kd.R_lower ho28 (keep_size (km HK.out)))
    replace aE := rK aE hb
    replace aC := aM (IsS91.below (IsS91.mv aC.out) hb)
    replace HK := rU HK hb
    replace HB := aM (bS (IsS91.bl HB.out) hb)
    clear hb ho28
    refine hK.out _ _ trivial (fun hHeld => ?_)
    clear hK K
    refine norm_ (a' := ?_) ?_ ?_
    rotate_left
    ·show Act.put _ (some 26) _ = _
     simp only [Act.put, sA, sZ, sS, i64_w, i32_w]
     rfl
    exact norm_ (by simp only [putAll, Act.put, sA, sZ, sS]) (hCont (aW, aT, bJ) _ ⟨(kr aE.out), (kr aD.out), (IsS91.mv aC.out), (km HK.out), (IsS91.bl HB.out)⟩)
   ·skip
    refine Kd.R_lit_step (Kd.int .i64) _ 3 ?hg (N := 26) ?hd (xs := ([0, 1, 128, 3] : List Int)) (inner := [.int .i64 0, .int .i64 1, .int .i64 128, .int .i64 3]) (ok := fun _ => True) (okp := fun _ => True) ?hr ?hp (fun _ hk => hk) trivial (Below.refl _ _) (Nat.le_refl _) (by simp) ?_; (case hd => rfl); (case hg => rfl); (case hr => first | (go_simp; done) | (go_simp; rfl)); (case hp => exact (Reps.one (show Kd.M (Kd.int .i64) _ _ _ 0 [.int .i64 0] from rfl) (Reps.one (show Kd.M (Kd.int .i64) _ _ _ 1 [.int .i64 1] from rfl) (Reps.one (show Kd.M (Kd.int .i64) _ _ _ 128 [.int .i64 128] from rfl) (Reps.one (show Kd.M (Kd.int .i64) _ _ _ 3 [.int .i64 3] from rfl) (Reps.none _ _))))))
    intro bJ dH ho27 hb hg_ hnew_
    clear hg_ hnew_
    (first | rw [← aX.out] at ho27 | (simp only [Int.reduceToNat] at ho27; rw [← aX.out] at ho27))
    have aD := aM (Kd.R_lower ho27 (keep_size (km HK.out)))
    replace aG := rK aG hb
    replace aC := aM (IsS91.below (IsS91.mv aC.out) hb)
    replace HK := rU HK hb
    replace HB := aM (bS (IsS91.bl HB.out) hb)
    clear hb ho27
    refine hK.out _ _ trivial (fun hHeld => ?_)
    clear hK K
    refine norm_ (a' := ?_) ?_ ?_
    rotate_left
    ·show Act.put _ (some 26) _ = _
     simp only [Act.put, sA, sZ, sS, i64_w, i32_w]
     rfl
    refine one_ (i := 4) (N := some 24) (bv 16 7295) rfl rfl (one_of HT_.out (by kernel_rfl)) (by decide) (fun K hK => ?_)
    refine Kd.R_append_rows_step (Kd.int .u8) w.heap.size (by rfl) (.tmp 20) (.tmp 23) 22 5 (.int .u8 0) 1 rfl Try.underlying22 info5 rfl (by decide) (by omega) aW bD (l1.take (aA : Int).toNat) _ _ _ (fun _ => True) (fun _ => False) rfl rfl ?aO ?aR (fun _ _ h => h) (fun _ h => h.elim) ?aF (Below.refl _ _) ?aS ?aL ?_
    (case aR => first | (refine l2Dent_len (show (l1.take (aA : Int).toNat).length = aA.toNat from (by rw [List.length_take]; have h_ : (aA : Int) ≤ (l1.length : Int) := dT; omega)) ?_; exact Kd.C_keep 0 aQ.out (km HK.out) bA) | (exact Kd.C_keep 0 aQ.out (km HK.out) bA))
    (case aF => exact (fun _ _ => trivial))
    (case aO => exact (kr aG.out))
    (case aS => exact (keep_size (km HK.out)))
    (case aL => have := LMc13.out; have hlx_ := (show (l1.take (aA : Int).toNat).length = aA.toNat from (by rw [List.length_take]; have h_ : (aA : Int) ≤ (l1.length : Int) := dT; omega)); omega)
    intro aT dS ho hb hg hat
    rw [← bW.out] at ho
    have aE := aM (ho)
    replace aC := aM (IsS91.grown (IsS91.mv aC.out) hg (IsS91.own_ne aC.out aG.out (by decide)))
    replace aD := aM (Kd.R_over' (kr aD.out) (Kd.R_typed (kr aG.out)) (by decide) hg)
    replace HB := aM (below_weaken (IsS91.bl HB.out) HL.out hb)
    replace HK := aM (KeepBut.trans (km HK.out) (KeepBut.of_grown hg g) (Kd.R_base2 aG.out))
    clear aG
    clear ho hb hg hat
    refine hK.out _ _ trivial (fun hHeld => ?_)
    clear hK K
    refine norm_ (a' := ?_) ?_ ?_
    rotate_left
    ·show Act.put _ (some 24) _ = _
     simp only [Act.put, sA, sZ, sS, i64_w, i32_w]
     rfl
    exact norm_ (by simp only [putAll, Act.put, sA, sZ, sS]) (hCont (aW, aT, bJ) _ ⟨(kr aE.out), (kr aD.out), (IsS91.mv aC.out), (km HK.out), (IsS91.bl HB.out)⟩)
  ·skip
   refine Kd.R_lit_step (Kd.int .i64) _ 3 ?hg (N := 26) ?hd (xs := ([0, 1, 128, 3] : List Int)) (inner := [.int .i64 0, .int .i64 1, .int .i64 128, .int .i64 3]) (ok := fun _ => True) (okp := fun _ => True) ?hr ?hp (fun _ hk => hk) trivial (Below.refl _ _) (Nat.le_refl _) (by simp) ?_; (case hd => rfl); (case hg => rfl); (case hr => first | (go_simp; done) | (go_simp; rfl)); (case hp => exact (Reps.one (show Kd.M (Kd.int .i64) _ _ _ 0 [.int .i64 0] from rfl) (Reps.one (show Kd.M (Kd.int .i64) _ _ _ 1 [.int .i64 1] from rfl) (Reps.one (show Kd.M (Kd.int .i64) _ _ _ 128 [.int .i64 128] from rfl) (Reps.one (show Kd.M (Kd.int .i64) _ _ _ 3 [.int .i64 3] from rfl) (Reps.none _ _))))))
   intro bJ dR ho25 hb hg_ hnew_
   clear hg_ hnew_
   (first | rw [← aX.out] at ho25 | (simp only [Int.reduceToNat] at ho25; rw [← aX.out] at ho25))
   have aD := aM (Kd.R_lower ho25 (keep_size (km HK.out)))
   replace aC := aM (IsS91.below (IsS91.mv aC.out) hb)
   replace HK := rU HK hb
   replace HB := aM (bS (IsS91.bl HB.out) hb)
   clear hb ho25
   refine hK.out _ _ trivial (fun hHeld => ?_)
   clear hK K
   refine norm_ (a' := ?_) ?_ ?_
   rotate_left
   ·show Act.put _ (some 26) _ = _
    simp only [Act.put, sA, sZ, sS, i64_w, i32_w]
    rfl
   refine one_ (i := 0) (N := some 20) (bv 16 7279) rfl rfl (one_of HT_.out (by kernel_rfl)) (by decide) (fun K hK => ?_)
   refine Kd.R_lit_step (Kd.int .u8) _ 5 ?hg (N := 20) ?hd (xs := ([] : List Int)) (inner := []) (ok := fun _ => True) (okp := fun _ => True) ?hr ?hp (fun _ hk => hk) trivial (Below.refl _ _) (Nat.le_refl _) (by simp) ?_; (case hd => rfl); (case hg => rfl); (case hr => first | (go_simp; done) | (go_simp; rfl)); (case hp => exact (Reps.none _ _))
   intro aW dH ho27 hb hg_ hnew_
   clear hg_ hnew_
   (first | rw [← bP.out] at ho27 | (simp only [Int.reduceToNat] at ho27; rw [← bP.out] at ho27))
   have aG := aM (Kd.R_lower ho27 (keep_size (km HK.out)))
   replace aD := rK aD hb
   replace aC := aM (IsS91.below (IsS91.mv aC.out) hb)
   replace HK := rU HK hb
   replace HB := aM (bS (IsS91.bl HB.out) hb)
   clear hb ho27
   refine hK.out _ _ trivial (fun hHeld => ?_)
   clear hK K
   refine norm_ (a' := ?_) ?_ ?_
   rotate_left
   ·show Act.put _ (some 20) _ = _
    simp only [Act.put, sA, sZ, sS, i64_w, i32_w]
    rfl
   refine one_ (i := 4) (N := some 24) (bv 16 7295) rfl rfl (one_of HT_.out (by kernel_rfl)) (by decide) (fun K hK => ?_)
   refine Kd.R_append_rows_step (Kd.int .u8) w.heap.size (by rfl) (.tmp 20) (.tmp 23) 22 5 (.int .u8 0) 1 rfl Try.underlying22 info5 rfl (by decide) (by omega) aW bD (l1.take (aA : Int).toNat) _ _ _ (fun _ => True) (fun _ => False) rfl rfl ?aO ?aR (fun _ _ h => h) (fun _ h => h.elim) ?aF (Below.refl _ _) ?aS ?aL ?_
   (case aR => first | (refine l2Dent_len (show (l1.take (aA : Int).toNat).length = aA.toNat from (by rw [List.length_take]; have h_ : (aA : Int) ≤ (l1.length : Int) := dT; omega)) ?_; exact Kd.C_keep 0 aQ.out (km HK.out) bA) | (exact Kd.C_keep 0 aQ.out (km HK.out) bA))
   (case aF => exact (fun _ _ => trivial))
   (case aO => exact (kr aG.out))
   (case aS => exact (keep_size (km HK.out)))
   (case aL => have := LMc13.out; have hlx_ := (show (l1.take (aA : Int).toNat).length = aA.toNat from (by rw [List.length_take]; have h_ : (aA : Int) ≤ (l1.length : Int) := dT; omega)); omega)
   intro aT dS ho hb hg hat
   rw [← bW.out] at ho
   have aE := aM (ho)
   replace aC := aM (IsS91.grown (IsS91.mv aC.out) hg (IsS91.own_ne aC.out aG.out (by decide)))
   replace aD := aM (Kd.R_over' (kr aD.out) (Kd.R_typed (kr aG.out)) (by decide) hg)
   replace HB := aM (below_weaken (IsS91.bl HB.out) HL.out hb)
   replace HK := aM (KeepBut.trans (km HK.out) (KeepBut.of_grown hg g) (Kd.R_base2 aG.out))
   clear aG
   clear ho hb hg hat
   refine hK.out _ _ trivial (fun hHeld => ?_)
   clear hK K
   refine norm_ (a' := ?_) ?_ ?_
   rotate_left
   ·show Act.put _ (some 24) _ = _
    simp only [Act.put, sA, sZ, sS, i64_w, i32_w]
    rfl
   exact norm_ (by simp only [putAll, Act.put, sA, sZ, sS]) (hCont (aW, aT, bJ) _ ⟨(kr aE.out), (kr aD.out), (IsS91.mv aC.out), (km HK.out), (IsS91.bl HB.out)⟩)
 rintro ⟨aW, aT, bJ⟩ cC ⟨h0_, h1_, h2_, h3_, h4_⟩
 have aE : Aside0 (Kd.R (Kd.int .u8) 5 cC w.heap.size (fun _ => True) aT aJ) := ⟨h0_⟩
 have aD : Aside0 (Kd.R (Kd.int .i64) 3 cC w.heap.size (fun _ => True) bJ bQ) := ⟨h1_⟩
 replace aC : Aside0 (IsS91 w0 cC g aH bH bI) := ⟨h2_⟩
 replace HK : Aside0 (KeepBut w cC g none) := ⟨h3_⟩
 replace HB : Aside0 (Below w0.heap.size w0 cC) := ⟨h4_⟩
 clear h0_ h1_ h2_ h3_ h4_
 have hHeld := trivial
 obtain ⟨dJ, dK, cW⟩ := Kd.R_slice aD.out
 (first | subst cW | (injection cW with f1_ f2_ f3_; have f4_ := f1_.symm; have f5_ := f3_.symm; clear f1_ f2_ f3_; subst f4_; subst f5_))
 refine norm_ (a' := ?_) ?_ ?_
 rotate_left
 ·simp only [putAll, Act.put, sA, sZ, sS]
  rfl
 refine one_ (i := 7) (N := some 27) (bv 16 7423) rfl rfl (one_of HT_.out (by kernel_rfl)) (by decide) (fun K hK => ?_)
 refine goes_ Try.func60 (by kernel_rfl) rfl #[.pointer (some ⟨g, 0, none⟩), .slice dJ bQ.length dK] (by rfl) rfl rfl xR ?_
 with_reducible refine (spec_l1PickInt.calls g aH bH bI _ _ bQ bT cT cU w0 _ ?side1 ?side2 ?side3 ?side4 ?side5 dO.out).mono ?_
 (case side1 => exact IsS91.mv aC.out)
 (case side2 => exact IsS91.bl HB.out)
 (case side3 => exact cM ((Kd.R_reads' aD.out).2.2))
 (case side4 => exact (Kd.R_reads' aD.out).2.1)
 (case side5 => exact far_slice (IsS91.own_ne aC.out aD.out (by decide)))
 rintro e eL ⟨rfl, hi, hb, hk⟩
 refine ⟨_, rfl, ?_⟩
 replace aE := aM (Kd.R_mono (Kd.R_keep (IsS91.apart (show IsS91 w0 _ g aH bH bI from IsS91.mv aC.out) (kr aE.out) (by decide)) hk (fun _ h => h.2)) (fun _ h => h.1))
 replace aD := aM (Kd.R_mono (Kd.R_keep (IsS91.apart (show IsS91 w0 _ g aH bH bI from IsS91.mv aC.out) (kr aD.out) (by decide)) hk (fun _ h => h.2)) (fun _ h => h.1))
 replace HK := aM (KeepBut.trans (km HK.out) hk (.inl rfl))
 replace HB := aM (hb)
 replace aC := aM (hi)
 (try clear hb)
 (try clear hb2)
 (try clear hk)
 (try clear hi)
 refine hK.out _ _ trivial (fun hHeld => ?_)
 clear hK K
 refine norm_ (a' := ?_) ?_ ?_
 rotate_left
 ·show Act.put _ (some 27) _ = _
  simp only [Act.put, sA, sZ, sS, i64_w, i32_w]
  rfl
 refine pZ 8 28 (bv 16 7679) HT_ ?_
 refine one_ (i := 9) (N := some 29) (bv 16 8191) rfl rfl (one_of HT_.out (by kernel_rfl)) (by decide) (fun K hK => ?_)
 refine Kd.R_lit_step (Kd.int .u8) _ 5 ?hg (N := 29) ?hd (xs := ([(bT) % 256] : List Int)) (inner := [.int .u8 ((bT) % 256)]) (ok := fun _ => True) (okp := fun _ => True) ?hr ?hp (fun _ hk => hk) trivial (Below.refl _ _) (Nat.le_refl _) (by simp) ?_; (case hd => rfl); (case hg => rfl); (case hr => first | (go_simp; done) | (go_simp; rfl)); (case hp => exact (Reps.one (show Kd.M (Kd.int .u8) _ _ _ ((bT) % 256) [.int .u8 ((bT) % 256)] from rfl) (Reps.none _ _)))
 intro dL eM ho33 hb hg_ hnew_
 clear hg_ hnew_
 (first | rw [← cL.out] at ho33 | (simp only [Int.reduceToNat] at ho33; rw [← cL.out] at ho33))
 have bM := aM (Kd.R_lower (Kd.R_new' ho33 (Kd.R_lt (kr aE.out))) (keep_size (km HK.out)))
 replace aE := aM (Kd.R_elder' (kr aE.out) (Kd.R_base ho33) hb)
 replace aD := rK aD hb
 replace aC := aM (IsS91.below (IsS91.mv aC.out) hb)
 replace HK := rU HK hb
 replace HB := aM (bS (IsS91.bl HB.out) hb)
 clear hb ho33
 refine hK.out _ _ trivial (fun hHeld => ?_)
 clear hK K
 refine norm_ (a' := ?_) ?_ ?_
 rotate_left
 ·show Act.put _ (some 29) _ = _
  simp only [Act.put, sA, sZ, sS, i64_w, i32_w]
  rfl
 refine one_ (i := 13) (N := some 33) (bv 16 16383) rfl rfl (one_of HT_.out (by kernel_rfl)) (by decide) (fun K hK => ?_)
 refine Kd.R_append_rows_step (Kd.int .u8) w.heap.size (by rfl) (.tmp 29) (.tmp 32) 22 5 (.int .u8 0) 1 rfl Try.underlying22 info5 rfl (by decide) (by omega) dL aV (l1.drop (aA : Int).toNat) _ _ _ (fun k_ => some k_ ≠ (aT : Value).ownBlock) (fun _ => False) rfl rfl ?aO ?aR (fun _ _ h => h) (fun _ h => h.elim) ?aF (Below.refl _ _) ?aS ?aL ?_
 (case aR => first | (rw [← show (l1.drop (aA : Int).toNat).length = (l1.length - aA.toNat) from List.length_drop]; exact Kd.C_keep 0 bX.out (km HK.out) cQ) | (exact Kd.C_keep 0 bX.out (km HK.out) cQ))
 (case aF => exact (fun k_ hk => Kd.fresh' (Kd.R_lt (kr aE.out)) k_ hk))
 (case aO => exact (kr (Kd.R_mono bM.out (fun _ hk => hk.2))))
 (case aS => exact (keep_size (km HK.out)))
 (case aL => have := LMc17.out; have hlx_ := (show (l1.drop (aA : Int).toNat).length = (l1.length - aA.toNat) from List.length_drop); omega)
 intro eG eN ho hb hg hat
 rw [← cY.out] at ho
 have bN := aM (ho)
 replace aC := aM (IsS91.grown (IsS91.mv aC.out) hg (IsS91.own_ne aC.out bM.out (by decide)))
 replace aE := aM (Kd.R_after (ok := (fun _ => True)) (kr aE.out) hg hat)
 replace aD := aM (Kd.R_over' (kr aD.out) (Kd.R_typed (kr bM.out)) (by decide) hg)
 replace HB := aM (below_weaken (IsS91.bl HB.out) HL.out hb)
 replace HK := aM (KeepBut.trans (km HK.out) (KeepBut.of_grown hg g) (Kd.R_base2 bM.out))
 clear bM
 clear ho hb hg hat
 obtain ⟨dM, dN, cX⟩ := Kd.R_slice bN.out
 (first | subst cX | (injection cX with f1_ f2_ f3_; have f4_ := f1_.symm; have f5_ := f3_.symm; clear f1_ f2_ f3_; subst f4_; subst f5_))
 refine hK.out _ _ trivial (fun hHeld => ?_)
 clear hK K
 refine norm_ (a' := ?_) ?_ ?_
 rotate_left
 ·show Act.put _ (some 33) _ = _
  simp only [Act.put, sA, sZ, sS, i64_w, i32_w]
  rfl
 refine one_ (i := 14) (N := some 34) (bv 16 32767) rfl rfl (one_of HT_.out (by kernel_rfl)) (by decide) (fun K hK => ?_)
 refine Kd.R_append_rows_step (Kd.int .u8) w.heap.size (by rfl) (.tmp 24) (.tmp 33) 22 5 (.int .u8 0) 1 rfl Try.underlying22 info5 rfl (by decide) (by omega) aT aJ aK _ _ _ (fun k_ => some k_ ≠ (.slice dM aK.length dN : Value).ownBlock) (fun _ => False) rfl rfl ?aO ?aR (fun _ _ h => h) (fun _ h => h.elim) ?aF (Below.refl _ _) ?aS ?aL ?_
 (case aR => repeat (first | exact (Kd.R_reads' bN.out).2.2 | (with_reducible refine Kd.C_alloc ?_ _) | (with_reducible refine Kd.C_drewN ?_ _) | (with_reducible refine Kd.C_drew ?_)))
 (case aF => exact (fun k_ hk => Kd.fresh' (Kd.R_lt (kr bN.out)) k_ hk))
 (case aO => exact (kr (Kd.R_mono aE.out (fun _ hk => hk.2))))
 (case aS => exact (keep_size (km HK.out)))
 (case aL => have := LMc18.out; omega)
 intro eH eO ho hb hg hat
 rw [← dA.out] at ho
 have dB := aM (ho)
 replace aC := aM (IsS91.grown (IsS91.mv aC.out) hg (IsS91.own_ne aC.out aE.out (by decide)))
 replace aD := aM (Kd.R_over' (kr aD.out) (Kd.R_typed (kr aE.out)) (by decide) hg)
 replace bN := aM (Kd.R_after (ok := (fun _ => True)) (kr (Kd.R_mono bN.out (fun _ hk => ⟨trivial, hk⟩))) hg hat)
 replace HB := aM (below_weaken (IsS91.bl HB.out) HL.out hb)
 replace HK := aM (KeepBut.trans (km HK.out) (KeepBut.of_grown hg g) (Kd.R_base2 aE.out))
 clear aE
 clear ho hb hg hat
 refine hK.out _ _ trivial (fun hHeld => ?_)
 clear hK K
 refine norm_ (a' := ?_) ?_ ?_
 rotate_left
 ·show Act.put _ (some 34) _ = _
  simp only [Act.put, sA, sZ, sS, i64_w, i32_w]
  rfl
 refine pZ 15 4 (bv 16 65535) HT_ ?_
 refine done_ (done_of HT_.out (by kernel_rfl)) ?_
 try go_wp2
 go_ret
 exact ⟨_, xW, by (with_reducible repeat (first | apply Kd.R_alloc | apply Kd.R_drewN | apply Kd.R_drew)); exact Kd.R_mono dB.out (fun _ hk => trivial), IsS91.mv aC.out, IsS91.bl HB.out, km HK.out⟩

def spec_l2Dent.f (aD : List Int) (aE aG : Int) (l1 : List Int) : Option (List Int × Int × Int) := (spec_l1Below.f aD aE aG (wrap64 ((l1.length : Int) + 1))).bind fun aC => ((spec_l1Below.f aD aC.2.1 aC.2.2 5).bind fun aA => (if aA.1 = 0 then (if 0 ≤ aC.1 then (if aC.1 ≤ (l1.length : Int) then (some ((l1.take (aC.1 : Int).toNat), aA.2.1, aA.2.2)) else (none)) else (none)) else (if aA.1 = 1 then (spec_l2DentR.f aD aE aG l1) else (some (l1, aA.2.1, aA.2.2)))))
set_option maxHeartbeats 60000000 in
set_option maxRecDepth 100000 in
theorem spec_l2Dent.calls (g : Nat) (aA : List Int) (aH aI : Int) (P1_ : Nat → Prop) (aV : Value) (l1 : List Int) (r1 : List Int) (r2 r3 : Int) (w0 w : World) (hI : IsS91 w0 w g aA aH aI) (hB : Below w0.heap.size w0 w) (ho1 : Kd.R (Kd.int .u8) 5 w w0.heap.size P1_ aV l1) (h : spec_l2Dent.f aA aH aI l1 = some (r1, r2, r3)) :
  Calls Try.prog 43 #[.pointer (some ⟨g, 0, none⟩), aV] w fun e w' => ∃ bK : Value, e = .returned (bK) ∧ Kd.R (Kd.int .u8) 5 w' w0.heap.size (fun k_ => (P1_ k_ ∨ w.heap.size ≤ k_)) bK r1 ∧ IsS91 w0 w' g aA r2 r3 ∧ Below w0.heap.size w0 w' ∧ Kept w w' (fun k_ => (P1_ k_) ∨ k_ = g) := by
 have aC := aM (show Kd.R (Kd.int .u8) 5 w w0.heap.size (fun k_ => (P1_ k_ ∨ w.heap.size ≤ k_)) aV l1 from Kd.R_mono ho1 (fun k_ hk => (.inl hk)))
 have aD := aM hI
 have HL := aM hB.size
 clear hI
 have HK := aM (Kept.refl w (fun k_ => (P1_ k_) ∨ k_ = g))
 have HW0 := aM hB.size
 have HB := aM hB
 clear hB
 have H : ((spec_l1Below.f aA aH aI (wS (l1.length : Int))).bind fun aK => ((spec_l1Below.f aA aK.2.1 aK.2.2 5).bind fun aJ => (if aJ.1 = 0 then (if 0 ≤ aK.1 then (if aK.1 ≤ (l1.length : Int) then (some ((l1.take (aK.1 : Int).toNat), aJ.2.1, aJ.2.2)) else (none)) else (none)) else (if aJ.1 = 1 then (spec_l2DentR.f aA aH aI l1) else (some (l1, aJ.2.1, aJ.2.2)))))) = some (r1, r2, r3) := h
 clear h
 obtain ⟨⟨aE, aQ, aT⟩, bL, H⟩ := hB H
 try dsimp only at H
 have A3 := aM bL
 clear bL
 obtain ⟨⟨aG, aW, aX⟩, bM, H⟩ := hB H
 try dsimp only at H
 have A4 := aM bM
 clear bM
 by_cases c5 : aG = 0
 case neg =>
  rw [if_neg c5] at H
  have bN : (aG == 0) = false := beq_eq_false_iff_ne.mpr c5
  have bO : (aG != 0) = true := bne_iff_ne.mpr c5
  by_cases bA : aG = 1
  case pos =>
   rw [if_pos bA] at H
   obtain ⟨Ao_, co_, eo_⟩ := Kd.R_slice aC.out
   subst eo_
   have hc_ := Kd.R_reads' aC.out
   refine (spec_l2DentR.calls g aA aH aI Ao_ co_ l1 r1 r2 r3 w0 w aD.out HB.out hc_.2.2 hc_.2.1 (fun ad e_ hl_ he_ => ?_) H).mono ?_
   ·obtain ⟨_, _, hbox_, _⟩ := aD.out
    subst e_
    subst he_
    exact Kd.R_ne aC.out hbox_ (by decide) rfl
   ·rintro e w' ⟨v, he, hr, hi, hb, hk⟩
    exact ⟨v, he, Kd.R_lower (Kd.R_mono (Kd.R_bound hr) (fun k hk => .inr hk.2.1)) (below_size HB.out), hi, hb, Kept.of_keep HK.out hk (.inl (.inr rfl))⟩
  rw [if_neg bA] at H
  have bV : (aG == 1) = false := beq_eq_false_iff_ne.mpr bA
  have bW : (aG != 1) = true := bne_iff_ne.mpr bA
  simp only [Option.some.injEq, Prod.mk.injEq] at H
  obtain ⟨rfl, rfl, rfl⟩ := H
  obtain ⟨bX, bY, bP⟩ := Kd.R_slice aC.out
  subst bP
  go_enter Try.func43, Try.ntmps43
  go_wp2_with (first | ((with_reducible refine gC (f := 64) rfl ?_); refine gL (some 10) Try.func64 #[.pointer (some ⟨g, 0, none⟩), .int .i64 (wS (l1.length : Int))] ?_; (with_reducible refine (spec_l1Below.calls g aA aH aI (wS (l1.length : Int)) aE aQ aT w0 _ ?side1 ?side2 A3.out).mono ?_); (case side1 => exact IsS91.mv aD.out); (case side2 => exact IsS91.bl HB.out); rintro e cE ⟨rfl, hi, hb, hk⟩; refine ⟨_, rfl, ?_⟩; replace aC := aM (Kd.R_mono (Kd.R_keep (IsS91.apart (show IsS91 w0 _ g aA aH aI from IsS91.mv aD.out) (kr aC.out) (by decide)) hk (fun _ h => h.2)) (fun _ h => h.1)); replace HK := aM (Kept.of_keep (S := (fun k_ => (P1_ k_) ∨ k_ = g)) (by repeat (first | (with_reducible first | exact HK.out | apply Kept.alloc | apply Kept.drewN | apply Kept.drew | refine Kept.setCell ?_ (.inl (.inr rfl)) _) | exact HK.out)) hk (.inl (.inr rfl))); replace HB := aM (hb); replace aD := aM (hi); (repeat first|clear hb|clear hk|clear hi)) | ((with_reducible refine gC (f := 64) rfl ?_); refine gL (some 12) Try.func64 #[.pointer (some ⟨g, 0, none⟩), .int .i64 5] ?_; (with_reducible refine (spec_l1Below.calls g aA aQ aT 5 aG aW aX w0 _ ?side1 ?side2 A4.out).mono ?_); (case side1 => exact IsS91.mv aD.out); (case side2 => exact IsS91.bl HB.out); rintro e cG ⟨rfl, hi, hb, hk⟩; refine ⟨_, rfl, ?_⟩; replace aC := aM (Kd.R_mono (Kd.R_keep (IsS91.apart (show IsS91 w0 _ g aA aQ aT from IsS91.mv aD.out) (kr aC.out) (by decide)) hk (fun _ h => h.2)) (fun _ h => h.1)); replace HK := aM (Kept.of_keep (S := (fun k_ => (P1_ k_) ∨ k_ = g)) (by repeat (first | (with_reducible first | exact HK.out | apply Kept.alloc | apply Kept.drewN | apply Kept.drew | refine Kept.setCell ?_ (.inl (.inr rfl)) _) | exact HK.out)) hk (.inl (.inr rfl))); replace HB := aM (hb); replace aD := aM (hi); (repeat first|clear hb|clear hk|clear hi)))
  go_ret
  exact ⟨_, xW, by (with_reducible repeat (first | apply Kd.R_alloc | apply Kd.R_drewN | apply Kd.R_drew)); exact aC.out, IsS91.mv aD.out, IsS91.bl HB.out, by repeat (first | (with_reducible first | exact HK.out | apply Kept.alloc | apply Kept.drewN | apply Kept.drew | refine Kept.setCell ?_ (.inl (.inr rfl)) _) | exact HK.out)⟩
 rw [if_pos c5] at H
 have bN : (aG == 0) = true := beq_iff_eq.mpr c5
 have bO : (aG != 0) = false := bne_eq_false_iff_eq.mpr c5
 clear c5
 by_cases c6 : 0 ≤ aE
 case neg =>
  rw [if_neg c6] at H
  exact absurd H (by simp)
 rw [if_pos c6] at H
 have bZ := eq_true c6
 have cA : decide (0 ≤ aE) = true := decide_eq_true c6
 clear c6
 by_cases c7 : aE ≤ (l1.length : Int)
 case neg =>
  rw [if_neg c7] at H
  exact absurd H (by simp)
 rw [if_pos c7] at H
 have cC := eq_true c7
 have cD : decide (aE ≤ (l1.length : Int)) = true := decide_eq_true c7
 clear c7
 obtain ⟨bG, aN⟩ : ∃ y_ : List Int, y_ = (l1.take (aE : Int).toNat) := ⟨_, rfl⟩
 replace H : (some (bG, aW, aX)) = some (r1, r2, r3) := by first | (rw [aN]; with_reducible exact H) | (have H2_ := (Option.bind_some _ _).symm.trans H; rw [aN]; with_reducible exact H2_) | (have H2_ := (Option.bind_some _ _).symm.trans H; with_reducible exact H2_) | with_reducible exact H | (rw [aN]; exact H) | exact H
 have bD := aM aN
 clear aN
 simp only [Option.some.injEq, Prod.mk.injEq] at H
 obtain ⟨rfl, rfl, rfl⟩ := H
 obtain ⟨bQ, bT, bU⟩ := Kd.R_slice aC.out
 subst bU
 go_enter Try.func43, Try.ntmps43
 go_wp2_with (first | ((with_reducible refine gC (f := 64) rfl ?_); refine gL (some 10) Try.func64 #[.pointer (some ⟨g, 0, none⟩), .int .i64 (wS (l1.length : Int))] ?_; (with_reducible refine (spec_l1Below.calls g aA aH aI (wS (l1.length : Int)) aE aQ aT w0 _ ?side1 ?side2 A3.out).mono ?_); (case side1 => exact IsS91.mv aD.out); (case side2 => exact IsS91.bl HB.out); rintro e w9 ⟨rfl, hi, hb, hk⟩; refine ⟨_, rfl, ?_⟩; replace aC := aM (Kd.R_mono (Kd.R_keep (IsS91.apart (show IsS91 w0 _ g aA aH aI from IsS91.mv aD.out) (kr aC.out) (by decide)) hk (fun _ h => h.2)) (fun _ h => h.1)); replace HK := aM (Kept.of_keep (S := (fun k_ => (P1_ k_) ∨ k_ = g)) (by repeat (first | (with_reducible first | exact HK.out | apply Kept.alloc | apply Kept.drewN | apply Kept.drew | refine Kept.setCell ?_ (.inl (.inr rfl)) _) | exact HK.out)) hk (.inl (.inr rfl))); replace HB := aM (hb); replace aD := aM (hi); (repeat first|clear hb|clear hk|clear hi)) | ((with_reducible refine gC (f := 64) rfl ?_); refine gL (some 12) Try.func64 #[.pointer (some ⟨g, 0, none⟩), .int .i64 5] ?_; (with_reducible refine (spec_l1Below.calls g aA aQ aT 5 aG aW aX w0 _ ?side1 ?side2 A4.out).mono ?_); (case side1 => exact IsS91.mv aD.out); (case side2 => exact IsS91.bl HB.out); rintro e cH ⟨rfl, hi, hb, hk⟩; refine ⟨_, rfl, ?_⟩; replace aC := aM (Kd.R_mono (Kd.R_keep (IsS91.apart (show IsS91 w0 _ g aA aQ aT from IsS91.mv aD.out) (kr aC.out) (by decide)) hk (fun _ h => h.2)) (fun _ h => h.1)); replace HK := aM (Kept.of_keep (S := (fun k_ => (P1_ k_) ∨ k_ = g)) (by repeat (first | (with_reducible first | exact HK.out | apply Kept.alloc | apply Kept.drewN | apply Kept.drew | refine Kept.setCell ?_ (.inl (.inr rfl)) _) | exact HK.out)) hk (.inl (.inr rfl))); replace HB := aM (hb); replace aD := aM (hi); (repeat first|clear hb|clear hk|clear hi); have bH : (aE : Int) ≤ ((l1.length : Int) : Int) := dT; obtain ⟨i011, hi011, _, hsz11, _⟩ := info_parts info5; have hcut11 := cut_to (P := Try.prog) 22 5 .i64 Try.underlying22 hi011 bQ l1.length bT aE (dT) bH (Kd.R_reads' aC.out).2.1; have hr11 := Kd.R_take (m := (aE : Int).toNat) aC.out (by omega); have bI : bG.length = (aE : Int).toNat := (by rw [bD.out, List.length_take]; omega); rw [← bD.out] at hr11; rw [← bI] at hr11 hcut11; clear bI hi011 hsz11 aC; have bJ := aM hr11; clear hr11; replace bH := eq_true bH))
 go_ret
 exact ⟨_, xW, by (with_reducible repeat (first | apply Kd.R_alloc | apply Kd.R_drewN | apply Kd.R_drew)); exact bJ.out, IsS91.mv aD.out, IsS91.bl HB.out, by repeat (first | (with_reducible first | exact HK.out | apply Kept.alloc | apply Kept.drewN | apply Kept.drew | refine Kept.setCell ?_ (.inl (.inr rfl)) _) | exact HK.out)⟩

def spec_DrawFrameOf.f (k : Nat) (l0 : List Int) : Option (List Int) := (spec_l1New.f k l0).bind fun aC => ((spec_l2DrawRight.f k aC.1 aC.2.1 aC.2.2).bind fun aA => ((spec_FrameBytes.f k aA.1 aA.2.1 aA.2.2.1 aA.2.2.2.1).bind fun aE => ((spec_l2Dent.f aC.1 aA.2.2.2.2.1 aA.2.2.2.2.2 aE).bind fun aD => (some aD.1))))
theorem spec_DrawFrameOf.mono : ∀ a0 k, LeO (spec_DrawFrameOf.f k a0) (spec_DrawFrameOf.f (k + 1) a0) := by
 intro a0 k
 unfold spec_DrawFrameOf.f
 repeat' first|(with_reducible first|apply spec_FrameBytes.mono|apply spec_l1New.mono|apply spec_l2DrawRight.mono|exact lR _|exact lN _|refine lI ?_ ?_|refine lB ?_ fun _ => ?_)|exact lN _|refine lI ?_ ?_|refine lB ?_ fun _ => ?_
set_option maxHeartbeats 60000000 in
set_option maxRecDepth 100000 in
theorem spec_DrawFrameOf.calls (k : Nat) (A0 : Option Addr) (c0 : Nat) (l0 : List Int) (r : List Int) (w : World) (hr0 : Kd.C (Kd.int .u8) w A0 l0.length l0) (hc0 : l0.length ≤ c0) (h : spec_DrawFrameOf.f k l0 = some r) :
  Calls Try.prog 9 #[.slice A0 l0.length c0] w fun e w' => ∃ bI : Value, e = .returned (bI) ∧ Kd.R (Kd.int .u8) 5 w' w.heap.size (fun _ => True) bI r ∧ Below w.heap.size w w' := by
 have bW := aM hr0
 have bX := aM hc0
 clear hr0 hc0
 have HB := aM (Below.refl w.heap.size w)
 have H : ((spec_l1New.f k l0).bind fun aG => ((spec_l2DrawRight.f k aG.1 aG.2.1 aG.2.2).bind fun aD => ((spec_FrameBytes.f k aD.1 aD.2.1 aD.2.2.1 aD.2.2.2.1).bind fun aE => ((spec_l2Dent.f aG.1 aD.2.2.2.2.1 aD.2.2.2.2.2 aE).bind fun bG => (some bG.1))))) = some r := h
 clear h
 obtain ⟨⟨aJ, aW, aX⟩, bJ, H⟩ := hB H
 try dsimp only at H
 have A2 := aM bJ
 clear bJ
 obtain ⟨⟨aK, aN, aQ, aH, bA, bD⟩, bK, H⟩ := hB H
 try dsimp only at H
 have A3 := aM bK
 clear bK
 obtain ⟨aE, bL, H⟩ := hB H
 have A4 := aM bL
 clear bL
 obtain ⟨⟨bP, bQ, bT⟩, bM, H⟩ := hB H
 try dsimp only at H
 have A5 := aM bM
 clear bM
 obtain rfl := Option.some.inj H
 go_enter Try.func9, Try.ntmps9
 go_wp2_with (first | ((with_reducible refine gC (f := 40) rfl ?_); refine gL (some 5) Try.func40 #[.slice A0 l0.length c0] ?_; (with_reducible refine (spec_l1New.calls k _ _ l0 aJ aW aX w _ ?side1 ?side2 ?side3 A2.out).mono ?_); (case side1 => exact bl HB.out); (case side2 => exact bW.out); (case side3 => exact bX.out); rintro e w6 ⟨g295, rfl, hi, hb, hb2⟩; refine ⟨_, rfl, ?_⟩; have aC := aM (hi); replace HB := aM (hb); (repeat first|clear hb|clear hb2|clear hi)) | ((with_reducible refine gC (f := 44) rfl ?_); refine gL (some 8) Try.func44 #[.pointer (some ⟨g295, 0, none⟩)] ?_; (with_reducible refine (spec_l2DrawRight.calls k g295 aJ aW aX aK aN aQ aH bA bD w _ ?side1 ?side2 A3.out).mono ?_); (case side1 => exact IsS91.mv aC.out); (case side2 => exact IsS91.bl HB.out); rintro e w7 ⟨bZ, rfl, ho0, hi, hb, hk⟩; refine ⟨_, rfl, ?_⟩; have aA := aM (Kd.R_lower ho0 (below_size (IsS91.bl HB.out))); replace HB := aM (hb); replace aC := aM (hi); (repeat first|clear hb|clear hk|clear hi|clear ho0); obtain ⟨bN, bO, bY⟩ := Kd.R_slice aA.out; subst bY) | ((with_reducible refine gC (f := 13) rfl ?_); refine gL (some 9) Try.func13 #[.agg #[aK, aN, aQ, .slice bN aH.length bO]] ?_; (with_reducible refine (spec_FrameBytes.calls k aK aN aQ _ _ aH aE _ ?side1 ?side2 A4.out).mono ?_); (case side1 => exact cM ((Kd.R_reads' aA.out).2.2)); (case side2 => exact (Kd.R_reads' aA.out).2.1); rintro e w9 ⟨cA, rfl, ho0, hb⟩; refine ⟨_, rfl, ?_⟩; have aI := aM (Kd.R_lower (Kd.R_new' ho0 (Kd.R_lt (kr aA.out))) (below_size (IsS91.bl HB.out))); replace aA := aM (Kd.R_elder' (kr aA.out) (Kd.R_base ho0) hb); replace aC := aM (IsS91.below (IsS91.mv aC.out) hb); replace HB := aM (bS (IsS91.bl HB.out) hb); (repeat first|clear hb|clear ho0); obtain ⟨aT, aV, bU⟩ := Kd.R_slice aI.out; subst bU) | ((with_reducible refine gC (f := 43) rfl ?_); refine gL (some 10) Try.func43 #[.pointer (some ⟨g295, 0, none⟩), .slice aT aE.length aV] ?_; (with_reducible refine (spec_l2Dent.calls g295 aJ bA bD (fun k_ => some k_ = (.slice aT aE.length aV : Value).ownBlock) (.slice aT aE.length aV) aE bP bQ bT w _ ?side1 ?side2 ?side3 A5.out).mono ?_); (case side1 => exact IsS91.mv aC.out); (case side2 => exact IsS91.bl HB.out); (case side3 => exact Kd.R_tight rfl aI.out); rintro e cC ⟨bV, rfl, ho0, hi, hb, hkp⟩; refine ⟨_, rfl, ?_⟩; have bH := aM (Kd.R_mono (ok' := fun k_ => some k_ ≠ (.slice bN aH.length bO : Value).ownBlock) ho0 (fun k_ hk_ => Or.elim hk_ (fun hs_ => fun e_ => ((((IsS91.apart aC.out aA.out (by decide))).1 k_ e_.symm).1.2) hs_) (fun hn_ => (Kd.fresh' (Kd.R_lt (kr aA.out)) k_ hn_)))); replace aA := aM (Kd.R_mono (ok' := fun k_ => some k_ ≠ (bV : Value).ownBlock) (Kd.R_keptB ((IsS91.apart aC.out aA.out (by decide))) hkp (fun k_ hk_ hs_ => Or.elim hs_ (fun hs_ => (hk_.1.2) hs_) (fun e_ => (hk_.2) e_))) (fun k_ hk_ => fun e_ => Or.elim (ho0.1 k_ e_.symm) (fun hs_ => hk_.2.1 (.inl hs_)) (fun hn_ => Nat.not_le.2 hk_.2.2 hn_))); replace aC := aM (hi); replace HB := aM (hb); clear aI; (repeat first|clear hb|clear hkp|clear ho0)))
 go_ret
 exact ⟨_, xW, by (with_reducible repeat (first | apply Kd.R_alloc | apply Kd.R_drewN | apply Kd.R_drew)); exact Kd.R_mono bH.out (fun _ hk => trivial), IsS91.bl HB.out⟩

/-- A state of type 64 at block g of W; what its slices lead to came in by w0. -/
def IsS64 (w0 W : World) (g : Nat) (f0 : List Int) (f1 : Int) (f2 : Bool) : Prop := ∃ A0 c0, W.heap[g]? = some (.cells #[.slice A0 f0.length c0, f1, f2] 64 (0, 0)) ∧ w0.heap.size ≤ g ∧ (Kd.C (Kd.int .u8) w0 A0 f0.length f0 ∧ f0.length ≤ c0)
theorem IsS64.grown {w0 W : World} {g : Nat} {f0 : List Int} {f1 : Int} {f2 : Bool} {W1 : World} {row : Option Nat} (h : IsS64 w0 W g f0 f1 f2) (hw : W.grownBy W1 row) (hne : some g ≠ row) : IsS64 w0 W1 g f0 f1 f2 := by
 obtain ⟨A0, c0, hb, hg, hr0⟩ := h
 exact ⟨A0, c0, blk_grown hb hw hne, hg, hr0⟩
theorem IsS64.own_neN {w0 W : World} {g : Nat} {f0 : List Int} {f1 : Int} {f2 : Bool} {α : Type} {d : Kd α} {e : Nat} {base : Nat} {ok : Nat → Prop} {v : Value} {xs : List α} (h : IsS64 w0 W g f0 f1 f2) (ho : Kd.N d e W base ok v xs) (ht : e ≠ 64) : some g ≠ v.ownBlock := by
 obtain ⟨A0, c0, hb, hg, hr0⟩ := h
 exact Kd.N_ne ho hb ht
theorem IsS64.fresh {w0 W : World} {g : Nat} {f0 : List Int} {f1 : Int} {f2 : Bool} (h : IsS64 w0 W g f0 f1 f2) : ∀ k, W.heap.size ≤ k → k ≠ g := by
 obtain ⟨A0, c0, hb, hg, hr0⟩ := h
 exact Kd.freshB hb
theorem IsS64.kept {w0 W : World} {g : Nat} {f0 : List Int} {f1 : Int} {f2 : Bool} {W1 : World} {S : Nat → Prop} (h : IsS64 w0 W g f0 f1 f2) (hk : Kept W W1 S) (hne : ¬ S g) : IsS64 w0 W1 g f0 f1 f2 := by
 obtain ⟨A0, c0, hb, hg, hr0⟩ := h
 exact ⟨A0, c0, blk_kept hb hk hne, hg, hr0⟩
theorem IsS64.below {w0 W : World} {g : Nat} {f0 : List Int} {f1 : Int} {f2 : Bool} {W1 : World} (h : IsS64 w0 W g f0 f1 f2) (hw : Below W.heap.size W W1) : IsS64 w0 W1 g f0 f1 f2 := h.grown (grown_of_below hw none) (by simp)
theorem IsS64.alloc {w0 W : World} {g : Nat} {f0 : List Int} {f1 : Int} {f2 : Bool} (h : IsS64 w0 W g f0 f1 f2) (o : Obj) : IsS64 w0 (W.alloc o) g f0 f1 f2 := h.below (below_alloc (Below.refl _ _) o)
theorem IsS64.drewN {w0 W : World} {g : Nat} {f0 : List Int} {f1 : Int} {f2 : Bool} (h : IsS64 w0 W g f0 f1 f2) (m : Nat) : IsS64 w0 (W.drewN m) g f0 f1 f2 := h
theorem IsS64.drew {w0 W : World} {g : Nat} {f0 : List Int} {f1 : Int} {f2 : Bool} (h : IsS64 w0 W g f0 f1 f2) : IsS64 w0 W.drew g f0 f1 f2 := h
theorem IsS64.at_ {w0 W : World} {g : Nat} {f0 : List Int} {f1 : Int} {f2 : Bool} {w' : World} {m : Nat} (hq : W.drewN m = w') (h : IsS64 w0 W g f0 f1 f2) : IsS64 w0 w' g f0 f1 f2 := by subst hq; exact IsS64.drewN h m
theorem IsS64.apart {w0 W : World} {g : Nat} {f0 : List Int} {f1 : Int} {f2 : Bool} {α : Type} {d : Kd α} {e : Nat} {base : Nat} {ok : Nat → Prop} {v : Value} {xs : List α} (h : IsS64 w0 W g f0 f1 f2) (ho : d.R e W base ok v xs) (ht : ∀ q, q ∈ e :: d.E → q ≠ 64) : d.R e W base (fun k => ok k ∧ k ≠ g) v xs := by
 obtain ⟨A0, c0, hb, hg, hr0⟩ := h
 exact Kd.R_types ho hb ht
theorem IsS64.own_ne {w0 W : World} {g : Nat} {f0 : List Int} {f1 : Int} {f2 : Bool} {α : Type} {d : Kd α} {e : Nat} {base : Nat} {ok : Nat → Prop} {v : Value} {xs : List α} (h : IsS64 w0 W g f0 f1 f2) (ho : d.R e W base ok v xs) (ht : e ≠ 64) : some g ≠ v.ownBlock := by
 obtain ⟨A0, c0, hb, hg, hr0⟩ := h
 exact Kd.R_ne ho hb ht
theorem IsS64.apartQ {w0 W : World} {g : Nat} {f0 : List Int} {f1 : Int} {f2 : Bool} {α : Type} {d : Kd α} {e : Nat} {base : Nat} {ok : Nat → Prop} {v : Value} {xs : List α} (h : IsS64 w0 W g f0 f1 f2) (ho : d.Q e W base ok v xs) (ht : ∀ q, q ∈ e :: d.E → q ≠ 64) : d.Q e W base (fun k => ok k ∧ k ≠ g) v xs := by
 obtain ⟨A0, c0, hb, hg, hr0⟩ := h
 exact Kd.Q_types ho hb ht
theorem IsS64.own_neQ {w0 W : World} {g : Nat} {f0 : List Int} {f1 : Int} {f2 : Bool} {α : Type} {d : Kd α} {e : Nat} {base : Nat} {ok : Nat → Prop} {v : Value} {xs : List α} (h : IsS64 w0 W g f0 f1 f2) (ho : d.Q e W base ok v xs) (ht : e ≠ 64) : some g ≠ v.ownBlock := by
 obtain ⟨A0, c0, hb, hg, hr0⟩ := h
 exact Kd.Q_ne ho hb ht
theorem IsS64.apartS {w0 W : World} {g : Nat} {f0 : List Int} {f1 : Int} {f2 : Bool} {α : Type} {d : Kd α} {e : Nat} {base : Nat} {ok : Nat → Prop} {v : Value} {xs : List α} (h : IsS64 w0 W g f0 f1 f2) (ho : d.S e W base ok v xs) (ht : ∀ q, q ∈ e :: d.E → q ≠ 64) : d.S e W base (fun k => ok k ∧ k ≠ g) v xs := by
 obtain ⟨A0, c0, hb, hg, hr0⟩ := h
 exact Kd.S_types ho hb ht
theorem IsS64.own_neS {w0 W : World} {g : Nat} {f0 : List Int} {f1 : Int} {f2 : Bool} {α : Type} {d : Kd α} {e : Nat} {base : Nat} {ok : Nat → Prop} {v : Value} {xs : List α} (h : IsS64 w0 W g f0 f1 f2) (ho : d.S e W base ok v xs) (ht : e ≠ 64) : some g ≠ v.ownBlock := by
 obtain ⟨A0, c0, hb, hg, hr0⟩ := h
 exact Kd.S_ne ho hb ht
theorem IsS64.lt {w0 W : World} {g : Nat} {f0 : List Int} {f1 : Int} {f2 : Bool} (h : IsS64 w0 W g f0 f1 f2) : g < W.heap.size := by
 obtain ⟨A0, c0, hb, hg, hr0⟩ := h
 exact blk_lt hb
theorem IsS64.ge {w0 W : World} {g : Nat} {f0 : List Int} {f1 : Int} {f2 : Bool} (h : IsS64 w0 W g f0 f1 f2) : w0.heap.size ≤ g := by
 obtain ⟨A0, c0, hb, hg, hr0⟩ := h
 exact hg
theorem IsS64.ne_blk {w0 W : World} {g : Nat} {f0 : List Int} {f1 : Int} {f2 : Bool} {a : Nat} {cs : Array Value} {t : TypeId} {fr : Nat × Nat} (h : IsS64 w0 W g f0 f1 f2) (hb2 : W.heap[a]? = some (.cells cs t fr)) (ht : t ≠ 64) : g ≠ a := by
 obtain ⟨A0, c0, hb, hg, hr0⟩ := h
 rintro rfl
 rw [hb] at hb2
 injection hb2 with hb2
 injection hb2 with _ ht2
 exact ht ht2.symm
theorem IsS64.far {w0 W : World} {g : Nat} {f0 : List Int} {f1 : Int} {f2 : Bool} {p : Addr} (h : IsS64 w0 W g f0 f1 f2) (hne : g ≠ p.block) (u : Value) : IsS64 w0 (W.setCell p u) g f0 f1 f2 := by
 obtain ⟨A0, c0, hb, hg, hr0⟩ := h
 exact ⟨A0, c0, blk_far hb hne u, hg, hr0⟩
theorem cellS64_0 {W : World} {g : Nat} {A0 : Option Addr} {c0 : Nat} {f0 : List Int} {f1 : Int} {f2 : Bool} (h : W.heap[g]? = some (.cells #[.slice A0 f0.length c0, f1, f2] 64 (0, 0))) : W.cell? ⟨g, 0, none⟩ = some (.slice A0 f0.length c0) := (bC h 0).trans rfl
theorem IsS64.put_0 {w0 W : World} {g : Nat} {f0 : List Int} {f1 : Int} {f2 : Bool} {A_ : Option Addr} {c_ : Nat} {x_ : List Int} (h : IsS64 w0 W g f0 f1 f2) (hx_ : Kd.C (Kd.int .u8) w0 A_ x_.length x_ ∧ x_.length ≤ c_) : IsS64 w0 (W.setCell ⟨g, 0, none⟩ (.slice A_ x_.length c_)) g x_ f1 f2 := by
 obtain ⟨A0, c0, hb, hg, hr0⟩ := h
 exact ⟨A_, c_, by simpa using blk_set hb 0 (.slice A_ x_.length c_), hg, hx_⟩
theorem cellS64_1 {W : World} {g : Nat} {A0 : Option Addr} {c0 : Nat} {f0 : List Int} {f1 : Int} {f2 : Bool} (h : W.heap[g]? = some (.cells #[.slice A0 f0.length c0, f1, f2] 64 (0, 0))) : W.cell? ⟨g, 1, none⟩ = some f1 := (bC h 1).trans rfl
theorem IsS64.set_1 {w0 W : World} {g : Nat} {f0 : List Int} {f1 : Int} {f2 : Bool} (h : IsS64 w0 W g f0 f1 f2) (x : Int) : IsS64 w0 (W.setCell ⟨g, 1, none⟩ (.int .i64 x)) g f0 x f2 := by
 obtain ⟨A0, c0, hb, hg, hr0⟩ := h
 exact ⟨A0, c0, by simpa using blk_set hb 1 (.int .i64 x), hg, hr0⟩
theorem cellS64_2 {W : World} {g : Nat} {A0 : Option Addr} {c0 : Nat} {f0 : List Int} {f1 : Int} {f2 : Bool} (h : W.heap[g]? = some (.cells #[.slice A0 f0.length c0, f1, f2] 64 (0, 0))) : W.cell? ⟨g, 2, none⟩ = some f2 := (bC h 2).trans rfl
theorem IsS64.set_2 {w0 W : World} {g : Nat} {f0 : List Int} {f1 : Int} {f2 : Bool} (h : IsS64 w0 W g f0 f1 f2) (x : Bool) : IsS64 w0 (W.setCell ⟨g, 2, none⟩ (.bool x)) g f0 f1 x := by
 obtain ⟨A0, c0, hb, hg, hr0⟩ := h
 exact ⟨A0, c0, by simpa using blk_set hb 2 (.bool x), hg, hr0⟩
theorem IsS64.new (w0 W : World) (A0 : Option Addr) (c0 : Nat) (f0 : List Int) (f1 : Int) (f2 : Bool) (hB : Below w0.heap.size w0 W) (hr0 : Kd.C (Kd.int .u8) w0 A0 f0.length f0 ∧ f0.length ≤ c0) : IsS64 w0 (W.alloc (.cells #[.slice A0 f0.length c0, f1, f2] 64)) W.heap.size f0 f1 f2 := ⟨A0, c0, by simpa using heap_alloc_new W _, hB.size, hr0⟩

theorem IsS64.mv {w0 W W' : World} {g : Nat} {f0 f0' : List Int} {f1 f1' : Int} {f2 f2' : Bool} (h : IsS64 w0 W g f0 f1 f2) (hs : IsS64 w0 W g f0 f1 f2 → IsS64 w0 W' g f0' f1' f2' := by intro h; repeat (first | (with_reducible first | exact h | apply IsS64.alloc | apply IsS64.drewN | apply IsS64.drew | apply IsS64.set_1 | apply IsS64.set_2 | refine IsS64.far ?_ (Aside0.out (by assumption)) _) | exact h)) : IsS64 w0 W' g f0' f1' f2' := hs h
theorem IsS64.bl {B : Nat} {w0 W W' : World} (h : Below B w0 W) (hs : Below B w0 W → Below B w0 W' := by intro h; repeat (first | (with_reducible first | exact h | apply below_alloc | apply pw_below_drewN | apply below_drew1 | refine below_set ?_ (Aside0.out (by assumption)) | refine below_set ?_ (IsS64.ge (Aside0.out (by assumption)))) | exact h)) : Below B w0 W' := hs h
def impl_reader_octet.f (aC : List Int) (aA : Int) (aD : Bool) : Option (Int × Int × Bool) := if aD = true then (some (0, aA, true)) else (if aA ≥ (aC.length : Int) then (some (0, aA, true)) else (if 0 ≤ (wrap64 ((wrap64 (aA + 1)) - 1)) then (if (wrap64 ((wrap64 (aA + 1)) - 1)) < (aC.length : Int) then (some (wrap64 (rd aC (wrap64 ((wrap64 (aA + 1)) - 1))), wrap64 (aA + 1), aD)) else (none)) else (none)))
set_option maxHeartbeats 60000000 in
set_option maxRecDepth 100000 in
theorem impl_reader_octet.calls (g : Nat) (aD : List Int) (aA : Int) (aE : Bool) (r1 r2 : Int) (r3 : Bool) (w0 w : World) (hI : IsS64 w0 w g aD aA aE) (hB : Below w0.heap.size w0 w) (h : impl_reader_octet.f aD aA aE = some (r1, r2, r3)) :
  Calls Try.prog 45 #[.pointer (some ⟨g, 0, none⟩)] w fun e w' => e = .returned (.int .i64 r1) ∧ IsS64 w0 w' g aD r2 r3 ∧ Below w0.heap.size w0 w' ∧ KeepBut w w' g none := by
 have aG := aM hI
 have HK := aM (KeepBut.refl w g none)
 have HL := aM hB.size
 clear hI
 have HW0 := aM hB.size
 have HB := aM hB
 clear hB
 have H : (if aE = true then (some (0, aA, true)) else (if aA ≥ (aD.length : Int) then (some (0, aA, true)) else (if 0 ≤ (wrap64 ((wS aA) - 1)) then (if (wrap64 ((wS aA) - 1)) < (aD.length : Int) then (some (wrap64 (rd aD (wrap64 ((wS aA) - 1))), wS aA, aE)) else (none)) else (none)))) = some (r1, r2, r3) := h
 clear h
 by_cases c2 : aE = true
 case pos =>
  subst c2
  replace H := hP H rfl
  simp only [Option.some.injEq, Prod.mk.injEq] at H
  obtain ⟨rfl, rfl, rfl⟩ := H
  obtain ⟨ASz3_0, cSz3_0, HGz3, hgz3, HSz3_0⟩ := aG.out
  have aT := cellS64_0 HGz3
  have aV := cellS64_1 HGz3
  have aW := cellS64_2 HGz3
  have aX := bF HGz3 1
  have bA := bF HGz3 2
  clear HGz3 hgz3
  go_enter Try.func45, Try.ntmps45
  go_wp2
  repeat (go_quiet (fail); try go_wp2)
  go_ret
  exact ⟨xW, IsS64.mv aG.out, IsS64.bl HB.out, km HK.out⟩
 replace c2 := Bool.eq_false_iff.mpr c2
 subst c2
 replace H := hF H
 by_cases c4 : aA ≥ (aD.length : Int)
 case pos =>
  rw [if_pos c4] at H
  have aK := decide_eq_true c4
  clear c4
  simp only [Option.some.injEq, Prod.mk.injEq] at H
  obtain ⟨rfl, rfl, rfl⟩ := H
  obtain ⟨ASz5_0, cSz5_0, HGz5, hgz5, HSz5_0⟩ := aG.out
  have bD := cellS64_0 HGz5
  have bG := cellS64_1 HGz5
  have bH := cellS64_2 HGz5
  have bI := bF HGz5 1
  have bJ := bF HGz5 2
  clear HGz5 hgz5
  go_enter Try.func45, Try.ntmps45
  go_wp2
  repeat (go_quiet (fail); try go_wp2)
  go_ret
  exact ⟨xW, IsS64.mv aG.out, IsS64.bl HB.out, km HK.out⟩
 rw [if_neg c4] at H
 have aK := decide_eq_false c4
 clear c4
 obtain ⟨ji6, hji6⟩ : ∃ j_ : Int, (wrap64 ((wS aA) - 1)) = j_ := ⟨_, rfl⟩
 replace H : (if 0 ≤ (ji6) then (if (ji6) < (aD.length : Int) then (some (wrap64 (rd aD (ji6)), wS aA, false)) else (none)) else (none)) = some (r1, r2, r3) := by first | (rw [hji6] at H; exact H) | (simp only [hji6] at H ⊢; exact H)
 have hji6w : (IntKind.i64.wrap ((wS aA) - 1)) = ji6 := (i64_w _).trans hji6
 obtain ⟨bP, H⟩ := gI H
 obtain ⟨bQ, H⟩ := gI H
 simp only [Option.some.injEq, Prod.mk.injEq] at H
 obtain ⟨rfl, rfl, rfl⟩ := H
 obtain ⟨ASz9_0, cSz9_0, HGz9, hgz9, HSz9_0⟩ := aG.out
 have bK := cellS64_0 HGz9
 have bL := cellS64_1 HGz9
 have bM := cellS64_2 HGz9
 have bN := bF HGz9 1
 have bO := bF HGz9 2
 clear HGz9 hgz9
 have aH : 0 ≤ ((ji6) : Int) := dT
 have aI : (ji6) < (aD.length : Int) := dT
 obtain ⟨aJ, aN, aC⟩ := Kd.at_int HSz9_0.1 (ji6) aH aI
 cases aN
 have hn312_0 : aJ.block ≠ g := Nat.ne_of_lt (Nat.lt_of_lt_of_le (by have := World.block_lt_of_cell? _ _ aC; first | rwa [add_block] at this | exact this) (IsS64.ge aG.out))
 replace aC := pw_cell_below HB.out aC
 replace aC := (cell_far (p := ⟨g, 1, none⟩) (by first | (rw [add_block]; exact hn312_0) | (show (Addr.add _ _).block ≠ _; rw [add_block]; exact hn312_0) | exact hn312_0) (.int .i64 (wS aA))).trans aC
 (try have aQ := fun (n_ : Nat) => (show (((w.drewN n_).setCell ⟨g, 1, none⟩ (.int .i64 (wS aA)))).cell? _ = some _ from aC))
 clear hn312_0
 replace aH := eq_true aH
 replace aI := eq_true aI
 go_enter Try.func45, Try.ntmps45
 go_wp2
 repeat (go_quiet (fail); try go_wp2)
 go_ret
 exact ⟨by first | rfl | (simp [errW_none, errW_some] <;> rfl) | (simp only [← hji6]; first | rfl | (simp [errW_none, errW_some] <;> rfl)) | (simp [*, errW_none, errW_some] <;> rfl), IsS64.mv aG.out, IsS64.bl HB.out, km HK.out⟩

mutual
def impl_GetNum.l0 : Nat → List Int → Int → Int → Int → Option (Int × Int × Bool)
 | 0, _, _, _, _ => none
 | k + 1, x0, x1, x7, x8 => if x8 < 5 then (impl_GetNum.j1 k x0 x1 x7 x8 (decide (x1 < (wrap64 ((x0.length : Int) - x8))))) else (impl_GetNum.j1 k x0 x1 x7 x8 false)
def impl_GetNum.j1 : Nat → List Int → Int → Int → Int → Bool → Option (Int × Int × Bool)
 | 0, _, _, _, _, _ => none
 | k + 1, x0, x1, x7, x8, aA => if aA = true then (if 0 ≤ (wrap64 (x1 + x8)) then (if (wrap64 (x1 + x8)) < (x0.length : Int) then (if 0 ≤ (IntKind.u64.wrap (wrap64 (7 * x8))) then (if (wrap64 (rd x0 (wrap64 (x1 + x8)))) ≥ 128 then (impl_GetNum.l0 k x0 x1 (Go.bits .or .i64 x7 (shl .i64 (Go.bits .and .i64 (wrap64 (rd x0 (wrap64 (x1 + x8)))) 127) (IntKind.u64.wrap (wrap64 (7 * x8))))) (wrap64 (x8 + 1))) else (if (wrap64 (rd x0 (wrap64 (x1 + x8)))) = 0 then (if x8 > 0 then (some (0, 0, false)) else (if (Go.bits .or .i64 x7 (shl .i64 (Go.bits .and .i64 (wrap64 (rd x0 (wrap64 (x1 + x8)))) 127) (IntKind.u64.wrap (wrap64 (7 * x8))))) > 2147483647 then (some (0, 0, false)) else (some (Go.bits .or .i64 x7 (shl .i64 (Go.bits .and .i64 (wrap64 (rd x0 (wrap64 (x1 + x8)))) 127) (IntKind.u64.wrap (wrap64 (7 * x8)))), wrap64 ((wrap64 (x1 + x8)) + 1), true)))) else (if (Go.bits .or .i64 x7 (shl .i64 (Go.bits .and .i64 (wrap64 (rd x0 (wrap64 (x1 + x8)))) 127) (IntKind.u64.wrap (wrap64 (7 * x8))))) > 2147483647 then (some (0, 0, false)) else (some (Go.bits .or .i64 x7 (shl .i64 (Go.bits .and .i64 (wrap64 (rd x0 (wrap64 (x1 + x8)))) 127) (IntKind.u64.wrap (wrap64 (7 * x8)))), wrap64 ((wrap64 (x1 + x8)) + 1), true))))) else (none)) else (none)) else (none)) else (some (0, 0, false))
end
def impl_GetNum.f (k : Nat) (l0 : List Int) (a1 : Int) : Option (Int × Int × Bool) := if a1 < 0 then (some (0, 0, false)) else (impl_GetNum.l0 k l0 a1 0 0)
theorem impl_GetNum.mono_l : ∀ k, (∀ y0 y1 y2 y3, LeO (impl_GetNum.l0 k y0 y1 y2 y3) (impl_GetNum.l0 (k + 1) y0 y1 y2 y3)) ∧ (∀ y0 y1 y2 y3 y4, LeO (impl_GetNum.j1 k y0 y1 y2 y3 y4) (impl_GetNum.j1 (k + 1) y0 y1 y2 y3 y4))
 | 0 => by refine ⟨?_, ?_⟩ <;> intros <;> intro r h <;> simp [impl_GetNum.l0, impl_GetNum.j1] at h
 | k + 1 => by
  obtain ⟨ih0, ih1⟩ := impl_GetNum.mono_l k
  refine ⟨?_, ?_⟩
  ·intro y0 y1 y2 y3
   unfold impl_GetNum.l0
   repeat' first|(with_reducible first|apply ih0|apply ih1|exact lR _|exact lN _|refine lI ?_ ?_|refine lB ?_ fun _ => ?_)|exact lN _|refine lI ?_ ?_|refine lB ?_ fun _ => ?_
  ·intro y0 y1 y2 y3 y4
   unfold impl_GetNum.j1
   repeat' first|(with_reducible first|apply ih0|apply ih1|exact lR _|exact lN _|refine lI ?_ ?_|refine lB ?_ fun _ => ?_)|exact lN _|refine lI ?_ ?_|refine lB ?_ fun _ => ?_
theorem impl_GetNum.mono : ∀ a0 a1 k, LeO (impl_GetNum.f k a0 a1) (impl_GetNum.f (k + 1) a0 a1) := by
 intro a0 a1 k
 obtain ⟨ih0, ih1⟩ := impl_GetNum.mono_l k
 unfold impl_GetNum.f
 repeat' first|(with_reducible first|apply ih0|apply ih1|exact lR _|exact lN _|refine lI ?_ ?_|refine lB ?_ fun _ => ?_)|exact lN _|refine lI ?_ ?_|refine lB ?_ fun _ => ?_
set_option maxHeartbeats 60000000 in
set_option maxRecDepth 100000 in
theorem impl_GetNum.calls (k : Nat) (A0 : Option Addr) (c0 : Nat) (l0 : List Int) (a1 r1 r2 : Int) (r3 : Bool) (w : World) (hr0 : Kd.C (Kd.int .u8) w A0 l0.length l0) (hc0 : l0.length ≤ c0) (h : impl_GetNum.f k l0 a1 = some (r1, r2, r3)) :
  Calls Try.prog 76 #[.slice A0 l0.length c0, a1] w fun e w' => e = .returned (.tuple #[r1, r2, r3]) ∧ Drawn0 w w' := by
 have aQ := aM hr0
 have bW := aM hc0
 clear hr0 hc0
 have H : (if a1 < 0 then (some (0, 0, false)) else (impl_GetNum.l0 k l0 a1 0 0)) = some (r1, r2, r3) := h
 clear h
 by_cases c3 : a1 < 0
 case pos =>
  rw [if_pos c3] at H
  have bD := decide_eq_true c3
  clear c3
  simp only [Option.some.injEq, Prod.mk.injEq] at H
  obtain ⟨rfl, rfl, rfl⟩ := H
  go_enter Try.func76, Try.ntmps76
  go_wp2
  go_ret3
  exact ⟨by first | rfl | (simp; done) | (simp [*]; done), by repeat (first | exact Drawn0.refl _ | apply Drawn0.step)⟩
 rw [if_neg c3] at H
 have bD := decide_eq_false c3
 clear c3
 have H' := aM H
 clear H
 go_enter Try.func76, Try.ntmps76
 go_wp2
 go_loopg [7, 8] k (fun kq v7 v8 w' => ∃ (aE : Int) (aA : Int), v7 = .int .i64 aE ∧ v8 = .int .i64 aA ∧ Aside0 (impl_GetNum.l0 kq l0 a1 aE aA = some (r1, r2, r3)) ∧ Aside0 (kq ≤ k) ∧ Drawn0 w w')
 case atStart => exact ⟨(0), (0), xE, xE, H', ⟨Nat.le_refl _⟩, by repeat (first | exact Drawn0.refl _ | apply Drawn0.step)⟩
 case round =>
  clear H'
  repeat first|clear p2|clear c3|clear bD
  obtain ⟨aE, aA, rfl, rfl, HA, bG, ⟨m1, rfl⟩⟩ := hrel
  cases gk with
  | zero => exact absurd HA.out (by simp [impl_GetNum.l0])
  | succ k1 =>
   have H := HA.out
   clear HA
   simp only [impl_GetNum.l0] at H
   have bI := aM H
   clear H
   go_upto_region 5 with (fail)
   go_cut [21] (fun bP wc => ∃ (kq : Nat) (aK : Bool), bP = .bool aK ∧ Aside0 (impl_GetNum.j1 kq l0 a1 aE aA aK = some (r1, r2, r3)) ∧ Aside0 (kq ≤ k1) ∧ Drawn0 w wc)
   case first =>
    have H := bI.out
    clear bI
    by_cases c5 : aA < 5
    case pos =>
     rw [if_pos c5] at H
     have aJ := decide_eq_true c5
     clear c5
     (first | rw [aJ] | (simp only [i64_w, i32_w]; rw [aJ]) | skip)
     have H' := aM H
     clear H
     go_wp2
     go_meet
     case rel => exact ⟨_, (decide (a1 < (wrap64 ((l0.length : Int) - aA)))), xE, H', ⟨by have := bG.out; first | omega | exact Nat.le_refl _⟩, by repeat (first | exact Drawn0.refl _ | apply Drawn0.step)⟩
    rw [if_neg c5] at H
    have aJ := decide_eq_false c5
    clear c5
    (first | rw [aJ] | (simp only [i64_w, i32_w]; rw [aJ]) | skip)
    have H' := aM H
    clear H
    go_wp2
    go_meet
    case rel => exact ⟨_, (false), xE, H', ⟨by have := bG.out; first | omega | exact Nat.le_refl _⟩, by repeat (first | exact Drawn0.refl _ | apply Drawn0.step)⟩
   case rest =>
    clear bI
    repeat first|clear p2|clear c3|clear bD|clear c5|clear aJ|clear p2
    obtain ⟨kq, aK, rfl, HA, HJ3, ⟨mc3, rfl⟩⟩ := hcut
    cases kq with
    | zero => exact absurd HA.out (by simp [impl_GetNum.j1])
    | succ bH =>
     have H := HA.out
     clear HA
     simp only [impl_GetNum.j1] at H
     by_cases c6 : aK = true
     case neg =>
      replace c6 := Bool.eq_false_iff.mpr c6
      subst c6
      replace H := hF H
      simp only [Option.some.injEq, Prod.mk.injEq] at H
      obtain ⟨rfl, rfl, rfl⟩ := H
      go_wp2
      go_ret3
      exact ⟨by first | rfl | (simp; done) | (simp [*]; done), by repeat (first | exact Drawn0.refl _ | apply Drawn0.step)⟩
     subst c6
     replace H := hP H rfl
     obtain ⟨ji7, hji7⟩ : ∃ j_ : Int, (wrap64 (a1 + aA)) = j_ := ⟨_, rfl⟩
     replace H : (if 0 ≤ (ji7) then (if (ji7) < (l0.length : Int) then (if 0 ≤ (IntKind.u64.wrap (wrap64 (7 * aA))) then (if (wrap64 (rd l0 (ji7))) ≥ 128 then (impl_GetNum.l0 bH l0 a1 (Go.bits .or .i64 aE (shl .i64 (Go.bits .and .i64 (wrap64 (rd l0 (ji7))) 127) (IntKind.u64.wrap (wrap64 (7 * aA))))) (wS aA)) else (if (wrap64 (rd l0 (ji7))) = 0 then (if aA > 0 then (some (0, 0, false)) else (if (Go.bits .or .i64 aE (shl .i64 (Go.bits .and .i64 (wrap64 (rd l0 (ji7))) 127) (IntKind.u64.wrap (wrap64 (7 * aA))))) > 2147483647 then (some (0, 0, false)) else (some (Go.bits .or .i64 aE (shl .i64 (Go.bits .and .i64 (wrap64 (rd l0 (ji7))) 127) (IntKind.u64.wrap (wrap64 (7 * aA)))), wS (ji7), true)))) else (if (Go.bits .or .i64 aE (shl .i64 (Go.bits .and .i64 (wrap64 (rd l0 (ji7))) 127) (IntKind.u64.wrap (wrap64 (7 * aA))))) > 2147483647 then (some (0, 0, false)) else (some (Go.bits .or .i64 aE (shl .i64 (Go.bits .and .i64 (wrap64 (rd l0 (ji7))) 127) (IntKind.u64.wrap (wrap64 (7 * aA)))), wS (ji7), true))))) else (none)) else (none)) else (none)) = some (r1, r2, r3) := by first | (rw [hji7] at H; exact H) | (simp only [hji7] at H ⊢; exact H)
     have hji7w : (IntKind.i64.wrap (a1 + aA)) = ji7 := (i64_w _).trans hji7
     obtain ⟨bU, H⟩ := gI H
     obtain ⟨bV, H⟩ := gI H
     obtain ⟨ji10, hji10⟩ : ∃ j_ : Int, (IntKind.u64.wrap (wrap64 (7 * aA))) = j_ := ⟨_, rfl⟩
     replace H : (if 0 ≤ (ji10) then (if (wrap64 (rd l0 (ji7))) ≥ 128 then (impl_GetNum.l0 bH l0 a1 (Go.bits .or .i64 aE (shl .i64 (Go.bits .and .i64 (wrap64 (rd l0 (ji7))) 127) (ji10))) (wS aA)) else (if (wrap64 (rd l0 (ji7))) = 0 then (if aA > 0 then (some (0, 0, false)) else (if (Go.bits .or .i64 aE (shl .i64 (Go.bits .and .i64 (wrap64 (rd l0 (ji7))) 127) (ji10))) > 2147483647 then (some (0, 0, false)) else (some (Go.bits .or .i64 aE (shl .i64 (Go.bits .and .i64 (wrap64 (rd l0 (ji7))) 127) (ji10)), wS (ji7), true)))) else (if (Go.bits .or .i64 aE (shl .i64 (Go.bits .and .i64 (wrap64 (rd l0 (ji7))) 127) (ji10))) > 2147483647 then (some (0, 0, false)) else (some (Go.bits .or .i64 aE (shl .i64 (Go.bits .and .i64 (wrap64 (rd l0 (ji7))) 127) (ji10)), wS (ji7), true))))) else (none)) = some (r1, r2, r3) := by first | (rw [hji10] at H; exact H) | (simp only [hji10] at H ⊢; exact H)
     by_cases bA : 0 ≤ (ji10)
     case neg =>
      rw [if_neg bA] at H
      exact absurd H (by simp)
     rw [if_pos bA] at H
     have bQ := eq_true bA
     have bT : decide (0 ≤ (ji10)) = true := decide_eq_true bA
     clear bA
     obtain ⟨ji12, hji12⟩ : ∃ j_ : Int, (shl .i64 (Go.bits .and .i64 (wrap64 (rd l0 (ji7))) 127) (ji10)) = j_ := ⟨_, rfl⟩
     replace H : (if (wrap64 (rd l0 (ji7))) ≥ 128 then (impl_GetNum.l0 bH l0 a1 (Go.bits .or .i64 aE (ji12)) (wS aA)) else (if (wrap64 (rd l0 (ji7))) = 0 then (if aA > 0 then (some (0, 0, false)) else (if (Go.bits .or .i64 aE (ji12)) > 2147483647 then (some (0, 0, false)) else (some (Go.bits .or .i64 aE (ji12), wS (ji7), true)))) else (if (Go.bits .or .i64 aE (ji12)) > 2147483647 then (some (0, 0, false)) else (some (Go.bits .or .i64 aE (ji12), wS (ji7), true))))) = some (r1, r2, r3) := by first | (rw [hji12] at H; exact H) | (simp only [hji12] at H ⊢; exact H)
     have hji12_ : (IntKind.i64.wrap ((Go.bits .and .i64 (wrap64 (rd l0 (ji7))) 127) * 2 ^ min (ji10).toNat 64)) = ji12 := hji12
     have hji12z : (ji10) ≤ 64 → (IntKind.i64.wrap ((Go.bits .and .i64 (wrap64 (rd l0 (ji7))) 127) * 2 ^ (ji10).toNat)) = ji12 := shl_small hji12
     have hji12y : (wrap64 ((Go.bits .and .i64 (wrap64 (rd l0 (ji7))) 127) * 2 ^ min (ji10).toNat 64)) = ji12 := (i64_w _).symm.trans hji12_
     have hji12x : (ji10) ≤ 64 → (wrap64 ((Go.bits .and .i64 (wrap64 (rd l0 (ji7))) 127) * 2 ^ (ji10).toNat)) = ji12 := fun h_ => (i64_w _).symm.trans (hji12z h_)
     by_cases aT : (wrap64 (rd l0 (ji7))) ≥ 128
     case pos =>
      rw [if_pos aT] at H
      have bJ := decide_eq_true aT
      clear aT
      have H' := aM H
      clear H
      have aC : 0 ≤ ((ji7) : Int) := dT
      have aD : (ji7) < (l0.length : Int) := dT
      obtain ⟨aI, aG, aH⟩ := Kd.at_int aQ.out (ji7) aC aD
      cases aG
      replace aC := eq_true aC
      replace aD := eq_true aD
      go_wp2
      go_roundg bH
      case measure => have := bG.out; have := HJ3.out; omega
      case rel => exact ⟨(Go.bits .or .i64 aE (ji12)), (wS aA), (by first | rfl | (simp; done) | (simp only [← hji12] <;> (first | rfl | simp)) | (simp [*]; done)), xE, H', ⟨by have := bG.out; have := HJ3.out; omega⟩, by repeat (first | exact Drawn0.refl _ | apply Drawn0.step)⟩
     rw [if_neg aT] at H
     have bJ := decide_eq_false aT
     clear aT
     by_cases aN : (wrap64 (rd l0 (ji7))) = 0
     case neg =>
      rw [if_neg aN] at H
      have bK : ((wrap64 (rd l0 (ji7))) == 0) = false := beq_eq_false_iff_ne.mpr aN
      have bL : ((wrap64 (rd l0 (ji7))) != 0) = true := bne_iff_ne.mpr aN
      by_cases aV : (Go.bits .or .i64 aE (ji12)) > 2147483647
      case pos =>
       rw [if_pos aV] at H
       have bM := decide_eq_true aV
       clear aV
       simp only [Option.some.injEq, Prod.mk.injEq] at H
       obtain ⟨rfl, rfl, rfl⟩ := H
       have aC : 0 ≤ ((ji7) : Int) := dT
       have aD : (ji7) < (l0.length : Int) := dT
       obtain ⟨aI, aG, aH⟩ := Kd.at_int aQ.out (ji7) aC aD
       cases aG
       replace aC := eq_true aC
       replace aD := eq_true aD
       go_wp2
       go_ret3
       exact ⟨by first | rfl | (simp; done) | (simp only [← hji7, ← hji10, ← hji12] <;> (first | rfl | simp)) | (simp [*]; done), by repeat (first | exact Drawn0.refl _ | apply Drawn0.step)⟩
      rw [if_neg aV] at H
      have bM := decide_eq_false aV
      clear aV
      simp only [Option.some.injEq, Prod.mk.injEq] at H
      obtain ⟨rfl, rfl, rfl⟩ := H
      have aC : 0 ≤ ((ji7) : Int) := dT
      have aD : (ji7) < (l0.length : Int) := dT
      obtain ⟨aI, aG, aH⟩ := Kd.at_int aQ.out (ji7) aC aD
      cases aG
      replace aC := eq_true aC
      replace aD := eq_true aD
      go_wp2
      go_ret3
      exact ⟨by first | rfl | (simp; done) | (simp only [← hji7, ← hji10, ← hji12] <;> (first | rfl | simp)) | (simp [*]; done), by repeat (first | exact Drawn0.refl _ | apply Drawn0.step)⟩
     rw [if_pos aN] at H
     have bK : ((wrap64 (rd l0 (ji7))) == 0) = true := beq_iff_eq.mpr aN
     have bL : ((wrap64 (rd l0 (ji7))) != 0) = false := bne_eq_false_iff_eq.mpr aN
     clear aN
     by_cases aW : aA > 0
     case pos =>
      rw [if_pos aW] at H
      have bN := decide_eq_true aW
      clear aW
      simp only [Option.some.injEq, Prod.mk.injEq] at H
      obtain ⟨rfl, rfl, rfl⟩ := H
      have aC : 0 ≤ ((ji7) : Int) := dT
      have aD : (ji7) < (l0.length : Int) := dT
      obtain ⟨aI, aG, aH⟩ := Kd.at_int aQ.out (ji7) aC aD
      cases aG
      replace aC := eq_true aC
      replace aD := eq_true aD
      go_wp2
      go_ret3
      exact ⟨by first | rfl | (simp; done) | (simp only [← hji7, ← hji10, ← hji12] <;> (first | rfl | simp)) | (simp [*]; done), by repeat (first | exact Drawn0.refl _ | apply Drawn0.step)⟩
     rw [if_neg aW] at H
     have bN := decide_eq_false aW
     clear aW
     by_cases aX : (Go.bits .or .i64 aE (ji12)) > 2147483647
     case pos =>
      rw [if_pos aX] at H
      have bO := decide_eq_true aX
      clear aX
      simp only [Option.some.injEq, Prod.mk.injEq] at H
      obtain ⟨rfl, rfl, rfl⟩ := H
      have aC : 0 ≤ ((ji7) : Int) := dT
      have aD : (ji7) < (l0.length : Int) := dT
      obtain ⟨aI, aG, aH⟩ := Kd.at_int aQ.out (ji7) aC aD
      cases aG
      replace aC := eq_true aC
      replace aD := eq_true aD
      go_wp2
      go_ret3
      exact ⟨by first | rfl | (simp; done) | (simp only [← hji7, ← hji10, ← hji12] <;> (first | rfl | simp)) | (simp [*]; done), by repeat (first | exact Drawn0.refl _ | apply Drawn0.step)⟩
     rw [if_neg aX] at H
     have bO := decide_eq_false aX
     clear aX
     simp only [Option.some.injEq, Prod.mk.injEq] at H
     obtain ⟨rfl, rfl, rfl⟩ := H
     have aC : 0 ≤ ((ji7) : Int) := dT
     have aD : (ji7) < (l0.length : Int) := dT
     obtain ⟨aI, aG, aH⟩ := Kd.at_int aQ.out (ji7) aC aD
     cases aG
     replace aC := eq_true aC
     replace aD := eq_true aD
     go_wp2
     go_ret3
     exact ⟨by first | rfl | (simp; done) | (simp only [← hji7, ← hji10, ← hji12] <;> (first | rfl | simp)) | (simp [*]; done), by repeat (first | exact Drawn0.refl _ | apply Drawn0.step)⟩

end Go.Proofs.Ytaoipjdmmamkmaa.PFnFrames

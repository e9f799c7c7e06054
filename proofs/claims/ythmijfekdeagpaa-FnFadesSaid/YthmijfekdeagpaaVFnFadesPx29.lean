/- A part of the proof of laws.FnFades. No condition beyond what its theorems say. -/
import Derived.Test.YthmijfekdeagpaaVFnFadesPx28
namespace Go.Proofs.Ythmijfekdeagpaa.PFnFades
open Go.RowKit Go.Proofs.YthmijfekdeagpaaW.PrintWords Go.Proofs.YthmijfekdeagpaaW.PrintLast Go.Proofs.YthmijfekdeagpaaW.PrintMore
set_option linter.unusedVariables false
set_option linter.unusedSimpArgs false

mutual
def impl_Bridge_tick.l0 : Nat → Int → Int → Int → List (S79) → Option ((List (S79)))
 | 0, _, _, _, _ => none
 | k + 1, x8, x9, aD, aC => if x9 < x8 then (if 0 ≤ x9 then (if x9 < (aC.length : Int) then ((impl_Fade.f k ((rd_T79 aC x9).f0) ((rd_T79 aC x9).f1) ((rd_T79 aC x9).f2.f0) ((rd_T79 aC x9).f2.f1) ((rd_T79 aC x9).f2.f2) ((rd_T79 aC x9).f2.f3) ((rd_T79 aC x9).f3) ((rd_T79 aC x9).f4) ((rd_T79 aC x9).f5) ((rd_T79 aC x9).f6) ((rd_T79 aC x9).f7)).bind fun aA => (if aA.2.2.2.2.2.2.2.2.1 = 1 then (impl_Bridge_tick.j1 k x9 x8 x9 (decide (aA.2.2.2.2.2.2.2.2.2.1 > 0)) aD aC aA.1 aA.2.1 aA.2.2.1 aA.2.2.2.1 aA.2.2.2.2.1 aA.2.2.2.2.2.1 aA.2.2.2.2.2.2.1 aA.2.2.2.2.2.2.2.1 aA.2.2.2.2.2.2.2.2.1 aA.2.2.2.2.2.2.2.2.2.1 aA.2.2.2.2.2.2.2.2.2.2) else (if aA.2.2.2.2.2.2.2.2.1 = 2 then (impl_Bridge_tick.j1 k x9 x8 x9 (decide (aA.2.2.2.2.2.2.2.2.2.1 > 0)) aD aC aA.1 aA.2.1 aA.2.2.1 aA.2.2.2.1 aA.2.2.2.2.1 aA.2.2.2.2.2.1 aA.2.2.2.2.2.2.1 aA.2.2.2.2.2.2.2.1 aA.2.2.2.2.2.2.2.2.1 aA.2.2.2.2.2.2.2.2.2.1 aA.2.2.2.2.2.2.2.2.2.2) else (impl_Bridge_tick.j1 k x9 x8 x9 false aD aC aA.1 aA.2.1 aA.2.2.1 aA.2.2.2.1 aA.2.2.2.2.1 aA.2.2.2.2.2.1 aA.2.2.2.2.2.2.1 aA.2.2.2.2.2.2.2.1 aA.2.2.2.2.2.2.2.2.1 aA.2.2.2.2.2.2.2.2.2.1 aA.2.2.2.2.2.2.2.2.2.2)))) else (none)) else (none)) else (some aC)
def impl_Bridge_tick.j1 : Nat → Int → Int → Int → Bool → Int → List (S79) → Bool → Bool → Int → Int → Int → Int → Int → Int → Int → Int → Bool → Option ((List (S79)))
 | 0, _, _, _, _, _, _, _, _, _, _, _, _, _, _, _, _, _ => none
 | k + 1, x2, x8, x9, aX, aT, aA, aC, aD, aE, aG, aH, aI, aJ, aK, aN, aQ, aV => if aX = true then ((impl_Port_isOpenBy.f aC aD aE aG aH aI aJ aK aN (wrap64 (aQ - 1)) aV).bind fun aW => (if 0 ≤ x2 then (if x2 < (aA.length : Int) then (impl_Bridge_tick.l0 k x8 (wrap64 (x9 + 1)) aT (aA.set (x2 : Int).toNat (⟨aC, aD, (⟨aE, aG, aH, aI⟩ : S73), aJ, aK, aN, wrap64 (aQ - 1), aW⟩ : S79))) else (none)) else (none))) else (if 0 ≤ x2 then (if x2 < (aA.length : Int) then (impl_Bridge_tick.l0 k x8 (wrap64 (x9 + 1)) aT (aA.set (x2 : Int).toNat (⟨aC, aD, (⟨aE, aG, aH, aI⟩ : S73), aJ, aK, aN, aQ, aV⟩ : S79))) else (none)) else (none))
end
def impl_Bridge_tick.f (k : Nat) (aC : Int) (aA : List (S79)) : Option ((List (S79))) := impl_Bridge_tick.l0 k (aA.length : Int) 0 aC aA
theorem impl_Bridge_tick.mono_l : ∀ k, (∀ y0 y1 y2 y3, LeO (impl_Bridge_tick.l0 k y0 y1 y2 y3) (impl_Bridge_tick.l0 (k + 1) y0 y1 y2 y3)) ∧ (∀ y0 y1 y2 y3 y4 y5 y6 y7 y8 y9 aA aC aD aE aG aH aI, LeO (impl_Bridge_tick.j1 k y0 y1 y2 y3 y4 y5 y6 y7 y8 y9 aA aC aD aE aG aH aI) (impl_Bridge_tick.j1 (k + 1) y0 y1 y2 y3 y4 y5 y6 y7 y8 y9 aA aC aD aE aG aH aI))
 | 0 => by refine ⟨?_, ?_⟩ <;> intros <;> intro r h <;> simp [impl_Bridge_tick.l0, impl_Bridge_tick.j1] at h
 | k + 1 => by
  obtain ⟨ih0, ih1⟩ := impl_Bridge_tick.mono_l k
  refine ⟨?_, ?_⟩
  ·intro y0 y1 y2 y3
   unfold impl_Bridge_tick.l0
   repeat' first|(with_reducible first|apply ih0|apply ih1|apply impl_Fade.mono|exact lR _|exact lN _|refine lI ?_ ?_|refine lB ?_ fun _ => ?_)|exact lN _|refine lI ?_ ?_|refine lB ?_ fun _ => ?_
  ·intro y0 y1 y2 y3 y4 y5 y6 y7 y8 y9 aA aC aD aE aG aH aI
   unfold impl_Bridge_tick.j1
   repeat' first|(with_reducible first|apply ih0|apply ih1|apply impl_Fade.mono|exact lR _|exact lN _|refine lI ?_ ?_|refine lB ?_ fun _ => ?_)|exact lN _|refine lI ?_ ?_|refine lB ?_ fun _ => ?_
theorem impl_Bridge_tick.mono : ∀ a0 a1 k, LeO (impl_Bridge_tick.f k a0 a1) (impl_Bridge_tick.f (k + 1) a0 a1) := by
 intro a0 a1 k
 obtain ⟨ih0, ih1⟩ := impl_Bridge_tick.mono_l k
 unfold impl_Bridge_tick.f
 repeat' first|(with_reducible first|apply ih0|apply ih1|apply impl_Fade.mono|exact lR _|exact lN _|refine lI ?_ ?_|refine lB ?_ fun _ => ?_)|exact lN _|refine lI ?_ ?_|refine lB ?_ fun _ => ?_
def impl_Bridge_tick.T7 : Bool × List (List Nat × List Nat) := (true, [([], []), ([0], [0]), ([1], [1]), ([2], [2]), ([], []), ([], []), ([3, 4, 0, 1, 2, 3, 4, 5], [3, 4]), ([6, 5, 0, 1, 2, 3, 4, 5], [5, 6])])
def impl_Bridge_tick.B7 : List Nat := [0, 1, 3, 7, 0, 0, 63, 127]
theorem impl_Bridge_tick.tab7 : rtab .any (opsOf Try.f184 7) = impl_Bridge_tick.T7 := by kernel_rfl
theorem impl_Bridge_tick.bits7 : waitsOk impl_Bridge_tick.T7.2 impl_Bridge_tick.B7 = true := by kernel_rfl
set_option maxHeartbeats 60000000 in
set_option maxRecDepth 100000 in
theorem impl_Bridge_tick.calls (k : Nat) (bJ : Int) (P0_1_ : Nat → Prop) (bM : Value) (bG : List (S79)) (r : List (S79)) (w0 w : World) (gb : Nat) (hBK : w.heap[gb]? = some (.cells #[bJ, bM] 28 (0, 0))) (hgb : ¬ P0_1_ gb) (hB : Below w0.heap.size w0 w) (ho0_1 : Kd.R k79 79 w w0.heap.size P0_1_ bM bG) (h : impl_Bridge_tick.f k bJ bG = some r) :
  Calls Try.prog 184 #[.pointer (some ⟨gb, 0, none⟩)] w fun e w' => e = .returned (.tuple #[]) ∧ Kd.R k79 79 w' w0.heap.size (fun k_ => (P0_1_ k_ ∨ w.heap.size ≤ k_)) bM r ∧ Below w0.heap.size w0 w' ∧ Kept w w' (fun k_ => P0_1_ k_) := by
 have jI := Try.underlying28
 have jJ := Try.underlying79
 have cU := aM (show Kd.R k79 79 w w0.heap.size (fun k_ => (P0_1_ k_ ∨ w.heap.size ≤ k_)) bM bG from Kd.R_mono ho0_1 (fun k_ hk => (.inl hk)))
 have HK := aM (Kept.refl w (fun k_ => P0_1_ k_))
 have HW0 := aM hB.size
 have HB := aM hB
 have HGB := aM hgb
 clear hgb
 clear hB
 have H : (impl_Bridge_tick.l0 k (bG.length : Int) 0 bJ bG) = some r := h
 clear h
 have H' := aM H
 clear H
 obtain ⟨gK, bP, iI⟩ := Kd.R_slice cU.out
 subst iI
 go_enter Try.func184, Try.ntmps184
 have aH := aM hBK
 clear hBK
 have jK := cA2 aH.out
 go_wp2
 go_loopg [9] k (fun kq v9 w' => ∃ (aG : Int) (aA : List (S79)), v9 = .int .i64 aG ∧ Aside0 (impl_Bridge_tick.l0 kq (bG.length : Int) aG bJ aA = some r) ∧ Aside0 (kq ≤ k) ∧ Aside0 (Kd.R k79 79 w' w0.heap.size (fun k_ => (P0_1_ k_ ∨ w.heap.size ≤ k_)) (.slice gK bG.length bP) aA) ∧ Aside0 (w'.heap[gb]? = some (.cells #[bJ, (.slice gK bG.length bP)] 28 (0, 0))) ∧ Aside0 (Kept w w' (fun k_ => P0_1_ k_)) ∧ Aside0 (Below w0.heap.size w0 w'))
 case atStart => exact ⟨(0), (bG), xE, H', ⟨Nat.le_refl _⟩, ⟨kr cU.out⟩, ⟨bk aH.out⟩, ⟨kk HK.out⟩, ⟨bl HB.out⟩⟩
 case round =>
  clear H'
  repeat first|clear c1|clear p2
  obtain ⟨aG, aA, rfl, HA, bW, aC, aH, HK, HB⟩ := hrel
  have hl819001_1 := (Kd.R_reads' aC.out).1
  rw [hl819001_1] at aC
  (try simp only [hl819001_1])
  (try simp only [hl819001_1] at aH)
  cases gk with
  | zero => exact absurd HA.out (by simp [impl_Bridge_tick.l0])
  | succ k1 =>
   have H := HA.out
   clear HA
   simp only [impl_Bridge_tick.l0] at H
   by_cases c5 : aG < (bG.length : Int)
   case neg =>
    rw [if_neg c5] at H
    have cP := decide_eq_false c5
    (try rw [hl819001_1] at cP)
    clear c5
    obtain rfl := Option.some.inj H
    go_wp2
    first | go_end0 | ((try simp only [Exit.inBlock, Exit.then]); refine bodyPost_ret (results_none rfl _ _ _) rfl ?_)
    exact ⟨xW, (by first | exact (kr aC.out) | (simp only [hl819001_1]; exact (kr aC.out))), bl HB.out, kk HK.out⟩
   rw [if_pos c5] at H
   have cP := decide_eq_true c5
   clear c5
   obtain ⟨gN, H⟩ := gI H
   obtain ⟨gO, H⟩ := gI H
   obtain ⟨⟨aK, aN, aQ, aT, aV, aW, aX, bA, aI, aJ, bD⟩, gM, H⟩ := hB H
   try dsimp only at H
   have A8 := aM gM
   clear gM
   have dO := aM H
   clear H
   have iN := cA2 aH.out
   have cN : 0 ≤ (aG : Int) := dT
   have cO : aG < (aA.length : Int) := dT
   obtain ⟨bU, gP, bY, bZ, cA, cC, cD, cE, cG, cH, cK, cL, bX⟩ := at_T79 (Kd.R_reads' aC.out).2.2 aG cN cO
   cases gP
   replace cN := eq_true cN
   replace cO := eq_true cO
   go_upto_region 4 with (first | ((with_reducible refine gC (f := 196) rfl ?_); refine gL (some 19) Try.func196 #[.agg #[((rd_T79 aA aG).f0), ((rd_T79 aA aG).f1), ((rd_T79 aA aG).f2.f0), ((rd_T79 aA aG).f2.f1), ((rd_T79 aA aG).f2.f2), ((rd_T79 aA aG).f2.f3), ((rd_T79 aA aG).f3), ((rd_T79 aA aG).f4), ((rd_T79 aA aG).f5), ((rd_T79 aA aG).f6), ((rd_T79 aA aG).f7)]] ?_; (with_reducible refine (impl_Fade.calls k1 ((rd_T79 aA aG).f0) ((rd_T79 aA aG).f1) ((rd_T79 aA aG).f2.f0) ((rd_T79 aA aG).f2.f1) ((rd_T79 aA aG).f2.f2) ((rd_T79 aA aG).f2.f3) ((rd_T79 aA aG).f3) ((rd_T79 aA aG).f4) ((rd_T79 aA aG).f5) ((rd_T79 aA aG).f6) ((rd_T79 aA aG).f7) aK aN aQ aT aV aW aX bA aI aJ bD _ A8.out).mono ?_); rintro e jV ⟨rfl, hb⟩; refine ⟨_, rfl, ?_⟩; replace aC := rK aC hb; replace aH := rB aH hb; replace HK := aM (Kept.below (S := (fun k_ => P0_1_ k_)) (kk HK.out) hb); replace HB := rS HB hb; (try clear hb)) | ((with_reducible refine gD (N := 3) rfl ?_); refine bR aC (N := 3) (cs := #[.bool false, .bool false, .int .i64 0, .int .i64 0, .int .i64 0, .int .i64 0, .int .i64 0, .int .i64 0, .int .i64 0, .int .i64 0, .bool false]) (t := 79) ?_; intro aE hg jW hbox hb; have aD := aM (hbox); have cV := gE hg (kk HK.out).1; have iO := gF hg HB; have bH := nM hg aH; have bI := nH hg aH; replace aC := aM (kB (Kd.R_elderB (kr aC.out) aE (Nat.le_of_eq hg.symm)) hb); replace aH := rB aH hb; replace HK := aM (Kept.below (S := (fun k_ => P0_1_ k_)) (kk HK.out) hb); replace HB := rS HB hb; clear hb hbox hg; have iP := bI.out; have iQ := bH.out; have iR := cA11 aD.out))
   (try simp only [Act.put, sA, sZ, sS])
   go_cut [32] (fun iJ wc => ∃ (kq : Nat) (bV : Bool), iJ = .bool bV ∧ Aside0 (impl_Bridge_tick.j1 kq aG (bG.length : Int) aG bV bJ aA aK aN aQ aT aV aW aX bA aI aJ bD = some r) ∧ Aside0 (kq ≤ k1) ∧ Aside0 (Kd.R k79 79 wc w0.heap.size (fun k_ => (P0_1_ k_ ∨ w.heap.size ≤ k_) ∧ k_ ≠ aE) (.slice (some bU) aA.length bP) aA) ∧ Aside0 (wc.heap[gb]? = some (.cells #[bJ, (.slice (some bU) aA.length bP)] 28 (0, 0))) ∧ Aside0 (wc.heap[aE]? = some (.cells #[aK, aN, aQ, aT, aV, aW, aX, bA, aI, aJ, bD] 79 (0, 0))) ∧ Aside0 (Kept w wc (fun k_ => P0_1_ k_)) ∧ Aside0 (Below w0.heap.size w0 wc))
   case first =>
    have H := dO.out
    clear dO
    by_cases bQ : aI = 1
    case pos =>
     rw [if_pos bQ] at H
     have bK : (aI == 1) = true := beq_iff_eq.mpr bQ
     have cW : (aI != 1) = false := bne_eq_false_iff_eq.mpr bQ
     clear bQ
     (first | rw [bK] | (simp only [i64_w, i32_w]; rw [bK]) | skip)
     have H' := aM H
     clear H
     have iS := bI.out
     have iT := bH.out
     have iU := cA11 aD.out
     go_wp2
     go_meet
     case rel => exact ⟨_, (decide (aJ > 0)), xE, H', ⟨by have := bW.out; first | omega | exact Nat.le_refl _⟩, ⟨by (try simp only [hl819001_1]); (with_reducible repeat (first | apply Kd.R_alloc | apply Kd.R_drewN | apply Kd.R_drew)); exact Kd.R_mono (kF (p := ⟨aE, 10, none⟩) (kF (p := ⟨aE, 9, none⟩) (kF (p := ⟨aE, 8, none⟩) (kF (p := ⟨aE, 7, none⟩) (kF (p := ⟨aE, 6, none⟩) (kF (p := ⟨aE, 5, none⟩) (kF (p := ⟨aE, 4, none⟩) (kF (p := ⟨aE, 3, none⟩) (kF (p := ⟨aE, 2, none⟩) (kF (p := ⟨aE, 1, none⟩) (kF (p := ⟨aE, 0, none⟩) (Kd.R_mono aC.out (fun k_ hk => (⟨hk, hk.2⟩ : _ ∧ k_ ≠ aE))) (fun _ hk => hk.2) (.bool aK)) (fun _ hk => hk.2) (.bool aN)) (fun _ hk => hk.2) (.int .i64 aQ)) (fun _ hk => hk.2) (.int .i64 aT)) (fun _ hk => hk.2) (.int .i64 aV)) (fun _ hk => hk.2) (.int .i64 aW)) (fun _ hk => hk.2) (.int .i64 aX)) (fun _ hk => hk.2) (.int .i64 bA)) (fun _ hk => hk.2) (.int .i64 aI)) (fun _ hk => hk.2) (.int .i64 aJ)) (fun _ hk => hk.2) (.bool bD)) (fun _ hk => ⟨hk.1.1, hk.1.2⟩)⟩, ⟨by (try simp only [hl819001_1]); exact fm aH.out⟩, ⟨by (try simp only [hl819001_1]); exact bm aD.out⟩, ⟨kk HK.out⟩, ⟨bl HB.out⟩⟩
    rw [if_neg bQ] at H
    have bK : (aI == 1) = false := beq_eq_false_iff_ne.mpr bQ
    have cW : (aI != 1) = true := bne_iff_ne.mpr bQ
    (first | rw [bK] | (simp only [i64_w, i32_w]; rw [bK]) | skip)
    by_cases bT : aI = 2
    case neg =>
     rw [if_neg bT] at H
     have cX : (aI == 2) = false := beq_eq_false_iff_ne.mpr bT
     have cY : (aI != 2) = true := bne_iff_ne.mpr bT
     have H' := aM H
     clear H
     have iV := bI.out
     have iW := bH.out
     have iX := cA11 aD.out
     go_wp2
     go_meet
     case rel => exact ⟨_, (false), xE, H', ⟨by have := bW.out; first | omega | exact Nat.le_refl _⟩, ⟨by (try simp only [hl819001_1]); (with_reducible repeat (first | apply Kd.R_alloc | apply Kd.R_drewN | apply Kd.R_drew)); exact Kd.R_mono (kF (p := ⟨aE, 10, none⟩) (kF (p := ⟨aE, 9, none⟩) (kF (p := ⟨aE, 8, none⟩) (kF (p := ⟨aE, 7, none⟩) (kF (p := ⟨aE, 6, none⟩) (kF (p := ⟨aE, 5, none⟩) (kF (p := ⟨aE, 4, none⟩) (kF (p := ⟨aE, 3, none⟩) (kF (p := ⟨aE, 2, none⟩) (kF (p := ⟨aE, 1, none⟩) (kF (p := ⟨aE, 0, none⟩) (Kd.R_mono aC.out (fun k_ hk => (⟨hk, hk.2⟩ : _ ∧ k_ ≠ aE))) (fun _ hk => hk.2) (.bool aK)) (fun _ hk => hk.2) (.bool aN)) (fun _ hk => hk.2) (.int .i64 aQ)) (fun _ hk => hk.2) (.int .i64 aT)) (fun _ hk => hk.2) (.int .i64 aV)) (fun _ hk => hk.2) (.int .i64 aW)) (fun _ hk => hk.2) (.int .i64 aX)) (fun _ hk => hk.2) (.int .i64 bA)) (fun _ hk => hk.2) (.int .i64 aI)) (fun _ hk => hk.2) (.int .i64 aJ)) (fun _ hk => hk.2) (.bool bD)) (fun _ hk => ⟨hk.1.1, hk.1.2⟩)⟩, ⟨by (try simp only [hl819001_1]); exact fm aH.out⟩, ⟨by (try simp only [hl819001_1]); exact bm aD.out⟩, ⟨kk HK.out⟩, ⟨bl HB.out⟩⟩
    rw [if_pos bT] at H
    have cX : (aI == 2) = true := beq_iff_eq.mpr bT
    have cY : (aI != 2) = false := bne_eq_false_iff_eq.mpr bT
    clear bT
    have H' := aM H
    clear H
    have iY := bI.out
    have iZ := bH.out
    have jA := cA11 aD.out
    go_wp2
    go_meet
    case rel => exact ⟨_, (decide (aJ > 0)), xE, H', ⟨by have := bW.out; first | omega | exact Nat.le_refl _⟩, ⟨by (try simp only [hl819001_1]); (with_reducible repeat (first | apply Kd.R_alloc | apply Kd.R_drewN | apply Kd.R_drew)); exact Kd.R_mono (kF (p := ⟨aE, 10, none⟩) (kF (p := ⟨aE, 9, none⟩) (kF (p := ⟨aE, 8, none⟩) (kF (p := ⟨aE, 7, none⟩) (kF (p := ⟨aE, 6, none⟩) (kF (p := ⟨aE, 5, none⟩) (kF (p := ⟨aE, 4, none⟩) (kF (p := ⟨aE, 3, none⟩) (kF (p := ⟨aE, 2, none⟩) (kF (p := ⟨aE, 1, none⟩) (kF (p := ⟨aE, 0, none⟩) (Kd.R_mono aC.out (fun k_ hk => (⟨hk, hk.2⟩ : _ ∧ k_ ≠ aE))) (fun _ hk => hk.2) (.bool aK)) (fun _ hk => hk.2) (.bool aN)) (fun _ hk => hk.2) (.int .i64 aQ)) (fun _ hk => hk.2) (.int .i64 aT)) (fun _ hk => hk.2) (.int .i64 aV)) (fun _ hk => hk.2) (.int .i64 aW)) (fun _ hk => hk.2) (.int .i64 aX)) (fun _ hk => hk.2) (.int .i64 bA)) (fun _ hk => hk.2) (.int .i64 aI)) (fun _ hk => hk.2) (.int .i64 aJ)) (fun _ hk => hk.2) (.bool bD)) (fun _ hk => ⟨hk.1.1, hk.1.2⟩)⟩, ⟨by (try simp only [hl819001_1]); exact fm aH.out⟩, ⟨by (try simp only [hl819001_1]); exact bm aD.out⟩, ⟨kk HK.out⟩, ⟨bl HB.out⟩⟩
   case rest =>
    clear dO
    repeat first|clear c1|clear c2|clear p2|clear c5|clear cP|clear c6|clear gN|clear c7|clear gO|clear p8|clear q8|clear jX|clear bQ|clear bK|clear cW|clear jY|clear bT|clear cX|clear cY|clear jZ|clear kA|clear p2|clear cN|clear cO
    obtain ⟨kq, bV, rfl, HA, HJ8, aC, aH, aD, HK, HB⟩ := hcut
    cases kq with
    | zero => exact absurd HA.out (by simp [impl_Bridge_tick.j1])
    | succ dA =>
     have H := HA.out
     clear HA
     simp only [impl_Bridge_tick.j1] at H
     by_cases dB : bV = true
     case neg =>
      replace dB := Bool.eq_false_iff.mpr dB
      subst dB
      replace H := hF H
      obtain ⟨jB, H⟩ := gI H
      obtain ⟨jC, H⟩ := gI H
      obtain ⟨dP, bN⟩ : ∃ y_ : List (S79), y_ = (aA.set (aG : Int).toNat (⟨aK, aN, (⟨aQ, aT, aV, aW⟩ : S73), aX, bA, aI, aJ, bD⟩ : S79)) := ⟨_, rfl⟩
      replace H : (impl_Bridge_tick.l0 dA (bG.length : Int) (wS aG) bJ dP) = some r := by first | (rw [bN]; with_reducible exact H) | (have H2_ := (Option.bind_some _ _).symm.trans H; rw [bN]; with_reducible exact H2_) | (have H2_ := (Option.bind_some _ _).symm.trans H; with_reducible exact H2_) | with_reducible exact H | (rw [bN]; exact H) | exact H
      have fX := aM bN
      clear bN
      have H' := aM H
      clear H
      try go_wp2
      replace aC := aM (Kd.R_drew aC.out)
      replace aH := aM (blk_drew aH.out)
      replace aD := aM (blk_drew aD.out)
      replace HK := aM (Kept.drew HK.out)
      replace HB := aM (below_drew1 HB.out)
      have dQ : 0 ≤ (aG : Int) := dT
      have dR : (aG : Int) < ((aA.length : Int) : Int) := dT
      obtain ⟨cQ, jL, dS, dU, gQ, jM, dV⟩ := Kd.R_form aC.out (by omega)
      (first | cases dS | (injection dS with ea_ en_ ec_; (first | subst ea_ | (injection ea_ with ea_; subst ea_)); subst ec_; clear en_))
      have jN := aM dU
      have gR := aM dV
      clear dU gQ dV
      have HMgo37 := aM (show (P0_1_ cQ ∨ w.heap.size ≤ cQ) from (aC.out.1 _ rfl).1)
      obtain ⟨jO, fY, dW, dC, dD⟩ := Kd.R_elem aC.out z79 (aG : Int) dQ dR
      obtain rfl := k79_openM dW
      obtain ⟨dX, dY, dZ, eA, eB, eC, eD, eE, eF, eG, dK, eH, eI, eJ, eK, eL, eM, eN, eO, eP, eQ, dL⟩ := eS79 (rd_T79 aA aG) dC dD
      clear fY dC dD dW
      replace dQ := eq_true dQ
      replace dR := eq_true dR
      obtain ⟨jP, dE, eR, dF, gA⟩ := Kd.R_elem aC.out z79 (aG : Int) (dT) dT
      obtain rfl := k79_openM eR
      have cR := (Kd.R_seg aC.out (aG : Int) (dT) dT (seg := [.bool aK, .bool aN, .int .i64 aQ, .int .i64 aT, .int .i64 aV, .int .i64 aW, .int .i64 aX, .int .i64 bA, .int .i64 aI, .int .i64 aJ, .bool bD]) (j := 0) dE dF (show 11 ≤ 11 from by decide) (x' := (⟨aK, aN, (⟨aQ, aT, aV, aW⟩ : S73), aX, bA, aI, aJ, bD⟩ : S79)) (k79_mkM _ _ _ _) (fun _ hk => hk)).1
      rw [← fX.out] at cR
      have HQ39 := aM cR
      clear dE dF gA eR cR
      refine start_ (n := 8) (S := fun w' => cT2 w' gb (.int .i64 bJ) (.slice (some ⟨cQ, 0, none⟩) aA.length bP) (cS11 w' aE (.bool aK) (.bool aN) (.int .i64 aQ) (.int .i64 aT) (.int .i64 aV) (.int .i64 aW) (.int .i64 aX) (.int .i64 bA) (.int .i64 aI) (.int .i64 aJ) (.bool bD))) (ds := [7]) (dn 8 0) (by kernel_rfl) rfl rfl ⟨cI aH.out 0, cI aH.out 1, cI aD.out 0, cI aD.out 1, cI aD.out 2, cI aD.out 3, cI aD.out 4, cI aD.out 5, cI aD.out 6, cI aD.out 7, cI aD.out 8, cI aD.out 9, cI aD.out 10⟩ (fun hHeld => ?_); refine with_tabW impl_Bridge_tick.tab7 impl_Bridge_tick.bits7 (fun HT_ HW_ => ?_)
      generalize wc.drew = kC at aC aH aD HK HB gR HQ39 eH eI dL eJ eK eL eM eN eO eP eQ dX dY dK dZ eA eB eC eD eE eF eG hHeld ⊢
      refine nY (N := some 40) HT_ ?_
      refine nY (N := some 41) HT_ ?_
      refine nY (N := some 42) HT_ ?_
      refine pZ 4 44 (bv 8 23) HT_ ?_
      refine aZ 3 43 (bv 8 31) HT_ HW_ hHeld ?_
      refine aZ 5 45 (bv 8 63) HT_ HW_ hHeld ?_
      refine pZ 6 46 (bv 8 127) HT_ ?_
      refine last_ (i := 7) (N := none) (bv 8 255) rfl rfl (one_of HT_.out (by kernel_rfl)) (by decide) (fun K hK => ?_)
      refine skip_ (w1 := ?_) (by rfl) rfl ?_ ?_
      rotate_left
      ·go_simp
       rfl
      refine hK.out _ _ ?_
      clear hK K
      refine done_ (done_of HT_.out (by kernel_rfl)) ?_
      try go_wp2
      (try simp only [← hl819001_1])
      go_roundg dA
      case measure => have := bW.out; have := HJ8.out; omega
      case rel => exact ⟨(wS aG), (dP), xE, H', ⟨by have := bW.out; have := HJ8.out; omega⟩, ⟨by (try simp only [hl819001_1]); (with_reducible repeat (first | apply Kd.R_alloc | apply Kd.R_drewN | apply Kd.R_drew)); exact Kd.R_mono HQ39.out (fun _ hk => hk.1)⟩, ⟨by (try simp only [hl819001_1]); exact fR aC.out aH.out⟩, ⟨by repeat (first | (with_reducible first | exact HK.out | apply Kept.alloc | apply Kept.drewN | apply Kept.drew | refine Kept.setCell ?_ HMgo37.out _ | refine Kept.setCell ?_ HMgo37.out _ | refine Kept.setCell ?_ HMgo37.out _ | refine Kept.setCell ?_ HMgo37.out _ | refine Kept.setCell ?_ HMgo37.out _ | refine Kept.setCell ?_ HMgo37.out _ | refine Kept.setCell ?_ HMgo37.out _ | refine Kept.setCell ?_ HMgo37.out _ | refine Kept.setCell ?_ HMgo37.out _ | refine Kept.setCell ?_ HMgo37.out _ | refine Kept.setCell ?_ HMgo37.out _ | refine Kept.setCell ?_ (.inr gB.out) _ | refine Kept.setCell ?_ (.inr cV.out) _) | exact HK.out)⟩, ⟨bl HB.out⟩⟩
     subst dB
     replace H := hP H rfl
     obtain ⟨bL, eS, H⟩ := hB H
     have iK := aM eS
     clear eS
     obtain ⟨jD, H⟩ := gI H
     obtain ⟨jE, H⟩ := gI H
     obtain ⟨eT, bO⟩ : ∃ y_ : List (S79), y_ = (aA.set (aG : Int).toNat (⟨aK, aN, (⟨aQ, aT, aV, aW⟩ : S73), aX, bA, aI, wrap64 (aJ - 1), bL⟩ : S79)) := ⟨_, rfl⟩
     replace H : (impl_Bridge_tick.l0 dA (bG.length : Int) (wS aG) bJ eT) = some r := by first | (rw [bO]; with_reducible exact H) | (have H2_ := (Option.bind_some _ _).symm.trans H; rw [bO]; with_reducible exact H2_) | (have H2_ := (Option.bind_some _ _).symm.trans H; with_reducible exact H2_) | with_reducible exact H | (rw [bO]; exact H) | exact H
     have gG := aM bO
     clear bO
     have H' := aM H
     clear H
     have jF := bI.out
     have jG := bH.out
     have jH := cA11 aD.out
     try go_wp2_with (first | ((with_reducible refine gC (f := 180) rfl ?_); refine gL (some 38) Try.func180 #[.agg #[aK, aN, aQ, aT, aV, aW, aX, bA, aI, .int .i64 (wrap64 (aJ - 1)), bD]] ?_; (with_reducible refine (impl_Port_isOpenBy.calls aK aN aQ aT aV aW aX bA aI (wrap64 (aJ - 1)) bD bL _ iK.out).mono ?_); rintro e iL ⟨rfl, hb⟩; refine ⟨_, rfl, ?_⟩; replace aC := aM (kB (kr (Kd.R_mono (kF (p := ⟨aE, 9, none⟩) (Kd.R_mono aC.out (fun k_ hk => (⟨hk, hk.2⟩ : _ ∧ k_ ≠ aE))) (fun _ hk => hk.2) (.int .i64 (wrap64 (aJ - 1)))) (fun _ h_ => h_.1))) hb); replace aH := aM (bB (fm aH.out) hb); replace aD := aM (bB (g := aE) (o := .cells #[aK, aN, aQ, aT, aV, aW, aX, bA, aI, .int .i64 (wrap64 (aJ - 1)), bD] 79 (0, 0)) (by (with_reducible repeat (first | refine blk_drewN ?_ _ | refine blk_drew ?_ | refine blk_alloc ?_ _)); refine blk_put (cs := #[aK, aN, aQ, aT, aV, aW, aX, bA, aI, aJ, bD]) ?_ 9 _ rfl; (with_reducible repeat (first | refine blk_drewN ?_ _ | refine blk_drew ?_ | refine blk_alloc ?_ _)); exact aD.out) hb); replace HK := aM (Kept.below (S := (fun k_ => P0_1_ k_)) (kk HK.out) hb); replace HB := rS HB hb; (try clear hb); have gW := cI aD.out 0; have gX := cI aD.out 1; have gY := cI aD.out 2; have gZ := cI aD.out 3; have hD := cI aD.out 4; have hH := cI aD.out 5; have hJ := cI aD.out 6; have hO := cI aD.out 7; have hU := cI aD.out 8; have hX : iL.cell? ⟨aE, 9, none⟩ = some (.int .i64 (wrap64 (aJ - 1))) := cI aD.out 9; have gS := cI aD.out 10; have hY := bF aD.out 0; have hZ := bF aD.out 1; have iA := bF aD.out 2; have iB := bF aD.out 3; have iC := bF aD.out 4; have iD := bF aD.out 5; have iE := bF aD.out 6; have iF := bF aD.out 7; have iG := bF aD.out 8; have iH := bF aD.out 9; have gT := bF aD.out 10))
     refine nW (fun W => Aside0 (Kd.R k79 79 W w0.heap.size (fun k_ => (P0_1_ k_ ∨ w.heap.size ≤ k_) ∧ k_ ≠ aE) (.slice (some bU) aA.length bP) aA) ∧ Aside0 (W.heap[gb]? = some (.cells #[bJ, .slice (some bU) aA.length bP] 28 (0, 0))) ∧ Aside0 (W.heap[aE]? = some (.cells #[aK, aN, aQ, aT, aV, aW, aX, bA, aI, .int .i64 (wrap64 (aJ - 1)), bL] 79 (0, 0))) ∧ Aside0 (Kept w W (fun k_ => P0_1_ k_)) ∧ Aside0 (Below w0.heap.size w0 W)) ⟨⟨kr (Kd.R_mono (kF (p := ⟨aE, 10, none⟩) (Kd.R_mono aC.out (fun k_ hk => (⟨hk, hk.2⟩ : _ ∧ k_ ≠ aE))) (fun _ hk => hk.2) (.bool bL)) (fun _ hk => ⟨hk.1.1, hk.1.2⟩))⟩, ⟨fm aH.out⟩, ⟨by (with_reducible repeat (first | refine blk_drewN ?_ _ | refine blk_drew ?_ | refine blk_alloc ?_ _)); refine blk_put (cs := #[aK, aN, aQ, aT, aV, aW, aX, bA, aI, .int .i64 (wrap64 (aJ - 1)), bD]) ?_ 10 _ rfl; (with_reducible repeat (first | refine blk_drewN ?_ _ | refine blk_drew ?_ | refine blk_alloc ?_ _)); exact aD.out⟩, ⟨kk HK.out⟩, ⟨bl HB.out⟩⟩ ?_
     intro iM nn_
     replace aC := nn_.1
     replace aH := nn_.2.1
     replace aD := nn_.2.2.1
     replace HK := nn_.2.2.2.1
     replace HB := nn_.2.2.2.2
     clear nn_
     replace aC := aM (Kd.R_drew aC.out)
     replace aH := aM (blk_drew aH.out)
     replace aD := aM (blk_drew aD.out)
     replace HK := aM (Kept.drew HK.out)
     replace HB := aM (below_drew1 HB.out)
     have eU : 0 ≤ (aG : Int) := dT
     have eV : (aG : Int) < ((aA.length : Int) : Int) := dT
     obtain ⟨cS, jQ, eW, eX, gU, jR, eY⟩ := Kd.R_form aC.out (by omega)
     (first | cases eW | (injection eW with ea_ en_ ec_; (first | subst ea_ | (injection ea_ with ea_; subst ea_)); subst ec_; clear en_))
     have jS := aM eX
     have gV := aM eY
     clear eX gU eY
     have HMgo27 := aM (show (P0_1_ cS ∨ w.heap.size ≤ cS) from (aC.out.1 _ rfl).1)
     (first | simp only [add_plain] at bY | skip)
     (first | simp only [add_plain] at bZ | skip)
     (first | simp only [add_plain] at cA | skip)
     (first | simp only [add_plain] at cC | skip)
     (first | simp only [add_plain] at cD | skip)
     (first | simp only [add_plain] at cE | skip)
     (first | simp only [add_plain] at cG | skip)
     (first | simp only [add_plain] at cH | skip)
     (first | simp only [add_plain] at cK | skip)
     (first | simp only [add_plain] at cL | skip)
     (first | simp only [add_plain] at bX | skip)
     obtain ⟨jT, gH, eZ, dG, dH⟩ := Kd.R_elem aC.out z79 (aG : Int) eU eV
     obtain rfl := k79_openM eZ
     obtain ⟨fA, fB, fC, fD, fE, fF, fG, fH, fI, fK, dM, fL, fM, fN, fO, fP, fQ, fS, fT, fU, fV, dN⟩ := eS79 (rd_T79 aA aG) dG dH
     clear gH dG dH eZ
     replace eU := eq_true eU
     replace eV := eq_true eV
     obtain ⟨jU, dI, fW, dJ, gJ⟩ := Kd.R_elem aC.out z79 (aG : Int) (dT) dT
     obtain rfl := k79_openM fW
     have cT := (Kd.R_seg aC.out (aG : Int) (dT) dT (seg := [.bool aK, .bool aN, .int .i64 aQ, .int .i64 aT, .int .i64 aV, .int .i64 aW, .int .i64 aX, .int .i64 bA, .int .i64 aI, .int .i64 (wrap64 (aJ - 1)), .bool bL]) (j := 0) dI dJ (show 11 ≤ 11 from by decide) (x' := (⟨aK, aN, (⟨aQ, aT, aV, aW⟩ : S73), aX, bA, aI, wrap64 (aJ - 1), bL⟩ : S79)) (k79_mkM _ _ _ _) (fun _ hk => hk)).1
     rw [← gG.out] at cT
     have HQ34 := aM cT
     clear dI dJ gJ fW cT
     refine start_ (n := 8) (S := fun w' => cT2 w' gb (.int .i64 bJ) (.slice (some ⟨cS, 0, none⟩) aA.length bP) (cS11 w' aE (.bool aK) (.bool aN) (.int .i64 aQ) (.int .i64 aT) (.int .i64 aV) (.int .i64 aW) (.int .i64 aX) (.int .i64 bA) (.int .i64 aI) (.int .i64 (wrap64 (aJ - 1))) (.bool bL))) (ds := [7]) (dn 8 0) (by kernel_rfl) rfl rfl ⟨cI aH.out 0, cI aH.out 1, cI aD.out 0, cI aD.out 1, cI aD.out 2, cI aD.out 3, cI aD.out 4, cI aD.out 5, cI aD.out 6, cI aD.out 7, cI aD.out 8, cI aD.out 9, cI aD.out 10⟩ (fun hHeld => ?_); refine with_tabW impl_Bridge_tick.tab7 impl_Bridge_tick.bits7 (fun HT_ HW_ => ?_)
     generalize iM.drew = kD at aC aH aD HK HB gV HQ34 fL fM dN fN fO fP fQ fS fT fU fV fA fB dM fC fD fE fF fG fH fI fK bY bZ bX cA cC cD cE cG cH cK cL hHeld ⊢
     refine nY (N := some 40) HT_ ?_
     refine nY (N := some 41) HT_ ?_
     refine nY (N := some 42) HT_ ?_
     refine pZ 4 44 (bv 8 23) HT_ ?_
     refine aZ 3 43 (bv 8 31) HT_ HW_ hHeld ?_
     refine aZ 5 45 (bv 8 63) HT_ HW_ hHeld ?_
     refine pZ 6 46 (bv 8 127) HT_ ?_
     refine last_ (i := 7) (N := none) (bv 8 255) rfl rfl (one_of HT_.out (by kernel_rfl)) (by decide) (fun K hK => ?_)
     refine skip_ (w1 := ?_) (by rfl) rfl ?_ ?_
     rotate_left
     ·go_simp
      rfl
     refine hK.out _ _ ?_
     clear hK K
     refine done_ (done_of HT_.out (by kernel_rfl)) ?_
     try go_wp2
     (try simp only [← hl819001_1])
     go_roundg dA
     case measure => have := bW.out; have := HJ8.out; omega
     case rel => exact ⟨(wS aG), (eT), xE, H', ⟨by have := bW.out; have := HJ8.out; omega⟩, ⟨by (try simp only [hl819001_1]); (with_reducible repeat (first | apply Kd.R_alloc | apply Kd.R_drewN | apply Kd.R_drew)); exact Kd.R_mono HQ34.out (fun _ hk => hk.1)⟩, ⟨by (try simp only [hl819001_1]); exact fR aC.out aH.out⟩, ⟨by repeat (first | (with_reducible first | exact HK.out | apply Kept.alloc | apply Kept.drewN | apply Kept.drew | refine Kept.setCell ?_ HMgo27.out _ | refine Kept.setCell ?_ HMgo27.out _ | refine Kept.setCell ?_ HMgo27.out _ | refine Kept.setCell ?_ HMgo27.out _ | refine Kept.setCell ?_ HMgo27.out _ | refine Kept.setCell ?_ HMgo27.out _ | refine Kept.setCell ?_ HMgo27.out _ | refine Kept.setCell ?_ HMgo27.out _ | refine Kept.setCell ?_ HMgo27.out _ | refine Kept.setCell ?_ HMgo27.out _ | refine Kept.setCell ?_ HMgo27.out _ | refine Kept.setCell ?_ (.inr gB.out) _ | refine Kept.setCell ?_ (.inr cV.out) _) | exact HK.out)⟩, ⟨bl HB.out⟩⟩

end Go.Proofs.Ythmijfekdeagpaa.PFnFades

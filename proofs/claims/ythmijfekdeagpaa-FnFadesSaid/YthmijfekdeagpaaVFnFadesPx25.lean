/- A part of the proof of laws.FnFades. No condition beyond what its theorems say. -/
import Derived.Test.YthmijfekdeagpaaVFnFadesPx24
namespace Go.Proofs.Ythmijfekdeagpaa.PFnFades
open Go.RowKit Go.Proofs.YthmijfekdeagpaaW.PrintWords Go.Proofs.YthmijfekdeagpaaW.PrintLast Go.Proofs.YthmijfekdeagpaaW.PrintMore
set_option linter.unusedVariables false
set_option linter.unusedSimpArgs false

mutual
def impl_Bridge_decide.l0 : Nat → Int → Int → Int → Int → List (S79) → Option ((List (S79)))
 | 0, _, _, _, _, _ => none
 | k + 1, x2, aH, aC, aE, aA => if aC < aH then (if 0 ≤ aC then (if aC < (aA.length : Int) then (if ((rd_T79 aA aC).f0 = true) then (if aC = x2 then ((impl_Turn.f k ((rd_T79 aA aC).f0) ((rd_T79 aA aC).f1) ((rd_T79 aA aC).f2.f0) ((rd_T79 aA aC).f2.f1) ((rd_T79 aA aC).f2.f2) ((rd_T79 aA aC).f2.f3) ((rd_T79 aA aC).f3) ((rd_T79 aA aC).f4) ((rd_T79 aA aC).f5) ((rd_T79 aA aC).f6) ((rd_T79 aA aC).f7) 1).bind fun aD => (impl_Bridge_decide.l0 k x2 aH (wrap64 (aC + 1)) aE (aA.set (aC : Int).toNat (⟨aD.1, aD.2.1, (⟨aD.2.2.1, aD.2.2.2.1, aD.2.2.2.2.1, aD.2.2.2.2.2.1⟩ : S73), aD.2.2.2.2.2.2.1, aD.2.2.2.2.2.2.2.1, aD.2.2.2.2.2.2.2.2.1, aD.2.2.2.2.2.2.2.2.2.1, aD.2.2.2.2.2.2.2.2.2.2⟩ : S79)))) else (if (rd_T79 aA aC).f1 = true then ((impl_Bridge_own.f k aE aA aC).bind fun aG => ((impl_Better.f k ((rd_T79 aA aC).f2.f0) ((rd_T79 aA aC).f2.f1) ((rd_T79 aA aC).f2.f2) ((rd_T79 aA aC).f2.f3) aG.1 aG.2.1 aG.2.2.1 aG.2.2.2).bind fun aI => (impl_Bridge_decide.j1 k x2 aC aH aC aI aE aA ((rd_T79 aA aC).f0) ((rd_T79 aA aC).f1) ((rd_T79 aA aC).f2.f0) ((rd_T79 aA aC).f2.f1) ((rd_T79 aA aC).f2.f2) ((rd_T79 aA aC).f2.f3) ((rd_T79 aA aC).f3) ((rd_T79 aA aC).f4) ((rd_T79 aA aC).f5) ((rd_T79 aA aC).f6) ((rd_T79 aA aC).f7)))) else (impl_Bridge_decide.j1 k x2 aC aH aC false aE aA ((rd_T79 aA aC).f0) ((rd_T79 aA aC).f1) ((rd_T79 aA aC).f2.f0) ((rd_T79 aA aC).f2.f1) ((rd_T79 aA aC).f2.f2) ((rd_T79 aA aC).f2.f3) ((rd_T79 aA aC).f3) ((rd_T79 aA aC).f4) ((rd_T79 aA aC).f5) ((rd_T79 aA aC).f6) ((rd_T79 aA aC).f7)))) else (impl_Bridge_decide.l0 k x2 aH (wrap64 (aC + 1)) aE aA)) else (none)) else (none)) else (some aA)
def impl_Bridge_decide.j1 : Nat → Int → Int → Int → Int → Bool → Int → List (S79) → Bool → Bool → Int → Int → Int → Int → Int → Int → Int → Int → Bool → Option ((List (S79)))
 | 0, _, _, _, _, _, _, _, _, _, _, _, _, _, _, _, _, _, _ => none
 | k + 1, x2, x3, bA, bD, bG, aE, aD, aG, aH, aI, aJ, aK, aN, aQ, aT, aV, aW, aX => if bG = true then ((impl_Turn.f k aG aH aI aJ aK aN aQ aT aV aW aX 3).bind fun aA => (if 0 ≤ x3 then (if x3 < (aD.length : Int) then (impl_Bridge_decide.l0 k x2 bA (wrap64 (bD + 1)) aE (aD.set (x3 : Int).toNat (⟨aA.1, aA.2.1, (⟨aA.2.2.1, aA.2.2.2.1, aA.2.2.2.2.1, aA.2.2.2.2.2.1⟩ : S73), aA.2.2.2.2.2.2.1, aA.2.2.2.2.2.2.2.1, aA.2.2.2.2.2.2.2.2.1, aA.2.2.2.2.2.2.2.2.2.1, aA.2.2.2.2.2.2.2.2.2.2⟩ : S79))) else (none)) else (none))) else ((impl_Turn.f k aG aH aI aJ aK aN aQ aT aV aW aX 2).bind fun aC => (if 0 ≤ x3 then (if x3 < (aD.length : Int) then (impl_Bridge_decide.l0 k x2 bA (wrap64 (bD + 1)) aE (aD.set (x3 : Int).toNat (⟨aC.1, aC.2.1, (⟨aC.2.2.1, aC.2.2.2.1, aC.2.2.2.2.1, aC.2.2.2.2.2.1⟩ : S73), aC.2.2.2.2.2.2.1, aC.2.2.2.2.2.2.2.1, aC.2.2.2.2.2.2.2.2.1, aC.2.2.2.2.2.2.2.2.2.1, aC.2.2.2.2.2.2.2.2.2.2⟩ : S79))) else (none)) else (none)))
end
def impl_Bridge_decide.f (k : Nat) (aC : Int) (aA : List (S79)) : Option ((List (S79))) := (impl_Bridge_rootPort.f k aC aA).bind fun aD => (impl_Bridge_decide.l0 k aD (aA.length : Int) 0 aC aA)
theorem impl_Bridge_decide.mono_l : ∀ k, (∀ y0 y1 y2 y3 y4, LeO (impl_Bridge_decide.l0 k y0 y1 y2 y3 y4) (impl_Bridge_decide.l0 (k + 1) y0 y1 y2 y3 y4)) ∧ (∀ y0 y1 y2 y3 y4 y5 y6 y7 y8 y9 aA aC aD aE aG aH aI aJ, LeO (impl_Bridge_decide.j1 k y0 y1 y2 y3 y4 y5 y6 y7 y8 y9 aA aC aD aE aG aH aI aJ) (impl_Bridge_decide.j1 (k + 1) y0 y1 y2 y3 y4 y5 y6 y7 y8 y9 aA aC aD aE aG aH aI aJ))
 | 0 => by refine ⟨?_, ?_⟩ <;> intros <;> intro r h <;> simp [impl_Bridge_decide.l0, impl_Bridge_decide.j1] at h
 | k + 1 => by
  obtain ⟨ih0, ih1⟩ := impl_Bridge_decide.mono_l k
  refine ⟨?_, ?_⟩
  ·intro y0 y1 y2 y3 y4
   unfold impl_Bridge_decide.l0
   repeat' first|(with_reducible first|apply ih0|apply ih1|apply impl_Better.mono|apply impl_Bridge_own.mono|apply impl_Bridge_rootPort.mono|apply impl_Turn.mono|exact lR _|exact lN _|refine lI ?_ ?_|refine lB ?_ fun _ => ?_)|exact lN _|refine lI ?_ ?_|refine lB ?_ fun _ => ?_
  ·intro y0 y1 y2 y3 y4 y5 y6 y7 y8 y9 aA aC aD aE aG aH aI aJ
   unfold impl_Bridge_decide.j1
   repeat' first|(with_reducible first|apply ih0|apply ih1|apply impl_Better.mono|apply impl_Bridge_own.mono|apply impl_Bridge_rootPort.mono|apply impl_Turn.mono|exact lR _|exact lN _|refine lI ?_ ?_|refine lB ?_ fun _ => ?_)|exact lN _|refine lI ?_ ?_|refine lB ?_ fun _ => ?_
theorem impl_Bridge_decide.mono : ∀ a0 a1 k, LeO (impl_Bridge_decide.f k a0 a1) (impl_Bridge_decide.f (k + 1) a0 a1) := by
 intro a0 a1 k
 obtain ⟨ih0, ih1⟩ := impl_Bridge_decide.mono_l k
 unfold impl_Bridge_decide.f
 repeat' first|(with_reducible first|apply ih0|apply ih1|apply impl_Better.mono|apply impl_Bridge_own.mono|apply impl_Bridge_rootPort.mono|apply impl_Turn.mono|exact lR _|exact lN _|refine lI ?_ ?_|refine lB ?_ fun _ => ?_)|exact lN _|refine lI ?_ ?_|refine lB ?_ fun _ => ?_
def impl_Bridge_decide.T4 : Bool × List (List Nat × List Nat) := (true, [([], []), ([0], [0]), ([1], [1]), ([2], [2]), ([], []), ([], []), ([5], [5]), ([3, 4, 0, 1, 2, 3, 4, 5, 6], [3, 4]), ([7, 6, 6, 0, 1, 2, 3, 4, 5, 6], [6, 7])])
def impl_Bridge_decide.B4 : List Nat := [0, 1, 3, 7, 0, 0, 32, 127, 255]
theorem impl_Bridge_decide.tab4 : rtab .any (opsOf Try.f72 4) = impl_Bridge_decide.T4 := by kernel_rfl
theorem impl_Bridge_decide.bits4 : waitsOk impl_Bridge_decide.T4.2 impl_Bridge_decide.B4 = true := by kernel_rfl
def impl_Bridge_decide.T7 : Bool × List (List Nat × List Nat) := (true, [([], []), ([0], [0]), ([1], [1]), ([2], [2]), ([], []), ([], []), ([5], [5]), ([3, 4, 0, 1, 2, 3, 4, 5, 6], [3, 4]), ([7, 6, 6, 0, 1, 2, 3, 4, 5, 6], [6, 7])])
def impl_Bridge_decide.B7 : List Nat := [0, 1, 3, 7, 0, 0, 32, 127, 255]
theorem impl_Bridge_decide.tab7 : rtab .any (opsOf Try.f72 7) = impl_Bridge_decide.T7 := by kernel_rfl
theorem impl_Bridge_decide.bits7 : waitsOk impl_Bridge_decide.T7.2 impl_Bridge_decide.B7 = true := by kernel_rfl
def impl_Bridge_decide.T8 : Bool × List (List Nat × List Nat) := (true, [([], []), ([0], [0]), ([1], [1]), ([2], [2]), ([3, 2], [2, 3]), ([2], [2]), ([2], [2]), ([5, 6, 2, 2], [2, 5, 6]), ([4, 7, 7, 2], [2, 4, 7]), ([2, 8], [2, 8]), ([9, 8], [9])])
def impl_Bridge_decide.B8 : List Nat := [0, 1, 3, 7, 15, 7, 7, 103, 255, 511, 1023]
theorem impl_Bridge_decide.tab8 : rtab .any (opsOf Try.f72 8) = impl_Bridge_decide.T8 := by kernel_rfl
theorem impl_Bridge_decide.bits8 : waitsOk impl_Bridge_decide.T8.2 impl_Bridge_decide.B8 = true := by kernel_rfl
def impl_Bridge_decide.T9 : Bool × List (List Nat × List Nat) := (true, [([], []), ([0], [0]), ([1], [1]), ([2], [2]), ([], []), ([], []), ([5], [5]), ([3, 4, 0, 1, 2, 3, 4, 5, 6], [3, 4]), ([7, 6, 6, 0, 1, 2, 3, 4, 5, 6], [6, 7])])
def impl_Bridge_decide.B9 : List Nat := [0, 1, 3, 7, 0, 0, 32, 127, 255]
theorem impl_Bridge_decide.tab9 : rtab .any (opsOf Try.f72 9) = impl_Bridge_decide.T9 := by kernel_rfl
theorem impl_Bridge_decide.bits9 : waitsOk impl_Bridge_decide.T9.2 impl_Bridge_decide.B9 = true := by kernel_rfl
set_option maxHeartbeats 60000000 in
set_option maxRecDepth 100000 in
theorem impl_Bridge_decide.calls (k : Nat) (cG : Int) (P0_1_ : Nat → Prop) (bY : Value) (aK : List (S79)) (r : List (S79)) (w0 w : World) (gb : Nat) (hBK : w.heap[gb]? = some (.cells #[cG, bY] 28 (0, 0))) (hgb : ¬ P0_1_ gb) (hB : Below w0.heap.size w0 w) (ho0_1 : Kd.R k79 79 w w0.heap.size P0_1_ bY aK) (h : impl_Bridge_decide.f k cG aK = some r) :
  Calls Try.prog 72 #[.pointer (some ⟨gb, 0, none⟩)] w fun e w' => e = .returned (.tuple #[]) ∧ Kd.R k79 79 w' w0.heap.size (fun k_ => (P0_1_ k_ ∨ w.heap.size ≤ k_)) bY r ∧ Below w0.heap.size w0 w' ∧ Kept w w' (fun k_ => P0_1_ k_) := by
 have lT := Try.underlying28
 have lU := Try.underlying79
 have lV := Try.underlying73
 have bM := aM (show Kd.R k79 79 w w0.heap.size (fun k_ => (P0_1_ k_ ∨ w.heap.size ≤ k_)) bY aK from Kd.R_mono ho0_1 (fun k_ hk => (.inl hk)))
 have HK := aM (Kept.refl w (fun k_ => P0_1_ k_))
 have HW0 := aM hB.size
 have HB := aM hB
 have HGB := aM hgb
 clear hgb
 clear hB
 have H : ((impl_Bridge_rootPort.f k cG aK).bind fun aN => (impl_Bridge_decide.l0 k aN (aK.length : Int) 0 cG aK)) = some r := h
 clear h
 obtain ⟨aN, hD, H⟩ := hB H
 have A2 := aM hD
 clear hD
 have H' := aM H
 clear H
 obtain ⟨hH, bK, iE⟩ := Kd.R_slice bM.out
 subst iE
 go_enter Try.func72, Try.ntmps72
 have aG := aM hBK
 clear hBK
 have lW := cA2 aG.out
 go_wp2_with (first | ((with_reducible refine gC (f := 118) rfl ?_); refine gL (some 6) Try.func118 #[.pointer (some ⟨gb, 0, none⟩)] ?_; (with_reducible refine (impl_Bridge_rootPort.calls (gb := gb) (hBK := (bk aG.out)) k cG _ _ aK aN _ ?side1 ?side2 A2.out).mono ?_); (case side1 => exact cM ((Kd.R_reads' bM.out).2.2)); (case side2 => exact (Kd.R_reads' bM.out).2.1); rintro e w6 ⟨rfl, hb⟩; refine ⟨_, rfl, ?_⟩; replace bM := rK bM hb; replace aG := rB aG hb; replace HK := aM (Kept.below (S := (fun k_ => P0_1_ k_)) (kk HK.out) hb); replace HB := rS HB hb; (try clear hb); have lX := cA2 aG.out))
 go_loopg [12] k (fun kq iF w' => ∃ (aC : Int) (aI : Int) (aA : List (S79)), iF = .int .i64 aC ∧ Aside0 (impl_Bridge_decide.l0 kq aN (aK.length : Int) aC aI aA = some r) ∧ Aside0 (kq ≤ k) ∧ Aside0 (Kd.R k79 79 w' w0.heap.size (fun k_ => (P0_1_ k_ ∨ w.heap.size ≤ k_)) (.slice hH aK.length bK) aA) ∧ Aside0 (w'.heap[gb]? = some (.cells #[aI, (.slice hH aK.length bK)] 28 (0, 0))) ∧ Aside0 (Kept w w' (fun k_ => P0_1_ k_)) ∧ Aside0 (Below w0.heap.size w0 w'))
 case atStart => exact ⟨(0), (cG), (aK), xE, H', ⟨Nat.le_refl _⟩, ⟨kr bM.out⟩, ⟨bk aG.out⟩, ⟨kk HK.out⟩, ⟨bl HB.out⟩⟩
 case round =>
  clear H'
  repeat first|clear c1|clear p2|clear c7
  obtain ⟨aC, aI, aA, rfl, HA, bX, aE, aG, HK, HB⟩ := hrel
  have hl760001_1 := (Kd.R_reads' aE.out).1
  rw [hl760001_1] at aE
  (try simp only [hl760001_1])
  (try simp only [hl760001_1] at aG)
  cases gk with
  | zero => exact absurd HA.out (by simp [impl_Bridge_decide.l0])
  | succ k1 =>
   have H := HA.out
   clear HA
   simp only [impl_Bridge_decide.l0] at H
   by_cases c8 : aC < (aK.length : Int)
   case neg =>
    rw [if_neg c8] at H
    have eD := decide_eq_false c8
    (try rw [hl760001_1] at eD)
    clear c8
    obtain rfl := Option.some.inj H
    go_wp2
    first | go_end0 | ((try simp only [Exit.inBlock, Exit.then]); refine bodyPost_ret (results_none rfl _ _ _) rfl ?_)
    exact ⟨xW, (by first | exact (kr aE.out) | (simp only [hl760001_1]; exact (kr aE.out))), bl HB.out, kk HK.out⟩
   rw [if_pos c8] at H
   have eD := decide_eq_true c8
   clear c8
   obtain ⟨hJ, H⟩ := gI H
   obtain ⟨gQ, H⟩ := gI H
   obtain ⟨cN, hbq11⟩ : ∃ b_ : Bool, b_ = ((rd_T79 aA aC).f0) := ⟨_, rfl⟩
   replace H : (if (cN = true) then (if aC = aN then ((impl_Turn.f k1 (cN) ((rd_T79 aA aC).f1) ((rd_T79 aA aC).f2.f0) ((rd_T79 aA aC).f2.f1) ((rd_T79 aA aC).f2.f2) ((rd_T79 aA aC).f2.f3) ((rd_T79 aA aC).f3) ((rd_T79 aA aC).f4) ((rd_T79 aA aC).f5) ((rd_T79 aA aC).f6) ((rd_T79 aA aC).f7) 1).bind fun aW => (impl_Bridge_decide.l0 k1 aN (aK.length : Int) (wS aC) aI (aA.set (aC : Int).toNat (⟨aW.1, aW.2.1, (⟨aW.2.2.1, aW.2.2.2.1, aW.2.2.2.2.1, aW.2.2.2.2.2.1⟩ : S73), aW.2.2.2.2.2.2.1, aW.2.2.2.2.2.2.2.1, aW.2.2.2.2.2.2.2.2.1, aW.2.2.2.2.2.2.2.2.2.1, aW.2.2.2.2.2.2.2.2.2.2⟩ : S79)))) else (if (rd_T79 aA aC).f1 = true then ((impl_Bridge_own.f k1 aI aA aC).bind fun bJ => ((impl_Better.f k1 ((rd_T79 aA aC).f2.f0) ((rd_T79 aA aC).f2.f1) ((rd_T79 aA aC).f2.f2) ((rd_T79 aA aC).f2.f3) bJ.1 bJ.2.1 bJ.2.2.1 bJ.2.2.2).bind fun cH => (impl_Bridge_decide.j1 k1 aN aC (aK.length : Int) aC cH aI aA cN ((rd_T79 aA aC).f1) ((rd_T79 aA aC).f2.f0) ((rd_T79 aA aC).f2.f1) ((rd_T79 aA aC).f2.f2) ((rd_T79 aA aC).f2.f3) ((rd_T79 aA aC).f3) ((rd_T79 aA aC).f4) ((rd_T79 aA aC).f5) ((rd_T79 aA aC).f6) ((rd_T79 aA aC).f7)))) else (impl_Bridge_decide.j1 k1 aN aC (aK.length : Int) aC false aI aA cN ((rd_T79 aA aC).f1) ((rd_T79 aA aC).f2.f0) ((rd_T79 aA aC).f2.f1) ((rd_T79 aA aC).f2.f2) ((rd_T79 aA aC).f2.f3) ((rd_T79 aA aC).f3) ((rd_T79 aA aC).f4) ((rd_T79 aA aC).f5) ((rd_T79 aA aC).f6) ((rd_T79 aA aC).f7)))) else (impl_Bridge_decide.l0 k1 aN (aK.length : Int) (wS aC) aI aA)) = some r := by rw [← hbq11] at H; exact H
   have aQ := aM hbq11
   clear hbq11
   by_cases dZ : (cN = true)
   case neg =>
    replace dZ := Bool.eq_false_iff.mpr dZ
    subst dZ
    replace H := hF H
    have H' := aM H
    clear H
    have kZ := cA2 aG.out
    have bH : 0 ≤ (aC : Int) := dT
    have bI : aC < (aA.length : Int) := dT
    obtain ⟨aT, cO, aX, bA, bN, bO, bP, bQ, bT, bU, bV, bW, aV⟩ := at_T79 (Kd.R_reads' aE.out).2.2 aC bH bI
    (try rw [← aQ.out] at aX)
    (try rw [← aQ.out] at bA)
    (try rw [← aQ.out] at aV)
    cases cO
    replace bH := eq_true bH
    replace bI := eq_true bI
    go_wp2_with (first | ((with_reducible refine gD (N := 4) rfl ?_); refine bR aE (N := 4) (cs := #[.bool false, .bool false, .int .i64 0, .int .i64 0, .int .i64 0, .int .i64 0, .int .i64 0, .int .i64 0, .int .i64 0, .int .i64 0, .bool false]) (t := 79) ?_; intro aH hg mQ hbox hb; have aD := aM (hbox); have bZ := gE hg (kk HK.out).1; have eM := gF hg HB; have bD := nM hg aG; have bG := nH hg aG; replace aE := aM (kB (Kd.R_elderB (kr aE.out) aH (Nat.le_of_eq hg.symm)) hb); replace aG := rB aG hb; replace HK := aM (Kept.below (S := (fun k_ => P0_1_ k_)) (kk HK.out) hb); replace HB := rS HB hb; clear hb hbox hg; have lA := bG.out; have lC := bD.out; have lD := cA11 aD.out))
    (try simp only [← hl760001_1])
    go_roundg k1
    case measure => have := bX.out; omega
    case rel => (try rw [← aQ.out]); (try rw [← bL.out]); exact ⟨(wS aC), (aI), (aA), xE, H', ⟨by have := bX.out; omega⟩, ⟨by (try simp only [hl760001_1]); (with_reducible repeat (first | apply Kd.R_alloc | apply Kd.R_drewN | apply Kd.R_drew)); exact Kd.R_mono (kF (p := ⟨aH, 10, none⟩) (kF (p := ⟨aH, 9, none⟩) (kF (p := ⟨aH, 8, none⟩) (kF (p := ⟨aH, 7, none⟩) (kF (p := ⟨aH, 6, none⟩) (kF (p := ⟨aH, 5, none⟩) (kF (p := ⟨aH, 4, none⟩) (kF (p := ⟨aH, 3, none⟩) (kF (p := ⟨aH, 2, none⟩) (kF (p := ⟨aH, 1, none⟩) (kF (p := ⟨aH, 0, none⟩) (Kd.R_mono aE.out (fun k_ hk => (⟨hk, hk.2⟩ : _ ∧ k_ ≠ aH))) (fun _ hk => hk.2) (.bool false)) (fun _ hk => hk.2) (.bool ((rd_T79 aA aC).f1))) (fun _ hk => hk.2) (.int .i64 ((rd_T79 aA aC).f2.f0))) (fun _ hk => hk.2) (.int .i64 ((rd_T79 aA aC).f2.f1))) (fun _ hk => hk.2) (.int .i64 ((rd_T79 aA aC).f2.f2))) (fun _ hk => hk.2) (.int .i64 ((rd_T79 aA aC).f2.f3))) (fun _ hk => hk.2) (.int .i64 ((rd_T79 aA aC).f3))) (fun _ hk => hk.2) (.int .i64 ((rd_T79 aA aC).f4))) (fun _ hk => hk.2) (.int .i64 ((rd_T79 aA aC).f5))) (fun _ hk => hk.2) (.int .i64 ((rd_T79 aA aC).f6))) (fun _ hk => hk.2) (.bool ((rd_T79 aA aC).f7))) (fun _ hk => hk.1.1)⟩, ⟨by (try simp only [hl760001_1]); exact fm aG.out⟩, ⟨kk HK.out⟩, ⟨bl HB.out⟩⟩
   subst dZ
   replace H := hP H rfl
   by_cases cL : aC = aN
   case pos =>
    rw [if_pos cL] at H
    have eN : (aC == aN) = true := beq_iff_eq.mpr cL
    have eO : (aC != aN) = false := bne_eq_false_iff_eq.mpr cL
    clear cL
    obtain ⟨⟨cP, cQ, cR, cS, cT, cU, cV, cW, cX, cY, dA⟩, fD, H⟩ := hB H
    try dsimp only at H
    have iG := aM fD
    clear fD
    obtain ⟨fE, cA⟩ : ∃ y_ : List (S79), y_ = (aA.set (aC : Int).toNat (⟨cP, cQ, (⟨cR, cS, cT, cU⟩ : S73), cV, cW, cX, cY, dA⟩ : S79)) := ⟨_, rfl⟩
    replace H : (impl_Bridge_decide.l0 k1 aN (aK.length : Int) (wS aC) aI fE) = some r := by first | (rw [cA]; with_reducible exact H) | (have H2_ := (Option.bind_some _ _).symm.trans H; rw [cA]; with_reducible exact H2_) | (have H2_ := (Option.bind_some _ _).symm.trans H; with_reducible exact H2_) | with_reducible exact H | (rw [cA]; exact H) | exact H
    have gR := aM cA
    clear cA
    have H' := aM H
    clear H
    have lE := cA2 aG.out
    have bH : 0 ≤ (aC : Int) := dT
    have bI : aC < (aA.length : Int) := dT
    obtain ⟨aT, cO, aX, bA, bN, bO, bP, bQ, bT, bU, bV, bW, aV⟩ := at_T79 (Kd.R_reads' aE.out).2.2 aC bH bI
    (try rw [← aQ.out] at aX)
    (try rw [← aQ.out] at bA)
    (try rw [← aQ.out] at aV)
    cases cO
    replace bH := eq_true bH
    replace bI := eq_true bI
    try go_wp2_with (first | ((with_reducible refine gD (N := 4) rfl ?_); refine bR aE (N := 4) (cs := #[.bool false, .bool false, .int .i64 0, .int .i64 0, .int .i64 0, .int .i64 0, .int .i64 0, .int .i64 0, .int .i64 0, .int .i64 0, .bool false]) (t := 79) ?_; intro aH hg mR hbox hb; have aD := aM (hbox); have bZ := gE hg (kk HK.out).1; have eM := gF hg HB; have bD := nM hg aG; have bG := nH hg aG; replace aE := aM (kB (Kd.R_elderB (kr aE.out) aH (Nat.le_of_eq hg.symm)) hb); replace aG := rB aG hb; replace HK := aM (Kept.below (S := (fun k_ => P0_1_ k_)) (kk HK.out) hb); replace HB := rS HB hb; clear hb hbox hg; have lF := bG.out; have lG := bD.out; have lH := cA11 aD.out))
    refine nW (fun W => Aside0 (Kd.R k79 79 W w0.heap.size (fun k_ => (P0_1_ k_ ∨ w.heap.size ≤ k_) ∧ k_ ≠ aH) (.slice (some aT) aA.length bK) aA) ∧ Aside0 (W.heap[gb]? = some (.cells #[aI, .slice (some aT) aA.length bK] 28 (0, 0))) ∧ Aside0 (W.heap[aH]? = some (.cells #[.bool true, ((rd_T79 aA aC).f1), ((rd_T79 aA aC).f2.f0), ((rd_T79 aA aC).f2.f1), ((rd_T79 aA aC).f2.f2), ((rd_T79 aA aC).f2.f3), ((rd_T79 aA aC).f3), ((rd_T79 aA aC).f4), ((rd_T79 aA aC).f5), ((rd_T79 aA aC).f6), ((rd_T79 aA aC).f7)] 79 (0, 0))) ∧ Aside0 (Kept w W (fun k_ => P0_1_ k_)) ∧ Aside0 (Below w0.heap.size w0 W)) ⟨⟨kr (Kd.R_mono (kF (p := ⟨aH, 10, none⟩) (kF (p := ⟨aH, 9, none⟩) (kF (p := ⟨aH, 8, none⟩) (kF (p := ⟨aH, 7, none⟩) (kF (p := ⟨aH, 6, none⟩) (kF (p := ⟨aH, 5, none⟩) (kF (p := ⟨aH, 4, none⟩) (kF (p := ⟨aH, 3, none⟩) (kF (p := ⟨aH, 2, none⟩) (kF (p := ⟨aH, 1, none⟩) (kF (p := ⟨aH, 0, none⟩) (Kd.R_mono aE.out (fun k_ hk => (⟨hk, hk.2⟩ : _ ∧ k_ ≠ aH))) (fun _ hk => hk.2) (.bool true)) (fun _ hk => hk.2) (.bool ((rd_T79 aA aC).f1))) (fun _ hk => hk.2) (.int .i64 ((rd_T79 aA aC).f2.f0))) (fun _ hk => hk.2) (.int .i64 ((rd_T79 aA aC).f2.f1))) (fun _ hk => hk.2) (.int .i64 ((rd_T79 aA aC).f2.f2))) (fun _ hk => hk.2) (.int .i64 ((rd_T79 aA aC).f2.f3))) (fun _ hk => hk.2) (.int .i64 ((rd_T79 aA aC).f3))) (fun _ hk => hk.2) (.int .i64 ((rd_T79 aA aC).f4))) (fun _ hk => hk.2) (.int .i64 ((rd_T79 aA aC).f5))) (fun _ hk => hk.2) (.int .i64 ((rd_T79 aA aC).f6))) (fun _ hk => hk.2) (.bool ((rd_T79 aA aC).f7))) (fun _ hk => ⟨hk.1.1, hk.1.2⟩))⟩, ⟨fm aG.out⟩, ⟨bm aD.out⟩, ⟨kk HK.out⟩, ⟨bl HB.out⟩⟩ ?_
    intro iH nn_
    replace aE := nn_.1
    replace aG := nn_.2.1
    replace aD := nn_.2.2.1
    replace HK := nn_.2.2.2.1
    replace HB := nn_.2.2.2.2
    clear nn_
    replace aE := aM (Kd.R_drew aE.out)
    replace aG := aM (blk_drew aG.out)
    replace aD := aM (blk_drew aD.out)
    replace HK := aM (Kept.drew HK.out)
    replace HB := aM (below_drew1 HB.out)
    refine start_ (n := 9) (S := fun w' => cT2 w' gb (.int .i64 aI) (.slice (some aT) aA.length bK) (cS11 w' aH (.bool true) (.bool ((rd_T79 aA aC).f1)) (.int .i64 ((rd_T79 aA aC).f2.f0)) (.int .i64 ((rd_T79 aA aC).f2.f1)) (.int .i64 ((rd_T79 aA aC).f2.f2)) (.int .i64 ((rd_T79 aA aC).f2.f3)) (.int .i64 ((rd_T79 aA aC).f3)) (.int .i64 ((rd_T79 aA aC).f4)) (.int .i64 ((rd_T79 aA aC).f5)) (.int .i64 ((rd_T79 aA aC).f6)) (.bool ((rd_T79 aA aC).f7)))) (ds := [8]) (dn 9 0) (by kernel_rfl) rfl rfl ⟨cI aG.out 0, cI aG.out 1, cI aD.out 0, cI aD.out 1, cI aD.out 2, cI aD.out 3, cI aD.out 4, cI aD.out 5, cI aD.out 6, cI aD.out 7, cI aD.out 8, cI aD.out 9, cI aD.out 10⟩ (fun hHeld => ?_); refine with_tabW impl_Bridge_decide.tab7 impl_Bridge_decide.bits7 (fun HT_ HW_ => ?_)
    generalize iH.drew = mS at aE aG aD HK HB hHeld ⊢
    refine nY (N := some 33) HT_ ?_
    refine nY (N := some 34) HT_ ?_
    refine nY (N := some 35) HT_ ?_
    refine pZ 4 37 (bv 9 23) HT_ ?_
    refine aZ 3 36 (bv 9 31) HT_ HW_ hHeld ?_
    refine aZ 5 38 (bv 9 63) HT_ HW_ hHeld ?_
    refine one_ (i := 6) (N := some 39) (bv 9 127) rfl rfl (one_of HT_.out (by kernel_rfl)) (by decide) (fun K hK => ?_)
    refine goes_ Try.func145 (by kernel_rfl) rfl #[.agg #[.bool true, ((rd_T79 aA aC).f1), ((rd_T79 aA aC).f2.f0), ((rd_T79 aA aC).f2.f1), ((rd_T79 aA aC).f2.f2), ((rd_T79 aA aC).f2.f3), ((rd_T79 aA aC).f3), ((rd_T79 aA aC).f4), ((rd_T79 aA aC).f5), ((rd_T79 aA aC).f6), ((rd_T79 aA aC).f7)], .int .i64 1] (by rfl) rfl rfl xR ?_
    with_reducible refine (impl_Turn.calls k1 true ((rd_T79 aA aC).f1) ((rd_T79 aA aC).f2.f0) ((rd_T79 aA aC).f2.f1) ((rd_T79 aA aC).f2.f2) ((rd_T79 aA aC).f2.f3) ((rd_T79 aA aC).f3) ((rd_T79 aA aC).f4) ((rd_T79 aA aC).f5) ((rd_T79 aA aC).f6) ((rd_T79 aA aC).f7) 1 cP cQ cR cS cT cU cV cW cX cY dA _ iG.out).mono ?_
    rintro e mT ⟨rfl, hb⟩
    refine ⟨_, rfl, ?_⟩
    replace aE := rK aE hb
    replace aG := rB aG hb
    replace aD := rB aD hb
    replace HK := aM (Kept.below (S := (fun k_ => P0_1_ k_)) (kk HK.out) hb)
    replace HB := rS HB hb
    (try clear hb)
    (try clear hb2)
    (try clear hk)
    (try clear hi)
    have eA : 0 ≤ (aC : Int) := dT
    have eB : (aC : Int) < ((aA.length : Int) : Int) := dT
    obtain ⟨fF, lY, fG, fH, hO, lZ, fI⟩ := Kd.R_form aE.out (by omega)
    (first | cases fG | (injection fG with ea_ en_ ec_; (first | subst ea_ | (injection ea_ with ea_; subst ea_)); subst ec_; clear en_))
    have mA := aM fH
    have mB := aM fI
    clear fH hO fI
    have HMgo15 := aM (show (P0_1_ fF ∨ w.heap.size ≤ fF) from (aE.out.1 _ rfl).1)
    (first | simp only [add_plain] at aX | skip)
    (first | simp only [add_plain] at bA | skip)
    (first | simp only [add_plain] at bN | skip)
    (first | simp only [add_plain] at bO | skip)
    (first | simp only [add_plain] at bP | skip)
    (first | simp only [add_plain] at bQ | skip)
    (first | simp only [add_plain] at bT | skip)
    (first | simp only [add_plain] at bU | skip)
    (first | simp only [add_plain] at bV | skip)
    (first | simp only [add_plain] at bW | skip)
    (first | simp only [add_plain] at aV | skip)
    obtain ⟨mC, gS, fK, eP, eQ⟩ := Kd.R_elem aE.out z79 (aC : Int) eA eB
    obtain rfl := k79_openM fK
    obtain ⟨iI, iJ, iK, iL, iM, iN, iO, iP, iQ, iR, hY, iS, iT, iU, iV, iW, iX, iY, iZ, jA, jB, hZ⟩ := eS79 (rd_T79 aA aC) eP eQ
    clear gS eP eQ fK
    replace eA := eq_true eA
    replace eB := eq_true eB
    obtain ⟨mD, eR, fL, eS, gT⟩ := Kd.R_elem aE.out z79 (aC : Int) (dT) dT
    obtain rfl := k79_openM fL
    have eE := (Kd.R_seg aE.out (aC : Int) (dT) dT (seg := [.bool cP, .bool cQ, .int .i64 cR, .int .i64 cS, .int .i64 cT, .int .i64 cU, .int .i64 cV, .int .i64 cW, .int .i64 cX, .int .i64 cY, .bool dA]) (j := 0) eR eS (show 11 ≤ 11 from by decide) (x' := (⟨cP, cQ, (⟨cR, cS, cT, cU⟩ : S73), cV, cW, cX, cY, dA⟩ : S79)) (k79_mkM _ _ _ _) (fun _ hk => hk)).1
    rw [← gR.out] at eE
    have HQ23 := aM eE
    clear eR eS gT fL eE
    refine hK.out _ _ ⟨cI aG.out 0, cI aG.out 1, cI aD.out 0, cI aD.out 1, cI aD.out 2, cI aD.out 3, cI aD.out 4, cI aD.out 5, cI aD.out 6, cI aD.out 7, cI aD.out 8, cI aD.out 9, cI aD.out 10⟩ (fun hHeld => ?_)
    clear hK K
    refine norm_ (a' := ?_) ?_ ?_
    rotate_left
    ·show Act.put _ (some 39) _ = _
     simp only [Act.put, sA, sZ, sS, i64_w, i32_w]
     rfl
    refine pZ 7 40 (bv 9 255) HT_ ?_
    refine last_ (i := 8) (N := none) (bv 9 511) rfl rfl (one_of HT_.out (by kernel_rfl)) (by decide) (fun K hK => ?_)
    refine skip_ (w1 := ?_) (by rfl) rfl ?_ ?_
    rotate_left
    ·go_simp
     rfl
    refine hK.out _ _ ?_
    clear hK K
    refine done_ (done_of HT_.out (by kernel_rfl)) ?_
    try go_wp2
    (try simp only [← hl760001_1])
    go_roundg k1
    case measure => have := bX.out; omega
    case rel => (try rw [← aQ.out]); (try rw [← bL.out]); exact ⟨(wS aC), (aI), (fE), xE, H', ⟨by have := bX.out; omega⟩, ⟨by (try simp only [hl760001_1]); (with_reducible repeat (first | apply Kd.R_alloc | apply Kd.R_drewN | apply Kd.R_drew)); exact Kd.R_mono HQ23.out (fun _ hk => hk.1)⟩, ⟨by (try simp only [hl760001_1]); exact fR aE.out aG.out⟩, ⟨by repeat (first | (with_reducible first | exact HK.out | apply Kept.alloc | apply Kept.drewN | apply Kept.drew | refine Kept.setCell ?_ HMgo15.out _ | refine Kept.setCell ?_ HMgo15.out _ | refine Kept.setCell ?_ HMgo15.out _ | refine Kept.setCell ?_ HMgo15.out _ | refine Kept.setCell ?_ HMgo15.out _ | refine Kept.setCell ?_ HMgo15.out _ | refine Kept.setCell ?_ HMgo15.out _ | refine Kept.setCell ?_ HMgo15.out _ | refine Kept.setCell ?_ HMgo15.out _ | refine Kept.setCell ?_ HMgo15.out _ | refine Kept.setCell ?_ HMgo15.out _ | refine Kept.setCell ?_ (.inr eT.out) _ | refine Kept.setCell ?_ (.inr bZ.out) _) | exact HK.out)⟩, ⟨bl HB.out⟩⟩
   rw [if_neg cL] at H
   have eN : (aC == aN) = false := beq_eq_false_iff_ne.mpr cL
   have eO : (aC != aN) = true := bne_iff_ne.mpr cL
   have eF := aM H
   clear H
   have lJ := cA2 aG.out
   have bH : 0 ≤ (aC : Int) := dT
   have bI : aC < (aA.length : Int) := dT
   obtain ⟨aT, cO, aX, bA, bN, bO, bP, bQ, bT, bU, bV, bW, aV⟩ := at_T79 (Kd.R_reads' aE.out).2.2 aC bH bI
   (try rw [← aQ.out] at aX)
   (try rw [← aQ.out] at bA)
   (try rw [← aQ.out] at aV)
   cases cO
   replace bH := eq_true bH
   replace bI := eq_true bI
   go_upto_region 8 with (first | ((with_reducible refine gD (N := 4) rfl ?_); refine bR aE (N := 4) (cs := #[.bool false, .bool false, .int .i64 0, .int .i64 0, .int .i64 0, .int .i64 0, .int .i64 0, .int .i64 0, .int .i64 0, .int .i64 0, .bool false]) (t := 79) ?_; intro aH hg mU hbox hb; have aD := aM (hbox); have bZ := gE hg (kk HK.out).1; have eM := gF hg HB; have bD := nM hg aG; have bG := nH hg aG; replace aE := aM (kB (Kd.R_elderB (kr aE.out) aH (Nat.le_of_eq hg.symm)) hb); replace aG := rB aG hb; replace HK := aM (Kept.below (S := (fun k_ => P0_1_ k_)) (kk HK.out) hb); replace HB := rS HB hb; clear hb hbox hg; have lK := bG.out; have lL := bD.out; have lM := cA11 aD.out))
   (try simp only [Act.put, sA, sZ, sS])
   go_cut [41] (fun jC wc => ∃ (kq : Nat) (cC : Bool) (aJ : Int), jC = .bool cC ∧ Aside0 (impl_Bridge_decide.j1 kq aN aC (aK.length : Int) aC cC aJ aA true ((rd_T79 aA aC).f1) ((rd_T79 aA aC).f2.f0) ((rd_T79 aA aC).f2.f1) ((rd_T79 aA aC).f2.f2) ((rd_T79 aA aC).f2.f3) ((rd_T79 aA aC).f3) ((rd_T79 aA aC).f4) ((rd_T79 aA aC).f5) ((rd_T79 aA aC).f6) ((rd_T79 aA aC).f7) = some r) ∧ Aside0 (kq ≤ k1) ∧ Aside0 (Kd.R k79 79 wc w0.heap.size (fun k_ => (P0_1_ k_ ∨ w.heap.size ≤ k_) ∧ k_ ≠ aH) (.slice (some aT) aA.length bK) aA) ∧ Aside0 (wc.heap[gb]? = some (.cells #[aJ, (.slice (some aT) aA.length bK)] 28 (0, 0))) ∧ Aside0 (wc.heap[aH]? = some (.cells #[.bool true, ((rd_T79 aA aC).f1), ((rd_T79 aA aC).f2.f0), ((rd_T79 aA aC).f2.f1), ((rd_T79 aA aC).f2.f2), ((rd_T79 aA aC).f2.f3), ((rd_T79 aA aC).f3), ((rd_T79 aA aC).f4), ((rd_T79 aA aC).f5), ((rd_T79 aA aC).f6), ((rd_T79 aA aC).f7)] 79 (0, 0))) ∧ Aside0 (Kept w wc (fun k_ => P0_1_ k_)) ∧ Aside0 (Below w0.heap.size w0 wc))
   case first =>
    have H := eF.out
    clear eF
    obtain ⟨dB, hbq29⟩ : ∃ b_ : Bool, b_ = ((rd_T79 aA aC).f1) := ⟨_, rfl⟩
    replace H : (if dB = true then ((impl_Bridge_own.f k1 aI aA aC).bind fun bJ => ((impl_Better.f k1 ((rd_T79 aA aC).f2.f0) ((rd_T79 aA aC).f2.f1) ((rd_T79 aA aC).f2.f2) ((rd_T79 aA aC).f2.f3) bJ.1 bJ.2.1 bJ.2.2.1 bJ.2.2.2).bind fun cH => (impl_Bridge_decide.j1 k1 aN aC (aK.length : Int) aC cH aI aA true dB ((rd_T79 aA aC).f2.f0) ((rd_T79 aA aC).f2.f1) ((rd_T79 aA aC).f2.f2) ((rd_T79 aA aC).f2.f3) ((rd_T79 aA aC).f3) ((rd_T79 aA aC).f4) ((rd_T79 aA aC).f5) ((rd_T79 aA aC).f6) ((rd_T79 aA aC).f7)))) else (impl_Bridge_decide.j1 k1 aN aC (aK.length : Int) aC false aI aA true dB ((rd_T79 aA aC).f2.f0) ((rd_T79 aA aC).f2.f1) ((rd_T79 aA aC).f2.f2) ((rd_T79 aA aC).f2.f3) ((rd_T79 aA aC).f3) ((rd_T79 aA aC).f4) ((rd_T79 aA aC).f5) ((rd_T79 aA aC).f6) ((rd_T79 aA aC).f7))) = some r := by rw [← hbq29] at H; exact H
    have bL := aM hbq29
    clear hbq29
    (try rw [← bL.out])
    by_cases eC : dB = true
    case neg =>
     replace eC := Bool.eq_false_iff.mpr eC
     subst eC
     replace H := hF H
     have H' := aM H
     clear H
     try go_wp2
     refine nW (fun W => Aside0 (Kd.R k79 79 W w0.heap.size (fun k_ => (P0_1_ k_ ∨ w.heap.size ≤ k_) ∧ k_ ≠ aH) (.slice (some aT) aA.length bK) aA) ∧ Aside0 (W.heap[gb]? = some (.cells #[aI, .slice (some aT) aA.length bK] 28 (0, 0))) ∧ Aside0 (W.heap[aH]? = some (.cells #[.bool true, .bool false, ((rd_T79 aA aC).f2.f0), ((rd_T79 aA aC).f2.f1), ((rd_T79 aA aC).f2.f2), ((rd_T79 aA aC).f2.f3), ((rd_T79 aA aC).f3), ((rd_T79 aA aC).f4), ((rd_T79 aA aC).f5), ((rd_T79 aA aC).f6), ((rd_T79 aA aC).f7)] 79 (0, 0))) ∧ Aside0 (Kept w W (fun k_ => P0_1_ k_)) ∧ Aside0 (Below w0.heap.size w0 W)) ⟨⟨kr (Kd.R_mono (kF (p := ⟨aH, 10, none⟩) (kF (p := ⟨aH, 9, none⟩) (kF (p := ⟨aH, 8, none⟩) (kF (p := ⟨aH, 7, none⟩) (kF (p := ⟨aH, 6, none⟩) (kF (p := ⟨aH, 5, none⟩) (kF (p := ⟨aH, 4, none⟩) (kF (p := ⟨aH, 3, none⟩) (kF (p := ⟨aH, 2, none⟩) (kF (p := ⟨aH, 1, none⟩) (kF (p := ⟨aH, 0, none⟩) (Kd.R_mono aE.out (fun k_ hk => (⟨hk, hk.2⟩ : _ ∧ k_ ≠ aH))) (fun _ hk => hk.2) (.bool true)) (fun _ hk => hk.2) (.bool (false))) (fun _ hk => hk.2) (.int .i64 ((rd_T79 aA aC).f2.f0))) (fun _ hk => hk.2) (.int .i64 ((rd_T79 aA aC).f2.f1))) (fun _ hk => hk.2) (.int .i64 ((rd_T79 aA aC).f2.f2))) (fun _ hk => hk.2) (.int .i64 ((rd_T79 aA aC).f2.f3))) (fun _ hk => hk.2) (.int .i64 ((rd_T79 aA aC).f3))) (fun _ hk => hk.2) (.int .i64 ((rd_T79 aA aC).f4))) (fun _ hk => hk.2) (.int .i64 ((rd_T79 aA aC).f5))) (fun _ hk => hk.2) (.int .i64 ((rd_T79 aA aC).f6))) (fun _ hk => hk.2) (.bool ((rd_T79 aA aC).f7))) (fun _ hk => ⟨hk.1.1, hk.1.2⟩))⟩, ⟨fm aG.out⟩, ⟨bm aD.out⟩, ⟨kk HK.out⟩, ⟨bl HB.out⟩⟩ ?_
     intro jD nn_
     replace aE := nn_.1
     replace aG := nn_.2.1
     replace aD := nn_.2.2.1
     replace HK := nn_.2.2.2.1
     replace HB := nn_.2.2.2.2
     clear nn_
     replace aE := aM (Kd.R_drew aE.out)
     replace aG := aM (blk_drew aG.out)
     replace aD := aM (blk_drew aD.out)
     replace HK := aM (Kept.drew HK.out)
     replace HB := aM (below_drew1 HB.out)
     refine start_ (n := 11) (S := fun w' => cS11 w' aH (.bool true) (.bool false) (.int .i64 ((rd_T79 aA aC).f2.f0)) (.int .i64 ((rd_T79 aA aC).f2.f1)) (.int .i64 ((rd_T79 aA aC).f2.f2)) (.int .i64 ((rd_T79 aA aC).f2.f3)) (.int .i64 ((rd_T79 aA aC).f3)) (.int .i64 ((rd_T79 aA aC).f4)) (.int .i64 ((rd_T79 aA aC).f5)) (.int .i64 ((rd_T79 aA aC).f6)) (.bool ((rd_T79 aA aC).f7))) (ds := []) (dn 11 0) (by kernel_rfl) rfl rfl ⟨cI aD.out 0, cI aD.out 1, cI aD.out 2, cI aD.out 3, cI aD.out 4, cI aD.out 5, cI aD.out 6, cI aD.out 7, cI aD.out 8, cI aD.out 9, cI aD.out 10⟩ (fun hHeld => ?_); refine with_tabW impl_Bridge_decide.tab8 impl_Bridge_decide.bits8 (fun HT_ HW_ => ?_)
     generalize jD.drew = mV at aE aG aD HK HB hHeld ⊢
     refine nY (N := some 42) HT_ ?_
     refine tY (N := some 43) HT_ HW_ hHeld ?_
     refine nY (N := some 44) HT_ ?_
     refine nU (N := some 45) HT_ ?_
     refine nU (N := some 46) HT_ ?_
     refine nU (N := some 47) HT_ ?_
     refine nU (N := some 48) HT_ ?_
     refine nU (N := some 49) HT_ ?_
     refine nU (N := some 50) HT_ ?_
     refine nY (N := some 51) HT_ ?_
     refine nY (N := some 41) HT_ ?_
     refine done_ (done_of HT_.out (by kernel_rfl)) ?_
     try go_wp2
     go_meet
     case rel => (try rw [← aQ.out]); (try rw [← bL.out]); exact ⟨_, (false), (aI), xE, H', ⟨by have := bX.out; first | omega | exact Nat.le_refl _⟩, ⟨by (try simp only [hl760001_1]); (with_reducible repeat (first | apply Kd.R_alloc | apply Kd.R_drewN | apply Kd.R_drew)); exact aE.out⟩, ⟨by (try simp only [hl760001_1]); exact bk aG.out⟩, ⟨by (try simp only [hl760001_1]); exact bk aD.out⟩, ⟨kk HK.out⟩, ⟨bl HB.out⟩⟩
    subst eC
    replace H := hP H rfl
    obtain ⟨⟨eG, eH, eI, eJ⟩, fM, H⟩ := hB H
    try dsimp only at H
    have jE := aM fM
    clear fM
    obtain ⟨cH, fN, H⟩ := hB H
    have jF := aM fN
    clear fN
    have H' := aM H
    clear H
    try go_wp2
    refine nW (fun W => Aside0 (Kd.R k79 79 W w0.heap.size (fun k_ => (P0_1_ k_ ∨ w.heap.size ≤ k_) ∧ k_ ≠ aH) (.slice (some aT) aA.length bK) aA) ∧ Aside0 (W.heap[gb]? = some (.cells #[aI, .slice (some aT) aA.length bK] 28 (0, 0))) ∧ Aside0 (W.heap[aH]? = some (.cells #[.bool true, .bool true, ((rd_T79 aA aC).f2.f0), ((rd_T79 aA aC).f2.f1), ((rd_T79 aA aC).f2.f2), ((rd_T79 aA aC).f2.f3), ((rd_T79 aA aC).f3), ((rd_T79 aA aC).f4), ((rd_T79 aA aC).f5), ((rd_T79 aA aC).f6), ((rd_T79 aA aC).f7)] 79 (0, 0))) ∧ Aside0 (Kept w W (fun k_ => P0_1_ k_)) ∧ Aside0 (Below w0.heap.size w0 W)) ⟨⟨kr (Kd.R_mono (kF (p := ⟨aH, 10, none⟩) (kF (p := ⟨aH, 9, none⟩) (kF (p := ⟨aH, 8, none⟩) (kF (p := ⟨aH, 7, none⟩) (kF (p := ⟨aH, 6, none⟩) (kF (p := ⟨aH, 5, none⟩) (kF (p := ⟨aH, 4, none⟩) (kF (p := ⟨aH, 3, none⟩) (kF (p := ⟨aH, 2, none⟩) (kF (p := ⟨aH, 1, none⟩) (kF (p := ⟨aH, 0, none⟩) (Kd.R_mono aE.out (fun k_ hk => (⟨hk, hk.2⟩ : _ ∧ k_ ≠ aH))) (fun _ hk => hk.2) (.bool true)) (fun _ hk => hk.2) (.bool (true))) (fun _ hk => hk.2) (.int .i64 ((rd_T79 aA aC).f2.f0))) (fun _ hk => hk.2) (.int .i64 ((rd_T79 aA aC).f2.f1))) (fun _ hk => hk.2) (.int .i64 ((rd_T79 aA aC).f2.f2))) (fun _ hk => hk.2) (.int .i64 ((rd_T79 aA aC).f2.f3))) (fun _ hk => hk.2) (.int .i64 ((rd_T79 aA aC).f3))) (fun _ hk => hk.2) (.int .i64 ((rd_T79 aA aC).f4))) (fun _ hk => hk.2) (.int .i64 ((rd_T79 aA aC).f5))) (fun _ hk => hk.2) (.int .i64 ((rd_T79 aA aC).f6))) (fun _ hk => hk.2) (.bool ((rd_T79 aA aC).f7))) (fun _ hk => ⟨hk.1.1, hk.1.2⟩))⟩, ⟨fm aG.out⟩, ⟨bm aD.out⟩, ⟨kk HK.out⟩, ⟨bl HB.out⟩⟩ ?_
    intro jG nn_
    replace aE := nn_.1
    replace aG := nn_.2.1
    replace aD := nn_.2.2.1
    replace HK := nn_.2.2.2.1
    replace HB := nn_.2.2.2.2
    clear nn_
    replace aE := aM (Kd.R_drew aE.out)
    replace aG := aM (blk_drew aG.out)
    replace aD := aM (blk_drew aD.out)
    replace HK := aM (Kept.drew HK.out)
    replace HB := aM (below_drew1 HB.out)
    refine start_ (n := 11) (S := fun w' => cT11 w' aH (.bool true) (.bool true) (.int .i64 ((rd_T79 aA aC).f2.f0)) (.int .i64 ((rd_T79 aA aC).f2.f1)) (.int .i64 ((rd_T79 aA aC).f2.f2)) (.int .i64 ((rd_T79 aA aC).f2.f3)) (.int .i64 ((rd_T79 aA aC).f3)) (.int .i64 ((rd_T79 aA aC).f4)) (.int .i64 ((rd_T79 aA aC).f5)) (.int .i64 ((rd_T79 aA aC).f6)) (.bool ((rd_T79 aA aC).f7)) (cS2 w' gb (.int .i64 aI) (.slice (some aT) aA.length bK))) (ds := []) (dn 11 0) (by kernel_rfl) rfl rfl ⟨cI aD.out 0, cI aD.out 1, cI aD.out 2, cI aD.out 3, cI aD.out 4, cI aD.out 5, cI aD.out 6, cI aD.out 7, cI aD.out 8, cI aD.out 9, cI aD.out 10, cI aG.out 0, cI aG.out 1⟩ (fun hHeld => ?_); refine with_tabW impl_Bridge_decide.tab8 impl_Bridge_decide.bits8 (fun HT_ HW_ => ?_)
    generalize jG.drew = mW at aE aG aD HK HB hHeld ⊢
    refine nY (N := some 42) HT_ ?_
    refine tY (N := some 43) HT_ HW_ hHeld ?_
    refine nY (N := some 44) HT_ ?_
    refine nY (N := some 45) HT_ ?_
    refine pZ 6 48 (bv 11 79) HT_ ?_
    refine aZ 4 46 (bv 11 95) HT_ HW_ hHeld ?_
    refine aZ 5 47 (bv 11 127) HT_ HW_ hHeld ?_
    refine one_ (i := 7) (N := some 49) (bv 11 255) rfl rfl (one_of HT_.out (by kernel_rfl)) (by decide) (fun K hK => ?_)
    refine goes_ Try.func120 (by kernel_rfl) rfl #[.pointer (some ⟨gb, 0, none⟩), aC] (by rfl) rfl rfl xR ?_
    with_reducible refine (impl_Bridge_own.calls (gb := gb) (hBK := (bk aG.out)) k1 aI _ _ aA aC eG eH eI eJ _ ?side1 ?side2 jE.out).mono ?_
    (case side1 => exact cM ((Kd.R_reads' aE.out).2.2))
    (case side2 => exact (Kd.R_reads' aE.out).2.1)
    rintro e mX ⟨rfl, hb⟩
    refine ⟨_, rfl, ?_⟩
    replace aE := rK aE hb
    replace aG := rB aG hb
    replace aD := rB aD hb
    replace HK := aM (Kept.below (S := (fun k_ => P0_1_ k_)) (kk HK.out) hb)
    replace HB := rS HB hb
    (try clear hb)
    (try clear hb2)
    (try clear hk)
    (try clear hi)
    refine hK.out _ _ ⟨cI aD.out 0, cI aD.out 1, cI aD.out 2, cI aD.out 3, cI aD.out 4, cI aD.out 5, cI aD.out 6, cI aD.out 7, cI aD.out 8, cI aD.out 9, cI aD.out 10, cI aG.out 0, cI aG.out 1⟩ (fun hHeld => ?_)
    clear hK K
    refine norm_ (a' := ?_) ?_ ?_
    rotate_left
    ·show Act.put _ (some 49) _ = _
     simp only [Act.put, sA, sZ, sS, i64_w, i32_w]
     rfl
    refine one_ (i := 8) (N := some 50) (bv 11 511) rfl rfl (one_of HT_.out (by kernel_rfl)) (by decide) (fun K hK => ?_)
    refine goes_ Try.func47 (by kernel_rfl) rfl #[.agg #[((rd_T79 aA aC).f2.f0), ((rd_T79 aA aC).f2.f1), ((rd_T79 aA aC).f2.f2), ((rd_T79 aA aC).f2.f3)], .agg #[eG, eH, eI, eJ]] (by rfl) rfl rfl xR ?_
    with_reducible refine (impl_Better.calls k1 ((rd_T79 aA aC).f2.f0) ((rd_T79 aA aC).f2.f1) ((rd_T79 aA aC).f2.f2) ((rd_T79 aA aC).f2.f3) eG eH eI eJ cH _ jF.out).mono ?_
    rintro e mY ⟨rfl, hb⟩
    refine ⟨_, rfl, ?_⟩
    replace aE := rK aE hb
    replace aG := rB aG hb
    replace aD := rB aD hb
    replace HK := aM (Kept.below (S := (fun k_ => P0_1_ k_)) (kk HK.out) hb)
    replace HB := rS HB hb
    (try clear hb)
    (try clear hb2)
    (try clear hk)
    (try clear hi)
    refine hK.out _ _ ⟨cI aD.out 0, cI aD.out 1, cI aD.out 2, cI aD.out 3, cI aD.out 4, cI aD.out 5, cI aD.out 6, cI aD.out 7, cI aD.out 8, cI aD.out 9, cI aD.out 10, cI aG.out 0, cI aG.out 1⟩ (fun hHeld => ?_)
    clear hK K
    refine norm_ (a' := ?_) ?_ ?_
    rotate_left
    ·show Act.put _ (some 50) _ = _
     simp only [Act.put, sA, sZ, sS, i64_w, i32_w]
     rfl
    refine pZ 9 51 (bv 11 1023) HT_ ?_
    refine pZ 10 41 (bv 11 2047) HT_ ?_
    refine done_ (done_of HT_.out (by kernel_rfl)) ?_
    try go_wp2
    go_meet
    case rel => (try rw [← aQ.out]); (try rw [← bL.out]); exact ⟨_, (cH), (aI), xE, H', ⟨by have := bX.out; first | omega | exact Nat.le_refl _⟩, ⟨by (try simp only [hl760001_1]); (with_reducible repeat (first | apply Kd.R_alloc | apply Kd.R_drewN | apply Kd.R_drew)); exact aE.out⟩, ⟨by (try simp only [hl760001_1]); exact bk aG.out⟩, ⟨by (try simp only [hl760001_1]); exact bk aD.out⟩, ⟨kk HK.out⟩, ⟨bl HB.out⟩⟩
   case rest =>
    clear eF
    repeat first|clear c1|clear p1|clear q1|clear c2|clear p2|clear q2|clear c3|clear c4|clear p6|clear c7|clear p7|clear q7|clear c8|clear eD|clear c9|clear hJ|clear mZ|clear gQ|clear nA|clear dZ|clear cL|clear eN|clear eO|clear nB|clear nC|clear eA|clear eB|clear nD|clear nE|clear nF|clear nI|clear eC|clear eA|clear p2|clear bH|clear eB|clear bI
    obtain ⟨kq, cC, aJ, rfl, HA, HJ23, aE, aG, aD, HK, HB⟩ := hcut
    cases kq with
    | zero => exact absurd HA.out (by simp [impl_Bridge_decide.j1])
    | succ cK =>
     have H := HA.out
     clear HA
     simp only [impl_Bridge_decide.j1] at H
     by_cases eU : cC = true
     case neg =>
      replace eU := Bool.eq_false_iff.mpr eU
      subst eU
      replace H := hF H
      obtain ⟨⟨dC, dD, dE, dF, dG, dH, dI, dJ, dK, dL, dM⟩, fO, H⟩ := hB H
      try dsimp only at H
      have jH := aM fO
      clear fO
      obtain ⟨lO, H⟩ := gI H
      obtain ⟨lP, H⟩ := gI H
      obtain ⟨fP, cD⟩ : ∃ y_ : List (S79), y_ = (aA.set (aC : Int).toNat (⟨dC, dD, (⟨dE, dF, dG, dH⟩ : S73), dI, dJ, dK, dL, dM⟩ : S79)) := ⟨_, rfl⟩
      replace H : (impl_Bridge_decide.l0 cK aN (aK.length : Int) (wS aC) aJ fP) = some r := by first | (rw [cD]; with_reducible exact H) | (have H2_ := (Option.bind_some _ _).symm.trans H; rw [cD]; with_reducible exact H2_) | (have H2_ := (Option.bind_some _ _).symm.trans H; with_reducible exact H2_) | with_reducible exact H | (rw [cD]; exact H) | exact H
      have gU := aM cD
      clear cD
      have H' := aM H
      clear H
      try go_wp2
      replace aE := aM (Kd.R_drew aE.out)
      replace aG := aM (blk_drew aG.out)
      replace aD := aM (blk_drew aD.out)
      replace HK := aM (Kept.drew HK.out)
      replace HB := aM (below_drew1 HB.out)
      refine start_ (n := 9) (S := fun w' => cT2 w' gb (.int .i64 aJ) (.slice (some aT) aA.length bK) (cS11 w' aH (.bool true) (.bool ((rd_T79 aA aC).f1)) (.int .i64 ((rd_T79 aA aC).f2.f0)) (.int .i64 ((rd_T79 aA aC).f2.f1)) (.int .i64 ((rd_T79 aA aC).f2.f2)) (.int .i64 ((rd_T79 aA aC).f2.f3)) (.int .i64 ((rd_T79 aA aC).f3)) (.int .i64 ((rd_T79 aA aC).f4)) (.int .i64 ((rd_T79 aA aC).f5)) (.int .i64 ((rd_T79 aA aC).f6)) (.bool ((rd_T79 aA aC).f7)))) (ds := [8]) (dn 9 0) (by kernel_rfl) rfl rfl ⟨cI aG.out 0, cI aG.out 1, cI aD.out 0, cI aD.out 1, cI aD.out 2, cI aD.out 3, cI aD.out 4, cI aD.out 5, cI aD.out 6, cI aD.out 7, cI aD.out 8, cI aD.out 9, cI aD.out 10⟩ (fun hHeld => ?_); refine with_tabW impl_Bridge_decide.tab4 impl_Bridge_decide.bits4 (fun HT_ HW_ => ?_)
      generalize wc.drew = nJ at aE aG aD HK HB hHeld ⊢
      refine nY (N := some 17) HT_ ?_
      refine nY (N := some 18) HT_ ?_
      refine nY (N := some 19) HT_ ?_
      refine pZ 4 21 (bv 9 23) HT_ ?_
      refine aZ 3 20 (bv 9 31) HT_ HW_ hHeld ?_
      refine aZ 5 22 (bv 9 63) HT_ HW_ hHeld ?_
      refine one_ (i := 6) (N := some 23) (bv 9 127) rfl rfl (one_of HT_.out (by kernel_rfl)) (by decide) (fun K hK => ?_)
      refine goes_ Try.func145 (by kernel_rfl) rfl #[.agg #[.bool true, ((rd_T79 aA aC).f1), ((rd_T79 aA aC).f2.f0), ((rd_T79 aA aC).f2.f1), ((rd_T79 aA aC).f2.f2), ((rd_T79 aA aC).f2.f3), ((rd_T79 aA aC).f3), ((rd_T79 aA aC).f4), ((rd_T79 aA aC).f5), ((rd_T79 aA aC).f6), ((rd_T79 aA aC).f7)], .int .i64 2] (by rfl) rfl rfl xR ?_
      with_reducible refine (impl_Turn.calls cK true ((rd_T79 aA aC).f1) ((rd_T79 aA aC).f2.f0) ((rd_T79 aA aC).f2.f1) ((rd_T79 aA aC).f2.f2) ((rd_T79 aA aC).f2.f3) ((rd_T79 aA aC).f3) ((rd_T79 aA aC).f4) ((rd_T79 aA aC).f5) ((rd_T79 aA aC).f6) ((rd_T79 aA aC).f7) 2 dC dD dE dF dG dH dI dJ dK dL dM _ jH.out).mono ?_
      rintro e nK ⟨rfl, hb⟩
      refine ⟨_, rfl, ?_⟩
      replace aE := rK aE hb
      replace aG := rB aG hb
      replace aD := rB aD hb
      replace HK := aM (Kept.below (S := (fun k_ => P0_1_ k_)) (kk HK.out) hb)
      replace HB := rS HB hb
      (try clear hb)
      (try clear hb2)
      (try clear hk)
      (try clear hi)
      have fQ : 0 ≤ (aC : Int) := dT
      have fS : (aC : Int) < ((aA.length : Int) : Int) := dT
      obtain ⟨fT, mE, fU, fV, hU, mF, fW⟩ := Kd.R_form aE.out (by omega)
      (first | cases fU | (injection fU with ea_ en_ ec_; (first | subst ea_ | (injection ea_ with ea_; subst ea_)); subst ec_; clear en_))
      have mG := aM fV
      have mH := aM fW
      clear fV hU fW
      have HMgo50 := aM (show (P0_1_ fT ∨ w.heap.size ≤ fT) from (aE.out.1 _ rfl).1)
      obtain ⟨mI, gV, fX, eV, eW⟩ := Kd.R_elem aE.out z79 (aC : Int) fQ fS
      obtain rfl := k79_openM fX
      obtain ⟨jI, jJ, jK, jL, jM, jN, jO, jP, jQ, jR, iA, jS, jT, jU, jV, jW, jX, jY, jZ, kA, kC, iB⟩ := eS79 (rd_T79 aA aC) eV eW
      clear gV eV eW fX
      replace fQ := eq_true fQ
      replace fS := eq_true fS
      obtain ⟨mJ, eX, fY, eY, gW⟩ := Kd.R_elem aE.out z79 (aC : Int) (dT) dT
      obtain rfl := k79_openM fY
      have eK := (Kd.R_seg aE.out (aC : Int) (dT) dT (seg := [.bool dC, .bool dD, .int .i64 dE, .int .i64 dF, .int .i64 dG, .int .i64 dH, .int .i64 dI, .int .i64 dJ, .int .i64 dK, .int .i64 dL, .bool dM]) (j := 0) eX eY (show 11 ≤ 11 from by decide) (x' := (⟨dC, dD, (⟨dE, dF, dG, dH⟩ : S73), dI, dJ, dK, dL, dM⟩ : S79)) (k79_mkM _ _ _ _) (fun _ hk => hk)).1
      rw [← gU.out] at eK
      have HQ53 := aM eK
      clear eX eY gW fY eK
      refine hK.out _ _ ⟨cI aG.out 0, cI aG.out 1, cI aD.out 0, cI aD.out 1, cI aD.out 2, cI aD.out 3, cI aD.out 4, cI aD.out 5, cI aD.out 6, cI aD.out 7, cI aD.out 8, cI aD.out 9, cI aD.out 10⟩ (fun hHeld => ?_)
      clear hK K
      refine norm_ (a' := ?_) ?_ ?_
      rotate_left
      ·show Act.put _ (some 23) _ = _
       simp only [Act.put, sA, sZ, sS, i64_w, i32_w]
       rfl
      refine pZ 7 24 (bv 9 255) HT_ ?_
      refine last_ (i := 8) (N := none) (bv 9 511) rfl rfl (one_of HT_.out (by kernel_rfl)) (by decide) (fun K hK => ?_)
      refine skip_ (w1 := ?_) (by rfl) rfl ?_ ?_
      rotate_left
      ·go_simp
       rfl
      refine hK.out _ _ ?_
      clear hK K
      refine done_ (done_of HT_.out (by kernel_rfl)) ?_
      try go_wp2
      (try simp only [← hl760001_1])
      go_roundg cK
      case measure => have := bX.out; have := HJ23.out; omega
      case rel => (try rw [← aQ.out]); (try rw [← bL.out]); exact ⟨(wS aC), (aJ), (fP), xE, H', ⟨by have := bX.out; have := HJ23.out; omega⟩, ⟨by (try simp only [hl760001_1]); (with_reducible repeat (first | apply Kd.R_alloc | apply Kd.R_drewN | apply Kd.R_drew)); exact Kd.R_mono HQ53.out (fun _ hk => hk.1)⟩, ⟨by (try simp only [hl760001_1]); exact fR aE.out aG.out⟩, ⟨by repeat (first | (with_reducible first | exact HK.out | apply Kept.alloc | apply Kept.drewN | apply Kept.drew | refine Kept.setCell ?_ HMgo50.out _ | refine Kept.setCell ?_ HMgo50.out _ | refine Kept.setCell ?_ HMgo50.out _ | refine Kept.setCell ?_ HMgo50.out _ | refine Kept.setCell ?_ HMgo50.out _ | refine Kept.setCell ?_ HMgo50.out _ | refine Kept.setCell ?_ HMgo50.out _ | refine Kept.setCell ?_ HMgo50.out _ | refine Kept.setCell ?_ HMgo50.out _ | refine Kept.setCell ?_ HMgo50.out _ | refine Kept.setCell ?_ HMgo50.out _ | refine Kept.setCell ?_ (.inr eT.out) _ | refine Kept.setCell ?_ (.inr bZ.out) _) | exact HK.out)⟩, ⟨bl HB.out⟩⟩
     subst eU
     replace H := hP H rfl
     obtain ⟨⟨dN, dO, dP, dQ, dR, dS, dU, dV, dW, dX, dY⟩, gA, H⟩ := hB H
     try dsimp only at H
     have kD := aM gA
     clear gA
     obtain ⟨lQ, H⟩ := gI H
     obtain ⟨lS, H⟩ := gI H
     obtain ⟨gB, cE⟩ : ∃ y_ : List (S79), y_ = (aA.set (aC : Int).toNat (⟨dN, dO, (⟨dP, dQ, dR, dS⟩ : S73), dU, dV, dW, dX, dY⟩ : S79)) := ⟨_, rfl⟩
     replace H : (impl_Bridge_decide.l0 cK aN (aK.length : Int) (wS aC) aJ gB) = some r := by first | (rw [cE]; with_reducible exact H) | (have H2_ := (Option.bind_some _ _).symm.trans H; rw [cE]; with_reducible exact H2_) | (have H2_ := (Option.bind_some _ _).symm.trans H; with_reducible exact H2_) | with_reducible exact H | (rw [cE]; exact H) | exact H
     have gX := aM cE
     clear cE
     have H' := aM H
     clear H
     try go_wp2
     replace aE := aM (Kd.R_drew aE.out)
     replace aG := aM (blk_drew aG.out)
     replace aD := aM (blk_drew aD.out)
     replace HK := aM (Kept.drew HK.out)
     replace HB := aM (below_drew1 HB.out)
     refine start_ (n := 9) (S := fun w' => cT2 w' gb (.int .i64 aJ) (.slice (some aT) aA.length bK) (cS11 w' aH (.bool true) (.bool ((rd_T79 aA aC).f1)) (.int .i64 ((rd_T79 aA aC).f2.f0)) (.int .i64 ((rd_T79 aA aC).f2.f1)) (.int .i64 ((rd_T79 aA aC).f2.f2)) (.int .i64 ((rd_T79 aA aC).f2.f3)) (.int .i64 ((rd_T79 aA aC).f3)) (.int .i64 ((rd_T79 aA aC).f4)) (.int .i64 ((rd_T79 aA aC).f5)) (.int .i64 ((rd_T79 aA aC).f6)) (.bool ((rd_T79 aA aC).f7)))) (ds := [8]) (dn 9 0) (by kernel_rfl) rfl rfl ⟨cI aG.out 0, cI aG.out 1, cI aD.out 0, cI aD.out 1, cI aD.out 2, cI aD.out 3, cI aD.out 4, cI aD.out 5, cI aD.out 6, cI aD.out 7, cI aD.out 8, cI aD.out 9, cI aD.out 10⟩ (fun hHeld => ?_); refine with_tabW impl_Bridge_decide.tab9 impl_Bridge_decide.bits9 (fun HT_ HW_ => ?_)
     generalize wc.drew = nN at aE aG aD HK HB hHeld ⊢
     refine nY (N := some 52) HT_ ?_
     refine nY (N := some 53) HT_ ?_
     refine nY (N := some 54) HT_ ?_
     refine pZ 4 56 (bv 9 23) HT_ ?_
     refine aZ 3 55 (bv 9 31) HT_ HW_ hHeld ?_
     refine aZ 5 57 (bv 9 63) HT_ HW_ hHeld ?_
     refine one_ (i := 6) (N := some 58) (bv 9 127) rfl rfl (one_of HT_.out (by kernel_rfl)) (by decide) (fun K hK => ?_)
     refine goes_ Try.func145 (by kernel_rfl) rfl #[.agg #[.bool true, ((rd_T79 aA aC).f1), ((rd_T79 aA aC).f2.f0), ((rd_T79 aA aC).f2.f1), ((rd_T79 aA aC).f2.f2), ((rd_T79 aA aC).f2.f3), ((rd_T79 aA aC).f3), ((rd_T79 aA aC).f4), ((rd_T79 aA aC).f5), ((rd_T79 aA aC).f6), ((rd_T79 aA aC).f7)], .int .i64 3] (by rfl) rfl rfl xR ?_
     with_reducible refine (impl_Turn.calls cK true ((rd_T79 aA aC).f1) ((rd_T79 aA aC).f2.f0) ((rd_T79 aA aC).f2.f1) ((rd_T79 aA aC).f2.f2) ((rd_T79 aA aC).f2.f3) ((rd_T79 aA aC).f3) ((rd_T79 aA aC).f4) ((rd_T79 aA aC).f5) ((rd_T79 aA aC).f6) ((rd_T79 aA aC).f7) 3 dN dO dP dQ dR dS dU dV dW dX dY _ kD.out).mono ?_
     rintro e nO ⟨rfl, hb⟩
     refine ⟨_, rfl, ?_⟩
     replace aE := rK aE hb
     replace aG := rB aG hb
     replace aD := rB aD hb
     replace HK := aM (Kept.below (S := (fun k_ => P0_1_ k_)) (kk HK.out) hb)
     replace HB := rS HB hb
     (try clear hb)
     (try clear hb2)
     (try clear hk)
     (try clear hi)
     have gG : 0 ≤ (aC : Int) := dT
     have gH : (aC : Int) < ((aA.length : Int) : Int) := dT
     obtain ⟨gJ, mK, gK, gM, hX, mL, gN⟩ := Kd.R_form aE.out (by omega)
     (first | cases gK | (injection gK with ea_ en_ ec_; (first | subst ea_ | (injection ea_ with ea_; subst ea_)); subst ec_; clear en_))
     have mM := aM gM
     have mN := aM gN
     clear gM hX gN
     have HMgo43 := aM (show (P0_1_ gJ ∨ w.heap.size ≤ gJ) from (aE.out.1 _ rfl).1)
     (first | simp only [add_plain] at aX | skip)
     (first | simp only [add_plain] at bA | skip)
     (first | simp only [add_plain] at bN | skip)
     (first | simp only [add_plain] at bO | skip)
     (first | simp only [add_plain] at bP | skip)
     (first | simp only [add_plain] at bQ | skip)
     (first | simp only [add_plain] at bT | skip)
     (first | simp only [add_plain] at bU | skip)
     (first | simp only [add_plain] at bV | skip)
     (first | simp only [add_plain] at bW | skip)
     (first | simp only [add_plain] at aV | skip)
     obtain ⟨mO, gY, gO, eZ, fA⟩ := Kd.R_elem aE.out z79 (aC : Int) gG gH
     obtain rfl := k79_openM gO
     obtain ⟨kE, kG, kH, kI, kJ, kK, kL, kM, kN, kO, iC, kP, kQ, kR, kS, kT, kU, kV, kW, kX, kY, iD⟩ := eS79 (rd_T79 aA aC) eZ fA
     clear gY eZ fA gO
     replace gG := eq_true gG
     replace gH := eq_true gH
     obtain ⟨mP, fB, gP, fC, gZ⟩ := Kd.R_elem aE.out z79 (aC : Int) (dT) dT
     obtain rfl := k79_openM gP
     have eL := (Kd.R_seg aE.out (aC : Int) (dT) dT (seg := [.bool dN, .bool dO, .int .i64 dP, .int .i64 dQ, .int .i64 dR, .int .i64 dS, .int .i64 dU, .int .i64 dV, .int .i64 dW, .int .i64 dX, .bool dY]) (j := 0) fB fC (show 11 ≤ 11 from by decide) (x' := (⟨dN, dO, (⟨dP, dQ, dR, dS⟩ : S73), dU, dV, dW, dX, dY⟩ : S79)) (k79_mkM _ _ _ _) (fun _ hk => hk)).1
     rw [← gX.out] at eL
     have HQ46 := aM eL
     clear fB fC gZ gP eL
     refine hK.out _ _ ⟨cI aG.out 0, cI aG.out 1, cI aD.out 0, cI aD.out 1, cI aD.out 2, cI aD.out 3, cI aD.out 4, cI aD.out 5, cI aD.out 6, cI aD.out 7, cI aD.out 8, cI aD.out 9, cI aD.out 10⟩ (fun hHeld => ?_)
     clear hK K
     refine norm_ (a' := ?_) ?_ ?_
     rotate_left
     ·show Act.put _ (some 58) _ = _
      simp only [Act.put, sA, sZ, sS, i64_w, i32_w]
      rfl
     refine pZ 7 59 (bv 9 255) HT_ ?_
     refine last_ (i := 8) (N := none) (bv 9 511) rfl rfl (one_of HT_.out (by kernel_rfl)) (by decide) (fun K hK => ?_)
     refine skip_ (w1 := ?_) (by rfl) rfl ?_ ?_
     rotate_left
     ·go_simp
      rfl
     refine hK.out _ _ ?_
     clear hK K
     refine done_ (done_of HT_.out (by kernel_rfl)) ?_
     try go_wp2
     (try simp only [← hl760001_1])
     go_roundg cK
     case measure => have := bX.out; have := HJ23.out; omega
     case rel => (try rw [← aQ.out]); (try rw [← bL.out]); exact ⟨(wS aC), (aJ), (gB), xE, H', ⟨by have := bX.out; have := HJ23.out; omega⟩, ⟨by (try simp only [hl760001_1]); (with_reducible repeat (first | apply Kd.R_alloc | apply Kd.R_drewN | apply Kd.R_drew)); exact Kd.R_mono HQ46.out (fun _ hk => hk.1)⟩, ⟨by (try simp only [hl760001_1]); exact fR aE.out aG.out⟩, ⟨by repeat (first | (with_reducible first | exact HK.out | apply Kept.alloc | apply Kept.drewN | apply Kept.drew | refine Kept.setCell ?_ HMgo43.out _ | refine Kept.setCell ?_ HMgo43.out _ | refine Kept.setCell ?_ HMgo43.out _ | refine Kept.setCell ?_ HMgo43.out _ | refine Kept.setCell ?_ HMgo43.out _ | refine Kept.setCell ?_ HMgo43.out _ | refine Kept.setCell ?_ HMgo43.out _ | refine Kept.setCell ?_ HMgo43.out _ | refine Kept.setCell ?_ HMgo43.out _ | refine Kept.setCell ?_ HMgo43.out _ | refine Kept.setCell ?_ HMgo43.out _ | refine Kept.setCell ?_ (.inr eT.out) _ | refine Kept.setCell ?_ (.inr bZ.out) _) | exact HK.out)⟩, ⟨bl HB.out⟩⟩

end Go.Proofs.Ythmijfekdeagpaa.PFnFades

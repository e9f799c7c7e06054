/- Of the proof of laws.FnRootPorts: a part. No condition beyond what its theorems say. -/
import Derived.Test.YthmijfekdeagpaaVFnRootPortsPx15
import Derived.Test.YthmijfekdeagpaaVFnRootPortsPx16
namespace Go.Proofs.Ythmijfekdeagpaa.PFnRootPorts
open Go.RowKit Go.Proofs.YthmijfekdeagpaaW.PrintWords Go.Proofs.YthmijfekdeagpaaW.PrintLast Go.Proofs.YthmijfekdeagpaaW.PrintMore
attribute [local go_sem] max2_int min2_int max_two min_two max_three min_three max_four min_four   -- for this text's walks alone
set_option linter.unusedVariables false
set_option linter.unusedSimpArgs false

mutual
def impl_Bridge_decide.l0 : Nat → Int → Int → Int → Int → List (S79) → Option ((List (S79)))
 | 0, _, _, _, _, _ => none
 | k + 1, x2, aH, aC, aE, aA => if aC < aH then (if 0 ≤ aC then (if aC < (aA.length : Int) then (if ((rd_T79 aA aC).f0 = true) then (if aC = x2 then ((impl_Turn.f k ((rd_T79 aA aC).f0) ((rd_T79 aA aC).f1) ((rd_T79 aA aC).f2.f0) ((rd_T79 aA aC).f2.f1) ((rd_T79 aA aC).f2.f2) ((rd_T79 aA aC).f2.f3) ((rd_T79 aA aC).f3) ((rd_T79 aA aC).f4) ((rd_T79 aA aC).f5) ((rd_T79 aA aC).f6) ((rd_T79 aA aC).f7) 1).bind fun aD => (impl_Bridge_decide.l0 k x2 aH (wrap64 (aC + 1)) aE (aA.set (aC : Int).toNat (⟨aD.1, aD.2.1, (⟨aD.2.2.1, aD.2.2.2.1, aD.2.2.2.2.1, aD.2.2.2.2.2.1⟩ : S73), aD.2.2.2.2.2.2.1, aD.2.2.2.2.2.2.2.1, aD.2.2.2.2.2.2.2.2.1, aD.2.2.2.2.2.2.2.2.2.1, aD.2.2.2.2.2.2.2.2.2.2⟩ : S79)))) else (if (rd_T79 aA aC).f1 = true then ((impl_Bridge_own.f k aE aA aC).bind fun aG => ((impl_Better.f k ((rd_T79 aA aC).f2.f0) ((rd_T79 aA aC).f2.f1) ((rd_T79 aA aC).f2.f2) ((rd_T79 aA aC).f2.f3) aG.1 aG.2.1 aG.2.2.1 aG.2.2.2).bind fun aI => (impl_Bridge_decide.j1 k x2 aC aH aC aI aE aA ((rd_T79 aA aC).f0) ((rd_T79 aA aC).f1) ((rd_T79 aA aC).f2.f0) ((rd_T79 aA aC).f2.f1) ((rd_T79 aA aC).f2.f2) ((rd_T79 aA aC).f2.f3) ((rd_T79 aA aC).f3) ((rd_T79 aA aC).f4) ((rd_T79 aA aC).f5) ((rd_T79 aA aC).f6) ((rd_T79 aA aC).f7)))) else (impl_Bridge_decide.j1 k x2 aC aH aC false aE aA ((rd_T79 aA aC).f0) ((rd_T79 aA aC).f1) ((rd_T79 aA aC).f2.f0) ((rd_T79 aA aC).f2.f1) ((rd_T79 aA aC).f2.f2) ((rd_T79 aA aC).f2.f3) ((rd_T79 aA aC).f3) ((rd_T79 aA aC).f4) ((rd_T79 aA aC).f5) ((rd_T79 aA aC).f6) ((rd_T79 aA aC).f7)))) else (impl_Bridge_decide.l0 k x2 aH (wrap64 (aC + 1)) aE aA)) else (none)) else (none)) else (some aA)
def impl_Bridge_decide.j1 : Nat → Int → Int → Int → Int → Bool → Int → List (S79) → Bool → Bool → Int → Int → Int → Int → Int → Int → Int → Int → Bool → Option ((List (S79)))
 | 0, _, _, _, _, _, _, _, _, _, _, _, _, _, _, _, _, _, _ => none
 | k + 1, x2, x3, aZ, bA, bD, aE, aD, aG, aH, aI, aJ, aK, aN, aQ, aT, aV, aW, aX => if bD = true then ((impl_Turn.f k aG aH aI aJ aK aN aQ aT aV aW aX 3).bind fun aA => (if 0 ≤ x3 then (if x3 < (aD.length : Int) then (impl_Bridge_decide.l0 k x2 aZ (wrap64 (bA + 1)) aE (aD.set (x3 : Int).toNat (⟨aA.1, aA.2.1, (⟨aA.2.2.1, aA.2.2.2.1, aA.2.2.2.2.1, aA.2.2.2.2.2.1⟩ : S73), aA.2.2.2.2.2.2.1, aA.2.2.2.2.2.2.2.1, aA.2.2.2.2.2.2.2.2.1, aA.2.2.2.2.2.2.2.2.2.1, aA.2.2.2.2.2.2.2.2.2.2⟩ : S79))) else (none)) else (none))) else ((impl_Turn.f k aG aH aI aJ aK aN aQ aT aV aW aX 2).bind fun aC => (if 0 ≤ x3 then (if x3 < (aD.length : Int) then (impl_Bridge_decide.l0 k x2 aZ (wrap64 (bA + 1)) aE (aD.set (x3 : Int).toNat (⟨aC.1, aC.2.1, (⟨aC.2.2.1, aC.2.2.2.1, aC.2.2.2.2.1, aC.2.2.2.2.2.1⟩ : S73), aC.2.2.2.2.2.2.1, aC.2.2.2.2.2.2.2.1, aC.2.2.2.2.2.2.2.2.1, aC.2.2.2.2.2.2.2.2.2.1, aC.2.2.2.2.2.2.2.2.2.2⟩ : S79))) else (none)) else (none)))
end
def impl_Bridge_decide.f (k : Nat) (aC : Int) (aA : List (S79)) : Option ((List (S79))) := (impl_Bridge_rootPort.f k aC aA).bind fun aD => (impl_Bridge_decide.l0 k aD (aA.length : Int) 0 aC aA)
theorem impl_Bridge_decide.mono_l : ∀ k, (∀ y0 y1 y2 y3 y4, LeO (impl_Bridge_decide.l0 k y0 y1 y2 y3 y4) (impl_Bridge_decide.l0 (k + 1) y0 y1 y2 y3 y4)) ∧ (∀ y0 y1 y2 y3 y4 y5 y6 y7 y8 y9 aA aC aD aE aG aH aI aJ, LeO (impl_Bridge_decide.j1 k y0 y1 y2 y3 y4 y5 y6 y7 y8 y9 aA aC aD aE aG aH aI aJ) (impl_Bridge_decide.j1 (k + 1) y0 y1 y2 y3 y4 y5 y6 y7 y8 y9 aA aC aD aE aG aH aI aJ))
 | 0 => ⟨fun _ _ _ _ _ r h => by simp [impl_Bridge_decide.l0] at h, fun _ _ _ _ _ _ _ _ _ _ _ _ _ _ _ _ _ _ r h => by simp [impl_Bridge_decide.j1] at h⟩
 | k + 1 => by
  obtain ⟨ih0, ih1⟩ := impl_Bridge_decide.mono_l k
  refine ⟨?_, ?_⟩
  ·intro y0 y1 y2 y3 y4
   unfold impl_Bridge_decide.l0
   repeat' first|(with_reducible first|apply ih0|apply ih1|apply impl_Better.mono|apply impl_Bridge_own.mono|apply impl_Bridge_rootPort.mono|apply impl_Turn.mono|exact LeO.refl _|exact LeO.none _|refine LeO.ite ?_ ?_|refine LeO.bind ?_ (fun _ => ?_))|exact LeO.none _|refine LeO.ite ?_ ?_|refine LeO.bind ?_ (fun _ => ?_)
  ·intro y0 y1 y2 y3 y4 y5 y6 y7 y8 y9 aA aC aD aE aG aH aI aJ
   unfold impl_Bridge_decide.j1
   repeat' first|(with_reducible first|apply ih0|apply ih1|apply impl_Better.mono|apply impl_Bridge_own.mono|apply impl_Bridge_rootPort.mono|apply impl_Turn.mono|exact LeO.refl _|exact LeO.none _|refine LeO.ite ?_ ?_|refine LeO.bind ?_ (fun _ => ?_))|exact LeO.none _|refine LeO.ite ?_ ?_|refine LeO.bind ?_ (fun _ => ?_)
theorem impl_Bridge_decide.mono : ∀ a0 a1 k, LeO (impl_Bridge_decide.f k a0 a1) (impl_Bridge_decide.f (k + 1) a0 a1) := by
 intro a0 a1 k
 obtain ⟨ih0, ih1⟩ := impl_Bridge_decide.mono_l k
 unfold impl_Bridge_decide.f
 repeat' first|(with_reducible first|apply ih0|apply ih1|apply impl_Better.mono|apply impl_Bridge_own.mono|apply impl_Bridge_rootPort.mono|apply impl_Turn.mono|exact LeO.refl _|exact LeO.none _|refine LeO.ite ?_ ?_|refine LeO.bind ?_ (fun _ => ?_))|exact LeO.none _|refine LeO.ite ?_ ?_|refine LeO.bind ?_ (fun _ => ?_)
def impl_Bridge_decide.T4 : Bool × List (List Nat × List Nat) := (true, [([], []), ([0], [0]), ([1], [1]), ([2], [2]), ([], []), ([], []), ([5], [5]), ([3, 4, 0, 1, 2, 3, 4, 5, 6], [3, 4]), ([7, 6, 6, 0, 1, 2, 3, 4, 5, 6], [6, 7])])
def impl_Bridge_decide.B4 : List Nat := [0, 1, 3, 7, 0, 0, 32, 127, 255]
theorem impl_Bridge_decide.tab4 : rtab .any (opsOf Try.f72 4) = impl_Bridge_decide.T4 := by kernel_rfl
theorem impl_Bridge_decide.bits4 : waitsOk impl_Bridge_decide.T4.2 impl_Bridge_decide.B4 = true := by kernel_rfl
def impl_Bridge_decide.T7 : Bool × List (List Nat × List Nat) := (true, [([], []), ([0], [0]), ([1], [1]), ([2], [2]), ([], []), ([], []), ([5], [5]), ([3, 4, 0, 1, 2, 3, 4, 5, 6], [3, 4]), ([7, 6, 6, 0, 1, 2, 3, 4, 5, 6], [6, 7])])
def impl_Bridge_decide.B7 : List Nat := [0, 1, 3, 7, 0, 0, 32, 127, 255]
theorem impl_Bridge_decide.tab7 : rtab .any (opsOf Try.f72 7) = impl_Bridge_decide.T7 := by kernel_rfl
theorem impl_Bridge_decide.bits7 : waitsOk impl_Bridge_decide.T7.2 impl_Bridge_decide.B7 = true := by kernel_rfl
def impl_Bridge_decide.T8 : Bool × List (List Nat × List Nat) := (true, [([], []), ([0], [0]), ([1], [1]), ([2], [2]), ([3, 2], [2, 3]), ([2], [2]), ([2], [2]), ([5, 6, 2, 2], [2, 5, 6]), ([4, 7, 7, 2], [2, 4, 7]), ([2, 8], [2, 8]), ([9, 8], [9])])
def impl_Bridge_decide.B8 : List Nat := [0, 1, 3, 7, 15, 7, 7, 103, 255, 511, 1023]
theorem impl_Bridge_decide.tab8 : rtab .any (opsOf Try.f72 8) = impl_Bridge_decide.T8 := by kernel_rfl
theorem impl_Bridge_decide.bits8 : waitsOk impl_Bridge_decide.T8.2 impl_Bridge_decide.B8 = true := by kernel_rfl
def impl_Bridge_decide.T9 : Bool × List (List Nat × List Nat) := (true, [([], []), ([0], [0]), ([1], [1]), ([2], [2]), ([], []), ([], []), ([5], [5]), ([3, 4, 0, 1, 2, 3, 4, 5, 6], [3, 4]), ([7, 6, 6, 0, 1, 2, 3, 4, 5, 6], [6, 7])])
def impl_Bridge_decide.B9 : List Nat := [0, 1, 3, 7, 0, 0, 32, 127, 255]
theorem impl_Bridge_decide.tab9 : rtab .any (opsOf Try.f72 9) = impl_Bridge_decide.T9 := by kernel_rfl
theorem impl_Bridge_decide.bits9 : waitsOk impl_Bridge_decide.T9.2 impl_Bridge_decide.B9 = true := by kernel_rfl
set_option maxHeartbeats 60000000 in
set_option maxRecDepth 100000 in
theorem impl_Bridge_decide.calls (k : Nat) (cK : Int) (P0_1_ : Nat → Prop) (bZ : Value) (aN : List (S79)) (r : List (S79)) (w0 w : World) (gb : Nat) (hBK : w.heap[gb]? = some (.cells #[cK, bZ] 28 (0, 0))) (hgb : ¬ P0_1_ gb) (hB : Below w0.heap.size w0 w) (ho0_1 : Kd.R k79 79 w w0.heap.size P0_1_ bZ aN) (h : impl_Bridge_decide.f k cK aN = some r) :
  Calls Try.prog 72 #[.pointer (some ⟨gb, 0, none⟩)] w fun e w' => e = .returned (.tuple #[]) ∧ Kd.R k79 79 w' w0.heap.size (fun k_ => (P0_1_ k_ ∨ w.heap.size ≤ k_)) bZ r ∧ Below w0.heap.size w0 w' ∧ Kept w w' (fun k_ => P0_1_ k_) := by
 have mE := Try.underlying28
 have mF := Try.underlying79
 have mG := Try.underlying73
 have bX := aM (show Kd.R k79 79 w w0.heap.size (fun k_ => (P0_1_ k_ ∨ w.heap.size ≤ k_)) bZ aN from Kd.R_mono ho0_1 (fun k_ hk => (.inl hk)))
 have HK := aM (Kept.refl w (fun k_ => P0_1_ k_))
 have HW0 := aM hB.size
 have HB := aM hB
 have HGB := aM hgb
 clear hgb
 clear hB
 have H : ((impl_Bridge_rootPort.f k cK aN).bind fun aQ => (impl_Bridge_decide.l0 k aQ (aN.length : Int) 0 cK aN)) = some r := h
 clear h
 obtain ⟨aQ, iQ, H⟩ := hB H
 have A2 := aM iQ
 clear iQ
 have H' := aM H
 clear H
 obtain ⟨iR, bM, jH⟩ := Kd.R_slice bX.out
 subst jH
 go_enter Try.func72, Try.ntmps72
 have aG := aM hBK
 clear hBK
 have fG := cA2 aG.out
 go_wp2_with (first | ((with_reducible refine gC (f := 118) rfl ?_); refine gL (some 6) Try.func118 #[.pointer (some ⟨gb, 0, none⟩)] ?_; (with_reducible refine (impl_Bridge_rootPort.calls (gb := gb) (hBK := (bk aG.out)) k cK _ _ aN aQ _ ?side1 ?side2 A2.out).mono ?_); (case side1 => repeat (first | exact (Kd.R_reads' bX.out).2.2 | (with_reducible refine Kd.C_alloc ?_ _) | (with_reducible refine Kd.C_drewN ?_ _) | (with_reducible refine Kd.C_drew ?_))); (case side2 => exact (Kd.R_reads' bX.out).2.1); rintro e w6 ⟨rfl, hb⟩; refine ⟨_, rfl, ?_⟩; replace bX := aM (kB (kr bX.out) hb); replace aG := rB aG hb; replace HK := aM (Kept.below (S := (fun k_ => P0_1_ k_)) (kk HK.out) hb); replace HB := rS HB hb; (try clear hb); have fH := cA2 aG.out))
 go_loopg [12] k (fun kq jI w' => ∃ (aC : Int) (aI : Int) (aA : List (S79)), jI = .int .i64 aC ∧ Aside0 (impl_Bridge_decide.l0 kq aQ (aN.length : Int) aC aI aA = some r) ∧ Aside0 (kq ≤ k) ∧ Aside0 (Kd.R k79 79 w' w0.heap.size (fun k_ => (P0_1_ k_ ∨ w.heap.size ≤ k_)) (.slice iR aN.length bM) aA) ∧ Aside0 (w'.heap[gb]? = some (.cells #[aI, (.slice iR aN.length bM)] 28 (0, 0))) ∧ Aside0 (Kept w w' (fun k_ => P0_1_ k_)) ∧ Aside0 (Below w0.heap.size w0 w'))
 case atStart => exact ⟨(0), (cK), (aN), xE, H', ⟨Nat.le_refl _⟩, ⟨kr bX.out⟩, ⟨bk aG.out⟩, ⟨kk HK.out⟩, ⟨bl HB.out⟩⟩
 case round =>
  clear H'
  repeat first|clear c1|clear p2|clear c7|clear fG|clear fI|clear fH|clear fK|clear fL
  obtain ⟨aC, aI, aA, rfl, HA, bY, aD, aG, HK, HB⟩ := hrel
  have hl314001_1 := (Kd.R_reads' aD.out).1
  rw [hl314001_1] at aD
  (try simp only [hl314001_1])
  (try simp only [hl314001_1] at aG)
  cases gk with
  | zero => exact absurd HA.out (by simp [impl_Bridge_decide.l0])
  | succ k1 =>
   have H := HA.out
   clear HA
   simp only [impl_Bridge_decide.l0] at H
   by_cases c8 : aC < (aN.length : Int)
   case neg =>
    rw [if_neg c8] at H
    have eF := decide_eq_false c8
    (try rw [hl314001_1] at eF)
    clear c8
    obtain rfl := Option.some.inj H
    go_wp2
    first | go_end0 | ((try simp only [Exit.inBlock, Exit.then]); refine bodyPost_ret (results_none rfl _ _ _) rfl ?_)
    exact ⟨xW, (by first | exact (kr aD.out) | (simp only [hl314001_1]; exact (kr aD.out))), bl HB.out, kk HK.out⟩
   rw [if_pos c8] at H
   have eF := decide_eq_true c8
   clear c8
   obtain ⟨iS, H⟩ := gI H
   obtain ⟨iC, H⟩ := gI H
   obtain ⟨cP, hbq11⟩ : ∃ b_ : Bool, b_ = ((rd_T79 aA aC).f0) := ⟨_, rfl⟩
   replace H : (if (cP = true) then (if aC = aQ then ((impl_Turn.f k1 (cP) ((rd_T79 aA aC).f1) ((rd_T79 aA aC).f2.f0) ((rd_T79 aA aC).f2.f1) ((rd_T79 aA aC).f2.f2) ((rd_T79 aA aC).f2.f3) ((rd_T79 aA aC).f3) ((rd_T79 aA aC).f4) ((rd_T79 aA aC).f5) ((rd_T79 aA aC).f6) ((rd_T79 aA aC).f7) 1).bind fun bA => (impl_Bridge_decide.l0 k1 aQ (aN.length : Int) (wrap64 (aC + 1)) aI (aA.set (aC : Int).toNat (⟨bA.1, bA.2.1, (⟨bA.2.2.1, bA.2.2.2.1, bA.2.2.2.2.1, bA.2.2.2.2.2.1⟩ : S73), bA.2.2.2.2.2.2.1, bA.2.2.2.2.2.2.2.1, bA.2.2.2.2.2.2.2.2.1, bA.2.2.2.2.2.2.2.2.2.1, bA.2.2.2.2.2.2.2.2.2.2⟩ : S79)))) else (if (rd_T79 aA aC).f1 = true then ((impl_Bridge_own.f k1 aI aA aC).bind fun bI => ((impl_Better.f k1 ((rd_T79 aA aC).f2.f0) ((rd_T79 aA aC).f2.f1) ((rd_T79 aA aC).f2.f2) ((rd_T79 aA aC).f2.f3) bI.1 bI.2.1 bI.2.2.1 bI.2.2.2).bind fun cL => (impl_Bridge_decide.j1 k1 aQ aC (aN.length : Int) aC cL aI aA cP ((rd_T79 aA aC).f1) ((rd_T79 aA aC).f2.f0) ((rd_T79 aA aC).f2.f1) ((rd_T79 aA aC).f2.f2) ((rd_T79 aA aC).f2.f3) ((rd_T79 aA aC).f3) ((rd_T79 aA aC).f4) ((rd_T79 aA aC).f5) ((rd_T79 aA aC).f6) ((rd_T79 aA aC).f7)))) else (impl_Bridge_decide.j1 k1 aQ aC (aN.length : Int) aC false aI aA cP ((rd_T79 aA aC).f1) ((rd_T79 aA aC).f2.f0) ((rd_T79 aA aC).f2.f1) ((rd_T79 aA aC).f2.f2) ((rd_T79 aA aC).f2.f3) ((rd_T79 aA aC).f3) ((rd_T79 aA aC).f4) ((rd_T79 aA aC).f5) ((rd_T79 aA aC).f6) ((rd_T79 aA aC).f7)))) else (impl_Bridge_decide.l0 k1 aQ (aN.length : Int) (wrap64 (aC + 1)) aI aA)) = some r := by rw [← hbq11] at H; exact H
   have aT := aM hbq11
   clear hbq11
   by_cases eB : (cP = true)
   case neg =>
    replace eB := Bool.eq_false_iff.mpr eB
    subst eB
    replace H := hF H
    have H' := aM H
    clear H
    have lS := cA2 aG.out
    have bG : 0 ≤ (aC : Int) := dT
    have bH : aC < (aA.length : Int) := dT
    obtain ⟨aV, cQ, aX, aZ, bN, bO, bP, bQ, bR, bT, bU, bV, aW⟩ := at_T79 (Kd.R_reads' aD.out).2.2 aC bG bH
    (try rw [← aT.out] at aX)
    (try rw [← aT.out] at aZ)
    (try rw [← aT.out] at aW)
    cases cQ
    replace bG := eq_true bG
    replace bH := eq_true bH
    go_wp2_with (first | ((with_reducible refine gD (N := 4) rfl ?_); refine box_event ?hg (N := 4) ?hd (cs := #[.bool false, .bool false, .int .i64 0, .int .i64 0, .int .i64 0, .int .i64 0, .int .i64 0, .int .i64 0, .int .i64 0, .int .i64 0, .bool false]) (t := 79) ?hr ?_; (case hd => rfl); (case hg => rfl); (case hr => first | (go_simp; done) | (go_simp; rfl) | (obtain ⟨A_, c_, e_⟩ := Kd.R_slice aD.out; subst e_; (first | (go_simp; done) | (go_simp; rfl))) | (obtain ⟨A_, c_, e_⟩ := Kd.S_slice aD.out; subst e_; (first | (go_simp; done) | (go_simp; rfl)))); intro aH hg mZ hbox hb; have aE := aM (hbox); have cA := gE hg (kk HK.out).1; have cC := gF hg HB; have aJ := nM hg aG; have bD := nH hg aG; replace aD := aM (kB (Kd.R_elderB (kr aD.out) aH (Nat.le_of_eq hg.symm)) hb); replace aG := rB aG hb; replace HK := aM (Kept.below (S := (fun k_ => P0_1_ k_)) (kk HK.out) hb); replace HB := rS HB hb; clear hb hbox hg; have lT := bD.out; have lU := aJ.out; have lV := cA11 aE.out))
    (try simp only [← hl314001_1])
    go_roundg k1
    case measure => have := bY.out; omega
    case rel => (try rw [← aT.out]); (try rw [← bW.out]); exact ⟨(wrap64 (aC + 1)), (aI), (aA), xE, H', ⟨by have := bY.out; omega⟩, ⟨by (try simp only [hl314001_1]); (with_reducible repeat (first | apply Kd.R_alloc | apply Kd.R_drewN | apply Kd.R_drew)); exact Kd.R_mono (kF (p := ⟨aH, 10, none⟩) (kF (p := ⟨aH, 9, none⟩) (kF (p := ⟨aH, 8, none⟩) (kF (p := ⟨aH, 7, none⟩) (kF (p := ⟨aH, 6, none⟩) (kF (p := ⟨aH, 5, none⟩) (kF (p := ⟨aH, 4, none⟩) (kF (p := ⟨aH, 3, none⟩) (kF (p := ⟨aH, 2, none⟩) (kF (p := ⟨aH, 1, none⟩) (kF (p := ⟨aH, 0, none⟩) (Kd.R_mono aD.out (fun k_ hk => (⟨hk, hk.2⟩ : _ ∧ k_ ≠ aH))) (fun _ hk => hk.2) (.bool false)) (fun _ hk => hk.2) (.bool ((rd_T79 aA aC).f1))) (fun _ hk => hk.2) (.int .i64 ((rd_T79 aA aC).f2.f0))) (fun _ hk => hk.2) (.int .i64 ((rd_T79 aA aC).f2.f1))) (fun _ hk => hk.2) (.int .i64 ((rd_T79 aA aC).f2.f2))) (fun _ hk => hk.2) (.int .i64 ((rd_T79 aA aC).f2.f3))) (fun _ hk => hk.2) (.int .i64 ((rd_T79 aA aC).f3))) (fun _ hk => hk.2) (.int .i64 ((rd_T79 aA aC).f4))) (fun _ hk => hk.2) (.int .i64 ((rd_T79 aA aC).f5))) (fun _ hk => hk.2) (.int .i64 ((rd_T79 aA aC).f6))) (fun _ hk => hk.2) (.bool ((rd_T79 aA aC).f7))) (fun _ hk => hk.1.1)⟩, ⟨by (try simp only [hl314001_1]); (with_reducible repeat (first | refine blk_drewN ?_ _ | refine blk_drew ?_ | refine blk_alloc ?_ _)); refine blk_far ?_ aJ.out _; (with_reducible repeat (first | refine blk_drewN ?_ _ | refine blk_drew ?_ | refine blk_alloc ?_ _)); refine blk_far ?_ aJ.out _; (with_reducible repeat (first | refine blk_drewN ?_ _ | refine blk_drew ?_ | refine blk_alloc ?_ _)); refine blk_far ?_ aJ.out _; (with_reducible repeat (first | refine blk_drewN ?_ _ | refine blk_drew ?_ | refine blk_alloc ?_ _)); refine blk_far ?_ aJ.out _; (with_reducible repeat (first | refine blk_drewN ?_ _ | refine blk_drew ?_ | refine blk_alloc ?_ _)); refine blk_far ?_ aJ.out _; (with_reducible repeat (first | refine blk_drewN ?_ _ | refine blk_drew ?_ | refine blk_alloc ?_ _)); refine blk_far ?_ aJ.out _; (with_reducible repeat (first | refine blk_drewN ?_ _ | refine blk_drew ?_ | refine blk_alloc ?_ _)); refine blk_far ?_ aJ.out _; (with_reducible repeat (first | refine blk_drewN ?_ _ | refine blk_drew ?_ | refine blk_alloc ?_ _)); refine blk_far ?_ aJ.out _; (with_reducible repeat (first | refine blk_drewN ?_ _ | refine blk_drew ?_ | refine blk_alloc ?_ _)); refine blk_far ?_ aJ.out _; (with_reducible repeat (first | refine blk_drewN ?_ _ | refine blk_drew ?_ | refine blk_alloc ?_ _)); refine blk_far ?_ aJ.out _; (with_reducible repeat (first | refine blk_drewN ?_ _ | refine blk_drew ?_ | refine blk_alloc ?_ _)); refine blk_far ?_ aJ.out _; (with_reducible repeat (first | refine blk_drewN ?_ _ | refine blk_drew ?_ | refine blk_alloc ?_ _)); exact aG.out⟩, ⟨kk HK.out⟩, ⟨bl HB.out⟩⟩
   subst eB
   replace H := hP H rfl
   by_cases cO : aC = aQ
   case pos =>
    rw [if_pos cO] at H
    have eO : (aC == aQ) = true := beq_iff_eq.mpr cO
    have eP : (aC != aQ) = false := bne_eq_false_iff_eq.mpr cO
    clear cO
    obtain ⟨⟨cR, cS, cT, cU, cV, cW, cX, cY, dA, dB, dC⟩, fM, H⟩ := hB H
    try dsimp only at H
    have jJ := aM fM
    clear fM
    obtain ⟨fN, cD⟩ : ∃ y_ : List (S79), y_ = (aA.set (aC : Int).toNat (⟨cR, cS, (⟨cT, cU, cV, cW⟩ : S73), cX, cY, dA, dB, dC⟩ : S79)) := ⟨_, rfl⟩
    replace H : (impl_Bridge_decide.l0 k1 aQ (aN.length : Int) (wrap64 (aC + 1)) aI fN) = some r := by first | (rw [cD]; with_reducible exact H) | (have H2_ := (Option.bind_some _ _).symm.trans H; rw [cD]; with_reducible exact H2_) | (have H2_ := (Option.bind_some _ _).symm.trans H; with_reducible exact H2_) | with_reducible exact H | (rw [cD]; exact H) | exact H
    have iD := aM cD
    clear cD
    have H' := aM H
    clear H
    have iE := cA2 aG.out
    have bG : 0 ≤ (aC : Int) := dT
    have bH : aC < (aA.length : Int) := dT
    obtain ⟨aV, cQ, aX, aZ, bN, bO, bP, bQ, bR, bT, bU, bV, aW⟩ := at_T79 (Kd.R_reads' aD.out).2.2 aC bG bH
    (try rw [← aT.out] at aX)
    (try rw [← aT.out] at aZ)
    (try rw [← aT.out] at aW)
    cases cQ
    replace bG := eq_true bG
    replace bH := eq_true bH
    try go_wp2_with (first | ((with_reducible refine gD (N := 4) rfl ?_); refine box_event ?hg (N := 4) ?hd (cs := #[.bool false, .bool false, .int .i64 0, .int .i64 0, .int .i64 0, .int .i64 0, .int .i64 0, .int .i64 0, .int .i64 0, .int .i64 0, .bool false]) (t := 79) ?hr ?_; (case hd => rfl); (case hg => rfl); (case hr => first | (go_simp; done) | (go_simp; rfl) | (obtain ⟨A_, c_, e_⟩ := Kd.R_slice aD.out; subst e_; (first | (go_simp; done) | (go_simp; rfl))) | (obtain ⟨A_, c_, e_⟩ := Kd.S_slice aD.out; subst e_; (first | (go_simp; done) | (go_simp; rfl)))); intro aH hg nA hbox hb; have aE := aM (hbox); have cA := gE hg (kk HK.out).1; have cC := gF hg HB; have aJ := nM hg aG; have bD := nH hg aG; replace aD := aM (kB (Kd.R_elderB (kr aD.out) aH (Nat.le_of_eq hg.symm)) hb); replace aG := rB aG hb; replace HK := aM (Kept.below (S := (fun k_ => P0_1_ k_)) (kk HK.out) hb); replace HB := rS HB hb; clear hb hbox hg; have lW := bD.out; have lX := aJ.out; have iF := cA11 aE.out))
    refine nW (fun W => Aside0 (Kd.R k79 79 W w0.heap.size (fun k_ => (P0_1_ k_ ∨ w.heap.size ≤ k_) ∧ k_ ≠ aH) (.slice (some aV) aA.length bM) aA) ∧ Aside0 (W.heap[gb]? = some (.cells #[aI, .slice (some aV) aA.length bM] 28 (0, 0))) ∧ Aside0 (W.heap[aH]? = some (.cells #[.bool true, ((rd_T79 aA aC).f1), ((rd_T79 aA aC).f2.f0), ((rd_T79 aA aC).f2.f1), ((rd_T79 aA aC).f2.f2), ((rd_T79 aA aC).f2.f3), ((rd_T79 aA aC).f3), ((rd_T79 aA aC).f4), ((rd_T79 aA aC).f5), ((rd_T79 aA aC).f6), ((rd_T79 aA aC).f7)] 79 (0, 0))) ∧ Aside0 (Kept w W (fun k_ => P0_1_ k_)) ∧ Aside0 (Below w0.heap.size w0 W)) ⟨⟨kr (Kd.R_mono (kF (p := ⟨aH, 10, none⟩) (kF (p := ⟨aH, 9, none⟩) (kF (p := ⟨aH, 8, none⟩) (kF (p := ⟨aH, 7, none⟩) (kF (p := ⟨aH, 6, none⟩) (kF (p := ⟨aH, 5, none⟩) (kF (p := ⟨aH, 4, none⟩) (kF (p := ⟨aH, 3, none⟩) (kF (p := ⟨aH, 2, none⟩) (kF (p := ⟨aH, 1, none⟩) (kF (p := ⟨aH, 0, none⟩) (Kd.R_mono aD.out (fun k_ hk => (⟨hk, hk.2⟩ : _ ∧ k_ ≠ aH))) (fun _ hk => hk.2) (.bool true)) (fun _ hk => hk.2) (.bool ((rd_T79 aA aC).f1))) (fun _ hk => hk.2) (.int .i64 ((rd_T79 aA aC).f2.f0))) (fun _ hk => hk.2) (.int .i64 ((rd_T79 aA aC).f2.f1))) (fun _ hk => hk.2) (.int .i64 ((rd_T79 aA aC).f2.f2))) (fun _ hk => hk.2) (.int .i64 ((rd_T79 aA aC).f2.f3))) (fun _ hk => hk.2) (.int .i64 ((rd_T79 aA aC).f3))) (fun _ hk => hk.2) (.int .i64 ((rd_T79 aA aC).f4))) (fun _ hk => hk.2) (.int .i64 ((rd_T79 aA aC).f5))) (fun _ hk => hk.2) (.int .i64 ((rd_T79 aA aC).f6))) (fun _ hk => hk.2) (.bool ((rd_T79 aA aC).f7))) (fun _ hk => ⟨hk.1.1, hk.1.2⟩))⟩, ⟨fm aG.out⟩, ⟨bm aE.out⟩, ⟨kk HK.out⟩, ⟨bl HB.out⟩⟩ ?_
    intro jK nn_
    replace aD := nn_.1
    replace aG := nn_.2.1
    replace aE := nn_.2.2.1
    replace HK := nn_.2.2.2.1
    replace HB := nn_.2.2.2.2
    clear nn_
    replace aD := aM (Kd.R_drew aD.out)
    replace aG := aM (blk_drew aG.out)
    replace aE := aM (blk_drew aE.out)
    replace HK := aM (Kept.drew HK.out)
    replace HB := aM (below_drew1 HB.out)
    refine start_ (n := 9) (S := fun w' => cT2 w' gb (.int .i64 aI) (.slice (some aV) aA.length bM) (cS11 w' aH (.bool true) (.bool ((rd_T79 aA aC).f1)) (.int .i64 ((rd_T79 aA aC).f2.f0)) (.int .i64 ((rd_T79 aA aC).f2.f1)) (.int .i64 ((rd_T79 aA aC).f2.f2)) (.int .i64 ((rd_T79 aA aC).f2.f3)) (.int .i64 ((rd_T79 aA aC).f3)) (.int .i64 ((rd_T79 aA aC).f4)) (.int .i64 ((rd_T79 aA aC).f5)) (.int .i64 ((rd_T79 aA aC).f6)) (.bool ((rd_T79 aA aC).f7)))) (ds := [8]) (dn 9 0) (by kernel_rfl) rfl rfl ⟨cI aG.out 0, cI aG.out 1, cI aE.out 0, cI aE.out 1, cI aE.out 2, cI aE.out 3, cI aE.out 4, cI aE.out 5, cI aE.out 6, cI aE.out 7, cI aE.out 8, cI aE.out 9, cI aE.out 10⟩ (fun hHeld => ?_); refine with_tabW impl_Bridge_decide.tab7 impl_Bridge_decide.bits7 (fun HT_ HW_ => ?_)
    generalize jK.drew = nB at aD aG aE HK HB hHeld ⊢
    refine nY (N := some 33) HT_ ?_
    refine nY (N := some 34) HT_ ?_
    refine nY (N := some 35) HT_ ?_
    refine pY (i := 4) (N := some 37) #[Y,Y,Y,U,Y,U,U,U,U] HT_ ?_
    refine aY (i := 3) (N := some 36) #[Y,Y,Y,Y,Y,U,U,U,U] HT_ HW_ hHeld ?_
    refine aY (i := 5) (N := some 38) #[Y,Y,Y,Y,Y,Y,U,U,U] HT_ HW_ hHeld ?_
    refine one_ (i := 6) (N := some 39) #[Y,Y,Y,Y,Y,Y,Y,U,U] rfl rfl (one_of HT_.out (by kernel_rfl)) (by decide) (fun K hK => ?_)
    refine goes_ Try.func145 (by kernel_rfl) rfl #[.agg #[.bool true, ((rd_T79 aA aC).f1), ((rd_T79 aA aC).f2.f0), ((rd_T79 aA aC).f2.f1), ((rd_T79 aA aC).f2.f2), ((rd_T79 aA aC).f2.f3), ((rd_T79 aA aC).f3), ((rd_T79 aA aC).f4), ((rd_T79 aA aC).f5), ((rd_T79 aA aC).f6), ((rd_T79 aA aC).f7)], .int .i64 1] (by rfl) rfl rfl xR ?_
    with_reducible refine (impl_Turn.calls k1 true ((rd_T79 aA aC).f1) ((rd_T79 aA aC).f2.f0) ((rd_T79 aA aC).f2.f1) ((rd_T79 aA aC).f2.f2) ((rd_T79 aA aC).f2.f3) ((rd_T79 aA aC).f3) ((rd_T79 aA aC).f4) ((rd_T79 aA aC).f5) ((rd_T79 aA aC).f6) ((rd_T79 aA aC).f7) 1 cR cS cT cU cV cW cX cY dA dB dC _ jJ.out).mono ?_
    rintro e nC ⟨rfl, hb⟩
    refine ⟨_, rfl, ?_⟩
    replace aD := aM (kB (kr aD.out) hb)
    replace aG := rB aG hb
    replace aE := rB aE hb
    replace HK := aM (Kept.below (S := (fun k_ => P0_1_ k_)) (kk HK.out) hb)
    replace HB := rS HB hb
    (try clear hb)
    (try clear hb2)
    (try clear hk)
    (try clear hi)
    have eC : 0 ≤ (aC : Int) := dT
    have eD : (aC : Int) < ((aA.length : Int) : Int) := dT
    obtain ⟨fO, mH, fP, fQ, iT, mI, fS⟩ := Kd.R_form aD.out (by omega)
    (first | cases fP | (injection fP with ea_ en_ ec_; (first | subst ea_ | (injection ea_ with ea_; subst ea_)); subst ec_; clear en_))
    have bJ := aM fQ
    have mJ := aM fS
    clear fQ iT fS
    have HMgo15 := aM (show (P0_1_ fO ∨ w.heap.size ≤ fO) from (aD.out.1 _ rfl).1)
    (first | simp only [add_plain] at aX | skip)
    (first | simp only [add_plain] at aZ | skip)
    (first | simp only [add_plain] at bN | skip)
    (first | simp only [add_plain] at bO | skip)
    (first | simp only [add_plain] at bP | skip)
    (first | simp only [add_plain] at bQ | skip)
    (first | simp only [add_plain] at bR | skip)
    (first | simp only [add_plain] at bT | skip)
    (first | simp only [add_plain] at bU | skip)
    (first | simp only [add_plain] at bV | skip)
    (first | simp only [add_plain] at aW | skip)
    obtain ⟨mK, iG, fT, eQ, eR⟩ := Kd.R_elem aD.out z79 (aC : Int) eC eD
    obtain rfl := k79_openM fT
    obtain ⟨fU, fV, fW, fX, fY, gA, gB, gG, gH, gJ, fF, jL, jM, jN, jO, jP, jQ, jR, jS, jT, jU, iW⟩ := eS79 (rd_T79 aA aC) eQ eR
    clear iG eQ eR fT
    replace eC := eq_true eC
    replace eD := eq_true eD
    obtain ⟨mL, eS, gK, eT, iH⟩ := Kd.R_elem aD.out z79 (aC : Int) (dT) (by have h_ : (aC : Int) < ((aA.length : Int) : Int) := dT; first | exact h_ | (have e_ := (Kd.R_reads' aD.out).1; omega) | simpa using h_)
    obtain rfl := k79_openM gK
    have eG := (Kd.R_seg aD.out (aC : Int) (dT) (by have h_ : (aC : Int) < ((aA.length : Int) : Int) := dT; first | exact h_ | (have e_ := (Kd.R_reads' aD.out).1; omega) | simpa using h_) (seg := [.bool cR, .bool cS, .int .i64 cT, .int .i64 cU, .int .i64 cV, .int .i64 cW, .int .i64 cX, .int .i64 cY, .int .i64 dA, .int .i64 dB, .bool dC]) (j := 0) eS eT (show 11 ≤ 11 from by decide) (x' := (⟨cR, cS, (⟨cT, cU, cV, cW⟩ : S73), cX, cY, dA, dB, dC⟩ : S79)) (k79_mkM _ _ _ (⟨cR, cS, (⟨cT, cU, cV, cW⟩ : S73), cX, cY, dA, dB, dC⟩ : S79) ) (fun _ hk => hk)).1
    rw [← iD.out] at eG
    have HQ23 := aM eG
    clear eS eT iH gK eG
    refine hK.out _ _ ⟨cI aG.out 0, cI aG.out 1, cI aE.out 0, cI aE.out 1, cI aE.out 2, cI aE.out 3, cI aE.out 4, cI aE.out 5, cI aE.out 6, cI aE.out 7, cI aE.out 8, cI aE.out 9, cI aE.out 10⟩ (fun hHeld => ?_)
    clear hK K
    refine norm_ (a' := ?_) ?_ ?_
    rotate_left
    ·show Act.put _ (some 39) _ = _
     simp only [Act.put, sA, sZ, sS, i64_w, i32_w]
     rfl
    refine pY (i := 7) (N := some 40) #[Y,Y,Y,Y,Y,Y,Y,Y,U] HT_ ?_
    refine last_ (i := 8) (N := none) #[Y,Y,Y,Y,Y,Y,Y,Y,Y] rfl rfl (one_of HT_.out (by kernel_rfl)) (by decide) (fun K hK => ?_)
    refine skip_ (w1 := ?_) (by rfl) rfl ?_ ?_
    rotate_left
    ·go_simp
     rfl
    refine hK.out _ _ ?_
    clear hK K
    refine done_ (done_of HT_.out (by kernel_rfl)) ?_
    try go_wp2
    (try simp only [← hl314001_1])
    go_roundg k1
    case measure => have := bY.out; omega
    case rel => (try rw [← aT.out]); (try rw [← bW.out]); exact ⟨(wrap64 (aC + 1)), (aI), (fN), xE, H', ⟨by have := bY.out; omega⟩, ⟨by (try simp only [hl314001_1]); (with_reducible repeat (first | apply Kd.R_alloc | apply Kd.R_drewN | apply Kd.R_drew)); exact Kd.R_mono HQ23.out (fun _ hk => hk.1)⟩, ⟨by (try simp only [hl314001_1]); (with_reducible repeat (first | refine blk_drewN ?_ _ | refine blk_drew ?_ | refine blk_alloc ?_ _)); refine blk_far ?_ (by have h_ := Kd.R_ne aD.out aG.out (by decide); intro e_; exact h_ (by rw [e_]; rfl)) _; (with_reducible repeat (first | refine blk_drewN ?_ _ | refine blk_drew ?_ | refine blk_alloc ?_ _)); refine blk_far ?_ (by have h_ := Kd.R_ne aD.out aG.out (by decide); intro e_; exact h_ (by rw [e_]; rfl)) _; (with_reducible repeat (first | refine blk_drewN ?_ _ | refine blk_drew ?_ | refine blk_alloc ?_ _)); refine blk_far ?_ (by have h_ := Kd.R_ne aD.out aG.out (by decide); intro e_; exact h_ (by rw [e_]; rfl)) _; (with_reducible repeat (first | refine blk_drewN ?_ _ | refine blk_drew ?_ | refine blk_alloc ?_ _)); refine blk_far ?_ (by have h_ := Kd.R_ne aD.out aG.out (by decide); intro e_; exact h_ (by rw [e_]; rfl)) _; (with_reducible repeat (first | refine blk_drewN ?_ _ | refine blk_drew ?_ | refine blk_alloc ?_ _)); refine blk_far ?_ (by have h_ := Kd.R_ne aD.out aG.out (by decide); intro e_; exact h_ (by rw [e_]; rfl)) _; (with_reducible repeat (first | refine blk_drewN ?_ _ | refine blk_drew ?_ | refine blk_alloc ?_ _)); refine blk_far ?_ (by have h_ := Kd.R_ne aD.out aG.out (by decide); intro e_; exact h_ (by rw [e_]; rfl)) _; (with_reducible repeat (first | refine blk_drewN ?_ _ | refine blk_drew ?_ | refine blk_alloc ?_ _)); refine blk_far ?_ (by have h_ := Kd.R_ne aD.out aG.out (by decide); intro e_; exact h_ (by rw [e_]; rfl)) _; (with_reducible repeat (first | refine blk_drewN ?_ _ | refine blk_drew ?_ | refine blk_alloc ?_ _)); refine blk_far ?_ (by have h_ := Kd.R_ne aD.out aG.out (by decide); intro e_; exact h_ (by rw [e_]; rfl)) _; (with_reducible repeat (first | refine blk_drewN ?_ _ | refine blk_drew ?_ | refine blk_alloc ?_ _)); refine blk_far ?_ (by have h_ := Kd.R_ne aD.out aG.out (by decide); intro e_; exact h_ (by rw [e_]; rfl)) _; (with_reducible repeat (first | refine blk_drewN ?_ _ | refine blk_drew ?_ | refine blk_alloc ?_ _)); refine blk_far ?_ (by have h_ := Kd.R_ne aD.out aG.out (by decide); intro e_; exact h_ (by rw [e_]; rfl)) _; (with_reducible repeat (first | refine blk_drewN ?_ _ | refine blk_drew ?_ | refine blk_alloc ?_ _)); refine blk_far ?_ (by have h_ := Kd.R_ne aD.out aG.out (by decide); intro e_; exact h_ (by rw [e_]; rfl)) _; (with_reducible repeat (first | refine blk_drewN ?_ _ | refine blk_drew ?_ | refine blk_alloc ?_ _)); exact aG.out⟩, ⟨by repeat (first | (with_reducible first | exact HK.out | apply Kept.alloc | apply Kept.drewN | apply Kept.drew | refine Kept.setCell ?_ HMgo15.out _ | refine Kept.setCell ?_ HMgo15.out _ | refine Kept.setCell ?_ HMgo15.out _ | refine Kept.setCell ?_ HMgo15.out _ | refine Kept.setCell ?_ HMgo15.out _ | refine Kept.setCell ?_ HMgo15.out _ | refine Kept.setCell ?_ HMgo15.out _ | refine Kept.setCell ?_ HMgo15.out _ | refine Kept.setCell ?_ HMgo15.out _ | refine Kept.setCell ?_ HMgo15.out _ | refine Kept.setCell ?_ HMgo15.out _ | refine Kept.setCell ?_ (.inr eU.out) _ | refine Kept.setCell ?_ (.inr cA.out) _) | exact HK.out)⟩, ⟨by repeat (first | (with_reducible first | exact HB.out | apply below_alloc | apply pw_below_drewN | apply below_drew1 | refine below_set ?_ bJ.out | refine below_set ?_ bJ.out | refine below_set ?_ bJ.out | refine below_set ?_ bJ.out | refine below_set ?_ bJ.out | refine below_set ?_ bJ.out | refine below_set ?_ bJ.out | refine below_set ?_ bJ.out | refine below_set ?_ bJ.out | refine below_set ?_ bJ.out | refine below_set ?_ bJ.out | refine below_set ?_ eV.out | refine below_set ?_ cC.out) | exact HB.out)⟩⟩
   rw [if_neg cO] at H
   have eO : (aC == aQ) = false := beq_eq_false_iff_ne.mpr cO
   have eP : (aC != aQ) = true := bne_iff_ne.mpr cO
   have eH := aM H
   clear H
   have iI := cA2 aG.out
   have bG : 0 ≤ (aC : Int) := dT
   have bH : aC < (aA.length : Int) := dT
   obtain ⟨aV, cQ, aX, aZ, bN, bO, bP, bQ, bR, bT, bU, bV, aW⟩ := at_T79 (Kd.R_reads' aD.out).2.2 aC bG bH
   (try rw [← aT.out] at aX)
   (try rw [← aT.out] at aZ)
   (try rw [← aT.out] at aW)
   cases cQ
   replace bG := eq_true bG
   replace bH := eq_true bH
   go_upto_region 8 with (first | ((with_reducible refine gD (N := 4) rfl ?_); refine box_event ?hg (N := 4) ?hd (cs := #[.bool false, .bool false, .int .i64 0, .int .i64 0, .int .i64 0, .int .i64 0, .int .i64 0, .int .i64 0, .int .i64 0, .int .i64 0, .bool false]) (t := 79) ?hr ?_; (case hd => rfl); (case hg => rfl); (case hr => first | (go_simp; done) | (go_simp; rfl) | (obtain ⟨A_, c_, e_⟩ := Kd.R_slice aD.out; subst e_; (first | (go_simp; done) | (go_simp; rfl))) | (obtain ⟨A_, c_, e_⟩ := Kd.S_slice aD.out; subst e_; (first | (go_simp; done) | (go_simp; rfl)))); intro aH hg nD hbox hb; have aE := aM (hbox); have cA := gE hg (kk HK.out).1; have cC := gF hg HB; have aJ := nM hg aG; have bD := nH hg aG; replace aD := aM (kB (Kd.R_elderB (kr aD.out) aH (Nat.le_of_eq hg.symm)) hb); replace aG := rB aG hb; replace HK := aM (Kept.below (S := (fun k_ => P0_1_ k_)) (kk HK.out) hb); replace HB := rS HB hb; clear hb hbox hg; have lY := bD.out; have lZ := aJ.out; have iJ := cA11 aE.out))
   (try simp only [Act.put, sA, sZ, sS])
   go_cut [41] (fun jV wc => ∃ (kq : Nat) (cE : Bool) (aK : Int), jV = .bool cE ∧ Aside0 (impl_Bridge_decide.j1 kq aQ aC (aN.length : Int) aC cE aK aA true ((rd_T79 aA aC).f1) ((rd_T79 aA aC).f2.f0) ((rd_T79 aA aC).f2.f1) ((rd_T79 aA aC).f2.f2) ((rd_T79 aA aC).f2.f3) ((rd_T79 aA aC).f3) ((rd_T79 aA aC).f4) ((rd_T79 aA aC).f5) ((rd_T79 aA aC).f6) ((rd_T79 aA aC).f7) = some r) ∧ Aside0 (kq ≤ k1) ∧ Aside0 (Kd.R k79 79 wc w0.heap.size (fun k_ => (P0_1_ k_ ∨ w.heap.size ≤ k_) ∧ k_ ≠ aH) (.slice (some aV) aA.length bM) aA) ∧ Aside0 (wc.heap[gb]? = some (.cells #[aK, (.slice (some aV) aA.length bM)] 28 (0, 0))) ∧ Aside0 (wc.heap[aH]? = some (.cells #[.bool true, ((rd_T79 aA aC).f1), ((rd_T79 aA aC).f2.f0), ((rd_T79 aA aC).f2.f1), ((rd_T79 aA aC).f2.f2), ((rd_T79 aA aC).f2.f3), ((rd_T79 aA aC).f3), ((rd_T79 aA aC).f4), ((rd_T79 aA aC).f5), ((rd_T79 aA aC).f6), ((rd_T79 aA aC).f7)] 79 (0, 0))) ∧ Aside0 (Kept w wc (fun k_ => P0_1_ k_)) ∧ Aside0 (Below w0.heap.size w0 wc))
   case first =>
    have H := eH.out
    clear eH
    obtain ⟨eA, hbq29⟩ : ∃ b_ : Bool, b_ = ((rd_T79 aA aC).f1) := ⟨_, rfl⟩
    replace H : (if eA = true then ((impl_Bridge_own.f k1 aI aA aC).bind fun bI => ((impl_Better.f k1 ((rd_T79 aA aC).f2.f0) ((rd_T79 aA aC).f2.f1) ((rd_T79 aA aC).f2.f2) ((rd_T79 aA aC).f2.f3) bI.1 bI.2.1 bI.2.2.1 bI.2.2.2).bind fun cL => (impl_Bridge_decide.j1 k1 aQ aC (aN.length : Int) aC cL aI aA true eA ((rd_T79 aA aC).f2.f0) ((rd_T79 aA aC).f2.f1) ((rd_T79 aA aC).f2.f2) ((rd_T79 aA aC).f2.f3) ((rd_T79 aA aC).f3) ((rd_T79 aA aC).f4) ((rd_T79 aA aC).f5) ((rd_T79 aA aC).f6) ((rd_T79 aA aC).f7)))) else (impl_Bridge_decide.j1 k1 aQ aC (aN.length : Int) aC false aI aA true eA ((rd_T79 aA aC).f2.f0) ((rd_T79 aA aC).f2.f1) ((rd_T79 aA aC).f2.f2) ((rd_T79 aA aC).f2.f3) ((rd_T79 aA aC).f3) ((rd_T79 aA aC).f4) ((rd_T79 aA aC).f5) ((rd_T79 aA aC).f6) ((rd_T79 aA aC).f7))) = some r := by rw [← hbq29] at H; exact H
    have bW := aM hbq29
    clear hbq29
    (try rw [← bW.out])
    by_cases eE : eA = true
    case neg =>
     replace eE := Bool.eq_false_iff.mpr eE
     subst eE
     replace H := hF H
     have H' := aM H
     clear H
     try go_wp2
     refine nW (fun W => Aside0 (Kd.R k79 79 W w0.heap.size (fun k_ => (P0_1_ k_ ∨ w.heap.size ≤ k_) ∧ k_ ≠ aH) (.slice (some aV) aA.length bM) aA) ∧ Aside0 (W.heap[gb]? = some (.cells #[aI, .slice (some aV) aA.length bM] 28 (0, 0))) ∧ Aside0 (W.heap[aH]? = some (.cells #[.bool true, .bool false, ((rd_T79 aA aC).f2.f0), ((rd_T79 aA aC).f2.f1), ((rd_T79 aA aC).f2.f2), ((rd_T79 aA aC).f2.f3), ((rd_T79 aA aC).f3), ((rd_T79 aA aC).f4), ((rd_T79 aA aC).f5), ((rd_T79 aA aC).f6), ((rd_T79 aA aC).f7)] 79 (0, 0))) ∧ Aside0 (Kept w W (fun k_ => P0_1_ k_)) ∧ Aside0 (Below w0.heap.size w0 W)) ⟨⟨kr (Kd.R_mono (kF (p := ⟨aH, 10, none⟩) (kF (p := ⟨aH, 9, none⟩) (kF (p := ⟨aH, 8, none⟩) (kF (p := ⟨aH, 7, none⟩) (kF (p := ⟨aH, 6, none⟩) (kF (p := ⟨aH, 5, none⟩) (kF (p := ⟨aH, 4, none⟩) (kF (p := ⟨aH, 3, none⟩) (kF (p := ⟨aH, 2, none⟩) (kF (p := ⟨aH, 1, none⟩) (kF (p := ⟨aH, 0, none⟩) (Kd.R_mono aD.out (fun k_ hk => (⟨hk, hk.2⟩ : _ ∧ k_ ≠ aH))) (fun _ hk => hk.2) (.bool true)) (fun _ hk => hk.2) (.bool (false))) (fun _ hk => hk.2) (.int .i64 ((rd_T79 aA aC).f2.f0))) (fun _ hk => hk.2) (.int .i64 ((rd_T79 aA aC).f2.f1))) (fun _ hk => hk.2) (.int .i64 ((rd_T79 aA aC).f2.f2))) (fun _ hk => hk.2) (.int .i64 ((rd_T79 aA aC).f2.f3))) (fun _ hk => hk.2) (.int .i64 ((rd_T79 aA aC).f3))) (fun _ hk => hk.2) (.int .i64 ((rd_T79 aA aC).f4))) (fun _ hk => hk.2) (.int .i64 ((rd_T79 aA aC).f5))) (fun _ hk => hk.2) (.int .i64 ((rd_T79 aA aC).f6))) (fun _ hk => hk.2) (.bool ((rd_T79 aA aC).f7))) (fun _ hk => ⟨hk.1.1, hk.1.2⟩))⟩, ⟨fm aG.out⟩, ⟨bm aE.out⟩, ⟨kk HK.out⟩, ⟨bl HB.out⟩⟩ ?_
     intro jW nn_
     replace aD := nn_.1
     replace aG := nn_.2.1
     replace aE := nn_.2.2.1
     replace HK := nn_.2.2.2.1
     replace HB := nn_.2.2.2.2
     clear nn_
     replace aD := aM (Kd.R_drew aD.out)
     replace aG := aM (blk_drew aG.out)
     replace aE := aM (blk_drew aE.out)
     replace HK := aM (Kept.drew HK.out)
     replace HB := aM (below_drew1 HB.out)
     refine start_ (n := 11) (S := fun w' => cS11 w' aH (.bool true) (.bool false) (.int .i64 ((rd_T79 aA aC).f2.f0)) (.int .i64 ((rd_T79 aA aC).f2.f1)) (.int .i64 ((rd_T79 aA aC).f2.f2)) (.int .i64 ((rd_T79 aA aC).f2.f3)) (.int .i64 ((rd_T79 aA aC).f3)) (.int .i64 ((rd_T79 aA aC).f4)) (.int .i64 ((rd_T79 aA aC).f5)) (.int .i64 ((rd_T79 aA aC).f6)) (.bool ((rd_T79 aA aC).f7))) (ds := []) (dn 11 0) (by kernel_rfl) rfl rfl ⟨cI aE.out 0, cI aE.out 1, cI aE.out 2, cI aE.out 3, cI aE.out 4, cI aE.out 5, cI aE.out 6, cI aE.out 7, cI aE.out 8, cI aE.out 9, cI aE.out 10⟩ (fun hHeld => ?_); refine with_tabW impl_Bridge_decide.tab8 impl_Bridge_decide.bits8 (fun HT_ HW_ => ?_)
     generalize jW.drew = nE at aD aG aE HK HB hHeld ⊢
     refine nY (N := some 42) HT_ ?_
     refine tY (N := some 43) HT_ HW_ hHeld ?_
     refine nY (N := some 44) HT_ ?_
     refine nU (N := some 45) HT_ ?_
     refine nU (N := some 46) HT_ ?_
     refine nU (N := some 47) HT_ ?_
     refine nU (N := some 48) HT_ ?_
     refine nU (N := some 49) HT_ ?_
     refine nU (N := some 50) HT_ ?_
     refine nY (N := some 51) HT_ ?_
     refine nY (N := some 41) HT_ ?_
     refine done_ (done_of HT_.out (by kernel_rfl)) ?_
     try go_wp2
     go_meet
     case rel => (try rw [← aT.out]); (try rw [← bW.out]); exact ⟨_, (false), (aI), xE, H', ⟨by have := bY.out; first | omega | exact Nat.le_refl _⟩, ⟨by (try simp only [hl314001_1]); (with_reducible repeat (first | apply Kd.R_alloc | apply Kd.R_drewN | apply Kd.R_drew)); exact aD.out⟩, ⟨by (try simp only [hl314001_1]); (with_reducible repeat (first | refine blk_drewN ?_ _ | refine blk_drew ?_ | refine blk_alloc ?_ _)); exact aG.out⟩, ⟨by (try simp only [hl314001_1]); (with_reducible repeat (first | refine blk_drewN ?_ _ | refine blk_drew ?_ | refine blk_alloc ?_ _)); exact aE.out⟩, ⟨kk HK.out⟩, ⟨bl HB.out⟩⟩
    subst eE
    replace H := hP H rfl
    obtain ⟨⟨eI, eJ, eK, eL⟩, gM, H⟩ := hB H
    try dsimp only at H
    have jX := aM gM
    clear gM
    obtain ⟨cL, gN, H⟩ := hB H
    have jY := aM gN
    clear gN
    have H' := aM H
    clear H
    try go_wp2
    refine nW (fun W => Aside0 (Kd.R k79 79 W w0.heap.size (fun k_ => (P0_1_ k_ ∨ w.heap.size ≤ k_) ∧ k_ ≠ aH) (.slice (some aV) aA.length bM) aA) ∧ Aside0 (W.heap[gb]? = some (.cells #[aI, .slice (some aV) aA.length bM] 28 (0, 0))) ∧ Aside0 (W.heap[aH]? = some (.cells #[.bool true, .bool true, ((rd_T79 aA aC).f2.f0), ((rd_T79 aA aC).f2.f1), ((rd_T79 aA aC).f2.f2), ((rd_T79 aA aC).f2.f3), ((rd_T79 aA aC).f3), ((rd_T79 aA aC).f4), ((rd_T79 aA aC).f5), ((rd_T79 aA aC).f6), ((rd_T79 aA aC).f7)] 79 (0, 0))) ∧ Aside0 (Kept w W (fun k_ => P0_1_ k_)) ∧ Aside0 (Below w0.heap.size w0 W)) ⟨⟨kr (Kd.R_mono (kF (p := ⟨aH, 10, none⟩) (kF (p := ⟨aH, 9, none⟩) (kF (p := ⟨aH, 8, none⟩) (kF (p := ⟨aH, 7, none⟩) (kF (p := ⟨aH, 6, none⟩) (kF (p := ⟨aH, 5, none⟩) (kF (p := ⟨aH, 4, none⟩) (kF (p := ⟨aH, 3, none⟩) (kF (p := ⟨aH, 2, none⟩) (kF (p := ⟨aH, 1, none⟩) (kF (p := ⟨aH, 0, none⟩) (Kd.R_mono aD.out (fun k_ hk => (⟨hk, hk.2⟩ : _ ∧ k_ ≠ aH))) (fun _ hk => hk.2) (.bool true)) (fun _ hk => hk.2) (.bool (true))) (fun _ hk => hk.2) (.int .i64 ((rd_T79 aA aC).f2.f0))) (fun _ hk => hk.2) (.int .i64 ((rd_T79 aA aC).f2.f1))) (fun _ hk => hk.2) (.int .i64 ((rd_T79 aA aC).f2.f2))) (fun _ hk => hk.2) (.int .i64 ((rd_T79 aA aC).f2.f3))) (fun _ hk => hk.2) (.int .i64 ((rd_T79 aA aC).f3))) (fun _ hk => hk.2) (.int .i64 ((rd_T79 aA aC).f4))) (fun _ hk => hk.2) (.int .i64 ((rd_T79 aA aC).f5))) (fun _ hk => hk.2) (.int .i64 ((rd_T79 aA aC).f6))) (fun _ hk => hk.2) (.bool ((rd_T79 aA aC).f7))) (fun _ hk => ⟨hk.1.1, hk.1.2⟩))⟩, ⟨fm aG.out⟩, ⟨bm aE.out⟩, ⟨kk HK.out⟩, ⟨bl HB.out⟩⟩ ?_
    intro jZ nn_
    replace aD := nn_.1
    replace aG := nn_.2.1
    replace aE := nn_.2.2.1
    replace HK := nn_.2.2.2.1
    replace HB := nn_.2.2.2.2
    clear nn_
    replace aD := aM (Kd.R_drew aD.out)
    replace aG := aM (blk_drew aG.out)
    replace aE := aM (blk_drew aE.out)
    replace HK := aM (Kept.drew HK.out)
    replace HB := aM (below_drew1 HB.out)
    refine start_ (n := 11) (S := fun w' => cT11 w' aH (.bool true) (.bool true) (.int .i64 ((rd_T79 aA aC).f2.f0)) (.int .i64 ((rd_T79 aA aC).f2.f1)) (.int .i64 ((rd_T79 aA aC).f2.f2)) (.int .i64 ((rd_T79 aA aC).f2.f3)) (.int .i64 ((rd_T79 aA aC).f3)) (.int .i64 ((rd_T79 aA aC).f4)) (.int .i64 ((rd_T79 aA aC).f5)) (.int .i64 ((rd_T79 aA aC).f6)) (.bool ((rd_T79 aA aC).f7)) (cS2 w' gb (.int .i64 aI) (.slice (some aV) aA.length bM))) (ds := []) (dn 11 0) (by kernel_rfl) rfl rfl ⟨cI aE.out 0, cI aE.out 1, cI aE.out 2, cI aE.out 3, cI aE.out 4, cI aE.out 5, cI aE.out 6, cI aE.out 7, cI aE.out 8, cI aE.out 9, cI aE.out 10, cI aG.out 0, cI aG.out 1⟩ (fun hHeld => ?_); refine with_tabW impl_Bridge_decide.tab8 impl_Bridge_decide.bits8 (fun HT_ HW_ => ?_)
    generalize jZ.drew = nF at aD aG aE HK HB hHeld ⊢
    refine nY (N := some 42) HT_ ?_
    refine tY (N := some 43) HT_ HW_ hHeld ?_
    refine nY (N := some 44) HT_ ?_
    refine nY (N := some 45) HT_ ?_
    refine pY (i := 6) (N := some 48) #[Y,Y,Y,Y,U,U,Y,U,U,U,U] HT_ ?_
    refine aY (i := 4) (N := some 46) #[Y,Y,Y,Y,Y,U,Y,U,U,U,U] HT_ HW_ hHeld ?_
    refine aY (i := 5) (N := some 47) #[Y,Y,Y,Y,Y,Y,Y,U,U,U,U] HT_ HW_ hHeld ?_
    refine one_ (i := 7) (N := some 49) #[Y,Y,Y,Y,Y,Y,Y,Y,U,U,U] rfl rfl (one_of HT_.out (by kernel_rfl)) (by decide) (fun K hK => ?_)
    refine goes_ Try.func120 (by kernel_rfl) rfl #[.pointer (some ⟨gb, 0, none⟩), aC] (by rfl) rfl rfl xR ?_
    with_reducible refine (impl_Bridge_own.calls (gb := gb) (hBK := (bk aG.out)) k1 aI _ _ aA aC eI eJ eK eL _ ?side1 ?side2 jX.out).mono ?_
    (case side1 => repeat (first | exact (Kd.R_reads' aD.out).2.2 | (with_reducible refine Kd.C_alloc ?_ _) | (with_reducible refine Kd.C_drewN ?_ _) | (with_reducible refine Kd.C_drew ?_)))
    (case side2 => exact (Kd.R_reads' aD.out).2.1)
    rintro e nI ⟨rfl, hb⟩
    refine ⟨_, rfl, ?_⟩
    replace aD := aM (kB (kr aD.out) hb)
    replace aG := rB aG hb
    replace aE := rB aE hb
    replace HK := aM (Kept.below (S := (fun k_ => P0_1_ k_)) (kk HK.out) hb)
    replace HB := rS HB hb
    (try clear hb)
    (try clear hb2)
    (try clear hk)
    (try clear hi)
    refine hK.out _ _ ⟨cI aE.out 0, cI aE.out 1, cI aE.out 2, cI aE.out 3, cI aE.out 4, cI aE.out 5, cI aE.out 6, cI aE.out 7, cI aE.out 8, cI aE.out 9, cI aE.out 10, cI aG.out 0, cI aG.out 1⟩ (fun hHeld => ?_)
    clear hK K
    refine norm_ (a' := ?_) ?_ ?_
    rotate_left
    ·show Act.put _ (some 49) _ = _
     simp only [Act.put, sA, sZ, sS, i64_w, i32_w]
     rfl
    refine one_ (i := 8) (N := some 50) #[Y,Y,Y,Y,Y,Y,Y,Y,Y,U,U] rfl rfl (one_of HT_.out (by kernel_rfl)) (by decide) (fun K hK => ?_)
    refine goes_ Try.func47 (by kernel_rfl) rfl #[.agg #[((rd_T79 aA aC).f2.f0), ((rd_T79 aA aC).f2.f1), ((rd_T79 aA aC).f2.f2), ((rd_T79 aA aC).f2.f3)], .agg #[eI, eJ, eK, eL]] (by rfl) rfl rfl xR ?_
    with_reducible refine (impl_Better.calls k1 ((rd_T79 aA aC).f2.f0) ((rd_T79 aA aC).f2.f1) ((rd_T79 aA aC).f2.f2) ((rd_T79 aA aC).f2.f3) eI eJ eK eL cL _ jY.out).mono ?_
    rintro e nJ ⟨rfl, hb⟩
    refine ⟨_, rfl, ?_⟩
    replace aD := aM (kB (kr aD.out) hb)
    replace aG := rB aG hb
    replace aE := rB aE hb
    replace HK := aM (Kept.below (S := (fun k_ => P0_1_ k_)) (kk HK.out) hb)
    replace HB := rS HB hb
    (try clear hb)
    (try clear hb2)
    (try clear hk)
    (try clear hi)
    refine hK.out _ _ ⟨cI aE.out 0, cI aE.out 1, cI aE.out 2, cI aE.out 3, cI aE.out 4, cI aE.out 5, cI aE.out 6, cI aE.out 7, cI aE.out 8, cI aE.out 9, cI aE.out 10, cI aG.out 0, cI aG.out 1⟩ (fun hHeld => ?_)
    clear hK K
    refine norm_ (a' := ?_) ?_ ?_
    rotate_left
    ·show Act.put _ (some 50) _ = _
     simp only [Act.put, sA, sZ, sS, i64_w, i32_w]
     rfl
    refine pY (i := 9) (N := some 51) #[Y,Y,Y,Y,Y,Y,Y,Y,Y,Y,U] HT_ ?_
    refine pY (i := 10) (N := some 41) #[Y,Y,Y,Y,Y,Y,Y,Y,Y,Y,Y] HT_ ?_
    refine done_ (done_of HT_.out (by kernel_rfl)) ?_
    try go_wp2
    go_meet
    case rel => (try rw [← aT.out]); (try rw [← bW.out]); exact ⟨_, (cL), (aI), xE, H', ⟨by have := bY.out; first | omega | exact Nat.le_refl _⟩, ⟨by (try simp only [hl314001_1]); (with_reducible repeat (first | apply Kd.R_alloc | apply Kd.R_drewN | apply Kd.R_drew)); exact aD.out⟩, ⟨by (try simp only [hl314001_1]); (with_reducible repeat (first | refine blk_drewN ?_ _ | refine blk_drew ?_ | refine blk_alloc ?_ _)); exact aG.out⟩, ⟨by (try simp only [hl314001_1]); (with_reducible repeat (first | refine blk_drewN ?_ _ | refine blk_drew ?_ | refine blk_alloc ?_ _)); exact aE.out⟩, ⟨kk HK.out⟩, ⟨bl HB.out⟩⟩
   case rest =>
    clear eH
    repeat first|clear c1|clear p1|clear q1|clear nK|clear nN|clear c2|clear p2|clear q2|clear c3|clear p3|clear q3|clear nO|clear c4|clear p6|clear c7|clear c8|clear eF|clear c9|clear iS|clear nP|clear iC|clear nQ|clear eB|clear cO|clear eO|clear eP|clear nR|clear nS|clear eC|clear eD|clear mM|clear mN|clear nT|clear nV|clear nX|clear nZ|clear eE|clear oA|clear oB|clear mO|clear iE|clear iX|clear iF|clear iI|clear iY|clear iJ|clear fG|clear fI|clear fH|clear iZ|clear jA|clear jB|clear jC|clear fK|clear fL|clear fU|clear fV|clear fF|clear fW|clear fX|clear fY|clear gA|clear gB|clear gG|clear gH|clear gJ|clear aX|clear aZ|clear aW|clear bN|clear bO|clear bP|clear bQ|clear bR|clear bT|clear bU|clear bV|clear eC|clear p2|clear bG|clear eD|clear bH
    obtain ⟨kq, cE, aK, rfl, HA, HJ23, aD, aG, aE, HK, HB⟩ := hcut
    cases kq with
    | zero => exact absurd HA.out (by simp [impl_Bridge_decide.j1])
    | succ cN =>
     have H := HA.out
     clear HA
     simp only [impl_Bridge_decide.j1] at H
     by_cases eW : cE = true
     case neg =>
      replace eW := Bool.eq_false_iff.mpr eW
      subst eW
      replace H := hF H
      obtain ⟨⟨dD, dE, dF, dG, dH, dI, dJ, dK, dL, dM, dN⟩, gO, H⟩ := hB H
      try dsimp only at H
      have kA := aM gO
      clear gO
      obtain ⟨mA, H⟩ := gI H
      obtain ⟨mB, H⟩ := gI H
      obtain ⟨gP, cG⟩ : ∃ y_ : List (S79), y_ = (aA.set (aC : Int).toNat (⟨dD, dE, (⟨dF, dG, dH, dI⟩ : S73), dJ, dK, dL, dM, dN⟩ : S79)) := ⟨_, rfl⟩
      replace H : (impl_Bridge_decide.l0 cN aQ (aN.length : Int) (wrap64 (aC + 1)) aK gP) = some r := by first | (rw [cG]; with_reducible exact H) | (have H2_ := (Option.bind_some _ _).symm.trans H; rw [cG]; with_reducible exact H2_) | (have H2_ := (Option.bind_some _ _).symm.trans H; with_reducible exact H2_) | with_reducible exact H | (rw [cG]; exact H) | exact H
      have iK := aM cG
      clear cG
      have H' := aM H
      clear H
      try go_wp2
      replace aD := aM (Kd.R_drew aD.out)
      replace aG := aM (blk_drew aG.out)
      replace aE := aM (blk_drew aE.out)
      replace HK := aM (Kept.drew HK.out)
      replace HB := aM (below_drew1 HB.out)
      refine start_ (n := 9) (S := fun w' => cT2 w' gb (.int .i64 aK) (.slice (some aV) aA.length bM) (cS11 w' aH (.bool true) (.bool ((rd_T79 aA aC).f1)) (.int .i64 ((rd_T79 aA aC).f2.f0)) (.int .i64 ((rd_T79 aA aC).f2.f1)) (.int .i64 ((rd_T79 aA aC).f2.f2)) (.int .i64 ((rd_T79 aA aC).f2.f3)) (.int .i64 ((rd_T79 aA aC).f3)) (.int .i64 ((rd_T79 aA aC).f4)) (.int .i64 ((rd_T79 aA aC).f5)) (.int .i64 ((rd_T79 aA aC).f6)) (.bool ((rd_T79 aA aC).f7)))) (ds := [8]) (dn 9 0) (by kernel_rfl) rfl rfl ⟨cI aG.out 0, cI aG.out 1, cI aE.out 0, cI aE.out 1, cI aE.out 2, cI aE.out 3, cI aE.out 4, cI aE.out 5, cI aE.out 6, cI aE.out 7, cI aE.out 8, cI aE.out 9, cI aE.out 10⟩ (fun hHeld => ?_); refine with_tabW impl_Bridge_decide.tab4 impl_Bridge_decide.bits4 (fun HT_ HW_ => ?_)
      generalize wc.drew = oC at aD aG aE HK HB hHeld ⊢
      refine nY (N := some 17) HT_ ?_
      refine nY (N := some 18) HT_ ?_
      refine nY (N := some 19) HT_ ?_
      refine pY (i := 4) (N := some 21) #[Y,Y,Y,U,Y,U,U,U,U] HT_ ?_
      refine aY (i := 3) (N := some 20) #[Y,Y,Y,Y,Y,U,U,U,U] HT_ HW_ hHeld ?_
      refine aY (i := 5) (N := some 22) #[Y,Y,Y,Y,Y,Y,U,U,U] HT_ HW_ hHeld ?_
      refine one_ (i := 6) (N := some 23) #[Y,Y,Y,Y,Y,Y,Y,U,U] rfl rfl (one_of HT_.out (by kernel_rfl)) (by decide) (fun K hK => ?_)
      refine goes_ Try.func145 (by kernel_rfl) rfl #[.agg #[.bool true, ((rd_T79 aA aC).f1), ((rd_T79 aA aC).f2.f0), ((rd_T79 aA aC).f2.f1), ((rd_T79 aA aC).f2.f2), ((rd_T79 aA aC).f2.f3), ((rd_T79 aA aC).f3), ((rd_T79 aA aC).f4), ((rd_T79 aA aC).f5), ((rd_T79 aA aC).f6), ((rd_T79 aA aC).f7)], .int .i64 2] (by rfl) rfl rfl xR ?_
      with_reducible refine (impl_Turn.calls cN true ((rd_T79 aA aC).f1) ((rd_T79 aA aC).f2.f0) ((rd_T79 aA aC).f2.f1) ((rd_T79 aA aC).f2.f2) ((rd_T79 aA aC).f2.f3) ((rd_T79 aA aC).f3) ((rd_T79 aA aC).f4) ((rd_T79 aA aC).f5) ((rd_T79 aA aC).f6) ((rd_T79 aA aC).f7) 2 dD dE dF dG dH dI dJ dK dL dM dN _ kA.out).mono ?_
      rintro e oD ⟨rfl, hb⟩
      refine ⟨_, rfl, ?_⟩
      replace aD := aM (kB (kr aD.out) hb)
      replace aG := rB aG hb
      replace aE := rB aE hb
      replace HK := aM (Kept.below (S := (fun k_ => P0_1_ k_)) (kk HK.out) hb)
      replace HB := rS HB hb
      (try clear hb)
      (try clear hb2)
      (try clear hk)
      (try clear hi)
      have gQ : 0 ≤ (aC : Int) := dT
      have gR : (aC : Int) < ((aA.length : Int) : Int) := dT
      obtain ⟨gS, mP, gT, gU, iU, mQ, gV⟩ := Kd.R_form aD.out (by omega)
      (first | cases gT | (injection gT with ea_ en_ ec_; (first | subst ea_ | (injection ea_ with ea_; subst ea_)); subst ec_; clear en_))
      have bK := aM gU
      have mR := aM gV
      clear gU iU gV
      have HMgo50 := aM (show (P0_1_ gS ∨ w.heap.size ≤ gS) from (aD.out.1 _ rfl).1)
      obtain ⟨mS, iL, gW, eX, eY⟩ := Kd.R_elem aD.out z79 (aC : Int) gQ gR
      obtain rfl := k79_openM gW
      obtain ⟨kC, kD, kE, kG, kH, kI, kJ, kK, kL, kM, jD, kN, kO, kP, kQ, kR, kS, kT, kU, kV, kW, jE⟩ := eS79 (rd_T79 aA aC) eX eY
      clear iL eX eY gW
      replace gQ := eq_true gQ
      replace gR := eq_true gR
      obtain ⟨mT, eZ, gX, fA, iM⟩ := Kd.R_elem aD.out z79 (aC : Int) (dT) (by have h_ : (aC : Int) < ((aA.length : Int) : Int) := dT; first | exact h_ | (have e_ := (Kd.R_reads' aD.out).1; omega) | simpa using h_)
      obtain rfl := k79_openM gX
      have eM := (Kd.R_seg aD.out (aC : Int) (dT) (by have h_ : (aC : Int) < ((aA.length : Int) : Int) := dT; first | exact h_ | (have e_ := (Kd.R_reads' aD.out).1; omega) | simpa using h_) (seg := [.bool dD, .bool dE, .int .i64 dF, .int .i64 dG, .int .i64 dH, .int .i64 dI, .int .i64 dJ, .int .i64 dK, .int .i64 dL, .int .i64 dM, .bool dN]) (j := 0) eZ fA (show 11 ≤ 11 from by decide) (x' := (⟨dD, dE, (⟨dF, dG, dH, dI⟩ : S73), dJ, dK, dL, dM, dN⟩ : S79)) (k79_mkM _ _ _ (⟨dD, dE, (⟨dF, dG, dH, dI⟩ : S73), dJ, dK, dL, dM, dN⟩ : S79) ) (fun _ hk => hk)).1
      rw [← iK.out] at eM
      have HQ53 := aM eM
      clear eZ fA iM gX eM
      refine hK.out _ _ ⟨cI aG.out 0, cI aG.out 1, cI aE.out 0, cI aE.out 1, cI aE.out 2, cI aE.out 3, cI aE.out 4, cI aE.out 5, cI aE.out 6, cI aE.out 7, cI aE.out 8, cI aE.out 9, cI aE.out 10⟩ (fun hHeld => ?_)
      clear hK K
      refine norm_ (a' := ?_) ?_ ?_
      rotate_left
      ·show Act.put _ (some 23) _ = _
       simp only [Act.put, sA, sZ, sS, i64_w, i32_w]
       rfl
      refine pY (i := 7) (N := some 24) #[Y,Y,Y,Y,Y,Y,Y,Y,U] HT_ ?_
      refine last_ (i := 8) (N := none) #[Y,Y,Y,Y,Y,Y,Y,Y,Y] rfl rfl (one_of HT_.out (by kernel_rfl)) (by decide) (fun K hK => ?_)
      refine skip_ (w1 := ?_) (by rfl) rfl ?_ ?_
      rotate_left
      ·go_simp
       rfl
      refine hK.out _ _ ?_
      clear hK K
      refine done_ (done_of HT_.out (by kernel_rfl)) ?_
      try go_wp2
      (try simp only [← hl314001_1])
      go_roundg cN
      case measure => have := bY.out; have := HJ23.out; omega
      case rel => (try rw [← aT.out]); (try rw [← bW.out]); exact ⟨(wrap64 (aC + 1)), (aK), (gP), xE, H', ⟨by have := bY.out; have := HJ23.out; omega⟩, ⟨by (try simp only [hl314001_1]); (with_reducible repeat (first | apply Kd.R_alloc | apply Kd.R_drewN | apply Kd.R_drew)); exact Kd.R_mono HQ53.out (fun _ hk => hk.1)⟩, ⟨by (try simp only [hl314001_1]); (with_reducible repeat (first | refine blk_drewN ?_ _ | refine blk_drew ?_ | refine blk_alloc ?_ _)); refine blk_far ?_ (by have h_ := Kd.R_ne aD.out aG.out (by decide); intro e_; exact h_ (by rw [e_]; rfl)) _; (with_reducible repeat (first | refine blk_drewN ?_ _ | refine blk_drew ?_ | refine blk_alloc ?_ _)); refine blk_far ?_ (by have h_ := Kd.R_ne aD.out aG.out (by decide); intro e_; exact h_ (by rw [e_]; rfl)) _; (with_reducible repeat (first | refine blk_drewN ?_ _ | refine blk_drew ?_ | refine blk_alloc ?_ _)); refine blk_far ?_ (by have h_ := Kd.R_ne aD.out aG.out (by decide); intro e_; exact h_ (by rw [e_]; rfl)) _; (with_reducible repeat (first | refine blk_drewN ?_ _ | refine blk_drew ?_ | refine blk_alloc ?_ _)); refine blk_far ?_ (by have h_ := Kd.R_ne aD.out aG.out (by decide); intro e_; exact h_ (by rw [e_]; rfl)) _; (with_reducible repeat (first | refine blk_drewN ?_ _ | refine blk_drew ?_ | refine blk_alloc ?_ _)); refine blk_far ?_ (by have h_ := Kd.R_ne aD.out aG.out (by decide); intro e_; exact h_ (by rw [e_]; rfl)) _; (with_reducible repeat (first | refine blk_drewN ?_ _ | refine blk_drew ?_ | refine blk_alloc ?_ _)); refine blk_far ?_ (by have h_ := Kd.R_ne aD.out aG.out (by decide); intro e_; exact h_ (by rw [e_]; rfl)) _; (with_reducible repeat (first | refine blk_drewN ?_ _ | refine blk_drew ?_ | refine blk_alloc ?_ _)); refine blk_far ?_ (by have h_ := Kd.R_ne aD.out aG.out (by decide); intro e_; exact h_ (by rw [e_]; rfl)) _; (with_reducible repeat (first | refine blk_drewN ?_ _ | refine blk_drew ?_ | refine blk_alloc ?_ _)); refine blk_far ?_ (by have h_ := Kd.R_ne aD.out aG.out (by decide); intro e_; exact h_ (by rw [e_]; rfl)) _; (with_reducible repeat (first | refine blk_drewN ?_ _ | refine blk_drew ?_ | refine blk_alloc ?_ _)); refine blk_far ?_ (by have h_ := Kd.R_ne aD.out aG.out (by decide); intro e_; exact h_ (by rw [e_]; rfl)) _; (with_reducible repeat (first | refine blk_drewN ?_ _ | refine blk_drew ?_ | refine blk_alloc ?_ _)); refine blk_far ?_ (by have h_ := Kd.R_ne aD.out aG.out (by decide); intro e_; exact h_ (by rw [e_]; rfl)) _; (with_reducible repeat (first | refine blk_drewN ?_ _ | refine blk_drew ?_ | refine blk_alloc ?_ _)); refine blk_far ?_ (by have h_ := Kd.R_ne aD.out aG.out (by decide); intro e_; exact h_ (by rw [e_]; rfl)) _; (with_reducible repeat (first | refine blk_drewN ?_ _ | refine blk_drew ?_ | refine blk_alloc ?_ _)); exact aG.out⟩, ⟨by repeat (first | (with_reducible first | exact HK.out | apply Kept.alloc | apply Kept.drewN | apply Kept.drew | refine Kept.setCell ?_ HMgo50.out _ | refine Kept.setCell ?_ HMgo50.out _ | refine Kept.setCell ?_ HMgo50.out _ | refine Kept.setCell ?_ HMgo50.out _ | refine Kept.setCell ?_ HMgo50.out _ | refine Kept.setCell ?_ HMgo50.out _ | refine Kept.setCell ?_ HMgo50.out _ | refine Kept.setCell ?_ HMgo50.out _ | refine Kept.setCell ?_ HMgo50.out _ | refine Kept.setCell ?_ HMgo50.out _ | refine Kept.setCell ?_ HMgo50.out _ | refine Kept.setCell ?_ (.inr eU.out) _ | refine Kept.setCell ?_ (.inr cA.out) _) | exact HK.out)⟩, ⟨by repeat (first | (with_reducible first | exact HB.out | apply below_alloc | apply pw_below_drewN | apply below_drew1 | refine below_set ?_ bK.out | refine below_set ?_ bK.out | refine below_set ?_ bK.out | refine below_set ?_ bK.out | refine below_set ?_ bK.out | refine below_set ?_ bK.out | refine below_set ?_ bK.out | refine below_set ?_ bK.out | refine below_set ?_ bK.out | refine below_set ?_ bK.out | refine below_set ?_ bK.out | refine below_set ?_ eV.out | refine below_set ?_ cC.out) | exact HB.out)⟩⟩
     subst eW
     replace H := hP H rfl
     obtain ⟨⟨dO, dP, dQ, dR, dS, dU, dV, dW, dX, dY, dZ⟩, gY, H⟩ := hB H
     try dsimp only at H
     have kX := aM gY
     clear gY
     obtain ⟨mC, H⟩ := gI H
     obtain ⟨mD, H⟩ := gI H
     obtain ⟨gZ, cH⟩ : ∃ y_ : List (S79), y_ = (aA.set (aC : Int).toNat (⟨dO, dP, (⟨dQ, dR, dS, dU⟩ : S73), dV, dW, dX, dY, dZ⟩ : S79)) := ⟨_, rfl⟩
     replace H : (impl_Bridge_decide.l0 cN aQ (aN.length : Int) (wrap64 (aC + 1)) aK gZ) = some r := by first | (rw [cH]; with_reducible exact H) | (have H2_ := (Option.bind_some _ _).symm.trans H; rw [cH]; with_reducible exact H2_) | (have H2_ := (Option.bind_some _ _).symm.trans H; with_reducible exact H2_) | with_reducible exact H | (rw [cH]; exact H) | exact H
     have iN := aM cH
     clear cH
     have H' := aM H
     clear H
     try go_wp2
     replace aD := aM (Kd.R_drew aD.out)
     replace aG := aM (blk_drew aG.out)
     replace aE := aM (blk_drew aE.out)
     replace HK := aM (Kept.drew HK.out)
     replace HB := aM (below_drew1 HB.out)
     refine start_ (n := 9) (S := fun w' => cT2 w' gb (.int .i64 aK) (.slice (some aV) aA.length bM) (cS11 w' aH (.bool true) (.bool ((rd_T79 aA aC).f1)) (.int .i64 ((rd_T79 aA aC).f2.f0)) (.int .i64 ((rd_T79 aA aC).f2.f1)) (.int .i64 ((rd_T79 aA aC).f2.f2)) (.int .i64 ((rd_T79 aA aC).f2.f3)) (.int .i64 ((rd_T79 aA aC).f3)) (.int .i64 ((rd_T79 aA aC).f4)) (.int .i64 ((rd_T79 aA aC).f5)) (.int .i64 ((rd_T79 aA aC).f6)) (.bool ((rd_T79 aA aC).f7)))) (ds := [8]) (dn 9 0) (by kernel_rfl) rfl rfl ⟨cI aG.out 0, cI aG.out 1, cI aE.out 0, cI aE.out 1, cI aE.out 2, cI aE.out 3, cI aE.out 4, cI aE.out 5, cI aE.out 6, cI aE.out 7, cI aE.out 8, cI aE.out 9, cI aE.out 10⟩ (fun hHeld => ?_); refine with_tabW impl_Bridge_decide.tab9 impl_Bridge_decide.bits9 (fun HT_ HW_ => ?_)
     generalize wc.drew = oE at aD aG aE HK HB hHeld ⊢
     refine nY (N := some 52) HT_ ?_
     refine nY (N := some 53) HT_ ?_
     refine nY (N := some 54) HT_ ?_
     refine pY (i := 4) (N := some 56) #[Y,Y,Y,U,Y,U,U,U,U] HT_ ?_
     refine aY (i := 3) (N := some 55) #[Y,Y,Y,Y,Y,U,U,U,U] HT_ HW_ hHeld ?_
     refine aY (i := 5) (N := some 57) #[Y,Y,Y,Y,Y,Y,U,U,U] HT_ HW_ hHeld ?_
     refine one_ (i := 6) (N := some 58) #[Y,Y,Y,Y,Y,Y,Y,U,U] rfl rfl (one_of HT_.out (by kernel_rfl)) (by decide) (fun K hK => ?_)
     refine goes_ Try.func145 (by kernel_rfl) rfl #[.agg #[.bool true, ((rd_T79 aA aC).f1), ((rd_T79 aA aC).f2.f0), ((rd_T79 aA aC).f2.f1), ((rd_T79 aA aC).f2.f2), ((rd_T79 aA aC).f2.f3), ((rd_T79 aA aC).f3), ((rd_T79 aA aC).f4), ((rd_T79 aA aC).f5), ((rd_T79 aA aC).f6), ((rd_T79 aA aC).f7)], .int .i64 3] (by rfl) rfl rfl xR ?_
     with_reducible refine (impl_Turn.calls cN true ((rd_T79 aA aC).f1) ((rd_T79 aA aC).f2.f0) ((rd_T79 aA aC).f2.f1) ((rd_T79 aA aC).f2.f2) ((rd_T79 aA aC).f2.f3) ((rd_T79 aA aC).f3) ((rd_T79 aA aC).f4) ((rd_T79 aA aC).f5) ((rd_T79 aA aC).f6) ((rd_T79 aA aC).f7) 3 dO dP dQ dR dS dU dV dW dX dY dZ _ kX.out).mono ?_
     rintro e oF ⟨rfl, hb⟩
     refine ⟨_, rfl, ?_⟩
     replace aD := aM (kB (kr aD.out) hb)
     replace aG := rB aG hb
     replace aE := rB aE hb
     replace HK := aM (Kept.below (S := (fun k_ => P0_1_ k_)) (kk HK.out) hb)
     replace HB := rS HB hb
     (try clear hb)
     (try clear hb2)
     (try clear hk)
     (try clear hi)
     have hJ : 0 ≤ (aC : Int) := dT
     have hO : (aC : Int) < ((aA.length : Int) : Int) := dT
     obtain ⟨hU, mU, hX, hY, iV, mV, hZ⟩ := Kd.R_form aD.out (by omega)
     (first | cases hX | (injection hX with ea_ en_ ec_; (first | subst ea_ | (injection ea_ with ea_; subst ea_)); subst ec_; clear en_))
     have bL := aM hY
     have mW := aM hZ
     clear hY iV hZ
     have HMgo43 := aM (show (P0_1_ hU ∨ w.heap.size ≤ hU) from (aD.out.1 _ rfl).1)
     (first | simp only [add_plain] at aX | skip)
     (first | simp only [add_plain] at aZ | skip)
     (first | simp only [add_plain] at bN | skip)
     (first | simp only [add_plain] at bO | skip)
     (first | simp only [add_plain] at bP | skip)
     (first | simp only [add_plain] at bQ | skip)
     (first | simp only [add_plain] at bR | skip)
     (first | simp only [add_plain] at bT | skip)
     (first | simp only [add_plain] at bU | skip)
     (first | simp only [add_plain] at bV | skip)
     (first | simp only [add_plain] at aW | skip)
     obtain ⟨mX, iO, iA, fB, fC⟩ := Kd.R_elem aD.out z79 (aC : Int) hJ hO
     obtain rfl := k79_openM iA
     obtain ⟨kY, kZ, lA, lB, lC, lD, lE, lF, lG, lH, jF, lI, lJ, lK, lL, lM, lN, lO, lP, lQ, lR, jG⟩ := eS79 (rd_T79 aA aC) fB fC
     clear iO fB fC iA
     replace hJ := eq_true hJ
     replace hO := eq_true hO
     obtain ⟨mY, fD, iB, fE, iP⟩ := Kd.R_elem aD.out z79 (aC : Int) (dT) (by have h_ : (aC : Int) < ((aA.length : Int) : Int) := dT; first | exact h_ | (have e_ := (Kd.R_reads' aD.out).1; omega) | simpa using h_)
     obtain rfl := k79_openM iB
     have eN := (Kd.R_seg aD.out (aC : Int) (dT) (by have h_ : (aC : Int) < ((aA.length : Int) : Int) := dT; first | exact h_ | (have e_ := (Kd.R_reads' aD.out).1; omega) | simpa using h_) (seg := [.bool dO, .bool dP, .int .i64 dQ, .int .i64 dR, .int .i64 dS, .int .i64 dU, .int .i64 dV, .int .i64 dW, .int .i64 dX, .int .i64 dY, .bool dZ]) (j := 0) fD fE (show 11 ≤ 11 from by decide) (x' := (⟨dO, dP, (⟨dQ, dR, dS, dU⟩ : S73), dV, dW, dX, dY, dZ⟩ : S79)) (k79_mkM _ _ _ (⟨dO, dP, (⟨dQ, dR, dS, dU⟩ : S73), dV, dW, dX, dY, dZ⟩ : S79) ) (fun _ hk => hk)).1
     rw [← iN.out] at eN
     have HQ46 := aM eN
     clear fD fE iP iB eN
     refine hK.out _ _ ⟨cI aG.out 0, cI aG.out 1, cI aE.out 0, cI aE.out 1, cI aE.out 2, cI aE.out 3, cI aE.out 4, cI aE.out 5, cI aE.out 6, cI aE.out 7, cI aE.out 8, cI aE.out 9, cI aE.out 10⟩ (fun hHeld => ?_)
     clear hK K
     refine norm_ (a' := ?_) ?_ ?_
     rotate_left
     ·show Act.put _ (some 58) _ = _
      simp only [Act.put, sA, sZ, sS, i64_w, i32_w]
      rfl
     refine pY (i := 7) (N := some 59) #[Y,Y,Y,Y,Y,Y,Y,Y,U] HT_ ?_
     refine last_ (i := 8) (N := none) #[Y,Y,Y,Y,Y,Y,Y,Y,Y] rfl rfl (one_of HT_.out (by kernel_rfl)) (by decide) (fun K hK => ?_)
     refine skip_ (w1 := ?_) (by rfl) rfl ?_ ?_
     rotate_left
     ·go_simp
      rfl
     refine hK.out _ _ ?_
     clear hK K
     refine done_ (done_of HT_.out (by kernel_rfl)) ?_
     try go_wp2
     (try simp only [← hl314001_1])
     go_roundg cN
     case measure => have := bY.out; have := HJ23.out; omega
     case rel => (try rw [← aT.out]); (try rw [← bW.out]); exact ⟨(wrap64 (aC + 1)), (aK), (gZ), xE, H', ⟨by have := bY.out; have := HJ23.out; omega⟩, ⟨by (try simp only [hl314001_1]); (with_reducible repeat (first | apply Kd.R_alloc | apply Kd.R_drewN | apply Kd.R_drew)); exact Kd.R_mono HQ46.out (fun _ hk => hk.1)⟩, ⟨by (try simp only [hl314001_1]); (with_reducible repeat (first | refine blk_drewN ?_ _ | refine blk_drew ?_ | refine blk_alloc ?_ _)); refine blk_far ?_ (by have h_ := Kd.R_ne aD.out aG.out (by decide); intro e_; exact h_ (by rw [e_]; rfl)) _; (with_reducible repeat (first | refine blk_drewN ?_ _ | refine blk_drew ?_ | refine blk_alloc ?_ _)); refine blk_far ?_ (by have h_ := Kd.R_ne aD.out aG.out (by decide); intro e_; exact h_ (by rw [e_]; rfl)) _; (with_reducible repeat (first | refine blk_drewN ?_ _ | refine blk_drew ?_ | refine blk_alloc ?_ _)); refine blk_far ?_ (by have h_ := Kd.R_ne aD.out aG.out (by decide); intro e_; exact h_ (by rw [e_]; rfl)) _; (with_reducible repeat (first | refine blk_drewN ?_ _ | refine blk_drew ?_ | refine blk_alloc ?_ _)); refine blk_far ?_ (by have h_ := Kd.R_ne aD.out aG.out (by decide); intro e_; exact h_ (by rw [e_]; rfl)) _; (with_reducible repeat (first | refine blk_drewN ?_ _ | refine blk_drew ?_ | refine blk_alloc ?_ _)); refine blk_far ?_ (by have h_ := Kd.R_ne aD.out aG.out (by decide); intro e_; exact h_ (by rw [e_]; rfl)) _; (with_reducible repeat (first | refine blk_drewN ?_ _ | refine blk_drew ?_ | refine blk_alloc ?_ _)); refine blk_far ?_ (by have h_ := Kd.R_ne aD.out aG.out (by decide); intro e_; exact h_ (by rw [e_]; rfl)) _; (with_reducible repeat (first | refine blk_drewN ?_ _ | refine blk_drew ?_ | refine blk_alloc ?_ _)); refine blk_far ?_ (by have h_ := Kd.R_ne aD.out aG.out (by decide); intro e_; exact h_ (by rw [e_]; rfl)) _; (with_reducible repeat (first | refine blk_drewN ?_ _ | refine blk_drew ?_ | refine blk_alloc ?_ _)); refine blk_far ?_ (by have h_ := Kd.R_ne aD.out aG.out (by decide); intro e_; exact h_ (by rw [e_]; rfl)) _; (with_reducible repeat (first | refine blk_drewN ?_ _ | refine blk_drew ?_ | refine blk_alloc ?_ _)); refine blk_far ?_ (by have h_ := Kd.R_ne aD.out aG.out (by decide); intro e_; exact h_ (by rw [e_]; rfl)) _; (with_reducible repeat (first | refine blk_drewN ?_ _ | refine blk_drew ?_ | refine blk_alloc ?_ _)); refine blk_far ?_ (by have h_ := Kd.R_ne aD.out aG.out (by decide); intro e_; exact h_ (by rw [e_]; rfl)) _; (with_reducible repeat (first | refine blk_drewN ?_ _ | refine blk_drew ?_ | refine blk_alloc ?_ _)); refine blk_far ?_ (by have h_ := Kd.R_ne aD.out aG.out (by decide); intro e_; exact h_ (by rw [e_]; rfl)) _; (with_reducible repeat (first | refine blk_drewN ?_ _ | refine blk_drew ?_ | refine blk_alloc ?_ _)); exact aG.out⟩, ⟨by repeat (first | (with_reducible first | exact HK.out | apply Kept.alloc | apply Kept.drewN | apply Kept.drew | refine Kept.setCell ?_ HMgo43.out _ | refine Kept.setCell ?_ HMgo43.out _ | refine Kept.setCell ?_ HMgo43.out _ | refine Kept.setCell ?_ HMgo43.out _ | refine Kept.setCell ?_ HMgo43.out _ | refine Kept.setCell ?_ HMgo43.out _ | refine Kept.setCell ?_ HMgo43.out _ | refine Kept.setCell ?_ HMgo43.out _ | refine Kept.setCell ?_ HMgo43.out _ | refine Kept.setCell ?_ HMgo43.out _ | refine Kept.setCell ?_ HMgo43.out _ | refine Kept.setCell ?_ (.inr eU.out) _ | refine Kept.setCell ?_ (.inr cA.out) _) | exact HK.out)⟩, ⟨by repeat (first | (with_reducible first | exact HB.out | apply below_alloc | apply pw_below_drewN | apply below_drew1 | refine below_set ?_ bL.out | refine below_set ?_ bL.out | refine below_set ?_ bL.out | refine below_set ?_ bL.out | refine below_set ?_ bL.out | refine below_set ?_ bL.out | refine below_set ?_ bL.out | refine below_set ?_ bL.out | refine below_set ?_ bL.out | refine below_set ?_ bL.out | refine below_set ?_ bL.out | refine below_set ?_ eV.out | refine below_set ?_ cC.out) | exact HB.out)⟩⟩

end Go.Proofs.Ythmijfekdeagpaa.PFnRootPorts

/- A part of the proof of laws.FnFades. No condition beyond what its theorems say. -/
import Derived.Test.YthmijfekdeagpaaVFnFadesPx9
namespace Go.Proofs.Ythmijfekdeagpaa.PFnFades
open Go.RowKit Go.Proofs.YthmijfekdeagpaaW.PrintWords Go.Proofs.YthmijfekdeagpaaW.PrintLast Go.Proofs.YthmijfekdeagpaaW.PrintMore
set_option linter.unusedVariables false
set_option linter.unusedSimpArgs false

def spec_l1Once.f (aC : List Int) (aD aE a1 : Int) : Option (Bool × Int × Int) := (spec_l1Below.f aC aD aE a1).bind fun aA => (some ((aA.1 == 0), aA.2.1, aA.2.2))
set_option maxHeartbeats 60000000 in
set_option maxRecDepth 100000 in
theorem spec_l1Once.calls (g : Nat) (aA : List Int) (aC aD a1 : Int) (r1 : Bool) (r2 r3 : Int) (w0 w : World) (hI : IsS175 w0 w g aA aC aD) (hB : Below w0.heap.size w0 w) (h : spec_l1Once.f aA aC aD a1 = some (r1, r2, r3)) :
  Calls Try.prog 100 #[.pointer (some ⟨g, 0, none⟩), a1] w fun e w' => e = .returned (.bool r1) ∧ IsS175 w0 w' g aA r2 r3 ∧ Below w0.heap.size w0 w' ∧ KeepBut w w' g none := by
 have aG := aM hI
 have HK := aM (KeepBut.refl w g none)
 have HL := aM hB.size
 clear hI
 have HW0 := aM hB.size
 have HB := aM hB
 clear hB
 have H : ((spec_l1Below.f aA aC aD a1).bind fun aE => (some ((aE.1 == 0), aE.2.1, aE.2.2))) = some (r1, r2, r3) := h
 clear h
 obtain ⟨⟨aI, aJ, aK⟩, aH, H⟩ := hB H
 try dsimp only at H
 have A3 := aM aH
 clear aH
 simp only [Option.some.injEq, Prod.mk.injEq] at H
 obtain ⟨rfl, rfl, rfl⟩ := H
 go_enter Try.func100, Try.ntmps100
 go_wp2_with (first | ((with_reducible refine gC (f := 99) rfl ?_); refine gL (some 7) Try.func99 #[.pointer (some ⟨g, 0, none⟩), a1] ?_; (with_reducible refine (spec_l1Below.calls g aA aC aD a1 aI aJ aK w0 _ ?side1 ?side2 A3.out).mono ?_); (case side1 => exact IsS175.mv aG.out); (case side2 => exact IsS175.bl HB.out); rintro e w4 ⟨rfl, hi, hb, hk⟩; refine ⟨_, rfl, ?_⟩; replace HK := aM (KeepBut.trans (km HK.out) hk (.inl rfl)); replace HB := aM (hb); replace aG := aM (hi); (repeat first|clear hb|clear hk|clear hi)))
 go_ret
 exact ⟨xW, IsS175.mv aG.out, IsS175.bl HB.out, km HK.out⟩

def spec_l1Min.f (a0 a1 : Int) : Option (Int) := if a0 < a1 then (some a0) else (some a1)
set_option maxHeartbeats 60000000 in
set_option maxRecDepth 100000 in
theorem spec_l1Min.calls (a0 a1 r : Int) (w : World) (h : spec_l1Min.f a0 a1 = some r) :
  Calls Try.prog 198 #[a0, a1] w fun e w' => e = .returned (.int .i64 r) ∧ Drawn0 w w' := by
 have H : (if a0 < a1 then (some a0) else (some a1)) = some r := h
 clear h
 by_cases c3 : a0 < a1
 case pos =>
  rw [if_pos c3] at H
  have aA := decide_eq_true c3
  clear c3
  obtain rfl := Option.some.inj H
  go_enter Try.func198, Try.ntmps198
  go_wp2
  go_ret
  exact ⟨by first | rfl | (simp; done) | (simp [*]; done), by repeat (first | exact Drawn0.refl _ | apply Drawn0.step)⟩
 rw [if_neg c3] at H
 have aA := decide_eq_false c3
 clear c3
 obtain rfl := Option.some.inj H
 go_enter Try.func198, Try.ntmps198
 go_wp2
 go_ret
 exact ⟨by first | rfl | (simp; done) | (simp [*]; done), by repeat (first | exact Drawn0.refl _ | apply Drawn0.step)⟩

def spec_BridgeNew.l0 : Nat → Int → Int → Int → List (S79) → Option (Int × (List (S79)) × Bool)
 | 0, _, _, _, _ => none
 | k + 1, x1, x7, aC, aA => (spec_l1Min.f x1 5).bind fun aD => (if x7 < aD then (if aA.length < 1759218604441 then (spec_BridgeNew.l0 k x1 (wrap64 (x7 + 1)) aC (aA ++ [(⟨false, false, (⟨0, 0, 0, 0⟩ : S73), 0, 0, 0, 0, false⟩ : S79)])) else (none)) else ((spec_BridgeOk.f k aC aA).bind fun aE => (if aE = true then (some (aC, aA, true)) else (some (0, ([] : List (S79)), false)))))
def spec_BridgeNew.f (k : Nat) (a0 a1 : Int) : Option (Int × (List (S79)) × Bool) := spec_BridgeNew.l0 k a1 0 a0 ([] : List (S79))
theorem spec_BridgeNew.mono_l : ∀ k, (∀ y0 y1 y2 y3, LeO (spec_BridgeNew.l0 k y0 y1 y2 y3) (spec_BridgeNew.l0 (k + 1) y0 y1 y2 y3))
 | 0 => fun _ _ _ _ r h => by simp [spec_BridgeNew.l0] at h
 | k + 1 => by
  have ih0 := spec_BridgeNew.mono_l k
  ·intro y0 y1 y2 y3
   unfold spec_BridgeNew.l0
   repeat' first|(with_reducible first|apply ih0|apply spec_BridgeOk.mono|exact lR _|exact lN _|refine lI ?_ ?_|refine lB ?_ fun _ => ?_)|exact lN _|refine lI ?_ ?_|refine lB ?_ fun _ => ?_
theorem spec_BridgeNew.mono : ∀ a0 a1 k, LeO (spec_BridgeNew.f k a0 a1) (spec_BridgeNew.f (k + 1) a0 a1) := by
 intro a0 a1 k
 have ih0 := spec_BridgeNew.mono_l k
 unfold spec_BridgeNew.f
 repeat' first|(with_reducible first|apply ih0|apply spec_BridgeOk.mono|exact lR _|exact lN _|refine lI ?_ ?_|refine lB ?_ fun _ => ?_)|exact lN _|refine lI ?_ ?_|refine lB ?_ fun _ => ?_
set_option maxHeartbeats 60000000 in
set_option maxRecDepth 100000 in
theorem spec_BridgeNew.calls (k : Nat) (a0 a1 r1 : Int) (r2 : List (S79)) (r3 : Bool) (w : World) (h : spec_BridgeNew.f k a0 a1 = some (r1, r2, r3)) :
  Calls Try.prog 193 #[a0, a1] w fun e w' => ∃ bK : Value, e = .returned (.tuple #[.agg #[r1, bK], r3]) ∧ Kd.R k79 79 w' w.heap.size (fun _ => True) bK r2 ∧ Below w.heap.size w w' := by
 have cT := Try.underlying28
 have cU := Try.underlying79
 have HB := aM (Below.refl w.heap.size w)
 have H : (spec_BridgeNew.l0 k a1 0 a0 ([] : List (S79))) = some (r1, r2, r3) := h
 clear h
 have H' := aM H
 clear H
 go_enter Try.func193, Try.ntmps193
 go_wp2_with (first | ((with_reducible refine gD (N := 4) rfl ?_); refine bE (N := 4) (cs := #[.int .i64 0, .slice none 0 0]) (t := 28) ?_; intro aJ hg w3 hbox hb; have aC := aM (hbox); have bX := gF hg HB; have bY := gF hg HB; replace HB := rS HB hb; clear hb hbox hg) | ((with_reducible refine gD (N := 6) rfl ?_); refine bE (N := 6) (cs := #[.int .i64 0, .slice none 0 0]) (t := 28) ?_; intro aX hg w4 hbox hb; have aD := aM (hbox); have bZ := gF hg HB; have cA := gF hg HB; have aG := nM hg aC; have aH := nH hg aC; replace aC := rB aC hb; replace HB := rS HB hb; clear hb hbox hg; have cV := aH.out; have cW := aG.out; have cX := cA2 aD.out))
 go_loopg [7] k (fun kq v7 w' => ∃ (aN : Int) (aE : List (S79)) (aI : Value), v7 = .int .i64 aN ∧ Aside0 (spec_BridgeNew.l0 kq a1 aN a0 aE = some (r1, r2, r3)) ∧ Aside0 (kq ≤ k) ∧ Aside0 (Kd.R k79 79 w' w.heap.size (fun _ => True) aI aE) ∧ Aside0 (w'.heap[aJ]? = some (.cells #[.int .i64 0, (.slice none 0 0)] 28 (0, 0))) ∧ Aside0 (w'.heap[aX]? = some (.cells #[a0, aI] 28 (0, 0))) ∧ Aside0 (Below w.heap.size w w'))
 case atStart => exact ⟨(0), (([] : List (S79))), (.slice none 0 0), xE, H', ⟨Nat.le_refl _⟩, ⟨by first | exact Kd.R_nil _ _ _ _ _ | exact Kd.N_nil _ _ _ _ _ | exact Kd.V_nil _ _ _ _ _ | exact Kd.Q_nil _ _ _ _ _ | exact Kd.S_nil _ _ _ _ _⟩, ⟨fm aC.out⟩, ⟨bm aD.out⟩, ⟨bl HB.out⟩⟩
 case round =>
  clear H'
  repeat first|clear c1|clear p2|clear c5
  obtain ⟨aN, aE, aI, rfl, HA, bL, aA, aC, aD, HB⟩ := hrel
  cases gk with
  | zero => exact absurd HA.out (by simp [spec_BridgeNew.l0])
  | succ k1 =>
   have H := HA.out
   clear HA
   simp only [spec_BridgeNew.l0] at H
   obtain ⟨aQ, bM, H⟩ := hB H
   have A7 := aM bM
   clear bM
   by_cases c8 : aN < aQ
   case pos =>
    rw [if_pos c8] at H
    have bO := decide_eq_true c8
    clear c8
    by_cases c9 : aE.length < 1759218604441
    case neg =>
     rw [if_neg c9] at H
     exact absurd H (by simp)
    rw [if_pos c9] at H
    have LMc9 := aM c9
    clear c9
    obtain ⟨aT, aK⟩ : ∃ y_ : List (S79), y_ = (aE ++ [(⟨false, false, (⟨0, 0, 0, 0⟩ : S73), 0, 0, 0, 0, false⟩ : S79)]) := ⟨_, rfl⟩
    replace H : (spec_BridgeNew.l0 k1 a1 (wS aN) a0 aT) = some (r1, r2, r3) := by first | (rw [aK]; with_reducible exact H) | (have H2_ := (Option.bind_some _ _).symm.trans H; rw [aK]; with_reducible exact H2_) | (have H2_ := (Option.bind_some _ _).symm.trans H; with_reducible exact H2_) | with_reducible exact H | (rw [aK]; exact H) | exact H
    have bJ := aM aK
    clear aK
    have H' := aM H
    clear H
    go_wp2_with (first | ((with_reducible refine gC (f := 198) rfl ?_); refine gL (some 12) Try.func198 #[a1, .int .i64 5] ?_; (with_reducible refine (spec_l1Min.calls a1 5 aQ _ A7.out).mono ?_); rintro e w' ⟨rfl, ⟨nd, rfl⟩⟩; refine ⟨_, rfl, ?_⟩; (try (rw [drewN_self wr]; generalize hq_ : World.drewN wr _ = wr; replace aA := qR hq_ (kr aA.out); replace aC := qB hq_ (bk aC.out); replace aD := qB hq_ (bk aD.out); replace HB := qL hq_ (bl HB.out); clear hq_)); have cC := aH.out; have cD := aG.out; have cE := cA2 aD.out) | ((with_reducible refine gate_builtin (b := .append) (xs := #[.tmp 17, .tmp 19]) rfl ?_); at_builtin; refine Kd.R_append k79 (w0 := w) w.heap.size rfl (.tmp 17) (.tmp 19) 26 79 (.agg #[(.bool false), (.bool false), (.int .i64 0), (.int .i64 0), (.int .i64 0), (.int .i64 0), (.int .i64 0), (.int .i64 0), (.int .i64 0), (.int .i64 0), (.bool false)]) 80 rfl Try.underlying26 info79 rfl (by decide) (by omega) aI aE (⟨false, false, (⟨0, 0, 0, 0⟩ : S73), 0, 0, 0, 0, false⟩ : S79) [.bool false, .bool false, .int .i64 0, .int .i64 0, .int .i64 0, .int .i64 0, .int .i64 0, .int .i64 0, .int .i64 0, .int .i64 0, .bool false] (fun _ => True) (fun _ => False) rfl rfl ?aP (fun _ hk => hk.elim) ?aF ?aO ?aB ?aS ?aL ?_; (case aP => exact k79_mkM _ _ _ (⟨false, false, (⟨0, 0, 0, 0⟩ : S73), 0, 0, 0, 0, false⟩ : S79)); (case aB => exact (bl HB.out)); (case aF => exact (fun _ _ => trivial)); (case aO => exact (kr aA.out)); (case aS => exact (below_size (bl HB.out))); (case aL => have := LMc9.out; omega); intro cY dA ho hb hg hat; rw [← bJ.out] at ho; have bA := aM (ho); replace aC := aM (blk_grown (bk aC.out) hg (Kd.R_ne aA.out aC.out (by decide))); replace aD := aM (blk_grown (bk aD.out) hg (Kd.R_ne aA.out aD.out (by decide))); replace HB := aM (hb); clear aA; clear ho hb hg hat; obtain ⟨bG, bH, bP⟩ := Kd.R_slice bA.out; subst bP; have cG := cA2 aD.out))
    go_roundg k1
    case measure => have := bL.out; omega
    case rel => exact ⟨(wS aN), (aT), (.slice bG aT.length bH), xE, H', ⟨by have := bL.out; omega⟩, ⟨kr (Kd.R_mono (kF (p := ⟨aX, 1, none⟩) (Kd.R_types bA.out aD.out (by decide)) (fun _ hk => hk.2) (.slice bG aT.length bH)) (fun _ hk => trivial))⟩, ⟨fm aC.out⟩, ⟨by (with_reducible repeat (first | refine blk_drewN ?_ _ | refine blk_drew ?_ | refine blk_alloc ?_ _)); refine blk_put (cs := #[a0, aI]) ?_ 1 _ rfl; (with_reducible repeat (first | refine blk_drewN ?_ _ | refine blk_drew ?_ | refine blk_alloc ?_ _)); exact aD.out⟩, ⟨bl HB.out⟩⟩
   rw [if_neg c8] at H
   have bO := decide_eq_false c8
   clear c8
   obtain ⟨bQ, bI, H⟩ := hB H
   have bN := aM bI
   clear bI
   by_cases bD : bQ = true
   case pos =>
    subst bD
    replace H := hP H rfl
    simp only [Option.some.injEq, Prod.mk.injEq] at H
    obtain ⟨rfl, rfl, rfl⟩ := H
    go_wp2_with (first | ((with_reducible refine gC (f := 198) rfl ?_); refine gL (some 12) Try.func198 #[a1, .int .i64 5] ?_; (with_reducible refine (spec_l1Min.calls a1 5 aQ _ A7.out).mono ?_); rintro e w' ⟨rfl, ⟨nd, rfl⟩⟩; refine ⟨_, rfl, ?_⟩; (try (rw [drewN_self wr]; generalize hq_ : World.drewN wr _ = wr; replace aA := qR hq_ (kr aA.out); replace aC := qB hq_ (bk aC.out); replace aD := qB hq_ (bk aD.out); replace HB := qL hq_ (bl HB.out); clear hq_)); have cH := aH.out; have cK := aG.out; have cL := cA2 aD.out; obtain ⟨aV, aW, bT⟩ := Kd.R_slice aA.out; subst bT) | ((with_reducible refine gC (f := 46) rfl ?_); refine gL (some 23) Try.func46 #[.agg #[a0, .slice aV aE.length aW]] ?_; (with_reducible refine (spec_BridgeOk.calls k1 a0 _ _ aE true _ ?side1 ?side2 bN.out).mono ?_); (case side1 => exact cM ((Kd.R_reads' aA.out).2.2)); (case side2 => exact (Kd.R_reads' aA.out).2.1); rintro e dB ⟨rfl, hb⟩; refine ⟨_, rfl, ?_⟩; replace aA := rK aA hb; replace aC := rB aC hb; replace aD := rB aD hb; replace HB := rS HB hb; (try clear hb); have cN := cA2 aD.out; have cO := cA2 aC.out))
    refine bodyPost_ret (results_ct rfl _ _ aJ 28 #[a0, .slice aV aE.length aW] (0, 0) _ rfl (bm aC.out) Try.underlying28 rfl (by kernel_rfl)) rfl ?_
    exact ⟨_, xW, by (with_reducible repeat (first | apply Kd.R_alloc | apply Kd.R_drewN | apply Kd.R_drew)); exact Kd.R_mono (kF (p := ⟨aJ, 1, none⟩) (kF (p := ⟨aJ, 0, none⟩) (Kd.R_types aA.out aC.out (by decide)) (fun _ hk => hk.2) (.int .i64 a0)) (fun _ hk => hk.2) (.slice aV aE.length aW)) (fun _ hk => trivial), bl HB.out⟩
   replace bD := Bool.eq_false_iff.mpr bD
   subst bD
   replace H := hF H
   simp only [Option.some.injEq, Prod.mk.injEq] at H
   obtain ⟨rfl, rfl, rfl⟩ := H
   go_wp2_with (first | ((with_reducible refine gC (f := 198) rfl ?_); refine gL (some 12) Try.func198 #[a1, .int .i64 5] ?_; (with_reducible refine (spec_l1Min.calls a1 5 aQ _ A7.out).mono ?_); rintro e w' ⟨rfl, ⟨nd, rfl⟩⟩; refine ⟨_, rfl, ?_⟩; (try (rw [drewN_self wr]; generalize hq_ : World.drewN wr _ = wr; replace aA := qR hq_ (kr aA.out); replace aC := qB hq_ (bk aC.out); replace aD := qB hq_ (bk aD.out); replace HB := qL hq_ (bl HB.out); clear hq_)); have cP := aH.out; have cQ := aG.out; have cR := cA2 aD.out; obtain ⟨bU, bV, bW⟩ := Kd.R_slice aA.out; subst bW) | ((with_reducible refine gC (f := 46) rfl ?_); refine gL (some 23) Try.func46 #[.agg #[a0, .slice bU aE.length bV]] ?_; (with_reducible refine (spec_BridgeOk.calls k1 a0 _ _ aE false _ ?side1 ?side2 bN.out).mono ?_); (case side1 => exact cM ((Kd.R_reads' aA.out).2.2)); (case side2 => exact (Kd.R_reads' aA.out).2.1); rintro e dC ⟨rfl, hb⟩; refine ⟨_, rfl, ?_⟩; replace aA := rK aA hb; replace aC := rB aC hb; replace aD := rB aD hb; replace HB := rS HB hb; (try clear hb); have cS := cA2 aC.out))
   refine bodyPost_ret (results_ct rfl _ _ aJ 28 #[.int .i64 0, .slice none 0 0] (0, 0) _ rfl (bm aC.out) Try.underlying28 rfl (by kernel_rfl)) rfl ?_
   exact ⟨_, xW, by first | exact Kd.R_nil _ _ _ _ _ | exact Kd.N_nil _ _ _ _ _ | exact Kd.V_nil _ _ _ _ _ | exact Kd.Q_nil _ _ _ _ _ | exact Kd.S_nil _ _ _ _ _, bl HB.out⟩

def spec_l6DrawRight.f (aE : List Int) (aH aI : Int) : Option (Int × Int × Int × Int × Int × Int) := (spec_l1Below.f aE aH aI 4).bind fun aA => ((spec_l1Below.f aE aA.2.1 aA.2.2 4).bind fun aD => ((spec_l1Below.f aE aD.2.1 aD.2.2 3).bind fun aC => (if (wrap64 ((wrap64 (1 + aA.1)) + aC.1)) > (wrap64 (1 + aA.1)) then ((spec_l1Below.f aE aC.2.1 aC.2.2 3).bind fun aG => (some (wrap64 (1 + aA.1), wrap64 (1 + aG.1), wrap64 ((wrap64 (1 + aA.1)) + aC.1), aD.1, aG.2.1, aG.2.2))) else (some (wrap64 (1 + aA.1), 0, wrap64 ((wrap64 (1 + aA.1)) + aC.1), aD.1, aC.2.1, aC.2.2)))))
set_option maxHeartbeats 60000000 in
set_option maxRecDepth 100000 in
theorem spec_l6DrawRight.calls (g : Nat) (aE : List Int) (aX bA r1 r2 r3 r4 r5 r6 : Int) (w0 w : World) (hI : IsS175 w0 w g aE aX bA) (hB : Below w0.heap.size w0 w) (h : spec_l6DrawRight.f aE aX bA = some (r1, r2, r3, r4, r5, r6)) :
  Calls Try.prog 176 #[.pointer (some ⟨g, 0, none⟩)] w fun e w' => e = .returned (.agg #[r1, r2, r3, r4]) ∧ IsS175 w0 w' g aE r5 r6 ∧ Below w0.heap.size w0 w' ∧ KeepBut w w' g none := by
 have eE := Try.underlying73
 have aD := aM hI
 have HK := aM (KeepBut.refl w g none)
 have HL := aM hB.size
 clear hI
 have HW0 := aM hB.size
 have HB := aM hB
 clear hB
 have H : ((spec_l1Below.f aE aX bA 4).bind fun aQ => ((spec_l1Below.f aE aQ.2.1 aQ.2.2 4).bind fun bK => ((spec_l1Below.f aE bK.2.1 bK.2.2 3).bind fun bD => (if (wrap64 ((wrap64 (1 + aQ.1)) + bD.1)) > (wrap64 (1 + aQ.1)) then ((spec_l1Below.f aE bD.2.1 bD.2.2 3).bind fun bL => (some (wrap64 (1 + aQ.1), wrap64 (1 + bL.1), wrap64 ((wrap64 (1 + aQ.1)) + bD.1), bK.1, bL.2.1, bL.2.2))) else (some (wrap64 (1 + aQ.1), 0, wrap64 ((wrap64 (1 + aQ.1)) + bD.1), bK.1, bD.2.1, bD.2.2)))))) = some (r1, r2, r3, r4, r5, r6) := h
 clear h
 obtain ⟨⟨aG, bM, bN⟩, bX, H⟩ := hB H
 try dsimp only at H
 have A2 := aM bX
 clear bX
 obtain ⟨⟨aT, aV, aW⟩, bY, H⟩ := hB H
 try dsimp only at H
 have A3 := aM bY
 clear bY
 obtain ⟨⟨bG, bO, bP⟩, bZ, H⟩ := hB H
 try dsimp only at H
 have A4 := aM bZ
 clear bZ
 by_cases c5 : (wrap64 ((wrap64 (1 + aG)) + bG)) > (wrap64 (1 + aG))
 case pos =>
  rw [if_pos c5] at H
  have cD := decide_eq_true c5
  clear c5
  obtain ⟨⟨bQ, cE, cG⟩, cA, H⟩ := hB H
  try dsimp only at H
  have A6 := aM cA
  clear cA
  simp only [Option.some.injEq, Prod.mk.injEq] at H
  obtain ⟨rfl, rfl, rfl, rfl, rfl, rfl⟩ := H
  go_enter Try.func176, Try.ntmps176
  try go_wp2_with (first | ((with_reducible refine gD (N := 2) rfl ?_); refine bE (N := 2) (cs := #[.int .i64 0, .int .i64 0, .int .i64 0, .int .i64 0]) (t := 73) ?_; intro bH hg w7 hbox hb; have aC := aM (hbox); have bT := gE hg (keep_size (km HK.out)); have bU := gE2 HW0.out hg (keep_size (km HK.out)); have bI := nL hg (IsS175.lt (show IsS175 w0 _ g aE aX bA from IsS175.mv aD.out)); have aH := nG hg (IsS175.lt (show IsS175 w0 _ g aE aX bA from IsS175.mv aD.out)); replace aD := aM (IsS175.below (IsS175.mv aD.out) hb); replace HK := rU HK hb; replace HB := aM (bS (IsS175.bl HB.out) hb); clear hb hbox hg) | ((with_reducible refine gC (f := 99) rfl ?_); refine gL (some 5) Try.func99 #[.pointer (some ⟨g, 0, none⟩), .int .i64 4] ?_; (with_reducible refine (spec_l1Below.calls g aE aX bA 4 aG bM bN w0 _ ?side1 ?side2 A2.out).mono ?_); (case side1 => exact IsS175.mv aD.out); (case side2 => exact IsS175.bl HB.out); rintro e w8 ⟨rfl, hi, hb, hk⟩; refine ⟨_, rfl, ?_⟩; replace aC := rP hk aC aH; replace HK := aM (KeepBut.trans (km HK.out) hk (.inl rfl)); replace HB := aM (hb); replace aD := aM (hi); (repeat first|clear hb|clear hk|clear hi)) | ((with_reducible refine gC (f := 99) rfl ?_); refine gL (some 8) Try.func99 #[.pointer (some ⟨g, 0, none⟩), .int .i64 4] ?_; (with_reducible refine (spec_l1Below.calls g aE bM bN 4 aT aV aW w0 _ ?side1 ?side2 A3.out).mono ?_); (case side1 => exact IsS175.mv aD.out); (case side2 => exact IsS175.bl HB.out); rintro e w9 ⟨rfl, hi, hb, hk⟩; refine ⟨_, rfl, ?_⟩; replace aC := rP hk aC aH; replace HK := aM (KeepBut.trans (km HK.out) hk (.inl rfl)); replace HB := aM (hb); replace aD := aM (hi); (repeat first|clear hb|clear hk|clear hi)) | ((with_reducible refine gD (N := 3) rfl ?_); refine bE (N := 3) (cs := #[.int .i64 0, .int .i64 0, .int .i64 0, .int .i64 0]) (t := 73) ?_; intro aI hg eH hbox hb; have aA := aM (hbox); have bV := gE hg (keep_size (km HK.out)); have bW := gE2 HW0.out hg (keep_size (km HK.out)); have aJ := nM hg aC; have aK := nH hg aC; have bJ := nL hg (IsS175.lt (show IsS175 w0 _ g aE aV aW from IsS175.mv aD.out)); have aN := nG hg (IsS175.lt (show IsS175 w0 _ g aE aV aW from IsS175.mv aD.out)); replace aD := aM (IsS175.below (IsS175.mv aD.out) hb); replace aC := rB aC hb; replace HK := rU HK hb; replace HB := aM (bS (IsS175.bl HB.out) hb); clear hb hbox hg; have dN := aK.out; have dO := aJ.out; have dP := aN.out; have dQ := bJ.out; have dR := cA4 aA.out))
  refine nW (fun W => Aside0 (W.heap[bH]? = some (.cells #[.int .i64 0, .int .i64 0, .int .i64 0, .int .i64 0] 73 (0, 0))) ∧ Aside0 (W.heap[aI]? = some (.cells #[.int .i64 (wrap64 (1 + aG)), .int .i64 0, .int .i64 0, aT] 73 (0, 0))) ∧ Aside0 (IsS175 w0 W g aE aV aW) ∧ Aside0 (KeepBut w W g none) ∧ Aside0 (Below w0.heap.size w0 W)) ⟨⟨fm aC.out⟩, ⟨bm aA.out⟩, ⟨IsS175.mv aD.out⟩, ⟨km HK.out⟩, ⟨IsS175.bl HB.out⟩⟩ ?_
  intro dJ nn_
  replace aC := nn_.1
  replace aA := nn_.2.1
  replace aD := nn_.2.2.1
  replace HK := nn_.2.2.2.1
  replace HB := nn_.2.2.2.2
  clear nn_
  replace aC := aM (blk_drew aC.out)
  replace aA := aM (blk_drew aA.out)
  replace aD := aM (IsS175.drew aD.out)
  replace HK := aM (keep_drew HK.out)
  replace HB := aM (below_drew1 HB.out)
  refine start_ (n := 7) (S := fun w' => cS4 w' aI (.int .i64 (wrap64 (1 + aG))) (.int .i64 0) (.int .i64 0) (.int .i64 aT)) (ds := [6]) (dn 7 0) (by kernel_rfl) rfl rfl ⟨cI aA.out 0, cI aA.out 1, cI aA.out 2, cI aA.out 3⟩ (fun hHeld => ?_)
  generalize dJ.drew = eI at aC aA aD HK HB hHeld ⊢
  refine pure_ (i := 0) (N := some 10) (v := ?_) (a' := ?_) (bv 7 1) rfl rfl (by kernel_rfl) (fun _ _ _ h => h) (Or.inl ⟨by rfl, ?_⟩) ?_ ?_
  rotate_left
  ·intro w'
   go_simp
   with_reducible rfl
  rotate_left
  ·simp only [Act.put, sA, sZ, sS, i64_w, i32_w]
   rfl
  refine pure_ (i := 2) (N := some 12) (v := ?_) (a' := ?_) (bv 7 5) rfl rfl (by kernel_rfl) (fun _ _ _ h => h) (Or.inl ⟨by rfl, ?_⟩) ?_ ?_
  rotate_left
  ·intro w'
   go_simp
   with_reducible rfl
  rotate_left
  ·simp only [Act.put, sA, sZ, sS, i64_w, i32_w]
   rfl
  refine take_ (i := 1) (N := some 11) (v := ?_) (a' := ?_) (bv 7 7) rfl rfl (by kernel_rfl) (fun _ _ _ h => h) (Or.inl ⟨by rfl, ?_⟩) hHeld ?_ ?_
  rotate_left
  ·rintro w' ⟨s0, s1, s2, s3⟩
   go_simp
   with_reducible rfl
  rotate_left
  ·simp only [Act.put, sA, sZ, sS, i64_w, i32_w]
   rfl
  refine one_ (i := 3) (N := some 13) (bv 7 15) rfl rfl (by kernel_rfl) (by decide) (fun K hK => ?_)
  refine goes_ Try.func99 (by kernel_rfl) rfl #[.pointer (some ⟨g, 0, none⟩), .int .i64 3] (by rfl) rfl rfl xR ?_
  with_reducible refine (spec_l1Below.calls g aE aV aW 3 bG bO bP w0 _ ?side1 ?side2 A4.out).mono ?_
  (case side1 => exact IsS175.mv aD.out)
  (case side2 => exact IsS175.bl HB.out)
  rintro e dK ⟨rfl, hi, hb, hk⟩
  refine ⟨_, rfl, ?_⟩
  replace aC := rP hk aC aH
  replace aA := rP hk aA aN
  replace HK := aM (KeepBut.trans (km HK.out) hk (.inl rfl))
  replace HB := aM (hb)
  replace aD := aM (hi)
  (try clear hb)
  (try clear hb2)
  (try clear hk)
  (try clear hi)
  refine hK.out _ _ ⟨cI aA.out 0, cI aA.out 1, cI aA.out 2, cI aA.out 3⟩ (fun hHeld => ?_)
  clear hK K
  refine norm_ (a' := ?_) ?_ ?_
  rotate_left
  ·show Act.put _ (some 13) _ = _
   simp only [Act.put, sA, sZ, sS, i64_w, i32_w]
   rfl
  refine pure_ (i := 4) (N := some 14) (v := ?_) (a' := ?_) (bv 7 31) rfl rfl (by kernel_rfl) (fun _ _ _ h => h) (Or.inl ⟨by rfl, ?_⟩) ?_ ?_
  rotate_left
  ·intro w'
   go_simp
   with_reducible rfl
  rotate_left
  ·simp only [Act.put, sA, sZ, sS, i64_w, i32_w]
   rfl
  refine pure_ (i := 5) (N := some 15) (v := ?_) (a' := ?_) (bv 7 63) rfl rfl (by kernel_rfl) (fun _ _ _ h => h) (Or.inl ⟨by rfl, ?_⟩) ?_ ?_
  rotate_left
  ·intro w'
   go_simp
   with_reducible rfl
  rotate_left
  ·simp only [Act.put, sA, sZ, sS, i64_w, i32_w]
   rfl
  refine last_ (i := 6) (N := none) (bv 7 127) rfl rfl (by kernel_rfl) (by decide) (fun K hK => ?_)
  have eF := cI aA.out 2
  have hfs17 := bF aA.out 2
  have hns17_0 := aJ.out
  have hms17_0 := aK.out
  refine skip_ (w1 := ?_) (by rfl) rfl ?_ ?_
  rotate_left
  ·go_simp
   rfl
  refine hK.out _ _ ?_
  clear hK K
  refine done_ (by kernel_rfl) ?_
  have cH : dK.cell? ⟨aI, 0, none⟩ = some (.int .i64 (wrap64 (1 + aG))) := cI aA.out 0
  have cK := cI aA.out 1
  have cL := cI aA.out 2
  have cN := cI aA.out 3
  have cO := bF aA.out 0
  have cP := bF aA.out 1
  have cQ := bF aA.out 2
  have cR := bF aA.out 3
  try go_wp2_with (first | ((with_reducible refine gC (f := 99) rfl ?_); refine gL (some 22) Try.func99 #[.pointer (some ⟨g, 0, none⟩), .int .i64 3] ?_; (with_reducible refine (spec_l1Below.calls g aE bO bP 3 bQ cE cG w0 _ ?side1 ?side2 A6.out).mono ?_); (case side1 => exact IsS175.mv aD.out); (case side2 => exact IsS175.bl HB.out); rintro e cC ⟨rfl, hi, hb, hk⟩; refine ⟨_, rfl, ?_⟩; replace aC := aM (KeepBut.blk hk (fm aC.out) aH.out (by simp)); replace aA := aM (KeepBut.blk hk (g' := aI) (o := .cells #[.int .i64 (wrap64 (1 + aG)), .int .i64 0, .int .i64 (wrap64 ((wrap64 (1 + aG)) + bG)), aT] 73 (0, 0)) (by (with_reducible repeat (first | refine blk_drewN ?_ _ | refine blk_drew ?_ | refine blk_alloc ?_ _)); refine blk_put (cs := #[.int .i64 (wrap64 (1 + aG)), .int .i64 0, .int .i64 0, aT]) ?_ 2 _ rfl; (with_reducible repeat (first | refine blk_drewN ?_ _ | refine blk_drew ?_ | refine blk_alloc ?_ _)); exact aA.out) aN.out (by simp)); replace HK := aM (KeepBut.trans (km HK.out) hk (.inl rfl)); replace HB := aM (hb); replace aD := aM (hi); (repeat first|clear hb|clear hk|clear hi); have cS : cC.cell? ⟨aI, 0, none⟩ = some (.int .i64 (wrap64 (1 + aG))) := cI aA.out 0; have cT := cI aA.out 1; have cU : cC.cell? ⟨aI, 2, none⟩ = some (.int .i64 (wrap64 ((wrap64 (1 + aG)) + bG))) := cI aA.out 2; have cV := cI aA.out 3; have cW := bF aA.out 0; have cX := bF aA.out 1; have cY := bF aA.out 2; have dA := bF aA.out 3; have dS := aH.out; have dU := bI.out; have dV := cA4 aC.out))
  refine bodyPost_ret (results_cell_row rfl _ _ bH 73 #[.int .i64 (wrap64 (1 + aG)), .int .i64 (wrap64 (1 + bQ)), .int .i64 (wrap64 ((wrap64 (1 + aG)) + bG)), aT] (0, 0) _ rfl (bm aC.out) Try.underlying73 rfl (by kernel_rfl)) rfl ?_
  exact ⟨xW, IsS175.mv aD.out, IsS175.bl HB.out, km HK.out⟩
 rw [if_neg c5] at H
 have cD := decide_eq_false c5
 clear c5
 simp only [Option.some.injEq, Prod.mk.injEq] at H
 obtain ⟨rfl, rfl, rfl, rfl, rfl, rfl⟩ := H
 go_enter Try.func176, Try.ntmps176
 try go_wp2_with (first | ((with_reducible refine gD (N := 2) rfl ?_); refine bE (N := 2) (cs := #[.int .i64 0, .int .i64 0, .int .i64 0, .int .i64 0]) (t := 73) ?_; intro bH hg eJ hbox hb; have aC := aM (hbox); have bT := gE hg (keep_size (km HK.out)); have bU := gE2 HW0.out hg (keep_size (km HK.out)); have bI := nL hg (IsS175.lt (show IsS175 w0 _ g aE aX bA from IsS175.mv aD.out)); have aH := nG hg (IsS175.lt (show IsS175 w0 _ g aE aX bA from IsS175.mv aD.out)); replace aD := aM (IsS175.below (IsS175.mv aD.out) hb); replace HK := rU HK hb; replace HB := aM (bS (IsS175.bl HB.out) hb); clear hb hbox hg) | ((with_reducible refine gC (f := 99) rfl ?_); refine gL (some 5) Try.func99 #[.pointer (some ⟨g, 0, none⟩), .int .i64 4] ?_; (with_reducible refine (spec_l1Below.calls g aE aX bA 4 aG bM bN w0 _ ?side1 ?side2 A2.out).mono ?_); (case side1 => exact IsS175.mv aD.out); (case side2 => exact IsS175.bl HB.out); rintro e eK ⟨rfl, hi, hb, hk⟩; refine ⟨_, rfl, ?_⟩; replace aC := rP hk aC aH; replace HK := aM (KeepBut.trans (km HK.out) hk (.inl rfl)); replace HB := aM (hb); replace aD := aM (hi); (repeat first|clear hb|clear hk|clear hi)) | ((with_reducible refine gC (f := 99) rfl ?_); refine gL (some 8) Try.func99 #[.pointer (some ⟨g, 0, none⟩), .int .i64 4] ?_; (with_reducible refine (spec_l1Below.calls g aE bM bN 4 aT aV aW w0 _ ?side1 ?side2 A3.out).mono ?_); (case side1 => exact IsS175.mv aD.out); (case side2 => exact IsS175.bl HB.out); rintro e eL ⟨rfl, hi, hb, hk⟩; refine ⟨_, rfl, ?_⟩; replace aC := rP hk aC aH; replace HK := aM (KeepBut.trans (km HK.out) hk (.inl rfl)); replace HB := aM (hb); replace aD := aM (hi); (repeat first|clear hb|clear hk|clear hi)) | ((with_reducible refine gD (N := 3) rfl ?_); refine bE (N := 3) (cs := #[.int .i64 0, .int .i64 0, .int .i64 0, .int .i64 0]) (t := 73) ?_; intro aI hg eM hbox hb; have aA := aM (hbox); have bV := gE hg (keep_size (km HK.out)); have bW := gE2 HW0.out hg (keep_size (km HK.out)); have aJ := nM hg aC; have aK := nH hg aC; have bJ := nL hg (IsS175.lt (show IsS175 w0 _ g aE aV aW from IsS175.mv aD.out)); have aN := nG hg (IsS175.lt (show IsS175 w0 _ g aE aV aW from IsS175.mv aD.out)); replace aD := aM (IsS175.below (IsS175.mv aD.out) hb); replace aC := rB aC hb; replace HK := rU HK hb; replace HB := aM (bS (IsS175.bl HB.out) hb); clear hb hbox hg; have dW := aK.out; have dX := aJ.out; have dY := aN.out; have dZ := bJ.out; have eA := cA4 aA.out))
 refine nW (fun W => Aside0 (W.heap[bH]? = some (.cells #[.int .i64 0, .int .i64 0, .int .i64 0, .int .i64 0] 73 (0, 0))) ∧ Aside0 (W.heap[aI]? = some (.cells #[.int .i64 (wrap64 (1 + aG)), .int .i64 0, .int .i64 0, aT] 73 (0, 0))) ∧ Aside0 (IsS175 w0 W g aE aV aW) ∧ Aside0 (KeepBut w W g none) ∧ Aside0 (Below w0.heap.size w0 W)) ⟨⟨fm aC.out⟩, ⟨bm aA.out⟩, ⟨IsS175.mv aD.out⟩, ⟨km HK.out⟩, ⟨IsS175.bl HB.out⟩⟩ ?_
 intro dL nn_
 replace aC := nn_.1
 replace aA := nn_.2.1
 replace aD := nn_.2.2.1
 replace HK := nn_.2.2.2.1
 replace HB := nn_.2.2.2.2
 clear nn_
 replace aC := aM (blk_drew aC.out)
 replace aA := aM (blk_drew aA.out)
 replace aD := aM (IsS175.drew aD.out)
 replace HK := aM (keep_drew HK.out)
 replace HB := aM (below_drew1 HB.out)
 refine start_ (n := 7) (S := fun w' => cS4 w' aI (.int .i64 (wrap64 (1 + aG))) (.int .i64 0) (.int .i64 0) (.int .i64 aT)) (ds := [6]) (dn 7 0) (by kernel_rfl) rfl rfl ⟨cI aA.out 0, cI aA.out 1, cI aA.out 2, cI aA.out 3⟩ (fun hHeld => ?_)
 generalize dL.drew = eN at aC aA aD HK HB hHeld ⊢
 refine pure_ (i := 0) (N := some 10) (v := ?_) (a' := ?_) (bv 7 1) rfl rfl (by kernel_rfl) (fun _ _ _ h => h) (Or.inl ⟨by rfl, ?_⟩) ?_ ?_
 rotate_left
 ·intro w'
  go_simp
  with_reducible rfl
 rotate_left
 ·simp only [Act.put, sA, sZ, sS, i64_w, i32_w]
  rfl
 refine pure_ (i := 2) (N := some 12) (v := ?_) (a' := ?_) (bv 7 5) rfl rfl (by kernel_rfl) (fun _ _ _ h => h) (Or.inl ⟨by rfl, ?_⟩) ?_ ?_
 rotate_left
 ·intro w'
  go_simp
  with_reducible rfl
 rotate_left
 ·simp only [Act.put, sA, sZ, sS, i64_w, i32_w]
  rfl
 refine take_ (i := 1) (N := some 11) (v := ?_) (a' := ?_) (bv 7 7) rfl rfl (by kernel_rfl) (fun _ _ _ h => h) (Or.inl ⟨by rfl, ?_⟩) hHeld ?_ ?_
 rotate_left
 ·rintro w' ⟨s0, s1, s2, s3⟩
  go_simp
  with_reducible rfl
 rotate_left
 ·simp only [Act.put, sA, sZ, sS, i64_w, i32_w]
  rfl
 refine one_ (i := 3) (N := some 13) (bv 7 15) rfl rfl (by kernel_rfl) (by decide) (fun K hK => ?_)
 refine goes_ Try.func99 (by kernel_rfl) rfl #[.pointer (some ⟨g, 0, none⟩), .int .i64 3] (by rfl) rfl rfl xR ?_
 with_reducible refine (spec_l1Below.calls g aE aV aW 3 bG bO bP w0 _ ?side1 ?side2 A4.out).mono ?_
 (case side1 => exact IsS175.mv aD.out)
 (case side2 => exact IsS175.bl HB.out)
 rintro e dM ⟨rfl, hi, hb, hk⟩
 refine ⟨_, rfl, ?_⟩
 replace aC := rP hk aC aH
 replace aA := rP hk aA aN
 replace HK := aM (KeepBut.trans (km HK.out) hk (.inl rfl))
 replace HB := aM (hb)
 replace aD := aM (hi)
 (try clear hb)
 (try clear hb2)
 (try clear hk)
 (try clear hi)
 refine hK.out _ _ ⟨cI aA.out 0, cI aA.out 1, cI aA.out 2, cI aA.out 3⟩ (fun hHeld => ?_)
 clear hK K
 refine norm_ (a' := ?_) ?_ ?_
 rotate_left
 ·show Act.put _ (some 13) _ = _
  simp only [Act.put, sA, sZ, sS, i64_w, i32_w]
  rfl
 refine pure_ (i := 4) (N := some 14) (v := ?_) (a' := ?_) (bv 7 31) rfl rfl (by kernel_rfl) (fun _ _ _ h => h) (Or.inl ⟨by rfl, ?_⟩) ?_ ?_
 rotate_left
 ·intro w'
  go_simp
  with_reducible rfl
 rotate_left
 ·simp only [Act.put, sA, sZ, sS, i64_w, i32_w]
  rfl
 refine pure_ (i := 5) (N := some 15) (v := ?_) (a' := ?_) (bv 7 63) rfl rfl (by kernel_rfl) (fun _ _ _ h => h) (Or.inl ⟨by rfl, ?_⟩) ?_ ?_
 rotate_left
 ·intro w'
  go_simp
  with_reducible rfl
 rotate_left
 ·simp only [Act.put, sA, sZ, sS, i64_w, i32_w]
  rfl
 refine last_ (i := 6) (N := none) (bv 7 127) rfl rfl (by kernel_rfl) (by decide) (fun K hK => ?_)
 have eG := cI aA.out 2
 have hfs33 := bF aA.out 2
 have hns33_0 := aJ.out
 have hms33_0 := aK.out
 refine skip_ (w1 := ?_) (by rfl) rfl ?_ ?_
 rotate_left
 ·go_simp
  rfl
 refine hK.out _ _ ?_
 clear hK K
 refine done_ (by kernel_rfl) ?_
 have dB : dM.cell? ⟨aI, 0, none⟩ = some (.int .i64 (wrap64 (1 + aG))) := cI aA.out 0
 have dC := cI aA.out 1
 have dD := cI aA.out 2
 have dE := cI aA.out 3
 have dF := bF aA.out 0
 have dG := bF aA.out 1
 have dH := bF aA.out 2
 have dI := bF aA.out 3
 have eB := aH.out
 have eC := bI.out
 have eD := cA4 aC.out
 try go_wp2
 refine bodyPost_ret (results_cell_row rfl _ _ bH 73 #[.int .i64 (wrap64 (1 + aG)), .int .i64 0, .int .i64 (wrap64 ((wrap64 (1 + aG)) + bG)), aT] (0, 0) _ rfl (bm aC.out) Try.underlying73 rfl (by kernel_rfl)) rfl ?_
 exact ⟨xW, IsS175.mv aD.out, IsS175.bl HB.out, km HK.out⟩

def spec_l8DrawIn.f (aE : List Int) (aI aJ : Int) : Option (Int × Int × Int × Int × Int × Int × Int × Bool × Int × Int) := (spec_l1Below.f aE aI aJ 4).bind fun aD => ((spec_l1Below.f aE aD.2.1 aD.2.2 4).bind fun aA => (if aA.1 = 0 then (some (2, 0, 0, 0, 0, 0, 0, false, aA.2.1, aA.2.2)) else (if aA.1 = 1 then ((spec_l1Once.f aE aA.2.1 aA.2.2 3).bind fun aG => (some (3, aD.1, 0, 0, 0, 0, 0, !aG.1, aG.2.1, aG.2.2))) else ((spec_l6DrawRight.f aE aA.2.1 aA.2.2).bind fun aC => ((spec_l1Below.f aE aC.2.2.2.2.1 aC.2.2.2.2.2 4).bind fun aH => (some (1, aD.1, aC.1, aC.2.1, aC.2.2.1, aC.2.2.2.1, aH.1, false, aH.2.1, aH.2.2)))))))
set_option maxHeartbeats 60000000 in
set_option maxRecDepth 100000 in
theorem spec_l8DrawIn.calls (g : Nat) (aE : List Int) (aH aI r1 r2 r3 r4 r5 r6 r7 : Int) (r8 : Bool) (r9 bL : Int) (w0 w : World) (hI : IsS175 w0 w g aE aH aI) (hB : Below w0.heap.size w0 w) (h : spec_l8DrawIn.f aE aH aI = some (r1, r2, r3, r4, r5, r6, r7, r8, r9, bL)) :
  Calls Try.prog 194 #[.pointer (some ⟨g, 0, none⟩)] w fun e w' => e = .returned (.agg #[r1, r2, r3, r4, r5, r6, r7, r8]) ∧ IsS175 w0 w' g aE r9 bL ∧ Below w0.heap.size w0 w' ∧ KeepBut w w' g none := by
 have cX := Try.underlying89
 have aD := aM hI
 have HK := aM (KeepBut.refl w g none)
 have HL := aM hB.size
 clear hI
 have HW0 := aM hB.size
 have HB := aM hB
 clear hB
 have H : ((spec_l1Below.f aE aH aI 4).bind fun aW => ((spec_l1Below.f aE aW.2.1 aW.2.2 4).bind fun aJ => (if aJ.1 = 0 then (some (2, 0, 0, 0, 0, 0, 0, false, aJ.2.1, aJ.2.2)) else (if aJ.1 = 1 then ((spec_l1Once.f aE aJ.2.1 aJ.2.2 3).bind fun bH => (some (3, aW.1, 0, 0, 0, 0, 0, !bH.1, bH.2.1, bH.2.2))) else ((spec_l6DrawRight.f aE aJ.2.1 aJ.2.2).bind fun aN => ((spec_l1Below.f aE aN.2.2.2.2.1 aN.2.2.2.2.2 4).bind fun bI => (some (1, aW.1, aN.1, aN.2.1, aN.2.2.1, aN.2.2.2.1, bI.1, false, bI.2.1, bI.2.2)))))))) = some (r1, r2, r3, r4, r5, r6, r7, r8, r9, bL) := h
 clear h
 obtain ⟨⟨aX, aT, aV⟩, cC, H⟩ := hB H
 try dsimp only at H
 have A2 := aM cC
 clear cC
 obtain ⟨⟨aG, bA, bD⟩, cD, H⟩ := hB H
 try dsimp only at H
 have A3 := aM cD
 clear cD
 by_cases c4 : aG = 0
 case pos =>
  rw [if_pos c4] at H
  have cE : (aG == 0) = true := beq_iff_eq.mpr c4
  have cG : (aG != 0) = false := bne_eq_false_iff_eq.mpr c4
  clear c4
  simp only [Option.some.injEq, Prod.mk.injEq] at H
  obtain ⟨rfl, rfl, rfl, rfl, rfl, rfl, rfl, rfl, rfl, rfl⟩ := H
  go_enter Try.func194, Try.ntmps194
  go_wp2_with (first | ((with_reducible refine gD (N := 2) rfl ?_); refine bE (N := 2) (cs := #[.int .i64 0, .int .i64 0, .int .i64 0, .int .i64 0, .int .i64 0, .int .i64 0, .int .i64 0, .bool false]) (t := 89) ?_; intro aQ hg w5 hbox hb; have aA := aM (hbox); have bJ := gE hg (keep_size (km HK.out)); have bK := gE2 HW0.out hg (keep_size (km HK.out)); have aK := nL hg (IsS175.lt (show IsS175 w0 _ g aE aH aI from IsS175.mv aD.out)); have aC := nG hg (IsS175.lt (show IsS175 w0 _ g aE aH aI from IsS175.mv aD.out)); replace aD := aM (IsS175.below (IsS175.mv aD.out) hb); replace HK := rU HK hb; replace HB := aM (bS (IsS175.bl HB.out) hb); clear hb hbox hg) | ((with_reducible refine gC (f := 99) rfl ?_); refine gL (some 5) Try.func99 #[.pointer (some ⟨g, 0, none⟩), .int .i64 4] ?_; (with_reducible refine (spec_l1Below.calls g aE aH aI 4 aX aT aV w0 _ ?side1 ?side2 A2.out).mono ?_); (case side1 => exact IsS175.mv aD.out); (case side2 => exact IsS175.bl HB.out); rintro e w6 ⟨rfl, hi, hb, hk⟩; refine ⟨_, rfl, ?_⟩; replace aA := rP hk aA aC; replace HK := aM (KeepBut.trans (km HK.out) hk (.inl rfl)); replace HB := aM (hb); replace aD := aM (hi); (repeat first|clear hb|clear hk|clear hi)) | ((with_reducible refine gC (f := 99) rfl ?_); refine gL (some 7) Try.func99 #[.pointer (some ⟨g, 0, none⟩), .int .i64 4] ?_; (with_reducible refine (spec_l1Below.calls g aE aT aV 4 aG bA bD w0 _ ?side1 ?side2 A3.out).mono ?_); (case side1 => exact IsS175.mv aD.out); (case side2 => exact IsS175.bl HB.out); rintro e w7 ⟨rfl, hi, hb, hk⟩; refine ⟨_, rfl, ?_⟩; replace aA := rP hk aA aC; replace HK := aM (KeepBut.trans (km HK.out) hk (.inl rfl)); replace HB := aM (hb); replace aD := aM (hi); (repeat first|clear hb|clear hk|clear hi); have cY := aC.out; have dA := aK.out; have dB := cA8 aA.out))
  refine bodyPost_ret (results_cell_row rfl _ _ aQ 89 #[.int .i64 2, .int .i64 0, .int .i64 0, .int .i64 0, .int .i64 0, .int .i64 0, .int .i64 0, .bool false] (0, 0) _ rfl (bm aA.out) Try.underlying89 rfl (by kernel_rfl)) rfl ?_
  exact ⟨xW, IsS175.mv aD.out, IsS175.bl HB.out, km HK.out⟩
 rw [if_neg c4] at H
 have cE : (aG == 0) = false := beq_eq_false_iff_ne.mpr c4
 have cG : (aG != 0) = true := bne_iff_ne.mpr c4
 by_cases bG : aG = 1
 case pos =>
  rw [if_pos bG] at H
  have bZ : (aG == 1) = true := beq_iff_eq.mpr bG
  have cA : (aG != 1) = false := bne_eq_false_iff_eq.mpr bG
  clear bG
  obtain ⟨⟨bM, cH, cK⟩, bN, H⟩ := hB H
  try dsimp only at H
  have cO := aM bN
  clear bN
  simp only [Option.some.injEq, Prod.mk.injEq] at H
  obtain ⟨rfl, rfl, rfl, rfl, rfl, rfl, rfl, rfl, rfl, rfl⟩ := H
  go_enter Try.func194, Try.ntmps194
  go_wp2_with (first | ((with_reducible refine gD (N := 2) rfl ?_); refine bE (N := 2) (cs := #[.int .i64 0, .int .i64 0, .int .i64 0, .int .i64 0, .int .i64 0, .int .i64 0, .int .i64 0, .bool false]) (t := 89) ?_; intro aQ hg dC hbox hb; have aA := aM (hbox); have bJ := gE hg (keep_size (km HK.out)); have bK := gE2 HW0.out hg (keep_size (km HK.out)); have aK := nL hg (IsS175.lt (show IsS175 w0 _ g aE aH aI from IsS175.mv aD.out)); have aC := nG hg (IsS175.lt (show IsS175 w0 _ g aE aH aI from IsS175.mv aD.out)); replace aD := aM (IsS175.below (IsS175.mv aD.out) hb); replace HK := rU HK hb; replace HB := aM (bS (IsS175.bl HB.out) hb); clear hb hbox hg) | ((with_reducible refine gC (f := 99) rfl ?_); refine gL (some 5) Try.func99 #[.pointer (some ⟨g, 0, none⟩), .int .i64 4] ?_; (with_reducible refine (spec_l1Below.calls g aE aH aI 4 aX aT aV w0 _ ?side1 ?side2 A2.out).mono ?_); (case side1 => exact IsS175.mv aD.out); (case side2 => exact IsS175.bl HB.out); rintro e dD ⟨rfl, hi, hb, hk⟩; refine ⟨_, rfl, ?_⟩; replace aA := rP hk aA aC; replace HK := aM (KeepBut.trans (km HK.out) hk (.inl rfl)); replace HB := aM (hb); replace aD := aM (hi); (repeat first|clear hb|clear hk|clear hi)) | ((with_reducible refine gC (f := 99) rfl ?_); refine gL (some 7) Try.func99 #[.pointer (some ⟨g, 0, none⟩), .int .i64 4] ?_; (with_reducible refine (spec_l1Below.calls g aE aT aV 4 aG bA bD w0 _ ?side1 ?side2 A3.out).mono ?_); (case side1 => exact IsS175.mv aD.out); (case side2 => exact IsS175.bl HB.out); rintro e dE ⟨rfl, hi, hb, hk⟩; refine ⟨_, rfl, ?_⟩; replace aA := rP hk aA aC; replace HK := aM (KeepBut.trans (km HK.out) hk (.inl rfl)); replace HB := aM (hb); replace aD := aM (hi); (repeat first|clear hb|clear hk|clear hi)) | ((with_reducible refine gC (f := 100) rfl ?_); refine gL (some 15) Try.func100 #[.pointer (some ⟨g, 0, none⟩), .int .i64 3] ?_; (with_reducible refine (spec_l1Once.calls g aE bA bD 3 bM cH cK w0 _ ?side1 ?side2 cO.out).mono ?_); (case side1 => exact IsS175.mv aD.out); (case side2 => exact IsS175.bl HB.out); rintro e dF ⟨rfl, hi, hb, hk⟩; refine ⟨_, rfl, ?_⟩; replace aA := rP hk aA aC; replace HK := aM (KeepBut.trans (km HK.out) hk (.inl rfl)); replace HB := aM (hb); replace aD := aM (hi); (repeat first|clear hb|clear hk|clear hi); have cR := aC.out; have cS := aK.out; have cT := cA8 aA.out))
  refine bodyPost_ret (results_cell_row rfl _ _ aQ 89 #[.int .i64 3, aX, .int .i64 0, .int .i64 0, .int .i64 0, .int .i64 0, .int .i64 0, .bool (!bM)] (0, 0) _ rfl (bm aA.out) Try.underlying89 rfl (by kernel_rfl)) rfl ?_
  exact ⟨xW, IsS175.mv aD.out, IsS175.bl HB.out, km HK.out⟩
 rw [if_neg bG] at H
 have bZ : (aG == 1) = false := beq_eq_false_iff_ne.mpr bG
 have cA : (aG != 1) = true := bne_iff_ne.mpr bG
 obtain ⟨⟨bO, bP, bQ, bT, bU, bV⟩, bW, H⟩ := hB H
 try dsimp only at H
 have cP := aM bW
 clear bW
 obtain ⟨⟨bX, cL, cN⟩, bY, H⟩ := hB H
 try dsimp only at H
 have cQ := aM bY
 clear bY
 simp only [Option.some.injEq, Prod.mk.injEq] at H
 obtain ⟨rfl, rfl, rfl, rfl, rfl, rfl, rfl, rfl, rfl, rfl⟩ := H
 go_enter Try.func194, Try.ntmps194
 go_wp2_with (first | ((with_reducible refine gD (N := 2) rfl ?_); refine bE (N := 2) (cs := #[.int .i64 0, .int .i64 0, .int .i64 0, .int .i64 0, .int .i64 0, .int .i64 0, .int .i64 0, .bool false]) (t := 89) ?_; intro aQ hg dG hbox hb; have aA := aM (hbox); have bJ := gE hg (keep_size (km HK.out)); have bK := gE2 HW0.out hg (keep_size (km HK.out)); have aK := nL hg (IsS175.lt (show IsS175 w0 _ g aE aH aI from IsS175.mv aD.out)); have aC := nG hg (IsS175.lt (show IsS175 w0 _ g aE aH aI from IsS175.mv aD.out)); replace aD := aM (IsS175.below (IsS175.mv aD.out) hb); replace HK := rU HK hb; replace HB := aM (bS (IsS175.bl HB.out) hb); clear hb hbox hg) | ((with_reducible refine gC (f := 99) rfl ?_); refine gL (some 5) Try.func99 #[.pointer (some ⟨g, 0, none⟩), .int .i64 4] ?_; (with_reducible refine (spec_l1Below.calls g aE aH aI 4 aX aT aV w0 _ ?side1 ?side2 A2.out).mono ?_); (case side1 => exact IsS175.mv aD.out); (case side2 => exact IsS175.bl HB.out); rintro e dH ⟨rfl, hi, hb, hk⟩; refine ⟨_, rfl, ?_⟩; replace aA := rP hk aA aC; replace HK := aM (KeepBut.trans (km HK.out) hk (.inl rfl)); replace HB := aM (hb); replace aD := aM (hi); (repeat first|clear hb|clear hk|clear hi)) | ((with_reducible refine gC (f := 99) rfl ?_); refine gL (some 7) Try.func99 #[.pointer (some ⟨g, 0, none⟩), .int .i64 4] ?_; (with_reducible refine (spec_l1Below.calls g aE aT aV 4 aG bA bD w0 _ ?side1 ?side2 A3.out).mono ?_); (case side1 => exact IsS175.mv aD.out); (case side2 => exact IsS175.bl HB.out); rintro e dI ⟨rfl, hi, hb, hk⟩; refine ⟨_, rfl, ?_⟩; replace aA := rP hk aA aC; replace HK := aM (KeepBut.trans (km HK.out) hk (.inl rfl)); replace HB := aM (hb); replace aD := aM (hi); (repeat first|clear hb|clear hk|clear hi)) | ((with_reducible refine gC (f := 176) rfl ?_); refine gL (some 20) Try.func176 #[.pointer (some ⟨g, 0, none⟩)] ?_; (with_reducible refine (spec_l6DrawRight.calls g aE bA bD bO bP bQ bT bU bV w0 _ ?side1 ?side2 cP.out).mono ?_); (case side1 => exact IsS175.mv aD.out); (case side2 => exact IsS175.bl HB.out); rintro e dJ ⟨rfl, hi, hb, hk⟩; refine ⟨_, rfl, ?_⟩; replace aA := rP hk aA aC; replace HK := aM (KeepBut.trans (km HK.out) hk (.inl rfl)); replace HB := aM (hb); replace aD := aM (hi); (repeat first|clear hb|clear hk|clear hi)) | ((with_reducible refine gC (f := 99) rfl ?_); refine gL (some 22) Try.func99 #[.pointer (some ⟨g, 0, none⟩), .int .i64 4] ?_; (with_reducible refine (spec_l1Below.calls g aE bU bV 4 bX cL cN w0 _ ?side1 ?side2 cQ.out).mono ?_); (case side1 => exact IsS175.mv aD.out); (case side2 => exact IsS175.bl HB.out); rintro e dK ⟨rfl, hi, hb, hk⟩; refine ⟨_, rfl, ?_⟩; replace aA := rP hk aA aC; replace HK := aM (KeepBut.trans (km HK.out) hk (.inl rfl)); replace HB := aM (hb); replace aD := aM (hi); (repeat first|clear hb|clear hk|clear hi); have cU := aC.out; have cV := aK.out; have cW := cA8 aA.out))
 refine bodyPost_ret (results_cell_row rfl _ _ aQ 89 #[.int .i64 1, aX, bO, bP, bQ, bT, bX, .bool false] (0, 0) _ rfl (bm aA.out) Try.underlying89 rfl (by kernel_rfl)) rfl ?_
 exact ⟨xW, IsS175.mv aD.out, IsS175.bl HB.out, km HK.out⟩

end Go.Proofs.Ythmijfekdeagpaa.PFnFades

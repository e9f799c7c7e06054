/- A part of the proof of laws.FnExactGate. No condition beyond what its theorems say. -/
import Derived.Test.YthmijfekdeagpaaVFnExactGatePx2
namespace Go.Proofs.Ythmijfekdeagpaa.PFnExactGate
open Go.RowKit Go.Proofs.YthmijfekdeagpaaW.PrintWords Go.Proofs.YthmijfekdeagpaaW.PrintLast Go.Proofs.YthmijfekdeagpaaW.PrintMore
set_option linter.unusedVariables false
set_option linter.unusedSimpArgs false

def spec_l4Has.l0 : Nat → List Int → Int → Int → Option (Bool)
 | 0, _, _, _ => none
 | k + 1, x0, x1, x5 => if x5 < (x0.length : Int) then (if 0 ≤ x5 then (if (rd x0 x5) = x1 then (some true) else (spec_l4Has.l0 k x0 x1 (wrap64 (x5 + 1)))) else (none)) else (some false)
def spec_l4Has.f (k : Nat) (l0 : List Int) (a1 : Int) : Option (Bool) := spec_l4Has.l0 k l0 a1 0
theorem spec_l4Has.mono_l : ∀ k, (∀ y0 y1 y2, LeO (spec_l4Has.l0 k y0 y1 y2) (spec_l4Has.l0 (k + 1) y0 y1 y2))
 | 0 => fun _ _ _ r h => by simp [spec_l4Has.l0] at h
 | k + 1 => by
  have ih0 := spec_l4Has.mono_l k
  ·intro y0 y1 y2
   unfold spec_l4Has.l0
   repeat' first|(with_reducible first|apply ih0|exact lR _|exact lN _|refine lI ?_ ?_|refine lB ?_ fun _ => ?_)|exact lN _|refine lI ?_ ?_|refine lB ?_ fun _ => ?_
theorem spec_l4Has.mono : ∀ a0 a1 k, LeO (spec_l4Has.f k a0 a1) (spec_l4Has.f (k + 1) a0 a1) := by
 intro a0 a1 k
 have ih0 := spec_l4Has.mono_l k
 unfold spec_l4Has.f
 repeat' first|(with_reducible first|apply ih0|exact lR _|exact lN _|refine lI ?_ ?_|refine lB ?_ fun _ => ?_)|exact lN _|refine lI ?_ ?_|refine lB ?_ fun _ => ?_
set_option maxHeartbeats 60000000 in
set_option maxRecDepth 100000 in
theorem spec_l4Has.calls (k : Nat) (A0 : Option Addr) (c0 : Nat) (l0 : List Int) (a1 : Int) (r : Bool) (w : World) (hr0 : Kd.C (Kd.int .i64) w A0 l0.length l0) (hc0 : l0.length ≤ c0) (h : spec_l4Has.f k l0 a1 = some r) :
  Calls Try.prog 167 #[.slice A0 l0.length c0, a1] w fun e w' => e = .returned (.bool r) ∧ Drawn0 w w' := by
 have aI := aM hr0
 have aV := aM hc0
 clear hr0 hc0
 have H : (spec_l4Has.l0 k l0 a1 0) = some r := h
 clear h
 have H' := aM H
 clear H
 go_enter Try.func167, Try.ntmps167
 go_wp2
 go_loopg [5] k (fun kq v5 w' => ∃ (aA : Int), v5 = .int .i64 aA ∧ Aside0 (spec_l4Has.l0 kq l0 a1 aA = some r) ∧ Aside0 (kq ≤ k) ∧ Drawn0 w w')
 case atStart => exact ⟨(0), xE, H', ⟨Nat.le_refl _⟩, by repeat (first | exact Drawn0.refl _ | apply Drawn0.step)⟩
 case round =>
  clear H'
  repeat first|clear c1|clear p2
  obtain ⟨aA, rfl, HA, aJ, ⟨m1, rfl⟩⟩ := hrel
  cases gk with
  | zero => exact absurd HA.out (by simp [spec_l4Has.l0])
  | succ k1 =>
   have H := HA.out
   clear HA
   simp only [spec_l4Has.l0] at H
   by_cases c3 : aA < (l0.length : Int)
   case neg =>
    rw [if_neg c3] at H
    have aK := decide_eq_false c3
    clear c3
    obtain rfl := Option.some.inj H
    go_wp2
    go_ret
    exact ⟨by first | rfl | (simp; done) | (simp [*]; done), by repeat (first | exact Drawn0.refl _ | apply Drawn0.step)⟩
   rw [if_pos c3] at H
   have aK := decide_eq_true c3
   clear c3
   obtain ⟨aT, H⟩ := gI H
   by_cases c5 : (rd l0 aA) = a1
   case pos =>
    rw [if_pos c5] at H
    have aN : ((rd l0 aA) == a1) = true := beq_iff_eq.mpr c5
    have aQ : ((rd l0 aA) != a1) = false := bne_eq_false_iff_eq.mpr c5
    clear c5
    obtain rfl := Option.some.inj H
    have aC : 0 ≤ (aA : Int) := dT
    have aD : aA < (l0.length : Int) := dT
    obtain ⟨aH, aE, aG⟩ := Kd.at_int aI.out aA aC aD
    cases aE
    replace aC := eq_true aC
    replace aD := eq_true aD
    go_wp2
    go_ret
    exact ⟨by first | rfl | (simp; done) | (simp [*]; done), by repeat (first | exact Drawn0.refl _ | apply Drawn0.step)⟩
   rw [if_neg c5] at H
   have aN : ((rd l0 aA) == a1) = false := beq_eq_false_iff_ne.mpr c5
   have aQ : ((rd l0 aA) != a1) = true := bne_iff_ne.mpr c5
   have H' := aM H
   clear H
   have aC : 0 ≤ (aA : Int) := dT
   have aD : aA < (l0.length : Int) := dT
   obtain ⟨aH, aE, aG⟩ := Kd.at_int aI.out aA aC aD
   cases aE
   replace aC := eq_true aC
   replace aD := eq_true aD
   go_wp2
   go_roundg k1
   case measure => have := aJ.out; omega
   case rel => exact ⟨(wS aA), xE, H', ⟨by have := aJ.out; omega⟩, by repeat (first | exact Drawn0.refl _ | apply Drawn0.step)⟩

def spec_MemberOk.l0 : Nat → Int → Int → List Int → Option (Bool)
 | 0, _, _, _ => none
 | k + 1, x3, aC, aA => if x3 < (aA.length : Int) then (if 0 ≤ x3 then ((spec_l1In.f (rd aA x3) 1 4).bind fun aD => (if aD = true then (if x3 > 0 then (if 0 ≤ (wrap64 (x3 - 1)) then (if (wrap64 (x3 - 1)) < (aA.length : Int) then (if (rd aA (wrap64 (x3 - 1))) ≥ (rd aA x3) then (some false) else (spec_MemberOk.l0 k (wrap64 (x3 + 1)) aC aA)) else (none)) else (none)) else (spec_MemberOk.l0 k (wrap64 (x3 + 1)) aC aA)) else (some false))) else (none)) else ((spec_l1In.f aC 1 4).bind fun aE => (if aE = true then ((spec_l4Has.f k aA aC).bind fun aG => (some aG)) else (some false)))
def spec_MemberOk.f (k : Nat) (aA : Int) (aC : List Int) : Option (Bool) := spec_MemberOk.l0 k 0 aA aC
theorem spec_MemberOk.mono_l : ∀ k, (∀ y0 y1 y2, LeO (spec_MemberOk.l0 k y0 y1 y2) (spec_MemberOk.l0 (k + 1) y0 y1 y2))
 | 0 => fun _ _ _ r h => by simp [spec_MemberOk.l0] at h
 | k + 1 => by
  have ih0 := spec_MemberOk.mono_l k
  ·intro y0 y1 y2
   unfold spec_MemberOk.l0
   repeat' first|(with_reducible first|apply ih0|apply spec_l4Has.mono|exact lR _|exact lN _|refine lI ?_ ?_|refine lB ?_ fun _ => ?_)|exact lN _|refine lI ?_ ?_|refine lB ?_ fun _ => ?_
theorem spec_MemberOk.mono : ∀ a0 a1 k, LeO (spec_MemberOk.f k a0 a1) (spec_MemberOk.f (k + 1) a0 a1) := by
 intro a0 a1 k
 have ih0 := spec_MemberOk.mono_l k
 unfold spec_MemberOk.f
 repeat' first|(with_reducible first|apply ih0|apply spec_l4Has.mono|exact lR _|exact lN _|refine lI ?_ ?_|refine lB ?_ fun _ => ?_)|exact lN _|refine lI ?_ ?_|refine lB ?_ fun _ => ?_
set_option maxHeartbeats 60000000 in
set_option maxRecDepth 100000 in
theorem spec_MemberOk.calls (k : Nat) (aT : Int) (bL : Option Addr) (bM : Nat) (aC : List Int) (r : Bool) (w : World) (hr0_1 : Kd.C (Kd.int .i64) w bL aC.length aC) (hc0_1 : aC.length ≤ bM) (h : spec_MemberOk.f k aT aC = some r) :
  Calls Try.prog 127 #[.agg #[aT, .slice bL aC.length bM]] w fun e w' => e = .returned (.bool r) ∧ Below w.heap.size w w' := by
 have cY := Try.underlying63
 have aG := aM hr0_1
 have bP := aM hc0_1
 clear hr0_1 hc0_1
 have HB := aM (Below.refl w.heap.size w)
 have H : (spec_MemberOk.l0 k 0 aT aC) = some r := h
 clear h
 have H' := aM H
 clear H
 go_enter Try.func127, Try.ntmps127
 go_wp2_with (first | ((with_reducible refine gD (N := 1) rfl ?_); refine bE (N := 1) (cs := #[aT, .slice bL aC.length bM]) (t := 63) ?_; intro bQ hg w2 hbox hb; have aV := aM (hbox); have bW := gF hg HB; have cA := gF hg HB; replace HB := rS HB hb; clear hb hbox hg))
 repeat (go_quiet (first | ((with_reducible refine gD (N := 1) rfl ?_); refine bE (N := 1) (cs := #[aT, .slice bL aC.length bM]) (t := 63) ?_; intro bQ hg w2 hbox hb; have aV := aM (hbox); have bW := gF hg HB; have cA := gF hg HB; replace HB := rS HB hb; clear hb hbox hg)); try go_wp2_with (first | ((with_reducible refine gD (N := 1) rfl ?_); refine bE (N := 1) (cs := #[aT, .slice bL aC.length bM]) (t := 63) ?_; intro bQ hg w2 hbox hb; have aV := aM (hbox); have bW := gF hg HB; have cA := gF hg HB; replace HB := rS HB hb; clear hb hbox hg)))
 go_loopg [3] k (fun kq v3 w' => ∃ (aA : Int), v3 = .int .i64 aA ∧ Aside0 (spec_MemberOk.l0 kq aA aT aC = some r) ∧ Aside0 (kq ≤ k) ∧ Aside0 (w'.heap[bQ]? = some (.cells #[aT, (.slice bL aC.length bM)] 63 (0, 0))) ∧ Aside0 (Below w.heap.size w w'))
 case atStart => exact ⟨(0), xE, H', ⟨Nat.le_refl _⟩, ⟨bk aV.out⟩, ⟨bl HB.out⟩⟩
 case round =>
  clear H'
  repeat first|clear c1|clear p2
  obtain ⟨aA, rfl, HA, cC, aV, HB⟩ := hrel
  cases gk with
  | zero => exact absurd HA.out (by simp [spec_MemberOk.l0])
  | succ k1 =>
   have H := HA.out
   clear HA
   simp only [spec_MemberOk.l0] at H
   by_cases c3 : aA < (aC.length : Int)
   case neg =>
    rw [if_neg c3] at H
    have cN := decide_eq_false c3
    clear c3
    obtain ⟨cO, cE, H⟩ := hB H
    have bN := aM cE
    clear cE
    by_cases cD : cO = true
    case neg =>
     replace cD := Bool.eq_false_iff.mpr cD
     subst cD
     replace H := hF H
     obtain rfl := Option.some.inj H
     have cR := cA2 aV.out
     go_wp2_with (first | (go_at_call 80; (with_reducible refine (spec_l1In.calls aT 1 4 false _ bN.out).mono ?_); rintro e w' ⟨rfl, ⟨nd, rfl⟩⟩; (try first | exact ⟨rfl, _, World.drewN_drewN _ _ _⟩ | exact ⟨rfl, _, Eq.trans (World.drewN_drewN _ _ _) (congrArg (World.drewN _) (Nat.add_assoc _ _ _))⟩)))
     repeat (go_quiet (first | (go_at_call 80; (with_reducible refine (spec_l1In.calls aT 1 4 false _ bN.out).mono ?_); rintro e w' ⟨rfl, ⟨nd, rfl⟩⟩; (try first | exact ⟨rfl, _, World.drewN_drewN _ _ _⟩ | exact ⟨rfl, _, Eq.trans (World.drewN_drewN _ _ _) (congrArg (World.drewN _) (Nat.add_assoc _ _ _))⟩))); try go_wp2_with (first | (go_at_call 80; (with_reducible refine (spec_l1In.calls aT 1 4 false _ bN.out).mono ?_); rintro e w' ⟨rfl, ⟨nd, rfl⟩⟩; (try first | exact ⟨rfl, _, World.drewN_drewN _ _ _⟩ | exact ⟨rfl, _, Eq.trans (World.drewN_drewN _ _ _) (congrArg (World.drewN _) (Nat.add_assoc _ _ _))⟩))))
     go_ret
     exact ⟨xW, bl HB.out⟩
    subst cD
    replace H := hP H rfl
    obtain ⟨bU, cG, H⟩ := hB H
    have cH := aM cG
    clear cG
    obtain rfl := Option.some.inj H
    have cS := cA2 aV.out
    go_wp2_with (first | (go_at_call 80; (with_reducible refine (spec_l1In.calls aT 1 4 true _ bN.out).mono ?_); rintro e w' ⟨rfl, ⟨nd, rfl⟩⟩; (try first | exact ⟨rfl, _, World.drewN_drewN _ _ _⟩ | exact ⟨rfl, _, Eq.trans (World.drewN_drewN _ _ _) (congrArg (World.drewN _) (Nat.add_assoc _ _ _))⟩)) | (go_at_call 167; (with_reducible refine (spec_l4Has.calls k1 _ _ aC aT bU _ ?side1 ?side2 cH.out).mono ?_); (case side1 => exact cM (cB aG.out (bl HB.out))); (case side2 => exact bP.out); rintro e w' ⟨rfl, ⟨nd, rfl⟩⟩; (try first | exact ⟨rfl, _, World.drewN_drewN _ _ _⟩ | exact ⟨rfl, _, Eq.trans (World.drewN_drewN _ _ _) (congrArg (World.drewN _) (Nat.add_assoc _ _ _))⟩)))
    repeat (go_quiet (first | (go_at_call 80; (with_reducible refine (spec_l1In.calls aT 1 4 true _ bN.out).mono ?_); rintro e w' ⟨rfl, ⟨nd, rfl⟩⟩; (try first | exact ⟨rfl, _, World.drewN_drewN _ _ _⟩ | exact ⟨rfl, _, Eq.trans (World.drewN_drewN _ _ _) (congrArg (World.drewN _) (Nat.add_assoc _ _ _))⟩)) | (go_at_call 167; (with_reducible refine (spec_l4Has.calls k1 _ _ aC aT bU _ ?side1 ?side2 cH.out).mono ?_); (case side1 => exact cM (cB aG.out (bl HB.out))); (case side2 => exact bP.out); rintro e w' ⟨rfl, ⟨nd, rfl⟩⟩; (try first | exact ⟨rfl, _, World.drewN_drewN _ _ _⟩ | exact ⟨rfl, _, Eq.trans (World.drewN_drewN _ _ _) (congrArg (World.drewN _) (Nat.add_assoc _ _ _))⟩))); try go_wp2_with (first | (go_at_call 80; (with_reducible refine (spec_l1In.calls aT 1 4 true _ bN.out).mono ?_); rintro e w' ⟨rfl, ⟨nd, rfl⟩⟩; (try first | exact ⟨rfl, _, World.drewN_drewN _ _ _⟩ | exact ⟨rfl, _, Eq.trans (World.drewN_drewN _ _ _) (congrArg (World.drewN _) (Nat.add_assoc _ _ _))⟩)) | (go_at_call 167; (with_reducible refine (spec_l4Has.calls k1 _ _ aC aT bU _ ?side1 ?side2 cH.out).mono ?_); (case side1 => exact cM (cB aG.out (bl HB.out))); (case side2 => exact bP.out); rintro e w' ⟨rfl, ⟨nd, rfl⟩⟩; (try first | exact ⟨rfl, _, World.drewN_drewN _ _ _⟩ | exact ⟨rfl, _, Eq.trans (World.drewN_drewN _ _ _) (congrArg (World.drewN _) (Nat.add_assoc _ _ _))⟩))))
    go_ret
    exact ⟨xW, bl HB.out⟩
   rw [if_pos c3] at H
   have cN := decide_eq_true c3
   clear c3
   obtain ⟨dA, H⟩ := gI H
   obtain ⟨cP, cL, H⟩ := hB H
   have A5 := aM cL
   clear cL
   by_cases c6 : cP = true
   case neg =>
    replace c6 := Bool.eq_false_iff.mpr c6
    subst c6
    replace H := hF H
    obtain rfl := Option.some.inj H
    have cT := cA2 aV.out
    have aW : 0 ≤ (aA : Int) := dT
    have aX : aA < (aC.length : Int) := dT
    obtain ⟨aQ, bK, aN⟩ := Kd.at_int aG.out aA aW aX
    cases bK
    replace aN := xB HB aN
    replace aW := eq_true aW
    replace aX := eq_true aX
    go_wp2_with (first | (go_at_call 80; (with_reducible refine (spec_l1In.calls (rd aC aA) 1 4 false _ A5.out).mono ?_); rintro e w' ⟨rfl, ⟨nd, rfl⟩⟩; (try first | exact ⟨rfl, _, World.drewN_drewN _ _ _⟩ | exact ⟨rfl, _, Eq.trans (World.drewN_drewN _ _ _) (congrArg (World.drewN _) (Nat.add_assoc _ _ _))⟩)))
    repeat (go_quiet (first | (go_at_call 80; (with_reducible refine (spec_l1In.calls (rd aC aA) 1 4 false _ A5.out).mono ?_); rintro e w' ⟨rfl, ⟨nd, rfl⟩⟩; (try first | exact ⟨rfl, _, World.drewN_drewN _ _ _⟩ | exact ⟨rfl, _, Eq.trans (World.drewN_drewN _ _ _) (congrArg (World.drewN _) (Nat.add_assoc _ _ _))⟩))); try go_wp2_with (first | (go_at_call 80; (with_reducible refine (spec_l1In.calls (rd aC aA) 1 4 false _ A5.out).mono ?_); rintro e w' ⟨rfl, ⟨nd, rfl⟩⟩; (try first | exact ⟨rfl, _, World.drewN_drewN _ _ _⟩ | exact ⟨rfl, _, Eq.trans (World.drewN_drewN _ _ _) (congrArg (World.drewN _) (Nat.add_assoc _ _ _))⟩))))
    go_ret
    exact ⟨xW, bl HB.out⟩
   subst c6
   replace H := hP H rfl
   by_cases c7 : aA > 0
   case neg =>
    rw [if_neg c7] at H
    have cQ := decide_eq_false c7
    clear c7
    have H' := aM H
    clear H
    have cU := cA2 aV.out
    have aW : 0 ≤ (aA : Int) := dT
    have aX : aA < (aC.length : Int) := dT
    obtain ⟨aQ, bK, aN⟩ := Kd.at_int aG.out aA aW aX
    cases bK
    replace aN := xB HB aN
    replace aW := eq_true aW
    replace aX := eq_true aX
    go_wp2_with (first | (go_at_call 80; (with_reducible refine (spec_l1In.calls (rd aC aA) 1 4 true _ A5.out).mono ?_); rintro e w' ⟨rfl, ⟨nd, rfl⟩⟩; (try first | exact ⟨rfl, _, World.drewN_drewN _ _ _⟩ | exact ⟨rfl, _, Eq.trans (World.drewN_drewN _ _ _) (congrArg (World.drewN _) (Nat.add_assoc _ _ _))⟩)))
    repeat (go_quiet (first | (go_at_call 80; (with_reducible refine (spec_l1In.calls (rd aC aA) 1 4 true _ A5.out).mono ?_); rintro e w' ⟨rfl, ⟨nd, rfl⟩⟩; (try first | exact ⟨rfl, _, World.drewN_drewN _ _ _⟩ | exact ⟨rfl, _, Eq.trans (World.drewN_drewN _ _ _) (congrArg (World.drewN _) (Nat.add_assoc _ _ _))⟩))); try go_wp2_with (first | (go_at_call 80; (with_reducible refine (spec_l1In.calls (rd aC aA) 1 4 true _ A5.out).mono ?_); rintro e w' ⟨rfl, ⟨nd, rfl⟩⟩; (try first | exact ⟨rfl, _, World.drewN_drewN _ _ _⟩ | exact ⟨rfl, _, Eq.trans (World.drewN_drewN _ _ _) (congrArg (World.drewN _) (Nat.add_assoc _ _ _))⟩))))
    go_roundg k1
    case measure => have := cC.out; omega
    case rel => exact ⟨(wS aA), xE, H', ⟨by have := cC.out; omega⟩, ⟨bk aV.out⟩, ⟨bl HB.out⟩⟩
   rw [if_pos c7] at H
   have cQ := decide_eq_true c7
   clear c7
   obtain ⟨ji8, hji8⟩ : ∃ j_ : Int, (wrap64 (aA - 1)) = j_ := ⟨_, rfl⟩
   replace H : (if 0 ≤ (ji8) then (if (ji8) < (aC.length : Int) then (if (rd aC (ji8)) ≥ (rd aC aA) then (some false) else (spec_MemberOk.l0 k1 (wS aA) aT aC)) else (none)) else (none)) = some r := by first | (rw [hji8] at H; exact H) | (simp only [hji8] at H ⊢; exact H)
   (try rw [hji8] at A5)
   have hji8w : (IntKind.i64.wrap (aA - 1)) = ji8 := (i64_w _).trans hji8
   obtain ⟨dB, H⟩ := gI H
   obtain ⟨cV, H⟩ := gI H
   by_cases bO : (rd aC (ji8)) ≥ (rd aC aA)
   case pos =>
    rw [if_pos bO] at H
    have cK := decide_eq_true bO
    clear bO
    obtain rfl := Option.some.inj H
    have cW := cA2 aV.out
    have aW : 0 ≤ (aA : Int) := dT
    have aX : aA < (aC.length : Int) := dT
    obtain ⟨aQ, bK, aN⟩ := Kd.at_int aG.out aA aW aX
    cases bK
    replace aN := xB HB aN
    replace aW := eq_true aW
    replace aX := eq_true aX
    go_wp2_with (first | (go_at_call 80; (with_reducible refine (spec_l1In.calls (rd aC aA) 1 4 true _ A5.out).mono ?_); rintro e w' ⟨rfl, ⟨nd, rfl⟩⟩; (try first | exact ⟨rfl, _, World.drewN_drewN _ _ _⟩ | exact ⟨rfl, _, Eq.trans (World.drewN_drewN _ _ _) (congrArg (World.drewN _) (Nat.add_assoc _ _ _))⟩); have aH : 0 ≤ ((ji8) : Int) := dT; have aI : (ji8) < (aC.length : Int) := dT; obtain ⟨bA, bI, aD⟩ := Kd.at_int aG.out (ji8) aH aI; obtain rfl : aQ = bA := (by injection bI); replace aD := (HB.out.cell (World.block_lt_of_cell? w _ aD)).trans aD; replace aH := eq_true aH; replace aI := eq_true aI; have aJ : 0 ≤ (aA : Int) := dT; have aK : aA < (aC.length : Int) := dT; obtain ⟨bD, bJ, aE⟩ := Kd.at_int aG.out aA aJ aK; obtain rfl : aQ = bD := (by injection bJ); replace aE := (HB.out.cell (World.block_lt_of_cell? w _ aE)).trans aE; replace aJ := eq_true aJ; replace aK := eq_true aK))
    repeat (go_quiet (first | (go_at_call 80; (with_reducible refine (spec_l1In.calls (rd aC aA) 1 4 true _ A5.out).mono ?_); rintro e w' ⟨rfl, ⟨nd, rfl⟩⟩; (try first | exact ⟨rfl, _, World.drewN_drewN _ _ _⟩ | exact ⟨rfl, _, Eq.trans (World.drewN_drewN _ _ _) (congrArg (World.drewN _) (Nat.add_assoc _ _ _))⟩); have aH : 0 ≤ ((ji8) : Int) := dT; have aI : (ji8) < (aC.length : Int) := dT; obtain ⟨bA, bI, aD⟩ := Kd.at_int aG.out (ji8) aH aI; obtain rfl : aQ = bA := (by injection bI); replace aD := (HB.out.cell (World.block_lt_of_cell? w _ aD)).trans aD; replace aH := eq_true aH; replace aI := eq_true aI; have aJ : 0 ≤ (aA : Int) := dT; have aK : aA < (aC.length : Int) := dT; obtain ⟨bD, bJ, aE⟩ := Kd.at_int aG.out aA aJ aK; obtain rfl : aQ = bD := (by injection bJ); replace aE := (HB.out.cell (World.block_lt_of_cell? w _ aE)).trans aE; replace aJ := eq_true aJ; replace aK := eq_true aK)); try go_wp2_with (first | (go_at_call 80; (with_reducible refine (spec_l1In.calls (rd aC aA) 1 4 true _ A5.out).mono ?_); rintro e w' ⟨rfl, ⟨nd, rfl⟩⟩; (try first | exact ⟨rfl, _, World.drewN_drewN _ _ _⟩ | exact ⟨rfl, _, Eq.trans (World.drewN_drewN _ _ _) (congrArg (World.drewN _) (Nat.add_assoc _ _ _))⟩); have aH : 0 ≤ ((ji8) : Int) := dT; have aI : (ji8) < (aC.length : Int) := dT; obtain ⟨bA, bI, aD⟩ := Kd.at_int aG.out (ji8) aH aI; obtain rfl : aQ = bA := (by injection bI); replace aD := (HB.out.cell (World.block_lt_of_cell? w _ aD)).trans aD; replace aH := eq_true aH; replace aI := eq_true aI; have aJ : 0 ≤ (aA : Int) := dT; have aK : aA < (aC.length : Int) := dT; obtain ⟨bD, bJ, aE⟩ := Kd.at_int aG.out aA aJ aK; obtain rfl : aQ = bD := (by injection bJ); replace aE := (HB.out.cell (World.block_lt_of_cell? w _ aE)).trans aE; replace aJ := eq_true aJ; replace aK := eq_true aK)))
    go_ret
    exact ⟨by first | rfl | (simp [errW_none, errW_some] <;> rfl) | (simp only [← hji8]; first | rfl | (simp [errW_none, errW_some] <;> rfl)) | (simp [*, errW_none, errW_some] <;> rfl), bl HB.out⟩
   rw [if_neg bO] at H
   have cK := decide_eq_false bO
   clear bO
   have H' := aM H
   clear H
   have cX := cA2 aV.out
   have aW : 0 ≤ (aA : Int) := dT
   have aX : aA < (aC.length : Int) := dT
   obtain ⟨aQ, bK, aN⟩ := Kd.at_int aG.out aA aW aX
   cases bK
   replace aN := xB HB aN
   replace aW := eq_true aW
   replace aX := eq_true aX
   go_wp2_with (first | (go_at_call 80; (with_reducible refine (spec_l1In.calls (rd aC aA) 1 4 true _ A5.out).mono ?_); rintro e w' ⟨rfl, ⟨nd, rfl⟩⟩; (try first | exact ⟨rfl, _, World.drewN_drewN _ _ _⟩ | exact ⟨rfl, _, Eq.trans (World.drewN_drewN _ _ _) (congrArg (World.drewN _) (Nat.add_assoc _ _ _))⟩); have aH : 0 ≤ ((ji8) : Int) := dT; have aI : (ji8) < (aC.length : Int) := dT; obtain ⟨bA, bI, aD⟩ := Kd.at_int aG.out (ji8) aH aI; obtain rfl : aQ = bA := (by injection bI); replace aD := (HB.out.cell (World.block_lt_of_cell? w _ aD)).trans aD; replace aH := eq_true aH; replace aI := eq_true aI; have aJ : 0 ≤ (aA : Int) := dT; have aK : aA < (aC.length : Int) := dT; obtain ⟨bD, bJ, aE⟩ := Kd.at_int aG.out aA aJ aK; obtain rfl : aQ = bD := (by injection bJ); replace aE := (HB.out.cell (World.block_lt_of_cell? w _ aE)).trans aE; replace aJ := eq_true aJ; replace aK := eq_true aK))
   repeat (go_quiet (first | (go_at_call 80; (with_reducible refine (spec_l1In.calls (rd aC aA) 1 4 true _ A5.out).mono ?_); rintro e w' ⟨rfl, ⟨nd, rfl⟩⟩; (try first | exact ⟨rfl, _, World.drewN_drewN _ _ _⟩ | exact ⟨rfl, _, Eq.trans (World.drewN_drewN _ _ _) (congrArg (World.drewN _) (Nat.add_assoc _ _ _))⟩); have aH : 0 ≤ ((ji8) : Int) := dT; have aI : (ji8) < (aC.length : Int) := dT; obtain ⟨bA, bI, aD⟩ := Kd.at_int aG.out (ji8) aH aI; obtain rfl : aQ = bA := (by injection bI); replace aD := (HB.out.cell (World.block_lt_of_cell? w _ aD)).trans aD; replace aH := eq_true aH; replace aI := eq_true aI; have aJ : 0 ≤ (aA : Int) := dT; have aK : aA < (aC.length : Int) := dT; obtain ⟨bD, bJ, aE⟩ := Kd.at_int aG.out aA aJ aK; obtain rfl : aQ = bD := (by injection bJ); replace aE := (HB.out.cell (World.block_lt_of_cell? w _ aE)).trans aE; replace aJ := eq_true aJ; replace aK := eq_true aK)); try go_wp2_with (first | (go_at_call 80; (with_reducible refine (spec_l1In.calls (rd aC aA) 1 4 true _ A5.out).mono ?_); rintro e w' ⟨rfl, ⟨nd, rfl⟩⟩; (try first | exact ⟨rfl, _, World.drewN_drewN _ _ _⟩ | exact ⟨rfl, _, Eq.trans (World.drewN_drewN _ _ _) (congrArg (World.drewN _) (Nat.add_assoc _ _ _))⟩); have aH : 0 ≤ ((ji8) : Int) := dT; have aI : (ji8) < (aC.length : Int) := dT; obtain ⟨bA, bI, aD⟩ := Kd.at_int aG.out (ji8) aH aI; obtain rfl : aQ = bA := (by injection bI); replace aD := (HB.out.cell (World.block_lt_of_cell? w _ aD)).trans aD; replace aH := eq_true aH; replace aI := eq_true aI; have aJ : 0 ≤ (aA : Int) := dT; have aK : aA < (aC.length : Int) := dT; obtain ⟨bD, bJ, aE⟩ := Kd.at_int aG.out aA aJ aK; obtain rfl : aQ = bD := (by injection bJ); replace aE := (HB.out.cell (World.block_lt_of_cell? w _ aE)).trans aE; replace aJ := eq_true aJ; replace aK := eq_true aK)))
   go_roundg k1
   case measure => have := cC.out; omega
   case rel => exact ⟨(wS aA), xE, H', ⟨by have := cC.out; omega⟩, ⟨bk aV.out⟩, ⟨bl HB.out⟩⟩

mutual
def spec_CardOk.j0 : Nat → Bool → List Bool → List (S63) → List (S138) → Option (Bool)
 | 0, _, _, _, _ => none
 | k + 1, aE, aA, aC, aD => if aE = true then (some false) else (spec_CardOk.l0 k 0 aA aC aD)
def spec_CardOk.l0 : Nat → Int → List Bool → List (S63) → List (S138) → Option (Bool)
 | 0, _, _, _, _ => none
 | k + 1, x3, aC, aA, aD => if x3 < (aA.length : Int) then (if 0 ≤ x3 then ((spec_MemberOk.f k ((rd_T63 aA x3).f0) ((rd_T63 aA x3).f1)).bind fun aE => (if aE = true then (spec_CardOk.l0 k (wrap64 (x3 + 1)) aC aA aD) else (some false))) else (none)) else (some true)
end
def spec_CardOk.f (k : Nat) (aA : List Bool) (aC : List (S63)) (aD : List (S138)) : Option (Bool) := (spec_l1In.f (aA.length : Int) 1 4).bind fun aE => (if aE = true then (if (aC.length : Int) = (aA.length : Int) then ((spec_TableOk.f k aD).bind fun aG => (spec_CardOk.j0 k (!aG) aA aC aD)) else (spec_CardOk.j0 k true aA aC aD)) else (spec_CardOk.j0 k true aA aC aD))
theorem spec_CardOk.mono_l : ∀ k, (∀ y0 y1 y2 y3, LeO (spec_CardOk.j0 k y0 y1 y2 y3) (spec_CardOk.j0 (k + 1) y0 y1 y2 y3)) ∧ (∀ y0 y1 y2 y3, LeO (spec_CardOk.l0 k y0 y1 y2 y3) (spec_CardOk.l0 (k + 1) y0 y1 y2 y3))
 | 0 => by refine ⟨?_, ?_⟩ <;> intros <;> intro r h <;> simp [spec_CardOk.j0, spec_CardOk.l0] at h
 | k + 1 => by
  obtain ⟨ih0, ih1⟩ := spec_CardOk.mono_l k
  refine ⟨?_, ?_⟩
  ·intro y0 y1 y2 y3
   unfold spec_CardOk.j0
   repeat' first|(with_reducible first|apply ih0|apply ih1|apply spec_MemberOk.mono|apply spec_TableOk.mono|exact lR _|exact lN _|refine lI ?_ ?_|refine lB ?_ fun _ => ?_)|exact lN _|refine lI ?_ ?_|refine lB ?_ fun _ => ?_
  ·intro y0 y1 y2 y3
   unfold spec_CardOk.l0
   repeat' first|(with_reducible first|apply ih0|apply ih1|apply spec_MemberOk.mono|apply spec_TableOk.mono|exact lR _|exact lN _|refine lI ?_ ?_|refine lB ?_ fun _ => ?_)|exact lN _|refine lI ?_ ?_|refine lB ?_ fun _ => ?_
theorem spec_CardOk.mono : ∀ a0 a1 a2 k, LeO (spec_CardOk.f k a0 a1 a2) (spec_CardOk.f (k + 1) a0 a1 a2) := by
 intro a0 a1 a2 k
 obtain ⟨ih0, ih1⟩ := spec_CardOk.mono_l k
 unfold spec_CardOk.f
 repeat' first|(with_reducible first|apply ih0|apply ih1|apply spec_MemberOk.mono|apply spec_TableOk.mono|exact lR _|exact lN _|refine lI ?_ ?_|refine lB ?_ fun _ => ?_)|exact lN _|refine lI ?_ ?_|refine lB ?_ fun _ => ?_
set_option maxHeartbeats 60000000 in
set_option maxRecDepth 100000 in
theorem spec_CardOk.calls (k : Nat) (aW : Option Addr) (aX : Nat) (aC : List Bool) (bA : Option Addr) (bD : Nat) (aA : List (S63)) (bI : Option Addr) (bJ : Nat) (aG : List (S138)) (r : Bool) (w : World) (hr0_0 : Kd.C Kd.bool w aW aC.length aC) (hc0_0 : aC.length ≤ aX) (hr0_1 : Kd.C k63 w bA aA.length aA) (hc0_1 : aA.length ≤ bD) (hr0_2 : Kd.C k138 w bI aG.length aG) (hc0_2 : aG.length ≤ bJ) (h : spec_CardOk.f k aC aA aG = some r) :
  Calls Try.prog 50 #[.agg #[.slice aW aC.length aX, .slice bA aA.length bD, .slice bI aG.length bJ]] w fun e w' => e = .returned (.bool r) ∧ Below w.heap.size w w' := by
 have dH := Try.underlying43
 have dI := Try.underlying63
 have cV := aM hr0_0
 have cW := aM hc0_0
 clear hr0_0 hc0_0
 have cA := aM hr0_1
 have cX := aM hc0_1
 clear hr0_1 hc0_1
 have cH := aM hr0_2
 have cK := aM hc0_2
 clear hr0_2 hc0_2
 have HB := aM (Below.refl w.heap.size w)
 have H : ((spec_l1In.f (aC.length : Int) 1 4).bind fun bP => (if bP = true then (if (aA.length : Int) = (aC.length : Int) then ((spec_TableOk.f k aG).bind fun bN => (spec_CardOk.j0 k (!bN) aC aA aG)) else (spec_CardOk.j0 k true aC aA aG)) else (spec_CardOk.j0 k true aC aA aG))) = some r := h
 clear h
 have cE := aM H
 clear H
 go_enter Try.func50, Try.ntmps50
 go_upto_region 1 with (first | ((with_reducible refine gD (N := 1) rfl ?_); (try (refine gate_guard (by rfl) ?_; dsimp only)); refine bE (N := 1) (cs := #[.slice aW aC.length aX, .slice bA aA.length bD, .slice bI aG.length bJ]) (t := 43) ?_; intro cC hg w3 hbox hb; have aD := aM (hbox); have cY := gF hg HB; have dA := gF hg HB; replace HB := rS HB hb; clear hb hbox hg))
 (try simp only [Act.put, sA, sZ, sS])
 go_cut [23] (fun cU wc => ∃ (kq : Nat) (aV : Bool), cU = .bool aV ∧ Aside0 (spec_CardOk.j0 kq aV aC aA aG = some r) ∧ Aside0 (kq ≤ k) ∧ Aside0 (wc.heap[cC]? = some (.cells #[(.slice aW aC.length aX), (.slice bA aA.length bD), (.slice bI aG.length bJ)] 43 (0, 0))) ∧ Aside0 (Below w.heap.size w wc))
 case first =>
  have H := cE.out
  clear cE
  obtain ⟨bP, cO, H⟩ := hB H
  have A4 := aM cO
  clear cO
  by_cases c5 : bP = true
  case neg =>
   replace c5 := Bool.eq_false_iff.mpr c5
   subst c5
   replace H := hF H
   have H' := aM H
   clear H
   have dB := cA3 aD.out
   go_wp2_with (first | ((with_reducible refine gC (f := 80) rfl ?_); refine gL (some 7) Try.func80 #[.int .i64 (aC.length : Int), .int .i64 1, .int .i64 4] ?_; (with_reducible refine (spec_l1In.calls (aC.length : Int) 1 4 false _ A4.out).mono ?_); rintro e w' ⟨rfl, ⟨nd, rfl⟩⟩; refine ⟨_, rfl, ?_⟩))
   go_meet
   case rel => exact ⟨_, (true), xE, H', ⟨by first | omega | exact Nat.le_refl _⟩, ⟨bk aD.out⟩, ⟨bl HB.out⟩⟩
  subst c5
  replace H := hP H rfl
  by_cases c6 : (aA.length : Int) = (aC.length : Int)
  case neg =>
   rw [if_neg c6] at H
   have aJ : ((aA.length : Int) == (aC.length : Int)) = false := beq_eq_false_iff_ne.mpr c6
   have bQ : ((aA.length : Int) != (aC.length : Int)) = true := bne_iff_ne.mpr c6
   have bU : (aA.length == aC.length) = false := by first | simpa using c6 | (simp at c6 ⊢; omega)
   (first | rw [aJ] | (simp only [i64_w, i32_w]; rw [aJ]) | skip)
   have H' := aM H
   clear H
   have dC := cA3 aD.out
   go_wp2_with (first | ((with_reducible refine gC (f := 80) rfl ?_); refine gL (some 7) Try.func80 #[.int .i64 (aC.length : Int), .int .i64 1, .int .i64 4] ?_; (with_reducible refine (spec_l1In.calls (aC.length : Int) 1 4 true _ A4.out).mono ?_); rintro e w' ⟨rfl, ⟨nd, rfl⟩⟩; refine ⟨_, rfl, ?_⟩))
   go_meet
   case rel => exact ⟨_, (true), xE, H', ⟨by first | omega | exact Nat.le_refl _⟩, ⟨bk aD.out⟩, ⟨bl HB.out⟩⟩
  rw [if_pos c6] at H
  have aJ : ((aA.length : Int) == (aC.length : Int)) = true := beq_iff_eq.mpr c6
  have bQ : ((aA.length : Int) != (aC.length : Int)) = false := bne_eq_false_iff_eq.mpr c6
  have bU : (aA.length == aC.length) = true := by first | simpa using c6 | (simp at c6 ⊢; omega)
  clear c6
  (first | rw [aJ] | (simp only [i64_w, i32_w]; rw [aJ]) | skip)
  obtain ⟨bN, cP, H⟩ := hB H
  have A7 := aM cP
  clear cP
  have H' := aM H
  clear H
  have dJ := cA3 aD.out
  go_wp2_with (first | ((with_reducible refine gC (f := 80) rfl ?_); refine gL (some 7) Try.func80 #[.int .i64 (aC.length : Int), .int .i64 1, .int .i64 4] ?_; (with_reducible refine (spec_l1In.calls (aC.length : Int) 1 4 true _ A4.out).mono ?_); rintro e w' ⟨rfl, ⟨nd, rfl⟩⟩; refine ⟨_, rfl, ?_⟩) | (go_at_call 126; (with_reducible refine (spec_TableOk.calls k _ _ aG bN _ ?side1 ?side2 A7.out).mono ?_); (case side1 => exact cM (cB cH.out (bl HB.out))); (case side2 => exact cK.out); rintro e w9 ⟨rfl, hb⟩; replace aD := rB aD hb; replace HB := rS HB hb; (try clear hb)))
  go_meet
  case rel => exact ⟨_, (!bN), xE, H', ⟨by first | omega | exact Nat.le_refl _⟩, ⟨bk aD.out⟩, ⟨bl HB.out⟩⟩
 case rest =>
  clear cE
  repeat first|clear p2|clear c5|clear c6|clear aJ|clear bQ|clear bU|clear c8
  obtain ⟨kq, aV, rfl, HA, HJ1, aD, HB⟩ := hcut
  cases kq with
  | zero => exact absurd HA.out (by simp [spec_CardOk.j0])
  | succ cQ =>
   have H := HA.out
   clear HA
   simp only [spec_CardOk.j0] at H
   by_cases bO : aV = true
   case pos =>
    subst bO
    replace H := hP H rfl
    obtain rfl := Option.some.inj H
    go_wp2
    go_ret
    exact ⟨xW, bl HB.out⟩
   replace bO := Bool.eq_false_iff.mpr bO
   subst bO
   replace H := hF H
   have H' := aM H
   clear H
   go_wp2
   go_loopg [3] cQ (fun kq v3 w' => ∃ (aE : Int), v3 = .int .i64 aE ∧ Aside0 (spec_CardOk.l0 kq aE aC aA aG = some r) ∧ Aside0 (kq ≤ cQ) ∧ Aside0 (w'.heap[cC]? = some (.cells #[(.slice aW aC.length aX), (.slice bA aA.length bD), (.slice bI aG.length bJ)] 43 (0, 0))) ∧ Aside0 (Below w.heap.size w w'))
   case atStart => exact ⟨(0), xE, H', ⟨Nat.le_refl _⟩, ⟨bk aD.out⟩, ⟨bl HB.out⟩⟩
   case round =>
    clear H'
    repeat first|clear c1|clear p2|clear c5|clear c6|clear aJ|clear bQ|clear bU|clear c8|clear bO|clear p2
    obtain ⟨aE, rfl, HA, cR, aD, HB⟩ := hrel
    cases gk with
    | zero => exact absurd HA.out (by simp [spec_CardOk.l0])
    | succ k2 =>
     have H := HA.out
     clear HA
     simp only [spec_CardOk.l0] at H
     by_cases bM : aE < (aA.length : Int)
     case neg =>
      rw [if_neg bM] at H
      have cL := decide_eq_false bM
      clear bM
      obtain rfl := Option.some.inj H
      have dD := cA3 aD.out
      go_wp2
      go_ret
      exact ⟨xW, bl HB.out⟩
     rw [if_pos bM] at H
     have cL := decide_eq_true bM
     clear bM
     obtain ⟨dE, H⟩ := gI H
     obtain ⟨cT, cG, H⟩ := hB H
     have cS := aM cG
     clear cG
     by_cases cD : cT = true
     case neg =>
      replace cD := Bool.eq_false_iff.mpr cD
      subst cD
      replace H := hF H
      obtain rfl := Option.some.inj H
      have dF := cA3 aD.out
      have aK : 0 ≤ (aE : Int) := dT
      have aN : aE < (aA.length : Int) := dT
      obtain ⟨cN, bK, bL, bW, aH, aI, hl130_1, hi130_1⟩ := at_T63 cA.out aE aK aN
      cases bW
      replace aH := xB HB aH
      replace aI := xB HB aI
      have aQ := aM hi130_1
      have aT := aM hl130_1
      clear hi130_1 hl130_1
      replace aK := eq_true aK
      replace aN := eq_true aN
      go_wp2_with (first | ((with_reducible refine gC (f := 127) rfl ?_); refine gL (some 36) Try.func127 #[.agg #[((rd_T63 aA aE).f0), .slice bK ((rd_T63 aA aE).f1).length bL]] ?_; (with_reducible refine (spec_MemberOk.calls k2 ((rd_T63 aA aE).f0) _ _ ((rd_T63 aA aE).f1) false _ ?side1 ?side2 cS.out).mono ?_); (case side1 => exact cM (cB aQ.out HB.out)); (case side2 => exact aT.out); rintro e dK ⟨rfl, hb⟩; refine ⟨_, rfl, ?_⟩; replace aD := rB aD hb; replace HB := rS HB hb; (try clear hb)))
      go_ret
      exact ⟨xW, bl HB.out⟩
     subst cD
     replace H := hP H rfl
     have H' := aM H
     clear H
     have dG := cA3 aD.out
     have aK : 0 ≤ (aE : Int) := dT
     have aN : aE < (aA.length : Int) := dT
     obtain ⟨cN, bK, bL, bW, aH, aI, hl130_1, hi130_1⟩ := at_T63 cA.out aE aK aN
     cases bW
     replace aH := xB HB aH
     replace aI := xB HB aI
     have aQ := aM hi130_1
     have aT := aM hl130_1
     clear hi130_1 hl130_1
     replace aK := eq_true aK
     replace aN := eq_true aN
     go_wp2_with (first | ((with_reducible refine gC (f := 127) rfl ?_); refine gL (some 36) Try.func127 #[.agg #[((rd_T63 aA aE).f0), .slice bK ((rd_T63 aA aE).f1).length bL]] ?_; (with_reducible refine (spec_MemberOk.calls k2 ((rd_T63 aA aE).f0) _ _ ((rd_T63 aA aE).f1) true _ ?side1 ?side2 cS.out).mono ?_); (case side1 => exact cM (cB aQ.out HB.out)); (case side2 => exact aT.out); rintro e dL ⟨rfl, hb⟩; refine ⟨_, rfl, ?_⟩; replace aD := rB aD hb; replace HB := rS HB hb; (try clear hb)))
     go_roundg k2
     case measure => have := HJ1.out; have := cR.out; omega
     case rel => exact ⟨(wS aE), xE, H', ⟨by have := HJ1.out; have := cR.out; omega⟩, ⟨bk aD.out⟩, ⟨bl HB.out⟩⟩

end Go.Proofs.Ythmijfekdeagpaa.PFnExactGate

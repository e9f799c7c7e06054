/- Of the proof of laws.FnExactDecide: a part. No condition beyond what its theorems say. -/
import Derived.Test.YthmijfekdeagpaaVFnExactDecideWTight
import Derived.Test.YthmijfekdeagpaaVFnExactDecidePx0
import Derived.Test.YthmijfekdeagpaaVFnExactDecidePx2
import Derived.Test.YthmijfekdeagpaaVFnExactDecidePx3
namespace Go.Proofs.Ythmijfekdeagpaa.PFnExactDecide
open Go.RowKit Go.Proofs.YthmijfekdeagpaaW.PrintWords Go.Proofs.YthmijfekdeagpaaW.PrintLast Go.Proofs.YthmijfekdeagpaaW.PrintMore
attribute [local go_sem] max2_int min2_int max_two min_two max_three min_three max_four min_four   -- for this text's walks alone
set_option linter.unusedVariables false
set_option linter.unusedSimpArgs false

def spec_BridgeOk.l0 : Nat → Int → Int → List (S79) → Option (Bool)
 | 0, _, _, _ => none
 | k + 1, x3, x121000, x121001 => if x3 < (x121001.length : Int) then (if 0 ≤ x3 then ((spec_PortOk.f k ((rd_T79 x121001 x3).f0) ((rd_T79 x121001 x3).f1) ((rd_T79 x121001 x3).f2.f0) ((rd_T79 x121001 x3).f2.f1) ((rd_T79 x121001 x3).f2.f2) ((rd_T79 x121001 x3).f2.f3) ((rd_T79 x121001 x3).f3) ((rd_T79 x121001 x3).f4) ((rd_T79 x121001 x3).f5) ((rd_T79 x121001 x3).f6) ((rd_T79 x121001 x3).f7)).bind fun t122 => (if t122 = true then (spec_BridgeOk.l0 k (wrap64 (x3 + 1)) x121000 x121001) else (some false))) else (none)) else ((spec_l1In.f x121000 1 9).bind fun t123 => (if t123 = true then ((spec_l1In.f (x121001.length : Int) 1 4).bind fun t124 => (some t124)) else (some false)))
def spec_BridgeOk.f (k : Nat) (a0_0 : Int) (l0_1 : List (S79)) : Option (Bool) := spec_BridgeOk.l0 k 0 a0_0 l0_1
theorem spec_BridgeOk.mono_l : ∀ k, (∀ y0 y1 y2, LeO (spec_BridgeOk.l0 k y0 y1 y2) (spec_BridgeOk.l0 (k + 1) y0 y1 y2))
 | 0 => fun _ _ _ r h => by simp [spec_BridgeOk.l0] at h
 | k + 1 => by
  have ih0 := spec_BridgeOk.mono_l k
  ·intro y0 y1 y2
   unfold spec_BridgeOk.l0
   repeat' first
   | (with_reducible exact ih0 _ _ _)
   | (with_reducible exact spec_PortOk.mono _ _ _ _ _ _ _ _ _ _ _ _)
   | (with_reducible exact LeO.refl _)
   | (with_reducible exact LeO.none _)
   | (with_reducible refine LeO.ite ?_ ?_)
   | (with_reducible refine LeO.bind ?_ (fun _ => ?_))
   | exact ih0 _ _ _
   | exact spec_PortOk.mono _ _ _ _ _ _ _ _ _ _ _ _
   | exact LeO.none _
   | refine LeO.ite ?_ ?_
   | refine LeO.bind ?_ (fun _ => ?_)
theorem spec_BridgeOk.mono : ∀ a0 a1 k, LeO (spec_BridgeOk.f k a0 a1) (spec_BridgeOk.f (k + 1) a0 a1) := by
 intro a0 a1 k
 have ih0 := spec_BridgeOk.mono_l k
 unfold spec_BridgeOk.f
 repeat' first
   | (with_reducible exact ih0 _ _ _)
   | (with_reducible exact spec_PortOk.mono _ _ _ _ _ _ _ _ _ _ _ _)
   | (with_reducible exact LeO.refl _)
   | (with_reducible exact LeO.none _)
   | (with_reducible refine LeO.ite ?_ ?_)
   | (with_reducible refine LeO.bind ?_ (fun _ => ?_))
   | exact ih0 _ _ _
   | exact spec_PortOk.mono _ _ _ _ _ _ _ _ _ _ _ _
   | exact LeO.none _
   | refine LeO.ite ?_ ?_
   | refine LeO.bind ?_ (fun _ => ?_)
set_option maxHeartbeats 60000000 in
set_option maxRecDepth 100000 in
theorem spec_BridgeOk.calls (k : Nat) (a0_0 : Int) (A0_1 : Option Addr) (c0_1 : Nat) (l0_1 : List (S79)) (r : Bool) (w : World) (hr0_1 : Kd.C k79 w A0_1 l0_1.length l0_1) (hc0_1 : l0_1.length ≤ c0_1) (h : spec_BridgeOk.f k a0_0 l0_1 = some r) :
  Calls Try.prog 46 #[.agg #[.int .i64 a0_0, .slice A0_1 l0_1.length c0_1]] w fun e w' => e = .returned (.bool r) ∧ Below w.heap.size w w' := by
 have hu28 := Try.underlying28
 have hu79 := Try.underlying79
 have HR0_1 := aM hr0_1
 have HC0_1 := aM hc0_1
 clear hr0_1 hc0_1
 have HB := aM (Below.refl w.heap.size w)
 have H : (spec_BridgeOk.l0 k 0 a0_0 l0_1) = some r := h
 clear h
 have H' := aM H
 clear H
 go_enter Try.func46, Try.ntmps46
 go_wp2_with (first | ((with_reducible refine gD (N := 1) rfl ?_); (try (refine gate_guard (by rfl) ?_; dsimp only)); refine bE (N := 1) (cs := #[.int .i64 a0_0, .slice A0_1 l0_1.length c0_1]) (t := 28) ?_; intro gb120 hg w2 hbox hb; have BK120 := aM (hbox); have GW120 := gE hg (below_size (bl HB.out)); have GE120 := gE hg (below_size (bl HB.out)); replace HB := aM (bS (bl HB.out) hb); clear hb hbox hg))
 go_loopg [3] k (fun kq v3 w' => ∃ (x3_1 : Int), v3 = .int .i64 x3_1 ∧ Aside0 (spec_BridgeOk.l0 kq x3_1 a0_0 l0_1 = some r) ∧ Aside0 (kq ≤ k) ∧ Aside0 (w'.heap[gb120]? = some (.cells #[.int .i64 a0_0, (.slice A0_1 l0_1.length c0_1)] 28 (0, 0))) ∧ Aside0 (Below w.heap.size w w'))
 case atStart => exact ⟨(0), xE, H', ⟨Nat.le_refl _⟩, ⟨by (with_reducible repeat (first | refine blk_drewN ?_ _ | refine blk_drew ?_ | refine blk_alloc ?_ _)); exact BK120.out⟩, ⟨bl HB.out⟩⟩
 case round =>
  clear H'
  try clear p2
  obtain ⟨x3_1, rfl, HA, HK1, BK120, HB⟩ := hrel
  cases gk with
  | zero => exact absurd HA.out (by simp [spec_BridgeOk.l0])
  | succ k1 =>
   have H := HA.out
   clear HA
   simp only [spec_BridgeOk.l0] at H
   by_cases c3 : x3_1 < (l0_1.length : Int)
   case neg =>
    rw [if_neg c3] at H
    have c3b0 : decide (x3_1 < (l0_1.length : Int)) = false := decide_eq_false c3
    clear c3
    replace H := Option.bind_eq_some_iff.mp H
    obtain ⟨t123, A110, H⟩ := H
    replace H : (if t123 = true then ((spec_l1In.f (l0_1.length : Int) 1 4).bind fun t124 => (some t124)) else (some false)) = some r := H
    have A11 := aM A110
    clear A110
    by_cases c12 : t123 = true
    case neg =>
     replace c12 := Bool.eq_false_iff.mpr c12
     subst c12
     have H1 : (some false) = some r := by rw [if_neg (show ¬ (false = true) by decide)] at H; exact H
     clear H
     have H := H1
     clear H1
     obtain rfl := Option.some.inj H
     have hcz15 := cA2 BK120.out
     go_wp2_with (first | ((with_reducible refine gC (f := 80) rfl ?_); refine gL (some 20) Try.func80 #[.int .i64 a0_0, .int .i64 1, .int .i64 9] ?_; (with_reducible refine (spec_l1In.calls a0_0 1 9 false _ A11.out).mono ?_); rintro e w' ⟨rfl, ⟨nd, rfl⟩⟩; refine ⟨_, rfl, ?_⟩))
     go_ret
     exact ⟨xW, bl HB.out⟩
    subst c12
    have H1 : ((spec_l1In.f (l0_1.length : Int) 1 4).bind fun t124 => (some t124)) = some r := by rw [if_pos rfl] at H; exact H
    clear H
    have H := H1
    clear H1
    replace H := Option.bind_eq_some_iff.mp H
    obtain ⟨t124, A130, H⟩ := H
    replace H : (some t124) = some r := H
    have A13 := aM A130
    clear A130
    obtain rfl := Option.some.inj H
    have hcz14 := cA2 BK120.out
    go_wp2_with (first | ((with_reducible refine gC (f := 80) rfl ?_); refine gL (some 20) Try.func80 #[.int .i64 a0_0, .int .i64 1, .int .i64 9] ?_; (with_reducible refine (spec_l1In.calls a0_0 1 9 true _ A11.out).mono ?_); rintro e w' ⟨rfl, ⟨nd, rfl⟩⟩; refine ⟨_, rfl, ?_⟩) | (go_at_call 80; (with_reducible refine (spec_l1In.calls (l0_1.length : Int) 1 4 t124 _ A13.out).mono ?_); rintro e w' ⟨rfl, ⟨nd, rfl⟩⟩))
    go_ret
    exact ⟨xW, bl HB.out⟩
   rw [if_pos c3] at H
   have c3b0 : decide (x3_1 < (l0_1.length : Int)) = true := decide_eq_true c3
   clear c3
   by_cases c4 : 0 ≤ x3_1
   case neg =>
    rw [if_neg c4] at H
    exact absurd H (by simp)
   rw [if_pos c4] at H
   have c4b0 : decide (0 ≤ x3_1) = true := decide_eq_true c4
   clear c4
   replace H := Option.bind_eq_some_iff.mp H
   obtain ⟨t122, A50, H⟩ := H
   replace H : (if t122 = true then (spec_BridgeOk.l0 k1 (wrap64 (x3_1 + 1)) a0_0 l0_1) else (some false)) = some r := H
   have A5 := aM A50
   clear A50
   by_cases c6 : t122 = true
   case neg =>
    replace c6 := Bool.eq_false_iff.mpr c6
    subst c6
    have H1 : (some false) = some r := by rw [if_neg (show ¬ (false = true) by decide)] at H; exact H
    clear H
    have H := H1
    clear H1
    obtain rfl := Option.some.inj H
    have hcz9 := cA2 BK120.out
    have p121 : 0 ≤ (x3_1 : Int) := of_decide_eq_true (by first | (with_reducible assumption) | assumption)
    have q121 : x3_1 < (l0_1.length : Int) := of_decide_eq_true (by first | (with_reducible assumption) | assumption)
    obtain ⟨ad121, e121, hx121_0, hx121_1, hx121_2, hx121_3, hx121_4, hx121_5, hx121_6, hx121_7, hx121_8, hx121_9, hx121_10⟩ := at_T79 HR0_1.out x3_1 p121 q121
    cases e121
    replace hx121_0 := xB HB hx121_0
    replace hx121_1 := xB HB hx121_1
    replace hx121_2 := xB HB hx121_2
    replace hx121_3 := xB HB hx121_3
    replace hx121_4 := xB HB hx121_4
    replace hx121_5 := xB HB hx121_5
    replace hx121_6 := xB HB hx121_6
    replace hx121_7 := xB HB hx121_7
    replace hx121_8 := xB HB hx121_8
    replace hx121_9 := xB HB hx121_9
    replace hx121_10 := xB HB hx121_10
    replace p121 := eq_true p121
    replace q121 := eq_true q121
    go_wp2_with (first | ((with_reducible refine gC (f := 123) rfl ?_); refine gL (some 16) Try.func123 #[.agg #[.bool ((rd_T79 l0_1 x3_1).f0), .bool ((rd_T79 l0_1 x3_1).f1), .int .i64 ((rd_T79 l0_1 x3_1).f2.f0), .int .i64 ((rd_T79 l0_1 x3_1).f2.f1), .int .i64 ((rd_T79 l0_1 x3_1).f2.f2), .int .i64 ((rd_T79 l0_1 x3_1).f2.f3), .int .i64 ((rd_T79 l0_1 x3_1).f3), .int .i64 ((rd_T79 l0_1 x3_1).f4), .int .i64 ((rd_T79 l0_1 x3_1).f5), .int .i64 ((rd_T79 l0_1 x3_1).f6), .bool ((rd_T79 l0_1 x3_1).f7)]] ?_; (with_reducible refine (spec_PortOk.calls k1 ((rd_T79 l0_1 x3_1).f0) ((rd_T79 l0_1 x3_1).f1) ((rd_T79 l0_1 x3_1).f2.f0) ((rd_T79 l0_1 x3_1).f2.f1) ((rd_T79 l0_1 x3_1).f2.f2) ((rd_T79 l0_1 x3_1).f2.f3) ((rd_T79 l0_1 x3_1).f3) ((rd_T79 l0_1 x3_1).f4) ((rd_T79 l0_1 x3_1).f5) ((rd_T79 l0_1 x3_1).f6) ((rd_T79 l0_1 x3_1).f7) false _ A5.out).mono ?_); rintro e w10 ⟨rfl, hb⟩; refine ⟨_, rfl, ?_⟩; replace BK120 := aM (bB (bk BK120.out) hb); replace HB := aM (bS (bl HB.out) hb); (try clear hb)))
    go_ret
    exact ⟨xW, bl HB.out⟩
   subst c6
   have H1 : (spec_BridgeOk.l0 k1 (wrap64 (x3_1 + 1)) a0_0 l0_1) = some r := by rw [if_pos rfl] at H; exact H
   clear H
   have H := H1
   clear H1
   have H' := aM H
   clear H
   have hcz7 := cA2 BK120.out
   have p121 : 0 ≤ (x3_1 : Int) := of_decide_eq_true (by first | (with_reducible assumption) | assumption)
   have q121 : x3_1 < (l0_1.length : Int) := of_decide_eq_true (by first | (with_reducible assumption) | assumption)
   obtain ⟨ad121, e121, hx121_0, hx121_1, hx121_2, hx121_3, hx121_4, hx121_5, hx121_6, hx121_7, hx121_8, hx121_9, hx121_10⟩ := at_T79 HR0_1.out x3_1 p121 q121
   cases e121
   replace hx121_0 := xB HB hx121_0
   replace hx121_1 := xB HB hx121_1
   replace hx121_2 := xB HB hx121_2
   replace hx121_3 := xB HB hx121_3
   replace hx121_4 := xB HB hx121_4
   replace hx121_5 := xB HB hx121_5
   replace hx121_6 := xB HB hx121_6
   replace hx121_7 := xB HB hx121_7
   replace hx121_8 := xB HB hx121_8
   replace hx121_9 := xB HB hx121_9
   replace hx121_10 := xB HB hx121_10
   replace p121 := eq_true p121
   replace q121 := eq_true q121
   go_wp2_with (first | ((with_reducible refine gC (f := 123) rfl ?_); refine gL (some 16) Try.func123 #[.agg #[.bool ((rd_T79 l0_1 x3_1).f0), .bool ((rd_T79 l0_1 x3_1).f1), .int .i64 ((rd_T79 l0_1 x3_1).f2.f0), .int .i64 ((rd_T79 l0_1 x3_1).f2.f1), .int .i64 ((rd_T79 l0_1 x3_1).f2.f2), .int .i64 ((rd_T79 l0_1 x3_1).f2.f3), .int .i64 ((rd_T79 l0_1 x3_1).f3), .int .i64 ((rd_T79 l0_1 x3_1).f4), .int .i64 ((rd_T79 l0_1 x3_1).f5), .int .i64 ((rd_T79 l0_1 x3_1).f6), .bool ((rd_T79 l0_1 x3_1).f7)]] ?_; (with_reducible refine (spec_PortOk.calls k1 ((rd_T79 l0_1 x3_1).f0) ((rd_T79 l0_1 x3_1).f1) ((rd_T79 l0_1 x3_1).f2.f0) ((rd_T79 l0_1 x3_1).f2.f1) ((rd_T79 l0_1 x3_1).f2.f2) ((rd_T79 l0_1 x3_1).f2.f3) ((rd_T79 l0_1 x3_1).f3) ((rd_T79 l0_1 x3_1).f4) ((rd_T79 l0_1 x3_1).f5) ((rd_T79 l0_1 x3_1).f6) ((rd_T79 l0_1 x3_1).f7) true _ A5.out).mono ?_); rintro e w8 ⟨rfl, hb⟩; refine ⟨_, rfl, ?_⟩; replace BK120 := aM (bB (bk BK120.out) hb); replace HB := aM (bS (bl HB.out) hb); (try clear hb)))
   go_roundg k1
   case measure => have := HK1.out; omega
   case rel => exact ⟨(wrap64 (x3_1 + 1)), xE, H', ⟨by have := HK1.out; omega⟩, ⟨by (with_reducible repeat (first | refine blk_drewN ?_ _ | refine blk_drew ?_ | refine blk_alloc ?_ _)); exact BK120.out⟩, ⟨bl HB.out⟩⟩

def spec_Better.f (a0_0 : Int) (a0_1 : Int) (a0_2 : Int) (a0_3 : Int) (a1_0 : Int) (a1_1 : Int) (a1_2 : Int) (a1_3 : Int) : Option (Bool) := if a0_0 = a1_0 then (if a0_1 = a1_1 then (if a0_2 = a1_2 then (some (decide (a0_3 < a1_3))) else (some (decide (a0_2 < a1_2)))) else (some (decide (a0_1 < a1_1)))) else (some (decide (a0_0 < a1_0)))
set_option maxHeartbeats 60000000 in
set_option maxRecDepth 100000 in
theorem spec_Better.calls (a0_0 : Int) (a0_1 : Int) (a0_2 : Int) (a0_3 : Int) (a1_0 : Int) (a1_1 : Int) (a1_2 : Int) (a1_3 : Int) (r : Bool) (w : World) (h : spec_Better.f a0_0 a0_1 a0_2 a0_3 a1_0 a1_1 a1_2 a1_3 = some r) :
  Calls Try.prog 68 #[.agg #[.int .i64 a0_0, .int .i64 a0_1, .int .i64 a0_2, .int .i64 a0_3], .agg #[.int .i64 a1_0, .int .i64 a1_1, .int .i64 a1_2, .int .i64 a1_3]] w fun e w' => e = .returned (.bool r) ∧ Below w.heap.size w w' := by
 have hu73 := Try.underlying73
 have HB := aM (Below.refl w.heap.size w)
 have H : (if a0_0 = a1_0 then (if a0_1 = a1_1 then (if a0_2 = a1_2 then (some (decide (a0_3 < a1_3))) else (some (decide (a0_2 < a1_2)))) else (some (decide (a0_1 < a1_1)))) else (some (decide (a0_0 < a1_0)))) = some r := h
 clear h
 by_cases c3 : a0_0 = a1_0
 case neg =>
  rw [if_neg c3] at H
  have c3b0 : (a0_0 == a1_0) = false := beq_eq_false_iff_ne.mpr c3
  have c3b1 : (a0_0 != a1_0) = true := bne_iff_ne.mpr c3
  obtain rfl := Option.some.inj H
  go_enter Try.func68, Try.ntmps68
  go_wp2_with (first | ((with_reducible refine gD (N := 2) rfl ?_); refine bE (N := 2) (cs := #[.int .i64 a0_0, .int .i64 a0_1, .int .i64 a0_2, .int .i64 a0_3]) (t := 73) ?_; intro gb125 hg w21 hbox hb; have BK125 := aM (hbox); have GW125 := gE hg (below_size (bl HB.out)); have GE125 := gE hg (below_size (bl HB.out)); replace HB := aM (bS (bl HB.out) hb); clear hb hbox hg) | ((with_reducible refine gD (N := 3) rfl ?_); refine bE (N := 3) (cs := #[.int .i64 a1_0, .int .i64 a1_1, .int .i64 a1_2, .int .i64 a1_3]) (t := 73) ?_; intro gb126 hg w22 hbox hb; have BK126 := aM (hbox); have GW126 := gE hg (below_size (bl HB.out)); have GE126 := gE hg (below_size (bl HB.out)); have NB125_126 := nL hg (blk_lt (bk BK125.out)); have NB126_125 := nG hg (blk_lt (bk BK125.out)); replace BK125 := aM (bB (bk BK125.out) hb); replace HB := aM (bS (bl HB.out) hb); clear hb hbox hg; have hnb23 := NB125_126.out; have hnc23 := NB126_125.out; have hcz24 := cA4 BK125.out; have hcz25 := cA4 BK126.out))
  go_ret
  exact ⟨xW, bl HB.out⟩
 rw [if_pos c3] at H
 have c3b0 : (a0_0 == a1_0) = true := beq_iff_eq.mpr c3
 have c3b1 : (a0_0 != a1_0) = false := bne_eq_false_iff_eq.mpr c3
 clear c3
 by_cases c4 : a0_1 = a1_1
 case neg =>
  rw [if_neg c4] at H
  have c4b0 : (a0_1 == a1_1) = false := beq_eq_false_iff_ne.mpr c4
  have c4b1 : (a0_1 != a1_1) = true := bne_iff_ne.mpr c4
  obtain rfl := Option.some.inj H
  go_enter Try.func68, Try.ntmps68
  go_wp2_with (first | ((with_reducible refine gD (N := 2) rfl ?_); refine bE (N := 2) (cs := #[.int .i64 a0_0, .int .i64 a0_1, .int .i64 a0_2, .int .i64 a0_3]) (t := 73) ?_; intro gb125 hg w16 hbox hb; have BK125 := aM (hbox); have GW125 := gE hg (below_size (bl HB.out)); have GE125 := gE hg (below_size (bl HB.out)); replace HB := aM (bS (bl HB.out) hb); clear hb hbox hg) | ((with_reducible refine gD (N := 3) rfl ?_); refine bE (N := 3) (cs := #[.int .i64 a1_0, .int .i64 a1_1, .int .i64 a1_2, .int .i64 a1_3]) (t := 73) ?_; intro gb126 hg w17 hbox hb; have BK126 := aM (hbox); have GW126 := gE hg (below_size (bl HB.out)); have GE126 := gE hg (below_size (bl HB.out)); have NB125_126 := nL hg (blk_lt (bk BK125.out)); have NB126_125 := nG hg (blk_lt (bk BK125.out)); replace BK125 := aM (bB (bk BK125.out) hb); replace HB := aM (bS (bl HB.out) hb); clear hb hbox hg; have hnb18 := NB125_126.out; have hnc18 := NB126_125.out; have hcz19 := cA4 BK125.out; have hcz20 := cA4 BK126.out))
  go_ret
  exact ⟨xW, bl HB.out⟩
 rw [if_pos c4] at H
 have c4b0 : (a0_1 == a1_1) = true := beq_iff_eq.mpr c4
 have c4b1 : (a0_1 != a1_1) = false := bne_eq_false_iff_eq.mpr c4
 clear c4
 by_cases c5 : a0_2 = a1_2
 case neg =>
  rw [if_neg c5] at H
  have c5b0 : (a0_2 == a1_2) = false := beq_eq_false_iff_ne.mpr c5
  have c5b1 : (a0_2 != a1_2) = true := bne_iff_ne.mpr c5
  obtain rfl := Option.some.inj H
  go_enter Try.func68, Try.ntmps68
  go_wp2_with (first | ((with_reducible refine gD (N := 2) rfl ?_); refine bE (N := 2) (cs := #[.int .i64 a0_0, .int .i64 a0_1, .int .i64 a0_2, .int .i64 a0_3]) (t := 73) ?_; intro gb125 hg w11 hbox hb; have BK125 := aM (hbox); have GW125 := gE hg (below_size (bl HB.out)); have GE125 := gE hg (below_size (bl HB.out)); replace HB := aM (bS (bl HB.out) hb); clear hb hbox hg) | ((with_reducible refine gD (N := 3) rfl ?_); refine bE (N := 3) (cs := #[.int .i64 a1_0, .int .i64 a1_1, .int .i64 a1_2, .int .i64 a1_3]) (t := 73) ?_; intro gb126 hg w12 hbox hb; have BK126 := aM (hbox); have GW126 := gE hg (below_size (bl HB.out)); have GE126 := gE hg (below_size (bl HB.out)); have NB125_126 := nL hg (blk_lt (bk BK125.out)); have NB126_125 := nG hg (blk_lt (bk BK125.out)); replace BK125 := aM (bB (bk BK125.out) hb); replace HB := aM (bS (bl HB.out) hb); clear hb hbox hg; have hnb13 := NB125_126.out; have hnc13 := NB126_125.out; have hcz14 := cA4 BK125.out; have hcz15 := cA4 BK126.out))
  go_ret
  exact ⟨xW, bl HB.out⟩
 rw [if_pos c5] at H
 have c5b0 : (a0_2 == a1_2) = true := beq_iff_eq.mpr c5
 have c5b1 : (a0_2 != a1_2) = false := bne_eq_false_iff_eq.mpr c5
 clear c5
 obtain rfl := Option.some.inj H
 go_enter Try.func68, Try.ntmps68
 go_wp2_with (first | ((with_reducible refine gD (N := 2) rfl ?_); refine bE (N := 2) (cs := #[.int .i64 a0_0, .int .i64 a0_1, .int .i64 a0_2, .int .i64 a0_3]) (t := 73) ?_; intro gb125 hg w6 hbox hb; have BK125 := aM (hbox); have GW125 := gE hg (below_size (bl HB.out)); have GE125 := gE hg (below_size (bl HB.out)); replace HB := aM (bS (bl HB.out) hb); clear hb hbox hg) | ((with_reducible refine gD (N := 3) rfl ?_); refine bE (N := 3) (cs := #[.int .i64 a1_0, .int .i64 a1_1, .int .i64 a1_2, .int .i64 a1_3]) (t := 73) ?_; intro gb126 hg w7 hbox hb; have BK126 := aM (hbox); have GW126 := gE hg (below_size (bl HB.out)); have GE126 := gE hg (below_size (bl HB.out)); have NB125_126 := nL hg (blk_lt (bk BK125.out)); have NB126_125 := nG hg (blk_lt (bk BK125.out)); replace BK125 := aM (bB (bk BK125.out) hb); replace HB := aM (bS (bl HB.out) hb); clear hb hbox hg; have hnb8 := NB125_126.out; have hnc8 := NB126_125.out; have hcz9 := cA4 BK125.out; have hcz10 := cA4 BK126.out))
 go_ret
 exact ⟨xW, bl HB.out⟩

end Go.Proofs.Ythmijfekdeagpaa.PFnExactDecide

/- Of the proof of laws.FnExactDecide: a part. No condition beyond what its theorems say. -/
import Derived.Test.YthmijfekdeagpaaVFnExactDecideWTight
import Derived.Test.YthmijfekdeagpaaVFnExactDecidePx0
import Derived.Test.YthmijfekdeagpaaVFnExactDecidePx9
import Derived.Test.YthmijfekdeagpaaVFnExactDecidePx10
namespace Go.Proofs.Ythmijfekdeagpaa.PFnExactDecide
open Go.RowKit Go.Proofs.YthmijfekdeagpaaW.PrintWords Go.Proofs.YthmijfekdeagpaaW.PrintLast Go.Proofs.YthmijfekdeagpaaW.PrintMore
attribute [local go_sem] max2_int min2_int max_two min_two max_three min_three max_four min_four   -- for this text's walks alone
set_option linter.unusedVariables false
set_option linter.unusedSimpArgs false

def impl_BridgeOk.l0 : Nat → List (S79) → Int → Int → Int → List (S79) → Option (Bool)
 | 0, _, _, _, _, _ => none
 | k + 1, x6, x7, x8, x300000, x300001 => if x8 < x7 then (if 0 ≤ x8 then (if x8 < (x6.length : Int) then ((impl_PortOk.f k ((rd_T79 x6 x8).f0) ((rd_T79 x6 x8).f1) ((rd_T79 x6 x8).f2.f0) ((rd_T79 x6 x8).f2.f1) ((rd_T79 x6 x8).f2.f2) ((rd_T79 x6 x8).f2.f3) ((rd_T79 x6 x8).f3) ((rd_T79 x6 x8).f4) ((rd_T79 x6 x8).f5) ((rd_T79 x6 x8).f6) ((rd_T79 x6 x8).f7)).bind fun t302 => (if t302 = true then (impl_BridgeOk.l0 k x6 x7 (wrap64 (x8 + 1)) x300000 x300001) else (some false))) else (none)) else (none)) else ((impl_inRange.f x300000 1 9).bind fun t303 => (if t303 = true then ((impl_inRange.f (x300001.length : Int) 1 4).bind fun t304 => (some t304)) else (some false)))
def impl_BridgeOk.f (k : Nat) (a0_0 : Int) (l0_1 : List (S79)) : Option (Bool) := impl_BridgeOk.l0 k l0_1 (l0_1.length : Int) 0 a0_0 l0_1
theorem impl_BridgeOk.mono_l : ∀ k, (∀ y0 y1 y2 y3 y4, LeO (impl_BridgeOk.l0 k y0 y1 y2 y3 y4) (impl_BridgeOk.l0 (k + 1) y0 y1 y2 y3 y4))
 | 0 => fun _ _ _ _ _ r h => by simp [impl_BridgeOk.l0] at h
 | k + 1 => by
  have ih0 := impl_BridgeOk.mono_l k
  ·intro y0 y1 y2 y3 y4
   unfold impl_BridgeOk.l0
   repeat' first
   | (with_reducible exact ih0 _ _ _ _ _)
   | (with_reducible exact impl_PortOk.mono _ _ _ _ _ _ _ _ _ _ _ _)
   | (with_reducible exact LeO.refl _)
   | (with_reducible exact LeO.none _)
   | (with_reducible refine LeO.ite ?_ ?_)
   | (with_reducible refine LeO.bind ?_ (fun _ => ?_))
   | exact ih0 _ _ _ _ _
   | exact impl_PortOk.mono _ _ _ _ _ _ _ _ _ _ _ _
   | exact LeO.none _
   | refine LeO.ite ?_ ?_
   | refine LeO.bind ?_ (fun _ => ?_)
theorem impl_BridgeOk.mono : ∀ a0 a1 k, LeO (impl_BridgeOk.f k a0 a1) (impl_BridgeOk.f (k + 1) a0 a1) := by
 intro a0 a1 k
 have ih0 := impl_BridgeOk.mono_l k
 unfold impl_BridgeOk.f
 repeat' first
   | (with_reducible exact ih0 _ _ _ _ _)
   | (with_reducible exact impl_PortOk.mono _ _ _ _ _ _ _ _ _ _ _ _)
   | (with_reducible exact LeO.refl _)
   | (with_reducible exact LeO.none _)
   | (with_reducible refine LeO.ite ?_ ?_)
   | (with_reducible refine LeO.bind ?_ (fun _ => ?_))
   | exact ih0 _ _ _ _ _
   | exact impl_PortOk.mono _ _ _ _ _ _ _ _ _ _ _ _
   | exact LeO.none _
   | refine LeO.ite ?_ ?_
   | refine LeO.bind ?_ (fun _ => ?_)
set_option maxHeartbeats 60000000 in
set_option maxRecDepth 100000 in
theorem impl_BridgeOk.calls (k : Nat) (a0_0 : Int) (A0_1 : Option Addr) (c0_1 : Nat) (l0_1 : List (S79)) (r : Bool) (w : World) (hr0_1 : Kd.C k79 w A0_1 l0_1.length l0_1) (hc0_1 : l0_1.length ≤ c0_1) (h : impl_BridgeOk.f k a0_0 l0_1 = some r) :
  Calls Try.prog 45 #[.agg #[.int .i64 a0_0, .slice A0_1 l0_1.length c0_1]] w fun e w' => e = .returned (.bool r) ∧ Below w.heap.size w w' := by
 have hu28 := Try.underlying28
 have hu79 := Try.underlying79
 have HR0_1 := aM hr0_1
 have HC0_1 := aM hc0_1
 clear hr0_1 hc0_1
 have HB := aM (Below.refl w.heap.size w)
 have H : (impl_BridgeOk.l0 k l0_1 (l0_1.length : Int) 0 a0_0 l0_1) = some r := h
 clear h
 have H' := aM H
 clear H
 go_enter Try.func45, Try.ntmps45
 go_wp2_with (first | ((with_reducible refine gD (N := 1) rfl ?_); (try (refine gate_guard (by rfl) ?_; dsimp only)); refine bE (N := 1) (cs := #[.int .i64 a0_0, .slice A0_1 l0_1.length c0_1]) (t := 28) ?_; intro gb299 hg w2 hbox hb; have BK299 := aM (hbox); have GW299 := gE hg (below_size (bl HB.out)); have GE299 := gE hg (below_size (bl HB.out)); replace HB := aM (bS (bl HB.out) hb); clear hb hbox hg; have hcz3 := cA2 BK299.out))
 go_loopg [8] k (fun kq v8 w' => ∃ (x8_1 : Int), v8 = .int .i64 x8_1 ∧ Aside0 (impl_BridgeOk.l0 kq l0_1 (l0_1.length : Int) x8_1 a0_0 l0_1 = some r) ∧ Aside0 (kq ≤ k) ∧ Aside0 (w'.heap[gb299]? = some (.cells #[.int .i64 a0_0, (.slice A0_1 l0_1.length c0_1)] 28 (0, 0))) ∧ Aside0 (Below w.heap.size w w'))
 case atStart => exact ⟨(0), xE, H', ⟨Nat.le_refl _⟩, ⟨by (with_reducible repeat (first | refine blk_drewN ?_ _ | refine blk_drew ?_ | refine blk_alloc ?_ _)); exact BK299.out⟩, ⟨bl HB.out⟩⟩
 case round =>
  clear H'
  try clear p2
  try clear hcz3
  obtain ⟨x8_1, rfl, HA, HK1, BK299, HB⟩ := hrel
  cases gk with
  | zero => exact absurd HA.out (by simp [impl_BridgeOk.l0])
  | succ k1 =>
   have H := HA.out
   clear HA
   simp only [impl_BridgeOk.l0] at H
   by_cases c4 : x8_1 < (l0_1.length : Int)
   case neg =>
    rw [if_neg c4] at H
    have c4b0 : decide (x8_1 < (l0_1.length : Int)) = false := decide_eq_false c4
    clear c4
    replace H := Option.bind_eq_some_iff.mp H
    obtain ⟨t303, A170, H⟩ := H
    replace H : (if t303 = true then ((impl_inRange.f (l0_1.length : Int) 1 4).bind fun t304 => (some t304)) else (some false)) = some r := H
    have A17 := aM A170
    clear A170
    by_cases c18 : t303 = true
    case neg =>
     replace c18 := Bool.eq_false_iff.mpr c18
     subst c18
     have H1 : (some false) = some r := by rw [if_neg (show ¬ (false = true) by decide)] at H; exact H
     clear H
     have H := H1
     clear H1
     obtain rfl := Option.some.inj H
     have hcz21 := cA2 BK299.out
     go_wp2_with (first | ((with_reducible refine gC (f := 86) rfl ?_); refine gL (some 18) Try.func86 #[.int .i64 a0_0, .int .i64 1, .int .i64 9] ?_; (with_reducible refine (impl_inRange.calls a0_0 1 9 false _ A17.out).mono ?_); rintro e w' ⟨rfl, ⟨nd, rfl⟩⟩; refine ⟨_, rfl, ?_⟩))
     go_ret
     exact ⟨xW, bl HB.out⟩
    subst c18
    have H1 : ((impl_inRange.f (l0_1.length : Int) 1 4).bind fun t304 => (some t304)) = some r := by rw [if_pos rfl] at H; exact H
    clear H
    have H := H1
    clear H1
    replace H := Option.bind_eq_some_iff.mp H
    obtain ⟨t304, A190, H⟩ := H
    replace H : (some t304) = some r := H
    have A19 := aM A190
    clear A190
    obtain rfl := Option.some.inj H
    have hcz20 := cA2 BK299.out
    go_wp2_with (first | ((with_reducible refine gC (f := 86) rfl ?_); refine gL (some 18) Try.func86 #[.int .i64 a0_0, .int .i64 1, .int .i64 9] ?_; (with_reducible refine (impl_inRange.calls a0_0 1 9 true _ A17.out).mono ?_); rintro e w' ⟨rfl, ⟨nd, rfl⟩⟩; refine ⟨_, rfl, ?_⟩) | (go_at_call 86; (with_reducible refine (impl_inRange.calls (l0_1.length : Int) 1 4 t304 _ A19.out).mono ?_); rintro e w' ⟨rfl, ⟨nd, rfl⟩⟩))
    go_ret
    exact ⟨xW, bl HB.out⟩
   rw [if_pos c4] at H
   have c4b0 : decide (x8_1 < (l0_1.length : Int)) = true := decide_eq_true c4
   clear c4
   by_cases c5 : 0 ≤ x8_1
   case neg =>
    rw [if_neg c5] at H
    exact absurd H (by simp)
   rw [if_pos c5] at H
   have c5b0 : decide (0 ≤ x8_1) = true := decide_eq_true c5
   clear c5
   by_cases c6 : x8_1 < (l0_1.length : Int)
   case neg =>
    rw [if_neg c6] at H
    exact absurd H (by simp)
   rw [if_pos c6] at H
   have c6b0 : decide (x8_1 < (l0_1.length : Int)) = true := decide_eq_true c6
   clear c6
   replace H := Option.bind_eq_some_iff.mp H
   obtain ⟨t302, A70, H⟩ := H
   replace H : (if t302 = true then (impl_BridgeOk.l0 k1 l0_1 (l0_1.length : Int) (wrap64 (x8_1 + 1)) a0_0 l0_1) else (some false)) = some r := H
   have A7 := aM A70
   clear A70
   by_cases c8 : t302 = true
   case neg =>
    replace c8 := Bool.eq_false_iff.mpr c8
    subst c8
    have H1 : (some false) = some r := by rw [if_neg (show ¬ (false = true) by decide)] at H; exact H
    clear H
    have H := H1
    clear H1
    obtain rfl := Option.some.inj H
    have p300 : 0 ≤ (x8_1 : Int) := of_decide_eq_true (by first | (with_reducible assumption) | assumption)
    have q300 : x8_1 < (l0_1.length : Int) := of_decide_eq_true (by first | (with_reducible assumption) | assumption)
    obtain ⟨ad300, e300, hx300_0, hx300_1, hx300_2, hx300_3, hx300_4, hx300_5, hx300_6, hx300_7, hx300_8, hx300_9, hx300_10⟩ := at_T79 HR0_1.out x8_1 p300 q300
    cases e300
    replace hx300_0 := xB HB hx300_0
    replace hx300_1 := xB HB hx300_1
    replace hx300_2 := xB HB hx300_2
    replace hx300_3 := xB HB hx300_3
    replace hx300_4 := xB HB hx300_4
    replace hx300_5 := xB HB hx300_5
    replace hx300_6 := xB HB hx300_6
    replace hx300_7 := xB HB hx300_7
    replace hx300_8 := xB HB hx300_8
    replace hx300_9 := xB HB hx300_9
    replace hx300_10 := xB HB hx300_10
    replace p300 := eq_true p300
    replace q300 := eq_true q300
    go_wp2_with (first | ((with_reducible refine gD (N := 4) rfl ?_); (try (refine gate_guard (by rfl) ?_; dsimp only)); refine bE (N := 4) (cs := #[.bool false, .bool false, .int .i64 0, .int .i64 0, .int .i64 0, .int .i64 0, .int .i64 0, .int .i64 0, .int .i64 0, .int .i64 0, .bool false]) (t := 79) ?_; intro gb301 hg w13 hbox hb; have BK301 := aM (hbox); have GW301 := gE hg (below_size (bl HB.out)); have GE301 := gE hg (below_size (bl HB.out)); have NB299_301 := nL hg (blk_lt (bk BK299.out)); have NB301_299 := nG hg (blk_lt (bk BK299.out)); replace BK299 := aM (bB (bk BK299.out) hb); replace HB := aM (bS (bl HB.out) hb); clear hb hbox hg; have hnb14 := NB301_299.out; have hnc14 := NB299_301.out; have hcz15 := cA11 BK301.out) | ((with_reducible refine gC (f := 122) rfl ?_); refine gL (some 13) Try.func122 #[.agg #[.bool ((rd_T79 l0_1 x8_1).f0), .bool ((rd_T79 l0_1 x8_1).f1), .int .i64 ((rd_T79 l0_1 x8_1).f2.f0), .int .i64 ((rd_T79 l0_1 x8_1).f2.f1), .int .i64 ((rd_T79 l0_1 x8_1).f2.f2), .int .i64 ((rd_T79 l0_1 x8_1).f2.f3), .int .i64 ((rd_T79 l0_1 x8_1).f3), .int .i64 ((rd_T79 l0_1 x8_1).f4), .int .i64 ((rd_T79 l0_1 x8_1).f5), .int .i64 ((rd_T79 l0_1 x8_1).f6), .bool ((rd_T79 l0_1 x8_1).f7)]] ?_; (with_reducible refine (impl_PortOk.calls k1 ((rd_T79 l0_1 x8_1).f0) ((rd_T79 l0_1 x8_1).f1) ((rd_T79 l0_1 x8_1).f2.f0) ((rd_T79 l0_1 x8_1).f2.f1) ((rd_T79 l0_1 x8_1).f2.f2) ((rd_T79 l0_1 x8_1).f2.f3) ((rd_T79 l0_1 x8_1).f3) ((rd_T79 l0_1 x8_1).f4) ((rd_T79 l0_1 x8_1).f5) ((rd_T79 l0_1 x8_1).f6) ((rd_T79 l0_1 x8_1).f7) false _ A7.out).mono ?_); rintro e w16 ⟨rfl, hb⟩; refine ⟨_, rfl, ?_⟩; replace BK299 := aM (bB (fm BK299.out) hb); replace BK301 := aM (bB (pA11 (fm BK301.out)) hb); replace HB := aM (bS (bl HB.out) hb); (try clear hb)))
    go_ret
    exact ⟨xW, bl HB.out⟩
   subst c8
   have H1 : (impl_BridgeOk.l0 k1 l0_1 (l0_1.length : Int) (wrap64 (x8_1 + 1)) a0_0 l0_1) = some r := by rw [if_pos rfl] at H; exact H
   clear H
   have H := H1
   clear H1
   have H' := aM H
   clear H
   have p300 : 0 ≤ (x8_1 : Int) := of_decide_eq_true (by first | (with_reducible assumption) | assumption)
   have q300 : x8_1 < (l0_1.length : Int) := of_decide_eq_true (by first | (with_reducible assumption) | assumption)
   obtain ⟨ad300, e300, hx300_0, hx300_1, hx300_2, hx300_3, hx300_4, hx300_5, hx300_6, hx300_7, hx300_8, hx300_9, hx300_10⟩ := at_T79 HR0_1.out x8_1 p300 q300
   cases e300
   replace hx300_0 := xB HB hx300_0
   replace hx300_1 := xB HB hx300_1
   replace hx300_2 := xB HB hx300_2
   replace hx300_3 := xB HB hx300_3
   replace hx300_4 := xB HB hx300_4
   replace hx300_5 := xB HB hx300_5
   replace hx300_6 := xB HB hx300_6
   replace hx300_7 := xB HB hx300_7
   replace hx300_8 := xB HB hx300_8
   replace hx300_9 := xB HB hx300_9
   replace hx300_10 := xB HB hx300_10
   replace p300 := eq_true p300
   replace q300 := eq_true q300
   go_wp2_with (first | ((with_reducible refine gD (N := 4) rfl ?_); (try (refine gate_guard (by rfl) ?_; dsimp only)); refine bE (N := 4) (cs := #[.bool false, .bool false, .int .i64 0, .int .i64 0, .int .i64 0, .int .i64 0, .int .i64 0, .int .i64 0, .int .i64 0, .int .i64 0, .bool false]) (t := 79) ?_; intro gb301 hg w9 hbox hb; have BK301 := aM (hbox); have GW301 := gE hg (below_size (bl HB.out)); have GE301 := gE hg (below_size (bl HB.out)); have NB299_301 := nL hg (blk_lt (bk BK299.out)); have NB301_299 := nG hg (blk_lt (bk BK299.out)); replace BK299 := aM (bB (bk BK299.out) hb); replace HB := aM (bS (bl HB.out) hb); clear hb hbox hg; have hnb10 := NB301_299.out; have hnc10 := NB299_301.out; have hcz11 := cA11 BK301.out) | ((with_reducible refine gC (f := 122) rfl ?_); refine gL (some 13) Try.func122 #[.agg #[.bool ((rd_T79 l0_1 x8_1).f0), .bool ((rd_T79 l0_1 x8_1).f1), .int .i64 ((rd_T79 l0_1 x8_1).f2.f0), .int .i64 ((rd_T79 l0_1 x8_1).f2.f1), .int .i64 ((rd_T79 l0_1 x8_1).f2.f2), .int .i64 ((rd_T79 l0_1 x8_1).f2.f3), .int .i64 ((rd_T79 l0_1 x8_1).f3), .int .i64 ((rd_T79 l0_1 x8_1).f4), .int .i64 ((rd_T79 l0_1 x8_1).f5), .int .i64 ((rd_T79 l0_1 x8_1).f6), .bool ((rd_T79 l0_1 x8_1).f7)]] ?_; (with_reducible refine (impl_PortOk.calls k1 ((rd_T79 l0_1 x8_1).f0) ((rd_T79 l0_1 x8_1).f1) ((rd_T79 l0_1 x8_1).f2.f0) ((rd_T79 l0_1 x8_1).f2.f1) ((rd_T79 l0_1 x8_1).f2.f2) ((rd_T79 l0_1 x8_1).f2.f3) ((rd_T79 l0_1 x8_1).f3) ((rd_T79 l0_1 x8_1).f4) ((rd_T79 l0_1 x8_1).f5) ((rd_T79 l0_1 x8_1).f6) ((rd_T79 l0_1 x8_1).f7) true _ A7.out).mono ?_); rintro e w12 ⟨rfl, hb⟩; refine ⟨_, rfl, ?_⟩; replace BK299 := aM (bB (fm BK299.out) hb); replace BK301 := aM (bB (pA11 (fm BK301.out)) hb); replace HB := aM (bS (bl HB.out) hb); (try clear hb)))
   go_roundg k1
   case measure => have := HK1.out; omega
   case rel => exact ⟨(wrap64 (x8_1 + 1)), xE, H', ⟨by have := HK1.out; omega⟩, ⟨by (with_reducible repeat (first | refine blk_drewN ?_ _ | refine blk_drew ?_ | refine blk_alloc ?_ _)); exact BK299.out⟩, ⟨bl HB.out⟩⟩

def impl_Port.f (l0 : List (S79)) : Option ((List (S79))) := (some (([] : List (S79)) : List (S79))).bind fun y305 => (if y305.length + l0.length < 1759218604441 then (some (y305 ++ l0)) else (none))
set_option maxHeartbeats 60000000 in
set_option maxRecDepth 100000 in
theorem impl_Port.calls (A0 : Option Addr) (c0 : Nat) (l0 : List (S79)) (r : List (S79)) (w : World) (hr0 : Kd.C k79 w A0 l0.length l0) (hc0 : l0.length ≤ c0) (h : impl_Port.f l0 = some r) :
  Calls Try.prog 144 #[.slice A0 l0.length c0] w fun e w' => ∃ v0_ : Value, e = .returned (v0_) ∧ Kd.R k79 79 w' w.heap.size (fun _ => True) v0_ r ∧ Below w.heap.size w w' := by
 have qn : ∀ (w : World) (a : Option Addr) (n c n' c' : Nat), (binOp .eql 26 (.slice a n c) (.slice none n' c')).run Try.prog w = .ok (.bool a.isNone) w := fun w a n c n' c' => Lib.run_eql_slice_nil w _ _ a n c n' c' Try.underlying26
 by_cases hnil : A0 = none
 ·have hl : l0 = [] := by
   have hc := hr0.2.2
   rw [hnil] at hc
   cases l0 with
   | nil => rfl
   | cons x t => obtain ⟨_, hx, _⟩ := hc (by simp); cases hx
  subst hnil
  subst hl
  have hr : r = [] := by simpa [impl_Port.f] using h.symm
  subst hr
  clear hr0 h
  go_enter Try.func144, Try.ntmps144
  go_wp2
  go_ret
  exact ⟨_, rfl, Kd.R_nil _ _ _ _ _, Below.refl _ _⟩
 have hsome : A0.isNone = false := by cases A0 <;> simp at hnil ⊢
 clear hnil
 have HR0 := aM hr0
 have HC0 := aM hc0
 clear hr0 hc0
 have HB := aM (Below.refl w.heap.size w)
 have H : ((some (([] : List (S79)) : List (S79))).bind fun y305 => (if y305.length + l0.length < 1759218604441 then (some (y305 ++ l0)) else (none))) = some r := h
 clear h
 obtain ⟨y305, hy305⟩ : ∃ y_ : List (S79), y_ = (([] : List (S79))) := ⟨_, rfl⟩
 replace H : (if y305.length + l0.length < 1759218604441 then (some (y305 ++ l0)) else (none)) = some r := by first | (rw [hy305]; with_reducible exact H) | (have H2_ := (Option.bind_some _ _).symm.trans H; rw [hy305]; with_reducible exact H2_) | (have H2_ := (Option.bind_some _ _).symm.trans H; with_reducible exact H2_) | with_reducible exact H | (rw [hy305]; exact H) | exact H
 have Ny305 := aM hy305
 clear hy305
 by_cases c2 : y305.length + l0.length < 1759218604441
 case neg =>
  rw [if_neg c2] at H
  exact absurd H (by simp)
 rw [if_pos c2] at H
 have LMc2 := aM c2
 clear c2
 obtain ⟨y308, hy308⟩ : ∃ y_ : List (S79), y_ = (y305 ++ l0) := ⟨_, rfl⟩
 replace H : (some y308) = some r := by first | (rw [hy308]; with_reducible exact H) | (have H2_ := (Option.bind_some _ _).symm.trans H; rw [hy308]; with_reducible exact H2_) | (have H2_ := (Option.bind_some _ _).symm.trans H; with_reducible exact H2_) | with_reducible exact H | (rw [hy308]; exact H) | exact H
 have Ny308 := aM hy308
 clear hy308
 obtain rfl := Option.some.inj H
 go_enter Try.func144, Try.ntmps144
 go_wp2_with (first | ((with_reducible refine gD (N := 5) rfl ?_); refine Kd.R_lit k79 _ 79 ?hg (N := 5) ?hd (xs := ([] : List (S79))) (inner := []) (ok := fun _ => True) (okp := fun _ => True) ?hr ?hp (fun _ hk => hk) trivial (Below.refl _ _) (Nat.le_refl _) (by simp) ?_; (case hd => rfl); (case hg => rfl); (case hr => first | (go_simp; done) | (go_simp; rfl) | (obtain ⟨A_, c_, e_⟩ := Kd.R_slice HO307.out; subst e_; (first | (go_simp; done) | (go_simp; rfl))) | (obtain ⟨A_, c_, e_⟩ := Kd.S_slice HO307.out; subst e_; (first | (go_simp; done) | (go_simp; rfl)))); (case hp => exact (Reps.none _ _)); intro v306 w3 ho4 hb hg_ hnew_; clear hg_ hnew_; (first | rw [← Ny305.out] at ho4 | (simp only [Int.reduceToNat] at ho4; rw [← Ny305.out] at ho4)); have HO307 := aM (Kd.R_lower ho4 (below_size (bl HB.out))); replace HB := aM (bS (bl HB.out) hb); clear hb ho4) | ((with_reducible refine gate_builtin (b := .append) (xs := #[.tmp 5, .tmp 6]) rfl ?_); at_builtin; refine Kd.R_append_rows k79 (w0 := w) w.heap.size rfl (.tmp 5) (.tmp 6) 26 79 (.agg #[(.bool false), (.bool false), (.int .i64 0), (.int .i64 0), (.int .i64 0), (.int .i64 0), (.int .i64 0), (.int .i64 0), (.int .i64 0), (.int .i64 0), (.bool false)]) 80 rfl Try.underlying26 info79 rfl (by decide) (by omega) v306 y305 l0 _ _ _ (fun _ => True) (fun _ => False) rfl rfl ?aO ?aR (fun _ _ h => h) (fun _ h => h.elim) ?aF ?aB ?aS ?aL ?_; (case aR => repeat (first | exact (cB HR0.out HB.out) | (with_reducible refine Kd.C_alloc ?_ _) | (with_reducible refine Kd.C_drewN ?_ _) | (with_reducible refine Kd.C_drew ?_))); (case aB => exact (bl HB.out)); (case aF => exact (fun _ _ => trivial)); (case aO => exact (kr HO307.out)); (case aS => exact (below_size (bl HB.out))); (case aL => have := LMc2.out; omega); intro v309 w5 ho hb hg hat; rw [← Ny308.out] at ho; have HO310 := aM (ho); replace HB := aM (hb); clear HO307; clear ho hb hg hat))
 go_ret
 exact ⟨_, xW, by (with_reducible repeat (first | apply Kd.R_alloc | apply Kd.R_drewN | apply Kd.R_drew)); exact HO310.out, bl HB.out⟩

def impl_copyBridge.f (a0_0 : Int) (l0_1 : List (S79)) : Option (Int × (List (S79))) := (impl_Port.f l0_1).bind fun t313 => (some (a0_0, t313))
set_option maxHeartbeats 60000000 in
set_option maxRecDepth 100000 in
theorem impl_copyBridge.calls (a0_0 : Int) (A0_1 : Option Addr) (c0_1 : Nat) (l0_1 : List (S79)) (r1 : Int) (r2 : List (S79)) (w : World) (hr0_1 : Kd.C k79 w A0_1 l0_1.length l0_1) (hc0_1 : l0_1.length ≤ c0_1) (h : impl_copyBridge.f a0_0 l0_1 = some (r1, r2)) :
  Calls Try.prog 71 #[.agg #[.int .i64 a0_0, .slice A0_1 l0_1.length c0_1]] w fun e w' => ∃ v1_ : Value, e = .returned (.agg #[.int .i64 r1, v1_]) ∧ Kd.R k79 79 w' w.heap.size (fun _ => True) v1_ r2 ∧ Below w.heap.size w w' := by
 have hu28 := Try.underlying28
 have HR0_1 := aM hr0_1
 have HC0_1 := aM hc0_1
 clear hr0_1 hc0_1
 have HB := aM (Below.refl w.heap.size w)
 have H : ((impl_Port.f l0_1).bind fun t313 => (some (a0_0, t313))) = some (r1, r2) := h
 clear h
 replace H := Option.bind_eq_some_iff.mp H
 obtain ⟨t313, A20, H⟩ := H
 replace H : (some (a0_0, t313)) = some (r1, r2) := H
 have A2 := aM A20
 clear A20
 simp only [Option.some.injEq, Prod.mk.injEq] at H
 obtain ⟨rfl, rfl⟩ := H
 go_enter Try.func71, Try.ntmps71
 try go_wp2_with (first | ((with_reducible refine gD (N := 1) rfl ?_); refine bE (N := 1) (cs := #[.int .i64 a0_0, .slice A0_1 l0_1.length c0_1]) (t := 28) ?_; intro gb311 hg w3 hbox hb; have BK311 := aM (hbox); have GW311 := gE hg (below_size (bl HB.out)); have GE311 := gE hg (below_size (bl HB.out)); replace HB := aM (bS (bl HB.out) hb); clear hb hbox hg) | ((with_reducible refine gD (N := 2) rfl ?_); refine bE (N := 2) (cs := #[.int .i64 0, .slice none 0 0]) (t := 28) ?_; intro gb312 hg w4 hbox hb; have BK312 := aM (hbox); have GW312 := gE hg (below_size (bl HB.out)); have GE312 := gE hg (below_size (bl HB.out)); have NB311_312 := nL hg (blk_lt (bk BK311.out)); have NB312_311 := nG hg (blk_lt (bk BK311.out)); replace BK311 := aM (bB (bk BK311.out) hb); replace HB := aM (bS (bl HB.out) hb); clear hb hbox hg))
 replace BK311 := aM (blk_drew BK311.out)
 replace BK312 := aM (blk_drew BK312.out)
 replace HB := aM (below_drew1 HB.out)
 refine start_ (n := 7) (S := fun w' => cS2 w' gb311 (.int .i64 a0_0) (.slice A0_1 l0_1.length c0_1)) (ds := []) (dn 7 0) (by kernel_rfl) rfl rfl ⟨cI BK311.out 0, cI BK311.out 1⟩ (fun hHeld => ?_)
 generalize w4.drew = w5 at BK311 BK312 HB hHeld ⊢
 refine pure_ (i := 0) (N := some 3) (v := ?_) (a' := ?_) #[Y,U,U,U,U,U,U] rfl rfl (by kernel_rfl) (fun _ _ _ h => h) (Or.inl ⟨by rfl, ?_⟩) ?_ ?_
 rotate_left
 ·intro w'
  go_simp
  with_reducible rfl
 rotate_left
 ·simp only [Act.put, sA, sZ, sS, i64_w, i32_w]
  rfl
 refine pure_ (i := 2) (N := some 5) (v := ?_) (a' := ?_) #[Y,U,Y,U,U,U,U] rfl rfl (by kernel_rfl) (fun _ _ _ h => h) (Or.inl ⟨by rfl, ?_⟩) ?_ ?_
 rotate_left
 ·intro w'
  go_simp
  with_reducible rfl
 rotate_left
 ·simp only [Act.put, sA, sZ, sS, i64_w, i32_w]
  rfl
 refine take_ (i := 1) (N := some 4) (v := ?_) (a' := ?_) #[Y,Y,Y,U,U,U,U] rfl rfl (by kernel_rfl) (fun _ _ _ h => h) (Or.inl ⟨by rfl, ?_⟩) hHeld ?_ ?_
 rotate_left
 ·rintro w' ⟨s0, s1⟩
  go_simp
  with_reducible rfl
 rotate_left
 ·simp only [Act.put, sA, sZ, sS, i64_w, i32_w]
  rfl
 refine take_ (i := 3) (N := some 6) (v := ?_) (a' := ?_) #[Y,Y,Y,Y,U,U,U] rfl rfl (by kernel_rfl) (fun _ _ _ h => h) (Or.inl ⟨by rfl, ?_⟩) hHeld ?_ ?_
 rotate_left
 ·rintro w' ⟨s0, s1⟩
  go_simp
  with_reducible rfl
 rotate_left
 ·simp only [Act.put, sA, sZ, sS, i64_w, i32_w]
  rfl
 refine one_ (i := 4) (N := some 7) #[Y,Y,Y,Y,Y,U,U] rfl rfl (by kernel_rfl) (by decide) (fun K hK => ?_)
 refine goes_ Try.func144 (by kernel_rfl) rfl #[.slice A0_1 l0_1.length c0_1] (by rfl) rfl rfl xR ?_
 with_reducible refine (impl_Port.calls _ _ l0_1 t313 _ ?side1 ?side2 A2.out).mono ?_
 (case side1 => repeat (first | exact (cB HR0_1.out HB.out) | (with_reducible refine Kd.C_alloc ?_ _) | (with_reducible refine Kd.C_drewN ?_ _) | (with_reducible refine Kd.C_drew ?_)))
 (case side2 => exact HC0_1.out)
 rintro e w6 ⟨v314, rfl, ho0, hb⟩
 refine ⟨_, rfl, ?_⟩
 have HO315 := aM (Kd.R_lower ho0 (below_size (bl HB.out)))
 replace BK311 := aM (bB (bk BK311.out) hb)
 replace BK312 := aM (bB (bk BK312.out) hb)
 replace HB := aM (bS (bl HB.out) hb)
 (try clear hb)
 (try clear hb2)
 (try clear hk)
 (try clear hi)
 (try clear ho0)
 obtain ⟨Ao7, co7, eo7⟩ := Kd.R_slice HO315.out
 (first | subst eo7 | (injection eo7 with f1_ f2_ f3_; have f4_ := f1_.symm; have f5_ := f3_.symm; clear f1_ f2_ f3_; subst f4_; subst f5_))
 refine hK.out _ _ ⟨cI BK311.out 0, cI BK311.out 1⟩ (fun hHeld => ?_)
 clear hK K
 refine norm_ (a' := ?_) ?_ ?_
 rotate_left
 ·show Act.put _ (some 7) _ = _
  simp only [Act.put, sA, sZ, sS, i64_w, i32_w]
  rfl
 refine pure_ (i := 5) (N := some 8) (v := ?_) (a' := ?_) #[Y,Y,Y,Y,Y,Y,U] rfl rfl (by kernel_rfl) (fun _ _ _ h => h) (Or.inl ⟨by rfl, ?_⟩) ?_ ?_
 rotate_left
 ·intro w'
  go_simp
  with_reducible rfl
 rotate_left
 ·simp only [Act.put, sA, sZ, sS, i64_w, i32_w]
  rfl
 refine one_ (i := 6) (N := none) #[Y,Y,Y,Y,Y,Y,Y] rfl rfl (by kernel_rfl) (by decide) (fun K hK => ?_)
 have hs8 := cI BK312.out 0
 have hfs8 := bF BK312.out 0
 have hns8_0 := NB311_312.out
 have hms8_0 := NB312_311.out
 have hs9 := cI BK312.out 1
 have hfs9 := bF BK312.out 1
 have hns9_0 := NB311_312.out
 have hms9_0 := NB312_311.out
 refine skip_ (w1 := ?_) (by rfl) rfl ?_ ?_
 rotate_left
 ·go_simp
  rfl
 refine hK.out _ _ ⟨(cm (hHeld.1)), (cm (hHeld.2))⟩ (fun hHeld => ?_)
 clear hK K
 refine done_ (by kernel_rfl) ?_
 try go_wp2
 refine bodyPost_ret (results_cell_row rfl _ _ gb312 28 #[.int .i64 a0_0, .slice Ao7 t313.length co7] (0, 0) _ rfl (pA2 (fm BK312.out)) Try.underlying28 rfl (by kernel_rfl)) rfl ?_
 exact ⟨_, xW, by (with_reducible repeat (first | apply Kd.R_alloc | apply Kd.R_drewN | apply Kd.R_drew)); exact Kd.R_mono (kF (p := ⟨gb312, 1, none⟩) (kF (p := ⟨gb312, 0, none⟩) (Kd.R_types HO315.out BK312.out (by decide)) (fun _ hk => hk.2) (.int .i64 a0_0)) (fun _ hk => hk.2) (.slice Ao7 t313.length co7)) (fun _ hk => trivial), bl HB.out⟩

def cmp_Or_int.l0 : Nat → Int → List Int → Int → Int → Option (Int)
 | 0, _, _, _, _ => none
 | k + 1, x3, x6, x7, x8 => if x8 < x7 then (if 0 ≤ x8 then (if x8 < (x6.length : Int) then (if (rd x6 x8) = x3 then (cmp_Or_int.l0 k x3 x6 x7 (wrap64 (x8 + 1))) else (some (rd x6 x8))) else (none)) else (none)) else (some x3)
def cmp_Or_int.f (k : Nat) (l0 : List Int) : Option (Int) := cmp_Or_int.l0 k 0 l0 (l0.length : Int) 0
theorem cmp_Or_int.mono_l : ∀ k, (∀ y0 y1 y2 y3, LeO (cmp_Or_int.l0 k y0 y1 y2 y3) (cmp_Or_int.l0 (k + 1) y0 y1 y2 y3))
 | 0 => fun _ _ _ _ r h => by simp [cmp_Or_int.l0] at h
 | k + 1 => by
  have ih0 := cmp_Or_int.mono_l k
  ·intro y0 y1 y2 y3
   unfold cmp_Or_int.l0
   repeat' first
   | (with_reducible exact ih0 _ _ _ _)
   | (with_reducible exact LeO.refl _)
   | (with_reducible exact LeO.none _)
   | (with_reducible refine LeO.ite ?_ ?_)
   | (with_reducible refine LeO.bind ?_ (fun _ => ?_))
   | exact ih0 _ _ _ _
   | exact LeO.none _
   | refine LeO.ite ?_ ?_
   | refine LeO.bind ?_ (fun _ => ?_)
theorem cmp_Or_int.mono : ∀ a0 k, LeO (cmp_Or_int.f k a0) (cmp_Or_int.f (k + 1) a0) := by
 intro a0 k
 have ih0 := cmp_Or_int.mono_l k
 unfold cmp_Or_int.f
 repeat' first
   | (with_reducible exact ih0 _ _ _ _)
   | (with_reducible exact LeO.refl _)
   | (with_reducible exact LeO.none _)
   | (with_reducible refine LeO.ite ?_ ?_)
   | (with_reducible refine LeO.bind ?_ (fun _ => ?_))
   | exact ih0 _ _ _ _
   | exact LeO.none _
   | refine LeO.ite ?_ ?_
   | refine LeO.bind ?_ (fun _ => ?_)
set_option maxHeartbeats 60000000 in
set_option maxRecDepth 100000 in
theorem cmp_Or_int.calls (k : Nat) (A0 : Option Addr) (c0 : Nat) (l0 : List Int) (r : Int) (w : World) (hr0 : Kd.C (Kd.int .i64) w A0 l0.length l0) (hc0 : l0.length ≤ c0) (h : cmp_Or_int.f k l0 = some r) :
  Calls Try.prog 124 #[.slice A0 l0.length c0] w fun e w' => e = .returned (.int .i64 r) ∧ Drawn0 w w' := by
 have HR0 := aM hr0
 have HC0 := aM hc0
 clear hr0 hc0
 have H : (cmp_Or_int.l0 k 0 l0 (l0.length : Int) 0) = some r := h
 clear h
 have H' := aM H
 clear H
 go_enter Try.func124, Try.ntmps124
 go_wp2
 go_loopg [8] k (fun kq v8 w' => ∃ (x8_1 : Int), v8 = .int .i64 x8_1 ∧ Aside0 (cmp_Or_int.l0 kq 0 l0 (l0.length : Int) x8_1 = some r) ∧ Aside0 (kq ≤ k) ∧ Drawn0 w w')
 case atStart => exact ⟨(0), xE, H', ⟨Nat.le_refl _⟩, by repeat (first | exact Drawn0.refl _ | apply Drawn0.step)⟩
 case round =>
  clear H'
  try clear c1
  obtain ⟨x8_1, rfl, HA, HK1, ⟨m1, rfl⟩⟩ := hrel
  cases gk with
  | zero => exact absurd HA.out (by simp [cmp_Or_int.l0])
  | succ k1 =>
   have H := HA.out
   clear HA
   simp only [cmp_Or_int.l0] at H
   by_cases c2 : x8_1 < (l0.length : Int)
   case neg =>
    rw [if_neg c2] at H
    have c2b0 : decide (x8_1 < (l0.length : Int)) = false := decide_eq_false c2
    clear c2
    obtain rfl := Option.some.inj H
    go_wp2
    go_ret
    exact ⟨by first | rfl | (simp; done) | (simp [*]; done), by repeat (first | exact Drawn0.refl _ | apply Drawn0.step)⟩
   rw [if_pos c2] at H
   have c2b0 : decide (x8_1 < (l0.length : Int)) = true := decide_eq_true c2
   clear c2
   by_cases c3 : 0 ≤ x8_1
   case neg =>
    rw [if_neg c3] at H
    exact absurd H (by simp)
   rw [if_pos c3] at H
   have c3b0 : decide (0 ≤ x8_1) = true := decide_eq_true c3
   clear c3
   by_cases c4 : x8_1 < (l0.length : Int)
   case neg =>
    rw [if_neg c4] at H
    exact absurd H (by simp)
   rw [if_pos c4] at H
   have c4b0 : decide (x8_1 < (l0.length : Int)) = true := decide_eq_true c4
   clear c4
   by_cases c5 : (rd l0 x8_1) = 0
   case neg =>
    rw [if_neg c5] at H
    have c5b0 : ((rd l0 x8_1) == 0) = false := beq_eq_false_iff_ne.mpr c5
    have c5b1 : ((rd l0 x8_1) != 0) = true := bne_iff_ne.mpr c5
    obtain rfl := Option.some.inj H
    have p316 : 0 ≤ (x8_1 : Int) := of_decide_eq_true (by first | (with_reducible assumption) | assumption)
    have q316 : x8_1 < (l0.length : Int) := of_decide_eq_true (by first | (with_reducible assumption) | assumption)
    obtain ⟨ad316, e316, hx316_0⟩ := Kd.at_int HR0.out x8_1 p316 q316
    cases e316
    replace p316 := eq_true p316
    replace q316 := eq_true q316
    go_wp2
    go_ret
    exact ⟨by first | rfl | (simp; done) | (simp [*]; done), by repeat (first | exact Drawn0.refl _ | apply Drawn0.step)⟩
   rw [if_pos c5] at H
   have c5b0 : ((rd l0 x8_1) == 0) = true := beq_iff_eq.mpr c5
   have c5b1 : ((rd l0 x8_1) != 0) = false := bne_eq_false_iff_eq.mpr c5
   clear c5
   have H' := aM H
   clear H
   have p316 : 0 ≤ (x8_1 : Int) := of_decide_eq_true (by first | (with_reducible assumption) | assumption)
   have q316 : x8_1 < (l0.length : Int) := of_decide_eq_true (by first | (with_reducible assumption) | assumption)
   obtain ⟨ad316, e316, hx316_0⟩ := Kd.at_int HR0.out x8_1 p316 q316
   cases e316
   replace p316 := eq_true p316
   replace q316 := eq_true q316
   go_wp2
   go_roundg k1
   case measure => have := HK1.out; omega
   case rel => exact ⟨(wrap64 (x8_1 + 1)), xE, H', ⟨by have := HK1.out; omega⟩, by repeat (first | exact Drawn0.refl _ | apply Drawn0.step)⟩

def cmp_isNaN_int.f (a0 : Int) : Option (Bool) := some (a0 != a0)
set_option maxHeartbeats 60000000 in
set_option maxRecDepth 100000 in
theorem cmp_isNaN_int.calls (a0 : Int) (r : Bool) (w : World) (h : cmp_isNaN_int.f a0 = some r) :
  Calls Try.prog 182 #[.int .i64 a0] w fun e w' => e = .returned (.bool r) ∧ Drawn0 w w' := by
 have H : (some (a0 != a0)) = some r := h
 clear h
 obtain rfl := Option.some.inj H
 go_enter Try.func182, Try.ntmps182
 go_wp2
 go_ret
 exact ⟨by first | rfl | (simp; done) | (simp [*]; done), by repeat (first | exact Drawn0.refl _ | apply Drawn0.step)⟩

def cmp_Compare_int.f (a0 : Int) (a1 : Int) : Option (Int) := (cmp_isNaN_int.f a0).bind fun t317 => ((cmp_isNaN_int.f a1).bind fun t318 => (if t317 = true then (if t318 = true then (some 0) else (some (-1))) else (if t318 = true then (some 1) else (if a0 < a1 then (some (-1)) else (if a0 > a1 then (some 1) else (some 0))))))
set_option maxHeartbeats 60000000 in
set_option maxRecDepth 100000 in
theorem cmp_Compare_int.calls (a0 : Int) (a1 : Int) (r : Int) (w : World) (h : cmp_Compare_int.f a0 a1 = some r) :
  Calls Try.prog 125 #[.int .i64 a0, .int .i64 a1] w fun e w' => e = .returned (.int .i64 r) ∧ Drawn0 w w' := by
 have H : ((cmp_isNaN_int.f a0).bind fun t317 => ((cmp_isNaN_int.f a1).bind fun t318 => (if t317 = true then (if t318 = true then (some 0) else (some (-1))) else (if t318 = true then (some 1) else (if a0 < a1 then (some (-1)) else (if a0 > a1 then (some 1) else (some 0))))))) = some r := h
 clear h
 replace H := Option.bind_eq_some_iff.mp H
 obtain ⟨t317, A30, H⟩ := H
 replace H : ((cmp_isNaN_int.f a1).bind fun t318 => (if t317 = true then (if t318 = true then (some 0) else (some (-1))) else (if t318 = true then (some 1) else (if a0 < a1 then (some (-1)) else (if a0 > a1 then (some 1) else (some 0)))))) = some r := H
 have A3 := aM A30
 clear A30
 replace H := Option.bind_eq_some_iff.mp H
 obtain ⟨t318, A40, H⟩ := H
 replace H : (if t317 = true then (if t318 = true then (some 0) else (some (-1))) else (if t318 = true then (some 1) else (if a0 < a1 then (some (-1)) else (if a0 > a1 then (some 1) else (some 0))))) = some r := H
 have A4 := aM A40
 clear A40
 by_cases c5 : t317 = true
 case pos =>
  subst c5
  have H1 : (if t318 = true then (some 0) else (some (-1))) = some r := by rw [if_pos rfl] at H; exact H
  clear H
  have H := H1
  clear H1
  by_cases c6 : t318 = true
  case pos =>
   subst c6
   have H1 : (some 0) = some r := by rw [if_pos rfl] at H; exact H
   clear H
   have H := H1
   clear H1
   obtain rfl := Option.some.inj H
   go_enter Try.func125, Try.ntmps125
   go_wp2_with (first | ((with_reducible refine gC (f := 182) rfl ?_); refine gL (some 8) Try.func182 #[.int .i64 a0] ?_; (with_reducible refine (cmp_isNaN_int.calls a0 true _ A3.out).mono ?_); rintro e w' ⟨rfl, ⟨nd, rfl⟩⟩; refine ⟨_, rfl, ?_⟩) | ((with_reducible refine gC (f := 182) rfl ?_); refine gL (some 10) Try.func182 #[.int .i64 a1] ?_; (with_reducible refine (cmp_isNaN_int.calls a1 true _ A4.out).mono ?_); rintro e w' ⟨rfl, ⟨nd, rfl⟩⟩; refine ⟨_, rfl, ?_⟩))
   go_ret
   exact ⟨by first | rfl | (simp; done) | (simp [*]; done), by repeat (first | exact Drawn0.refl _ | apply Drawn0.step)⟩
  replace c6 := Bool.eq_false_iff.mpr c6
  subst c6
  have H1 : (some (-1)) = some r := by rw [if_neg (show ¬ (false = true) by decide)] at H; exact H
  clear H
  have H := H1
  clear H1
  obtain rfl := Option.some.inj H
  go_enter Try.func125, Try.ntmps125
  go_wp2_with (first | ((with_reducible refine gC (f := 182) rfl ?_); refine gL (some 8) Try.func182 #[.int .i64 a0] ?_; (with_reducible refine (cmp_isNaN_int.calls a0 true _ A3.out).mono ?_); rintro e w' ⟨rfl, ⟨nd, rfl⟩⟩; refine ⟨_, rfl, ?_⟩) | ((with_reducible refine gC (f := 182) rfl ?_); refine gL (some 10) Try.func182 #[.int .i64 a1] ?_; (with_reducible refine (cmp_isNaN_int.calls a1 false _ A4.out).mono ?_); rintro e w' ⟨rfl, ⟨nd, rfl⟩⟩; refine ⟨_, rfl, ?_⟩))
  go_ret
  exact ⟨by first | rfl | (simp; done) | (simp [*]; done), by repeat (first | exact Drawn0.refl _ | apply Drawn0.step)⟩
 replace c5 := Bool.eq_false_iff.mpr c5
 subst c5
 have H1 : (if t318 = true then (some 1) else (if a0 < a1 then (some (-1)) else (if a0 > a1 then (some 1) else (some 0)))) = some r := by rw [if_neg (show ¬ (false = true) by decide)] at H; exact H
 clear H
 have H := H1
 clear H1
 by_cases c7 : t318 = true
 case pos =>
  subst c7
  have H1 : (some 1) = some r := by rw [if_pos rfl] at H; exact H
  clear H
  have H := H1
  clear H1
  obtain rfl := Option.some.inj H
  go_enter Try.func125, Try.ntmps125
  go_wp2_with (first | ((with_reducible refine gC (f := 182) rfl ?_); refine gL (some 8) Try.func182 #[.int .i64 a0] ?_; (with_reducible refine (cmp_isNaN_int.calls a0 false _ A3.out).mono ?_); rintro e w' ⟨rfl, ⟨nd, rfl⟩⟩; refine ⟨_, rfl, ?_⟩) | ((with_reducible refine gC (f := 182) rfl ?_); refine gL (some 10) Try.func182 #[.int .i64 a1] ?_; (with_reducible refine (cmp_isNaN_int.calls a1 true _ A4.out).mono ?_); rintro e w' ⟨rfl, ⟨nd, rfl⟩⟩; refine ⟨_, rfl, ?_⟩))
  go_ret
  exact ⟨by first | rfl | (simp; done) | (simp [*]; done), by repeat (first | exact Drawn0.refl _ | apply Drawn0.step)⟩
 replace c7 := Bool.eq_false_iff.mpr c7
 subst c7
 have H1 : (if a0 < a1 then (some (-1)) else (if a0 > a1 then (some 1) else (some 0))) = some r := by rw [if_neg (show ¬ (false = true) by decide)] at H; exact H
 clear H
 have H := H1
 clear H1
 by_cases c8 : a0 < a1
 case pos =>
  rw [if_pos c8] at H
  have c8b0 : decide (a0 < a1) = true := decide_eq_true c8
  clear c8
  obtain rfl := Option.some.inj H
  go_enter Try.func125, Try.ntmps125
  go_wp2_with (first | ((with_reducible refine gC (f := 182) rfl ?_); refine gL (some 8) Try.func182 #[.int .i64 a0] ?_; (with_reducible refine (cmp_isNaN_int.calls a0 false _ A3.out).mono ?_); rintro e w' ⟨rfl, ⟨nd, rfl⟩⟩; refine ⟨_, rfl, ?_⟩) | ((with_reducible refine gC (f := 182) rfl ?_); refine gL (some 10) Try.func182 #[.int .i64 a1] ?_; (with_reducible refine (cmp_isNaN_int.calls a1 false _ A4.out).mono ?_); rintro e w' ⟨rfl, ⟨nd, rfl⟩⟩; refine ⟨_, rfl, ?_⟩))
  go_ret
  exact ⟨by first | rfl | (simp; done) | (simp [*]; done), by repeat (first | exact Drawn0.refl _ | apply Drawn0.step)⟩
 rw [if_neg c8] at H
 have c8b0 : decide (a0 < a1) = false := decide_eq_false c8
 clear c8
 by_cases c9 : a0 > a1
 case pos =>
  rw [if_pos c9] at H
  have c9b0 : decide (a1 < a0) = true := decide_eq_true c9
  clear c9
  obtain rfl := Option.some.inj H
  go_enter Try.func125, Try.ntmps125
  go_wp2_with (first | ((with_reducible refine gC (f := 182) rfl ?_); refine gL (some 8) Try.func182 #[.int .i64 a0] ?_; (with_reducible refine (cmp_isNaN_int.calls a0 false _ A3.out).mono ?_); rintro e w' ⟨rfl, ⟨nd, rfl⟩⟩; refine ⟨_, rfl, ?_⟩) | ((with_reducible refine gC (f := 182) rfl ?_); refine gL (some 10) Try.func182 #[.int .i64 a1] ?_; (with_reducible refine (cmp_isNaN_int.calls a1 false _ A4.out).mono ?_); rintro e w' ⟨rfl, ⟨nd, rfl⟩⟩; refine ⟨_, rfl, ?_⟩))
  go_ret
  exact ⟨by first | rfl | (simp; done) | (simp [*]; done), by repeat (first | exact Drawn0.refl _ | apply Drawn0.step)⟩
 rw [if_neg c9] at H
 have c9b0 : decide (a1 < a0) = false := decide_eq_false c9
 clear c9
 obtain rfl := Option.some.inj H
 go_enter Try.func125, Try.ntmps125
 go_wp2_with (first | ((with_reducible refine gC (f := 182) rfl ?_); refine gL (some 8) Try.func182 #[.int .i64 a0] ?_; (with_reducible refine (cmp_isNaN_int.calls a0 false _ A3.out).mono ?_); rintro e w' ⟨rfl, ⟨nd, rfl⟩⟩; refine ⟨_, rfl, ?_⟩) | ((with_reducible refine gC (f := 182) rfl ?_); refine gL (some 10) Try.func182 #[.int .i64 a1] ?_; (with_reducible refine (cmp_isNaN_int.calls a1 false _ A4.out).mono ?_); rintro e w' ⟨rfl, ⟨nd, rfl⟩⟩; refine ⟨_, rfl, ?_⟩))
 go_ret
 exact ⟨by first | rfl | (simp; done) | (simp [*]; done), by repeat (first | exact Drawn0.refl _ | apply Drawn0.step)⟩

def impl_Better.f (k : Nat) (a0_0 : Int) (a0_1 : Int) (a0_2 : Int) (a0_3 : Int) (a1_0 : Int) (a1_1 : Int) (a1_2 : Int) (a1_3 : Int) : Option (Bool) := (cmp_Compare_int.f a0_0 a1_0).bind fun t321 => ((cmp_Compare_int.f a0_1 a1_1).bind fun t322 => ((cmp_Compare_int.f a0_2 a1_2).bind fun t323 => ((cmp_Compare_int.f a0_3 a1_3).bind fun t324 => ((cmp_Or_int.f k (([t321, t322, t323, t324] : List Int))).bind fun t328 => (some (decide (t328 < 0)))))))
theorem impl_Better.mono : ∀ a0 a1 a2 a3 a4 a5 a6 a7 k, LeO (impl_Better.f k a0 a1 a2 a3 a4 a5 a6 a7) (impl_Better.f (k + 1) a0 a1 a2 a3 a4 a5 a6 a7) := by
 intro a0 a1 a2 a3 a4 a5 a6 a7 k
 unfold impl_Better.f
 repeat' first
   | (with_reducible exact cmp_Or_int.mono _ _)
   | (with_reducible exact LeO.refl _)
   | (with_reducible exact LeO.none _)
   | (with_reducible refine LeO.ite ?_ ?_)
   | (with_reducible refine LeO.bind ?_ (fun _ => ?_))
   | exact cmp_Or_int.mono _ _
   | exact LeO.none _
   | refine LeO.ite ?_ ?_
   | refine LeO.bind ?_ (fun _ => ?_)
def impl_Better.T1 : Bool × List (List Nat × List Nat) := (true, [([], []), ([0], [0]), ([], []), ([2], [2]), ([1, 3], [1, 3]), ([], []), ([5], [5]), ([], []), ([7], [7]), ([6, 8, 4], [6, 8]), ([], []), ([10], [10]), ([], []), ([12], [12]), ([11, 13, 9], [11, 13]), ([], []), ([15], [15]), ([], []), ([17], [17]), ([16, 18, 14], [16, 18]), ([4, 9, 14, 19], [4, 9, 14, 19]), ([20, 19], [20]), ([21], [21]), ([22, 21, 0, 1, 2, 3, 4, 5, 6, 7, 8, 9, 10, 11, 12, 13, 14, 15, 16, 17, 18, 19, 20, 21, 22], [22])])
def impl_Better.B1 : List Nat := [0, 1, 0, 4, 15, 0, 32, 0, 128, 511, 0, 1024, 0, 4096, 16383, 0, 32768, 0, 131072, 524287, 1048575, 2097151, 4194303, 8388607]
theorem impl_Better.tab1 : rtab .any (opsOf Try.f47 1) = impl_Better.T1 := by kernel_rfl
theorem impl_Better.bits1 : waitsOk impl_Better.T1.2 impl_Better.B1 = true := by kernel_rfl
set_option maxHeartbeats 60000000 in
set_option maxRecDepth 100000 in
theorem impl_Better.calls (k : Nat) (a0_0 : Int) (a0_1 : Int) (a0_2 : Int) (a0_3 : Int) (a1_0 : Int) (a1_1 : Int) (a1_2 : Int) (a1_3 : Int) (r : Bool) (w : World) (h : impl_Better.f k a0_0 a0_1 a0_2 a0_3 a1_0 a1_1 a1_2 a1_3 = some r) :
  Calls Try.prog 47 #[.agg #[.int .i64 a0_0, .int .i64 a0_1, .int .i64 a0_2, .int .i64 a0_3], .agg #[.int .i64 a1_0, .int .i64 a1_1, .int .i64 a1_2, .int .i64 a1_3]] w fun e w' => e = .returned (.bool r) ∧ Below w.heap.size w w' := by
 have hu73 := Try.underlying73
 have HB := aM (Below.refl w.heap.size w)
 have H : ((cmp_Compare_int.f a0_0 a1_0).bind fun t321 => ((cmp_Compare_int.f a0_1 a1_1).bind fun t322 => ((cmp_Compare_int.f a0_2 a1_2).bind fun t323 => ((cmp_Compare_int.f a0_3 a1_3).bind fun t324 => ((cmp_Or_int.f k (([t321, t322, t323, t324] : List Int))).bind fun t328 => (some (decide (t328 < 0)))))))) = some r := h
 clear h
 replace H := Option.bind_eq_some_iff.mp H
 obtain ⟨t321, A30, H⟩ := H
 replace H : ((cmp_Compare_int.f a0_1 a1_1).bind fun t322 => ((cmp_Compare_int.f a0_2 a1_2).bind fun t323 => ((cmp_Compare_int.f a0_3 a1_3).bind fun t324 => ((cmp_Or_int.f k (([t321, t322, t323, t324] : List Int))).bind fun t328 => (some (decide (t328 < 0))))))) = some r := H
 have A3 := aM A30
 clear A30
 replace H := Option.bind_eq_some_iff.mp H
 obtain ⟨t322, A40, H⟩ := H
 replace H : ((cmp_Compare_int.f a0_2 a1_2).bind fun t323 => ((cmp_Compare_int.f a0_3 a1_3).bind fun t324 => ((cmp_Or_int.f k (([t321, t322, t323, t324] : List Int))).bind fun t328 => (some (decide (t328 < 0)))))) = some r := H
 have A4 := aM A40
 clear A40
 replace H := Option.bind_eq_some_iff.mp H
 obtain ⟨t323, A50, H⟩ := H
 replace H : ((cmp_Compare_int.f a0_3 a1_3).bind fun t324 => ((cmp_Or_int.f k (([t321, t322, t323, t324] : List Int))).bind fun t328 => (some (decide (t328 < 0))))) = some r := H
 have A5 := aM A50
 clear A50
 replace H := Option.bind_eq_some_iff.mp H
 obtain ⟨t324, A60, H⟩ := H
 replace H : ((cmp_Or_int.f k (([t321, t322, t323, t324] : List Int))).bind fun t328 => (some (decide (t328 < 0)))) = some r := H
 have A6 := aM A60
 clear A60
 obtain ⟨y325, hy325⟩ : ∃ y_ : List Int, y_ = (([t321, t322, t323, t324] : List Int)) := ⟨_, rfl⟩
 replace H : ((cmp_Or_int.f k y325).bind fun t328 => (some (decide (t328 < 0)))) = some r := by first | (rw [hy325]; with_reducible exact H) | (have H2_ := (Option.bind_some _ _).symm.trans H; rw [hy325]; with_reducible exact H2_) | (have H2_ := (Option.bind_some _ _).symm.trans H; with_reducible exact H2_) | with_reducible exact H | (rw [hy325]; exact H) | exact H
 have Ny325 := aM hy325
 clear hy325
 replace H := Option.bind_eq_some_iff.mp H
 obtain ⟨t328, A70, H⟩ := H
 replace H : (some (decide (t328 < 0))) = some r := H
 have A7 := aM A70
 clear A70
 obtain rfl := Option.some.inj H
 go_enter Try.func47, Try.ntmps47
 try go_wp2_with (first | ((with_reducible refine gD (N := 2) rfl ?_); refine bE (N := 2) (cs := #[.int .i64 a0_0, .int .i64 a0_1, .int .i64 a0_2, .int .i64 a0_3]) (t := 73) ?_; intro gb319 hg w8 hbox hb; have BK319 := aM (hbox); have GW319 := gE hg (below_size (bl HB.out)); have GE319 := gE hg (below_size (bl HB.out)); replace HB := aM (bS (bl HB.out) hb); clear hb hbox hg) | ((with_reducible refine gD (N := 3) rfl ?_); refine bE (N := 3) (cs := #[.int .i64 a1_0, .int .i64 a1_1, .int .i64 a1_2, .int .i64 a1_3]) (t := 73) ?_; intro gb320 hg w9 hbox hb; have BK320 := aM (hbox); have GW320 := gE hg (below_size (bl HB.out)); have GE320 := gE hg (below_size (bl HB.out)); have NB319_320 := nL hg (blk_lt (bk BK319.out)); have NB320_319 := nG hg (blk_lt (bk BK319.out)); replace BK319 := aM (bB (bk BK319.out) hb); replace HB := aM (bS (bl HB.out) hb); clear hb hbox hg))
 replace BK319 := aM (blk_drew BK319.out)
 replace BK320 := aM (blk_drew BK320.out)
 replace HB := aM (below_drew1 HB.out)
 refine start_ (n := 24) (S := fun w' => cT4 w' gb319 (.int .i64 a0_0) (.int .i64 a0_1) (.int .i64 a0_2) (.int .i64 a0_3) (cS4 w' gb320 (.int .i64 a1_0) (.int .i64 a1_1) (.int .i64 a1_2) (.int .i64 a1_3))) (ds := []) (dn 24 0) (by kernel_rfl) rfl rfl ⟨cI BK319.out 0, cI BK319.out 1, cI BK319.out 2, cI BK319.out 3, cI BK320.out 0, cI BK320.out 1, cI BK320.out 2, cI BK320.out 3⟩ (fun hHeld => ?_); refine with_tabW impl_Better.tab1 impl_Better.bits1 (fun HT_ HW_ => ?_)
 generalize w9.drew = w10 at BK319 BK320 HB hHeld ⊢
 refine nY (N := some 5) HT_ ?_
 refine pY (i := 2) (N := some 7) #[Y,U,Y,U,U,U,U,U,U,U,U,U,U,U,U,U,U,U,U,U,U,U,U,U] HT_ ?_
 refine pY (i := 5) (N := some 10) #[Y,U,Y,U,U,Y,U,U,U,U,U,U,U,U,U,U,U,U,U,U,U,U,U,U] HT_ ?_
 refine pY (i := 7) (N := some 12) #[Y,U,Y,U,U,Y,U,Y,U,U,U,U,U,U,U,U,U,U,U,U,U,U,U,U] HT_ ?_
 refine pY (i := 10) (N := some 15) #[Y,U,Y,U,U,Y,U,Y,U,U,Y,U,U,U,U,U,U,U,U,U,U,U,U,U] HT_ ?_
 refine pY (i := 12) (N := some 17) #[Y,U,Y,U,U,Y,U,Y,U,U,Y,U,Y,U,U,U,U,U,U,U,U,U,U,U] HT_ ?_
 refine pY (i := 15) (N := some 20) #[Y,U,Y,U,U,Y,U,Y,U,U,Y,U,Y,U,U,Y,U,U,U,U,U,U,U,U] HT_ ?_
 refine pY (i := 17) (N := some 22) #[Y,U,Y,U,U,Y,U,Y,U,U,Y,U,Y,U,U,Y,U,Y,U,U,U,U,U,U] HT_ ?_
 refine aY (i := 1) (N := some 6) #[Y,Y,Y,U,U,Y,U,Y,U,U,Y,U,Y,U,U,Y,U,Y,U,U,U,U,U,U] HT_ HW_ hHeld ?_
 refine aY (i := 3) (N := some 8) #[Y,Y,Y,Y,U,Y,U,Y,U,U,Y,U,Y,U,U,Y,U,Y,U,U,U,U,U,U] HT_ HW_ hHeld ?_
 refine aY (i := 6) (N := some 11) #[Y,Y,Y,Y,U,Y,Y,Y,U,U,Y,U,Y,U,U,Y,U,Y,U,U,U,U,U,U] HT_ HW_ hHeld ?_
 refine aY (i := 8) (N := some 13) #[Y,Y,Y,Y,U,Y,Y,Y,Y,U,Y,U,Y,U,U,Y,U,Y,U,U,U,U,U,U] HT_ HW_ hHeld ?_
 refine aY (i := 11) (N := some 16) #[Y,Y,Y,Y,U,Y,Y,Y,Y,U,Y,Y,Y,U,U,Y,U,Y,U,U,U,U,U,U] HT_ HW_ hHeld ?_
 refine aY (i := 13) (N := some 18) #[Y,Y,Y,Y,U,Y,Y,Y,Y,U,Y,Y,Y,Y,U,Y,U,Y,U,U,U,U,U,U] HT_ HW_ hHeld ?_
 refine aY (i := 16) (N := some 21) #[Y,Y,Y,Y,U,Y,Y,Y,Y,U,Y,Y,Y,Y,U,Y,Y,Y,U,U,U,U,U,U] HT_ HW_ hHeld ?_
 refine aY (i := 18) (N := some 23) #[Y,Y,Y,Y,U,Y,Y,Y,Y,U,Y,Y,Y,Y,U,Y,Y,Y,Y,U,U,U,U,U] HT_ HW_ hHeld ?_
 refine one_ (i := 4) (N := some 9) #[Y,Y,Y,Y,Y,Y,Y,Y,Y,U,Y,Y,Y,Y,U,Y,Y,Y,Y,U,U,U,U,U] rfl rfl (one_of HT_.out (by kernel_rfl)) (by decide) (fun K hK => ?_)
 refine goes_ Try.func125 (by kernel_rfl) rfl #[.int .i64 a0_0, .int .i64 a1_0] (by rfl) rfl rfl xR ?_
 with_reducible refine (cmp_Compare_int.calls a0_0 a1_0 t321 _ A3.out).mono ?_
 rintro e w' ⟨rfl, ⟨nd, rfl⟩⟩
 refine ⟨_, rfl, ?_⟩
 refine hK.out _ _ ⟨cI BK319.out 0, cI BK319.out 1, cI BK319.out 2, cI BK319.out 3, cI BK320.out 0, cI BK320.out 1, cI BK320.out 2, cI BK320.out 3⟩ (fun hHeld => ?_)
 clear hK K
 refine norm_ (a' := ?_) ?_ ?_
 rotate_left
 ·show Act.put _ (some 9) _ = _
  simp only [Act.put, sA, sZ, sS, i64_w, i32_w]
  rfl
 refine one_ (i := 9) (N := some 14) #[Y,Y,Y,Y,Y,Y,Y,Y,Y,Y,Y,Y,Y,Y,U,Y,Y,Y,Y,U,U,U,U,U] rfl rfl (one_of HT_.out (by kernel_rfl)) (by decide) (fun K hK => ?_)
 refine goes_ Try.func125 (by kernel_rfl) rfl #[.int .i64 a0_1, .int .i64 a1_1] (by rfl) rfl rfl xR ?_
 with_reducible refine (cmp_Compare_int.calls a0_1 a1_1 t322 _ A4.out).mono ?_
 rintro e w' ⟨rfl, ⟨nd, rfl⟩⟩
 refine ⟨_, rfl, ?_⟩
 refine hK.out _ _ ⟨cI BK319.out 0, cI BK319.out 1, cI BK319.out 2, cI BK319.out 3, cI BK320.out 0, cI BK320.out 1, cI BK320.out 2, cI BK320.out 3⟩ (fun hHeld => ?_)
 clear hK K
 refine norm_ (a' := ?_) ?_ ?_
 rotate_left
 ·show Act.put _ (some 14) _ = _
  simp only [Act.put, sA, sZ, sS, i64_w, i32_w]
  rfl
 refine one_ (i := 14) (N := some 19) #[Y,Y,Y,Y,Y,Y,Y,Y,Y,Y,Y,Y,Y,Y,Y,Y,Y,Y,Y,U,U,U,U,U] rfl rfl (one_of HT_.out (by kernel_rfl)) (by decide) (fun K hK => ?_)
 refine goes_ Try.func125 (by kernel_rfl) rfl #[.int .i64 a0_2, .int .i64 a1_2] (by rfl) rfl rfl xR ?_
 with_reducible refine (cmp_Compare_int.calls a0_2 a1_2 t323 _ A5.out).mono ?_
 rintro e w' ⟨rfl, ⟨nd, rfl⟩⟩
 refine ⟨_, rfl, ?_⟩
 refine hK.out _ _ ⟨cI BK319.out 0, cI BK319.out 1, cI BK319.out 2, cI BK319.out 3, cI BK320.out 0, cI BK320.out 1, cI BK320.out 2, cI BK320.out 3⟩ (fun hHeld => ?_)
 clear hK K
 refine norm_ (a' := ?_) ?_ ?_
 rotate_left
 ·show Act.put _ (some 19) _ = _
  simp only [Act.put, sA, sZ, sS, i64_w, i32_w]
  rfl
 refine one_ (i := 19) (N := some 24) #[Y,Y,Y,Y,Y,Y,Y,Y,Y,Y,Y,Y,Y,Y,Y,Y,Y,Y,Y,Y,U,U,U,U] rfl rfl (one_of HT_.out (by kernel_rfl)) (by decide) (fun K hK => ?_)
 refine goes_ Try.func125 (by kernel_rfl) rfl #[.int .i64 a0_3, .int .i64 a1_3] (by rfl) rfl rfl xR ?_
 with_reducible refine (cmp_Compare_int.calls a0_3 a1_3 t324 _ A6.out).mono ?_
 rintro e w' ⟨rfl, ⟨nd, rfl⟩⟩
 refine ⟨_, rfl, ?_⟩
 refine hK.out _ _ ⟨cI BK319.out 0, cI BK319.out 1, cI BK319.out 2, cI BK319.out 3, cI BK320.out 0, cI BK320.out 1, cI BK320.out 2, cI BK320.out 3⟩ (fun hHeld => ?_)
 clear hK K
 refine norm_ (a' := ?_) ?_ ?_
 rotate_left
 ·show Act.put _ (some 24) _ = _
  simp only [Act.put, sA, sZ, sS, i64_w, i32_w]
  rfl
 refine one_ (i := 20) (N := some 25) #[Y,Y,Y,Y,Y,Y,Y,Y,Y,Y,Y,Y,Y,Y,Y,Y,Y,Y,Y,Y,Y,U,U,U] rfl rfl (one_of HT_.out (by kernel_rfl)) (by decide) (fun K hK => ?_)
 refine Kd.R_lit_step (Kd.int .i64) _ 3 ?hg (N := 25) ?hd (xs := ([t321, t322, t323, t324] : List Int)) (inner := [.int .i64 t321, .int .i64 t322, .int .i64 t323, .int .i64 t324]) (ok := fun _ => True) (okp := fun _ => True) ?hr ?hp (fun _ hk => hk) trivial (Below.refl _ _) (Nat.le_refl _) (by simp) ?_; (case hd => rfl); (case hg => rfl); (case hr => first | (go_simp; done) | (go_simp; rfl)); (case hp => exact (Reps.one (show Kd.M (Kd.int .i64) _ _ _ t321 [.int .i64 t321] from rfl) (Reps.one (show Kd.M (Kd.int .i64) _ _ _ t322 [.int .i64 t322] from rfl) (Reps.one (show Kd.M (Kd.int .i64) _ _ _ t323 [.int .i64 t323] from rfl) (Reps.one (show Kd.M (Kd.int .i64) _ _ _ t324 [.int .i64 t324] from rfl) (Reps.none _ _))))))
 intro v326 w11 ho12 hb hg_ hnew_
 clear hg_ hnew_
 (first | rw [← Ny325.out] at ho12 | (simp only [Int.reduceToNat] at ho12; rw [← Ny325.out] at ho12))
 have HO327 := aM (Kd.R_lower ho12 (below_size (bl HB.out)))
 replace BK319 := aM (bB (bk BK319.out) hb)
 replace BK320 := aM (bB (bk BK320.out) hb)
 replace HB := aM (bS (bl HB.out) hb)
 clear hb ho12
 obtain ⟨Ao13, co13, eo13⟩ := Kd.R_slice HO327.out
 (first | subst eo13 | (injection eo13 with f1_ f2_ f3_; have f4_ := f1_.symm; have f5_ := f3_.symm; clear f1_ f2_ f3_; subst f4_; subst f5_))
 refine hK.out _ _ ⟨cI BK319.out 0, cI BK319.out 1, cI BK319.out 2, cI BK319.out 3, cI BK320.out 0, cI BK320.out 1, cI BK320.out 2, cI BK320.out 3⟩ (fun hHeld => ?_)
 clear hK K
 refine norm_ (a' := ?_) ?_ ?_
 rotate_left
 ·show Act.put _ (some 25) _ = _
  simp only [Act.put, sA, sZ, sS, i64_w, i32_w]
  rfl
 refine one_ (i := 21) (N := some 26) #[Y,Y,Y,Y,Y,Y,Y,Y,Y,Y,Y,Y,Y,Y,Y,Y,Y,Y,Y,Y,Y,Y,U,U] rfl rfl (one_of HT_.out (by kernel_rfl)) (by decide) (fun K hK => ?_)
 refine goes_ Try.func124 (by kernel_rfl) rfl #[.slice Ao13 y325.length co13] (by rfl) rfl rfl xR ?_
 with_reducible refine (cmp_Or_int.calls k _ _ y325 t328 _ ?side1 ?side2 A7.out).mono ?_
 (case side1 => repeat (first | exact (Kd.R_reads' HO327.out).2.2 | (with_reducible refine Kd.C_alloc ?_ _) | (with_reducible refine Kd.C_drewN ?_ _) | (with_reducible refine Kd.C_drew ?_)))
 (case side2 => exact (Kd.R_reads' HO327.out).2.1)
 rintro e w' ⟨rfl, ⟨nd, rfl⟩⟩
 refine ⟨_, rfl, ?_⟩
 refine hK.out _ _ ⟨cI BK319.out 0, cI BK319.out 1, cI BK319.out 2, cI BK319.out 3, cI BK320.out 0, cI BK320.out 1, cI BK320.out 2, cI BK320.out 3⟩ (fun hHeld => ?_)
 clear hK K
 refine norm_ (a' := ?_) ?_ ?_
 rotate_left
 ·show Act.put _ (some 26) _ = _
  simp only [Act.put, sA, sZ, sS, i64_w, i32_w]
  rfl
 refine pY (i := 22) (N := some 27) #[Y,Y,Y,Y,Y,Y,Y,Y,Y,Y,Y,Y,Y,Y,Y,Y,Y,Y,Y,Y,Y,Y,Y,U] HT_ ?_
 refine pY (i := 23) (N := some 4) #[Y,Y,Y,Y,Y,Y,Y,Y,Y,Y,Y,Y,Y,Y,Y,Y,Y,Y,Y,Y,Y,Y,Y,Y] HT_ ?_
 refine done_ (done_of HT_.out (by kernel_rfl)) ?_
 try go_wp2
 go_ret
 exact ⟨xW, bl HB.out⟩

end Go.Proofs.Ythmijfekdeagpaa.PFnExactDecide

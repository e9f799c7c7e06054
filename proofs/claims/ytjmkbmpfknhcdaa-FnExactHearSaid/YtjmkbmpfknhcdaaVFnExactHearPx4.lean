/- Of the proof of laws.FnExactHear: a part. No condition beyond what its theorems say. -/
import Derived.Lib.AppendZerosOnto
import Derived.Test.YtjmkbmpfknhcdaaVFnExactHearPx0
import Derived.Test.YtjmkbmpfknhcdaaVFnExactHearPx3
namespace Go.Proofs.Ytjmkbmpfknhcdaa.PFnExactHear
open Go.RowKit Go.Proofs.YtjmkbmpfknhcdaaW.PrintWords Go.Proofs.YtjmkbmpfknhcdaaW.PrintLast Go.Proofs.YtjmkbmpfknhcdaaW.PrintMore
attribute [local go_sem] max2_int min2_int max_two min_two max_three min_three max_four min_four   -- for this text's walks alone
set_option linter.unusedVariables false
set_option linter.unusedSimpArgs false

def laws_toHeardS.l0 : Nat → List (S94) → List (S90) → Int → Option ((List (S90)))
 | 0, _, _, _ => none
 | k + 1, x0, x3, x4 => if x4 < (x0.length : Int) then (if 0 ≤ x4 then ((laws_toHeard.f ((rd_T94 x0 x4).f0) ((rd_T94 x0 x4).f1) ((rd_T94 x0 x4).f2) ((rd_T94 x0 x4).f3)).bind fun bt164 => (if x4 < (x3.length : Int) then (laws_toHeardS.l0 k x0 (x3.set (x4 : Int).toNat (⟨bt164.1, bt164.2.1, bt164.2.2.1, bt164.2.2.2⟩ : S90)) (wrap64 (x4 + 1))) else (none))) else (none)) else (some x3)
def laws_toHeardS.f (k : Nat) (l0 : List (S94)) : Option ((List (S90))) := if 0 ≤ (l0.length : Int) then (if ((l0.length : Int) : Int).toNat ≤ 8796093022208 then (laws_toHeardS.l0 k l0 (List.replicate ((l0.length : Int) : Int).toNat z90) 0) else (none)) else (none)
theorem laws_toHeardS.mono_l : ∀ k, (∀ y0 y1 y2, LeO (laws_toHeardS.l0 k y0 y1 y2) (laws_toHeardS.l0 (k + 1) y0 y1 y2))
 | 0 => fun _ _ _ r h => by simp [laws_toHeardS.l0] at h
 | k + 1 => by
  have ih0 := laws_toHeardS.mono_l k
  ·intro y0 y1 y2
   unfold laws_toHeardS.l0
   repeat' first
   | (with_reducible exact ih0 _ _ _)
   | (with_reducible exact LeO.refl _)
   | (with_reducible exact LeO.none _)
   | (with_reducible refine LeO.ite ?_ ?_)
   | (with_reducible refine LeO.bind ?_ (fun _ => ?_))
   | exact ih0 _ _ _
   | exact LeO.none _
   | refine LeO.ite ?_ ?_
   | refine LeO.bind ?_ (fun _ => ?_)
theorem laws_toHeardS.mono : ∀ a0 k, LeO (laws_toHeardS.f k a0) (laws_toHeardS.f (k + 1) a0) := by
 intro a0 k
 have ih0 := laws_toHeardS.mono_l k
 unfold laws_toHeardS.f
 repeat' first
   | (with_reducible exact ih0 _ _ _)
   | (with_reducible exact LeO.refl _)
   | (with_reducible exact LeO.none _)
   | (with_reducible refine LeO.ite ?_ ?_)
   | (with_reducible refine LeO.bind ?_ (fun _ => ?_))
   | exact ih0 _ _ _
   | exact LeO.none _
   | refine LeO.ite ?_ ?_
   | refine LeO.bind ?_ (fun _ => ?_)
set_option maxHeartbeats 60000000 in
set_option maxRecDepth 100000 in
theorem laws_toHeardS.calls (k : Nat) (A0 : Option Addr) (c0 : Nat) (l0 : List (S94)) (r : List (S90)) (w : World) (hr0 : Kd.C k94 w A0 l0.length l0) (hc0 : l0.length ≤ c0) (h : laws_toHeardS.f k l0 = some r) :
  Calls Try.prog 25 #[.slice A0 l0.length c0] w fun e w' => ∃ v0_ : Value, e = .returned (v0_) ∧ Kd.R k90 90 w' w.heap.size (fun _ => True) v0_ r ∧ Below w.heap.size w w' := by
 have hu94 := Try.underlying94
 have hu90 := Try.underlying90
 have HR0 := aM hr0
 have HC0 := aM hc0
 clear hr0 hc0
 have HB := aM (Below.refl w.heap.size w)
 have H : (if 0 ≤ (l0.length : Int) then (if ((l0.length : Int) : Int).toNat ≤ 8796093022208 then (laws_toHeardS.l0 k l0 (List.replicate ((l0.length : Int) : Int).toNat z90) 0) else (none)) else (none)) = some r := h
 clear h
 by_cases c2 : 0 ≤ (l0.length : Int)
 case neg =>
  rw [if_neg c2] at H
  exact absurd H (by simp)
 rw [if_pos c2] at H
 have c2b0 := eq_true c2
 have c2b1 : decide (0 ≤ (l0.length : Int)) = true := decide_eq_true c2
 clear c2
 by_cases c3 : ((l0.length : Int) : Int).toNat ≤ 8796093022208
 case neg =>
  rw [if_neg c3] at H
  exact absurd H (by simp)
 rw [if_pos c3] at H
 have c3b0 := eq_true c3
 have c3b1 : decide (((l0.length : Int) : Int).toNat ≤ 8796093022208) = true := decide_eq_true c3
 clear c3
 obtain ⟨y160, hy160⟩ : ∃ y_ : List (S90), y_ = (List.replicate ((l0.length : Int) : Int).toNat z90) := ⟨_, rfl⟩
 replace H : (laws_toHeardS.l0 k l0 y160 0) = some r := by first | (rw [hy160]; with_reducible exact H) | (have H2_ := (Option.bind_some _ _).symm.trans H; rw [hy160]; with_reducible exact H2_) | (have H2_ := (Option.bind_some _ _).symm.trans H; with_reducible exact H2_) | with_reducible exact H | (rw [hy160]; exact H) | exact H
 have Ny160 := aM hy160
 clear hy160
 have H' := aM H
 clear H
 go_enter Try.func25, Try.ntmps25
 go_wp2_with (first | ((with_reducible refine gate_dst (N := 7) rfl ?_); refine Kd.R_make k90 _ 90 rfl (N := 7) rfl 38 _ _ rfl (l0.length : Int) rfl rfl Try.underlying38 (.agg #[(.int .i64 0), (.int .i64 0), (.int .i64 0), (.int .i64 0)]) 32 info90 rfl (by decide) (by omega) z90 (ok := fun _ => True) (okp := fun _ => True) (k90_mkM _ _ _ z90 ) (fun _ hk => hk) trivial (of_decide_eq_true (by first | (with_reducible assumption) | assumption)) (Nat.le_trans (Nat.mul_le_mul_right _ (of_decide_eq_true (by first | (with_reducible assumption) | assumption) : (l0.length : Int).toNat ≤ 8796093022208)) (by omega)) (Below.refl _ _) (Nat.le_refl _) ?_; intro v161 w4 ho5 hb hg_ hnew_; clear hg_ hnew_; (first | rw [← Ny160.out] at ho5 | (simp only [Int.reduceToNat] at ho5; rw [← Ny160.out] at ho5)); have n0_ := aM (Kd.R_lower ho5 (below_size (bl HB.out))); have n1_ := aM (bS (bl HB.out) hb); clear HB; have HO162 := n0_; have HB := n1_; clear n0_ n1_; clear hb ho5))
 go_loopg [4] k (fun kq v4 w' => ∃ (x3_1 : List (S90)) (x4_1 : Int), v4 = .int .i64 x4_1 ∧ Aside0 (laws_toHeardS.l0 kq l0 x3_1 x4_1 = some r) ∧ Aside0 (kq ≤ k) ∧ Aside0 (Kd.R k90 90 w' w.heap.size (fun _ => True) v161 x3_1) ∧ Aside0 (Below w.heap.size w w'))
 case atStart => exact ⟨(y160), (0), xE, H', ⟨Nat.le_refl _⟩, ⟨kr HO162.out⟩, ⟨bl HB.out⟩⟩
 case round =>
  clear H'
  try clear c2
  try clear c2b0
  try clear c2b1
  try clear p2
  try clear c3
  try clear c3b0
  try clear c3b1
  obtain ⟨x3_1, x4_1, rfl, HA, HK1, HO_3, HB⟩ := hrel
  cases gk with
  | zero => exact absurd HA.out (by simp [laws_toHeardS.l0])
  | succ k1 =>
   have H := HA.out
   clear HA
   simp only [laws_toHeardS.l0] at H
   by_cases c6 : x4_1 < (l0.length : Int)
   case neg =>
    rw [if_neg c6] at H
    have c6b0 : decide (x4_1 < (l0.length : Int)) = false := decide_eq_false c6
    clear c6
    obtain rfl := Option.some.inj H
    go_wp2
    go_ret
    exact ⟨_, xW, by (with_reducible repeat (first | apply Kd.R_alloc | apply Kd.R_drewN | apply Kd.R_drew)); exact HO_3.out, bl HB.out⟩
   rw [if_pos c6] at H
   have c6b0 : decide (x4_1 < (l0.length : Int)) = true := decide_eq_true c6
   clear c6
   by_cases c7 : 0 ≤ x4_1
   case neg =>
    rw [if_neg c7] at H
    exact absurd H (by simp)
   rw [if_pos c7] at H
   have c7b0 : decide (0 ≤ x4_1) = true := decide_eq_true c7
   clear c7
   replace H := Option.bind_eq_some_iff.mp H
   obtain ⟨⟨t164, t165, t166, t167⟩, A80, H⟩ := H
   replace H : (if x4_1 < (x3_1.length : Int) then (laws_toHeardS.l0 k1 l0 (x3_1.set (x4_1 : Int).toNat (⟨t164, t165, t166, t167⟩ : S90)) (wrap64 (x4_1 + 1))) else (none)) = some r := H
   have A8 := aM A80
   clear A80
   by_cases c9 : x4_1 < (x3_1.length : Int)
   case neg =>
    rw [if_neg c9] at H
    exact absurd H (by simp)
   rw [if_pos c9] at H
   have c9b0 : decide (x4_1 < (x3_1.length : Int)) = true := decide_eq_true c9
   clear c9
   obtain ⟨y168, hy168⟩ : ∃ y_ : List (S90), y_ = (x3_1.set (x4_1 : Int).toNat (⟨t164, t165, t166, t167⟩ : S90)) := ⟨_, rfl⟩
   replace H : (laws_toHeardS.l0 k1 l0 y168 (wrap64 (x4_1 + 1))) = some r := by first | (rw [hy168]; with_reducible exact H) | (have H2_ := (Option.bind_some _ _).symm.trans H; rw [hy168]; with_reducible exact H2_) | (have H2_ := (Option.bind_some _ _).symm.trans H; with_reducible exact H2_) | with_reducible exact H | (rw [hy168]; exact H) | exact H
   have Ny168 := aM hy168
   clear hy168
   have H' := aM H
   clear H
   have p163 : 0 ≤ (x4_1 : Int) := of_decide_eq_true (by first | (with_reducible assumption) | assumption)
   have q163 : x4_1 < (l0.length : Int) := of_decide_eq_true (by first | (with_reducible assumption) | assumption)
   obtain ⟨ad163, e163, hx163_0, hx163_1, hx163_2, hx163_3⟩ := at_T94 HR0.out x4_1 p163 q163
   cases e163
   replace hx163_0 := (HB.out.cell (World.block_lt_of_cell? w _ hx163_0)).trans hx163_0
   replace hx163_1 := (HB.out.cell (World.block_lt_of_cell? w _ hx163_1)).trans hx163_1
   replace hx163_2 := (HB.out.cell (World.block_lt_of_cell? w _ hx163_2)).trans hx163_2
   replace hx163_3 := (HB.out.cell (World.block_lt_of_cell? w _ hx163_3)).trans hx163_3
   replace p163 := eq_true p163
   replace q163 := eq_true q163
   go_wp2_with (first | ((with_reducible refine gate_callee (f := 74) rfl ?_); refine goesL_ (some 20) rfl rfl Try.func74 (by kernel_rfl) rfl #[.agg #[.int .i64 ((rd_T94 l0 x4_1).f0), .int .i64 ((rd_T94 l0 x4_1).f1), .int .i64 ((rd_T94 l0 x4_1).f2), .int .i64 ((rd_T94 l0 x4_1).f3)]] rfl xR ?_; (with_reducible refine (laws_toHeard.calls ((rd_T94 l0 x4_1).f0) ((rd_T94 l0 x4_1).f1) ((rd_T94 l0 x4_1).f2) ((rd_T94 l0 x4_1).f3) t164 t165 t166 t167 _ A8.out).mono ?_); rintro e w11 ⟨rfl, hb⟩; refine ⟨_, rfl, ?_⟩; have n0_ := aM (kB (kr HO_3.out) hb); have n1_ := aM (bS (bl HB.out) hb); clear HO_3 HB; have HO_3 := n0_; have HB := n1_; clear n0_ n1_; (try clear hb); have p10 : 0 ≤ (x4_1 : Int) := of_decide_eq_true (by first | (with_reducible assumption) | assumption); have q10 : (x4_1 : Int) < ((x3_1.length : Int) : Int) := of_decide_eq_true (by first | (with_reducible assumption) | assumption); obtain ⟨go10, co10, eo10, gb10, gl10, cl10, HG10⟩ := Kd.R_form HO_3.out (by omega); (first | cases eo10 | (injection eo10 with ea_ en_ ec_; (first | subst ea_ | (injection ea_ with ea_; subst ea_)); subst ec_; clear en_)); have GB10 := aM gb10; have GG10 := aM HG10; clear gb10 gl10 HG10; obtain ⟨ce10, hcl10, hM10, hcc10, hfr10⟩ := Kd.R_elem HO_3.out z90 (x4_1 : Int) p10 q10; obtain rfl := k90_openM hM10; have hx10_0 : w11.cell? ⟨go10, (x4_1 : Int).toNat * 4, none⟩ = some (.int .i64 ((rd_T90 x3_1 x4_1).f0)) := hcc10 0 _ rfl; have hx10_1 : w11.cell? ⟨go10, (x4_1 : Int).toNat * 4 + 1, none⟩ = some (.int .i64 ((rd_T90 x3_1 x4_1).f1)) := hcc10 1 _ rfl; have hx10_2 : w11.cell? ⟨go10, (x4_1 : Int).toNat * 4 + 2, none⟩ = some (.int .i64 ((rd_T90 x3_1 x4_1).f2)) := hcc10 2 _ rfl; have hx10_3 : w11.cell? ⟨go10, (x4_1 : Int).toNat * 4 + 3, none⟩ = some (.int .i64 ((rd_T90 x3_1 x4_1).f3)) := hcc10 3 _ rfl; have hf10_0 : w11.frozen? ⟨go10, (x4_1 : Int).toNat * 4, none⟩ = false := hfr10 0; have hf10_1 : w11.frozen? ⟨go10, (x4_1 : Int).toNat * 4 + 1, none⟩ = false := hfr10 1; have hf10_2 : w11.frozen? ⟨go10, (x4_1 : Int).toNat * 4 + 2, none⟩ = false := hfr10 2; have hf10_3 : w11.frozen? ⟨go10, (x4_1 : Int).toNat * 4 + 3, none⟩ = false := hfr10 3; clear hcl10 hcc10 hfr10 hM10; replace p10 := eq_true p10; replace q10 := eq_true q10; have HX12 := aM (show Kd.R k90 90 w11 w.heap.size (fun _ => True) (.slice (some ⟨go10, 0, none⟩) x3_1.length co10) x3_1 from (kr HO_3.out)); obtain ⟨ce12, hcl12, hM12, hcc12, hfr12⟩ := Kd.R_elem HX12.out z90 (x4_1 : Int) (of_decide_eq_true (by first | (with_reducible assumption) | assumption)) (by have h_ : (x4_1 : Int) < ((x3_1.length : Int) : Int) := of_decide_eq_true (by first | (with_reducible assumption) | assumption); first | exact h_ | (have e_ := (Kd.R_reads' HO_3.out).1; omega) | simpa using h_); obtain rfl := k90_openM hM12; have HP12 := Kd.R_seg HX12.out (x4_1 : Int) (of_decide_eq_true (by first | (with_reducible assumption) | assumption)) (by have h_ : (x4_1 : Int) < ((x3_1.length : Int) : Int) := of_decide_eq_true (by first | (with_reducible assumption) | assumption); first | exact h_ | (have e_ := (Kd.R_reads' HO_3.out).1; omega) | simpa using h_) (seg := [.int .i64 t164, .int .i64 t165, .int .i64 t166, .int .i64 t167]) (j := 0) hcl12 hcc12 (show 4 ≤ 4 from by decide) (x' := (⟨t164, t165, t166, t167⟩ : S90)) (k90_mkM _ _ _ (⟨t164, t165, t166, t167⟩ : S90) ) (fun _ hk => hk); have hx12_0 := hcc12 0 _ rfl; (try simp only [show (k90).sz = 4 from rfl, Nat.mul_one, Nat.add_zero] at hx12_0); have hf12_0 := hfr12 0; (try simp only [show (k90).sz = 4 from rfl, Nat.mul_one, Nat.add_zero] at hf12_0); have hx12_1 := hcc12 1 _ rfl; (try simp only [show (k90).sz = 4 from rfl, Nat.mul_one, Nat.add_zero] at hx12_1); have hf12_1 := hfr12 1; (try simp only [show (k90).sz = 4 from rfl, Nat.mul_one, Nat.add_zero] at hf12_1); have hx12_2 := hcc12 2 _ rfl; (try simp only [show (k90).sz = 4 from rfl, Nat.mul_one, Nat.add_zero] at hx12_2); have hf12_2 := hfr12 2; (try simp only [show (k90).sz = 4 from rfl, Nat.mul_one, Nat.add_zero] at hf12_2); have hx12_3 := hcc12 3 _ rfl; (try simp only [show (k90).sz = 4 from rfl, Nat.mul_one, Nat.add_zero] at hx12_3); have hf12_3 := hfr12 3; (try simp only [show (k90).sz = 4 from rfl, Nat.mul_one, Nat.add_zero] at hf12_3); clear hcl12 hcc12 hfr12 hM12) | ((with_reducible refine gate_store (t := 90) (p := 21) rfl ?_); refine store_event (t := 90) (p := 21) (v := ?vo_w13) (w1 := ((((w11.setCell ⟨go10, (x4_1 : Int).toNat * 4, none⟩ (.int .i64 t164)).setCell ⟨go10, (x4_1 : Int).toNat * 4 + 1, none⟩ (.int .i64 t165)).setCell ⟨go10, (x4_1 : Int).toNat * 4 + 2, none⟩ (.int .i64 t166)).setCell ⟨go10, (x4_1 : Int).toNat * 4 + 3, none⟩ (.int .i64 t167))) ?hg ?ho ?hn ?hr ?_; (case ho => rfl); (case hg => rfl); (case hn => rfl); (case hr => first | (go_simp; done) | (go_simp; rfl) | (obtain ⟨A_, c_, e_⟩ := Kd.R_slice HO_3.out; subst e_; (first | (go_simp; done) | (go_simp; rfl))) | (obtain ⟨A_, c_, e_⟩ := Kd.S_slice HO_3.out; subst e_; (first | (go_simp; done) | (go_simp; rfl)))); intro w13 hw; have hg : w11.grownBy w13 (some go10) := (by rw [hw]; exact HP12.2); have hp_ : Kd.R k90 90 w13 w.heap.size (fun _ => True) (.slice (some ⟨go10, 0, none⟩) x3_1.length co10) y168 := (by rw [hw, Ny168.out]; exact HP12.1); clear HP12; have n0_ := aM (hp_); have n1_ := aM ((by rw [hw]; exact below_set (below_set (below_set (below_set (HB.out) GB10.out) GB10.out) GB10.out) GB10.out : Below w.heap.size w w13)); clear HO_3 HB; have HO_3 := n0_; have HB := n1_; clear n0_ n1_; clear hg hw hp_))
   go_roundg k1
   case measure => have := HK1.out; omega
   case rel => exact ⟨(y168), (wrap64 (x4_1 + 1)), xE, H', ⟨by have := HK1.out; omega⟩, ⟨kr HO_3.out⟩, ⟨bl HB.out⟩⟩

def impl_Heard_75.f (l0 : List (S90)) : Option ((List (S90))) := (some (([] : List (S90)) : List (S90))).bind fun y169 => (if y169.length + l0.length < 4398046511104 then (some (y169 ++ l0)) else (none))
set_option maxHeartbeats 60000000 in
set_option maxRecDepth 100000 in
theorem impl_Heard_75.calls (A0 : Option Addr) (c0 : Nat) (l0 : List (S90)) (r : List (S90)) (w : World) (hr0 : Kd.C k90 w A0 l0.length l0) (hc0 : l0.length ≤ c0) (h : impl_Heard_75.f l0 = some r) :
  Calls Try.prog 75 #[.slice A0 l0.length c0] w fun e w' => ∃ v0_ : Value, e = .returned (v0_) ∧ Kd.R k90 90 w' w.heap.size (fun _ => True) v0_ r ∧ Below w.heap.size w w' := by
 have qn : ∀ (w : World) (a : Option Addr) (n c n' c' : Nat), (binOp .eql 38 (.slice a n c) (.slice none n' c')).run Try.prog w = .ok (.bool a.isNone) w := fun w a n c n' c' => Lib.run_eql_slice_nil w _ _ a n c n' c' Try.underlying38
 by_cases hnil : A0 = none
 ·have hl : l0 = [] := by
   have hc := hr0.2.2
   rw [hnil] at hc
   cases l0 with
   | nil => rfl
   | cons x t => obtain ⟨_, hx, _⟩ := hc (by simp); cases hx
  subst hnil
  subst hl
  have hr : r = [] := by simpa [impl_Heard_75.f] using h.symm
  subst hr
  clear hr0 h
  go_enter Try.func75, Try.ntmps75
  go_wp2
  go_ret
  exact ⟨_, rfl, Kd.R_nil _ _ _ _ _, Below.refl _ _⟩
 have hsome : A0.isNone = false := by cases A0 <;> simp at hnil ⊢
 clear hnil
 have HR0 := aM hr0
 have HC0 := aM hc0
 clear hr0 hc0
 have HB := aM (Below.refl w.heap.size w)
 have H : ((some (([] : List (S90)) : List (S90))).bind fun y169 => (if y169.length + l0.length < 4398046511104 then (some (y169 ++ l0)) else (none))) = some r := h
 clear h
 obtain ⟨y169, hy169⟩ : ∃ y_ : List (S90), y_ = (([] : List (S90))) := ⟨_, rfl⟩
 replace H : (if y169.length + l0.length < 4398046511104 then (some (y169 ++ l0)) else (none)) = some r := by first | (rw [hy169]; with_reducible exact H) | (have H2_ := (Option.bind_some _ _).symm.trans H; rw [hy169]; with_reducible exact H2_) | (have H2_ := (Option.bind_some _ _).symm.trans H; with_reducible exact H2_) | with_reducible exact H | (rw [hy169]; exact H) | exact H
 have Ny169 := aM hy169
 clear hy169
 by_cases c2 : y169.length + l0.length < 4398046511104
 case neg =>
  rw [if_neg c2] at H
  exact absurd H (by simp)
 rw [if_pos c2] at H
 have LMc2 := aM c2
 clear c2
 obtain ⟨y172, hy172⟩ : ∃ y_ : List (S90), y_ = (y169 ++ l0) := ⟨_, rfl⟩
 replace H : (some y172) = some r := by first | (rw [hy172]; with_reducible exact H) | (have H2_ := (Option.bind_some _ _).symm.trans H; rw [hy172]; with_reducible exact H2_) | (have H2_ := (Option.bind_some _ _).symm.trans H; with_reducible exact H2_) | with_reducible exact H | (rw [hy172]; exact H) | exact H
 have Ny172 := aM hy172
 clear hy172
 obtain rfl := Option.some.inj H
 go_enter Try.func75, Try.ntmps75
 go_wp2_with (first | ((with_reducible refine gate_dst (N := 5) rfl ?_); refine Kd.R_lit k90 _ 90 ?hg (N := 5) ?hd (xs := ([] : List (S90))) (inner := []) (ok := fun _ => True) (okp := fun _ => True) ?hr ?hp (fun _ hk => hk) trivial (Below.refl _ _) (Nat.le_refl _) (by simp) ?_; (case hd => rfl); (case hg => rfl); (case hr => first | (go_simp; done) | (go_simp; rfl) | (obtain ⟨A_, c_, e_⟩ := Kd.R_slice HO171.out; subst e_; (first | (go_simp; done) | (go_simp; rfl))) | (obtain ⟨A_, c_, e_⟩ := Kd.S_slice HO171.out; subst e_; (first | (go_simp; done) | (go_simp; rfl)))); (case hp => exact (Reps.none _ _)); intro v170 w3 ho4 hb hg_ hnew_; clear hg_ hnew_; (first | rw [← Ny169.out] at ho4 | (simp only [Int.reduceToNat] at ho4; rw [← Ny169.out] at ho4)); have n0_ := aM (Kd.R_lower ho4 (below_size (bl HB.out))); have n1_ := aM (bS (bl HB.out) hb); clear HB; have HO171 := n0_; have HB := n1_; clear n0_ n1_; clear hb ho4) | ((with_reducible refine gate_builtin (b := .append) (xs := #[.tmp 5, .tmp 6]) rfl ?_); at_builtin; refine Kd.R_append_rows k90 (w0 := w) w.heap.size rfl (.tmp 5) (.tmp 6) 38 90 (.agg #[(.int .i64 0), (.int .i64 0), (.int .i64 0), (.int .i64 0)]) 32 rfl Try.underlying38 info90 rfl (by decide) (by omega) v170 y169 l0 _ _ _ (fun _ => True) (fun _ => False) rfl rfl ?aO ?aR (fun _ _ h => h) (fun _ h => h.elim) ?aF ?aB ?aS ?aL ?_; (case aR => repeat (first | exact (cB HR0.out HB.out) | (with_reducible refine Kd.C_alloc ?_ _) | (with_reducible refine Kd.C_drewN ?_ _) | (with_reducible refine Kd.C_drew ?_))); (case aB => exact (bl HB.out)); (case aF => exact (fun _ _ => trivial)); (case aO => exact (kr HO171.out)); (case aS => exact (below_size (bl HB.out))); (case aL => have := LMc2.out; omega); intro v173 w5 ho hb hg hat; rw [← Ny172.out] at ho; have n0_ := aM (hb); have n1_ := aM (ho); clear HB HO171; have HB := n0_; have HO174 := n1_; clear n0_ n1_; clear ho hb hg hat))
 go_ret
 exact ⟨_, xW, by (with_reducible repeat (first | apply Kd.R_alloc | apply Kd.R_drewN | apply Kd.R_drew)); exact HO174.out, bl HB.out⟩

def impl_ahead.f (a0_0 : Int) (a0_1 : Int) (a0_2 : Int) (a0_3 : Int) (a1_0 : Int) (a1_1 : Int) (a1_2 : Int) (a1_3 : Int) : Option (Bool) := if a0_1 < a1_1 then (some true) else (if a0_1 = a1_1 then (some (decide (a0_0 < a1_0))) else (some false))
set_option maxHeartbeats 60000000 in
set_option maxRecDepth 100000 in
theorem impl_ahead.calls (a0_0 : Int) (a0_1 : Int) (a0_2 : Int) (a0_3 : Int) (a1_0 : Int) (a1_1 : Int) (a1_2 : Int) (a1_3 : Int) (r : Bool) (w : World) (h : impl_ahead.f a0_0 a0_1 a0_2 a0_3 a1_0 a1_1 a1_2 a1_3 = some r) :
  Calls Try.prog 76 #[.agg #[.int .i64 a0_0, .int .i64 a0_1, .int .i64 a0_2, .int .i64 a0_3], .agg #[.int .i64 a1_0, .int .i64 a1_1, .int .i64 a1_2, .int .i64 a1_3]] w fun e w' => e = .returned (.bool r) ∧ Below w.heap.size w w' := by
 have hu90 := Try.underlying90
 have HB := aM (Below.refl w.heap.size w)
 have H : (if a0_1 < a1_1 then (some true) else (if a0_1 = a1_1 then (some (decide (a0_0 < a1_0))) else (some false))) = some r := h
 clear h
 by_cases c3 : a0_1 < a1_1
 case pos =>
  rw [if_pos c3] at H
  have c3b0 : decide (a0_1 < a1_1) = true := decide_eq_true c3
  clear c3
  obtain rfl := Option.some.inj H
  go_enter Try.func76, Try.ntmps76
  go_wp2_with (first | ((with_reducible refine gate_dst (N := 2) rfl ?_); refine box_event ?hg (N := 2) ?hd (cs := #[.int .i64 a0_0, .int .i64 a0_1, .int .i64 a0_2, .int .i64 a0_3]) (t := 90) ?hr ?_; (case hd => rfl); (case hg => rfl); (case hr => first | (go_simp; done) | (go_simp; rfl)); intro gb175 hg w4 hbox hb; have n0_ := aM (bS (bl HB.out) hb); have n1_ := aM (hbox); have n2_ := aM ((by rw [hg]; exact (below_size (bl HB.out)) : w.heap.size ≤ gb175)); have n3_ := aM ((by rw [hg]; exact (below_size (bl HB.out)) : w.heap.size ≤ gb175)); clear HB; have HB := n0_; have BK175 := n1_; have GW175 := n2_; have GE175 := n3_; clear n0_ n1_ n2_ n3_; clear hb hbox hg) | ((with_reducible refine gate_dst (N := 3) rfl ?_); refine box_event ?hg (N := 3) ?hd (cs := #[.int .i64 a1_0, .int .i64 a1_1, .int .i64 a1_2, .int .i64 a1_3]) (t := 90) ?hr ?_; (case hd => rfl); (case hg => rfl); (case hr => first | (go_simp; done) | (go_simp; rfl)); intro gb176 hg w5 hbox hb; have n0_ := aM (bB (g := gb175) (o := .cells #[.int .i64 a0_0, .int .i64 a0_1, .int .i64 a0_2, .int .i64 a0_3] 90 (0, 0)) (bk BK175.out) hb); have n1_ := aM (bS (bl HB.out) hb); have n2_ := aM (hbox); have n3_ := aM ((by rw [hg]; exact (below_size (bl HB.out)) : w.heap.size ≤ gb176)); have n4_ := aM ((by rw [hg]; exact (below_size (bl HB.out)) : w.heap.size ≤ gb176)); have n5_ := aM ((by rw [hg]; exact Nat.ne_of_lt (blk_lt (g := gb175) (o := .cells #[.int .i64 a0_0, .int .i64 a0_1, .int .i64 a0_2, .int .i64 a0_3] 90 (0, 0)) (bk BK175.out)) : gb175 ≠ gb176)); have n6_ := aM ((by rw [hg]; exact Nat.ne_of_gt (blk_lt (g := gb175) (o := .cells #[.int .i64 a0_0, .int .i64 a0_1, .int .i64 a0_2, .int .i64 a0_3] 90 (0, 0)) (bk BK175.out)) : gb176 ≠ gb175)); clear BK175 HB; have BK175 := n0_; have HB := n1_; have BK176 := n2_; have GW176 := n3_; have GE176 := n4_; have NB175_176 := n5_; have NB176_175 := n6_; clear n0_ n1_ n2_ n3_ n4_ n5_ n6_; clear hb hbox hg; have hnb6 := NB175_176.out; have hnc6 := NB176_175.out; have hcz7_0 := cI BK175.out 0; have hcz7_1 := cI BK175.out 1; have hcz7_2 := cI BK175.out 2; have hcz7_3 := cI BK175.out 3; have hfz7_0 := bF BK175.out 0; have hfz7_1 := bF BK175.out 1; have hfz7_2 := bF BK175.out 2; have hfz7_3 := bF BK175.out 3; have hcz8_0 := cI BK176.out 0; have hcz8_1 := cI BK176.out 1; have hcz8_2 := cI BK176.out 2; have hcz8_3 := cI BK176.out 3; have hfz8_0 := bF BK176.out 0; have hfz8_1 := bF BK176.out 1; have hfz8_2 := bF BK176.out 2; have hfz8_3 := bF BK176.out 3))
  go_ret
  exact ⟨xW, bl HB.out⟩
 rw [if_neg c3] at H
 have c3b0 : decide (a0_1 < a1_1) = false := decide_eq_false c3
 clear c3
 by_cases c9 : a0_1 = a1_1
 case neg =>
  rw [if_neg c9] at H
  have c9b0 : (a0_1 == a1_1) = false := beq_eq_false_iff_ne.mpr c9
  have c9b1 : (a0_1 != a1_1) = true := bne_iff_ne.mpr c9
  obtain rfl := Option.some.inj H
  go_enter Try.func76, Try.ntmps76
  go_wp2_with (first | ((with_reducible refine gate_dst (N := 2) rfl ?_); refine box_event ?hg (N := 2) ?hd (cs := #[.int .i64 a0_0, .int .i64 a0_1, .int .i64 a0_2, .int .i64 a0_3]) (t := 90) ?hr ?_; (case hd => rfl); (case hg => rfl); (case hr => first | (go_simp; done) | (go_simp; rfl)); intro gb175 hg w15 hbox hb; have n0_ := aM (bS (bl HB.out) hb); have n1_ := aM (hbox); have n2_ := aM ((by rw [hg]; exact (below_size (bl HB.out)) : w.heap.size ≤ gb175)); have n3_ := aM ((by rw [hg]; exact (below_size (bl HB.out)) : w.heap.size ≤ gb175)); clear HB; have HB := n0_; have BK175 := n1_; have GW175 := n2_; have GE175 := n3_; clear n0_ n1_ n2_ n3_; clear hb hbox hg) | ((with_reducible refine gate_dst (N := 3) rfl ?_); refine box_event ?hg (N := 3) ?hd (cs := #[.int .i64 a1_0, .int .i64 a1_1, .int .i64 a1_2, .int .i64 a1_3]) (t := 90) ?hr ?_; (case hd => rfl); (case hg => rfl); (case hr => first | (go_simp; done) | (go_simp; rfl)); intro gb176 hg w16 hbox hb; have n0_ := aM (bB (g := gb175) (o := .cells #[.int .i64 a0_0, .int .i64 a0_1, .int .i64 a0_2, .int .i64 a0_3] 90 (0, 0)) (bk BK175.out) hb); have n1_ := aM (bS (bl HB.out) hb); have n2_ := aM (hbox); have n3_ := aM ((by rw [hg]; exact (below_size (bl HB.out)) : w.heap.size ≤ gb176)); have n4_ := aM ((by rw [hg]; exact (below_size (bl HB.out)) : w.heap.size ≤ gb176)); have n5_ := aM ((by rw [hg]; exact Nat.ne_of_lt (blk_lt (g := gb175) (o := .cells #[.int .i64 a0_0, .int .i64 a0_1, .int .i64 a0_2, .int .i64 a0_3] 90 (0, 0)) (bk BK175.out)) : gb175 ≠ gb176)); have n6_ := aM ((by rw [hg]; exact Nat.ne_of_gt (blk_lt (g := gb175) (o := .cells #[.int .i64 a0_0, .int .i64 a0_1, .int .i64 a0_2, .int .i64 a0_3] 90 (0, 0)) (bk BK175.out)) : gb176 ≠ gb175)); clear BK175 HB; have BK175 := n0_; have HB := n1_; have BK176 := n2_; have GW176 := n3_; have GE176 := n4_; have NB175_176 := n5_; have NB176_175 := n6_; clear n0_ n1_ n2_ n3_ n4_ n5_ n6_; clear hb hbox hg; have hnb17 := NB175_176.out; have hnc17 := NB176_175.out; have hcz18_0 := cI BK175.out 0; have hcz18_1 := cI BK175.out 1; have hcz18_2 := cI BK175.out 2; have hcz18_3 := cI BK175.out 3; have hfz18_0 := bF BK175.out 0; have hfz18_1 := bF BK175.out 1; have hfz18_2 := bF BK175.out 2; have hfz18_3 := bF BK175.out 3; have hcz19_0 := cI BK176.out 0; have hcz19_1 := cI BK176.out 1; have hcz19_2 := cI BK176.out 2; have hcz19_3 := cI BK176.out 3; have hfz19_0 := bF BK176.out 0; have hfz19_1 := bF BK176.out 1; have hfz19_2 := bF BK176.out 2; have hfz19_3 := bF BK176.out 3))
  go_ret
  exact ⟨xW, bl HB.out⟩
 rw [if_pos c9] at H
 have c9b0 : (a0_1 == a1_1) = true := beq_iff_eq.mpr c9
 have c9b1 : (a0_1 != a1_1) = false := bne_eq_false_iff_eq.mpr c9
 clear c9
 obtain rfl := Option.some.inj H
 go_enter Try.func76, Try.ntmps76
 go_wp2_with (first | ((with_reducible refine gate_dst (N := 2) rfl ?_); refine box_event ?hg (N := 2) ?hd (cs := #[.int .i64 a0_0, .int .i64 a0_1, .int .i64 a0_2, .int .i64 a0_3]) (t := 90) ?hr ?_; (case hd => rfl); (case hg => rfl); (case hr => first | (go_simp; done) | (go_simp; rfl)); intro gb175 hg w10 hbox hb; have n0_ := aM (bS (bl HB.out) hb); have n1_ := aM (hbox); have n2_ := aM ((by rw [hg]; exact (below_size (bl HB.out)) : w.heap.size ≤ gb175)); have n3_ := aM ((by rw [hg]; exact (below_size (bl HB.out)) : w.heap.size ≤ gb175)); clear HB; have HB := n0_; have BK175 := n1_; have GW175 := n2_; have GE175 := n3_; clear n0_ n1_ n2_ n3_; clear hb hbox hg) | ((with_reducible refine gate_dst (N := 3) rfl ?_); refine box_event ?hg (N := 3) ?hd (cs := #[.int .i64 a1_0, .int .i64 a1_1, .int .i64 a1_2, .int .i64 a1_3]) (t := 90) ?hr ?_; (case hd => rfl); (case hg => rfl); (case hr => first | (go_simp; done) | (go_simp; rfl)); intro gb176 hg w11 hbox hb; have n0_ := aM (bB (g := gb175) (o := .cells #[.int .i64 a0_0, .int .i64 a0_1, .int .i64 a0_2, .int .i64 a0_3] 90 (0, 0)) (bk BK175.out) hb); have n1_ := aM (bS (bl HB.out) hb); have n2_ := aM (hbox); have n3_ := aM ((by rw [hg]; exact (below_size (bl HB.out)) : w.heap.size ≤ gb176)); have n4_ := aM ((by rw [hg]; exact (below_size (bl HB.out)) : w.heap.size ≤ gb176)); have n5_ := aM ((by rw [hg]; exact Nat.ne_of_lt (blk_lt (g := gb175) (o := .cells #[.int .i64 a0_0, .int .i64 a0_1, .int .i64 a0_2, .int .i64 a0_3] 90 (0, 0)) (bk BK175.out)) : gb175 ≠ gb176)); have n6_ := aM ((by rw [hg]; exact Nat.ne_of_gt (blk_lt (g := gb175) (o := .cells #[.int .i64 a0_0, .int .i64 a0_1, .int .i64 a0_2, .int .i64 a0_3] 90 (0, 0)) (bk BK175.out)) : gb176 ≠ gb175)); clear BK175 HB; have BK175 := n0_; have HB := n1_; have BK176 := n2_; have GW176 := n3_; have GE176 := n4_; have NB175_176 := n5_; have NB176_175 := n6_; clear n0_ n1_ n2_ n3_ n4_ n5_ n6_; clear hb hbox hg; have hnb12 := NB175_176.out; have hnc12 := NB176_175.out; have hcz13_0 := cI BK175.out 0; have hcz13_1 := cI BK175.out 1; have hcz13_2 := cI BK175.out 2; have hcz13_3 := cI BK175.out 3; have hfz13_0 := bF BK175.out 0; have hfz13_1 := bF BK175.out 1; have hfz13_2 := bF BK175.out 2; have hfz13_3 := bF BK175.out 3; have hcz14_0 := cI BK176.out 0; have hcz14_1 := cI BK176.out 1; have hcz14_2 := cI BK176.out 2; have hcz14_3 := cI BK176.out 3; have hfz14_0 := bF BK176.out 0; have hfz14_1 := bF BK176.out 1; have hfz14_2 := bF BK176.out 2; have hfz14_3 := bF BK176.out 3))
 go_ret
 exact ⟨xW, bl HB.out⟩

def impl_others.l0 : Nat → Int → Int → List (S90) → List (S90) → Int → Int → Option ((List (S90)))
 | 0, _, _, _, _, _, _ => none
 | k + 1, x1, x2, x7, x10, x11, x12 => if x12 < x11 then (if 0 ≤ x12 then (if x12 < (x10.length : Int) then (if ((rd_T90 x10 x12).f0) = x1 then (if ((rd_T90 x10 x12).f1) = x2 then (impl_others.l0 k x1 x2 x7 x10 x11 (wrap64 (x12 + 1))) else (if x7.length < 4398046511104 then (impl_others.l0 k x1 x2 (x7 ++ [(⟨(rd_T90 x10 x12).f0, (rd_T90 x10 x12).f1, (rd_T90 x10 x12).f2, (rd_T90 x10 x12).f3⟩ : S90)]) x10 x11 (wrap64 (x12 + 1))) else (none))) else (if x7.length < 4398046511104 then (impl_others.l0 k x1 x2 (x7 ++ [(⟨(rd_T90 x10 x12).f0, (rd_T90 x10 x12).f1, (rd_T90 x10 x12).f2, (rd_T90 x10 x12).f3⟩ : S90)]) x10 x11 (wrap64 (x12 + 1))) else (none))) else (none)) else (none)) else (some x7)
def impl_others.f (k : Nat) (l0 : List (S90)) (a1 : Int) (a2 : Int) : Option ((List (S90))) := impl_others.l0 k a1 a2 ([] : List (S90)) l0 (l0.length : Int) 0
theorem impl_others.mono_l : ∀ k, (∀ y0 y1 y2 y3 y4 y5, LeO (impl_others.l0 k y0 y1 y2 y3 y4 y5) (impl_others.l0 (k + 1) y0 y1 y2 y3 y4 y5))
 | 0 => fun _ _ _ _ _ _ r h => by simp [impl_others.l0] at h
 | k + 1 => by
  have ih0 := impl_others.mono_l k
  ·intro y0 y1 y2 y3 y4 y5
   unfold impl_others.l0
   repeat' first
   | (with_reducible exact ih0 _ _ _ _ _ _)
   | (with_reducible exact LeO.refl _)
   | (with_reducible exact LeO.none _)
   | (with_reducible refine LeO.ite ?_ ?_)
   | (with_reducible refine LeO.bind ?_ (fun _ => ?_))
   | exact ih0 _ _ _ _ _ _
   | exact LeO.none _
   | refine LeO.ite ?_ ?_
   | refine LeO.bind ?_ (fun _ => ?_)
theorem impl_others.mono : ∀ a0 a1 a2 k, LeO (impl_others.f k a0 a1 a2) (impl_others.f (k + 1) a0 a1 a2) := by
 intro a0 a1 a2 k
 have ih0 := impl_others.mono_l k
 unfold impl_others.f
 repeat' first
   | (with_reducible exact ih0 _ _ _ _ _ _)
   | (with_reducible exact LeO.refl _)
   | (with_reducible exact LeO.none _)
   | (with_reducible refine LeO.ite ?_ ?_)
   | (with_reducible refine LeO.bind ?_ (fun _ => ?_))
   | exact ih0 _ _ _ _ _ _
   | exact LeO.none _
   | refine LeO.ite ?_ ?_
   | refine LeO.bind ?_ (fun _ => ?_)
set_option maxHeartbeats 60000000 in
set_option maxRecDepth 100000 in
theorem impl_others.calls (k : Nat) (A0 : Option Addr) (c0 : Nat) (l0 : List (S90)) (a1 : Int) (a2 : Int) (r : List (S90)) (w : World) (hr0 : Kd.C k90 w A0 l0.length l0) (hc0 : l0.length ≤ c0) (h : impl_others.f k l0 a1 a2 = some r) :
  Calls Try.prog 77 #[.slice A0 l0.length c0, .int .i64 a1, .int .i64 a2] w fun e w' => ∃ v0_ : Value, e = .returned (v0_) ∧ Kd.R k90 90 w' w.heap.size (fun _ => True) v0_ r ∧ Below w.heap.size w w' := by
 have hu90 := Try.underlying90
 have HR0 := aM hr0
 have HC0 := aM hc0
 clear hr0 hc0
 have HB := aM (Below.refl w.heap.size w)
 have H : (impl_others.l0 k a1 a2 ([] : List (S90)) l0 (l0.length : Int) 0) = some r := h
 clear h
 have H' := aM H
 clear H
 go_enter Try.func77, Try.ntmps77
 go_wp2
 go_loopg [7, 12] k (fun kq v7 v12 w' => ∃ (x7_1 : List (S90)) (x12_1 : Int), v12 = .int .i64 x12_1 ∧ Aside0 (impl_others.l0 kq a1 a2 x7_1 l0 (l0.length : Int) x12_1 = some r) ∧ Aside0 (kq ≤ k) ∧ Aside0 (Kd.R k90 90 w' w.heap.size (fun _ => True) v7 x7_1) ∧ Aside0 (Below w.heap.size w w'))
 case atStart => exact ⟨(([] : List (S90))), (0), xE, H', ⟨Nat.le_refl _⟩, ⟨by first | exact Kd.R_nil _ _ _ _ _ | exact Kd.N_nil _ _ _ _ _ | exact Kd.V_nil _ _ _ _ _ | exact Kd.Q_nil _ _ _ _ _ | exact Kd.S_nil _ _ _ _ _⟩, ⟨bl HB.out⟩⟩
 case round =>
  clear H'
  try clear p2
  obtain ⟨x7_1, x12_1, rfl, HA, HK1, HO_7, HB⟩ := hrel
  cases gk with
  | zero => exact absurd HA.out (by simp [impl_others.l0])
  | succ k1 =>
   have H := HA.out
   clear HA
   simp only [impl_others.l0] at H
   by_cases c4 : x12_1 < (l0.length : Int)
   case neg =>
    rw [if_neg c4] at H
    have c4b0 : decide (x12_1 < (l0.length : Int)) = false := decide_eq_false c4
    clear c4
    obtain rfl := Option.some.inj H
    go_wp2
    go_ret
    exact ⟨_, xW, by (with_reducible repeat (first | apply Kd.R_alloc | apply Kd.R_drewN | apply Kd.R_drew)); exact HO_7.out, bl HB.out⟩
   rw [if_pos c4] at H
   have c4b0 : decide (x12_1 < (l0.length : Int)) = true := decide_eq_true c4
   clear c4
   by_cases c5 : 0 ≤ x12_1
   case neg =>
    rw [if_neg c5] at H
    exact absurd H (by simp)
   rw [if_pos c5] at H
   have c5b0 : decide (0 ≤ x12_1) = true := decide_eq_true c5
   clear c5
   by_cases c6 : x12_1 < (l0.length : Int)
   case neg =>
    rw [if_neg c6] at H
    exact absurd H (by simp)
   rw [if_pos c6] at H
   have c6b0 : decide (x12_1 < (l0.length : Int)) = true := decide_eq_true c6
   clear c6
   by_cases c7 : ((rd_T90 l0 x12_1).f0) = a1
   case neg =>
    rw [if_neg c7] at H
    have c7b0 : (((rd_T90 l0 x12_1).f0) == a1) = false := beq_eq_false_iff_ne.mpr c7
    have c7b1 : (((rd_T90 l0 x12_1).f0) != a1) = true := bne_iff_ne.mpr c7
    by_cases c15 : x7_1.length < 4398046511104
    case neg =>
     rw [if_neg c15] at H
     exact absurd H (by simp)
    rw [if_pos c15] at H
    have LMc15 := aM c15
    clear c15
    obtain ⟨y182, hy182⟩ : ∃ y_ : List (S90), y_ = (x7_1 ++ [(⟨(rd_T90 l0 x12_1).f0, (rd_T90 l0 x12_1).f1, (rd_T90 l0 x12_1).f2, (rd_T90 l0 x12_1).f3⟩ : S90)]) := ⟨_, rfl⟩
    replace H : (impl_others.l0 k1 a1 a2 y182 l0 (l0.length : Int) (wrap64 (x12_1 + 1))) = some r := by first | (rw [hy182]; with_reducible exact H) | (have H2_ := (Option.bind_some _ _).symm.trans H; rw [hy182]; with_reducible exact H2_) | (have H2_ := (Option.bind_some _ _).symm.trans H; with_reducible exact H2_) | with_reducible exact H | (rw [hy182]; exact H) | exact H
    have Ny182 := aM hy182
    clear hy182
    have H' := aM H
    clear H
    have p177 : 0 ≤ (x12_1 : Int) := of_decide_eq_true (by first | (with_reducible assumption) | assumption)
    have q177 : x12_1 < (l0.length : Int) := of_decide_eq_true (by first | (with_reducible assumption) | assumption)
    obtain ⟨ad177, e177, hx177_0, hx177_1, hx177_2, hx177_3⟩ := at_T90 HR0.out x12_1 p177 q177
    cases e177
    replace hx177_0 := (HB.out.cell (World.block_lt_of_cell? w _ hx177_0)).trans hx177_0
    replace hx177_1 := (HB.out.cell (World.block_lt_of_cell? w _ hx177_1)).trans hx177_1
    replace hx177_2 := (HB.out.cell (World.block_lt_of_cell? w _ hx177_2)).trans hx177_2
    replace hx177_3 := (HB.out.cell (World.block_lt_of_cell? w _ hx177_3)).trans hx177_3
    replace p177 := eq_true p177
    replace q177 := eq_true q177
    go_wp2_with (first | ((with_reducible refine gate_dst (N := 9) rfl ?_); refine box_event ?hg (N := 9) ?hd (cs := #[.int .i64 0, .int .i64 0, .int .i64 0, .int .i64 0]) (t := 90) ?hr ?_; (case hd => rfl); (case hg => rfl); (case hr => first | (go_simp; done) | (go_simp; rfl) | (obtain ⟨A_, c_, e_⟩ := Kd.R_slice HO_7.out; subst e_; (first | (go_simp; done) | (go_simp; rfl))) | (obtain ⟨A_, c_, e_⟩ := Kd.S_slice HO_7.out; subst e_; (first | (go_simp; done) | (go_simp; rfl)))); intro gb178 hg w16 hbox hb; have n0_ := aM (kB (Kd.R_elderB (kr HO_7.out) gb178 (Nat.le_of_eq hg.symm)) hb); have n1_ := aM (bS (bl HB.out) hb); have n2_ := aM (hbox); have n3_ := aM ((by rw [hg]; exact (below_size (bl HB.out)) : w.heap.size ≤ gb178)); have n4_ := aM ((by rw [hg]; exact (below_size (bl HB.out)) : w.heap.size ≤ gb178)); clear HO_7 HB; have HO_7 := n0_; have HB := n1_; have BK178 := n2_; have GW178 := n3_; have GE178 := n4_; clear n0_ n1_ n2_ n3_ n4_; clear hb hbox hg; have hcz17_0 := cI BK178.out 0; have hcz17_1 := cI BK178.out 1; have hcz17_2 := cI BK178.out 2; have hcz17_3 := cI BK178.out 3; have hfz17_0 := bF BK178.out 0; have hfz17_1 := bF BK178.out 1; have hfz17_2 := bF BK178.out 2; have hfz17_3 := bF BK178.out 3) | ((with_reducible refine gate_builtin (b := .append) (xs := #[.tmp 26, .tmp 28]) rfl ?_); at_builtin; refine Kd.R_append k90 (w0 := w) w.heap.size rfl (.tmp 26) (.tmp 28) 38 90 (.agg #[(.int .i64 0), (.int .i64 0), (.int .i64 0), (.int .i64 0)]) 32 rfl Try.underlying38 info90 rfl (by decide) (by omega) u7 x7_1 (⟨(rd_T90 l0 x12_1).f0, (rd_T90 l0 x12_1).f1, (rd_T90 l0 x12_1).f2, (rd_T90 l0 x12_1).f3⟩ : S90) [.int .i64 ((rd_T90 l0 x12_1).f0), .int .i64 ((rd_T90 l0 x12_1).f1), .int .i64 ((rd_T90 l0 x12_1).f2), .int .i64 ((rd_T90 l0 x12_1).f3)] (fun k_ => k_ ≠ gb178) (fun _ => False) rfl (by first | (go_simp; done) | (go_simp; rfl)) ?aP (fun _ hk => hk.elim) ?aF ?aO ?aB ?aS ?aL ?_; (case aP => exact k90_mkM _ _ _ (⟨(rd_T90 l0 x12_1).f0, (rd_T90 l0 x12_1).f1, (rd_T90 l0 x12_1).f2, (rd_T90 l0 x12_1).f3⟩ : S90)); (case aB => exact (bl HB.out)); (case aF => exact (fun k_ hk => Kd.freshB (g := gb178) (o := .cells #[.int .i64 ((rd_T90 l0 x12_1).f0), .int .i64 ((rd_T90 l0 x12_1).f1), .int .i64 ((rd_T90 l0 x12_1).f2), .int .i64 ((rd_T90 l0 x12_1).f3)] 90 (0, 0)) (by (with_reducible repeat (first | refine blk_drewN ?_ _ | refine blk_drew ?_ | refine blk_alloc ?_ _)); refine blk_put (cs := #[.int .i64 ((rd_T90 l0 x12_1).f0), .int .i64 ((rd_T90 l0 x12_1).f1), .int .i64 ((rd_T90 l0 x12_1).f2), .int .i64 0]) ?_ 3 _ rfl; (with_reducible repeat (first | refine blk_drewN ?_ _ | refine blk_drew ?_ | refine blk_alloc ?_ _)); refine blk_put (cs := #[.int .i64 ((rd_T90 l0 x12_1).f0), .int .i64 ((rd_T90 l0 x12_1).f1), .int .i64 0, .int .i64 0]) ?_ 2 _ rfl; (with_reducible repeat (first | refine blk_drewN ?_ _ | refine blk_drew ?_ | refine blk_alloc ?_ _)); refine blk_put (cs := #[.int .i64 ((rd_T90 l0 x12_1).f0), .int .i64 0, .int .i64 0, .int .i64 0]) ?_ 1 _ rfl; (with_reducible repeat (first | refine blk_drewN ?_ _ | refine blk_drew ?_ | refine blk_alloc ?_ _)); refine blk_put (cs := #[.int .i64 0, .int .i64 0, .int .i64 0, .int .i64 0]) ?_ 0 _ rfl; (with_reducible repeat (first | refine blk_drewN ?_ _ | refine blk_drew ?_ | refine blk_alloc ?_ _)); exact BK178.out) k_ hk)); (case aO => exact (kr (Kd.R_mono (kF (p := ⟨gb178, 3, none⟩) (kF (p := ⟨gb178, 2, none⟩) (kF (p := ⟨gb178, 1, none⟩) (kF (p := ⟨gb178, 0, none⟩) (Kd.R_mono HO_7.out (fun k_ hk => (⟨hk, hk.2⟩ : _ ∧ k_ ≠ gb178))) (fun _ hk => hk.2) (.int .i64 ((rd_T90 l0 x12_1).f0))) (fun _ hk => hk.2) (.int .i64 ((rd_T90 l0 x12_1).f1))) (fun _ hk => hk.2) (.int .i64 ((rd_T90 l0 x12_1).f2))) (fun _ hk => hk.2) (.int .i64 ((rd_T90 l0 x12_1).f3))) (fun _ hk => hk.1.2)))); (case aS => exact (below_size (bl HB.out))); (case aL => have := LMc15.out; omega); intro v183 w18 ho hb hg hat; rw [← Ny182.out] at ho; have n0_ := aM (blk_grown (g := gb178) (o := .cells #[.int .i64 ((rd_T90 l0 x12_1).f0), .int .i64 ((rd_T90 l0 x12_1).f1), .int .i64 ((rd_T90 l0 x12_1).f2), .int .i64 ((rd_T90 l0 x12_1).f3)] 90 (0, 0)) (by (with_reducible repeat (first | refine blk_drewN ?_ _ | refine blk_drew ?_ | refine blk_alloc ?_ _)); refine blk_put (cs := #[.int .i64 ((rd_T90 l0 x12_1).f0), .int .i64 ((rd_T90 l0 x12_1).f1), .int .i64 ((rd_T90 l0 x12_1).f2), .int .i64 0]) ?_ 3 _ rfl; (with_reducible repeat (first | refine blk_drewN ?_ _ | refine blk_drew ?_ | refine blk_alloc ?_ _)); refine blk_put (cs := #[.int .i64 ((rd_T90 l0 x12_1).f0), .int .i64 ((rd_T90 l0 x12_1).f1), .int .i64 0, .int .i64 0]) ?_ 2 _ rfl; (with_reducible repeat (first | refine blk_drewN ?_ _ | refine blk_drew ?_ | refine blk_alloc ?_ _)); refine blk_put (cs := #[.int .i64 ((rd_T90 l0 x12_1).f0), .int .i64 0, .int .i64 0, .int .i64 0]) ?_ 1 _ rfl; (with_reducible repeat (first | refine blk_drewN ?_ _ | refine blk_drew ?_ | refine blk_alloc ?_ _)); refine blk_put (cs := #[.int .i64 0, .int .i64 0, .int .i64 0, .int .i64 0]) ?_ 0 _ rfl; (with_reducible repeat (first | refine blk_drewN ?_ _ | refine blk_drew ?_ | refine blk_alloc ?_ _)); exact BK178.out) hg (Kd.R_away HO_7.out (fun _ hk => hk.2))); have n1_ := aM (hb); have n2_ := aM (ho); clear BK178 HB HO_7; have BK178 := n0_; have HB := n1_; have HO184 := n2_; clear n0_ n1_ n2_; clear ho hb hg hat))
    go_roundg k1
    case measure => have := HK1.out; omega
    case rel => exact ⟨(y182), (wrap64 (x12_1 + 1)), xE, H', ⟨by have := HK1.out; omega⟩, ⟨kr (Kd.R_mono HO184.out (fun _ hk => trivial))⟩, ⟨bl HB.out⟩⟩
   rw [if_pos c7] at H
   have c7b0 : (((rd_T90 l0 x12_1).f0) == a1) = true := beq_iff_eq.mpr c7
   have c7b1 : (((rd_T90 l0 x12_1).f0) != a1) = false := bne_eq_false_iff_eq.mpr c7
   clear c7
   by_cases c8 : ((rd_T90 l0 x12_1).f1) = a2
   case pos =>
    rw [if_pos c8] at H
    have c8b0 : (((rd_T90 l0 x12_1).f1) == a2) = true := beq_iff_eq.mpr c8
    have c8b1 : (((rd_T90 l0 x12_1).f1) != a2) = false := bne_eq_false_iff_eq.mpr c8
    clear c8
    have H' := aM H
    clear H
    have p177 : 0 ≤ (x12_1 : Int) := of_decide_eq_true (by first | (with_reducible assumption) | assumption)
    have q177 : x12_1 < (l0.length : Int) := of_decide_eq_true (by first | (with_reducible assumption) | assumption)
    obtain ⟨ad177, e177, hx177_0, hx177_1, hx177_2, hx177_3⟩ := at_T90 HR0.out x12_1 p177 q177
    cases e177
    replace hx177_0 := (HB.out.cell (World.block_lt_of_cell? w _ hx177_0)).trans hx177_0
    replace hx177_1 := (HB.out.cell (World.block_lt_of_cell? w _ hx177_1)).trans hx177_1
    replace hx177_2 := (HB.out.cell (World.block_lt_of_cell? w _ hx177_2)).trans hx177_2
    replace hx177_3 := (HB.out.cell (World.block_lt_of_cell? w _ hx177_3)).trans hx177_3
    replace p177 := eq_true p177
    replace q177 := eq_true q177
    go_wp2_with (first | ((with_reducible refine gate_dst (N := 9) rfl ?_); refine box_event ?hg (N := 9) ?hd (cs := #[.int .i64 0, .int .i64 0, .int .i64 0, .int .i64 0]) (t := 90) ?hr ?_; (case hd => rfl); (case hg => rfl); (case hr => first | (go_simp; done) | (go_simp; rfl) | (obtain ⟨A_, c_, e_⟩ := Kd.R_slice HO_7.out; subst e_; (first | (go_simp; done) | (go_simp; rfl))) | (obtain ⟨A_, c_, e_⟩ := Kd.S_slice HO_7.out; subst e_; (first | (go_simp; done) | (go_simp; rfl)))); intro gb178 hg w9 hbox hb; have n0_ := aM (kB (Kd.R_elderB (kr HO_7.out) gb178 (Nat.le_of_eq hg.symm)) hb); have n1_ := aM (bS (bl HB.out) hb); have n2_ := aM (hbox); have n3_ := aM ((by rw [hg]; exact (below_size (bl HB.out)) : w.heap.size ≤ gb178)); have n4_ := aM ((by rw [hg]; exact (below_size (bl HB.out)) : w.heap.size ≤ gb178)); clear HO_7 HB; have HO_7 := n0_; have HB := n1_; have BK178 := n2_; have GW178 := n3_; have GE178 := n4_; clear n0_ n1_ n2_ n3_ n4_; clear hb hbox hg; have hcz10_0 := cI BK178.out 0; have hcz10_1 := cI BK178.out 1; have hcz10_2 := cI BK178.out 2; have hcz10_3 := cI BK178.out 3; have hfz10_0 := bF BK178.out 0; have hfz10_1 := bF BK178.out 1; have hfz10_2 := bF BK178.out 2; have hfz10_3 := bF BK178.out 3))
    go_roundg k1
    case measure => have := HK1.out; omega
    case rel => exact ⟨(x7_1), (wrap64 (x12_1 + 1)), xE, H', ⟨by have := HK1.out; omega⟩, ⟨kr (Kd.R_mono (kF (p := ⟨gb178, 3, none⟩) (kF (p := ⟨gb178, 2, none⟩) (kF (p := ⟨gb178, 1, none⟩) (kF (p := ⟨gb178, 0, none⟩) (Kd.R_mono HO_7.out (fun k_ hk => (⟨hk, hk.2⟩ : _ ∧ k_ ≠ gb178))) (fun _ hk => hk.2) (.int .i64 ((rd_T90 l0 x12_1).f0))) (fun _ hk => hk.2) (.int .i64 ((rd_T90 l0 x12_1).f1))) (fun _ hk => hk.2) (.int .i64 ((rd_T90 l0 x12_1).f2))) (fun _ hk => hk.2) (.int .i64 ((rd_T90 l0 x12_1).f3))) (fun _ hk => trivial))⟩, ⟨bl HB.out⟩⟩
   rw [if_neg c8] at H
   have c8b0 : (((rd_T90 l0 x12_1).f1) == a2) = false := beq_eq_false_iff_ne.mpr c8
   have c8b1 : (((rd_T90 l0 x12_1).f1) != a2) = true := bne_iff_ne.mpr c8
   by_cases c11 : x7_1.length < 4398046511104
   case neg =>
    rw [if_neg c11] at H
    exact absurd H (by simp)
   rw [if_pos c11] at H
   have LMc11 := aM c11
   clear c11
   obtain ⟨y179, hy179⟩ : ∃ y_ : List (S90), y_ = (x7_1 ++ [(⟨(rd_T90 l0 x12_1).f0, (rd_T90 l0 x12_1).f1, (rd_T90 l0 x12_1).f2, (rd_T90 l0 x12_1).f3⟩ : S90)]) := ⟨_, rfl⟩
   replace H : (impl_others.l0 k1 a1 a2 y179 l0 (l0.length : Int) (wrap64 (x12_1 + 1))) = some r := by first | (rw [hy179]; with_reducible exact H) | (have H2_ := (Option.bind_some _ _).symm.trans H; rw [hy179]; with_reducible exact H2_) | (have H2_ := (Option.bind_some _ _).symm.trans H; with_reducible exact H2_) | with_reducible exact H | (rw [hy179]; exact H) | exact H
   have Ny179 := aM hy179
   clear hy179
   have H' := aM H
   clear H
   have p177 : 0 ≤ (x12_1 : Int) := of_decide_eq_true (by first | (with_reducible assumption) | assumption)
   have q177 : x12_1 < (l0.length : Int) := of_decide_eq_true (by first | (with_reducible assumption) | assumption)
   obtain ⟨ad177, e177, hx177_0, hx177_1, hx177_2, hx177_3⟩ := at_T90 HR0.out x12_1 p177 q177
   cases e177
   replace hx177_0 := (HB.out.cell (World.block_lt_of_cell? w _ hx177_0)).trans hx177_0
   replace hx177_1 := (HB.out.cell (World.block_lt_of_cell? w _ hx177_1)).trans hx177_1
   replace hx177_2 := (HB.out.cell (World.block_lt_of_cell? w _ hx177_2)).trans hx177_2
   replace hx177_3 := (HB.out.cell (World.block_lt_of_cell? w _ hx177_3)).trans hx177_3
   replace p177 := eq_true p177
   replace q177 := eq_true q177
   go_wp2_with (first | ((with_reducible refine gate_dst (N := 9) rfl ?_); refine box_event ?hg (N := 9) ?hd (cs := #[.int .i64 0, .int .i64 0, .int .i64 0, .int .i64 0]) (t := 90) ?hr ?_; (case hd => rfl); (case hg => rfl); (case hr => first | (go_simp; done) | (go_simp; rfl) | (obtain ⟨A_, c_, e_⟩ := Kd.R_slice HO_7.out; subst e_; (first | (go_simp; done) | (go_simp; rfl))) | (obtain ⟨A_, c_, e_⟩ := Kd.S_slice HO_7.out; subst e_; (first | (go_simp; done) | (go_simp; rfl)))); intro gb178 hg w12 hbox hb; have n0_ := aM (kB (Kd.R_elderB (kr HO_7.out) gb178 (Nat.le_of_eq hg.symm)) hb); have n1_ := aM (bS (bl HB.out) hb); have n2_ := aM (hbox); have n3_ := aM ((by rw [hg]; exact (below_size (bl HB.out)) : w.heap.size ≤ gb178)); have n4_ := aM ((by rw [hg]; exact (below_size (bl HB.out)) : w.heap.size ≤ gb178)); clear HO_7 HB; have HO_7 := n0_; have HB := n1_; have BK178 := n2_; have GW178 := n3_; have GE178 := n4_; clear n0_ n1_ n2_ n3_ n4_; clear hb hbox hg; have hcz13_0 := cI BK178.out 0; have hcz13_1 := cI BK178.out 1; have hcz13_2 := cI BK178.out 2; have hcz13_3 := cI BK178.out 3; have hfz13_0 := bF BK178.out 0; have hfz13_1 := bF BK178.out 1; have hfz13_2 := bF BK178.out 2; have hfz13_3 := bF BK178.out 3) | ((with_reducible refine gate_builtin (b := .append) (xs := #[.tmp 26, .tmp 28]) rfl ?_); at_builtin; refine Kd.R_append k90 (w0 := w) w.heap.size rfl (.tmp 26) (.tmp 28) 38 90 (.agg #[(.int .i64 0), (.int .i64 0), (.int .i64 0), (.int .i64 0)]) 32 rfl Try.underlying38 info90 rfl (by decide) (by omega) u7 x7_1 (⟨(rd_T90 l0 x12_1).f0, (rd_T90 l0 x12_1).f1, (rd_T90 l0 x12_1).f2, (rd_T90 l0 x12_1).f3⟩ : S90) [.int .i64 ((rd_T90 l0 x12_1).f0), .int .i64 ((rd_T90 l0 x12_1).f1), .int .i64 ((rd_T90 l0 x12_1).f2), .int .i64 ((rd_T90 l0 x12_1).f3)] (fun k_ => k_ ≠ gb178) (fun _ => False) rfl (by first | (go_simp; done) | (go_simp; rfl)) ?aP (fun _ hk => hk.elim) ?aF ?aO ?aB ?aS ?aL ?_; (case aP => exact k90_mkM _ _ _ (⟨(rd_T90 l0 x12_1).f0, (rd_T90 l0 x12_1).f1, (rd_T90 l0 x12_1).f2, (rd_T90 l0 x12_1).f3⟩ : S90)); (case aB => exact (bl HB.out)); (case aF => exact (fun k_ hk => Kd.freshB (g := gb178) (o := .cells #[.int .i64 ((rd_T90 l0 x12_1).f0), .int .i64 ((rd_T90 l0 x12_1).f1), .int .i64 ((rd_T90 l0 x12_1).f2), .int .i64 ((rd_T90 l0 x12_1).f3)] 90 (0, 0)) (by (with_reducible repeat (first | refine blk_drewN ?_ _ | refine blk_drew ?_ | refine blk_alloc ?_ _)); refine blk_put (cs := #[.int .i64 ((rd_T90 l0 x12_1).f0), .int .i64 ((rd_T90 l0 x12_1).f1), .int .i64 ((rd_T90 l0 x12_1).f2), .int .i64 0]) ?_ 3 _ rfl; (with_reducible repeat (first | refine blk_drewN ?_ _ | refine blk_drew ?_ | refine blk_alloc ?_ _)); refine blk_put (cs := #[.int .i64 ((rd_T90 l0 x12_1).f0), .int .i64 ((rd_T90 l0 x12_1).f1), .int .i64 0, .int .i64 0]) ?_ 2 _ rfl; (with_reducible repeat (first | refine blk_drewN ?_ _ | refine blk_drew ?_ | refine blk_alloc ?_ _)); refine blk_put (cs := #[.int .i64 ((rd_T90 l0 x12_1).f0), .int .i64 0, .int .i64 0, .int .i64 0]) ?_ 1 _ rfl; (with_reducible repeat (first | refine blk_drewN ?_ _ | refine blk_drew ?_ | refine blk_alloc ?_ _)); refine blk_put (cs := #[.int .i64 0, .int .i64 0, .int .i64 0, .int .i64 0]) ?_ 0 _ rfl; (with_reducible repeat (first | refine blk_drewN ?_ _ | refine blk_drew ?_ | refine blk_alloc ?_ _)); exact BK178.out) k_ hk)); (case aO => exact (kr (Kd.R_mono (kF (p := ⟨gb178, 3, none⟩) (kF (p := ⟨gb178, 2, none⟩) (kF (p := ⟨gb178, 1, none⟩) (kF (p := ⟨gb178, 0, none⟩) (Kd.R_mono HO_7.out (fun k_ hk => (⟨hk, hk.2⟩ : _ ∧ k_ ≠ gb178))) (fun _ hk => hk.2) (.int .i64 ((rd_T90 l0 x12_1).f0))) (fun _ hk => hk.2) (.int .i64 ((rd_T90 l0 x12_1).f1))) (fun _ hk => hk.2) (.int .i64 ((rd_T90 l0 x12_1).f2))) (fun _ hk => hk.2) (.int .i64 ((rd_T90 l0 x12_1).f3))) (fun _ hk => hk.1.2)))); (case aS => exact (below_size (bl HB.out))); (case aL => have := LMc11.out; omega); intro v180 w14 ho hb hg hat; rw [← Ny179.out] at ho; have n0_ := aM (blk_grown (g := gb178) (o := .cells #[.int .i64 ((rd_T90 l0 x12_1).f0), .int .i64 ((rd_T90 l0 x12_1).f1), .int .i64 ((rd_T90 l0 x12_1).f2), .int .i64 ((rd_T90 l0 x12_1).f3)] 90 (0, 0)) (by (with_reducible repeat (first | refine blk_drewN ?_ _ | refine blk_drew ?_ | refine blk_alloc ?_ _)); refine blk_put (cs := #[.int .i64 ((rd_T90 l0 x12_1).f0), .int .i64 ((rd_T90 l0 x12_1).f1), .int .i64 ((rd_T90 l0 x12_1).f2), .int .i64 0]) ?_ 3 _ rfl; (with_reducible repeat (first | refine blk_drewN ?_ _ | refine blk_drew ?_ | refine blk_alloc ?_ _)); refine blk_put (cs := #[.int .i64 ((rd_T90 l0 x12_1).f0), .int .i64 ((rd_T90 l0 x12_1).f1), .int .i64 0, .int .i64 0]) ?_ 2 _ rfl; (with_reducible repeat (first | refine blk_drewN ?_ _ | refine blk_drew ?_ | refine blk_alloc ?_ _)); refine blk_put (cs := #[.int .i64 ((rd_T90 l0 x12_1).f0), .int .i64 0, .int .i64 0, .int .i64 0]) ?_ 1 _ rfl; (with_reducible repeat (first | refine blk_drewN ?_ _ | refine blk_drew ?_ | refine blk_alloc ?_ _)); refine blk_put (cs := #[.int .i64 0, .int .i64 0, .int .i64 0, .int .i64 0]) ?_ 0 _ rfl; (with_reducible repeat (first | refine blk_drewN ?_ _ | refine blk_drew ?_ | refine blk_alloc ?_ _)); exact BK178.out) hg (Kd.R_away HO_7.out (fun _ hk => hk.2))); have n1_ := aM (hb); have n2_ := aM (ho); clear BK178 HB HO_7; have BK178 := n0_; have HB := n1_; have HO181 := n2_; clear n0_ n1_ n2_; clear ho hb hg hat))
   go_roundg k1
   case measure => have := HK1.out; omega
   case rel => exact ⟨(y179), (wrap64 (x12_1 + 1)), xE, H', ⟨by have := HK1.out; omega⟩, ⟨kr (Kd.R_mono HO181.out (fun _ hk => trivial))⟩, ⟨bl HB.out⟩⟩

def impl_Heard_114.f (l0 : List (S90)) (a1 : Int) : Option (List (S90)) := if 0 ≤ a1 ∧ a1 ≤ 1099511627776 then some [] else none
theorem impl_Heard_114.rowAt (w : World) (c : Array Value) (e : Nat) : (w.alloc (.cells c e)).drew.heap[w.heap.size]? = some (.cells c e) := by
 show (w.heap.push (.cells c e))[w.heap.size]? = _
 simp
set_option maxHeartbeats 60000000 in
set_option maxRecDepth 100000 in
theorem impl_Heard_114.calls (a1 : Int) (r : List (S90)) (w : World) (h : impl_Heard_114.f [] a1 = some r) :
  Calls Try.prog 114 #[.slice none 0 0, .int .i64 a1] w fun e w' => ∃ v0_ : Value, e = .returned (v0_) ∧ Kd.R k90 90 w' w.heap.size (fun _ => True) v0_ r ∧ Below w.heap.size w w' := by
 unfold impl_Heard_114.f at h
 by_cases hb : 0 ≤ a1 ∧ a1 ≤ 1099511627776
 case neg => rw [if_neg hb] at h; cases h
 rw [if_pos hb] at h
 obtain rfl := Option.some.inj h
 obtain ⟨n, rfl⟩ := Int.eq_ofNat_of_zero_le hb.1
 have hn : n ≤ 1099511627776 := by omega
 clear h hb
 by_cases h0 : n = 0
 case pos =>
  subst h0
  go_enter Try.func114, Try.ntmps114
  go_wp2
  go_ret
  exact ⟨_, rfl, Kd.R_nil _ _ _ _ _, Below.refl _ _⟩
 obtain ⟨i0, hi0, hzz⟩ := Option.map_eq_some_iff.1 info90
 simp only [Prod.mk.injEq] at hzz
 obtain ⟨hz0, hz1, hz2⟩ := hzz
 have h1 : ¬ ((n : Int) < 0) := by omega
 have h3 : wrap64 (n : Int) = (n : Int) := by unfold wrap64; omega
 have h4 : (n : Int) > 0 := by omega
 have hold : (Builtin.firstCells i0.size 0 (.slice none 0 0)).run Try.prog w.drew = .ok ([] : List Value).toArray w.drew := run_firstCells_none w.drew i0.size 0 0 0
 have hrz : ∀ ty, (Builtin.append_ #[38, 3] ty #[.slice none 0 0, .int .i64 (n : Int)]).run Try.prog w = .ok _ _ := fun ty =>
  Lib.run_append_grow_zeros w 38 3 ty 90 i0 _ .i64 .i64 Try.underlying38 Try.underlying3 hi0 hz0 none 0 0 [] hold n (by omega) (by omega) (by omega) (by omega) (by rw [hz2]; omega)
   (growslice_fits (by omega) (by rw [hz2]; omega))
 obtain ⟨G, hG⟩ : ∃ G, G = grownCap w (0 + n) 0 90 := ⟨_, rfl⟩
 have hGn : 0 + n ≤ G := hG ▸ grownCap_ge w _ _ _
 have hGm : G ≤ maxLen := hG ▸ grownCap_le_maxLen w (0 + n) 0 90 (by unfold maxLen; omega)
 have hG63 : G ≤ 9223372036854775807 := hGm
 rw [← hG] at hrz
 clear hG hold
 go_enter Try.func114, Try.ntmps114
 go_wp2_with (at_builtin; refine Lib.wpList_append_run _ rfl _ _ _ _ rfl _ _ rfl rfl _ _ (hrz _) ?_)
 all_goals (go_ret; refine ⟨_, rfl, ⟨fun _ _ => trivial, [], ⟨rfl, Or.inr ⟨w.heap.size, G, _, rfl, Nat.le_refl _, impl_Heard_114.rowAt w _ _, Nat.zero_le _, hGm, ?_, by simp⟩⟩, Reps.none _ _⟩, Below.drew (Below.alloc (Below.refl _ _) (Nat.le_refl _) _)⟩)
 all_goals (simp only [Array.size_append, size_zeroCells, List.size_toArray, List.length_cons, List.length_nil]; show _ = G * 4; omega)

mutual
def impl_Heard_78.l0 : Nat → List (List (S90)) → Int → List (List (S90)) → Int → Int → Option ((List (S90)))
 | 0, _, _, _, _, _ => none
 | k + 1, x0, x3, x9, x10, x11 => if x11 < x10 then (if 0 ≤ x11 then (if x11 < (x9.length : Int) then (if (wrap64 (x3 + ((rd_L3 x9 x11).length : Int))) < 0 then (none) else (impl_Heard_78.l0 k x0 (wrap64 (x3 + ((rd_L3 x9 x11).length : Int))) x9 x10 (wrap64 (x11 + 1)))) else (none)) else (none)) else ((impl_Heard_114.f ([] : List (S90)) x3).bind fun t189 => (impl_Heard_78.l1 k t189 x0 (x0.length : Int) 0))
def impl_Heard_78.l1 : Nat → List (S90) → List (List (S90)) → Int → Int → Option ((List (S90)))
 | 0, _, _, _, _ => none
 | k + 1, x6, x25, x26, x27 => if x27 < x26 then (if 0 ≤ x27 then (if x27 < (x25.length : Int) then (if x6.length + (rd_L3 x25 x27).length < 4398046511104 then (impl_Heard_78.l1 k (x6 ++ (rd_L3 x25 x27)) x25 x26 (wrap64 (x27 + 1))) else (none)) else (none)) else (none)) else (some x6)
end
def impl_Heard_78.f (k : Nat) (l0 : List (List (S90))) : Option ((List (S90))) := impl_Heard_78.l0 k l0 0 l0 (l0.length : Int) 0
theorem impl_Heard_78.mono_l : ∀ k, (∀ y0 y1 y2 y3 y4, LeO (impl_Heard_78.l0 k y0 y1 y2 y3 y4) (impl_Heard_78.l0 (k + 1) y0 y1 y2 y3 y4)) ∧ (∀ y0 y1 y2 y3, LeO (impl_Heard_78.l1 k y0 y1 y2 y3) (impl_Heard_78.l1 (k + 1) y0 y1 y2 y3))
 | 0 => ⟨fun _ _ _ _ _ r h => by simp [impl_Heard_78.l0] at h, fun _ _ _ _ r h => by simp [impl_Heard_78.l1] at h⟩
 | k + 1 => by
  obtain ⟨ih0, ih1⟩ := impl_Heard_78.mono_l k
  refine ⟨?_, ?_⟩
  ·intro y0 y1 y2 y3 y4
   unfold impl_Heard_78.l0
   repeat' first
   | (with_reducible exact ih0 _ _ _ _ _)
   | (with_reducible exact ih1 _ _ _ _)
   | (with_reducible exact LeO.refl _)
   | (with_reducible exact LeO.none _)
   | (with_reducible refine LeO.ite ?_ ?_)
   | (with_reducible refine LeO.bind ?_ (fun _ => ?_))
   | exact ih0 _ _ _ _ _
   | exact ih1 _ _ _ _
   | exact LeO.none _
   | refine LeO.ite ?_ ?_
   | refine LeO.bind ?_ (fun _ => ?_)
  ·intro y0 y1 y2 y3
   unfold impl_Heard_78.l1
   repeat' first
   | (with_reducible exact ih0 _ _ _ _ _)
   | (with_reducible exact ih1 _ _ _ _)
   | (with_reducible exact LeO.refl _)
   | (with_reducible exact LeO.none _)
   | (with_reducible refine LeO.ite ?_ ?_)
   | (with_reducible refine LeO.bind ?_ (fun _ => ?_))
   | exact ih0 _ _ _ _ _
   | exact ih1 _ _ _ _
   | exact LeO.none _
   | refine LeO.ite ?_ ?_
   | refine LeO.bind ?_ (fun _ => ?_)
theorem impl_Heard_78.mono : ∀ a0 k, LeO (impl_Heard_78.f k a0) (impl_Heard_78.f (k + 1) a0) := by
 intro a0 k
 obtain ⟨ih0, ih1⟩ := impl_Heard_78.mono_l k
 unfold impl_Heard_78.f
 repeat' first
   | (with_reducible exact ih0 _ _ _ _ _)
   | (with_reducible exact ih1 _ _ _ _)
   | (with_reducible exact LeO.refl _)
   | (with_reducible exact LeO.none _)
   | (with_reducible refine LeO.ite ?_ ?_)
   | (with_reducible refine LeO.bind ?_ (fun _ => ?_))
   | exact ih0 _ _ _ _ _
   | exact ih1 _ _ _ _
   | exact LeO.none _
   | refine LeO.ite ?_ ?_
   | refine LeO.bind ?_ (fun _ => ?_)
set_option maxHeartbeats 60000000 in
set_option maxRecDepth 100000 in
theorem impl_Heard_78.calls (k : Nat) (A0 : Option Addr) (c0 : Nat) (l0 : List (List (S90))) (r : List (S90)) (w : World) (hr0 : Kd.C (Kd.slice 90 k90) w A0 l0.length l0) (hc0 : l0.length ≤ c0) (h : impl_Heard_78.f k l0 = some r) :
  Calls Try.prog 78 #[.slice A0 l0.length c0] w fun e w' => ∃ v0_ : Value, e = .returned (v0_) ∧ Kd.R k90 90 w' w.heap.size (fun _ => True) v0_ r ∧ Below w.heap.size w w' := by
 have HR0 := aM hr0
 have HC0 := aM hc0
 clear hr0 hc0
 have HB := aM (Below.refl w.heap.size w)
 have H : (impl_Heard_78.l0 k l0 0 l0 (l0.length : Int) 0) = some r := h
 clear h
 have H' := aM H
 clear H
 go_enter Try.func78, Try.ntmps78
 go_wp2
 go_loopg [3, 11] k (fun kq v3 v11 w' => ∃ (x3_1 : Int) (x11_1 : Int), v3 = .int .i64 x3_1 ∧ v11 = .int .i64 x11_1 ∧ Aside0 (impl_Heard_78.l0 kq l0 x3_1 l0 (l0.length : Int) x11_1 = some r) ∧ Aside0 (kq ≤ k) ∧ Aside0 (Below w.heap.size w w'))
 case atStart => exact ⟨(0), (0), xE, xE, H', ⟨Nat.le_refl _⟩, ⟨bl HB.out⟩⟩
 case round =>
  clear H'
  obtain ⟨x3_1, x11_1, rfl, rfl, HA, HK1, HB⟩ := hrel
  cases gk with
  | zero => exact absurd HA.out (by simp [impl_Heard_78.l0])
  | succ k1 =>
   have H := HA.out
   clear HA
   simp only [impl_Heard_78.l0] at H
   by_cases c2 : x11_1 < (l0.length : Int)
   case pos =>
    rw [if_pos c2] at H
    have c2b0 : decide (x11_1 < (l0.length : Int)) = true := decide_eq_true c2
    clear c2
    by_cases c3 : 0 ≤ x11_1
    case neg =>
     rw [if_neg c3] at H
     exact absurd H (by simp)
    rw [if_pos c3] at H
    have c3b0 : decide (0 ≤ x11_1) = true := decide_eq_true c3
    clear c3
    by_cases c4 : x11_1 < (l0.length : Int)
    case neg =>
     rw [if_neg c4] at H
     exact absurd H (by simp)
    rw [if_pos c4] at H
    have c4b0 : decide (x11_1 < (l0.length : Int)) = true := decide_eq_true c4
    clear c4
    by_cases c5 : (wrap64 (x3_1 + ((rd_L3 l0 x11_1).length : Int))) < 0
    case pos =>
     rw [if_pos c5] at H
     exact absurd H (by simp)
    rw [if_neg c5] at H
    have c5b0 : decide ((wrap64 (x3_1 + ((rd_L3 l0 x11_1).length : Int))) < 0) = false := decide_eq_false c5
    clear c5
    have H' := aM H
    clear H
    have p188 : 0 ≤ (x11_1 : Int) := of_decide_eq_true (by first | (with_reducible assumption) | assumption)
    have q188 : x11_1 < (l0.length : Int) := of_decide_eq_true (by first | (with_reducible assumption) | assumption)
    obtain ⟨ad188, A188_0, c188_0, e188, hx188_0, hl188_0, hi188_0⟩ := at_L3 HR0.out x11_1 p188 q188
    cases e188
    replace hx188_0 := (HB.out.cell (World.block_lt_of_cell? w _ hx188_0)).trans hx188_0
    have HR188_0 := aM hi188_0
    have HC188_0 := aM hl188_0
    clear hi188_0 hl188_0
    replace p188 := eq_true p188
    replace q188 := eq_true q188
    go_wp2
    go_roundg k1
    case measure => have := HK1.out; omega
    case rel => exact ⟨(wrap64 (x3_1 + ((rd_L3 l0 x11_1).length : Int))), (wrap64 (x11_1 + 1)), xE, xE, H', ⟨by have := HK1.out; omega⟩, ⟨bl HB.out⟩⟩
   rw [if_neg c2] at H
   have c2b0 : decide (x11_1 < (l0.length : Int)) = false := decide_eq_false c2
   clear c2
   replace H := Option.bind_eq_some_iff.mp H
   obtain ⟨t189, A60, H⟩ := H
   replace H : (impl_Heard_78.l1 k1 t189 l0 (l0.length : Int) 0) = some r := H
   have A6 := aM A60
   clear A60
   have H' := aM H
   clear H
   go_wp2_with (first | ((with_reducible refine gate_callee (f := 114) rfl ?_); refine goesL_ (some 24) rfl rfl Try.func114 (by kernel_rfl) rfl #[.slice none 0 0, .int .i64 x3_1] rfl xR ?_; (refine (impl_Heard_114.calls x3_1 t189 _ A6.out).mono ?_); rintro e w7 ⟨v190, rfl, ho0, hb⟩; refine ⟨_, rfl, ?_⟩; have n0_ := aM (Kd.R_lower ho0 (below_size (bl HB.out))); have n1_ := aM (bS (bl HB.out) hb); clear HB; have HO191 := n0_; have HB := n1_; clear n0_ n1_; (try clear hb); (try clear ho0)))
   go_loopg [6, 27] k1 (fun kq v6 v27 w' => ∃ (x6_2 : List (S90)) (x27_2 : Int), v27 = .int .i64 x27_2 ∧ Aside0 (impl_Heard_78.l1 kq x6_2 l0 (l0.length : Int) x27_2 = some r) ∧ Aside0 (kq ≤ k1) ∧ Aside0 (Kd.R k90 90 w' w.heap.size (fun _ => True) v6 x6_2) ∧ Aside0 (Below w.heap.size w w'))
   case atStart => exact ⟨(t189), (0), xE, H', ⟨Nat.le_refl _⟩, ⟨kr HO191.out⟩, ⟨bl HB.out⟩⟩
   case round =>
    clear H'
    try clear c1
    try clear p1
    try clear q1
    try clear hx1
    try clear c2
    try clear c2b0
    try clear p2
    try clear c3
    try clear c3b0
    try clear c4
    try clear c4b0
    try clear c5
    try clear c5b0
    try clear p6
    try clear c7
    try clear hx188_0
    try clear p188
    try clear q188
    obtain ⟨x6_2, x27_2, rfl, HA, HK2, HO_6, HB⟩ := hrel
    cases gk with
    | zero => exact absurd HA.out (by simp [impl_Heard_78.l1])
    | succ k2 =>
     have H := HA.out
     clear HA
     simp only [impl_Heard_78.l1] at H
     by_cases c8 : x27_2 < (l0.length : Int)
     case neg =>
      rw [if_neg c8] at H
      have c8b0 : decide (x27_2 < (l0.length : Int)) = false := decide_eq_false c8
      clear c8
      obtain rfl := Option.some.inj H
      go_wp2
      go_ret
      exact ⟨_, xW, by (with_reducible repeat (first | apply Kd.R_alloc | apply Kd.R_drewN | apply Kd.R_drew)); exact HO_6.out, bl HB.out⟩
     rw [if_pos c8] at H
     have c8b0 : decide (x27_2 < (l0.length : Int)) = true := decide_eq_true c8
     clear c8
     by_cases c9 : 0 ≤ x27_2
     case neg =>
      rw [if_neg c9] at H
      exact absurd H (by simp)
     rw [if_pos c9] at H
     have c9b0 : decide (0 ≤ x27_2) = true := decide_eq_true c9
     clear c9
     by_cases c10 : x27_2 < (l0.length : Int)
     case neg =>
      rw [if_neg c10] at H
      exact absurd H (by simp)
     rw [if_pos c10] at H
     have c10b0 : decide (x27_2 < (l0.length : Int)) = true := decide_eq_true c10
     clear c10
     by_cases c11 : x6_2.length + (rd_L3 l0 x27_2).length < 4398046511104
     case neg =>
      rw [if_neg c11] at H
      exact absurd H (by simp)
     rw [if_pos c11] at H
     have LMc11 := aM c11
     clear c11
     obtain ⟨y193, hy193⟩ : ∃ y_ : List (S90), y_ = (x6_2 ++ (rd_L3 l0 x27_2)) := ⟨_, rfl⟩
     replace H : (impl_Heard_78.l1 k2 y193 l0 (l0.length : Int) (wrap64 (x27_2 + 1))) = some r := by first | (rw [hy193]; with_reducible exact H) | (have H2_ := (Option.bind_some _ _).symm.trans H; rw [hy193]; with_reducible exact H2_) | (have H2_ := (Option.bind_some _ _).symm.trans H; with_reducible exact H2_) | with_reducible exact H | (rw [hy193]; exact H) | exact H
     have Ny193 := aM hy193
     clear hy193
     have H' := aM H
     clear H
     have p192 : 0 ≤ (x27_2 : Int) := of_decide_eq_true (by first | (with_reducible assumption) | assumption)
     have q192 : x27_2 < (l0.length : Int) := of_decide_eq_true (by first | (with_reducible assumption) | assumption)
     obtain ⟨ad192, A192_0, c192_0, e192, hx192_0, hl192_0, hi192_0⟩ := at_L3 HR0.out x27_2 p192 q192
     cases e192
     replace hx192_0 := (HB.out.cell (World.block_lt_of_cell? w _ hx192_0)).trans hx192_0
     have HR192_0 := aM hi192_0
     have HC192_0 := aM hl192_0
     clear hi192_0 hl192_0
     replace p192 := eq_true p192
     replace q192 := eq_true q192
     go_wp2_with (first | ((with_reducible refine gate_builtin (b := .append) (xs := #[.tmp 31, .tmp 32]) rfl ?_); at_builtin; refine Kd.R_append_rows k90 (w0 := w) w.heap.size rfl (.tmp 31) (.tmp 32) 38 90 (.agg #[(.int .i64 0), (.int .i64 0), (.int .i64 0), (.int .i64 0)]) 32 rfl Try.underlying38 info90 rfl (by decide) (by omega) u6 x6_2 (rd_L3 l0 x27_2) _ _ _ (fun _ => True) (fun _ => False) rfl rfl ?aO ?aR (fun _ _ h => h) (fun _ h => h.elim) ?aF ?aB ?aS ?aL ?_; (case aR => repeat (first | exact (cB HR192_0.out HB.out) | (with_reducible refine Kd.C_alloc ?_ _) | (with_reducible refine Kd.C_drewN ?_ _) | (with_reducible refine Kd.C_drew ?_))); (case aB => exact (bl HB.out)); (case aF => exact (fun _ _ => trivial)); (case aO => exact (kr HO_6.out)); (case aS => exact (below_size (bl HB.out))); (case aL => have := LMc11.out; omega); intro v194 w12 ho hb hg hat; rw [← Ny193.out] at ho; have n0_ := aM (hb); have n1_ := aM (ho); clear HB HO_6; have HB := n0_; have HO195 := n1_; clear n0_ n1_; clear ho hb hg hat))
     go_roundg k2
     case measure => have := HK1.out; have := HK2.out; omega
     case rel => exact ⟨(y193), (wrap64 (x27_2 + 1)), xE, H', ⟨by have := HK1.out; have := HK2.out; omega⟩, ⟨kr HO195.out⟩, ⟨bl HB.out⟩⟩

def impl_inRange.f (a0 : Int) (a1 : Int) (a2 : Int) : Option (Bool) := if a0 ≥ a1 then (some (decide (a0 ≤ a2))) else (some false)
set_option maxHeartbeats 60000000 in
set_option maxRecDepth 100000 in
theorem impl_inRange.calls (a0 : Int) (a1 : Int) (a2 : Int) (r : Bool) (w : World) (h : impl_inRange.f a0 a1 a2 = some r) :
  Calls Try.prog 106 #[.int .i64 a0, .int .i64 a1, .int .i64 a2] w fun e w' => e = .returned (.bool r) ∧ Drawn0 w w' := by
 have H : (if a0 ≥ a1 then (some (decide (a0 ≤ a2))) else (some false)) = some r := h
 clear h
 by_cases c4 : a0 ≥ a1
 case pos =>
  rw [if_pos c4] at H
  have c4b0 : decide (a1 ≤ a0) = true := decide_eq_true c4
  clear c4
  obtain rfl := Option.some.inj H
  go_enter Try.func106, Try.ntmps106
  go_wp2
  go_ret
  exact ⟨by first | rfl | (simp; done) | (simp [*]; done), by repeat (first | exact Drawn0.refl _ | apply Drawn0.step)⟩
 rw [if_neg c4] at H
 have c4b0 : decide (a1 ≤ a0) = false := decide_eq_false c4
 clear c4
 obtain rfl := Option.some.inj H
 go_enter Try.func106, Try.ntmps106
 go_wp2
 go_ret
 exact ⟨by first | rfl | (simp; done) | (simp [*]; done), by repeat (first | exact Drawn0.refl _ | apply Drawn0.step)⟩

def impl_isVlan.f (a0 : Int) : Option (Bool) := (impl_inRange.f a0 1 4).bind fun t196 => (some t196)
set_option maxHeartbeats 60000000 in
set_option maxRecDepth 100000 in
theorem impl_isVlan.calls (a0 : Int) (r : Bool) (w : World) (h : impl_isVlan.f a0 = some r) :
  Calls Try.prog 70 #[.int .i64 a0] w fun e w' => e = .returned (.bool r) ∧ Drawn0 w w' := by
 have H : ((impl_inRange.f a0 1 4).bind fun t196 => (some t196)) = some r := h
 clear h
 replace H := Option.bind_eq_some_iff.mp H
 obtain ⟨t196, A20, H⟩ := H
 replace H : (some t196) = some r := H
 have A2 := aM A20
 clear A20
 obtain rfl := Option.some.inj H
 go_enter Try.func70, Try.ntmps70
 go_wp2_with (first | ((with_reducible refine gate_callee (f := 106) rfl ?_); refine goesL_ (some 4) rfl rfl Try.func106 (by kernel_rfl) rfl #[.int .i64 a0, .int .i64 1, .int .i64 4] rfl xR ?_; (with_reducible refine (impl_inRange.calls a0 1 4 t196 _ A2.out).mono ?_); rintro e w' ⟨rfl, ⟨nd, rfl⟩⟩; refine ⟨_, rfl, ?_⟩))
 go_ret
 exact ⟨by first | rfl | (simp; done) | (simp [*]; done), by repeat (first | exact Drawn0.refl _ | apply Drawn0.step)⟩

def impl_isAddr.f (a0 : Int) : Option (Bool) := (impl_inRange.f a0 1 9).bind fun t197 => (some t197)
set_option maxHeartbeats 60000000 in
set_option maxRecDepth 100000 in
theorem impl_isAddr.calls (a0 : Int) (r : Bool) (w : World) (h : impl_isAddr.f a0 = some r) :
  Calls Try.prog 107 #[.int .i64 a0] w fun e w' => e = .returned (.bool r) ∧ Drawn0 w w' := by
 have H : ((impl_inRange.f a0 1 9).bind fun t197 => (some t197)) = some r := h
 clear h
 replace H := Option.bind_eq_some_iff.mp H
 obtain ⟨t197, A20, H⟩ := H
 replace H : (some t197) = some r := H
 have A2 := aM A20
 clear A20
 obtain rfl := Option.some.inj H
 go_enter Try.func107, Try.ntmps107
 go_wp2_with (first | ((with_reducible refine gate_callee (f := 106) rfl ?_); refine goesL_ (some 4) rfl rfl Try.func106 (by kernel_rfl) rfl #[.int .i64 a0, .int .i64 1, .int .i64 9] rfl xR ?_; (with_reducible refine (impl_inRange.calls a0 1 9 t197 _ A2.out).mono ?_); rintro e w' ⟨rfl, ⟨nd, rfl⟩⟩; refine ⟨_, rfl, ?_⟩))
 go_ret
 exact ⟨by first | rfl | (simp; done) | (simp [*]; done), by repeat (first | exact Drawn0.refl _ | apply Drawn0.step)⟩

def impl_isPort.f (a0 : Int) : Option (Bool) := (impl_inRange.f a0 0 3).bind fun t198 => (some t198)
set_option maxHeartbeats 60000000 in
set_option maxRecDepth 100000 in
theorem impl_isPort.calls (a0 : Int) (r : Bool) (w : World) (h : impl_isPort.f a0 = some r) :
  Calls Try.prog 115 #[.int .i64 a0] w fun e w' => e = .returned (.bool r) ∧ Drawn0 w w' := by
 have H : ((impl_inRange.f a0 0 3).bind fun t198 => (some t198)) = some r := h
 clear h
 replace H := Option.bind_eq_some_iff.mp H
 obtain ⟨t198, A20, H⟩ := H
 replace H : (some t198) = some r := H
 have A2 := aM A20
 clear A20
 obtain rfl := Option.some.inj H
 go_enter Try.func115, Try.ntmps115
 go_wp2_with (first | ((with_reducible refine gate_callee (f := 106) rfl ?_); refine goesL_ (some 4) rfl rfl Try.func106 (by kernel_rfl) rfl #[.int .i64 a0, .int .i64 0, .int .i64 3] rfl xR ?_; (with_reducible refine (impl_inRange.calls a0 0 3 t198 _ A2.out).mono ?_); rintro e w' ⟨rfl, ⟨nd, rfl⟩⟩; refine ⟨_, rfl, ?_⟩))
 go_ret
 exact ⟨by first | rfl | (simp; done) | (simp [*]; done), by repeat (first | exact Drawn0.refl _ | apply Drawn0.step)⟩

end Go.Proofs.Ytjmkbmpfknhcdaa.PFnExactHear

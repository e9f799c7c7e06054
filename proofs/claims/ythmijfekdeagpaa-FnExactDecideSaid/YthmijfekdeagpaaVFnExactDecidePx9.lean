/- Of the proof of laws.FnExactDecide: a part. No condition beyond what its theorems say. -/
import Derived.Test.YthmijfekdeagpaaVFnExactDecideWTight
import Derived.Test.YthmijfekdeagpaaVFnExactDecidePx0
namespace Go.Proofs.Ythmijfekdeagpaa.PFnExactDecide
open Go.RowKit Go.Proofs.YthmijfekdeagpaaW.PrintWords Go.Proofs.YthmijfekdeagpaaW.PrintLast Go.Proofs.YthmijfekdeagpaaW.PrintMore
attribute [local go_sem] max2_int min2_int max_two min_two max_three min_three max_four min_four   -- for this text's walks alone
set_option linter.unusedVariables false
set_option linter.unusedSimpArgs false

def laws_toVec.f (a0_0 : Int) (a0_1 : Int) (a0_2 : Int) (a0_3 : Int) : Option (Int × Int × Int × Int) := some (a0_0, a0_1, a0_2, a0_3)
set_option maxHeartbeats 60000000 in
set_option maxRecDepth 100000 in
theorem laws_toVec.calls (a0_0 : Int) (a0_1 : Int) (a0_2 : Int) (a0_3 : Int) (r1 : Int) (r2 : Int) (r3 : Int) (r4 : Int) (w : World) (h : laws_toVec.f a0_0 a0_1 a0_2 a0_3 = some (r1, r2, r3, r4)) :
  Calls Try.prog 134 #[.agg #[.int .i64 a0_0, .int .i64 a0_1, .int .i64 a0_2, .int .i64 a0_3]] w fun e w' => e = .returned (.agg #[.int .i64 r1, .int .i64 r2, .int .i64 r3, .int .i64 r4]) ∧ Below w.heap.size w w' := by
 have hu90 := Try.underlying90
 have hu73 := Try.underlying73
 have HB := aM (Below.refl w.heap.size w)
 have H : (some (a0_0, a0_1, a0_2, a0_3)) = some (r1, r2, r3, r4) := h
 clear h
 simp only [Option.some.injEq, Prod.mk.injEq] at H
 obtain ⟨rfl, rfl, rfl, rfl⟩ := H
 go_enter Try.func134, Try.ntmps134
 go_wp2_with (first | ((with_reducible refine gD (N := 1) rfl ?_); refine bE (N := 1) (cs := #[.int .i64 a0_0, .int .i64 a0_1, .int .i64 a0_2, .int .i64 a0_3]) (t := 90) ?_; intro gb252 hg w2 hbox hb; have BK252 := aM (hbox); have GW252 := gE hg (below_size (bl HB.out)); have GE252 := gE hg (below_size (bl HB.out)); replace HB := aM (bS (bl HB.out) hb); clear hb hbox hg) | ((with_reducible refine gD (N := 2) rfl ?_); refine bE (N := 2) (cs := #[.int .i64 0, .int .i64 0, .int .i64 0, .int .i64 0]) (t := 73) ?_; intro gb253 hg w3 hbox hb; have BK253 := aM (hbox); have GW253 := gE hg (below_size (bl HB.out)); have GE253 := gE hg (below_size (bl HB.out)); have NB252_253 := nL hg (blk_lt (bk BK252.out)); have NB253_252 := nG hg (blk_lt (bk BK252.out)); replace BK252 := aM (bB (bk BK252.out) hb); replace HB := aM (bS (bl HB.out) hb); clear hb hbox hg) | ((with_reducible refine gD (N := 3) rfl ?_); refine bE (N := 3) (cs := #[.int .i64 0, .int .i64 0, .int .i64 0, .int .i64 0]) (t := 73) ?_; intro gb254 hg w4 hbox hb; have BK254 := aM (hbox); have GW254 := gE hg (below_size (bl HB.out)); have GE254 := gE hg (below_size (bl HB.out)); have NB252_254 := nL hg (blk_lt (bk BK252.out)); have NB254_252 := nG hg (blk_lt (bk BK252.out)); have NB253_254 := nL hg (blk_lt (bk BK253.out)); have NB254_253 := nG hg (blk_lt (bk BK253.out)); replace BK252 := aM (bB (bk BK252.out) hb); replace BK253 := aM (bB (bk BK253.out) hb); replace HB := aM (bS (bl HB.out) hb); clear hb hbox hg; have hnb5 := NB252_253.out; have hnc5 := NB253_252.out; have hnb6 := NB252_254.out; have hnc6 := NB254_252.out; have hcz7 := cA4 BK252.out; have hnb8 := NB254_253.out; have hnc8 := NB253_254.out; have hcz9 := cA4 BK254.out; have hcz10 := cA4 BK253.out))
 refine bodyPost_ret (results_cell_row rfl _ _ gb253 73 #[.int .i64 a0_0, .int .i64 a0_1, .int .i64 a0_2, .int .i64 a0_3] (0, 0) _ rfl (pA4 (fm BK253.out)) Try.underlying73 rfl (by kernel_rfl)) rfl ?_
 exact ⟨xW, bl HB.out⟩

def laws_toPort.f (a0_0 : Bool) (a0_1 : Bool) (a0_2 : Int) (a0_3 : Int) (a0_4 : Int) (a0_5 : Int) (a0_6 : Int) (a0_7 : Int) (a0_8 : Int) (a0_9 : Int) (a0_10 : Bool) : Option (Bool × Bool × Int × Int × Int × Int × Int × Int × Int × Int × Bool) := (laws_toVec.f a0_2 a0_3 a0_4 a0_5).bind fun bt258 => (some (a0_0, a0_1, bt258.1, bt258.2.1, bt258.2.2.1, bt258.2.2.2, a0_6, a0_7, a0_8, a0_9, a0_10))
set_option maxHeartbeats 60000000 in
set_option maxRecDepth 100000 in
theorem laws_toPort.calls (a0_0 : Bool) (a0_1 : Bool) (a0_2 : Int) (a0_3 : Int) (a0_4 : Int) (a0_5 : Int) (a0_6 : Int) (a0_7 : Int) (a0_8 : Int) (a0_9 : Int) (a0_10 : Bool) (r1 : Bool) (r2 : Bool) (r3 : Int) (r4 : Int) (r5 : Int) (r6 : Int) (r7 : Int) (r8 : Int) (r9 : Int) (r10 : Int) (r11 : Bool) (w : World) (h : laws_toPort.f a0_0 a0_1 a0_2 a0_3 a0_4 a0_5 a0_6 a0_7 a0_8 a0_9 a0_10 = some (r1, r2, r3, r4, r5, r6, r7, r8, r9, r10, r11)) :
  Calls Try.prog 143 #[.agg #[.bool a0_0, .bool a0_1, .int .i64 a0_2, .int .i64 a0_3, .int .i64 a0_4, .int .i64 a0_5, .int .i64 a0_6, .int .i64 a0_7, .int .i64 a0_8, .int .i64 a0_9, .bool a0_10]] w fun e w' => e = .returned (.agg #[.bool r1, .bool r2, .int .i64 r3, .int .i64 r4, .int .i64 r5, .int .i64 r6, .int .i64 r7, .int .i64 r8, .int .i64 r9, .int .i64 r10, .bool r11]) ∧ Below w.heap.size w w' := by
 have hu160 := Try.underlying160
 have hu79 := Try.underlying79
 have hu90 := Try.underlying90
 have hu73 := Try.underlying73
 have HB := aM (Below.refl w.heap.size w)
 have H : ((laws_toVec.f a0_2 a0_3 a0_4 a0_5).bind fun bt258 => (some (a0_0, a0_1, bt258.1, bt258.2.1, bt258.2.2.1, bt258.2.2.2, a0_6, a0_7, a0_8, a0_9, a0_10))) = some (r1, r2, r3, r4, r5, r6, r7, r8, r9, r10, r11) := h
 clear h
 replace H := Option.bind_eq_some_iff.mp H
 obtain ⟨⟨t258, t259, t260, t261⟩, A20, H⟩ := H
 replace H : (some (a0_0, a0_1, t258, t259, t260, t261, a0_6, a0_7, a0_8, a0_9, a0_10)) = some (r1, r2, r3, r4, r5, r6, r7, r8, r9, r10, r11) := H
 have A2 := aM A20
 clear A20
 simp only [Option.some.injEq, Prod.mk.injEq] at H
 obtain ⟨rfl, rfl, rfl, rfl, rfl, rfl, rfl, rfl, rfl, rfl, rfl⟩ := H
 go_enter Try.func143, Try.ntmps143
 go_wp2_with (first | ((with_reducible refine gD (N := 1) rfl ?_); refine bE (N := 1) (cs := #[.bool a0_0, .bool a0_1, .int .i64 a0_2, .int .i64 a0_3, .int .i64 a0_4, .int .i64 a0_5, .int .i64 a0_6, .int .i64 a0_7, .int .i64 a0_8, .int .i64 a0_9, .bool a0_10]) (t := 160) ?_; intro gb255 hg w3 hbox hb; have BK255 := aM (hbox); have GW255 := gE hg (below_size (bl HB.out)); have GE255 := gE hg (below_size (bl HB.out)); replace HB := aM (bS (bl HB.out) hb); clear hb hbox hg) | ((with_reducible refine gD (N := 2) rfl ?_); refine bE (N := 2) (cs := #[.bool false, .bool false, .int .i64 0, .int .i64 0, .int .i64 0, .int .i64 0, .int .i64 0, .int .i64 0, .int .i64 0, .int .i64 0, .bool false]) (t := 79) ?_; intro gb256 hg w4 hbox hb; have BK256 := aM (hbox); have GW256 := gE hg (below_size (bl HB.out)); have GE256 := gE hg (below_size (bl HB.out)); have NB255_256 := nL hg (blk_lt (bk BK255.out)); have NB256_255 := nG hg (blk_lt (bk BK255.out)); replace BK255 := aM (bB (bk BK255.out) hb); replace HB := aM (bS (bl HB.out) hb); clear hb hbox hg) | ((with_reducible refine gD (N := 3) rfl ?_); refine bE (N := 3) (cs := #[.bool false, .bool false, .int .i64 0, .int .i64 0, .int .i64 0, .int .i64 0, .int .i64 0, .int .i64 0, .int .i64 0, .int .i64 0, .bool false]) (t := 79) ?_; intro gb257 hg w5 hbox hb; have BK257 := aM (hbox); have GW257 := gE hg (below_size (bl HB.out)); have GE257 := gE hg (below_size (bl HB.out)); have NB255_257 := nL hg (blk_lt (bk BK255.out)); have NB257_255 := nG hg (blk_lt (bk BK255.out)); have NB256_257 := nL hg (blk_lt (bk BK256.out)); have NB257_256 := nG hg (blk_lt (bk BK256.out)); replace BK255 := aM (bB (bk BK255.out) hb); replace BK256 := aM (bB (bk BK256.out) hb); replace HB := aM (bS (bl HB.out) hb); clear hb hbox hg; have hnb6 := NB255_256.out; have hnc6 := NB256_255.out; have hnb7 := NB255_257.out; have hnc7 := NB257_255.out; have hcz8 := cA11 BK255.out; have hnb9 := NB257_256.out; have hnc9 := NB256_257.out; have hcz10 := cA11 BK257.out) | ((with_reducible refine gC (f := 134) rfl ?_); refine gL (some 12) Try.func134 #[.agg #[.int .i64 a0_2, .int .i64 a0_3, .int .i64 a0_4, .int .i64 a0_5]] ?_; (with_reducible refine (laws_toVec.calls a0_2 a0_3 a0_4 a0_5 t258 t259 t260 t261 _ A2.out).mono ?_); rintro e w11 ⟨rfl, hb⟩; refine ⟨_, rfl, ?_⟩; replace BK255 := aM (bB (fm BK255.out) hb); replace BK256 := aM (bB (fm BK256.out) hb); replace BK257 := aM (bB (bp (bp (fm BK257.out))) hb); replace HB := aM (bS (bl HB.out) hb); (try clear hb); have hcz12 := cA11 BK257.out; have hcz13 := cA11 BK255.out; have hcz14 := cA11 BK256.out))
 refine bodyPost_ret (results_cell_row rfl _ _ gb256 79 #[.bool a0_0, .bool a0_1, .int .i64 t258, .int .i64 t259, .int .i64 t260, .int .i64 t261, .int .i64 a0_6, .int .i64 a0_7, .int .i64 a0_8, .int .i64 a0_9, .bool a0_10] (0, 0) _ rfl (pA11 (fm BK256.out)) Try.underlying79 rfl (by kernel_rfl)) rfl ?_
 exact ⟨xW, bl HB.out⟩

def laws_toPortS.l0 : Nat → List (S160) → List (S79) → Int → Option ((List (S79)))
 | 0, _, _, _ => none
 | k + 1, x0, x3, x4 => if x4 < (x0.length : Int) then (if 0 ≤ x4 then ((laws_toPort.f ((rd_T160 x0 x4).f0) ((rd_T160 x0 x4).f1) ((rd_T160 x0 x4).f2.f0) ((rd_T160 x0 x4).f2.f1) ((rd_T160 x0 x4).f2.f2) ((rd_T160 x0 x4).f2.f3) ((rd_T160 x0 x4).f3) ((rd_T160 x0 x4).f4) ((rd_T160 x0 x4).f5) ((rd_T160 x0 x4).f6) ((rd_T160 x0 x4).f7)).bind fun bt266 => (if x4 < (x3.length : Int) then (laws_toPortS.l0 k x0 (x3.set (x4 : Int).toNat (⟨bt266.1, bt266.2.1, (⟨bt266.2.2.1, bt266.2.2.2.1, bt266.2.2.2.2.1, bt266.2.2.2.2.2.1⟩ : S73), bt266.2.2.2.2.2.2.1, bt266.2.2.2.2.2.2.2.1, bt266.2.2.2.2.2.2.2.2.1, bt266.2.2.2.2.2.2.2.2.2.1, bt266.2.2.2.2.2.2.2.2.2.2⟩ : S79)) (wrap64 (x4 + 1))) else (none))) else (none)) else (some x3)
def laws_toPortS.f (k : Nat) (l0 : List (S160)) : Option ((List (S79))) := if 0 ≤ (l0.length : Int) then (if ((l0.length : Int) : Int).toNat ≤ 3518437208883 then (laws_toPortS.l0 k l0 (List.replicate ((l0.length : Int) : Int).toNat z79) 0) else (none)) else (none)
theorem laws_toPortS.mono_l : ∀ k, (∀ y0 y1 y2, LeO (laws_toPortS.l0 k y0 y1 y2) (laws_toPortS.l0 (k + 1) y0 y1 y2))
 | 0 => fun _ _ _ r h => by simp [laws_toPortS.l0] at h
 | k + 1 => by
  have ih0 := laws_toPortS.mono_l k
  ·intro y0 y1 y2
   unfold laws_toPortS.l0
   repeat' first
   | (with_reducible exact ih0 _ _ _)
   | (with_reducible exact LeO.refl _)
   | (with_reducible exact LeO.none _)
   | (with_reducible refine LeO.ite ?_ ?_)
   | (with_reducible refine LeO.bind ?_ (fun _ => ?_))
   | exact ih0 _ _ _
   | exact LeO.none _
   | refine LeO.ite ?_ ?_
   | refine LeO.bind ?_ (fun _ => ?_)
theorem laws_toPortS.mono : ∀ a0 k, LeO (laws_toPortS.f k a0) (laws_toPortS.f (k + 1) a0) := by
 intro a0 k
 have ih0 := laws_toPortS.mono_l k
 unfold laws_toPortS.f
 repeat' first
   | (with_reducible exact ih0 _ _ _)
   | (with_reducible exact LeO.refl _)
   | (with_reducible exact LeO.none _)
   | (with_reducible refine LeO.ite ?_ ?_)
   | (with_reducible refine LeO.bind ?_ (fun _ => ?_))
   | exact ih0 _ _ _
   | exact LeO.none _
   | refine LeO.ite ?_ ?_
   | refine LeO.bind ?_ (fun _ => ?_)
set_option maxHeartbeats 60000000 in
set_option maxRecDepth 100000 in
theorem laws_toPortS.calls (k : Nat) (A0 : Option Addr) (c0 : Nat) (l0 : List (S160)) (r : List (S79)) (w : World) (hr0 : Kd.C k160 w A0 l0.length l0) (hc0 : l0.length ≤ c0) (h : laws_toPortS.f k l0 = some r) :
  Calls Try.prog 70 #[.slice A0 l0.length c0] w fun e w' => ∃ v0_ : Value, e = .returned (v0_) ∧ Kd.R k79 79 w' w.heap.size (fun _ => True) v0_ r ∧ Below w.heap.size w w' := by
 have hu160 := Try.underlying160
 have hu79 := Try.underlying79
 have HR0 := aM hr0
 have HC0 := aM hc0
 clear hr0 hc0
 have HB := aM (Below.refl w.heap.size w)
 have H : (if 0 ≤ (l0.length : Int) then (if ((l0.length : Int) : Int).toNat ≤ 3518437208883 then (laws_toPortS.l0 k l0 (List.replicate ((l0.length : Int) : Int).toNat z79) 0) else (none)) else (none)) = some r := h
 clear h
 by_cases c2 : 0 ≤ (l0.length : Int)
 case neg =>
  rw [if_neg c2] at H
  exact absurd H (by simp)
 rw [if_pos c2] at H
 have c2b0 := eq_true c2
 have c2b1 : decide (0 ≤ (l0.length : Int)) = true := decide_eq_true c2
 clear c2
 by_cases c3 : ((l0.length : Int) : Int).toNat ≤ 3518437208883
 case neg =>
  rw [if_neg c3] at H
  exact absurd H (by simp)
 rw [if_pos c3] at H
 have c3b0 := eq_true c3
 have c3b1 : decide (((l0.length : Int) : Int).toNat ≤ 3518437208883) = true := decide_eq_true c3
 clear c3
 obtain ⟨y262, hy262⟩ : ∃ y_ : List (S79), y_ = (List.replicate ((l0.length : Int) : Int).toNat z79) := ⟨_, rfl⟩
 replace H : (laws_toPortS.l0 k l0 y262 0) = some r := by first | (rw [hy262]; with_reducible exact H) | (have H2_ := (Option.bind_some _ _).symm.trans H; rw [hy262]; with_reducible exact H2_) | (have H2_ := (Option.bind_some _ _).symm.trans H; with_reducible exact H2_) | with_reducible exact H | (rw [hy262]; exact H) | exact H
 have Ny262 := aM hy262
 clear hy262
 have H' := aM H
 clear H
 go_enter Try.func70, Try.ntmps70
 go_wp2_with (first | ((with_reducible refine gD (N := 7) rfl ?_); refine Kd.R_make k79 _ 79 rfl (N := 7) rfl 26 _ _ rfl (l0.length : Int) rfl rfl Try.underlying26 (.agg #[(.bool false), (.bool false), (.int .i64 0), (.int .i64 0), (.int .i64 0), (.int .i64 0), (.int .i64 0), (.int .i64 0), (.int .i64 0), (.int .i64 0), (.bool false)]) 80 info79 rfl (by decide) (by omega) z79 (ok := fun _ => True) (okp := fun _ => True) (k79_mkM _ _ _ z79 ) (fun _ hk => hk) trivial (of_decide_eq_true (by first | (with_reducible assumption) | assumption)) (Nat.le_trans (Nat.mul_le_mul_right _ (of_decide_eq_true (by first | (with_reducible assumption) | assumption) : (l0.length : Int).toNat ≤ 3518437208883)) (by omega)) (Below.refl _ _) (Nat.le_refl _) ?_; intro v263 w4 ho5 hb hg_ hnew_; clear hg_ hnew_; (first | rw [← Ny262.out] at ho5 | (simp only [Int.reduceToNat] at ho5; rw [← Ny262.out] at ho5)); have HO264 := aM (Kd.R_lower ho5 (below_size (bl HB.out))); replace HB := aM (bS (bl HB.out) hb); clear hb ho5))
 go_loopg [4] k (fun kq v4 w' => ∃ (x3_1 : List (S79)) (x4_1 : Int), v4 = .int .i64 x4_1 ∧ Aside0 (laws_toPortS.l0 kq l0 x3_1 x4_1 = some r) ∧ Aside0 (kq ≤ k) ∧ Aside0 (Kd.R k79 79 w' w.heap.size (fun _ => True) v263 x3_1) ∧ Aside0 (Below w.heap.size w w'))
 case atStart => exact ⟨(y262), (0), xE, H', ⟨Nat.le_refl _⟩, ⟨kr HO264.out⟩, ⟨bl HB.out⟩⟩
 case round =>
  clear H'
  try clear c2
  try clear c2b0
  try clear c2b1
  try clear p2
  try clear c3
  try clear c3b0
  try clear c3b1
  obtain ⟨x3_1, x4_1, rfl, HA, HK1, HO_3, HB⟩ := hrel
  cases gk with
  | zero => exact absurd HA.out (by simp [laws_toPortS.l0])
  | succ k1 =>
   have H := HA.out
   clear HA
   simp only [laws_toPortS.l0] at H
   by_cases c6 : x4_1 < (l0.length : Int)
   case neg =>
    rw [if_neg c6] at H
    have c6b0 : decide (x4_1 < (l0.length : Int)) = false := decide_eq_false c6
    clear c6
    obtain rfl := Option.some.inj H
    go_wp2
    go_ret
    exact ⟨_, xW, by (with_reducible repeat (first | apply Kd.R_alloc | apply Kd.R_drewN | apply Kd.R_drew)); exact HO_3.out, bl HB.out⟩
   rw [if_pos c6] at H
   have c6b0 : decide (x4_1 < (l0.length : Int)) = true := decide_eq_true c6
   clear c6
   by_cases c7 : 0 ≤ x4_1
   case neg =>
    rw [if_neg c7] at H
    exact absurd H (by simp)
   rw [if_pos c7] at H
   have c7b0 : decide (0 ≤ x4_1) = true := decide_eq_true c7
   clear c7
   replace H := Option.bind_eq_some_iff.mp H
   obtain ⟨⟨t266, t267, t268, t269, t270, t271, t272, t273, t274, t275, t276⟩, A80, H⟩ := H
   replace H : (if x4_1 < (x3_1.length : Int) then (laws_toPortS.l0 k1 l0 (x3_1.set (x4_1 : Int).toNat (⟨t266, t267, (⟨t268, t269, t270, t271⟩ : S73), t272, t273, t274, t275, t276⟩ : S79)) (wrap64 (x4_1 + 1))) else (none)) = some r := H
   have A8 := aM A80
   clear A80
   by_cases c9 : x4_1 < (x3_1.length : Int)
   case neg =>
    rw [if_neg c9] at H
    exact absurd H (by simp)
   rw [if_pos c9] at H
   have c9b0 : decide (x4_1 < (x3_1.length : Int)) = true := decide_eq_true c9
   clear c9
   obtain ⟨y277, hy277⟩ : ∃ y_ : List (S79), y_ = (x3_1.set (x4_1 : Int).toNat (⟨t266, t267, (⟨t268, t269, t270, t271⟩ : S73), t272, t273, t274, t275, t276⟩ : S79)) := ⟨_, rfl⟩
   replace H : (laws_toPortS.l0 k1 l0 y277 (wrap64 (x4_1 + 1))) = some r := by first | (rw [hy277]; with_reducible exact H) | (have H2_ := (Option.bind_some _ _).symm.trans H; rw [hy277]; with_reducible exact H2_) | (have H2_ := (Option.bind_some _ _).symm.trans H; with_reducible exact H2_) | with_reducible exact H | (rw [hy277]; exact H) | exact H
   have Ny277 := aM hy277
   clear hy277
   have H' := aM H
   clear H
   have p265 : 0 ≤ (x4_1 : Int) := of_decide_eq_true (by first | (with_reducible assumption) | assumption)
   have q265 : x4_1 < (l0.length : Int) := of_decide_eq_true (by first | (with_reducible assumption) | assumption)
   obtain ⟨ad265, e265, hx265_0, hx265_1, hx265_2, hx265_3, hx265_4, hx265_5, hx265_6, hx265_7, hx265_8, hx265_9, hx265_10⟩ := at_T160 HR0.out x4_1 p265 q265
   cases e265
   replace hx265_0 := xB HB hx265_0
   replace hx265_1 := xB HB hx265_1
   replace hx265_2 := xB HB hx265_2
   replace hx265_3 := xB HB hx265_3
   replace hx265_4 := xB HB hx265_4
   replace hx265_5 := xB HB hx265_5
   replace hx265_6 := xB HB hx265_6
   replace hx265_7 := xB HB hx265_7
   replace hx265_8 := xB HB hx265_8
   replace hx265_9 := xB HB hx265_9
   replace hx265_10 := xB HB hx265_10
   replace p265 := eq_true p265
   replace q265 := eq_true q265
   go_wp2_with (first | ((with_reducible refine gC (f := 143) rfl ?_); refine gL (some 20) Try.func143 #[.agg #[.bool ((rd_T160 l0 x4_1).f0), .bool ((rd_T160 l0 x4_1).f1), .int .i64 ((rd_T160 l0 x4_1).f2.f0), .int .i64 ((rd_T160 l0 x4_1).f2.f1), .int .i64 ((rd_T160 l0 x4_1).f2.f2), .int .i64 ((rd_T160 l0 x4_1).f2.f3), .int .i64 ((rd_T160 l0 x4_1).f3), .int .i64 ((rd_T160 l0 x4_1).f4), .int .i64 ((rd_T160 l0 x4_1).f5), .int .i64 ((rd_T160 l0 x4_1).f6), .bool ((rd_T160 l0 x4_1).f7)]] ?_; (with_reducible refine (laws_toPort.calls ((rd_T160 l0 x4_1).f0) ((rd_T160 l0 x4_1).f1) ((rd_T160 l0 x4_1).f2.f0) ((rd_T160 l0 x4_1).f2.f1) ((rd_T160 l0 x4_1).f2.f2) ((rd_T160 l0 x4_1).f2.f3) ((rd_T160 l0 x4_1).f3) ((rd_T160 l0 x4_1).f4) ((rd_T160 l0 x4_1).f5) ((rd_T160 l0 x4_1).f6) ((rd_T160 l0 x4_1).f7) t266 t267 t268 t269 t270 t271 t272 t273 t274 t275 t276 _ A8.out).mono ?_); rintro e w11 ⟨rfl, hb⟩; refine ⟨_, rfl, ?_⟩; replace HO_3 := aM (kB (kr HO_3.out) hb); replace HB := aM (bS (bl HB.out) hb); (try clear hb); have p10 : 0 ≤ (x4_1 : Int) := of_decide_eq_true (by first | (with_reducible assumption) | assumption); have q10 : (x4_1 : Int) < ((x3_1.length : Int) : Int) := of_decide_eq_true (by first | (with_reducible assumption) | assumption); obtain ⟨go10, co10, eo10, gb10, gl10, cl10, HG10⟩ := Kd.R_form HO_3.out (by omega); (first | cases eo10 | (injection eo10 with ea_ en_ ec_; (first | subst ea_ | (injection ea_ with ea_; subst ea_)); subst ec_; clear en_)); have GB10 := aM gb10; have GG10 := aM HG10; clear gb10 gl10 HG10; obtain ⟨ce10, hcl10, hM10, hcc10, hfr10⟩ := Kd.R_elem HO_3.out z79 (x4_1 : Int) p10 q10; obtain rfl := k79_openM hM10; have hx10_0 : w11.cell? ⟨go10, (x4_1 : Int).toNat * 11, none⟩ = some (.bool ((rd_T79 x3_1 x4_1).f0)) := hcc10 0 _ rfl; have hx10_1 : w11.cell? ⟨go10, (x4_1 : Int).toNat * 11 + 1, none⟩ = some (.bool ((rd_T79 x3_1 x4_1).f1)) := hcc10 1 _ rfl; have hx10_2 : w11.cell? ⟨go10, (x4_1 : Int).toNat * 11 + 2, none⟩ = some (.int .i64 ((rd_T79 x3_1 x4_1).f2.f0)) := hcc10 2 _ rfl; have hx10_3 : w11.cell? ⟨go10, (x4_1 : Int).toNat * 11 + 3, none⟩ = some (.int .i64 ((rd_T79 x3_1 x4_1).f2.f1)) := hcc10 3 _ rfl; have hx10_4 : w11.cell? ⟨go10, (x4_1 : Int).toNat * 11 + 4, none⟩ = some (.int .i64 ((rd_T79 x3_1 x4_1).f2.f2)) := hcc10 4 _ rfl; have hx10_5 : w11.cell? ⟨go10, (x4_1 : Int).toNat * 11 + 5, none⟩ = some (.int .i64 ((rd_T79 x3_1 x4_1).f2.f3)) := hcc10 5 _ rfl; have hx10_6 : w11.cell? ⟨go10, (x4_1 : Int).toNat * 11 + 6, none⟩ = some (.int .i64 ((rd_T79 x3_1 x4_1).f3)) := hcc10 6 _ rfl; have hx10_7 : w11.cell? ⟨go10, (x4_1 : Int).toNat * 11 + 7, none⟩ = some (.int .i64 ((rd_T79 x3_1 x4_1).f4)) := hcc10 7 _ rfl; have hx10_8 : w11.cell? ⟨go10, (x4_1 : Int).toNat * 11 + 8, none⟩ = some (.int .i64 ((rd_T79 x3_1 x4_1).f5)) := hcc10 8 _ rfl; have hx10_9 : w11.cell? ⟨go10, (x4_1 : Int).toNat * 11 + 9, none⟩ = some (.int .i64 ((rd_T79 x3_1 x4_1).f6)) := hcc10 9 _ rfl; have hx10_10 : w11.cell? ⟨go10, (x4_1 : Int).toNat * 11 + 10, none⟩ = some (.bool ((rd_T79 x3_1 x4_1).f7)) := hcc10 10 _ rfl; have hf10_0 : w11.frozen? ⟨go10, (x4_1 : Int).toNat * 11, none⟩ = false := hfr10 0; have hf10_1 : w11.frozen? ⟨go10, (x4_1 : Int).toNat * 11 + 1, none⟩ = false := hfr10 1; have hf10_2 : w11.frozen? ⟨go10, (x4_1 : Int).toNat * 11 + 2, none⟩ = false := hfr10 2; have hf10_3 : w11.frozen? ⟨go10, (x4_1 : Int).toNat * 11 + 3, none⟩ = false := hfr10 3; have hf10_4 : w11.frozen? ⟨go10, (x4_1 : Int).toNat * 11 + 4, none⟩ = false := hfr10 4; have hf10_5 : w11.frozen? ⟨go10, (x4_1 : Int).toNat * 11 + 5, none⟩ = false := hfr10 5; have hf10_6 : w11.frozen? ⟨go10, (x4_1 : Int).toNat * 11 + 6, none⟩ = false := hfr10 6; have hf10_7 : w11.frozen? ⟨go10, (x4_1 : Int).toNat * 11 + 7, none⟩ = false := hfr10 7; have hf10_8 : w11.frozen? ⟨go10, (x4_1 : Int).toNat * 11 + 8, none⟩ = false := hfr10 8; have hf10_9 : w11.frozen? ⟨go10, (x4_1 : Int).toNat * 11 + 9, none⟩ = false := hfr10 9; have hf10_10 : w11.frozen? ⟨go10, (x4_1 : Int).toNat * 11 + 10, none⟩ = false := hfr10 10; clear hcl10 hcc10 hfr10 hM10; replace p10 := eq_true p10; replace q10 := eq_true q10; have HX12 := aM (show Kd.R k79 79 w11 w.heap.size (fun _ => True) (.slice (some ⟨go10, 0, none⟩) x3_1.length co10) x3_1 from (kr HO_3.out)); obtain ⟨ce12, hcl12, hM12, hcc12, hfr12⟩ := Kd.R_elem HX12.out z79 (x4_1 : Int) (of_decide_eq_true (by first | (with_reducible assumption) | assumption)) (by have h_ : (x4_1 : Int) < ((x3_1.length : Int) : Int) := of_decide_eq_true (by first | (with_reducible assumption) | assumption); first | exact h_ | (have e_ := (Kd.R_reads' HO_3.out).1; omega) | simpa using h_); obtain rfl := k79_openM hM12; have HP12 := Kd.R_seg HX12.out (x4_1 : Int) (of_decide_eq_true (by first | (with_reducible assumption) | assumption)) (by have h_ : (x4_1 : Int) < ((x3_1.length : Int) : Int) := of_decide_eq_true (by first | (with_reducible assumption) | assumption); first | exact h_ | (have e_ := (Kd.R_reads' HO_3.out).1; omega) | simpa using h_) (seg := [.bool t266, .bool t267, .int .i64 t268, .int .i64 t269, .int .i64 t270, .int .i64 t271, .int .i64 t272, .int .i64 t273, .int .i64 t274, .int .i64 t275, .bool t276]) (j := 0) hcl12 hcc12 (show 11 ≤ 11 from by decide) (x' := (⟨t266, t267, (⟨t268, t269, t270, t271⟩ : S73), t272, t273, t274, t275, t276⟩ : S79)) (k79_mkM _ _ _ (⟨t266, t267, (⟨t268, t269, t270, t271⟩ : S73), t272, t273, t274, t275, t276⟩ : S79) ) (fun _ hk => hk); have hx12_0 := hcc12 0 _ rfl; (try simp only [show (k79).sz = 11 from rfl, Nat.mul_one, Nat.add_zero] at hx12_0); have hf12_0 := hfr12 0; (try simp only [show (k79).sz = 11 from rfl, Nat.mul_one, Nat.add_zero] at hf12_0); have hx12_1 := hcc12 1 _ rfl; (try simp only [show (k79).sz = 11 from rfl, Nat.mul_one, Nat.add_zero] at hx12_1); have hf12_1 := hfr12 1; (try simp only [show (k79).sz = 11 from rfl, Nat.mul_one, Nat.add_zero] at hf12_1); have hx12_2 := hcc12 2 _ rfl; (try simp only [show (k79).sz = 11 from rfl, Nat.mul_one, Nat.add_zero] at hx12_2); have hf12_2 := hfr12 2; (try simp only [show (k79).sz = 11 from rfl, Nat.mul_one, Nat.add_zero] at hf12_2); have hx12_3 := hcc12 3 _ rfl; (try simp only [show (k79).sz = 11 from rfl, Nat.mul_one, Nat.add_zero] at hx12_3); have hf12_3 := hfr12 3; (try simp only [show (k79).sz = 11 from rfl, Nat.mul_one, Nat.add_zero] at hf12_3); have hx12_4 := hcc12 4 _ rfl; (try simp only [show (k79).sz = 11 from rfl, Nat.mul_one, Nat.add_zero] at hx12_4); have hf12_4 := hfr12 4; (try simp only [show (k79).sz = 11 from rfl, Nat.mul_one, Nat.add_zero] at hf12_4); have hx12_5 := hcc12 5 _ rfl; (try simp only [show (k79).sz = 11 from rfl, Nat.mul_one, Nat.add_zero] at hx12_5); have hf12_5 := hfr12 5; (try simp only [show (k79).sz = 11 from rfl, Nat.mul_one, Nat.add_zero] at hf12_5); have hx12_6 := hcc12 6 _ rfl; (try simp only [show (k79).sz = 11 from rfl, Nat.mul_one, Nat.add_zero] at hx12_6); have hf12_6 := hfr12 6; (try simp only [show (k79).sz = 11 from rfl, Nat.mul_one, Nat.add_zero] at hf12_6); have hx12_7 := hcc12 7 _ rfl; (try simp only [show (k79).sz = 11 from rfl, Nat.mul_one, Nat.add_zero] at hx12_7); have hf12_7 := hfr12 7; (try simp only [show (k79).sz = 11 from rfl, Nat.mul_one, Nat.add_zero] at hf12_7); have hx12_8 := hcc12 8 _ rfl; (try simp only [show (k79).sz = 11 from rfl, Nat.mul_one, Nat.add_zero] at hx12_8); have hf12_8 := hfr12 8; (try simp only [show (k79).sz = 11 from rfl, Nat.mul_one, Nat.add_zero] at hf12_8); have hx12_9 := hcc12 9 _ rfl; (try simp only [show (k79).sz = 11 from rfl, Nat.mul_one, Nat.add_zero] at hx12_9); have hf12_9 := hfr12 9; (try simp only [show (k79).sz = 11 from rfl, Nat.mul_one, Nat.add_zero] at hf12_9); have hx12_10 := hcc12 10 _ rfl; (try simp only [show (k79).sz = 11 from rfl, Nat.mul_one, Nat.add_zero] at hx12_10); have hf12_10 := hfr12 10; (try simp only [show (k79).sz = 11 from rfl, Nat.mul_one, Nat.add_zero] at hf12_10); clear hcl12 hcc12 hfr12 hM12) | ((with_reducible refine gate_store (t := 79) (p := 21) rfl ?_); refine store_event (t := 79) (p := 21) (v := ?vo_w13) (w1 := (((((((((((w11.setCell ⟨go10, (x4_1 : Int).toNat * 11, none⟩ (.bool t266)).setCell ⟨go10, (x4_1 : Int).toNat * 11 + 1, none⟩ (.bool t267)).setCell ⟨go10, (x4_1 : Int).toNat * 11 + 2, none⟩ (.int .i64 t268)).setCell ⟨go10, (x4_1 : Int).toNat * 11 + 3, none⟩ (.int .i64 t269)).setCell ⟨go10, (x4_1 : Int).toNat * 11 + 4, none⟩ (.int .i64 t270)).setCell ⟨go10, (x4_1 : Int).toNat * 11 + 5, none⟩ (.int .i64 t271)).setCell ⟨go10, (x4_1 : Int).toNat * 11 + 6, none⟩ (.int .i64 t272)).setCell ⟨go10, (x4_1 : Int).toNat * 11 + 7, none⟩ (.int .i64 t273)).setCell ⟨go10, (x4_1 : Int).toNat * 11 + 8, none⟩ (.int .i64 t274)).setCell ⟨go10, (x4_1 : Int).toNat * 11 + 9, none⟩ (.int .i64 t275)).setCell ⟨go10, (x4_1 : Int).toNat * 11 + 10, none⟩ (.bool t276))) ?hg ?ho ?hn ?hr ?_; (case ho => rfl); (case hg => rfl); (case hn => rfl); (case hr => first | (go_simp; done) | (go_simp; rfl) | (obtain ⟨A_, c_, e_⟩ := Kd.R_slice HO_3.out; subst e_; (first | (go_simp; done) | (go_simp; rfl))) | (obtain ⟨A_, c_, e_⟩ := Kd.S_slice HO_3.out; subst e_; (first | (go_simp; done) | (go_simp; rfl)))); intro w13 hw; have hg : w11.grownBy w13 (some go10) := (by rw [hw]; exact HP12.2); have hp_ : Kd.R k79 79 w13 w.heap.size (fun _ => True) (.slice (some ⟨go10, 0, none⟩) x3_1.length co10) y277 := (by rw [hw, Ny277.out]; exact HP12.1); clear HP12; replace HO_3 := aM (hp_); replace HB := aM ((by rw [hw]; exact below_set (below_set (below_set (below_set (below_set (below_set (below_set (below_set (below_set (below_set (below_set (HB.out) GB10.out) GB10.out) GB10.out) GB10.out) GB10.out) GB10.out) GB10.out) GB10.out) GB10.out) GB10.out) GB10.out : Below w.heap.size w w13)); clear hg hw hp_))
   go_roundg k1
   case measure => have := HK1.out; omega
   case rel => exact ⟨(y277), (wrap64 (x4_1 + 1)), xE, H', ⟨by have := HK1.out; omega⟩, ⟨kr HO_3.out⟩, ⟨bl HB.out⟩⟩

def laws_toBridge.f (k : Nat) (a0_0 : Int) (l0_1 : List (S160)) : Option (Int × (List (S79))) := (laws_toPortS.f k l0_1).bind fun t281 => (some (a0_0, t281))
theorem laws_toBridge.mono : ∀ a0 a1 k, LeO (laws_toBridge.f k a0 a1) (laws_toBridge.f (k + 1) a0 a1) := by
 intro a0 a1 k
 unfold laws_toBridge.f
 repeat' first
   | (with_reducible exact laws_toPortS.mono _ _)
   | (with_reducible exact LeO.refl _)
   | (with_reducible exact LeO.none _)
   | (with_reducible refine LeO.ite ?_ ?_)
   | (with_reducible refine LeO.bind ?_ (fun _ => ?_))
   | exact laws_toPortS.mono _ _
   | exact LeO.none _
   | refine LeO.ite ?_ ?_
   | refine LeO.bind ?_ (fun _ => ?_)
set_option maxHeartbeats 60000000 in
set_option maxRecDepth 100000 in
theorem laws_toBridge.calls (k : Nat) (a0_0 : Int) (A0_1 : Option Addr) (c0_1 : Nat) (l0_1 : List (S160)) (r1 : Int) (r2 : List (S79)) (w : World) (hr0_1 : Kd.C k160 w A0_1 l0_1.length l0_1) (hc0_1 : l0_1.length ≤ c0_1) (h : laws_toBridge.f k a0_0 l0_1 = some (r1, r2)) :
  Calls Try.prog 14 #[.agg #[.int .i64 a0_0, .slice A0_1 l0_1.length c0_1]] w fun e w' => ∃ v1_ : Value, e = .returned (.agg #[.int .i64 r1, v1_]) ∧ Kd.R k79 79 w' w.heap.size (fun _ => True) v1_ r2 ∧ Below w.heap.size w w' := by
 have hu24 := Try.underlying24
 have hu28 := Try.underlying28
 have HR0_1 := aM hr0_1
 have HC0_1 := aM hc0_1
 clear hr0_1 hc0_1
 have HB := aM (Below.refl w.heap.size w)
 have H : ((laws_toPortS.f k l0_1).bind fun t281 => (some (a0_0, t281))) = some (r1, r2) := h
 clear h
 replace H := Option.bind_eq_some_iff.mp H
 obtain ⟨t281, A20, H⟩ := H
 replace H : (some (a0_0, t281)) = some (r1, r2) := H
 have A2 := aM A20
 clear A20
 simp only [Option.some.injEq, Prod.mk.injEq] at H
 obtain ⟨rfl, rfl⟩ := H
 go_enter Try.func14, Try.ntmps14
 go_wp2_with (first | ((with_reducible refine gD (N := 1) rfl ?_); refine bE (N := 1) (cs := #[.int .i64 a0_0, .slice A0_1 l0_1.length c0_1]) (t := 24) ?_; intro gb278 hg w3 hbox hb; have BK278 := aM (hbox); have GW278 := gE hg (below_size (bl HB.out)); have GE278 := gE hg (below_size (bl HB.out)); replace HB := aM (bS (bl HB.out) hb); clear hb hbox hg) | ((with_reducible refine gD (N := 2) rfl ?_); refine bE (N := 2) (cs := #[.int .i64 0, .slice none 0 0]) (t := 28) ?_; intro gb279 hg w4 hbox hb; have BK279 := aM (hbox); have GW279 := gE hg (below_size (bl HB.out)); have GE279 := gE hg (below_size (bl HB.out)); have NB278_279 := nL hg (blk_lt (bk BK278.out)); have NB279_278 := nG hg (blk_lt (bk BK278.out)); replace BK278 := aM (bB (bk BK278.out) hb); replace HB := aM (bS (bl HB.out) hb); clear hb hbox hg) | ((with_reducible refine gD (N := 3) rfl ?_); refine bE (N := 3) (cs := #[.int .i64 0, .slice none 0 0]) (t := 28) ?_; intro gb280 hg w5 hbox hb; have BK280 := aM (hbox); have GW280 := gE hg (below_size (bl HB.out)); have GE280 := gE hg (below_size (bl HB.out)); have NB278_280 := nL hg (blk_lt (bk BK278.out)); have NB280_278 := nG hg (blk_lt (bk BK278.out)); have NB279_280 := nL hg (blk_lt (bk BK279.out)); have NB280_279 := nG hg (blk_lt (bk BK279.out)); replace BK278 := aM (bB (bk BK278.out) hb); replace BK279 := aM (bB (bk BK279.out) hb); replace HB := aM (bS (bl HB.out) hb); clear hb hbox hg; have hnb6 := NB278_279.out; have hnc6 := NB279_278.out; have hnb7 := NB278_280.out; have hnc7 := NB280_278.out; have hcz8 := cA2 BK278.out; have hnb9 := NB280_279.out; have hnc9 := NB279_280.out; have hcz10 := cA2 BK280.out) | ((with_reducible refine gC (f := 70) rfl ?_); refine gL (some 9) Try.func70 #[.slice A0_1 l0_1.length c0_1] ?_; (with_reducible refine (laws_toPortS.calls k _ _ l0_1 t281 _ ?side1 ?side2 A2.out).mono ?_); (case side1 => exact cB HR0_1.out (bl HB.out)); (case side2 => exact HC0_1.out); rintro e w11 ⟨v282, rfl, ho0, hb⟩; refine ⟨_, rfl, ?_⟩; have HO283 := aM (Kd.R_lower ho0 (below_size (bl HB.out))); replace BK278 := aM (bB (fm BK278.out) hb); replace BK279 := aM (bB (fm BK279.out) hb); replace BK280 := aM (bB (bp (fm BK280.out)) hb); replace HB := aM (bS (bl HB.out) hb); (try clear hb); (try clear ho0); obtain ⟨Ao12, co12, eo12⟩ := Kd.R_slice HO283.out; subst eo12; have hcz13 := cA2 BK280.out; have hcz14 := cA2 BK279.out))
 refine bodyPost_ret (results_cell_row rfl _ _ gb279 28 #[.int .i64 a0_0, .slice Ao12 t281.length co12] (0, 0) _ rfl (pA2 (fm BK279.out)) Try.underlying28 rfl (by kernel_rfl)) rfl ?_
 exact ⟨_, xW, by (with_reducible repeat (first | apply Kd.R_alloc | apply Kd.R_drewN | apply Kd.R_drew)); exact Kd.R_mono (kF (p := ⟨gb279, 1, none⟩) (kF (p := ⟨gb279, 0, none⟩) (kF (p := ⟨gb280, 1, none⟩) (Kd.R_types (Kd.R_types HO283.out BK280.out (by decide)) BK279.out (by decide)) (fun _ hk => hk.1.2) (.slice Ao12 t281.length co12)) (fun _ hk => hk.2) (.int .i64 a0_0)) (fun _ hk => hk.2) (.slice Ao12 t281.length co12)) (fun _ hk => trivial), bl HB.out⟩

def impl_inRange.f (a0 : Int) (a1 : Int) (a2 : Int) : Option (Bool) := if a0 ≥ a1 then (some (decide (a0 ≤ a2))) else (some false)
set_option maxHeartbeats 60000000 in
set_option maxRecDepth 100000 in
theorem impl_inRange.calls (a0 : Int) (a1 : Int) (a2 : Int) (r : Bool) (w : World) (h : impl_inRange.f a0 a1 a2 = some r) :
  Calls Try.prog 86 #[.int .i64 a0, .int .i64 a1, .int .i64 a2] w fun e w' => e = .returned (.bool r) ∧ Drawn0 w w' := by
 have H : (if a0 ≥ a1 then (some (decide (a0 ≤ a2))) else (some false)) = some r := h
 clear h
 by_cases c4 : a0 ≥ a1
 case pos =>
  rw [if_pos c4] at H
  have c4b0 : decide (a1 ≤ a0) = true := decide_eq_true c4
  clear c4
  obtain rfl := Option.some.inj H
  go_enter Try.func86, Try.ntmps86
  go_wp2
  go_ret
  exact ⟨by first | rfl | (simp; done) | (simp [*]; done), by repeat (first | exact Drawn0.refl _ | apply Drawn0.step)⟩
 rw [if_neg c4] at H
 have c4b0 : decide (a1 ≤ a0) = false := decide_eq_false c4
 clear c4
 obtain rfl := Option.some.inj H
 go_enter Try.func86, Try.ntmps86
 go_wp2
 go_ret
 exact ⟨by first | rfl | (simp; done) | (simp [*]; done), by repeat (first | exact Drawn0.refl _ | apply Drawn0.step)⟩

def impl_isPort.f (a0 : Int) : Option (Bool) := (impl_inRange.f a0 0 3).bind fun t284 => (some t284)
set_option maxHeartbeats 60000000 in
set_option maxRecDepth 100000 in
theorem impl_isPort.calls (a0 : Int) (r : Bool) (w : World) (h : impl_isPort.f a0 = some r) :
  Calls Try.prog 170 #[.int .i64 a0] w fun e w' => e = .returned (.bool r) ∧ Drawn0 w w' := by
 have H : ((impl_inRange.f a0 0 3).bind fun t284 => (some t284)) = some r := h
 clear h
 replace H := Option.bind_eq_some_iff.mp H
 obtain ⟨t284, A20, H⟩ := H
 replace H : (some t284) = some r := H
 have A2 := aM A20
 clear A20
 obtain rfl := Option.some.inj H
 go_enter Try.func170, Try.ntmps170
 go_wp2_with (first | ((with_reducible refine gC (f := 86) rfl ?_); refine gL (some 4) Try.func86 #[.int .i64 a0, .int .i64 0, .int .i64 3] ?_; (with_reducible refine (impl_inRange.calls a0 0 3 t284 _ A2.out).mono ?_); rintro e w' ⟨rfl, ⟨nd, rfl⟩⟩; refine ⟨_, rfl, ?_⟩))
 go_ret
 exact ⟨by first | rfl | (simp; done) | (simp [*]; done), by repeat (first | exact Drawn0.refl _ | apply Drawn0.step)⟩

def impl_VecOk.f (a0_0 : Int) (a0_1 : Int) (a0_2 : Int) (a0_3 : Int) : Option (Bool) := (impl_inRange.f a0_0 1 9).bind fun t286 => (if t286 = true then ((impl_inRange.f a0_2 1 9).bind fun t287 => (if t287 = true then (if a0_0 > a0_2 then (some false) else ((impl_isPort.f a0_3).bind fun t288 => (if t288 = true then ((impl_inRange.f a0_1 0 20).bind fun t289 => (if t289 = true then (some ((a0_1 == 0) == (a0_0 == a0_2))) else (some false))) else (some false)))) else (some false))) else (some false))
set_option maxHeartbeats 60000000 in
set_option maxRecDepth 100000 in
theorem impl_VecOk.calls (a0_0 : Int) (a0_1 : Int) (a0_2 : Int) (a0_3 : Int) (r : Bool) (w : World) (h : impl_VecOk.f a0_0 a0_1 a0_2 a0_3 = some r) :
  Calls Try.prog 178 #[.agg #[.int .i64 a0_0, .int .i64 a0_1, .int .i64 a0_2, .int .i64 a0_3]] w fun e w' => e = .returned (.bool r) ∧ Below w.heap.size w w' := by
 have hu73 := Try.underlying73
 have HB := aM (Below.refl w.heap.size w)
 have H : ((impl_inRange.f a0_0 1 9).bind fun t286 => (if t286 = true then ((impl_inRange.f a0_2 1 9).bind fun t287 => (if t287 = true then (if a0_0 > a0_2 then (some false) else ((impl_isPort.f a0_3).bind fun t288 => (if t288 = true then ((impl_inRange.f a0_1 0 20).bind fun t289 => (if t289 = true then (some ((a0_1 == 0) == (a0_0 == a0_2))) else (some false))) else (some false)))) else (some false))) else (some false))) = some r := h
 clear h
 replace H := Option.bind_eq_some_iff.mp H
 obtain ⟨t286, A20, H⟩ := H
 replace H : (if t286 = true then ((impl_inRange.f a0_2 1 9).bind fun t287 => (if t287 = true then (if a0_0 > a0_2 then (some false) else ((impl_isPort.f a0_3).bind fun t288 => (if t288 = true then ((impl_inRange.f a0_1 0 20).bind fun t289 => (if t289 = true then (some ((a0_1 == 0) == (a0_0 == a0_2))) else (some false))) else (some false)))) else (some false))) else (some false)) = some r := H
 have A2 := aM A20
 clear A20
 by_cases c3 : t286 = true
 case neg =>
  replace c3 := Bool.eq_false_iff.mpr c3
  subst c3
  have H1 : (some false) = some r := by rw [if_neg (show ¬ (false = true) by decide)] at H; exact H
  clear H
  have H := H1
  clear H1
  obtain rfl := Option.some.inj H
  go_enter Try.func178, Try.ntmps178
  go_wp2_with (first | ((with_reducible refine gD (N := 1) rfl ?_); refine bE (N := 1) (cs := #[.int .i64 a0_0, .int .i64 a0_1, .int .i64 a0_2, .int .i64 a0_3]) (t := 73) ?_; intro gb285 hg w21 hbox hb; have BK285 := aM (hbox); have GW285 := gE hg (below_size (bl HB.out)); have GE285 := gE hg (below_size (bl HB.out)); replace HB := aM (bS (bl HB.out) hb); clear hb hbox hg; have hcz22 := cA4 BK285.out) | ((with_reducible refine gC (f := 86) rfl ?_); refine gL (some 5) Try.func86 #[.int .i64 a0_0, .int .i64 1, .int .i64 9] ?_; (with_reducible refine (impl_inRange.calls a0_0 1 9 false _ A2.out).mono ?_); rintro e w' ⟨rfl, ⟨nd, rfl⟩⟩; refine ⟨_, rfl, ?_⟩))
  go_ret
  exact ⟨xW, bl HB.out⟩
 subst c3
 have H1 : ((impl_inRange.f a0_2 1 9).bind fun t287 => (if t287 = true then (if a0_0 > a0_2 then (some false) else ((impl_isPort.f a0_3).bind fun t288 => (if t288 = true then ((impl_inRange.f a0_1 0 20).bind fun t289 => (if t289 = true then (some ((a0_1 == 0) == (a0_0 == a0_2))) else (some false))) else (some false)))) else (some false))) = some r := by rw [if_pos rfl] at H; exact H
 clear H
 have H := H1
 clear H1
 replace H := Option.bind_eq_some_iff.mp H
 obtain ⟨t287, A40, H⟩ := H
 replace H : (if t287 = true then (if a0_0 > a0_2 then (some false) else ((impl_isPort.f a0_3).bind fun t288 => (if t288 = true then ((impl_inRange.f a0_1 0 20).bind fun t289 => (if t289 = true then (some ((a0_1 == 0) == (a0_0 == a0_2))) else (some false))) else (some false)))) else (some false)) = some r := H
 have A4 := aM A40
 clear A40
 by_cases c5 : t287 = true
 case neg =>
  replace c5 := Bool.eq_false_iff.mpr c5
  subst c5
  have H1 : (some false) = some r := by rw [if_neg (show ¬ (false = true) by decide)] at H; exact H
  clear H
  have H := H1
  clear H1
  obtain rfl := Option.some.inj H
  go_enter Try.func178, Try.ntmps178
  go_wp2_with (first | ((with_reducible refine gD (N := 1) rfl ?_); refine bE (N := 1) (cs := #[.int .i64 a0_0, .int .i64 a0_1, .int .i64 a0_2, .int .i64 a0_3]) (t := 73) ?_; intro gb285 hg w19 hbox hb; have BK285 := aM (hbox); have GW285 := gE hg (below_size (bl HB.out)); have GE285 := gE hg (below_size (bl HB.out)); replace HB := aM (bS (bl HB.out) hb); clear hb hbox hg; have hcz20 := cA4 BK285.out) | ((with_reducible refine gC (f := 86) rfl ?_); refine gL (some 5) Try.func86 #[.int .i64 a0_0, .int .i64 1, .int .i64 9] ?_; (with_reducible refine (impl_inRange.calls a0_0 1 9 true _ A2.out).mono ?_); rintro e w' ⟨rfl, ⟨nd, rfl⟩⟩; refine ⟨_, rfl, ?_⟩) | (go_at_call 86; (with_reducible refine (impl_inRange.calls a0_2 1 9 false _ A4.out).mono ?_); rintro e w' ⟨rfl, ⟨nd, rfl⟩⟩))
  go_ret
  exact ⟨xW, bl HB.out⟩
 subst c5
 have H1 : (if a0_0 > a0_2 then (some false) else ((impl_isPort.f a0_3).bind fun t288 => (if t288 = true then ((impl_inRange.f a0_1 0 20).bind fun t289 => (if t289 = true then (some ((a0_1 == 0) == (a0_0 == a0_2))) else (some false))) else (some false)))) = some r := by rw [if_pos rfl] at H; exact H
 clear H
 have H := H1
 clear H1
 by_cases c6 : a0_0 > a0_2
 case pos =>
  rw [if_pos c6] at H
  have c6b0 : decide (a0_2 < a0_0) = true := decide_eq_true c6
  clear c6
  obtain rfl := Option.some.inj H
  go_enter Try.func178, Try.ntmps178
  go_wp2_with (first | ((with_reducible refine gD (N := 1) rfl ?_); refine bE (N := 1) (cs := #[.int .i64 a0_0, .int .i64 a0_1, .int .i64 a0_2, .int .i64 a0_3]) (t := 73) ?_; intro gb285 hg w7 hbox hb; have BK285 := aM (hbox); have GW285 := gE hg (below_size (bl HB.out)); have GE285 := gE hg (below_size (bl HB.out)); replace HB := aM (bS (bl HB.out) hb); clear hb hbox hg; have hcz8 := cA4 BK285.out) | ((with_reducible refine gC (f := 86) rfl ?_); refine gL (some 5) Try.func86 #[.int .i64 a0_0, .int .i64 1, .int .i64 9] ?_; (with_reducible refine (impl_inRange.calls a0_0 1 9 true _ A2.out).mono ?_); rintro e w' ⟨rfl, ⟨nd, rfl⟩⟩; refine ⟨_, rfl, ?_⟩) | (go_at_call 86; (with_reducible refine (impl_inRange.calls a0_2 1 9 true _ A4.out).mono ?_); rintro e w' ⟨rfl, ⟨nd, rfl⟩⟩))
  go_ret
  exact ⟨xW, bl HB.out⟩
 rw [if_neg c6] at H
 have c6b0 : decide (a0_2 < a0_0) = false := decide_eq_false c6
 clear c6
 replace H := Option.bind_eq_some_iff.mp H
 obtain ⟨t288, A90, H⟩ := H
 replace H : (if t288 = true then ((impl_inRange.f a0_1 0 20).bind fun t289 => (if t289 = true then (some ((a0_1 == 0) == (a0_0 == a0_2))) else (some false))) else (some false)) = some r := H
 have A9 := aM A90
 clear A90
 by_cases c10 : t288 = true
 case neg =>
  replace c10 := Bool.eq_false_iff.mpr c10
  subst c10
  have H1 : (some false) = some r := by rw [if_neg (show ¬ (false = true) by decide)] at H; exact H
  clear H
  have H := H1
  clear H1
  obtain rfl := Option.some.inj H
  go_enter Try.func178, Try.ntmps178
  go_wp2_with (first | ((with_reducible refine gD (N := 1) rfl ?_); refine bE (N := 1) (cs := #[.int .i64 a0_0, .int .i64 a0_1, .int .i64 a0_2, .int .i64 a0_3]) (t := 73) ?_; intro gb285 hg w17 hbox hb; have BK285 := aM (hbox); have GW285 := gE hg (below_size (bl HB.out)); have GE285 := gE hg (below_size (bl HB.out)); replace HB := aM (bS (bl HB.out) hb); clear hb hbox hg; have hcz18 := cA4 BK285.out) | ((with_reducible refine gC (f := 86) rfl ?_); refine gL (some 5) Try.func86 #[.int .i64 a0_0, .int .i64 1, .int .i64 9] ?_; (with_reducible refine (impl_inRange.calls a0_0 1 9 true _ A2.out).mono ?_); rintro e w' ⟨rfl, ⟨nd, rfl⟩⟩; refine ⟨_, rfl, ?_⟩) | (go_at_call 86; (with_reducible refine (impl_inRange.calls a0_2 1 9 true _ A4.out).mono ?_); rintro e w' ⟨rfl, ⟨nd, rfl⟩⟩) | (go_at_call 170; (with_reducible refine (impl_isPort.calls a0_3 false _ A9.out).mono ?_); rintro e w' ⟨rfl, ⟨nd, rfl⟩⟩))
  go_ret
  exact ⟨xW, bl HB.out⟩
 subst c10
 have H1 : ((impl_inRange.f a0_1 0 20).bind fun t289 => (if t289 = true then (some ((a0_1 == 0) == (a0_0 == a0_2))) else (some false))) = some r := by rw [if_pos rfl] at H; exact H
 clear H
 have H := H1
 clear H1
 replace H := Option.bind_eq_some_iff.mp H
 obtain ⟨t289, A110, H⟩ := H
 replace H : (if t289 = true then (some ((a0_1 == 0) == (a0_0 == a0_2))) else (some false)) = some r := H
 have A11 := aM A110
 clear A110
 by_cases c12 : t289 = true
 case pos =>
  subst c12
  have H1 : (some ((a0_1 == 0) == (a0_0 == a0_2))) = some r := by rw [if_pos rfl] at H; exact H
  clear H
  have H := H1
  clear H1
  obtain rfl := Option.some.inj H
  go_enter Try.func178, Try.ntmps178
  go_wp2_with (first | ((with_reducible refine gD (N := 1) rfl ?_); refine bE (N := 1) (cs := #[.int .i64 a0_0, .int .i64 a0_1, .int .i64 a0_2, .int .i64 a0_3]) (t := 73) ?_; intro gb285 hg w13 hbox hb; have BK285 := aM (hbox); have GW285 := gE hg (below_size (bl HB.out)); have GE285 := gE hg (below_size (bl HB.out)); replace HB := aM (bS (bl HB.out) hb); clear hb hbox hg; have hcz14 := cA4 BK285.out) | ((with_reducible refine gC (f := 86) rfl ?_); refine gL (some 5) Try.func86 #[.int .i64 a0_0, .int .i64 1, .int .i64 9] ?_; (with_reducible refine (impl_inRange.calls a0_0 1 9 true _ A2.out).mono ?_); rintro e w' ⟨rfl, ⟨nd, rfl⟩⟩; refine ⟨_, rfl, ?_⟩) | (go_at_call 86; (with_reducible refine (impl_inRange.calls a0_2 1 9 true _ A4.out).mono ?_); rintro e w' ⟨rfl, ⟨nd, rfl⟩⟩) | (go_at_call 170; (with_reducible refine (impl_isPort.calls a0_3 true _ A9.out).mono ?_); rintro e w' ⟨rfl, ⟨nd, rfl⟩⟩) | ((with_reducible refine gC (f := 86) rfl ?_); refine gL (some 28) Try.func86 #[.int .i64 a0_1, .int .i64 0, .int .i64 20] ?_; (with_reducible refine (impl_inRange.calls a0_1 0 20 true _ A11.out).mono ?_); rintro e w' ⟨rfl, ⟨nd, rfl⟩⟩; refine ⟨_, rfl, ?_⟩))
  go_ret
  exact ⟨xW, bl HB.out⟩
 replace c12 := Bool.eq_false_iff.mpr c12
 subst c12
 have H1 : (some false) = some r := by rw [if_neg (show ¬ (false = true) by decide)] at H; exact H
 clear H
 have H := H1
 clear H1
 obtain rfl := Option.some.inj H
 go_enter Try.func178, Try.ntmps178
 go_wp2_with (first | ((with_reducible refine gD (N := 1) rfl ?_); refine bE (N := 1) (cs := #[.int .i64 a0_0, .int .i64 a0_1, .int .i64 a0_2, .int .i64 a0_3]) (t := 73) ?_; intro gb285 hg w15 hbox hb; have BK285 := aM (hbox); have GW285 := gE hg (below_size (bl HB.out)); have GE285 := gE hg (below_size (bl HB.out)); replace HB := aM (bS (bl HB.out) hb); clear hb hbox hg; have hcz16 := cA4 BK285.out) | ((with_reducible refine gC (f := 86) rfl ?_); refine gL (some 5) Try.func86 #[.int .i64 a0_0, .int .i64 1, .int .i64 9] ?_; (with_reducible refine (impl_inRange.calls a0_0 1 9 true _ A2.out).mono ?_); rintro e w' ⟨rfl, ⟨nd, rfl⟩⟩; refine ⟨_, rfl, ?_⟩) | (go_at_call 86; (with_reducible refine (impl_inRange.calls a0_2 1 9 true _ A4.out).mono ?_); rintro e w' ⟨rfl, ⟨nd, rfl⟩⟩) | (go_at_call 170; (with_reducible refine (impl_isPort.calls a0_3 true _ A9.out).mono ?_); rintro e w' ⟨rfl, ⟨nd, rfl⟩⟩) | ((with_reducible refine gC (f := 86) rfl ?_); refine gL (some 28) Try.func86 #[.int .i64 a0_1, .int .i64 0, .int .i64 20] ?_; (with_reducible refine (impl_inRange.calls a0_1 0 20 false _ A11.out).mono ?_); rintro e w' ⟨rfl, ⟨nd, rfl⟩⟩; refine ⟨_, rfl, ?_⟩))
 go_ret
 exact ⟨xW, bl HB.out⟩

def impl_isHops.f (a0 : Int) : Option (Bool) := (impl_inRange.f a0 0 8).bind fun t290 => (some t290)
set_option maxHeartbeats 60000000 in
set_option maxRecDepth 100000 in
theorem impl_isHops.calls (a0 : Int) (r : Bool) (w : World) (h : impl_isHops.f a0 = some r) :
  Calls Try.prog 179 #[.int .i64 a0] w fun e w' => e = .returned (.bool r) ∧ Drawn0 w w' := by
 have H : ((impl_inRange.f a0 0 8).bind fun t290 => (some t290)) = some r := h
 clear h
 replace H := Option.bind_eq_some_iff.mp H
 obtain ⟨t290, A20, H⟩ := H
 replace H : (some t290) = some r := H
 have A2 := aM A20
 clear A20
 obtain rfl := Option.some.inj H
 go_enter Try.func179, Try.ntmps179
 go_wp2_with (first | ((with_reducible refine gC (f := 86) rfl ?_); refine gL (some 4) Try.func86 #[.int .i64 a0, .int .i64 0, .int .i64 8] ?_; (with_reducible refine (impl_inRange.calls a0 0 8 t290 _ A2.out).mono ?_); rintro e w' ⟨rfl, ⟨nd, rfl⟩⟩; refine ⟨_, rfl, ?_⟩))
 go_ret
 exact ⟨by first | rfl | (simp; done) | (simp [*]; done), by repeat (first | exact Drawn0.refl _ | apply Drawn0.step)⟩

def impl_Port_isOpenBy.f (a0_0 : Bool) (a0_1 : Bool) (a0_2 : Int) (a0_3 : Int) (a0_4 : Int) (a0_5 : Int) (a0_6 : Int) (a0_7 : Int) (a0_8 : Int) (a0_9 : Int) (a0_10 : Bool) : Option (Bool) := if a0_8 = 1 then (some (a0_9 == 0)) else (if a0_8 = 2 then (some (a0_9 == 0)) else (some false))
set_option maxHeartbeats 60000000 in
set_option maxRecDepth 100000 in
theorem impl_Port_isOpenBy.calls (a0_0 : Bool) (a0_1 : Bool) (a0_2 : Int) (a0_3 : Int) (a0_4 : Int) (a0_5 : Int) (a0_6 : Int) (a0_7 : Int) (a0_8 : Int) (a0_9 : Int) (a0_10 : Bool) (r : Bool) (w : World) (h : impl_Port_isOpenBy.f a0_0 a0_1 a0_2 a0_3 a0_4 a0_5 a0_6 a0_7 a0_8 a0_9 a0_10 = some r) :
  Calls Try.prog 180 #[.agg #[.bool a0_0, .bool a0_1, .int .i64 a0_2, .int .i64 a0_3, .int .i64 a0_4, .int .i64 a0_5, .int .i64 a0_6, .int .i64 a0_7, .int .i64 a0_8, .int .i64 a0_9, .bool a0_10]] w fun e w' => e = .returned (.bool r) ∧ Below w.heap.size w w' := by
 have hu79 := Try.underlying79
 have HB := aM (Below.refl w.heap.size w)
 have H : (if a0_8 = 1 then (some (a0_9 == 0)) else (if a0_8 = 2 then (some (a0_9 == 0)) else (some false))) = some r := h
 clear h
 by_cases c2 : a0_8 = 1
 case pos =>
  rw [if_pos c2] at H
  have c2b0 : (a0_8 == 1) = true := beq_iff_eq.mpr c2
  have c2b1 : (a0_8 != 1) = false := bne_eq_false_iff_eq.mpr c2
  clear c2
  obtain rfl := Option.some.inj H
  go_enter Try.func180, Try.ntmps180
  go_wp2_with (first | ((with_reducible refine gD (N := 1) rfl ?_); refine bE (N := 1) (cs := #[.bool a0_0, .bool a0_1, .int .i64 a0_2, .int .i64 a0_3, .int .i64 a0_4, .int .i64 a0_5, .int .i64 a0_6, .int .i64 a0_7, .int .i64 a0_8, .int .i64 a0_9, .bool a0_10]) (t := 79) ?_; intro gb291 hg w3 hbox hb; have BK291 := aM (hbox); have GW291 := gE hg (below_size (bl HB.out)); have GE291 := gE hg (below_size (bl HB.out)); replace HB := aM (bS (bl HB.out) hb); clear hb hbox hg; have hcz4 := cA11 BK291.out))
  go_ret
  exact ⟨xW, bl HB.out⟩
 rw [if_neg c2] at H
 have c2b0 : (a0_8 == 1) = false := beq_eq_false_iff_ne.mpr c2
 have c2b1 : (a0_8 != 1) = true := bne_iff_ne.mpr c2
 by_cases c5 : a0_8 = 2
 case neg =>
  rw [if_neg c5] at H
  have c5b0 : (a0_8 == 2) = false := beq_eq_false_iff_ne.mpr c5
  have c5b1 : (a0_8 != 2) = true := bne_iff_ne.mpr c5
  obtain rfl := Option.some.inj H
  go_enter Try.func180, Try.ntmps180
  go_wp2_with (first | ((with_reducible refine gD (N := 1) rfl ?_); refine bE (N := 1) (cs := #[.bool a0_0, .bool a0_1, .int .i64 a0_2, .int .i64 a0_3, .int .i64 a0_4, .int .i64 a0_5, .int .i64 a0_6, .int .i64 a0_7, .int .i64 a0_8, .int .i64 a0_9, .bool a0_10]) (t := 79) ?_; intro gb291 hg w8 hbox hb; have BK291 := aM (hbox); have GW291 := gE hg (below_size (bl HB.out)); have GE291 := gE hg (below_size (bl HB.out)); replace HB := aM (bS (bl HB.out) hb); clear hb hbox hg; have hcz9 := cA11 BK291.out))
  go_ret
  exact ⟨xW, bl HB.out⟩
 rw [if_pos c5] at H
 have c5b0 : (a0_8 == 2) = true := beq_iff_eq.mpr c5
 have c5b1 : (a0_8 != 2) = false := bne_eq_false_iff_eq.mpr c5
 clear c5
 obtain rfl := Option.some.inj H
 go_enter Try.func180, Try.ntmps180
 go_wp2_with (first | ((with_reducible refine gD (N := 1) rfl ?_); refine bE (N := 1) (cs := #[.bool a0_0, .bool a0_1, .int .i64 a0_2, .int .i64 a0_3, .int .i64 a0_4, .int .i64 a0_5, .int .i64 a0_6, .int .i64 a0_7, .int .i64 a0_8, .int .i64 a0_9, .bool a0_10]) (t := 79) ?_; intro gb291 hg w6 hbox hb; have BK291 := aM (hbox); have GW291 := gE hg (below_size (bl HB.out)); have GE291 := gE hg (below_size (bl HB.out)); replace HB := aM (bS (bl HB.out) hb); clear hb hbox hg; have hcz7 := cA11 BK291.out))
 go_ret
 exact ⟨xW, bl HB.out⟩

end Go.Proofs.Ythmijfekdeagpaa.PFnExactDecide

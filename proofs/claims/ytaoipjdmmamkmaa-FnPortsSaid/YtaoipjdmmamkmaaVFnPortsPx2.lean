/- Of the proof of laws.FnPorts: a part. No condition beyond what its theorems say. -/
import Derived.Test.YtaoipjdmmamkmaaVFnPortsWTight
import Derived.Test.YtaoipjdmmamkmaaVFnPortsPx0
namespace Go.Proofs.Ytaoipjdmmamkmaa.PFnPorts
open Go.RowKit Go.Proofs.YtaoipjdmmamkmaaW.PrintWords Go.Proofs.YtaoipjdmmamkmaaW.PrintLast Go.Proofs.YtaoipjdmmamkmaaW.PrintMore
attribute [local go_sem] max2_int min2_int max_two min_two max_three min_three max_four min_four   -- for this text's walks alone
set_option linter.unusedVariables false
set_option linter.unusedSimpArgs false

def laws_big.f (l0 : List Int) : Option (Bool) := some (decide ((l0.length : Int) > 1048576))
set_option maxHeartbeats 60000000 in
set_option maxRecDepth 100000 in
theorem laws_big.calls (A0 : Option Addr) (c0 : Nat) (l0 : List Int) (r : Bool) (w : World) (hr0 : Kd.C (Kd.int .u8) w A0 l0.length l0) (hc0 : l0.length ≤ c0) (h : laws_big.f l0 = some r) :
  Calls Try.prog 6 #[.slice A0 l0.length c0] w fun e w' => e = .returned (.bool r) ∧ Drawn0 w w' := by
 have HR0 := aM hr0
 have HC0 := aM hc0
 clear hr0 hc0
 have H : (some (decide ((l0.length : Int) > 1048576))) = some r := h
 clear h
 obtain rfl := Option.some.inj H
 go_enter Try.func6, Try.ntmps6
 go_wp2
 go_ret
 exact ⟨by first | rfl | (simp; done) | (simp [*]; done), by repeat (first | exact Drawn0.refl _ | apply Drawn0.step)⟩

/-- A state of type 91 at block g of W; what its slices lead to came in by w0. -/
def IsS91 (w0 W : World) (g : Nat) (f0 : List Int) (f1 : Int) (f2 : Int) : Prop := ∃ A0 c0, W.heap[g]? = some (.cells #[.slice A0 f0.length c0, .int .i64 f1, .int .i64 f2] 91 (0, 0)) ∧ w0.heap.size ≤ g ∧ (Kd.C (Kd.int .u8) w0 A0 f0.length f0 ∧ f0.length ≤ c0)
theorem IsS91.grown {w0 W : World} {g : Nat} {f0 : List Int} {f1 : Int} {f2 : Int} {W1 : World} {row : Option Nat} (h : IsS91 w0 W g f0 f1 f2) (hw : W.grownBy W1 row) (hne : some g ≠ row) : IsS91 w0 W1 g f0 f1 f2 := by
 obtain ⟨A0, c0, hb, hg, hr0⟩ := h
 exact ⟨A0, c0, blk_grown hb hw hne, hg, hr0⟩
theorem IsS91.own_neN {w0 W : World} {g : Nat} {f0 : List Int} {f1 : Int} {f2 : Int} {α : Type} {d : Kd α} {e : Nat} {base : Nat} {ok : Nat → Prop} {v : Value} {xs : List α} (h : IsS91 w0 W g f0 f1 f2) (ho : Kd.N d e W base ok v xs) (ht : e ≠ 91) : some g ≠ v.ownBlock := by
 obtain ⟨A0, c0, hb, hg, hr0⟩ := h
 exact Kd.N_ne ho hb ht
theorem IsS91.fresh {w0 W : World} {g : Nat} {f0 : List Int} {f1 : Int} {f2 : Int} (h : IsS91 w0 W g f0 f1 f2) : ∀ k, W.heap.size ≤ k → k ≠ g := by
 obtain ⟨A0, c0, hb, hg, hr0⟩ := h
 exact Kd.freshB hb
theorem IsS91.kept {w0 W : World} {g : Nat} {f0 : List Int} {f1 : Int} {f2 : Int} {W1 : World} {S : Nat → Prop} (h : IsS91 w0 W g f0 f1 f2) (hk : Kept W W1 S) (hne : ¬ S g) : IsS91 w0 W1 g f0 f1 f2 := by
 obtain ⟨A0, c0, hb, hg, hr0⟩ := h
 exact ⟨A0, c0, blk_kept hb hk hne, hg, hr0⟩
theorem IsS91.below {w0 W : World} {g : Nat} {f0 : List Int} {f1 : Int} {f2 : Int} {W1 : World} (h : IsS91 w0 W g f0 f1 f2) (hw : Below W.heap.size W W1) : IsS91 w0 W1 g f0 f1 f2 := h.grown (grown_of_below hw none) (by simp)
theorem IsS91.alloc {w0 W : World} {g : Nat} {f0 : List Int} {f1 : Int} {f2 : Int} (h : IsS91 w0 W g f0 f1 f2) (o : Obj) : IsS91 w0 (W.alloc o) g f0 f1 f2 := h.below (below_alloc (Below.refl _ _) o)
theorem IsS91.drewN {w0 W : World} {g : Nat} {f0 : List Int} {f1 : Int} {f2 : Int} (h : IsS91 w0 W g f0 f1 f2) (m : Nat) : IsS91 w0 (W.drewN m) g f0 f1 f2 := h
theorem IsS91.drew {w0 W : World} {g : Nat} {f0 : List Int} {f1 : Int} {f2 : Int} (h : IsS91 w0 W g f0 f1 f2) : IsS91 w0 W.drew g f0 f1 f2 := h
theorem IsS91.at_ {w0 W : World} {g : Nat} {f0 : List Int} {f1 : Int} {f2 : Int} {w' : World} {m : Nat} (hq : W.drewN m = w') (h : IsS91 w0 W g f0 f1 f2) : IsS91 w0 w' g f0 f1 f2 := by subst hq; exact IsS91.drewN h m
theorem IsS91.apart {w0 W : World} {g : Nat} {f0 : List Int} {f1 : Int} {f2 : Int} {α : Type} {d : Kd α} {e : Nat} {base : Nat} {ok : Nat → Prop} {v : Value} {xs : List α} (h : IsS91 w0 W g f0 f1 f2) (ho : d.R e W base ok v xs) (ht : ∀ q, q ∈ e :: d.E → q ≠ 91) : d.R e W base (fun k => ok k ∧ k ≠ g) v xs := by
 obtain ⟨A0, c0, hb, hg, hr0⟩ := h
 exact Kd.R_types ho hb ht
theorem IsS91.own_ne {w0 W : World} {g : Nat} {f0 : List Int} {f1 : Int} {f2 : Int} {α : Type} {d : Kd α} {e : Nat} {base : Nat} {ok : Nat → Prop} {v : Value} {xs : List α} (h : IsS91 w0 W g f0 f1 f2) (ho : d.R e W base ok v xs) (ht : e ≠ 91) : some g ≠ v.ownBlock := by
 obtain ⟨A0, c0, hb, hg, hr0⟩ := h
 exact Kd.R_ne ho hb ht
theorem IsS91.apartQ {w0 W : World} {g : Nat} {f0 : List Int} {f1 : Int} {f2 : Int} {α : Type} {d : Kd α} {e : Nat} {base : Nat} {ok : Nat → Prop} {v : Value} {xs : List α} (h : IsS91 w0 W g f0 f1 f2) (ho : d.Q e W base ok v xs) (ht : ∀ q, q ∈ e :: d.E → q ≠ 91) : d.Q e W base (fun k => ok k ∧ k ≠ g) v xs := by
 obtain ⟨A0, c0, hb, hg, hr0⟩ := h
 exact Kd.Q_types ho hb ht
theorem IsS91.own_neQ {w0 W : World} {g : Nat} {f0 : List Int} {f1 : Int} {f2 : Int} {α : Type} {d : Kd α} {e : Nat} {base : Nat} {ok : Nat → Prop} {v : Value} {xs : List α} (h : IsS91 w0 W g f0 f1 f2) (ho : d.Q e W base ok v xs) (ht : e ≠ 91) : some g ≠ v.ownBlock := by
 obtain ⟨A0, c0, hb, hg, hr0⟩ := h
 exact Kd.Q_ne ho hb ht
theorem IsS91.apartS {w0 W : World} {g : Nat} {f0 : List Int} {f1 : Int} {f2 : Int} {α : Type} {d : Kd α} {e : Nat} {base : Nat} {ok : Nat → Prop} {v : Value} {xs : List α} (h : IsS91 w0 W g f0 f1 f2) (ho : d.S e W base ok v xs) (ht : ∀ q, q ∈ e :: d.E → q ≠ 91) : d.S e W base (fun k => ok k ∧ k ≠ g) v xs := by
 obtain ⟨A0, c0, hb, hg, hr0⟩ := h
 exact Kd.S_types ho hb ht
theorem IsS91.own_neS {w0 W : World} {g : Nat} {f0 : List Int} {f1 : Int} {f2 : Int} {α : Type} {d : Kd α} {e : Nat} {base : Nat} {ok : Nat → Prop} {v : Value} {xs : List α} (h : IsS91 w0 W g f0 f1 f2) (ho : d.S e W base ok v xs) (ht : e ≠ 91) : some g ≠ v.ownBlock := by
 obtain ⟨A0, c0, hb, hg, hr0⟩ := h
 exact Kd.S_ne ho hb ht
theorem IsS91.lt {w0 W : World} {g : Nat} {f0 : List Int} {f1 : Int} {f2 : Int} (h : IsS91 w0 W g f0 f1 f2) : g < W.heap.size := by
 obtain ⟨A0, c0, hb, hg, hr0⟩ := h
 exact blk_lt hb
theorem IsS91.ge {w0 W : World} {g : Nat} {f0 : List Int} {f1 : Int} {f2 : Int} (h : IsS91 w0 W g f0 f1 f2) : w0.heap.size ≤ g := by
 obtain ⟨A0, c0, hb, hg, hr0⟩ := h
 exact hg
theorem IsS91.ne_blk {w0 W : World} {g : Nat} {f0 : List Int} {f1 : Int} {f2 : Int} {a : Nat} {cs : Array Value} {t : TypeId} {fr : Nat × Nat} (h : IsS91 w0 W g f0 f1 f2) (hb2 : W.heap[a]? = some (.cells cs t fr)) (ht : t ≠ 91) : g ≠ a := by
 obtain ⟨A0, c0, hb, hg, hr0⟩ := h
 rintro rfl
 rw [hb] at hb2
 injection hb2 with hb2
 injection hb2 with _ ht2
 exact ht ht2.symm
theorem IsS91.far {w0 W : World} {g : Nat} {f0 : List Int} {f1 : Int} {f2 : Int} {p : Addr} (h : IsS91 w0 W g f0 f1 f2) (hne : g ≠ p.block) (u : Value) : IsS91 w0 (W.setCell p u) g f0 f1 f2 := by
 obtain ⟨A0, c0, hb, hg, hr0⟩ := h
 exact ⟨A0, c0, blk_far hb hne u, hg, hr0⟩
theorem cellS91_0 {W : World} {g : Nat} {A0 : Option Addr} {c0 : Nat} {f0 : List Int} {f1 : Int} {f2 : Int} (h : W.heap[g]? = some (.cells #[.slice A0 f0.length c0, .int .i64 f1, .int .i64 f2] 91 (0, 0))) : W.cell? ⟨g, 0, none⟩ = some (.slice A0 f0.length c0) := (bC h 0).trans rfl
theorem IsS91.put_0 {w0 W : World} {g : Nat} {f0 : List Int} {f1 : Int} {f2 : Int} {A_ : Option Addr} {c_ : Nat} {x_ : List Int} (h : IsS91 w0 W g f0 f1 f2) (hx_ : Kd.C (Kd.int .u8) w0 A_ x_.length x_ ∧ x_.length ≤ c_) : IsS91 w0 (W.setCell ⟨g, 0, none⟩ (.slice A_ x_.length c_)) g x_ f1 f2 := by
 obtain ⟨A0, c0, hb, hg, hr0⟩ := h
 exact ⟨A_, c_, by simpa using blk_set hb 0 (.slice A_ x_.length c_), hg, hx_⟩
theorem cellS91_1 {W : World} {g : Nat} {A0 : Option Addr} {c0 : Nat} {f0 : List Int} {f1 : Int} {f2 : Int} (h : W.heap[g]? = some (.cells #[.slice A0 f0.length c0, .int .i64 f1, .int .i64 f2] 91 (0, 0))) : W.cell? ⟨g, 1, none⟩ = some (.int .i64 f1) := (bC h 1).trans rfl
theorem IsS91.set_1 {w0 W : World} {g : Nat} {f0 : List Int} {f1 : Int} {f2 : Int} (h : IsS91 w0 W g f0 f1 f2) (x : Int) : IsS91 w0 (W.setCell ⟨g, 1, none⟩ (.int .i64 x)) g f0 x f2 := by
 obtain ⟨A0, c0, hb, hg, hr0⟩ := h
 exact ⟨A0, c0, by simpa using blk_set hb 1 (.int .i64 x), hg, hr0⟩
theorem cellS91_2 {W : World} {g : Nat} {A0 : Option Addr} {c0 : Nat} {f0 : List Int} {f1 : Int} {f2 : Int} (h : W.heap[g]? = some (.cells #[.slice A0 f0.length c0, .int .i64 f1, .int .i64 f2] 91 (0, 0))) : W.cell? ⟨g, 2, none⟩ = some (.int .i64 f2) := (bC h 2).trans rfl
theorem IsS91.set_2 {w0 W : World} {g : Nat} {f0 : List Int} {f1 : Int} {f2 : Int} (h : IsS91 w0 W g f0 f1 f2) (x : Int) : IsS91 w0 (W.setCell ⟨g, 2, none⟩ (.int .i64 x)) g f0 f1 x := by
 obtain ⟨A0, c0, hb, hg, hr0⟩ := h
 exact ⟨A0, c0, by simpa using blk_set hb 2 (.int .i64 x), hg, hr0⟩
theorem IsS91.new (w0 W : World) (A0 : Option Addr) (c0 : Nat) (f0 : List Int) (f1 : Int) (f2 : Int) (hB : Below w0.heap.size w0 W) (hr0 : Kd.C (Kd.int .u8) w0 A0 f0.length f0 ∧ f0.length ≤ c0) : IsS91 w0 (W.alloc (.cells #[.slice A0 f0.length c0, .int .i64 f1, .int .i64 f2] 91)) W.heap.size f0 f1 f2 := ⟨A0, c0, by simpa using heap_alloc_new W _, hB.size, hr0⟩

theorem IsS91.mv {w0 W W' : World} {g : Nat} {f0 f0' : List Int} {f1 f1' : Int} {f2 f2' : Int} (h : IsS91 w0 W g f0 f1 f2) (hs : IsS91 w0 W g f0 f1 f2 → IsS91 w0 W' g f0' f1' f2' := by intro h; repeat (first | (with_reducible first | exact h | apply IsS91.alloc | apply IsS91.drewN | apply IsS91.drew | apply IsS91.set_1 | apply IsS91.set_2 | refine IsS91.far ?_ (Aside0.out (by assumption)) _) | exact h)) : IsS91 w0 W' g f0' f1' f2' := hs h
theorem IsS91.bl {B : Nat} {w0 W W' : World} (h : Below B w0 W) (hs : Below B w0 W → Below B w0 W' := by intro h; repeat (first | (with_reducible first | exact h | apply below_alloc | apply pw_below_drewN | apply below_drew1 | refine below_set ?_ (Aside0.out (by assumption)) | refine below_set ?_ (IsS91.ge (Aside0.out (by assumption)))) | exact h)) : Below B w0 W' := hs h
def spec_l1New.l0 : Nat → List Int → Int → Int → Option (List Int × Int × Int)
 | 0, _, _, _ => none
 | k + 1, x0, x3, x4 => if x4 < (x0.length : Int) then (if x4 < 4000 then (if 0 ≤ x4 then (spec_l1New.l0 k x0 (Go.bits .and .i64 (wrap64 ((wrap64 ((wrap64 (x3 * 131)) + (wrap64 (rd x0 x4)))) + 7)) 1073741823) (wrap64 (x4 + 1))) else (none)) else (some (x0, 0, x3))) else (some (x0, 0, x3))
def spec_l1New.f (k : Nat) (l0 : List Int) : Option (List Int × Int × Int) := spec_l1New.l0 k l0 (wrap64 (27397 + (l0.length : Int))) 0
theorem spec_l1New.mono_l : ∀ k, (∀ y0 y1 y2, LeO (spec_l1New.l0 k y0 y1 y2) (spec_l1New.l0 (k + 1) y0 y1 y2))
 | 0 => fun _ _ _ r h => by simp [spec_l1New.l0] at h
 | k + 1 => by
  have ih0 := spec_l1New.mono_l k
  ·intro y0 y1 y2
   unfold spec_l1New.l0
   repeat' first
   | (with_reducible exact ih0 _ _ _)
   | (with_reducible exact LeO.refl _)
   | (with_reducible exact LeO.none _)
   | (with_reducible refine LeO.ite ?_ ?_)
   | (with_reducible refine LeO.bind ?_ (fun _ => ?_))
   | exact ih0 _ _ _
   | exact LeO.none _
   | refine LeO.ite ?_ ?_
   | refine LeO.bind ?_ (fun _ => ?_)
theorem spec_l1New.mono : ∀ a0 k, LeO (spec_l1New.f k a0) (spec_l1New.f (k + 1) a0) := by
 intro a0 k
 have ih0 := spec_l1New.mono_l k
 unfold spec_l1New.f
 repeat' first
   | (with_reducible exact ih0 _ _ _)
   | (with_reducible exact LeO.refl _)
   | (with_reducible exact LeO.none _)
   | (with_reducible refine LeO.ite ?_ ?_)
   | (with_reducible refine LeO.bind ?_ (fun _ => ?_))
   | exact ih0 _ _ _
   | exact LeO.none _
   | refine LeO.ite ?_ ?_
   | refine LeO.bind ?_ (fun _ => ?_)
set_option maxHeartbeats 60000000 in
set_option maxRecDepth 100000 in
theorem spec_l1New.calls (k : Nat) (A0 : Option Addr) (c0 : Nat) (l0 : List Int) (r1 : List Int) (r2 : Int) (r3 : Int) (w0 w : World) (hB : Below w0.heap.size w0 w) (hr0 : Kd.C (Kd.int .u8) w0 A0 l0.length l0) (hc0 : l0.length ≤ c0) (h : spec_l1New.f k l0 = some (r1, r2, r3)) :
  Calls Try.prog 40 #[.slice A0 l0.length c0] w fun e w' => ∃ g_ : Nat, e = .returned (.pointer (some ⟨g_, 0, none⟩)) ∧ IsS91 w0 w' g_ r1 r2 r3 ∧ Below w0.heap.size w0 w' ∧ Below w.heap.size w w' := by
 have hu91 := Try.underlying91
 have HR0 := aM hr0
 have HC0 := aM hc0
 clear hr0 hc0
 have HBW := aM (Below.refl w.heap.size w)
 have HW0 := aM hB.size
 have HB := aM hB
 clear hB
 have H : (spec_l1New.l0 k l0 (wrap64 (27397 + (l0.length : Int))) 0) = some (r1, r2, r3) := h
 clear h
 have H' := aM H
 clear H
 go_enter Try.func40, Try.ntmps40
 go_wp2
 go_loopg [3, 4] k (fun kq v3 v4 w' => ∃ (x3_1 : Int) (x4_1 : Int), v3 = .int .i64 x3_1 ∧ v4 = .int .i64 x4_1 ∧ Aside0 (spec_l1New.l0 kq l0 x3_1 x4_1 = some (r1, r2, r3)) ∧ Aside0 (kq ≤ k) ∧ Aside0 (Below w0.heap.size w0 w') ∧ Aside0 (Below w.heap.size w w'))
 case atStart => exact ⟨(wrap64 (27397 + (l0.length : Int))), (0), xE, xE, H', ⟨Nat.le_refl _⟩, ⟨bl HB.out⟩, ⟨by repeat (first | (with_reducible first | exact HBW.out | apply below_alloc | apply pw_below_drewN | apply below_drew1) | exact HBW.out)⟩⟩
 case round =>
  clear H'
  obtain ⟨x3_1, x4_1, rfl, rfl, HA, HK1, HB, HBW⟩ := hrel
  cases gk with
  | zero => exact absurd HA.out (by simp [spec_l1New.l0])
  | succ k1 =>
   have H := HA.out
   clear HA
   simp only [spec_l1New.l0] at H
   by_cases c2 : x4_1 < (l0.length : Int)
   case neg =>
    rw [if_neg c2] at H
    have c2b0 : decide (x4_1 < (l0.length : Int)) = false := decide_eq_false c2
    clear c2
    simp only [Option.some.injEq, Prod.mk.injEq] at H
    obtain ⟨rfl, rfl, rfl⟩ := H
    go_wp2_with (first | ((with_reducible refine gD (N := 31) rfl ?_); refine bE (N := 31) (cs := #[.slice A0 l0.length c0, .int .i64 0, .int .i64 x3_1]) (t := 91) ?_; intro gb103 hg w6 hbox hb; have BK103 := aM (hbox); have GW103 := aM ((by rw [hg]; exact (below_size (by repeat (first | (with_reducible first | exact HBW.out | apply below_alloc | apply pw_below_drewN | apply below_drew1) | exact HBW.out))) : w.heap.size ≤ gb103)); have GE103 := aM ((Nat.le_trans HW0.out (by rw [hg]; exact (below_size (by repeat (first | (with_reducible first | exact HBW.out | apply below_alloc | apply pw_below_drewN | apply below_drew1) | exact HBW.out))) : w.heap.size ≤ gb103) : w0.heap.size ≤ gb103)); replace HBW := aM (bS HBW.out hb); replace HB := aM (bS (bl HB.out) hb); clear hb hbox hg))
    go_ret
    exact ⟨_, rfl, (show IsS91 w0 _ gb103 l0 0 x3_1 from ⟨_, _, by (with_reducible repeat (first | refine blk_drewN ?_ _ | refine blk_drew ?_ | refine blk_alloc ?_ _)); exact BK103.out, GE103.out, ⟨HR0.out, HC0.out⟩⟩), bl HB.out, by repeat (first | (with_reducible first | exact HBW.out | apply below_alloc | apply pw_below_drewN | apply below_drew1 | refine below_set ?_ GW103.out) | exact HBW.out)⟩
   rw [if_pos c2] at H
   have c2b0 : decide (x4_1 < (l0.length : Int)) = true := decide_eq_true c2
   clear c2
   by_cases c3 : x4_1 < 4000
   case neg =>
    rw [if_neg c3] at H
    have c3b0 : decide (x4_1 < 4000) = false := decide_eq_false c3
    clear c3
    simp only [Option.some.injEq, Prod.mk.injEq] at H
    obtain ⟨rfl, rfl, rfl⟩ := H
    go_wp2_with (first | ((with_reducible refine gD (N := 31) rfl ?_); refine bE (N := 31) (cs := #[.slice A0 l0.length c0, .int .i64 0, .int .i64 x3_1]) (t := 91) ?_; intro gb102 hg w5 hbox hb; have BK102 := aM (hbox); have GW102 := aM ((by rw [hg]; exact (below_size (by repeat (first | (with_reducible first | exact HBW.out | apply below_alloc | apply pw_below_drewN | apply below_drew1) | exact HBW.out))) : w.heap.size ≤ gb102)); have GE102 := aM ((Nat.le_trans HW0.out (by rw [hg]; exact (below_size (by repeat (first | (with_reducible first | exact HBW.out | apply below_alloc | apply pw_below_drewN | apply below_drew1) | exact HBW.out))) : w.heap.size ≤ gb102) : w0.heap.size ≤ gb102)); replace HBW := aM (bS HBW.out hb); replace HB := aM (bS (bl HB.out) hb); clear hb hbox hg))
    go_ret
    exact ⟨_, rfl, (show IsS91 w0 _ gb102 l0 0 x3_1 from ⟨_, _, by (with_reducible repeat (first | refine blk_drewN ?_ _ | refine blk_drew ?_ | refine blk_alloc ?_ _)); exact BK102.out, GE102.out, ⟨HR0.out, HC0.out⟩⟩), bl HB.out, by repeat (first | (with_reducible first | exact HBW.out | apply below_alloc | apply pw_below_drewN | apply below_drew1 | refine below_set ?_ GW102.out) | exact HBW.out)⟩
   rw [if_pos c3] at H
   have c3b0 : decide (x4_1 < 4000) = true := decide_eq_true c3
   clear c3
   by_cases c4 : 0 ≤ x4_1
   case neg =>
    rw [if_neg c4] at H
    exact absurd H (by simp)
   rw [if_pos c4] at H
   have c4b0 : decide (0 ≤ x4_1) = true := decide_eq_true c4
   clear c4
   have H' := aM H
   clear H
   have p101 : 0 ≤ (x4_1 : Int) := of_decide_eq_true (by first | (with_reducible assumption) | assumption)
   have q101 : x4_1 < (l0.length : Int) := of_decide_eq_true (by first | (with_reducible assumption) | assumption)
   obtain ⟨ad101, e101, hx101_0⟩ := Kd.at_int HR0.out x4_1 p101 q101
   cases e101
   replace hx101_0 := pw_cell_below HB.out hx101_0
   replace p101 := eq_true p101
   replace q101 := eq_true q101
   go_wp2
   go_roundg k1
   case measure => have := HK1.out; omega
   case rel => exact ⟨(Go.bits .and .i64 (wrap64 ((wrap64 ((wrap64 (x3_1 * 131)) + (wrap64 (rd l0 x4_1)))) + 7)) 1073741823), (wrap64 (x4_1 + 1)), xE, xE, H', ⟨by have := HK1.out; omega⟩, ⟨bl HB.out⟩, ⟨by repeat (first | (with_reducible first | exact HBW.out | apply below_alloc | apply pw_below_drewN | apply below_drew1) | exact HBW.out)⟩⟩

def spec_l1Byte.f (s0_0 : List Int) (s0_1 : Int) (s0_2 : Int) : Option (Int × Int × Int) := if s0_1 < (s0_0.length : Int) then (if 0 ≤ s0_1 then (some (Go.bits .and .i64 (wrap64 ((Go.bits .and .i64 (Go.bits .xor .i64 ((wrap64 ((wrap64 (s0_2 * 6364136223846793005)) + 1442695040888963407)) / 8589934592) ((wrap64 ((wrap64 (s0_2 * 6364136223846793005)) + 1442695040888963407)) / 35184372088832)) 255) + (wrap64 (rd s0_0 s0_1)))) 255, wrap64 (s0_1 + 1), wrap64 ((wrap64 (s0_2 * 6364136223846793005)) + 1442695040888963407))) else (none)) else (some (Go.bits .and .i64 (Go.bits .xor .i64 ((wrap64 ((wrap64 (s0_2 * 6364136223846793005)) + 1442695040888963407)) / 8589934592) ((wrap64 ((wrap64 (s0_2 * 6364136223846793005)) + 1442695040888963407)) / 35184372088832)) 255, s0_1, wrap64 ((wrap64 (s0_2 * 6364136223846793005)) + 1442695040888963407)))
set_option maxHeartbeats 60000000 in
set_option maxRecDepth 100000 in
theorem spec_l1Byte.calls (g : Nat) (s0_0 : List Int) (s0_1 : Int) (s0_2 : Int) (r1 : Int) (r2 : Int) (r3 : Int) (w0 w : World) (hI : IsS91 w0 w g s0_0 s0_1 s0_2) (hB : Below w0.heap.size w0 w) (h : spec_l1Byte.f s0_0 s0_1 s0_2 = some (r1, r2, r3)) :
  Calls Try.prog 82 #[.pointer (some ⟨g, 0, none⟩)] w fun e w' => e = .returned (.int .i64 r1) ∧ IsS91 w0 w' g s0_0 r2 r3 ∧ Below w0.heap.size w0 w' ∧ KeepBut w w' g none := by
 have HI0 := aM hI
 have HK := aM (KeepBut.refl w g none)
 have HL := aM hB.size
 clear hI
 have HW0 := aM hB.size
 have HB := aM hB
 clear hB
 have H : (if s0_1 < (s0_0.length : Int) then (if 0 ≤ s0_1 then (some (Go.bits .and .i64 (wrap64 ((Go.bits .and .i64 (Go.bits .xor .i64 ((wrap64 ((wrap64 (s0_2 * 6364136223846793005)) + 1442695040888963407)) / 8589934592) ((wrap64 ((wrap64 (s0_2 * 6364136223846793005)) + 1442695040888963407)) / 35184372088832)) 255) + (wrap64 (rd s0_0 s0_1)))) 255, wrap64 (s0_1 + 1), wrap64 ((wrap64 (s0_2 * 6364136223846793005)) + 1442695040888963407))) else (none)) else (some (Go.bits .and .i64 (Go.bits .xor .i64 ((wrap64 ((wrap64 (s0_2 * 6364136223846793005)) + 1442695040888963407)) / 8589934592) ((wrap64 ((wrap64 (s0_2 * 6364136223846793005)) + 1442695040888963407)) / 35184372088832)) 255, s0_1, wrap64 ((wrap64 (s0_2 * 6364136223846793005)) + 1442695040888963407)))) = some (r1, r2, r3) := h
 clear h
 by_cases c2 : s0_1 < (s0_0.length : Int)
 case neg =>
  rw [if_neg c2] at H
  have c2b0 : decide (s0_1 < (s0_0.length : Int)) = false := decide_eq_false c2
  clear c2
  simp only [Option.some.injEq, Prod.mk.injEq] at H
  obtain ⟨rfl, rfl, rfl⟩ := H
  obtain ⟨ASz5_0, cSz5_0, HGz5, hgz5, HSz5_0⟩ := HI0.out
  have hcz5_0 := cellS91_0 HGz5
  have hcz5_1 := cellS91_1 HGz5
  have hcz5_2 := cellS91_2 HGz5
  have hfz5_1 := bF HGz5 1
  have hfz5_2 := bF HGz5 2
  clear HGz5 hgz5
  go_enter Try.func82, Try.ntmps82
  go_wp2
  repeat (go_quiet (fail); try go_wp2)
  go_ret
  exact ⟨xW, IsS91.mv HI0.out, IsS91.bl HB.out, km HK.out⟩
 rw [if_pos c2] at H
 have c2b0 : decide (s0_1 < (s0_0.length : Int)) = true := decide_eq_true c2
 clear c2
 by_cases c3 : 0 ≤ s0_1
 case neg =>
  rw [if_neg c3] at H
  exact absurd H (by simp)
 rw [if_pos c3] at H
 have c3b0 : decide (0 ≤ s0_1) = true := decide_eq_true c3
 clear c3
 simp only [Option.some.injEq, Prod.mk.injEq] at H
 obtain ⟨rfl, rfl, rfl⟩ := H
 obtain ⟨ASz4_0, cSz4_0, HGz4, hgz4, HSz4_0⟩ := HI0.out
 have hcz4_0 := cellS91_0 HGz4
 have hcz4_1 := cellS91_1 HGz4
 have hcz4_2 := cellS91_2 HGz4
 have hfz4_1 := bF HGz4 1
 have hfz4_2 := bF HGz4 2
 clear HGz4 hgz4
 have p104 : 0 ≤ (s0_1 : Int) := of_decide_eq_true (by first | (with_reducible assumption) | assumption)
 have q104 : s0_1 < (s0_0.length : Int) := of_decide_eq_true (by first | (with_reducible assumption) | assumption)
 obtain ⟨ad104, e104, hx104_0⟩ := Kd.at_int HSz4_0.1 s0_1 p104 q104
 cases e104
 have hn104_0 : ad104.block ≠ g := Nat.ne_of_lt (Nat.lt_of_lt_of_le (by have := World.block_lt_of_cell? _ _ hx104_0; first | rwa [add_block] at this | exact this) (IsS91.ge HI0.out))
 replace hx104_0 := pw_cell_below HB.out hx104_0
 replace hx104_0 := (cell_far (p := ⟨g, 2, none⟩) (by first | (rw [add_block]; exact hn104_0) | (show (Addr.add _ _).block ≠ _; rw [add_block]; exact hn104_0) | exact hn104_0) (.int .i64 (wrap64 ((wrap64 (s0_2 * 6364136223846793005)) + 1442695040888963407)))).trans hx104_0
 (try have hy104_0 := fun (n_ : Nat) => (show (((w.drewN n_).setCell ⟨g, 2, none⟩ (.int .i64 (wrap64 ((wrap64 (s0_2 * 6364136223846793005)) + 1442695040888963407))))).cell? _ = some _ from hx104_0))
 clear hn104_0
 replace p104 := eq_true p104
 replace q104 := eq_true q104
 go_enter Try.func82, Try.ntmps82
 go_wp2
 repeat (go_quiet (fail); try go_wp2)
 go_ret
 exact ⟨xW, IsS91.mv HI0.out, IsS91.bl HB.out, km HK.out⟩

def spec_l1Below.f (s0_0 : List Int) (s0_1 : Int) (s0_2 : Int) (a1 : Int) : Option (Int × Int × Int) := if a1 ≤ 0 then (some (0, s0_1, s0_2)) else (if a1 ≤ 256 then ((spec_l1Byte.f s0_0 s0_1 s0_2).bind fun bt105 => (if a1 = 0 then (none) else (some (Int.tmod bt105.1 a1, bt105.2.1, bt105.2.2)))) else ((spec_l1Byte.f s0_0 s0_1 s0_2).bind fun bt108 => ((spec_l1Byte.f s0_0 bt108.2.1 bt108.2.2).bind fun bt111 => ((spec_l1Byte.f s0_0 bt111.2.1 bt111.2.2).bind fun bt114 => ((spec_l1Byte.f s0_0 bt114.2.1 bt114.2.2).bind fun bt117 => (if a1 = 0 then (none) else (some (Int.tmod (wrap64 ((wrap64 ((wrap64 ((wrap64 (bt108.1 * 16777216)) + (wrap64 (bt111.1 * 65536)))) + (wrap64 (bt114.1 * 256)))) + bt117.1)) a1, bt117.2.1, bt117.2.2))))))))
set_option maxHeartbeats 60000000 in
set_option maxRecDepth 100000 in
theorem spec_l1Below.calls (g : Nat) (s0_0 : List Int) (s0_1 : Int) (s0_2 : Int) (a1 : Int) (r1 : Int) (r2 : Int) (r3 : Int) (w0 w : World) (hI : IsS91 w0 w g s0_0 s0_1 s0_2) (hB : Below w0.heap.size w0 w) (h : spec_l1Below.f s0_0 s0_1 s0_2 a1 = some (r1, r2, r3)) :
  Calls Try.prog 64 #[.pointer (some ⟨g, 0, none⟩), .int .i64 a1] w fun e w' => e = .returned (.int .i64 r1) ∧ IsS91 w0 w' g s0_0 r2 r3 ∧ Below w0.heap.size w0 w' ∧ KeepBut w w' g none := by
 have HI0 := aM hI
 have HK := aM (KeepBut.refl w g none)
 have HL := aM hB.size
 clear hI
 have HW0 := aM hB.size
 have HB := aM hB
 clear hB
 have H : (if a1 ≤ 0 then (some (0, s0_1, s0_2)) else (if a1 ≤ 256 then ((spec_l1Byte.f s0_0 s0_1 s0_2).bind fun bt105 => (if a1 = 0 then (none) else (some (Int.tmod bt105.1 a1, bt105.2.1, bt105.2.2)))) else ((spec_l1Byte.f s0_0 s0_1 s0_2).bind fun bt108 => ((spec_l1Byte.f s0_0 bt108.2.1 bt108.2.2).bind fun bt111 => ((spec_l1Byte.f s0_0 bt111.2.1 bt111.2.2).bind fun bt114 => ((spec_l1Byte.f s0_0 bt114.2.1 bt114.2.2).bind fun bt117 => (if a1 = 0 then (none) else (some (Int.tmod (wrap64 ((wrap64 ((wrap64 ((wrap64 (bt108.1 * 16777216)) + (wrap64 (bt111.1 * 65536)))) + (wrap64 (bt114.1 * 256)))) + bt117.1)) a1, bt117.2.1, bt117.2.2))))))))) = some (r1, r2, r3) := h
 clear h
 by_cases c3 : a1 ≤ 0
 case pos =>
  rw [if_pos c3] at H
  have c3b0 : decide (a1 ≤ 0) = true := decide_eq_true c3
  clear c3
  simp only [Option.some.injEq, Prod.mk.injEq] at H
  obtain ⟨rfl, rfl, rfl⟩ := H
  go_enter Try.func64, Try.ntmps64
  go_wp2
  go_ret
  exact ⟨xW, IsS91.mv HI0.out, IsS91.bl HB.out, km HK.out⟩
 rw [if_neg c3] at H
 have c3b0 : decide (a1 ≤ 0) = false := decide_eq_false c3
 clear c3
 by_cases c4 : a1 ≤ 256
 case pos =>
  rw [if_pos c4] at H
  have c4b0 : decide (a1 ≤ 256) = true := decide_eq_true c4
  clear c4
  obtain ⟨⟨t105, t106, t107⟩, A50, H⟩ := hB H
  try dsimp only at H
  have A5 := aM A50
  clear A50
  by_cases c6 : a1 = 0
  case pos =>
   rw [if_pos c6] at H
   exact absurd H (by simp)
  rw [if_neg c6] at H
  have c6b0 : (a1 == 0) = false := beq_eq_false_iff_ne.mpr c6
  have c6b1 : (a1 != 0) = true := bne_iff_ne.mpr c6
  simp only [Option.some.injEq, Prod.mk.injEq] at H
  obtain ⟨rfl, rfl, rfl⟩ := H
  go_enter Try.func64, Try.ntmps64
  go_wp2_with (first | ((with_reducible refine gC (f := 82) rfl ?_); refine gL (some 14) Try.func82 #[.pointer (some ⟨g, 0, none⟩)] ?_; (with_reducible refine (spec_l1Byte.calls g s0_0 s0_1 s0_2 t105 t106 t107 w0 _ ?side1 ?side2 A5.out).mono ?_); (case side1 => exact IsS91.mv HI0.out); (case side2 => exact IsS91.bl HB.out); rintro e w7 ⟨rfl, hi, hb, hk⟩; refine ⟨_, rfl, ?_⟩; replace HK := aM (KeepBut.trans (km HK.out) hk (.inl rfl)); replace HB := aM (hb); replace HI0 := aM (hi); (try clear hb); (try clear hk); (try clear hi)))
  go_ret
  exact ⟨xW, IsS91.mv HI0.out, IsS91.bl HB.out, km HK.out⟩
 rw [if_neg c4] at H
 have c4b0 : decide (a1 ≤ 256) = false := decide_eq_false c4
 clear c4
 obtain ⟨⟨t108, t109, t110⟩, A80, H⟩ := hB H
 try dsimp only at H
 have A8 := aM A80
 clear A80
 obtain ⟨⟨t111, t112, t113⟩, A90, H⟩ := hB H
 try dsimp only at H
 have A9 := aM A90
 clear A90
 obtain ⟨⟨t114, t115, t116⟩, A100, H⟩ := hB H
 try dsimp only at H
 have A10 := aM A100
 clear A100
 obtain ⟨⟨t117, t118, t119⟩, A110, H⟩ := hB H
 try dsimp only at H
 have A11 := aM A110
 clear A110
 by_cases c12 : a1 = 0
 case pos =>
  rw [if_pos c12] at H
  exact absurd H (by simp)
 rw [if_neg c12] at H
 have c12b0 : (a1 == 0) = false := beq_eq_false_iff_ne.mpr c12
 have c12b1 : (a1 != 0) = true := bne_iff_ne.mpr c12
 simp only [Option.some.injEq, Prod.mk.injEq] at H
 obtain ⟨rfl, rfl, rfl⟩ := H
 go_enter Try.func64, Try.ntmps64
 go_wp2_with (first | ((with_reducible refine gC (f := 82) rfl ?_); refine gL (some 18) Try.func82 #[.pointer (some ⟨g, 0, none⟩)] ?_; (with_reducible refine (spec_l1Byte.calls g s0_0 s0_1 s0_2 t108 t109 t110 w0 _ ?side1 ?side2 A8.out).mono ?_); (case side1 => exact IsS91.mv HI0.out); (case side2 => exact IsS91.bl HB.out); rintro e w13 ⟨rfl, hi, hb, hk⟩; refine ⟨_, rfl, ?_⟩; replace HK := aM (KeepBut.trans (km HK.out) hk (.inl rfl)); replace HB := aM (hb); replace HI0 := aM (hi); (try clear hb); (try clear hk); (try clear hi)) | ((with_reducible refine gC (f := 82) rfl ?_); refine gL (some 20) Try.func82 #[.pointer (some ⟨g, 0, none⟩)] ?_; (with_reducible refine (spec_l1Byte.calls g s0_0 t109 t110 t111 t112 t113 w0 _ ?side1 ?side2 A9.out).mono ?_); (case side1 => exact IsS91.mv HI0.out); (case side2 => exact IsS91.bl HB.out); rintro e w14 ⟨rfl, hi, hb, hk⟩; refine ⟨_, rfl, ?_⟩; replace HK := aM (KeepBut.trans (km HK.out) hk (.inl rfl)); replace HB := aM (hb); replace HI0 := aM (hi); (try clear hb); (try clear hk); (try clear hi)) | ((with_reducible refine gC (f := 82) rfl ?_); refine gL (some 22) Try.func82 #[.pointer (some ⟨g, 0, none⟩)] ?_; (with_reducible refine (spec_l1Byte.calls g s0_0 t112 t113 t114 t115 t116 w0 _ ?side1 ?side2 A10.out).mono ?_); (case side1 => exact IsS91.mv HI0.out); (case side2 => exact IsS91.bl HB.out); rintro e w15 ⟨rfl, hi, hb, hk⟩; refine ⟨_, rfl, ?_⟩; replace HK := aM (KeepBut.trans (km HK.out) hk (.inl rfl)); replace HB := aM (hb); replace HI0 := aM (hi); (try clear hb); (try clear hk); (try clear hi)) | ((with_reducible refine gC (f := 82) rfl ?_); refine gL (some 24) Try.func82 #[.pointer (some ⟨g, 0, none⟩)] ?_; (with_reducible refine (spec_l1Byte.calls g s0_0 t115 t116 t117 t118 t119 w0 _ ?side1 ?side2 A11.out).mono ?_); (case side1 => exact IsS91.mv HI0.out); (case side2 => exact IsS91.bl HB.out); rintro e w16 ⟨rfl, hi, hb, hk⟩; refine ⟨_, rfl, ?_⟩; replace HK := aM (KeepBut.trans (km HK.out) hk (.inl rfl)); replace HB := aM (hb); replace HI0 := aM (hi); (try clear hb); (try clear hk); (try clear hi)))
 go_ret
 exact ⟨xW, IsS91.mv HI0.out, IsS91.bl HB.out, km HK.out⟩

def spec_l1Once.f (s0_0 : List Int) (s0_1 : Int) (s0_2 : Int) (a1 : Int) : Option (Bool × Int × Int) := (spec_l1Below.f s0_0 s0_1 s0_2 a1).bind fun bt120 => (some ((bt120.1 == 0), bt120.2.1, bt120.2.2))
set_option maxHeartbeats 60000000 in
set_option maxRecDepth 100000 in
theorem spec_l1Once.calls (g : Nat) (s0_0 : List Int) (s0_1 : Int) (s0_2 : Int) (a1 : Int) (r1 : Bool) (r2 : Int) (r3 : Int) (w0 w : World) (hI : IsS91 w0 w g s0_0 s0_1 s0_2) (hB : Below w0.heap.size w0 w) (h : spec_l1Once.f s0_0 s0_1 s0_2 a1 = some (r1, r2, r3)) :
  Calls Try.prog 50 #[.pointer (some ⟨g, 0, none⟩), .int .i64 a1] w fun e w' => e = .returned (.bool r1) ∧ IsS91 w0 w' g s0_0 r2 r3 ∧ Below w0.heap.size w0 w' ∧ KeepBut w w' g none := by
 have HI0 := aM hI
 have HK := aM (KeepBut.refl w g none)
 have HL := aM hB.size
 clear hI
 have HW0 := aM hB.size
 have HB := aM hB
 clear hB
 have H : ((spec_l1Below.f s0_0 s0_1 s0_2 a1).bind fun bt120 => (some ((bt120.1 == 0), bt120.2.1, bt120.2.2))) = some (r1, r2, r3) := h
 clear h
 obtain ⟨⟨t120, t121, t122⟩, A30, H⟩ := hB H
 try dsimp only at H
 have A3 := aM A30
 clear A30
 simp only [Option.some.injEq, Prod.mk.injEq] at H
 obtain ⟨rfl, rfl, rfl⟩ := H
 go_enter Try.func50, Try.ntmps50
 go_wp2_with (first | ((with_reducible refine gC (f := 64) rfl ?_); refine gL (some 7) Try.func64 #[.pointer (some ⟨g, 0, none⟩), .int .i64 a1] ?_; (with_reducible refine (spec_l1Below.calls g s0_0 s0_1 s0_2 a1 t120 t121 t122 w0 _ ?side1 ?side2 A3.out).mono ?_); (case side1 => exact IsS91.mv HI0.out); (case side2 => exact IsS91.bl HB.out); rintro e w4 ⟨rfl, hi, hb, hk⟩; refine ⟨_, rfl, ?_⟩; replace HK := aM (KeepBut.trans (km HK.out) hk (.inl rfl)); replace HB := aM (hb); replace HI0 := aM (hi); (try clear hb); (try clear hk); (try clear hi)))
 go_ret
 exact ⟨xW, IsS91.mv HI0.out, IsS91.bl HB.out, km HK.out⟩

def spec_l1PickInt.f (s0_0 : List Int) (s0_1 : Int) (s0_2 : Int) (l1 : List Int) : Option (Int × Int × Int) := (spec_l1Below.f s0_0 s0_1 s0_2 (l1.length : Int)).bind fun bt123 => (if 0 ≤ bt123.1 then (if bt123.1 < (l1.length : Int) then (some (rd l1 bt123.1, bt123.2.1, bt123.2.2)) else (none)) else (none))
set_option maxHeartbeats 60000000 in
set_option maxRecDepth 100000 in
theorem spec_l1PickInt.calls (g : Nat) (s0_0 : List Int) (s0_1 : Int) (s0_2 : Int) (A1 : Option Addr) (c1 : Nat) (l1 : List Int) (r1 : Int) (r2 : Int) (r3 : Int) (w0 w : World) (hI : IsS91 w0 w g s0_0 s0_1 s0_2) (hB : Below w0.heap.size w0 w) (hr1 : Kd.C (Kd.int .i64) w A1 l1.length l1) (hc1 : l1.length ≤ c1) (hf1 : ∀ ad, A1 = some ad → 0 < l1.length → ad.block ≠ g) (h : spec_l1PickInt.f s0_0 s0_1 s0_2 l1 = some (r1, r2, r3)) :
  Calls Try.prog 60 #[.pointer (some ⟨g, 0, none⟩), .slice A1 l1.length c1] w fun e w' => e = .returned (.int .i64 r1) ∧ IsS91 w0 w' g s0_0 r2 r3 ∧ Below w0.heap.size w0 w' ∧ KeepBut w w' g none := by
 have HR1 := aM hr1
 have HC1 := aM hc1
 clear hr1 hc1
 have HI0 := aM hI
 have HK := aM (KeepBut.refl w g none)
 have HL := aM hB.size
 clear hI
 have HW0 := aM hB.size
 have HB := aM hB
 clear hB
 have H : ((spec_l1Below.f s0_0 s0_1 s0_2 (l1.length : Int)).bind fun bt123 => (if 0 ≤ bt123.1 then (if bt123.1 < (l1.length : Int) then (some (rd l1 bt123.1, bt123.2.1, bt123.2.2)) else (none)) else (none))) = some (r1, r2, r3) := h
 clear h
 obtain ⟨⟨t123, t124, t125⟩, A30, H⟩ := hB H
 try dsimp only at H
 have A3 := aM A30
 clear A30
 by_cases c4 : 0 ≤ t123
 case neg =>
  rw [if_neg c4] at H
  exact absurd H (by simp)
 rw [if_pos c4] at H
 have c4b0 : decide (0 ≤ t123) = true := decide_eq_true c4
 clear c4
 by_cases c5 : t123 < (l1.length : Int)
 case neg =>
  rw [if_neg c5] at H
  exact absurd H (by simp)
 rw [if_pos c5] at H
 have c5b0 : decide (t123 < (l1.length : Int)) = true := decide_eq_true c5
 clear c5
 simp only [Option.some.injEq, Prod.mk.injEq] at H
 obtain ⟨rfl, rfl, rfl⟩ := H
 go_enter Try.func60, Try.ntmps60
 go_wp2_with (first | ((with_reducible refine gC (f := 64) rfl ?_); refine gL (some 9) Try.func64 #[.pointer (some ⟨g, 0, none⟩), .int .i64 (l1.length : Int)] ?_; (with_reducible refine (spec_l1Below.calls g s0_0 s0_1 s0_2 (l1.length : Int) t123 t124 t125 w0 _ ?side1 ?side2 A3.out).mono ?_); (case side1 => exact IsS91.mv HI0.out); (case side2 => exact IsS91.bl HB.out); rintro e w6 ⟨rfl, hi, hb, hk⟩; refine ⟨_, rfl, ?_⟩; replace HK := aM (KeepBut.trans (km HK.out) hk (.inl rfl)); replace HB := aM (hb); replace HI0 := aM (hi); (try clear hb); (try clear hk); (try clear hi); have p126 : 0 ≤ (t123 : Int) := of_decide_eq_true (by first | (with_reducible assumption) | assumption); have q126 : t123 < (l1.length : Int) := of_decide_eq_true (by first | (with_reducible assumption) | assumption); obtain ⟨ad126, e126, hx126_0⟩ := Kd.at_int HR1.out t123 p126 q126; cases e126; replace hx126_0 := keep_cell HK.out hx126_0 (by first | (rw [add_block]; exact hf1 _ rfl (by omega)) | exact hf1 _ rfl (by omega) | exact hf1 ad126 rfl (by omega)); replace p126 := eq_true p126; replace q126 := eq_true q126))
 go_ret
 exact ⟨xW, IsS91.mv HI0.out, IsS91.bl HB.out, km HK.out⟩

def spec_l6DrawRight.f (s0_0 : List Int) (s0_1 : Int) (s0_2 : Int) : Option (Int × Int × Int × Int × Int × Int) := (spec_l1Below.f s0_0 s0_1 s0_2 4).bind fun bt128 => ((spec_l1Below.f s0_0 bt128.2.1 bt128.2.2 4).bind fun bt131 => ((spec_l1Below.f s0_0 bt131.2.1 bt131.2.2 3).bind fun bt135 => (if (wrap64 ((wrap64 (1 + bt128.1)) + bt135.1)) > (wrap64 (1 + bt128.1)) then ((spec_l1Below.f s0_0 bt135.2.1 bt135.2.2 3).bind fun bt138 => (some (wrap64 (1 + bt128.1), wrap64 (1 + bt138.1), wrap64 ((wrap64 (1 + bt128.1)) + bt135.1), bt131.1, bt138.2.1, bt138.2.2))) else (some (wrap64 (1 + bt128.1), 0, wrap64 ((wrap64 (1 + bt128.1)) + bt135.1), bt131.1, bt135.2.1, bt135.2.2)))))
set_option maxHeartbeats 60000000 in
set_option maxRecDepth 100000 in
theorem spec_l6DrawRight.calls (g : Nat) (s0_0 : List Int) (s0_1 : Int) (s0_2 : Int) (r1 : Int) (r2 : Int) (r3 : Int) (r4 : Int) (r5 : Int) (r6 : Int) (w0 w : World) (hI : IsS91 w0 w g s0_0 s0_1 s0_2) (hB : Below w0.heap.size w0 w) (h : spec_l6DrawRight.f s0_0 s0_1 s0_2 = some (r1, r2, r3, r4, r5, r6)) :
  Calls Try.prog 78 #[.pointer (some ⟨g, 0, none⟩)] w fun e w' => e = .returned (.agg #[.int .i64 r1, .int .i64 r2, .int .i64 r3, .int .i64 r4]) ∧ IsS91 w0 w' g s0_0 r5 r6 ∧ Below w0.heap.size w0 w' ∧ KeepBut w w' g none := by
 have hu36 := Try.underlying36
 have HI0 := aM hI
 have HK := aM (KeepBut.refl w g none)
 have HL := aM hB.size
 clear hI
 have HW0 := aM hB.size
 have HB := aM hB
 clear hB
 have H : ((spec_l1Below.f s0_0 s0_1 s0_2 4).bind fun bt128 => ((spec_l1Below.f s0_0 bt128.2.1 bt128.2.2 4).bind fun bt131 => ((spec_l1Below.f s0_0 bt131.2.1 bt131.2.2 3).bind fun bt135 => (if (wrap64 ((wrap64 (1 + bt128.1)) + bt135.1)) > (wrap64 (1 + bt128.1)) then ((spec_l1Below.f s0_0 bt135.2.1 bt135.2.2 3).bind fun bt138 => (some (wrap64 (1 + bt128.1), wrap64 (1 + bt138.1), wrap64 ((wrap64 (1 + bt128.1)) + bt135.1), bt131.1, bt138.2.1, bt138.2.2))) else (some (wrap64 (1 + bt128.1), 0, wrap64 ((wrap64 (1 + bt128.1)) + bt135.1), bt131.1, bt135.2.1, bt135.2.2)))))) = some (r1, r2, r3, r4, r5, r6) := h
 clear h
 obtain ⟨⟨t128, t129, t130⟩, A20, H⟩ := hB H
 try dsimp only at H
 have A2 := aM A20
 clear A20
 obtain ⟨⟨t131, t132, t133⟩, A30, H⟩ := hB H
 try dsimp only at H
 have A3 := aM A30
 clear A30
 obtain ⟨⟨t135, t136, t137⟩, A40, H⟩ := hB H
 try dsimp only at H
 have A4 := aM A40
 clear A40
 by_cases c5 : (wrap64 ((wrap64 (1 + t128)) + t135)) > (wrap64 (1 + t128))
 case pos =>
  rw [if_pos c5] at H
  have c5b0 : decide ((wrap64 (1 + t128)) < (wrap64 ((wrap64 (1 + t128)) + t135))) = true := decide_eq_true c5
  clear c5
  obtain ⟨⟨t138, t139, t140⟩, A60, H⟩ := hB H
  try dsimp only at H
  have A6 := aM A60
  clear A60
  simp only [Option.some.injEq, Prod.mk.injEq] at H
  obtain ⟨rfl, rfl, rfl, rfl, rfl, rfl⟩ := H
  go_enter Try.func78, Try.ntmps78
  try go_wp2_with (first | ((with_reducible refine gD (N := 2) rfl ?_); refine bE (N := 2) (cs := #[.int .i64 0, .int .i64 0, .int .i64 0, .int .i64 0]) (t := 36) ?_; intro gb127 hg w7 hbox hb; have BK127 := aM (hbox); have GW127 := gE hg (keep_size (km HK.out)); have GE127 := gE2 HW0.out hg (keep_size (km HK.out)); have NB0_127 := nL hg (IsS91.lt (show IsS91 w0 _ g s0_0 s0_1 s0_2 from IsS91.mv HI0.out)); have NB127_0 := nG hg (IsS91.lt (show IsS91 w0 _ g s0_0 s0_1 s0_2 from IsS91.mv HI0.out)); replace HI0 := aM (IsS91.below (IsS91.mv HI0.out) hb); replace HK := aM (KeepBut.trans (km HK.out) (KeepBut.of_below hb g none) (.inl rfl)); replace HB := aM (bS (IsS91.bl HB.out) hb); clear hb hbox hg) | ((with_reducible refine gC (f := 64) rfl ?_); refine gL (some 5) Try.func64 #[.pointer (some ⟨g, 0, none⟩), .int .i64 4] ?_; (with_reducible refine (spec_l1Below.calls g s0_0 s0_1 s0_2 4 t128 t129 t130 w0 _ ?side1 ?side2 A2.out).mono ?_); (case side1 => exact IsS91.mv HI0.out); (case side2 => exact IsS91.bl HB.out); rintro e w8 ⟨rfl, hi, hb, hk⟩; refine ⟨_, rfl, ?_⟩; replace BK127 := aM (KeepBut.blk hk (bk BK127.out) NB127_0.out (by simp)); replace HK := aM (KeepBut.trans (km HK.out) hk (.inl rfl)); replace HB := aM (hb); replace HI0 := aM (hi); (try clear hb); (try clear hk); (try clear hi)) | ((with_reducible refine gC (f := 64) rfl ?_); refine gL (some 8) Try.func64 #[.pointer (some ⟨g, 0, none⟩), .int .i64 4] ?_; (with_reducible refine (spec_l1Below.calls g s0_0 t129 t130 4 t131 t132 t133 w0 _ ?side1 ?side2 A3.out).mono ?_); (case side1 => exact IsS91.mv HI0.out); (case side2 => exact IsS91.bl HB.out); rintro e w9 ⟨rfl, hi, hb, hk⟩; refine ⟨_, rfl, ?_⟩; replace BK127 := aM (KeepBut.blk hk (bk BK127.out) NB127_0.out (by simp)); replace HK := aM (KeepBut.trans (km HK.out) hk (.inl rfl)); replace HB := aM (hb); replace HI0 := aM (hi); (try clear hb); (try clear hk); (try clear hi)) | ((with_reducible refine gD (N := 3) rfl ?_); refine bE (N := 3) (cs := #[.int .i64 0, .int .i64 0, .int .i64 0, .int .i64 0]) (t := 36) ?_; intro gb134 hg w10 hbox hb; have BK134 := aM (hbox); have GW134 := gE hg (keep_size (km HK.out)); have GE134 := gE2 HW0.out hg (keep_size (km HK.out)); have NB127_134 := nL hg (blk_lt (bk BK127.out)); have NB134_127 := nG hg (blk_lt (bk BK127.out)); have NB0_134 := nL hg (IsS91.lt (show IsS91 w0 _ g s0_0 t132 t133 from IsS91.mv HI0.out)); have NB134_0 := nG hg (IsS91.lt (show IsS91 w0 _ g s0_0 t132 t133 from IsS91.mv HI0.out)); replace HI0 := aM (IsS91.below (IsS91.mv HI0.out) hb); replace BK127 := aM (bB (bk BK127.out) hb); replace HK := aM (KeepBut.trans (km HK.out) (KeepBut.of_below hb g none) (.inl rfl)); replace HB := aM (bS (IsS91.bl HB.out) hb); clear hb hbox hg; have hnb11 := NB134_127.out; have hnc11 := NB127_134.out; have hnb12 := NB134_0.out; have hnc12 := NB0_134.out; have hcz13 := cA4 BK134.out))
  refine nW (fun W => Aside0 (W.heap[gb127]? = some (.cells #[.int .i64 0, .int .i64 0, .int .i64 0, .int .i64 0] 36 (0, 0))) ∧ Aside0 (W.heap[gb134]? = some (.cells #[.int .i64 (wrap64 (1 + t128)), .int .i64 0, .int .i64 0, .int .i64 t131] 36 (0, 0))) ∧ Aside0 (IsS91 w0 W g s0_0 t132 t133) ∧ Aside0 (KeepBut w W g none) ∧ Aside0 (Below w0.heap.size w0 W)) ⟨⟨fm BK127.out⟩, ⟨bm BK134.out⟩, ⟨IsS91.mv HI0.out⟩, ⟨km HK.out⟩, ⟨IsS91.bl HB.out⟩⟩ ?_
  intro w14 nn_
  replace BK127 := nn_.1
  replace BK134 := nn_.2.1
  replace HI0 := nn_.2.2.1
  replace HK := nn_.2.2.2.1
  replace HB := nn_.2.2.2.2
  clear nn_
  replace BK127 := aM (blk_drew BK127.out)
  replace BK134 := aM (blk_drew BK134.out)
  replace HI0 := aM (IsS91.drew HI0.out)
  replace HK := aM (keep_drew HK.out)
  replace HB := aM (below_drew1 HB.out)
  refine start_ (n := 7) (S := fun w' => cS4 w' gb134 (.int .i64 (wrap64 (1 + t128))) (.int .i64 0) (.int .i64 0) (.int .i64 t131)) (ds := [6]) (dn 7 0) (by kernel_rfl) rfl rfl ⟨cI BK134.out 0, cI BK134.out 1, cI BK134.out 2, cI BK134.out 3⟩ (fun hHeld => ?_)
  generalize w14.drew = w15 at BK127 BK134 HI0 HK HB hHeld ⊢
  refine pure_ (i := 0) (N := some 10) (v := ?_) (a' := ?_) #[Y,U,U,U,U,U,U] rfl rfl (by kernel_rfl) (fun _ _ _ h => h) (Or.inl ⟨by rfl, ?_⟩) ?_ ?_
  rotate_left
  ·intro w'
   go_simp
   with_reducible rfl
  rotate_left
  ·simp only [Act.put, sA, sZ, sS, i64_w, i32_w]
   rfl
  refine pure_ (i := 2) (N := some 12) (v := ?_) (a' := ?_) #[Y,U,Y,U,U,U,U] rfl rfl (by kernel_rfl) (fun _ _ _ h => h) (Or.inl ⟨by rfl, ?_⟩) ?_ ?_
  rotate_left
  ·intro w'
   go_simp
   with_reducible rfl
  rotate_left
  ·simp only [Act.put, sA, sZ, sS, i64_w, i32_w]
   rfl
  refine take_ (i := 1) (N := some 11) (v := ?_) (a' := ?_) #[Y,Y,Y,U,U,U,U] rfl rfl (by kernel_rfl) (fun _ _ _ h => h) (Or.inl ⟨by rfl, ?_⟩) hHeld ?_ ?_
  rotate_left
  ·rintro w' ⟨s0, s1, s2, s3⟩
   go_simp
   with_reducible rfl
  rotate_left
  ·simp only [Act.put, sA, sZ, sS, i64_w, i32_w]
   rfl
  refine one_ (i := 3) (N := some 13) #[Y,Y,Y,Y,U,U,U] rfl rfl (by kernel_rfl) (by decide) (fun K hK => ?_)
  refine goes_ Try.func64 (by kernel_rfl) rfl #[.pointer (some ⟨g, 0, none⟩), .int .i64 3] (by rfl) rfl rfl xR ?_
  with_reducible refine (spec_l1Below.calls g s0_0 t132 t133 3 t135 t136 t137 w0 _ ?side1 ?side2 A4.out).mono ?_
  (case side1 => exact IsS91.mv HI0.out)
  (case side2 => exact IsS91.bl HB.out)
  rintro e w16 ⟨rfl, hi, hb, hk⟩
  refine ⟨_, rfl, ?_⟩
  replace BK127 := aM (KeepBut.blk hk (bk BK127.out) NB127_0.out (by simp))
  replace BK134 := aM (KeepBut.blk hk (bk BK134.out) NB134_0.out (by simp))
  replace HK := aM (KeepBut.trans (km HK.out) hk (.inl rfl))
  replace HB := aM (hb)
  replace HI0 := aM (hi)
  (try clear hb)
  (try clear hb2)
  (try clear hk)
  (try clear hi)
  refine hK.out _ _ ⟨cI BK134.out 0, cI BK134.out 1, cI BK134.out 2, cI BK134.out 3⟩ (fun hHeld => ?_)
  clear hK K
  refine norm_ (a' := ?_) ?_ ?_
  rotate_left
  ·show Act.put _ (some 13) _ = _
   simp only [Act.put, sA, sZ, sS, i64_w, i32_w]
   rfl
  refine pure_ (i := 4) (N := some 14) (v := ?_) (a' := ?_) #[Y,Y,Y,Y,Y,U,U] rfl rfl (by kernel_rfl) (fun _ _ _ h => h) (Or.inl ⟨by rfl, ?_⟩) ?_ ?_
  rotate_left
  ·intro w'
   go_simp
   with_reducible rfl
  rotate_left
  ·simp only [Act.put, sA, sZ, sS, i64_w, i32_w]
   rfl
  refine pure_ (i := 5) (N := some 15) (v := ?_) (a' := ?_) #[Y,Y,Y,Y,Y,Y,U] rfl rfl (by kernel_rfl) (fun _ _ _ h => h) (Or.inl ⟨by rfl, ?_⟩) ?_ ?_
  rotate_left
  ·intro w'
   go_simp
   with_reducible rfl
  rotate_left
  ·simp only [Act.put, sA, sZ, sS, i64_w, i32_w]
   rfl
  refine last_ (i := 6) (N := none) #[Y,Y,Y,Y,Y,Y,Y] rfl rfl (by kernel_rfl) (by decide) (fun K hK => ?_)
  have hs17 := cI BK134.out 2
  have hfs17 := bF BK134.out 2
  have hns17_0 := NB127_134.out
  have hms17_0 := NB134_127.out
  refine skip_ (w1 := ?_) (by rfl) rfl ?_ ?_
  rotate_left
  ·go_simp
   rfl
  refine hK.out _ _ ?_
  clear hK K
  refine done_ (by kernel_rfl) ?_
  have hcz18_0 : w16.cell? ⟨gb134, 0, none⟩ = some (.int .i64 (wrap64 (1 + t128))) := cI BK134.out 0
  have hcz18_1 := cI BK134.out 1
  have hcz18_2 := cI BK134.out 2
  have hcz18_3 := cI BK134.out 3
  have hfz18_0 := bF BK134.out 0
  have hfz18_1 := bF BK134.out 1
  have hfz18_2 := bF BK134.out 2
  have hfz18_3 := bF BK134.out 3
  try go_wp2_with (first | ((with_reducible refine gC (f := 64) rfl ?_); refine gL (some 22) Try.func64 #[.pointer (some ⟨g, 0, none⟩), .int .i64 3] ?_; (with_reducible refine (spec_l1Below.calls g s0_0 t136 t137 3 t138 t139 t140 w0 _ ?side1 ?side2 A6.out).mono ?_); (case side1 => exact IsS91.mv HI0.out); (case side2 => exact IsS91.bl HB.out); rintro e w19 ⟨rfl, hi, hb, hk⟩; refine ⟨_, rfl, ?_⟩; replace BK127 := aM (KeepBut.blk hk (fm BK127.out) NB127_0.out (by simp)); replace BK134 := aM (KeepBut.blk hk (g' := gb134) (o := .cells #[.int .i64 (wrap64 (1 + t128)), .int .i64 0, .int .i64 (wrap64 ((wrap64 (1 + t128)) + t135)), .int .i64 t131] 36 (0, 0)) (by (with_reducible repeat (first | refine blk_drewN ?_ _ | refine blk_drew ?_ | refine blk_alloc ?_ _)); refine blk_put (cs := #[.int .i64 (wrap64 (1 + t128)), .int .i64 0, .int .i64 0, .int .i64 t131]) ?_ 2 _ rfl; (with_reducible repeat (first | refine blk_drewN ?_ _ | refine blk_drew ?_ | refine blk_alloc ?_ _)); exact BK134.out) NB134_0.out (by simp)); replace HK := aM (KeepBut.trans (km HK.out) hk (.inl rfl)); replace HB := aM (hb); replace HI0 := aM (hi); (try clear hb); (try clear hk); (try clear hi); have hcz20_0 : w19.cell? ⟨gb134, 0, none⟩ = some (.int .i64 (wrap64 (1 + t128))) := cI BK134.out 0; have hcz20_1 := cI BK134.out 1; have hcz20_2 : w19.cell? ⟨gb134, 2, none⟩ = some (.int .i64 (wrap64 ((wrap64 (1 + t128)) + t135))) := cI BK134.out 2; have hcz20_3 := cI BK134.out 3; have hfz20_0 := bF BK134.out 0; have hfz20_1 := bF BK134.out 1; have hfz20_2 := bF BK134.out 2; have hfz20_3 := bF BK134.out 3; have hnb21 := NB127_0.out; have hnc21 := NB0_127.out; have hcz22 := cA4 BK127.out))
  refine bodyPost_ret (results_cell_row rfl _ _ gb127 36 #[.int .i64 (wrap64 (1 + t128)), .int .i64 (wrap64 (1 + t138)), .int .i64 (wrap64 ((wrap64 (1 + t128)) + t135)), .int .i64 t131] (0, 0) _ rfl (bm BK127.out) Try.underlying36 rfl (by kernel_rfl)) rfl ?_
  exact ⟨xW, IsS91.mv HI0.out, IsS91.bl HB.out, km HK.out⟩
 rw [if_neg c5] at H
 have c5b0 : decide ((wrap64 (1 + t128)) < (wrap64 ((wrap64 (1 + t128)) + t135))) = false := decide_eq_false c5
 clear c5
 simp only [Option.some.injEq, Prod.mk.injEq] at H
 obtain ⟨rfl, rfl, rfl, rfl, rfl, rfl⟩ := H
 go_enter Try.func78, Try.ntmps78
 try go_wp2_with (first | ((with_reducible refine gD (N := 2) rfl ?_); refine bE (N := 2) (cs := #[.int .i64 0, .int .i64 0, .int .i64 0, .int .i64 0]) (t := 36) ?_; intro gb127 hg w23 hbox hb; have BK127 := aM (hbox); have GW127 := gE hg (keep_size (km HK.out)); have GE127 := gE2 HW0.out hg (keep_size (km HK.out)); have NB0_127 := nL hg (IsS91.lt (show IsS91 w0 _ g s0_0 s0_1 s0_2 from IsS91.mv HI0.out)); have NB127_0 := nG hg (IsS91.lt (show IsS91 w0 _ g s0_0 s0_1 s0_2 from IsS91.mv HI0.out)); replace HI0 := aM (IsS91.below (IsS91.mv HI0.out) hb); replace HK := aM (KeepBut.trans (km HK.out) (KeepBut.of_below hb g none) (.inl rfl)); replace HB := aM (bS (IsS91.bl HB.out) hb); clear hb hbox hg) | ((with_reducible refine gC (f := 64) rfl ?_); refine gL (some 5) Try.func64 #[.pointer (some ⟨g, 0, none⟩), .int .i64 4] ?_; (with_reducible refine (spec_l1Below.calls g s0_0 s0_1 s0_2 4 t128 t129 t130 w0 _ ?side1 ?side2 A2.out).mono ?_); (case side1 => exact IsS91.mv HI0.out); (case side2 => exact IsS91.bl HB.out); rintro e w24 ⟨rfl, hi, hb, hk⟩; refine ⟨_, rfl, ?_⟩; replace BK127 := aM (KeepBut.blk hk (bk BK127.out) NB127_0.out (by simp)); replace HK := aM (KeepBut.trans (km HK.out) hk (.inl rfl)); replace HB := aM (hb); replace HI0 := aM (hi); (try clear hb); (try clear hk); (try clear hi)) | ((with_reducible refine gC (f := 64) rfl ?_); refine gL (some 8) Try.func64 #[.pointer (some ⟨g, 0, none⟩), .int .i64 4] ?_; (with_reducible refine (spec_l1Below.calls g s0_0 t129 t130 4 t131 t132 t133 w0 _ ?side1 ?side2 A3.out).mono ?_); (case side1 => exact IsS91.mv HI0.out); (case side2 => exact IsS91.bl HB.out); rintro e w25 ⟨rfl, hi, hb, hk⟩; refine ⟨_, rfl, ?_⟩; replace BK127 := aM (KeepBut.blk hk (bk BK127.out) NB127_0.out (by simp)); replace HK := aM (KeepBut.trans (km HK.out) hk (.inl rfl)); replace HB := aM (hb); replace HI0 := aM (hi); (try clear hb); (try clear hk); (try clear hi)) | ((with_reducible refine gD (N := 3) rfl ?_); refine bE (N := 3) (cs := #[.int .i64 0, .int .i64 0, .int .i64 0, .int .i64 0]) (t := 36) ?_; intro gb134 hg w26 hbox hb; have BK134 := aM (hbox); have GW134 := gE hg (keep_size (km HK.out)); have GE134 := gE2 HW0.out hg (keep_size (km HK.out)); have NB127_134 := nL hg (blk_lt (bk BK127.out)); have NB134_127 := nG hg (blk_lt (bk BK127.out)); have NB0_134 := nL hg (IsS91.lt (show IsS91 w0 _ g s0_0 t132 t133 from IsS91.mv HI0.out)); have NB134_0 := nG hg (IsS91.lt (show IsS91 w0 _ g s0_0 t132 t133 from IsS91.mv HI0.out)); replace HI0 := aM (IsS91.below (IsS91.mv HI0.out) hb); replace BK127 := aM (bB (bk BK127.out) hb); replace HK := aM (KeepBut.trans (km HK.out) (KeepBut.of_below hb g none) (.inl rfl)); replace HB := aM (bS (IsS91.bl HB.out) hb); clear hb hbox hg; have hnb27 := NB134_127.out; have hnc27 := NB127_134.out; have hnb28 := NB134_0.out; have hnc28 := NB0_134.out; have hcz29 := cA4 BK134.out))
 refine nW (fun W => Aside0 (W.heap[gb127]? = some (.cells #[.int .i64 0, .int .i64 0, .int .i64 0, .int .i64 0] 36 (0, 0))) ∧ Aside0 (W.heap[gb134]? = some (.cells #[.int .i64 (wrap64 (1 + t128)), .int .i64 0, .int .i64 0, .int .i64 t131] 36 (0, 0))) ∧ Aside0 (IsS91 w0 W g s0_0 t132 t133) ∧ Aside0 (KeepBut w W g none) ∧ Aside0 (Below w0.heap.size w0 W)) ⟨⟨fm BK127.out⟩, ⟨bm BK134.out⟩, ⟨IsS91.mv HI0.out⟩, ⟨km HK.out⟩, ⟨IsS91.bl HB.out⟩⟩ ?_
 intro w30 nn_
 replace BK127 := nn_.1
 replace BK134 := nn_.2.1
 replace HI0 := nn_.2.2.1
 replace HK := nn_.2.2.2.1
 replace HB := nn_.2.2.2.2
 clear nn_
 replace BK127 := aM (blk_drew BK127.out)
 replace BK134 := aM (blk_drew BK134.out)
 replace HI0 := aM (IsS91.drew HI0.out)
 replace HK := aM (keep_drew HK.out)
 replace HB := aM (below_drew1 HB.out)
 refine start_ (n := 7) (S := fun w' => cS4 w' gb134 (.int .i64 (wrap64 (1 + t128))) (.int .i64 0) (.int .i64 0) (.int .i64 t131)) (ds := [6]) (dn 7 0) (by kernel_rfl) rfl rfl ⟨cI BK134.out 0, cI BK134.out 1, cI BK134.out 2, cI BK134.out 3⟩ (fun hHeld => ?_)
 generalize w30.drew = w31 at BK127 BK134 HI0 HK HB hHeld ⊢
 refine pure_ (i := 0) (N := some 10) (v := ?_) (a' := ?_) #[Y,U,U,U,U,U,U] rfl rfl (by kernel_rfl) (fun _ _ _ h => h) (Or.inl ⟨by rfl, ?_⟩) ?_ ?_
 rotate_left
 ·intro w'
  go_simp
  with_reducible rfl
 rotate_left
 ·simp only [Act.put, sA, sZ, sS, i64_w, i32_w]
  rfl
 refine pure_ (i := 2) (N := some 12) (v := ?_) (a' := ?_) #[Y,U,Y,U,U,U,U] rfl rfl (by kernel_rfl) (fun _ _ _ h => h) (Or.inl ⟨by rfl, ?_⟩) ?_ ?_
 rotate_left
 ·intro w'
  go_simp
  with_reducible rfl
 rotate_left
 ·simp only [Act.put, sA, sZ, sS, i64_w, i32_w]
  rfl
 refine take_ (i := 1) (N := some 11) (v := ?_) (a' := ?_) #[Y,Y,Y,U,U,U,U] rfl rfl (by kernel_rfl) (fun _ _ _ h => h) (Or.inl ⟨by rfl, ?_⟩) hHeld ?_ ?_
 rotate_left
 ·rintro w' ⟨s0, s1, s2, s3⟩
  go_simp
  with_reducible rfl
 rotate_left
 ·simp only [Act.put, sA, sZ, sS, i64_w, i32_w]
  rfl
 refine one_ (i := 3) (N := some 13) #[Y,Y,Y,Y,U,U,U] rfl rfl (by kernel_rfl) (by decide) (fun K hK => ?_)
 refine goes_ Try.func64 (by kernel_rfl) rfl #[.pointer (some ⟨g, 0, none⟩), .int .i64 3] (by rfl) rfl rfl xR ?_
 with_reducible refine (spec_l1Below.calls g s0_0 t132 t133 3 t135 t136 t137 w0 _ ?side1 ?side2 A4.out).mono ?_
 (case side1 => exact IsS91.mv HI0.out)
 (case side2 => exact IsS91.bl HB.out)
 rintro e w32 ⟨rfl, hi, hb, hk⟩
 refine ⟨_, rfl, ?_⟩
 replace BK127 := aM (KeepBut.blk hk (bk BK127.out) NB127_0.out (by simp))
 replace BK134 := aM (KeepBut.blk hk (bk BK134.out) NB134_0.out (by simp))
 replace HK := aM (KeepBut.trans (km HK.out) hk (.inl rfl))
 replace HB := aM (hb)
 replace HI0 := aM (hi)
 (try clear hb)
 (try clear hb2)
 (try clear hk)
 (try clear hi)
 refine hK.out _ _ ⟨cI BK134.out 0, cI BK134.out 1, cI BK134.out 2, cI BK134.out 3⟩ (fun hHeld => ?_)
 clear hK K
 refine norm_ (a' := ?_) ?_ ?_
 rotate_left
 ·show Act.put _ (some 13) _ = _
  simp only [Act.put, sA, sZ, sS, i64_w, i32_w]
  rfl
 refine pure_ (i := 4) (N := some 14) (v := ?_) (a' := ?_) #[Y,Y,Y,Y,Y,U,U] rfl rfl (by kernel_rfl) (fun _ _ _ h => h) (Or.inl ⟨by rfl, ?_⟩) ?_ ?_
 rotate_left
 ·intro w'
  go_simp
  with_reducible rfl
 rotate_left
 ·simp only [Act.put, sA, sZ, sS, i64_w, i32_w]
  rfl
 refine pure_ (i := 5) (N := some 15) (v := ?_) (a' := ?_) #[Y,Y,Y,Y,Y,Y,U] rfl rfl (by kernel_rfl) (fun _ _ _ h => h) (Or.inl ⟨by rfl, ?_⟩) ?_ ?_
 rotate_left
 ·intro w'
  go_simp
  with_reducible rfl
 rotate_left
 ·simp only [Act.put, sA, sZ, sS, i64_w, i32_w]
  rfl
 refine last_ (i := 6) (N := none) #[Y,Y,Y,Y,Y,Y,Y] rfl rfl (by kernel_rfl) (by decide) (fun K hK => ?_)
 have hs33 := cI BK134.out 2
 have hfs33 := bF BK134.out 2
 have hns33_0 := NB127_134.out
 have hms33_0 := NB134_127.out
 refine skip_ (w1 := ?_) (by rfl) rfl ?_ ?_
 rotate_left
 ·go_simp
  rfl
 refine hK.out _ _ ?_
 clear hK K
 refine done_ (by kernel_rfl) ?_
 have hcz34_0 : w32.cell? ⟨gb134, 0, none⟩ = some (.int .i64 (wrap64 (1 + t128))) := cI BK134.out 0
 have hcz34_1 := cI BK134.out 1
 have hcz34_2 := cI BK134.out 2
 have hcz34_3 := cI BK134.out 3
 have hfz34_0 := bF BK134.out 0
 have hfz34_1 := bF BK134.out 1
 have hfz34_2 := bF BK134.out 2
 have hfz34_3 := bF BK134.out 3
 have hnb35 := NB127_0.out
 have hnc35 := NB0_127.out
 have hcz36 := cA4 BK127.out
 try go_wp2
 refine bodyPost_ret (results_cell_row rfl _ _ gb127 36 #[.int .i64 (wrap64 (1 + t128)), .int .i64 0, .int .i64 (wrap64 ((wrap64 (1 + t128)) + t135)), .int .i64 t131] (0, 0) _ rfl (bm BK127.out) Try.underlying36 rfl (by kernel_rfl)) rfl ?_
 exact ⟨xW, IsS91.mv HI0.out, IsS91.bl HB.out, km HK.out⟩

def spec_l6Draw.f (s0_0 : List Int) (s0_1 : Int) (s0_2 : Int) : Option (Int × Int × Int × Int × Int × Int) := (spec_l6DrawRight.f s0_0 s0_1 s0_2).bind fun bt142 => ((spec_l1Below.f s0_0 bt142.2.2.2.2.1 bt142.2.2.2.2.2 10).bind fun bt149 => (if bt149.1 = 0 then ((spec_l1PickInt.f s0_0 bt149.2.1 bt149.2.2 (([0, 9, 10] : List Int))).bind fun bt155 => (some (bt155.1, bt142.2.1, bt142.2.2.1, bt142.2.2.2.1, bt155.2.1, bt155.2.2))) else (if bt149.1 = 1 then ((spec_l1PickInt.f s0_0 bt149.2.1 bt149.2.2 (([(-1), 0, 20, 21] : List Int))).bind fun bt161 => (some (bt142.1, bt161.1, bt142.2.2.1, bt142.2.2.2.1, bt161.2.1, bt161.2.2))) else (if bt149.1 = 2 then ((spec_l1PickInt.f s0_0 bt149.2.1 bt149.2.2 (([0, 9, 10] : List Int))).bind fun bt167 => (some (bt142.1, bt142.2.1, bt167.1, bt142.2.2.2.1, bt167.2.1, bt167.2.2))) else (if bt149.1 = 3 then ((spec_l1PickInt.f s0_0 bt149.2.1 bt149.2.2 (([(-1), 3, 4] : List Int))).bind fun bt173 => (some (bt142.1, bt142.2.1, bt142.2.2.1, bt173.1, bt173.2.1, bt173.2.2))) else (some (bt142.1, bt142.2.1, bt142.2.2.1, bt142.2.2.2.1, bt149.2.1, bt149.2.2)))))))
set_option maxHeartbeats 60000000 in
set_option maxRecDepth 100000 in
theorem spec_l6Draw.calls (g : Nat) (s0_0 : List Int) (s0_1 : Int) (s0_2 : Int) (r1 : Int) (r2 : Int) (r3 : Int) (r4 : Int) (r5 : Int) (r6 : Int) (w0 w : World) (hI : IsS91 w0 w g s0_0 s0_1 s0_2) (hB : Below w0.heap.size w0 w) (h : spec_l6Draw.f s0_0 s0_1 s0_2 = some (r1, r2, r3, r4, r5, r6)) :
  Calls Try.prog 59 #[.pointer (some ⟨g, 0, none⟩)] w fun e w' => e = .returned (.agg #[.int .i64 r1, .int .i64 r2, .int .i64 r3, .int .i64 r4]) ∧ IsS91 w0 w' g s0_0 r5 r6 ∧ Below w0.heap.size w0 w' ∧ KeepBut w w' g none := by
 have hu36 := Try.underlying36
 have HI0 := aM hI
 have HK := aM (KeepBut.refl w g none)
 have HL := aM hB.size
 clear hI
 have HW0 := aM hB.size
 have HB := aM hB
 clear hB
 have H : ((spec_l6DrawRight.f s0_0 s0_1 s0_2).bind fun bt142 => ((spec_l1Below.f s0_0 bt142.2.2.2.2.1 bt142.2.2.2.2.2 10).bind fun bt149 => (if bt149.1 = 0 then ((spec_l1PickInt.f s0_0 bt149.2.1 bt149.2.2 (([0, 9, 10] : List Int))).bind fun bt155 => (some (bt155.1, bt142.2.1, bt142.2.2.1, bt142.2.2.2.1, bt155.2.1, bt155.2.2))) else (if bt149.1 = 1 then ((spec_l1PickInt.f s0_0 bt149.2.1 bt149.2.2 (([(-1), 0, 20, 21] : List Int))).bind fun bt161 => (some (bt142.1, bt161.1, bt142.2.2.1, bt142.2.2.2.1, bt161.2.1, bt161.2.2))) else (if bt149.1 = 2 then ((spec_l1PickInt.f s0_0 bt149.2.1 bt149.2.2 (([0, 9, 10] : List Int))).bind fun bt167 => (some (bt142.1, bt142.2.1, bt167.1, bt142.2.2.2.1, bt167.2.1, bt167.2.2))) else (if bt149.1 = 3 then ((spec_l1PickInt.f s0_0 bt149.2.1 bt149.2.2 (([(-1), 3, 4] : List Int))).bind fun bt173 => (some (bt142.1, bt142.2.1, bt142.2.2.1, bt173.1, bt173.2.1, bt173.2.2))) else (some (bt142.1, bt142.2.1, bt142.2.2.1, bt142.2.2.2.1, bt149.2.1, bt149.2.2)))))))) = some (r1, r2, r3, r4, r5, r6) := h
 clear h
 obtain ⟨⟨t142, t143, t144, t145, t146, t147⟩, A20, H⟩ := hB H
 try dsimp only at H
 have A2 := aM A20
 clear A20
 obtain ⟨⟨t149, t150, t151⟩, A30, H⟩ := hB H
 try dsimp only at H
 have A3 := aM A30
 clear A30
 by_cases c4 : t149 = 0
 case pos =>
  rw [if_pos c4] at H
  have c4b0 : (t149 == 0) = true := beq_iff_eq.mpr c4
  have c4b1 : (t149 != 0) = false := bne_eq_false_iff_eq.mpr c4
  clear c4
  obtain ⟨y152, hy152⟩ : ∃ y_ : List Int, y_ = (([0, 9, 10] : List Int)) := ⟨_, rfl⟩
  replace H : ((spec_l1PickInt.f s0_0 t150 t151 y152).bind fun bt155 => (some (bt155.1, t143, t144, t145, bt155.2.1, bt155.2.2))) = some (r1, r2, r3, r4, r5, r6) := by first | (rw [hy152]; with_reducible exact H) | (have H2_ := (Option.bind_some _ _).symm.trans H; rw [hy152]; with_reducible exact H2_) | (have H2_ := (Option.bind_some _ _).symm.trans H; with_reducible exact H2_) | with_reducible exact H | (rw [hy152]; exact H) | exact H
  have Ny152 := aM hy152
  clear hy152
  obtain ⟨⟨t155, t156, t157⟩, A50, H⟩ := hB H
  try dsimp only at H
  have A5 := aM A50
  clear A50
  simp only [Option.some.injEq, Prod.mk.injEq] at H
  obtain ⟨rfl, rfl, rfl, rfl, rfl, rfl⟩ := H
  go_enter Try.func59, Try.ntmps59
  go_wp2_with (first | ((with_reducible refine gD (N := 2) rfl ?_); refine box_event ?hg (N := 2) ?hd (cs := #[.int .i64 0, .int .i64 0, .int .i64 0, .int .i64 0]) (t := 36) ?hr ?_; (case hd => rfl); (case hg => rfl); (case hr => first | (go_simp; done) | (go_simp; rfl) | (obtain ⟨A_, c_, e_⟩ := Kd.R_slice HO154.out; subst e_; (first | (go_simp; done) | (go_simp; rfl))) | (obtain ⟨A_, c_, e_⟩ := Kd.S_slice HO154.out; subst e_; (first | (go_simp; done) | (go_simp; rfl)))); intro gb141 hg w6 hbox hb; have BK141 := aM (hbox); have GW141 := gE hg (keep_size (km HK.out)); have GE141 := gE2 HW0.out hg (keep_size (km HK.out)); have NB0_141 := nL hg (IsS91.lt (show IsS91 w0 _ g s0_0 s0_1 s0_2 from IsS91.mv HI0.out)); have NB141_0 := nG hg (IsS91.lt (show IsS91 w0 _ g s0_0 s0_1 s0_2 from IsS91.mv HI0.out)); replace HI0 := aM (IsS91.below (IsS91.mv HI0.out) hb); replace HK := aM (KeepBut.trans (km HK.out) (KeepBut.of_below hb g none) (.inl rfl)); replace HB := aM (bS (IsS91.bl HB.out) hb); clear hb hbox hg) | ((with_reducible refine gC (f := 78) rfl ?_); refine gL (some 5) Try.func78 #[.pointer (some ⟨g, 0, none⟩)] ?_; (with_reducible refine (spec_l6DrawRight.calls g s0_0 s0_1 s0_2 t142 t143 t144 t145 t146 t147 w0 _ ?side1 ?side2 A2.out).mono ?_); (case side1 => exact IsS91.mv HI0.out); (case side2 => exact IsS91.bl HB.out); rintro e w7 ⟨rfl, hi, hb, hk⟩; refine ⟨_, rfl, ?_⟩; replace BK141 := aM (KeepBut.blk hk (bk BK141.out) NB141_0.out (by simp)); replace HK := aM (KeepBut.trans (km HK.out) hk (.inl rfl)); replace HB := aM (hb); replace HI0 := aM (hi); (try clear hb); (try clear hk); (try clear hi)) | ((with_reducible refine gD (N := 3) rfl ?_); refine box_event ?hg (N := 3) ?hd (cs := #[.int .i64 0, .int .i64 0, .int .i64 0, .int .i64 0]) (t := 36) ?hr ?_; (case hd => rfl); (case hg => rfl); (case hr => first | (go_simp; done) | (go_simp; rfl) | (obtain ⟨A_, c_, e_⟩ := Kd.R_slice HO154.out; subst e_; (first | (go_simp; done) | (go_simp; rfl))) | (obtain ⟨A_, c_, e_⟩ := Kd.S_slice HO154.out; subst e_; (first | (go_simp; done) | (go_simp; rfl)))); intro gb148 hg w8 hbox hb; have BK148 := aM (hbox); have GW148 := gE hg (keep_size (km HK.out)); have GE148 := gE2 HW0.out hg (keep_size (km HK.out)); have NB141_148 := nL hg (blk_lt (bk BK141.out)); have NB148_141 := nG hg (blk_lt (bk BK141.out)); have NB0_148 := nL hg (IsS91.lt (show IsS91 w0 _ g s0_0 t146 t147 from IsS91.mv HI0.out)); have NB148_0 := nG hg (IsS91.lt (show IsS91 w0 _ g s0_0 t146 t147 from IsS91.mv HI0.out)); replace HI0 := aM (IsS91.below (IsS91.mv HI0.out) hb); replace BK141 := aM (bB (bk BK141.out) hb); replace HK := aM (KeepBut.trans (km HK.out) (KeepBut.of_below hb g none) (.inl rfl)); replace HB := aM (bS (IsS91.bl HB.out) hb); clear hb hbox hg; have hnb9 := NB148_141.out; have hnc9 := NB141_148.out; have hnb10 := NB148_0.out; have hnc10 := NB0_148.out; have hcz11 := cA4 BK148.out) | ((with_reducible refine gC (f := 64) rfl ?_); refine gL (some 7) Try.func64 #[.pointer (some ⟨g, 0, none⟩), .int .i64 10] ?_; (with_reducible refine (spec_l1Below.calls g s0_0 t146 t147 10 t149 t150 t151 w0 _ ?side1 ?side2 A3.out).mono ?_); (case side1 => exact IsS91.mv HI0.out); (case side2 => exact IsS91.bl HB.out); rintro e w12 ⟨rfl, hi, hb, hk⟩; refine ⟨_, rfl, ?_⟩; replace BK141 := aM (KeepBut.blk hk (fm BK141.out) NB141_0.out (by simp)); replace BK148 := aM (KeepBut.blk hk (g' := gb148) (o := .cells #[.int .i64 t142, .int .i64 t143, .int .i64 t144, .int .i64 t145] 36 (0, 0)) (bm BK148.out) NB148_0.out (by simp)); replace HK := aM (KeepBut.trans (km HK.out) hk (.inl rfl)); replace HB := aM (hb); replace HI0 := aM (hi); (try clear hb); (try clear hk); (try clear hi)) | ((with_reducible refine gD (N := 11) rfl ?_); refine Kd.R_lit (Kd.int .i64) _ 3 ?hg (N := 11) ?hd (xs := ([0, 9, 10] : List Int)) (inner := [.int .i64 0, .int .i64 9, .int .i64 10]) (ok := fun _ => True) (okp := fun _ => True) ?hr ?hp (fun _ hk => hk) trivial (Below.refl _ _) (Nat.le_refl _) (by simp) ?_; (case hd => rfl); (case hg => rfl); (case hr => first | (go_simp; done) | (go_simp; rfl) | (obtain ⟨A_, c_, e_⟩ := Kd.R_slice HO154.out; subst e_; (first | (go_simp; done) | (go_simp; rfl))) | (obtain ⟨A_, c_, e_⟩ := Kd.S_slice HO154.out; subst e_; (first | (go_simp; done) | (go_simp; rfl)))); (case hp => exact (Reps.one (show Kd.M (Kd.int .i64) _ _ _ 0 [.int .i64 0] from rfl) (Reps.one (show Kd.M (Kd.int .i64) _ _ _ 9 [.int .i64 9] from rfl) (Reps.one (show Kd.M (Kd.int .i64) _ _ _ 10 [.int .i64 10] from rfl) (Reps.none _ _))))); intro v153 w13 ho14 hb hg_ hnew_; clear hg_ hnew_; (first | rw [← Ny152.out] at ho14 | (simp only [Int.reduceToNat] at ho14; rw [← Ny152.out] at ho14)); have HO154 := aM (Kd.R_lower ho14 (keep_size (km HK.out))); replace HI0 := aM (IsS91.below (IsS91.mv HI0.out) hb); replace BK141 := aM (bB (bk BK141.out) hb); replace BK148 := aM (bB (bk BK148.out) hb); replace HK := aM (KeepBut.trans (km HK.out) (KeepBut.of_below hb g none) (.inl rfl)); replace HB := aM (bS (IsS91.bl HB.out) hb); clear hb ho14; obtain ⟨Ao15, co15, eo15⟩ := Kd.R_slice HO154.out; subst eo15) | ((with_reducible refine gC (f := 60) rfl ?_); refine gL (some 12) Try.func60 #[.pointer (some ⟨g, 0, none⟩), .slice Ao15 y152.length co15] ?_; (with_reducible refine (spec_l1PickInt.calls g s0_0 t150 t151 _ _ y152 t155 t156 t157 w0 _ ?side1 ?side2 ?side3 ?side4 ?side5 A5.out).mono ?_); (case side1 => exact IsS91.mv HI0.out); (case side2 => exact IsS91.bl HB.out); (case side3 => repeat (first | exact (Kd.R_reads' HO154.out).2.2 | (with_reducible refine Kd.C_alloc ?_ _) | (with_reducible refine Kd.C_drewN ?_ _) | (with_reducible refine Kd.C_drew ?_))); (case side4 => exact (Kd.R_reads' HO154.out).2.1); (case side5 => exact far_slice (IsS91.own_ne HI0.out HO154.out (by decide))); rintro e w16 ⟨rfl, hi, hb, hk⟩; refine ⟨_, rfl, ?_⟩; replace BK141 := aM (KeepBut.blk hk (bk BK141.out) NB141_0.out (by simp)); replace BK148 := aM (KeepBut.blk hk (bk BK148.out) NB148_0.out (by simp)); replace HO154 := aM (Kd.R_mono (Kd.R_keep (IsS91.apart (show IsS91 w0 _ g s0_0 t150 t151 from IsS91.mv HI0.out) (kr HO154.out) (by decide)) hk (fun _ h => h.2)) (fun _ h => h.1)); replace HK := aM (KeepBut.trans (km HK.out) hk (.inl rfl)); replace HB := aM (hb); replace HI0 := aM (hi); (try clear hb); (try clear hk); (try clear hi); have hcz17 := cA4 BK148.out; have hnb18 := NB141_0.out; have hnc18 := NB0_141.out; have hcz19 := cA4 BK141.out))
  refine bodyPost_ret (results_cell_row rfl _ _ gb141 36 #[.int .i64 t155, .int .i64 t143, .int .i64 t144, .int .i64 t145] (0, 0) _ rfl (bm BK141.out) Try.underlying36 rfl (by kernel_rfl)) rfl ?_
  exact ⟨xW, IsS91.mv HI0.out, IsS91.bl HB.out, km HK.out⟩
 rw [if_neg c4] at H
 have c4b0 : (t149 == 0) = false := beq_eq_false_iff_ne.mpr c4
 have c4b1 : (t149 != 0) = true := bne_iff_ne.mpr c4
 by_cases c20 : t149 = 1
 case pos =>
  rw [if_pos c20] at H
  have c20b0 : (t149 == 1) = true := beq_iff_eq.mpr c20
  have c20b1 : (t149 != 1) = false := bne_eq_false_iff_eq.mpr c20
  clear c20
  obtain ⟨y158, hy158⟩ : ∃ y_ : List Int, y_ = (([(-1), 0, 20, 21] : List Int)) := ⟨_, rfl⟩
  replace H : ((spec_l1PickInt.f s0_0 t150 t151 y158).bind fun bt161 => (some (t142, bt161.1, t144, t145, bt161.2.1, bt161.2.2))) = some (r1, r2, r3, r4, r5, r6) := by first | (rw [hy158]; with_reducible exact H) | (have H2_ := (Option.bind_some _ _).symm.trans H; rw [hy158]; with_reducible exact H2_) | (have H2_ := (Option.bind_some _ _).symm.trans H; with_reducible exact H2_) | with_reducible exact H | (rw [hy158]; exact H) | exact H
  have Ny158 := aM hy158
  clear hy158
  obtain ⟨⟨t161, t162, t163⟩, A210, H⟩ := hB H
  try dsimp only at H
  have A21 := aM A210
  clear A210
  simp only [Option.some.injEq, Prod.mk.injEq] at H
  obtain ⟨rfl, rfl, rfl, rfl, rfl, rfl⟩ := H
  go_enter Try.func59, Try.ntmps59
  go_wp2_with (first | ((with_reducible refine gD (N := 2) rfl ?_); refine box_event ?hg (N := 2) ?hd (cs := #[.int .i64 0, .int .i64 0, .int .i64 0, .int .i64 0]) (t := 36) ?hr ?_; (case hd => rfl); (case hg => rfl); (case hr => first | (go_simp; done) | (go_simp; rfl) | (obtain ⟨A_, c_, e_⟩ := Kd.R_slice HO160.out; subst e_; (first | (go_simp; done) | (go_simp; rfl))) | (obtain ⟨A_, c_, e_⟩ := Kd.S_slice HO160.out; subst e_; (first | (go_simp; done) | (go_simp; rfl)))); intro gb141 hg w22 hbox hb; have BK141 := aM (hbox); have GW141 := gE hg (keep_size (km HK.out)); have GE141 := gE2 HW0.out hg (keep_size (km HK.out)); have NB0_141 := nL hg (IsS91.lt (show IsS91 w0 _ g s0_0 s0_1 s0_2 from IsS91.mv HI0.out)); have NB141_0 := nG hg (IsS91.lt (show IsS91 w0 _ g s0_0 s0_1 s0_2 from IsS91.mv HI0.out)); replace HI0 := aM (IsS91.below (IsS91.mv HI0.out) hb); replace HK := aM (KeepBut.trans (km HK.out) (KeepBut.of_below hb g none) (.inl rfl)); replace HB := aM (bS (IsS91.bl HB.out) hb); clear hb hbox hg) | ((with_reducible refine gC (f := 78) rfl ?_); refine gL (some 5) Try.func78 #[.pointer (some ⟨g, 0, none⟩)] ?_; (with_reducible refine (spec_l6DrawRight.calls g s0_0 s0_1 s0_2 t142 t143 t144 t145 t146 t147 w0 _ ?side1 ?side2 A2.out).mono ?_); (case side1 => exact IsS91.mv HI0.out); (case side2 => exact IsS91.bl HB.out); rintro e w23 ⟨rfl, hi, hb, hk⟩; refine ⟨_, rfl, ?_⟩; replace BK141 := aM (KeepBut.blk hk (bk BK141.out) NB141_0.out (by simp)); replace HK := aM (KeepBut.trans (km HK.out) hk (.inl rfl)); replace HB := aM (hb); replace HI0 := aM (hi); (try clear hb); (try clear hk); (try clear hi)) | ((with_reducible refine gD (N := 3) rfl ?_); refine box_event ?hg (N := 3) ?hd (cs := #[.int .i64 0, .int .i64 0, .int .i64 0, .int .i64 0]) (t := 36) ?hr ?_; (case hd => rfl); (case hg => rfl); (case hr => first | (go_simp; done) | (go_simp; rfl) | (obtain ⟨A_, c_, e_⟩ := Kd.R_slice HO160.out; subst e_; (first | (go_simp; done) | (go_simp; rfl))) | (obtain ⟨A_, c_, e_⟩ := Kd.S_slice HO160.out; subst e_; (first | (go_simp; done) | (go_simp; rfl)))); intro gb148 hg w24 hbox hb; have BK148 := aM (hbox); have GW148 := gE hg (keep_size (km HK.out)); have GE148 := gE2 HW0.out hg (keep_size (km HK.out)); have NB141_148 := nL hg (blk_lt (bk BK141.out)); have NB148_141 := nG hg (blk_lt (bk BK141.out)); have NB0_148 := nL hg (IsS91.lt (show IsS91 w0 _ g s0_0 t146 t147 from IsS91.mv HI0.out)); have NB148_0 := nG hg (IsS91.lt (show IsS91 w0 _ g s0_0 t146 t147 from IsS91.mv HI0.out)); replace HI0 := aM (IsS91.below (IsS91.mv HI0.out) hb); replace BK141 := aM (bB (bk BK141.out) hb); replace HK := aM (KeepBut.trans (km HK.out) (KeepBut.of_below hb g none) (.inl rfl)); replace HB := aM (bS (IsS91.bl HB.out) hb); clear hb hbox hg; have hnb25 := NB148_141.out; have hnc25 := NB141_148.out; have hnb26 := NB148_0.out; have hnc26 := NB0_148.out; have hcz27 := cA4 BK148.out) | ((with_reducible refine gC (f := 64) rfl ?_); refine gL (some 7) Try.func64 #[.pointer (some ⟨g, 0, none⟩), .int .i64 10] ?_; (with_reducible refine (spec_l1Below.calls g s0_0 t146 t147 10 t149 t150 t151 w0 _ ?side1 ?side2 A3.out).mono ?_); (case side1 => exact IsS91.mv HI0.out); (case side2 => exact IsS91.bl HB.out); rintro e w28 ⟨rfl, hi, hb, hk⟩; refine ⟨_, rfl, ?_⟩; replace BK141 := aM (KeepBut.blk hk (fm BK141.out) NB141_0.out (by simp)); replace BK148 := aM (KeepBut.blk hk (g' := gb148) (o := .cells #[.int .i64 t142, .int .i64 t143, .int .i64 t144, .int .i64 t145] 36 (0, 0)) (bm BK148.out) NB148_0.out (by simp)); replace HK := aM (KeepBut.trans (km HK.out) hk (.inl rfl)); replace HB := aM (hb); replace HI0 := aM (hi); (try clear hb); (try clear hk); (try clear hi)) | ((with_reducible refine gD (N := 17) rfl ?_); refine Kd.R_lit (Kd.int .i64) _ 3 ?hg (N := 17) ?hd (xs := ([(-1), 0, 20, 21] : List Int)) (inner := [.int .i64 (-1), .int .i64 0, .int .i64 20, .int .i64 21]) (ok := fun _ => True) (okp := fun _ => True) ?hr ?hp (fun _ hk => hk) trivial (Below.refl _ _) (Nat.le_refl _) (by simp) ?_; (case hd => rfl); (case hg => rfl); (case hr => first | (go_simp; done) | (go_simp; rfl) | (obtain ⟨A_, c_, e_⟩ := Kd.R_slice HO160.out; subst e_; (first | (go_simp; done) | (go_simp; rfl))) | (obtain ⟨A_, c_, e_⟩ := Kd.S_slice HO160.out; subst e_; (first | (go_simp; done) | (go_simp; rfl)))); (case hp => exact (Reps.one (show Kd.M (Kd.int .i64) _ _ _ (-1) [.int .i64 (-1)] from rfl) (Reps.one (show Kd.M (Kd.int .i64) _ _ _ 0 [.int .i64 0] from rfl) (Reps.one (show Kd.M (Kd.int .i64) _ _ _ 20 [.int .i64 20] from rfl) (Reps.one (show Kd.M (Kd.int .i64) _ _ _ 21 [.int .i64 21] from rfl) (Reps.none _ _)))))); intro v159 w29 ho30 hb hg_ hnew_; clear hg_ hnew_; (first | rw [← Ny158.out] at ho30 | (simp only [Int.reduceToNat] at ho30; rw [← Ny158.out] at ho30)); have HO160 := aM (Kd.R_lower ho30 (keep_size (km HK.out))); replace HI0 := aM (IsS91.below (IsS91.mv HI0.out) hb); replace BK141 := aM (bB (bk BK141.out) hb); replace BK148 := aM (bB (bk BK148.out) hb); replace HK := aM (KeepBut.trans (km HK.out) (KeepBut.of_below hb g none) (.inl rfl)); replace HB := aM (bS (IsS91.bl HB.out) hb); clear hb ho30; obtain ⟨Ao31, co31, eo31⟩ := Kd.R_slice HO160.out; subst eo31) | ((with_reducible refine gC (f := 60) rfl ?_); refine gL (some 18) Try.func60 #[.pointer (some ⟨g, 0, none⟩), .slice Ao31 y158.length co31] ?_; (with_reducible refine (spec_l1PickInt.calls g s0_0 t150 t151 _ _ y158 t161 t162 t163 w0 _ ?side1 ?side2 ?side3 ?side4 ?side5 A21.out).mono ?_); (case side1 => exact IsS91.mv HI0.out); (case side2 => exact IsS91.bl HB.out); (case side3 => repeat (first | exact (Kd.R_reads' HO160.out).2.2 | (with_reducible refine Kd.C_alloc ?_ _) | (with_reducible refine Kd.C_drewN ?_ _) | (with_reducible refine Kd.C_drew ?_))); (case side4 => exact (Kd.R_reads' HO160.out).2.1); (case side5 => exact far_slice (IsS91.own_ne HI0.out HO160.out (by decide))); rintro e w32 ⟨rfl, hi, hb, hk⟩; refine ⟨_, rfl, ?_⟩; replace BK141 := aM (KeepBut.blk hk (bk BK141.out) NB141_0.out (by simp)); replace BK148 := aM (KeepBut.blk hk (bk BK148.out) NB148_0.out (by simp)); replace HO160 := aM (Kd.R_mono (Kd.R_keep (IsS91.apart (show IsS91 w0 _ g s0_0 t150 t151 from IsS91.mv HI0.out) (kr HO160.out) (by decide)) hk (fun _ h => h.2)) (fun _ h => h.1)); replace HK := aM (KeepBut.trans (km HK.out) hk (.inl rfl)); replace HB := aM (hb); replace HI0 := aM (hi); (try clear hb); (try clear hk); (try clear hi); have hcz33 := cA4 BK148.out; have hnb34 := NB141_0.out; have hnc34 := NB0_141.out; have hcz35 := cA4 BK141.out))
  refine bodyPost_ret (results_cell_row rfl _ _ gb141 36 #[.int .i64 t142, .int .i64 t161, .int .i64 t144, .int .i64 t145] (0, 0) _ rfl (bm BK141.out) Try.underlying36 rfl (by kernel_rfl)) rfl ?_
  exact ⟨xW, IsS91.mv HI0.out, IsS91.bl HB.out, km HK.out⟩
 rw [if_neg c20] at H
 have c20b0 : (t149 == 1) = false := beq_eq_false_iff_ne.mpr c20
 have c20b1 : (t149 != 1) = true := bne_iff_ne.mpr c20
 by_cases c36 : t149 = 2
 case pos =>
  rw [if_pos c36] at H
  have c36b0 : (t149 == 2) = true := beq_iff_eq.mpr c36
  have c36b1 : (t149 != 2) = false := bne_eq_false_iff_eq.mpr c36
  clear c36
  obtain ⟨y164, hy164⟩ : ∃ y_ : List Int, y_ = (([0, 9, 10] : List Int)) := ⟨_, rfl⟩
  replace H : ((spec_l1PickInt.f s0_0 t150 t151 y164).bind fun bt167 => (some (t142, t143, bt167.1, t145, bt167.2.1, bt167.2.2))) = some (r1, r2, r3, r4, r5, r6) := by first | (rw [hy164]; with_reducible exact H) | (have H2_ := (Option.bind_some _ _).symm.trans H; rw [hy164]; with_reducible exact H2_) | (have H2_ := (Option.bind_some _ _).symm.trans H; with_reducible exact H2_) | with_reducible exact H | (rw [hy164]; exact H) | exact H
  have Ny164 := aM hy164
  clear hy164
  obtain ⟨⟨t167, t168, t169⟩, A370, H⟩ := hB H
  try dsimp only at H
  have A37 := aM A370
  clear A370
  simp only [Option.some.injEq, Prod.mk.injEq] at H
  obtain ⟨rfl, rfl, rfl, rfl, rfl, rfl⟩ := H
  go_enter Try.func59, Try.ntmps59
  go_wp2_with (first | ((with_reducible refine gD (N := 2) rfl ?_); refine box_event ?hg (N := 2) ?hd (cs := #[.int .i64 0, .int .i64 0, .int .i64 0, .int .i64 0]) (t := 36) ?hr ?_; (case hd => rfl); (case hg => rfl); (case hr => first | (go_simp; done) | (go_simp; rfl) | (obtain ⟨A_, c_, e_⟩ := Kd.R_slice HO166.out; subst e_; (first | (go_simp; done) | (go_simp; rfl))) | (obtain ⟨A_, c_, e_⟩ := Kd.S_slice HO166.out; subst e_; (first | (go_simp; done) | (go_simp; rfl)))); intro gb141 hg w38 hbox hb; have BK141 := aM (hbox); have GW141 := gE hg (keep_size (km HK.out)); have GE141 := gE2 HW0.out hg (keep_size (km HK.out)); have NB0_141 := nL hg (IsS91.lt (show IsS91 w0 _ g s0_0 s0_1 s0_2 from IsS91.mv HI0.out)); have NB141_0 := nG hg (IsS91.lt (show IsS91 w0 _ g s0_0 s0_1 s0_2 from IsS91.mv HI0.out)); replace HI0 := aM (IsS91.below (IsS91.mv HI0.out) hb); replace HK := aM (KeepBut.trans (km HK.out) (KeepBut.of_below hb g none) (.inl rfl)); replace HB := aM (bS (IsS91.bl HB.out) hb); clear hb hbox hg) | ((with_reducible refine gC (f := 78) rfl ?_); refine gL (some 5) Try.func78 #[.pointer (some ⟨g, 0, none⟩)] ?_; (with_reducible refine (spec_l6DrawRight.calls g s0_0 s0_1 s0_2 t142 t143 t144 t145 t146 t147 w0 _ ?side1 ?side2 A2.out).mono ?_); (case side1 => exact IsS91.mv HI0.out); (case side2 => exact IsS91.bl HB.out); rintro e w39 ⟨rfl, hi, hb, hk⟩; refine ⟨_, rfl, ?_⟩; replace BK141 := aM (KeepBut.blk hk (bk BK141.out) NB141_0.out (by simp)); replace HK := aM (KeepBut.trans (km HK.out) hk (.inl rfl)); replace HB := aM (hb); replace HI0 := aM (hi); (try clear hb); (try clear hk); (try clear hi)) | ((with_reducible refine gD (N := 3) rfl ?_); refine box_event ?hg (N := 3) ?hd (cs := #[.int .i64 0, .int .i64 0, .int .i64 0, .int .i64 0]) (t := 36) ?hr ?_; (case hd => rfl); (case hg => rfl); (case hr => first | (go_simp; done) | (go_simp; rfl) | (obtain ⟨A_, c_, e_⟩ := Kd.R_slice HO166.out; subst e_; (first | (go_simp; done) | (go_simp; rfl))) | (obtain ⟨A_, c_, e_⟩ := Kd.S_slice HO166.out; subst e_; (first | (go_simp; done) | (go_simp; rfl)))); intro gb148 hg w40 hbox hb; have BK148 := aM (hbox); have GW148 := gE hg (keep_size (km HK.out)); have GE148 := gE2 HW0.out hg (keep_size (km HK.out)); have NB141_148 := nL hg (blk_lt (bk BK141.out)); have NB148_141 := nG hg (blk_lt (bk BK141.out)); have NB0_148 := nL hg (IsS91.lt (show IsS91 w0 _ g s0_0 t146 t147 from IsS91.mv HI0.out)); have NB148_0 := nG hg (IsS91.lt (show IsS91 w0 _ g s0_0 t146 t147 from IsS91.mv HI0.out)); replace HI0 := aM (IsS91.below (IsS91.mv HI0.out) hb); replace BK141 := aM (bB (bk BK141.out) hb); replace HK := aM (KeepBut.trans (km HK.out) (KeepBut.of_below hb g none) (.inl rfl)); replace HB := aM (bS (IsS91.bl HB.out) hb); clear hb hbox hg; have hnb41 := NB148_141.out; have hnc41 := NB141_148.out; have hnb42 := NB148_0.out; have hnc42 := NB0_148.out; have hcz43 := cA4 BK148.out) | ((with_reducible refine gC (f := 64) rfl ?_); refine gL (some 7) Try.func64 #[.pointer (some ⟨g, 0, none⟩), .int .i64 10] ?_; (with_reducible refine (spec_l1Below.calls g s0_0 t146 t147 10 t149 t150 t151 w0 _ ?side1 ?side2 A3.out).mono ?_); (case side1 => exact IsS91.mv HI0.out); (case side2 => exact IsS91.bl HB.out); rintro e w44 ⟨rfl, hi, hb, hk⟩; refine ⟨_, rfl, ?_⟩; replace BK141 := aM (KeepBut.blk hk (fm BK141.out) NB141_0.out (by simp)); replace BK148 := aM (KeepBut.blk hk (g' := gb148) (o := .cells #[.int .i64 t142, .int .i64 t143, .int .i64 t144, .int .i64 t145] 36 (0, 0)) (bm BK148.out) NB148_0.out (by simp)); replace HK := aM (KeepBut.trans (km HK.out) hk (.inl rfl)); replace HB := aM (hb); replace HI0 := aM (hi); (try clear hb); (try clear hk); (try clear hi)) | ((with_reducible refine gD (N := 23) rfl ?_); refine Kd.R_lit (Kd.int .i64) _ 3 ?hg (N := 23) ?hd (xs := ([0, 9, 10] : List Int)) (inner := [.int .i64 0, .int .i64 9, .int .i64 10]) (ok := fun _ => True) (okp := fun _ => True) ?hr ?hp (fun _ hk => hk) trivial (Below.refl _ _) (Nat.le_refl _) (by simp) ?_; (case hd => rfl); (case hg => rfl); (case hr => first | (go_simp; done) | (go_simp; rfl) | (obtain ⟨A_, c_, e_⟩ := Kd.R_slice HO166.out; subst e_; (first | (go_simp; done) | (go_simp; rfl))) | (obtain ⟨A_, c_, e_⟩ := Kd.S_slice HO166.out; subst e_; (first | (go_simp; done) | (go_simp; rfl)))); (case hp => exact (Reps.one (show Kd.M (Kd.int .i64) _ _ _ 0 [.int .i64 0] from rfl) (Reps.one (show Kd.M (Kd.int .i64) _ _ _ 9 [.int .i64 9] from rfl) (Reps.one (show Kd.M (Kd.int .i64) _ _ _ 10 [.int .i64 10] from rfl) (Reps.none _ _))))); intro v165 w45 ho46 hb hg_ hnew_; clear hg_ hnew_; (first | rw [← Ny164.out] at ho46 | (simp only [Int.reduceToNat] at ho46; rw [← Ny164.out] at ho46)); have HO166 := aM (Kd.R_lower ho46 (keep_size (km HK.out))); replace HI0 := aM (IsS91.below (IsS91.mv HI0.out) hb); replace BK141 := aM (bB (bk BK141.out) hb); replace BK148 := aM (bB (bk BK148.out) hb); replace HK := aM (KeepBut.trans (km HK.out) (KeepBut.of_below hb g none) (.inl rfl)); replace HB := aM (bS (IsS91.bl HB.out) hb); clear hb ho46; obtain ⟨Ao47, co47, eo47⟩ := Kd.R_slice HO166.out; subst eo47) | ((with_reducible refine gC (f := 60) rfl ?_); refine gL (some 24) Try.func60 #[.pointer (some ⟨g, 0, none⟩), .slice Ao47 y164.length co47] ?_; (with_reducible refine (spec_l1PickInt.calls g s0_0 t150 t151 _ _ y164 t167 t168 t169 w0 _ ?side1 ?side2 ?side3 ?side4 ?side5 A37.out).mono ?_); (case side1 => exact IsS91.mv HI0.out); (case side2 => exact IsS91.bl HB.out); (case side3 => repeat (first | exact (Kd.R_reads' HO166.out).2.2 | (with_reducible refine Kd.C_alloc ?_ _) | (with_reducible refine Kd.C_drewN ?_ _) | (with_reducible refine Kd.C_drew ?_))); (case side4 => exact (Kd.R_reads' HO166.out).2.1); (case side5 => exact far_slice (IsS91.own_ne HI0.out HO166.out (by decide))); rintro e w48 ⟨rfl, hi, hb, hk⟩; refine ⟨_, rfl, ?_⟩; replace BK141 := aM (KeepBut.blk hk (bk BK141.out) NB141_0.out (by simp)); replace BK148 := aM (KeepBut.blk hk (bk BK148.out) NB148_0.out (by simp)); replace HO166 := aM (Kd.R_mono (Kd.R_keep (IsS91.apart (show IsS91 w0 _ g s0_0 t150 t151 from IsS91.mv HI0.out) (kr HO166.out) (by decide)) hk (fun _ h => h.2)) (fun _ h => h.1)); replace HK := aM (KeepBut.trans (km HK.out) hk (.inl rfl)); replace HB := aM (hb); replace HI0 := aM (hi); (try clear hb); (try clear hk); (try clear hi); have hcz49 := cA4 BK148.out; have hnb50 := NB141_0.out; have hnc50 := NB0_141.out; have hcz51 := cA4 BK141.out))
  refine bodyPost_ret (results_cell_row rfl _ _ gb141 36 #[.int .i64 t142, .int .i64 t143, .int .i64 t167, .int .i64 t145] (0, 0) _ rfl (bm BK141.out) Try.underlying36 rfl (by kernel_rfl)) rfl ?_
  exact ⟨xW, IsS91.mv HI0.out, IsS91.bl HB.out, km HK.out⟩
 rw [if_neg c36] at H
 have c36b0 : (t149 == 2) = false := beq_eq_false_iff_ne.mpr c36
 have c36b1 : (t149 != 2) = true := bne_iff_ne.mpr c36
 by_cases c52 : t149 = 3
 case neg =>
  rw [if_neg c52] at H
  have c52b0 : (t149 == 3) = false := beq_eq_false_iff_ne.mpr c52
  have c52b1 : (t149 != 3) = true := bne_iff_ne.mpr c52
  simp only [Option.some.injEq, Prod.mk.injEq] at H
  obtain ⟨rfl, rfl, rfl, rfl, rfl, rfl⟩ := H
  go_enter Try.func59, Try.ntmps59
  go_wp2_with (first | ((with_reducible refine gD (N := 2) rfl ?_); refine bE (N := 2) (cs := #[.int .i64 0, .int .i64 0, .int .i64 0, .int .i64 0]) (t := 36) ?_; intro gb141 hg w68 hbox hb; have BK141 := aM (hbox); have GW141 := gE hg (keep_size (km HK.out)); have GE141 := gE2 HW0.out hg (keep_size (km HK.out)); have NB0_141 := nL hg (IsS91.lt (show IsS91 w0 _ g s0_0 s0_1 s0_2 from IsS91.mv HI0.out)); have NB141_0 := nG hg (IsS91.lt (show IsS91 w0 _ g s0_0 s0_1 s0_2 from IsS91.mv HI0.out)); replace HI0 := aM (IsS91.below (IsS91.mv HI0.out) hb); replace HK := aM (KeepBut.trans (km HK.out) (KeepBut.of_below hb g none) (.inl rfl)); replace HB := aM (bS (IsS91.bl HB.out) hb); clear hb hbox hg) | ((with_reducible refine gC (f := 78) rfl ?_); refine gL (some 5) Try.func78 #[.pointer (some ⟨g, 0, none⟩)] ?_; (with_reducible refine (spec_l6DrawRight.calls g s0_0 s0_1 s0_2 t142 t143 t144 t145 t146 t147 w0 _ ?side1 ?side2 A2.out).mono ?_); (case side1 => exact IsS91.mv HI0.out); (case side2 => exact IsS91.bl HB.out); rintro e w69 ⟨rfl, hi, hb, hk⟩; refine ⟨_, rfl, ?_⟩; replace BK141 := aM (KeepBut.blk hk (bk BK141.out) NB141_0.out (by simp)); replace HK := aM (KeepBut.trans (km HK.out) hk (.inl rfl)); replace HB := aM (hb); replace HI0 := aM (hi); (try clear hb); (try clear hk); (try clear hi)) | ((with_reducible refine gD (N := 3) rfl ?_); refine bE (N := 3) (cs := #[.int .i64 0, .int .i64 0, .int .i64 0, .int .i64 0]) (t := 36) ?_; intro gb148 hg w70 hbox hb; have BK148 := aM (hbox); have GW148 := gE hg (keep_size (km HK.out)); have GE148 := gE2 HW0.out hg (keep_size (km HK.out)); have NB141_148 := nL hg (blk_lt (bk BK141.out)); have NB148_141 := nG hg (blk_lt (bk BK141.out)); have NB0_148 := nL hg (IsS91.lt (show IsS91 w0 _ g s0_0 t146 t147 from IsS91.mv HI0.out)); have NB148_0 := nG hg (IsS91.lt (show IsS91 w0 _ g s0_0 t146 t147 from IsS91.mv HI0.out)); replace HI0 := aM (IsS91.below (IsS91.mv HI0.out) hb); replace BK141 := aM (bB (bk BK141.out) hb); replace HK := aM (KeepBut.trans (km HK.out) (KeepBut.of_below hb g none) (.inl rfl)); replace HB := aM (bS (IsS91.bl HB.out) hb); clear hb hbox hg; have hnb71 := NB148_141.out; have hnc71 := NB141_148.out; have hnb72 := NB148_0.out; have hnc72 := NB0_148.out; have hcz73 := cA4 BK148.out) | ((with_reducible refine gC (f := 64) rfl ?_); refine gL (some 7) Try.func64 #[.pointer (some ⟨g, 0, none⟩), .int .i64 10] ?_; (with_reducible refine (spec_l1Below.calls g s0_0 t146 t147 10 t149 t150 t151 w0 _ ?side1 ?side2 A3.out).mono ?_); (case side1 => exact IsS91.mv HI0.out); (case side2 => exact IsS91.bl HB.out); rintro e w74 ⟨rfl, hi, hb, hk⟩; refine ⟨_, rfl, ?_⟩; replace BK141 := aM (KeepBut.blk hk (fm BK141.out) NB141_0.out (by simp)); replace BK148 := aM (KeepBut.blk hk (g' := gb148) (o := .cells #[.int .i64 t142, .int .i64 t143, .int .i64 t144, .int .i64 t145] 36 (0, 0)) (bm BK148.out) NB148_0.out (by simp)); replace HK := aM (KeepBut.trans (km HK.out) hk (.inl rfl)); replace HB := aM (hb); replace HI0 := aM (hi); (try clear hb); (try clear hk); (try clear hi); have hcz75 := cA4 BK148.out; have hnb76 := NB141_0.out; have hnc76 := NB0_141.out; have hcz77 := cA4 BK141.out))
  refine bodyPost_ret (results_cell_row rfl _ _ gb141 36 #[.int .i64 t142, .int .i64 t143, .int .i64 t144, .int .i64 t145] (0, 0) _ rfl (bm BK141.out) Try.underlying36 rfl (by kernel_rfl)) rfl ?_
  exact ⟨xW, IsS91.mv HI0.out, IsS91.bl HB.out, km HK.out⟩
 rw [if_pos c52] at H
 have c52b0 : (t149 == 3) = true := beq_iff_eq.mpr c52
 have c52b1 : (t149 != 3) = false := bne_eq_false_iff_eq.mpr c52
 clear c52
 obtain ⟨y170, hy170⟩ : ∃ y_ : List Int, y_ = (([(-1), 3, 4] : List Int)) := ⟨_, rfl⟩
 replace H : ((spec_l1PickInt.f s0_0 t150 t151 y170).bind fun bt173 => (some (t142, t143, t144, bt173.1, bt173.2.1, bt173.2.2))) = some (r1, r2, r3, r4, r5, r6) := by first | (rw [hy170]; with_reducible exact H) | (have H2_ := (Option.bind_some _ _).symm.trans H; rw [hy170]; with_reducible exact H2_) | (have H2_ := (Option.bind_some _ _).symm.trans H; with_reducible exact H2_) | with_reducible exact H | (rw [hy170]; exact H) | exact H
 have Ny170 := aM hy170
 clear hy170
 obtain ⟨⟨t173, t174, t175⟩, A530, H⟩ := hB H
 try dsimp only at H
 have A53 := aM A530
 clear A530
 simp only [Option.some.injEq, Prod.mk.injEq] at H
 obtain ⟨rfl, rfl, rfl, rfl, rfl, rfl⟩ := H
 go_enter Try.func59, Try.ntmps59
 go_wp2_with (first | ((with_reducible refine gD (N := 2) rfl ?_); refine box_event ?hg (N := 2) ?hd (cs := #[.int .i64 0, .int .i64 0, .int .i64 0, .int .i64 0]) (t := 36) ?hr ?_; (case hd => rfl); (case hg => rfl); (case hr => first | (go_simp; done) | (go_simp; rfl) | (obtain ⟨A_, c_, e_⟩ := Kd.R_slice HO172.out; subst e_; (first | (go_simp; done) | (go_simp; rfl))) | (obtain ⟨A_, c_, e_⟩ := Kd.S_slice HO172.out; subst e_; (first | (go_simp; done) | (go_simp; rfl)))); intro gb141 hg w54 hbox hb; have BK141 := aM (hbox); have GW141 := gE hg (keep_size (km HK.out)); have GE141 := gE2 HW0.out hg (keep_size (km HK.out)); have NB0_141 := nL hg (IsS91.lt (show IsS91 w0 _ g s0_0 s0_1 s0_2 from IsS91.mv HI0.out)); have NB141_0 := nG hg (IsS91.lt (show IsS91 w0 _ g s0_0 s0_1 s0_2 from IsS91.mv HI0.out)); replace HI0 := aM (IsS91.below (IsS91.mv HI0.out) hb); replace HK := aM (KeepBut.trans (km HK.out) (KeepBut.of_below hb g none) (.inl rfl)); replace HB := aM (bS (IsS91.bl HB.out) hb); clear hb hbox hg) | ((with_reducible refine gC (f := 78) rfl ?_); refine gL (some 5) Try.func78 #[.pointer (some ⟨g, 0, none⟩)] ?_; (with_reducible refine (spec_l6DrawRight.calls g s0_0 s0_1 s0_2 t142 t143 t144 t145 t146 t147 w0 _ ?side1 ?side2 A2.out).mono ?_); (case side1 => exact IsS91.mv HI0.out); (case side2 => exact IsS91.bl HB.out); rintro e w55 ⟨rfl, hi, hb, hk⟩; refine ⟨_, rfl, ?_⟩; replace BK141 := aM (KeepBut.blk hk (bk BK141.out) NB141_0.out (by simp)); replace HK := aM (KeepBut.trans (km HK.out) hk (.inl rfl)); replace HB := aM (hb); replace HI0 := aM (hi); (try clear hb); (try clear hk); (try clear hi)) | ((with_reducible refine gD (N := 3) rfl ?_); refine box_event ?hg (N := 3) ?hd (cs := #[.int .i64 0, .int .i64 0, .int .i64 0, .int .i64 0]) (t := 36) ?hr ?_; (case hd => rfl); (case hg => rfl); (case hr => first | (go_simp; done) | (go_simp; rfl) | (obtain ⟨A_, c_, e_⟩ := Kd.R_slice HO172.out; subst e_; (first | (go_simp; done) | (go_simp; rfl))) | (obtain ⟨A_, c_, e_⟩ := Kd.S_slice HO172.out; subst e_; (first | (go_simp; done) | (go_simp; rfl)))); intro gb148 hg w56 hbox hb; have BK148 := aM (hbox); have GW148 := gE hg (keep_size (km HK.out)); have GE148 := gE2 HW0.out hg (keep_size (km HK.out)); have NB141_148 := nL hg (blk_lt (bk BK141.out)); have NB148_141 := nG hg (blk_lt (bk BK141.out)); have NB0_148 := nL hg (IsS91.lt (show IsS91 w0 _ g s0_0 t146 t147 from IsS91.mv HI0.out)); have NB148_0 := nG hg (IsS91.lt (show IsS91 w0 _ g s0_0 t146 t147 from IsS91.mv HI0.out)); replace HI0 := aM (IsS91.below (IsS91.mv HI0.out) hb); replace BK141 := aM (bB (bk BK141.out) hb); replace HK := aM (KeepBut.trans (km HK.out) (KeepBut.of_below hb g none) (.inl rfl)); replace HB := aM (bS (IsS91.bl HB.out) hb); clear hb hbox hg; have hnb57 := NB148_141.out; have hnc57 := NB141_148.out; have hnb58 := NB148_0.out; have hnc58 := NB0_148.out; have hcz59 := cA4 BK148.out) | ((with_reducible refine gC (f := 64) rfl ?_); refine gL (some 7) Try.func64 #[.pointer (some ⟨g, 0, none⟩), .int .i64 10] ?_; (with_reducible refine (spec_l1Below.calls g s0_0 t146 t147 10 t149 t150 t151 w0 _ ?side1 ?side2 A3.out).mono ?_); (case side1 => exact IsS91.mv HI0.out); (case side2 => exact IsS91.bl HB.out); rintro e w60 ⟨rfl, hi, hb, hk⟩; refine ⟨_, rfl, ?_⟩; replace BK141 := aM (KeepBut.blk hk (fm BK141.out) NB141_0.out (by simp)); replace BK148 := aM (KeepBut.blk hk (g' := gb148) (o := .cells #[.int .i64 t142, .int .i64 t143, .int .i64 t144, .int .i64 t145] 36 (0, 0)) (bm BK148.out) NB148_0.out (by simp)); replace HK := aM (KeepBut.trans (km HK.out) hk (.inl rfl)); replace HB := aM (hb); replace HI0 := aM (hi); (try clear hb); (try clear hk); (try clear hi)) | ((with_reducible refine gD (N := 29) rfl ?_); refine Kd.R_lit (Kd.int .i64) _ 3 ?hg (N := 29) ?hd (xs := ([(-1), 3, 4] : List Int)) (inner := [.int .i64 (-1), .int .i64 3, .int .i64 4]) (ok := fun _ => True) (okp := fun _ => True) ?hr ?hp (fun _ hk => hk) trivial (Below.refl _ _) (Nat.le_refl _) (by simp) ?_; (case hd => rfl); (case hg => rfl); (case hr => first | (go_simp; done) | (go_simp; rfl) | (obtain ⟨A_, c_, e_⟩ := Kd.R_slice HO172.out; subst e_; (first | (go_simp; done) | (go_simp; rfl))) | (obtain ⟨A_, c_, e_⟩ := Kd.S_slice HO172.out; subst e_; (first | (go_simp; done) | (go_simp; rfl)))); (case hp => exact (Reps.one (show Kd.M (Kd.int .i64) _ _ _ (-1) [.int .i64 (-1)] from rfl) (Reps.one (show Kd.M (Kd.int .i64) _ _ _ 3 [.int .i64 3] from rfl) (Reps.one (show Kd.M (Kd.int .i64) _ _ _ 4 [.int .i64 4] from rfl) (Reps.none _ _))))); intro v171 w61 ho62 hb hg_ hnew_; clear hg_ hnew_; (first | rw [← Ny170.out] at ho62 | (simp only [Int.reduceToNat] at ho62; rw [← Ny170.out] at ho62)); have HO172 := aM (Kd.R_lower ho62 (keep_size (km HK.out))); replace HI0 := aM (IsS91.below (IsS91.mv HI0.out) hb); replace BK141 := aM (bB (bk BK141.out) hb); replace BK148 := aM (bB (bk BK148.out) hb); replace HK := aM (KeepBut.trans (km HK.out) (KeepBut.of_below hb g none) (.inl rfl)); replace HB := aM (bS (IsS91.bl HB.out) hb); clear hb ho62; obtain ⟨Ao63, co63, eo63⟩ := Kd.R_slice HO172.out; subst eo63) | ((with_reducible refine gC (f := 60) rfl ?_); refine gL (some 30) Try.func60 #[.pointer (some ⟨g, 0, none⟩), .slice Ao63 y170.length co63] ?_; (with_reducible refine (spec_l1PickInt.calls g s0_0 t150 t151 _ _ y170 t173 t174 t175 w0 _ ?side1 ?side2 ?side3 ?side4 ?side5 A53.out).mono ?_); (case side1 => exact IsS91.mv HI0.out); (case side2 => exact IsS91.bl HB.out); (case side3 => repeat (first | exact (Kd.R_reads' HO172.out).2.2 | (with_reducible refine Kd.C_alloc ?_ _) | (with_reducible refine Kd.C_drewN ?_ _) | (with_reducible refine Kd.C_drew ?_))); (case side4 => exact (Kd.R_reads' HO172.out).2.1); (case side5 => exact far_slice (IsS91.own_ne HI0.out HO172.out (by decide))); rintro e w64 ⟨rfl, hi, hb, hk⟩; refine ⟨_, rfl, ?_⟩; replace BK141 := aM (KeepBut.blk hk (bk BK141.out) NB141_0.out (by simp)); replace BK148 := aM (KeepBut.blk hk (bk BK148.out) NB148_0.out (by simp)); replace HO172 := aM (Kd.R_mono (Kd.R_keep (IsS91.apart (show IsS91 w0 _ g s0_0 t150 t151 from IsS91.mv HI0.out) (kr HO172.out) (by decide)) hk (fun _ h => h.2)) (fun _ h => h.1)); replace HK := aM (KeepBut.trans (km HK.out) hk (.inl rfl)); replace HB := aM (hb); replace HI0 := aM (hi); (try clear hb); (try clear hk); (try clear hi); have hcz65 := cA4 BK148.out; have hnb66 := NB141_0.out; have hnc66 := NB0_141.out; have hcz67 := cA4 BK141.out))
 refine bodyPost_ret (results_cell_row rfl _ _ gb141 36 #[.int .i64 t142, .int .i64 t143, .int .i64 t144, .int .i64 t173] (0, 0) _ rfl (bm BK141.out) Try.underlying36 rfl (by kernel_rfl)) rfl ?_
 exact ⟨xW, IsS91.mv HI0.out, IsS91.bl HB.out, km HK.out⟩

def spec_l1In.f (a0 : Int) (a1 : Int) (a2 : Int) : Option (Bool) := if a0 ≥ a1 then (some (decide (a0 ≤ a2))) else (some false)
set_option maxHeartbeats 60000000 in
set_option maxRecDepth 100000 in
theorem spec_l1In.calls (a0 : Int) (a1 : Int) (a2 : Int) (r : Bool) (w : World) (h : spec_l1In.f a0 a1 a2 = some r) :
  Calls Try.prog 57 #[.int .i64 a0, .int .i64 a1, .int .i64 a2] w fun e w' => e = .returned (.bool r) ∧ Drawn0 w w' := by
 have H : (if a0 ≥ a1 then (some (decide (a0 ≤ a2))) else (some false)) = some r := h
 clear h
 by_cases c4 : a0 ≥ a1
 case pos =>
  rw [if_pos c4] at H
  have c4b0 : decide (a1 ≤ a0) = true := decide_eq_true c4
  clear c4
  obtain rfl := Option.some.inj H
  go_enter Try.func57, Try.ntmps57
  go_wp2
  go_ret
  exact ⟨by first | rfl | (simp; done) | (simp [*]; done), by repeat (first | exact Drawn0.refl _ | apply Drawn0.step)⟩
 rw [if_neg c4] at H
 have c4b0 : decide (a1 ≤ a0) = false := decide_eq_false c4
 clear c4
 obtain rfl := Option.some.inj H
 go_enter Try.func57, Try.ntmps57
 go_wp2
 go_ret
 exact ⟨by first | rfl | (simp; done) | (simp [*]; done), by repeat (first | exact Drawn0.refl _ | apply Drawn0.step)⟩

end Go.Proofs.Ytaoipjdmmamkmaa.PFnPorts

/- A part of the proof of laws.FnFades. No condition beyond what its theorems say. -/
import Derived.Test.YthmijfekdeagpaaVFnFadesPx6
namespace Go.Proofs.Ythmijfekdeagpaa.PFnFades
open Go.RowKit Go.Proofs.YthmijfekdeagpaaW.PrintWords Go.Proofs.YthmijfekdeagpaaW.PrintLast Go.Proofs.YthmijfekdeagpaaW.PrintMore
set_option linter.unusedVariables false
set_option linter.unusedSimpArgs false

def impl_RootPort.f (k : Nat) (aA : Int) (aC : List (S79)) : Option (Int × Bool) := (impl_BridgeOk.f k aA aC).bind fun aE => (if aE = true then ((impl_Bridge_rootPort.f k aA aC).bind fun aD => (some (aD, decide (aD ≥ 0)))) else (some ((-1), false)))
theorem impl_RootPort.mono : ∀ a0 a1 k, LeO (impl_RootPort.f k a0 a1) (impl_RootPort.f (k + 1) a0 a1) := by
 intro a0 a1 k
 unfold impl_RootPort.f
 repeat' first|(with_reducible first|apply impl_BridgeOk.mono|apply impl_Bridge_rootPort.mono|exact lR _|exact lN _|refine lI ?_ ?_|refine lB ?_ fun _ => ?_)|exact lN _|refine lI ?_ ?_|refine lB ?_ fun _ => ?_
set_option maxHeartbeats 60000000 in
set_option maxRecDepth 100000 in
theorem impl_RootPort.calls (k : Nat) (aD : Int) (aE : Option Addr) (aG : Nat) (aA : List (S79)) (r1 : Int) (r2 : Bool) (w : World) (hr0_1 : Kd.C k79 w aE aA.length aA) (hc0_1 : aA.length ≤ aG) (h : impl_RootPort.f k aD aA = some (r1, r2)) :
  Calls Try.prog 35 #[.agg #[aD, .slice aE aA.length aG]] w fun e w' => e = .returned (.tuple #[r1, r2]) ∧ Below w.heap.size w w' := by
 have bA := Try.underlying28
 have aH := aM hr0_1
 have aI := aM hc0_1
 clear hr0_1 hc0_1
 have HB := aM (Below.refl w.heap.size w)
 have H : ((impl_BridgeOk.f k aD aA).bind fun aN => (if aN = true then ((impl_Bridge_rootPort.f k aD aA).bind fun aJ => (some (aJ, decide (aJ ≥ 0)))) else (some ((-1), false)))) = some (r1, r2) := h
 clear h
 obtain ⟨aN, aV, H⟩ := hB H
 have A2 := aM aV
 clear aV
 by_cases c3 : aN = true
 case neg =>
  replace c3 := Bool.eq_false_iff.mpr c3
  subst c3
  replace H := hF H
  simp only [Option.some.injEq, Prod.mk.injEq] at H
  obtain ⟨rfl, rfl⟩ := H
  go_enter Try.func35, Try.ntmps35
  go_wp2_with (first | ((with_reducible refine gD (N := 1) rfl ?_); refine bE (N := 1) (cs := #[aD, .slice aE aA.length aG]) (t := 28) ?_; intro aK hg w9 hbox hb; have aC := aM (hbox); have aQ := gF hg HB; have aT := gF hg HB; replace HB := rS HB hb; clear hb hbox hg; have aX := cA2 aC.out) | ((with_reducible refine gC (f := 45) rfl ?_); refine gL (some 6) Try.func45 #[.agg #[aD, .slice aE aA.length aG]] ?_; (with_reducible refine (impl_BridgeOk.calls k aD _ _ aA false _ ?side1 ?side2 A2.out).mono ?_); (case side1 => exact cM (cB aH.out HB.out)); (case side2 => exact aI.out); rintro e bG ⟨rfl, hb⟩; refine ⟨_, rfl, ?_⟩; replace aC := rB aC hb; replace HB := rS HB hb; (try clear hb)))
  go_ret2
  exact ⟨xW, bl HB.out⟩
 subst c3
 replace H := hP H rfl
 obtain ⟨aJ, aW, H⟩ := hB H
 have A4 := aM aW
 clear aW
 simp only [Option.some.injEq, Prod.mk.injEq] at H
 obtain ⟨rfl, rfl⟩ := H
 go_enter Try.func35, Try.ntmps35
 go_wp2_with (first | ((with_reducible refine gD (N := 1) rfl ?_); refine bE (N := 1) (cs := #[aD, .slice aE aA.length aG]) (t := 28) ?_; intro aK hg w5 hbox hb; have aC := aM (hbox); have aQ := gF hg HB; have aT := gF hg HB; replace HB := rS HB hb; clear hb hbox hg; have bD := cA2 aC.out) | ((with_reducible refine gC (f := 45) rfl ?_); refine gL (some 6) Try.func45 #[.agg #[aD, .slice aE aA.length aG]] ?_; (with_reducible refine (impl_BridgeOk.calls k aD _ _ aA true _ ?side1 ?side2 A2.out).mono ?_); (case side1 => exact cM (cB aH.out HB.out)); (case side2 => exact aI.out); rintro e w7 ⟨rfl, hb⟩; refine ⟨_, rfl, ?_⟩; replace aC := rB aC hb; replace HB := rS HB hb; (try clear hb)) | ((with_reducible refine gC (f := 118) rfl ?_); refine gL (some 8) Try.func118 #[.pointer (some ⟨aK, 0, none⟩)] ?_; (with_reducible refine (impl_Bridge_rootPort.calls (gb := aK) (hBK := (bk aC.out)) k aD _ _ aA aJ _ ?side1 ?side2 A4.out).mono ?_); (case side1 => exact cM (cB aH.out HB.out)); (case side2 => exact aI.out); rintro e w8 ⟨rfl, hb⟩; refine ⟨_, rfl, ?_⟩; replace aC := rB aC hb; replace HB := rS HB hb; (try clear hb)))
 go_ret2
 exact ⟨xW, bl HB.out⟩

/-- A state of type 175 at block g of W; what its slices lead to came in by w0. -/
def IsS175 (w0 W : World) (g : Nat) (f0 : List Int) (f1 f2 : Int) : Prop := ∃ A0 c0, W.heap[g]? = some (.cells #[.slice A0 f0.length c0, f1, f2] 175 (0, 0)) ∧ w0.heap.size ≤ g ∧ (Kd.C (Kd.int .u8) w0 A0 f0.length f0 ∧ f0.length ≤ c0)
theorem IsS175.grown {w0 W : World} {g : Nat} {f0 : List Int} {f1 : Int} {f2 : Int} {W1 : World} {row : Option Nat} (h : IsS175 w0 W g f0 f1 f2) (hw : W.grownBy W1 row) (hne : some g ≠ row) : IsS175 w0 W1 g f0 f1 f2 := by
 obtain ⟨A0, c0, hb, hg, hr0⟩ := h
 exact ⟨A0, c0, blk_grown hb hw hne, hg, hr0⟩
theorem IsS175.own_neN {w0 W : World} {g : Nat} {f0 : List Int} {f1 : Int} {f2 : Int} {α : Type} {d : Kd α} {e : Nat} {base : Nat} {ok : Nat → Prop} {v : Value} {xs : List α} (h : IsS175 w0 W g f0 f1 f2) (ho : Kd.N d e W base ok v xs) (ht : e ≠ 175) : some g ≠ v.ownBlock := by
 obtain ⟨A0, c0, hb, hg, hr0⟩ := h
 exact Kd.N_ne ho hb ht
theorem IsS175.fresh {w0 W : World} {g : Nat} {f0 : List Int} {f1 : Int} {f2 : Int} (h : IsS175 w0 W g f0 f1 f2) : ∀ k, W.heap.size ≤ k → k ≠ g := by
 obtain ⟨A0, c0, hb, hg, hr0⟩ := h
 exact Kd.freshB hb
theorem IsS175.kept {w0 W : World} {g : Nat} {f0 : List Int} {f1 : Int} {f2 : Int} {W1 : World} {S : Nat → Prop} (h : IsS175 w0 W g f0 f1 f2) (hk : Kept W W1 S) (hne : ¬ S g) : IsS175 w0 W1 g f0 f1 f2 := by
 obtain ⟨A0, c0, hb, hg, hr0⟩ := h
 exact ⟨A0, c0, blk_kept hb hk hne, hg, hr0⟩
theorem IsS175.below {w0 W : World} {g : Nat} {f0 : List Int} {f1 : Int} {f2 : Int} {W1 : World} (h : IsS175 w0 W g f0 f1 f2) (hw : Below W.heap.size W W1) : IsS175 w0 W1 g f0 f1 f2 := h.grown (grown_of_below hw none) (by simp)
theorem IsS175.alloc {w0 W : World} {g : Nat} {f0 : List Int} {f1 : Int} {f2 : Int} (h : IsS175 w0 W g f0 f1 f2) (o : Obj) : IsS175 w0 (W.alloc o) g f0 f1 f2 := h.below (below_alloc (Below.refl _ _) o)
theorem IsS175.drewN {w0 W : World} {g : Nat} {f0 : List Int} {f1 : Int} {f2 : Int} (h : IsS175 w0 W g f0 f1 f2) (m : Nat) : IsS175 w0 (W.drewN m) g f0 f1 f2 := h
theorem IsS175.drew {w0 W : World} {g : Nat} {f0 : List Int} {f1 : Int} {f2 : Int} (h : IsS175 w0 W g f0 f1 f2) : IsS175 w0 W.drew g f0 f1 f2 := h
theorem IsS175.at_ {w0 W : World} {g : Nat} {f0 : List Int} {f1 : Int} {f2 : Int} {w' : World} {m : Nat} (hq : W.drewN m = w') (h : IsS175 w0 W g f0 f1 f2) : IsS175 w0 w' g f0 f1 f2 := by subst hq; exact IsS175.drewN h m
theorem IsS175.apart {w0 W : World} {g : Nat} {f0 : List Int} {f1 : Int} {f2 : Int} {α : Type} {d : Kd α} {e : Nat} {base : Nat} {ok : Nat → Prop} {v : Value} {xs : List α} (h : IsS175 w0 W g f0 f1 f2) (ho : d.R e W base ok v xs) (ht : ∀ q, q ∈ e :: d.E → q ≠ 175) : d.R e W base (fun k => ok k ∧ k ≠ g) v xs := by
 obtain ⟨A0, c0, hb, hg, hr0⟩ := h
 exact Kd.R_types ho hb ht
theorem IsS175.own_ne {w0 W : World} {g : Nat} {f0 : List Int} {f1 : Int} {f2 : Int} {α : Type} {d : Kd α} {e : Nat} {base : Nat} {ok : Nat → Prop} {v : Value} {xs : List α} (h : IsS175 w0 W g f0 f1 f2) (ho : d.R e W base ok v xs) (ht : e ≠ 175) : some g ≠ v.ownBlock := by
 obtain ⟨A0, c0, hb, hg, hr0⟩ := h
 exact Kd.R_ne ho hb ht
theorem IsS175.apartQ {w0 W : World} {g : Nat} {f0 : List Int} {f1 : Int} {f2 : Int} {α : Type} {d : Kd α} {e : Nat} {base : Nat} {ok : Nat → Prop} {v : Value} {xs : List α} (h : IsS175 w0 W g f0 f1 f2) (ho : d.Q e W base ok v xs) (ht : ∀ q, q ∈ e :: d.E → q ≠ 175) : d.Q e W base (fun k => ok k ∧ k ≠ g) v xs := by
 obtain ⟨A0, c0, hb, hg, hr0⟩ := h
 exact Kd.Q_types ho hb ht
theorem IsS175.own_neQ {w0 W : World} {g : Nat} {f0 : List Int} {f1 : Int} {f2 : Int} {α : Type} {d : Kd α} {e : Nat} {base : Nat} {ok : Nat → Prop} {v : Value} {xs : List α} (h : IsS175 w0 W g f0 f1 f2) (ho : d.Q e W base ok v xs) (ht : e ≠ 175) : some g ≠ v.ownBlock := by
 obtain ⟨A0, c0, hb, hg, hr0⟩ := h
 exact Kd.Q_ne ho hb ht
theorem IsS175.apartS {w0 W : World} {g : Nat} {f0 : List Int} {f1 : Int} {f2 : Int} {α : Type} {d : Kd α} {e : Nat} {base : Nat} {ok : Nat → Prop} {v : Value} {xs : List α} (h : IsS175 w0 W g f0 f1 f2) (ho : d.S e W base ok v xs) (ht : ∀ q, q ∈ e :: d.E → q ≠ 175) : d.S e W base (fun k => ok k ∧ k ≠ g) v xs := by
 obtain ⟨A0, c0, hb, hg, hr0⟩ := h
 exact Kd.S_types ho hb ht
theorem IsS175.own_neS {w0 W : World} {g : Nat} {f0 : List Int} {f1 : Int} {f2 : Int} {α : Type} {d : Kd α} {e : Nat} {base : Nat} {ok : Nat → Prop} {v : Value} {xs : List α} (h : IsS175 w0 W g f0 f1 f2) (ho : d.S e W base ok v xs) (ht : e ≠ 175) : some g ≠ v.ownBlock := by
 obtain ⟨A0, c0, hb, hg, hr0⟩ := h
 exact Kd.S_ne ho hb ht
theorem IsS175.lt {w0 W : World} {g : Nat} {f0 : List Int} {f1 : Int} {f2 : Int} (h : IsS175 w0 W g f0 f1 f2) : g < W.heap.size := by
 obtain ⟨A0, c0, hb, hg, hr0⟩ := h
 exact blk_lt hb
theorem IsS175.ge {w0 W : World} {g : Nat} {f0 : List Int} {f1 : Int} {f2 : Int} (h : IsS175 w0 W g f0 f1 f2) : w0.heap.size ≤ g := by
 obtain ⟨A0, c0, hb, hg, hr0⟩ := h
 exact hg
theorem IsS175.ne_blk {w0 W : World} {g : Nat} {f0 : List Int} {f1 : Int} {f2 : Int} {a : Nat} {cs : Array Value} {t : TypeId} {fr : Nat × Nat} (h : IsS175 w0 W g f0 f1 f2) (hb2 : W.heap[a]? = some (.cells cs t fr)) (ht : t ≠ 175) : g ≠ a := by
 obtain ⟨A0, c0, hb, hg, hr0⟩ := h
 rintro rfl
 rw [hb] at hb2
 injection hb2 with hb2
 injection hb2 with _ ht2
 exact ht ht2.symm
theorem IsS175.far {w0 W : World} {g : Nat} {f0 : List Int} {f1 : Int} {f2 : Int} {p : Addr} (h : IsS175 w0 W g f0 f1 f2) (hne : g ≠ p.block) (u : Value) : IsS175 w0 (W.setCell p u) g f0 f1 f2 := by
 obtain ⟨A0, c0, hb, hg, hr0⟩ := h
 exact ⟨A0, c0, blk_far hb hne u, hg, hr0⟩
theorem cellS175_0 {W : World} {g : Nat} {A0 : Option Addr} {c0 : Nat} {f0 : List Int} {f1 : Int} {f2 : Int} (h : W.heap[g]? = some (.cells #[.slice A0 f0.length c0, f1, f2] 175 (0, 0))) : W.cell? ⟨g, 0, none⟩ = some (.slice A0 f0.length c0) := (bC h 0).trans rfl
theorem IsS175.put_0 {w0 W : World} {g : Nat} {f0 : List Int} {f1 : Int} {f2 : Int} {A_ : Option Addr} {c_ : Nat} {x_ : List Int} (h : IsS175 w0 W g f0 f1 f2) (hx_ : Kd.C (Kd.int .u8) w0 A_ x_.length x_ ∧ x_.length ≤ c_) : IsS175 w0 (W.setCell ⟨g, 0, none⟩ (.slice A_ x_.length c_)) g x_ f1 f2 := by
 obtain ⟨A0, c0, hb, hg, hr0⟩ := h
 exact ⟨A_, c_, by simpa using blk_set hb 0 (.slice A_ x_.length c_), hg, hx_⟩
theorem cellS175_1 {W : World} {g : Nat} {A0 : Option Addr} {c0 : Nat} {f0 : List Int} {f1 : Int} {f2 : Int} (h : W.heap[g]? = some (.cells #[.slice A0 f0.length c0, f1, f2] 175 (0, 0))) : W.cell? ⟨g, 1, none⟩ = some f1 := (bC h 1).trans rfl
theorem IsS175.set_1 {w0 W : World} {g : Nat} {f0 : List Int} {f1 : Int} {f2 : Int} (h : IsS175 w0 W g f0 f1 f2) (x : Int) : IsS175 w0 (W.setCell ⟨g, 1, none⟩ (.int .i64 x)) g f0 x f2 := by
 obtain ⟨A0, c0, hb, hg, hr0⟩ := h
 exact ⟨A0, c0, by simpa using blk_set hb 1 (.int .i64 x), hg, hr0⟩
theorem cellS175_2 {W : World} {g : Nat} {A0 : Option Addr} {c0 : Nat} {f0 : List Int} {f1 : Int} {f2 : Int} (h : W.heap[g]? = some (.cells #[.slice A0 f0.length c0, f1, f2] 175 (0, 0))) : W.cell? ⟨g, 2, none⟩ = some f2 := (bC h 2).trans rfl
theorem IsS175.set_2 {w0 W : World} {g : Nat} {f0 : List Int} {f1 : Int} {f2 : Int} (h : IsS175 w0 W g f0 f1 f2) (x : Int) : IsS175 w0 (W.setCell ⟨g, 2, none⟩ (.int .i64 x)) g f0 f1 x := by
 obtain ⟨A0, c0, hb, hg, hr0⟩ := h
 exact ⟨A0, c0, by simpa using blk_set hb 2 (.int .i64 x), hg, hr0⟩
theorem IsS175.new (w0 W : World) (A0 : Option Addr) (c0 : Nat) (f0 : List Int) (f1 f2 : Int) (hB : Below w0.heap.size w0 W) (hr0 : Kd.C (Kd.int .u8) w0 A0 f0.length f0 ∧ f0.length ≤ c0) : IsS175 w0 (W.alloc (.cells #[.slice A0 f0.length c0, f1, f2] 175)) W.heap.size f0 f1 f2 := ⟨A0, c0, by simpa using heap_alloc_new W _, hB.size, hr0⟩

theorem IsS175.mv {w0 W W' : World} {g : Nat} {f0 f0' : List Int} {f1 f1' : Int} {f2 f2' : Int} (h : IsS175 w0 W g f0 f1 f2) (hs : IsS175 w0 W g f0 f1 f2 → IsS175 w0 W' g f0' f1' f2' := by intro h; repeat (first | (with_reducible first | exact h | apply IsS175.alloc | apply IsS175.drewN | apply IsS175.drew | apply IsS175.set_1 | apply IsS175.set_2 | refine IsS175.far ?_ (Aside0.out (by assumption)) _) | exact h)) : IsS175 w0 W' g f0' f1' f2' := hs h
theorem IsS175.bl {B : Nat} {w0 W W' : World} (h : Below B w0 W) (hs : Below B w0 W → Below B w0 W' := by intro h; repeat (first | (with_reducible first | exact h | apply below_alloc | apply pw_below_drewN | apply below_drew1 | refine below_set ?_ (Aside0.out (by assumption)) | refine below_set ?_ (IsS175.ge (Aside0.out (by assumption)))) | exact h)) : Below B w0 W' := hs h
def spec_l1New.l0 : Nat → List Int → Int → Int → Option (List Int × Int × Int)
 | 0, _, _, _ => none
 | k + 1, x0, x3, x4 => if x4 < (x0.length : Int) then (if x4 < 4000 then (if 0 ≤ x4 then (spec_l1New.l0 k x0 (Go.bits .and .i64 (wrap64 ((wrap64 ((wrap64 (x3 * 131)) + (wrap64 (rd x0 x4)))) + 7)) 1073741823) (wrap64 (x4 + 1))) else (none)) else (some (x0, 0, x3))) else (some (x0, 0, x3))
def spec_l1New.f (k : Nat) (l0 : List Int) : Option (List Int × Int × Int) := spec_l1New.l0 k l0 (wrap64 (27397 + (l0.length : Int))) 0
theorem spec_l1New.mono_l : ∀ k, (∀ y0 y1 y2, LeO (spec_l1New.l0 k y0 y1 y2) (spec_l1New.l0 (k + 1) y0 y1 y2))
 | 0 => fun _ _ _ r h => by simp [spec_l1New.l0] at h
 | k + 1 => by
  have ih0 := spec_l1New.mono_l k
  ·intro y0 y1 y2
   unfold spec_l1New.l0
   repeat' first|(with_reducible first|apply ih0|exact lR _|exact lN _|refine lI ?_ ?_|refine lB ?_ fun _ => ?_)|exact lN _|refine lI ?_ ?_|refine lB ?_ fun _ => ?_
theorem spec_l1New.mono : ∀ a0 k, LeO (spec_l1New.f k a0) (spec_l1New.f (k + 1) a0) := by
 intro a0 k
 have ih0 := spec_l1New.mono_l k
 unfold spec_l1New.f
 repeat' first|(with_reducible first|apply ih0|exact lR _|exact lN _|refine lI ?_ ?_|refine lB ?_ fun _ => ?_)|exact lN _|refine lI ?_ ?_|refine lB ?_ fun _ => ?_
set_option maxHeartbeats 60000000 in
set_option maxRecDepth 100000 in
theorem spec_l1New.calls (k : Nat) (A0 : Option Addr) (c0 : Nat) (l0 : List Int) (r1 : List Int) (r2 r3 : Int) (w0 w : World) (hB : Below w0.heap.size w0 w) (hr0 : Kd.C (Kd.int .u8) w0 A0 l0.length l0) (hc0 : l0.length ≤ c0) (h : spec_l1New.f k l0 = some (r1, r2, r3)) :
  Calls Try.prog 97 #[.slice A0 l0.length c0] w fun e w' => ∃ g_ : Nat, e = .returned (.pointer (some ⟨g_, 0, none⟩)) ∧ IsS175 w0 w' g_ r1 r2 r3 ∧ Below w0.heap.size w0 w' ∧ Below w.heap.size w w' := by
 have bI := Try.underlying175
 have aJ := aM hr0
 have aX := aM hc0
 clear hr0 hc0
 have HBW := aM (Below.refl w.heap.size w)
 have HW0 := aM hB.size
 have HB := aM hB
 clear hB
 have H : (spec_l1New.l0 k l0 (wrap64 (27397 + (l0.length : Int))) 0) = some (r1, r2, r3) := h
 clear h
 have H' := aM H
 clear H
 go_enter Try.func97, Try.ntmps97
 go_wp2
 go_loopg [3, 4] k (fun kq v3 v4 w' => ∃ (aC : Int) (aA : Int), v3 = .int .i64 aC ∧ v4 = .int .i64 aA ∧ Aside0 (spec_l1New.l0 kq l0 aC aA = some (r1, r2, r3)) ∧ Aside0 (kq ≤ k) ∧ Aside0 (Below w0.heap.size w0 w') ∧ Aside0 (Below w.heap.size w w'))
 case atStart => exact ⟨(wrap64 (27397 + (l0.length : Int))), (0), xE, xE, H', ⟨Nat.le_refl _⟩, ⟨bl HB.out⟩, ⟨by repeat (first | (with_reducible first | exact HBW.out | apply below_alloc | apply pw_below_drewN | apply below_drew1) | exact HBW.out)⟩⟩
 case round =>
  clear H'
  obtain ⟨aC, aA, rfl, rfl, HA, bA, HB, HBW⟩ := hrel
  cases gk with
  | zero => exact absurd HA.out (by simp [spec_l1New.l0])
  | succ k1 =>
   have H := HA.out
   clear HA
   simp only [spec_l1New.l0] at H
   by_cases c2 : aA < (l0.length : Int)
   case neg =>
    rw [if_neg c2] at H
    have bD := decide_eq_false c2
    clear c2
    simp only [Option.some.injEq, Prod.mk.injEq] at H
    obtain ⟨rfl, rfl, rfl⟩ := H
    go_wp2_with (first | ((with_reducible refine gD (N := 31) rfl ?_); refine bE (N := 31) (cs := #[.slice A0 l0.length c0, .int .i64 0, aC]) (t := 175) ?_; intro aD hg w6 hbox hb; have aK := aM (hbox); have aN := aM ((by rw [hg]; exact (below_size (by repeat (first | (with_reducible first | exact HBW.out | apply below_alloc | apply pw_below_drewN | apply below_drew1) | exact HBW.out))) : w.heap.size ≤ aD)); have aQ := aM ((Nat.le_trans HW0.out (by rw [hg]; exact (below_size (by repeat (first | (with_reducible first | exact HBW.out | apply below_alloc | apply pw_below_drewN | apply below_drew1) | exact HBW.out))) : w.heap.size ≤ aD) : w0.heap.size ≤ aD)); replace HBW := aM (bS HBW.out hb); replace HB := rS HB hb; clear hb hbox hg))
    go_ret
    exact ⟨_, rfl, (show IsS175 w0 _ aD l0 0 aC from ⟨_, _, by (with_reducible repeat (first | refine blk_drewN ?_ _ | refine blk_drew ?_ | refine blk_alloc ?_ _)); exact aK.out, aQ.out, ⟨aJ.out, aX.out⟩⟩), bl HB.out, by repeat (first | (with_reducible first | exact HBW.out | apply below_alloc | apply pw_below_drewN | apply below_drew1 | refine below_set ?_ aN.out) | exact HBW.out)⟩
   rw [if_pos c2] at H
   have bD := decide_eq_true c2
   clear c2
   by_cases c3 : aA < 4000
   case neg =>
    rw [if_neg c3] at H
    have bG := decide_eq_false c3
    clear c3
    simp only [Option.some.injEq, Prod.mk.injEq] at H
    obtain ⟨rfl, rfl, rfl⟩ := H
    go_wp2_with (first | ((with_reducible refine gD (N := 31) rfl ?_); refine bE (N := 31) (cs := #[.slice A0 l0.length c0, .int .i64 0, aC]) (t := 175) ?_; intro aE hg w5 hbox hb; have aT := aM (hbox); have aV := aM ((by rw [hg]; exact (below_size (by repeat (first | (with_reducible first | exact HBW.out | apply below_alloc | apply pw_below_drewN | apply below_drew1) | exact HBW.out))) : w.heap.size ≤ aE)); have aW := aM ((Nat.le_trans HW0.out (by rw [hg]; exact (below_size (by repeat (first | (with_reducible first | exact HBW.out | apply below_alloc | apply pw_below_drewN | apply below_drew1) | exact HBW.out))) : w.heap.size ≤ aE) : w0.heap.size ≤ aE)); replace HBW := aM (bS HBW.out hb); replace HB := rS HB hb; clear hb hbox hg))
    go_ret
    exact ⟨_, rfl, (show IsS175 w0 _ aE l0 0 aC from ⟨_, _, by (with_reducible repeat (first | refine blk_drewN ?_ _ | refine blk_drew ?_ | refine blk_alloc ?_ _)); exact aT.out, aW.out, ⟨aJ.out, aX.out⟩⟩), bl HB.out, by repeat (first | (with_reducible first | exact HBW.out | apply below_alloc | apply pw_below_drewN | apply below_drew1 | refine below_set ?_ aV.out) | exact HBW.out)⟩
   rw [if_pos c3] at H
   have bG := decide_eq_true c3
   clear c3
   obtain ⟨bK, H⟩ := gI H
   have H' := aM H
   clear H
   have aH : 0 ≤ (aA : Int) := dT
   have aI : aA < (l0.length : Int) := dT
   obtain ⟨bJ, bH, aG⟩ := Kd.at_int aJ.out aA aH aI
   cases bH
   replace aG := pw_cell_below HB.out aG
   replace aH := eq_true aH
   replace aI := eq_true aI
   go_wp2
   go_roundg k1
   case measure => have := bA.out; omega
   case rel => exact ⟨(Go.bits .and .i64 (wrap64 ((wrap64 ((wrap64 (aC * 131)) + (wrap64 (rd l0 aA)))) + 7)) 1073741823), (wS aA), xE, xE, H', ⟨by have := bA.out; omega⟩, ⟨bl HB.out⟩, ⟨by repeat (first | (with_reducible first | exact HBW.out | apply below_alloc | apply pw_below_drewN | apply below_drew1) | exact HBW.out)⟩⟩

def spec_l1Byte.f (aD : List Int) (aC aA : Int) : Option (Int × Int × Int) := if aC < (aD.length : Int) then (if 0 ≤ aC then (some (Go.bits .and .i64 (wrap64 ((Go.bits .and .i64 (Go.bits .xor .i64 ((wrap64 ((wrap64 (aA * 6364136223846793005)) + 1442695040888963407)) / 8589934592) ((wrap64 ((wrap64 (aA * 6364136223846793005)) + 1442695040888963407)) / 35184372088832)) 255) + (wrap64 (rd aD aC)))) 255, wrap64 (aC + 1), wrap64 ((wrap64 (aA * 6364136223846793005)) + 1442695040888963407))) else (none)) else (some (Go.bits .and .i64 (Go.bits .xor .i64 ((wrap64 ((wrap64 (aA * 6364136223846793005)) + 1442695040888963407)) / 8589934592) ((wrap64 ((wrap64 (aA * 6364136223846793005)) + 1442695040888963407)) / 35184372088832)) 255, aC, wrap64 ((wrap64 (aA * 6364136223846793005)) + 1442695040888963407)))
set_option maxHeartbeats 60000000 in
set_option maxRecDepth 100000 in
theorem spec_l1Byte.calls (g : Nat) (aE : List Int) (aC aD r1 r2 r3 : Int) (w0 w : World) (hI : IsS175 w0 w g aE aC aD) (hB : Below w0.heap.size w0 w) (h : spec_l1Byte.f aE aC aD = some (r1, r2, r3)) :
  Calls Try.prog 160 #[.pointer (some ⟨g, 0, none⟩)] w fun e w' => e = .returned (.int .i64 r1) ∧ IsS175 w0 w' g aE r2 r3 ∧ Below w0.heap.size w0 w' ∧ KeepBut w w' g none := by
 have aG := aM hI
 have HK := aM (KeepBut.refl w g none)
 have HL := aM hB.size
 clear hI
 have HW0 := aM hB.size
 have HB := aM hB
 clear hB
 have H : (if aC < (aE.length : Int) then (if 0 ≤ aC then (some (Go.bits .and .i64 (wrap64 ((Go.bits .and .i64 (Go.bits .xor .i64 ((wrap64 ((wrap64 (aD * 6364136223846793005)) + 1442695040888963407)) / 8589934592) ((wrap64 ((wrap64 (aD * 6364136223846793005)) + 1442695040888963407)) / 35184372088832)) 255) + (wrap64 (rd aE aC)))) 255, wS aC, wrap64 ((wrap64 (aD * 6364136223846793005)) + 1442695040888963407))) else (none)) else (some (Go.bits .and .i64 (Go.bits .xor .i64 ((wrap64 ((wrap64 (aD * 6364136223846793005)) + 1442695040888963407)) / 8589934592) ((wrap64 ((wrap64 (aD * 6364136223846793005)) + 1442695040888963407)) / 35184372088832)) 255, aC, wrap64 ((wrap64 (aD * 6364136223846793005)) + 1442695040888963407)))) = some (r1, r2, r3) := h
 clear h
 by_cases c2 : aC < (aE.length : Int)
 case neg =>
  rw [if_neg c2] at H
  have aK := decide_eq_false c2
  clear c2
  simp only [Option.some.injEq, Prod.mk.injEq] at H
  obtain ⟨rfl, rfl, rfl⟩ := H
  obtain ⟨ASz5_0, cSz5_0, HGz5, hgz5, HSz5_0⟩ := aG.out
  have aT := cellS175_0 HGz5
  have aV := cellS175_1 HGz5
  have aW := cellS175_2 HGz5
  have aX := bF HGz5 1
  have bA := bF HGz5 2
  clear HGz5 hgz5
  go_enter Try.func160, Try.ntmps160
  go_wp2
  repeat (go_quiet (fail); try go_wp2)
  go_ret
  exact ⟨xW, IsS175.mv aG.out, IsS175.bl HB.out, km HK.out⟩
 rw [if_pos c2] at H
 have aK := decide_eq_true c2
 clear c2
 obtain ⟨bK, H⟩ := gI H
 simp only [Option.some.injEq, Prod.mk.injEq] at H
 obtain ⟨rfl, rfl, rfl⟩ := H
 obtain ⟨ASz4_0, cSz4_0, HGz4, hgz4, HSz4_0⟩ := aG.out
 have bD := cellS175_0 HGz4
 have bG := cellS175_1 HGz4
 have bH := cellS175_2 HGz4
 have bI := bF HGz4 1
 have bJ := bF HGz4 2
 clear HGz4 hgz4
 have aH : 0 ≤ (aC : Int) := dT
 have aI : aC < (aE.length : Int) := dT
 obtain ⟨aJ, aN, aA⟩ := Kd.at_int HSz4_0.1 aC aH aI
 cases aN
 have hn146_0 : aJ.block ≠ g := Nat.ne_of_lt (Nat.lt_of_lt_of_le (by have := World.block_lt_of_cell? _ _ aA; first | rwa [add_block] at this | exact this) (IsS175.ge aG.out))
 replace aA := pw_cell_below HB.out aA
 replace aA := (cell_far (p := ⟨g, 2, none⟩) (by first | (rw [add_block]; exact hn146_0) | (show (Addr.add _ _).block ≠ _; rw [add_block]; exact hn146_0) | exact hn146_0) (.int .i64 (wrap64 ((wrap64 (aD * 6364136223846793005)) + 1442695040888963407)))).trans aA
 (try have aQ := fun (n_ : Nat) => (show (((w.drewN n_).setCell ⟨g, 2, none⟩ (.int .i64 (wrap64 ((wrap64 (aD * 6364136223846793005)) + 1442695040888963407))))).cell? _ = some _ from aA))
 clear hn146_0
 replace aH := eq_true aH
 replace aI := eq_true aI
 go_enter Try.func160, Try.ntmps160
 go_wp2
 repeat (go_quiet (fail); try go_wp2)
 go_ret
 exact ⟨xW, IsS175.mv aG.out, IsS175.bl HB.out, km HK.out⟩

def spec_l1Below.f (aA : List Int) (aI aJ a1 : Int) : Option (Int × Int × Int) := if a1 ≤ 0 then (some (0, aI, aJ)) else (if a1 ≤ 256 then ((spec_l1Byte.f aA aI aJ).bind fun aC => (if a1 = 0 then (none) else (some (Int.tmod aC.1 a1, aC.2.1, aC.2.2)))) else ((spec_l1Byte.f aA aI aJ).bind fun aD => ((spec_l1Byte.f aA aD.2.1 aD.2.2).bind fun aE => ((spec_l1Byte.f aA aE.2.1 aE.2.2).bind fun aG => ((spec_l1Byte.f aA aG.2.1 aG.2.2).bind fun aH => (if a1 = 0 then (none) else (some (Int.tmod (wrap64 ((wrap64 ((wrap64 ((wrap64 (aD.1 * 16777216)) + (wrap64 (aE.1 * 65536)))) + (wrap64 (aG.1 * 256)))) + aH.1)) a1, aH.2.1, aH.2.2))))))))
set_option maxHeartbeats 60000000 in
set_option maxRecDepth 100000 in
theorem spec_l1Below.calls (g : Nat) (aA : List Int) (aD aE a1 r1 r2 r3 : Int) (w0 w : World) (hI : IsS175 w0 w g aA aD aE) (hB : Below w0.heap.size w0 w) (h : spec_l1Below.f aA aD aE a1 = some (r1, r2, r3)) :
  Calls Try.prog 99 #[.pointer (some ⟨g, 0, none⟩), a1] w fun e w' => e = .returned (.int .i64 r1) ∧ IsS175 w0 w' g aA r2 r3 ∧ Below w0.heap.size w0 w' ∧ KeepBut w w' g none := by
 have aC := aM hI
 have HK := aM (KeepBut.refl w g none)
 have HL := aM hB.size
 clear hI
 have HW0 := aM hB.size
 have HB := aM hB
 clear hB
 have H : (if a1 ≤ 0 then (some (0, aD, aE)) else (if a1 ≤ 256 then ((spec_l1Byte.f aA aD aE).bind fun aG => (if a1 = 0 then (none) else (some (Int.tmod aG.1 a1, aG.2.1, aG.2.2)))) else ((spec_l1Byte.f aA aD aE).bind fun aH => ((spec_l1Byte.f aA aH.2.1 aH.2.2).bind fun aI => ((spec_l1Byte.f aA aI.2.1 aI.2.2).bind fun aJ => ((spec_l1Byte.f aA aJ.2.1 aJ.2.2).bind fun aK => (if a1 = 0 then (none) else (some (Int.tmod (wrap64 ((wrap64 ((wrap64 ((wrap64 (aH.1 * 16777216)) + (wrap64 (aI.1 * 65536)))) + (wrap64 (aJ.1 * 256)))) + aK.1)) a1, aK.2.1, aK.2.2))))))))) = some (r1, r2, r3) := h
 clear h
 by_cases c3 : a1 ≤ 0
 case pos =>
  rw [if_pos c3] at H
  have bK := decide_eq_true c3
  clear c3
  simp only [Option.some.injEq, Prod.mk.injEq] at H
  obtain ⟨rfl, rfl, rfl⟩ := H
  go_enter Try.func99, Try.ntmps99
  go_wp2
  go_ret
  exact ⟨xW, IsS175.mv aC.out, IsS175.bl HB.out, km HK.out⟩
 rw [if_neg c3] at H
 have bK := decide_eq_false c3
 clear c3
 by_cases c4 : a1 ≤ 256
 case pos =>
  rw [if_pos c4] at H
  have bL := decide_eq_true c4
  clear c4
  obtain ⟨⟨bM, bN, bO⟩, bH, H⟩ := hB H
  try dsimp only at H
  have A5 := aM bH
  clear bH
  by_cases c6 : a1 = 0
  case pos =>
   rw [if_pos c6] at H
   exact absurd H (by simp)
  rw [if_neg c6] at H
  have cC : (a1 == 0) = false := beq_eq_false_iff_ne.mpr c6
  have cD : (a1 != 0) = true := bne_iff_ne.mpr c6
  simp only [Option.some.injEq, Prod.mk.injEq] at H
  obtain ⟨rfl, rfl, rfl⟩ := H
  go_enter Try.func99, Try.ntmps99
  go_wp2_with (first | ((with_reducible refine gC (f := 160) rfl ?_); refine gL (some 14) Try.func160 #[.pointer (some ⟨g, 0, none⟩)] ?_; (with_reducible refine (spec_l1Byte.calls g aA aD aE bM bN bO w0 _ ?side1 ?side2 A5.out).mono ?_); (case side1 => exact IsS175.mv aC.out); (case side2 => exact IsS175.bl HB.out); rintro e w7 ⟨rfl, hi, hb, hk⟩; refine ⟨_, rfl, ?_⟩; replace HK := aM (KeepBut.trans (km HK.out) hk (.inl rfl)); replace HB := aM (hb); replace aC := aM (hi); (repeat first|clear hb|clear hk|clear hi)))
  go_ret
  exact ⟨xW, IsS175.mv aC.out, IsS175.bl HB.out, km HK.out⟩
 rw [if_neg c4] at H
 have bL := decide_eq_false c4
 clear c4
 obtain ⟨⟨bP, aQ, aT⟩, bI, H⟩ := hB H
 try dsimp only at H
 have A8 := aM bI
 clear bI
 obtain ⟨⟨bQ, aV, aW⟩, bJ, H⟩ := hB H
 try dsimp only at H
 have A9 := aM bJ
 clear bJ
 obtain ⟨⟨bT, aX, bA⟩, bD, H⟩ := hB H
 try dsimp only at H
 have bX := aM bD
 clear bD
 obtain ⟨⟨bU, bV, bW⟩, bG, H⟩ := hB H
 try dsimp only at H
 have bY := aM bG
 clear bG
 by_cases aN : a1 = 0
 case pos =>
  rw [if_pos aN] at H
  exact absurd H (by simp)
 rw [if_neg aN] at H
 have bZ : (a1 == 0) = false := beq_eq_false_iff_ne.mpr aN
 have cA : (a1 != 0) = true := bne_iff_ne.mpr aN
 simp only [Option.some.injEq, Prod.mk.injEq] at H
 obtain ⟨rfl, rfl, rfl⟩ := H
 go_enter Try.func99, Try.ntmps99
 go_wp2_with (first | ((with_reducible refine gC (f := 160) rfl ?_); refine gL (some 18) Try.func160 #[.pointer (some ⟨g, 0, none⟩)] ?_; (with_reducible refine (spec_l1Byte.calls g aA aD aE bP aQ aT w0 _ ?side1 ?side2 A8.out).mono ?_); (case side1 => exact IsS175.mv aC.out); (case side2 => exact IsS175.bl HB.out); rintro e cE ⟨rfl, hi, hb, hk⟩; refine ⟨_, rfl, ?_⟩; replace HK := aM (KeepBut.trans (km HK.out) hk (.inl rfl)); replace HB := aM (hb); replace aC := aM (hi); (repeat first|clear hb|clear hk|clear hi)) | ((with_reducible refine gC (f := 160) rfl ?_); refine gL (some 20) Try.func160 #[.pointer (some ⟨g, 0, none⟩)] ?_; (with_reducible refine (spec_l1Byte.calls g aA aQ aT bQ aV aW w0 _ ?side1 ?side2 A9.out).mono ?_); (case side1 => exact IsS175.mv aC.out); (case side2 => exact IsS175.bl HB.out); rintro e cG ⟨rfl, hi, hb, hk⟩; refine ⟨_, rfl, ?_⟩; replace HK := aM (KeepBut.trans (km HK.out) hk (.inl rfl)); replace HB := aM (hb); replace aC := aM (hi); (repeat first|clear hb|clear hk|clear hi)) | ((with_reducible refine gC (f := 160) rfl ?_); refine gL (some 22) Try.func160 #[.pointer (some ⟨g, 0, none⟩)] ?_; (with_reducible refine (spec_l1Byte.calls g aA aV aW bT aX bA w0 _ ?side1 ?side2 bX.out).mono ?_); (case side1 => exact IsS175.mv aC.out); (case side2 => exact IsS175.bl HB.out); rintro e cH ⟨rfl, hi, hb, hk⟩; refine ⟨_, rfl, ?_⟩; replace HK := aM (KeepBut.trans (km HK.out) hk (.inl rfl)); replace HB := aM (hb); replace aC := aM (hi); (repeat first|clear hb|clear hk|clear hi)) | ((with_reducible refine gC (f := 160) rfl ?_); refine gL (some 24) Try.func160 #[.pointer (some ⟨g, 0, none⟩)] ?_; (with_reducible refine (spec_l1Byte.calls g aA aX bA bU bV bW w0 _ ?side1 ?side2 bY.out).mono ?_); (case side1 => exact IsS175.mv aC.out); (case side2 => exact IsS175.bl HB.out); rintro e cK ⟨rfl, hi, hb, hk⟩; refine ⟨_, rfl, ?_⟩; replace HK := aM (KeepBut.trans (km HK.out) hk (.inl rfl)); replace HB := aM (hb); replace aC := aM (hi); (repeat first|clear hb|clear hk|clear hi)))
 go_ret
 exact ⟨xW, IsS175.mv aC.out, IsS175.bl HB.out, km HK.out⟩

def spec_l1PickInt.f (aC : List Int) (aD aE : Int) (l1 : List Int) : Option (Int × Int × Int) := (spec_l1Below.f aC aD aE (l1.length : Int)).bind fun aA => (if 0 ≤ aA.1 then (if aA.1 < (l1.length : Int) then (some (rd l1 aA.1, aA.2.1, aA.2.2)) else (none)) else (none))
set_option maxHeartbeats 60000000 in
set_option maxRecDepth 100000 in
theorem spec_l1PickInt.calls (g : Nat) (aC : List Int) (aE aG : Int) (A1 : Option Addr) (c1 : Nat) (l1 : List Int) (r1 r2 r3 : Int) (w0 w : World) (hI : IsS175 w0 w g aC aE aG) (hB : Below w0.heap.size w0 w) (hr1 : Kd.C (Kd.int .i64) w A1 l1.length l1) (hc1 : l1.length ≤ c1) (aK : ∀ ad, A1 = some ad → 0 < l1.length → ad.block ≠ g) (h : spec_l1PickInt.f aC aE aG l1 = some (r1, r2, r3)) :
  Calls Try.prog 101 #[.pointer (some ⟨g, 0, none⟩), .slice A1 l1.length c1] w fun e w' => e = .returned (.int .i64 r1) ∧ IsS175 w0 w' g aC r2 r3 ∧ Below w0.heap.size w0 w' ∧ KeepBut w w' g none := by
 have bA := aM hr1
 have bH := aM hc1
 clear hr1 hc1
 have aN := aM hI
 have HK := aM (KeepBut.refl w g none)
 have HL := aM hB.size
 clear hI
 have HW0 := aM hB.size
 have HB := aM hB
 clear hB
 have H : ((spec_l1Below.f aC aE aG (l1.length : Int)).bind fun aA => (if 0 ≤ aA.1 then (if aA.1 < (l1.length : Int) then (some (rd l1 aA.1, aA.2.1, aA.2.2)) else (none)) else (none))) = some (r1, r2, r3) := h
 clear h
 obtain ⟨⟨aH, aV, aW⟩, aT, H⟩ := hB H
 try dsimp only at H
 have A3 := aM aT
 clear aT
 obtain ⟨bD, H⟩ := gI H
 obtain ⟨bG, H⟩ := gI H
 simp only [Option.some.injEq, Prod.mk.injEq] at H
 obtain ⟨rfl, rfl, rfl⟩ := H
 go_enter Try.func101, Try.ntmps101
 go_wp2_with (first | ((with_reducible refine gC (f := 99) rfl ?_); refine gL (some 9) Try.func99 #[.pointer (some ⟨g, 0, none⟩), .int .i64 (l1.length : Int)] ?_; (with_reducible refine (spec_l1Below.calls g aC aE aG (l1.length : Int) aH aV aW w0 _ ?side1 ?side2 A3.out).mono ?_); (case side1 => exact IsS175.mv aN.out); (case side2 => exact IsS175.bl HB.out); rintro e w6 ⟨rfl, hi, hb, hk⟩; refine ⟨_, rfl, ?_⟩; replace HK := aM (KeepBut.trans (km HK.out) hk (.inl rfl)); replace HB := aM (hb); replace aN := aM (hi); (repeat first|clear hb|clear hk|clear hi); have aI : 0 ≤ (aH : Int) := dT; have aJ : aH < (l1.length : Int) := dT; obtain ⟨aQ, aX, aD⟩ := Kd.at_int bA.out aH aI aJ; cases aX; replace aD := keep_cell HK.out aD (by first | (rw [add_block]; exact aK _ rfl (by omega)) | exact aK _ rfl (by omega) | exact aK aQ rfl (by omega)); replace aI := eq_true aI; replace aJ := eq_true aJ))
 go_ret
 exact ⟨xW, IsS175.mv aN.out, IsS175.bl HB.out, km HK.out⟩

def spec_l1In.f (a0 a1 a2 : Int) : Option (Bool) := if a0 ≥ a1 then (some (decide (a0 ≤ a2))) else (some false)
set_option maxHeartbeats 60000000 in
set_option maxRecDepth 100000 in
theorem spec_l1In.calls (a0 a1 a2 : Int) (r : Bool) (w : World) (h : spec_l1In.f a0 a1 a2 = some r) :
  Calls Try.prog 80 #[a0, a1, a2] w fun e w' => e = .returned (.bool r) ∧ Drawn0 w w' := by
 have H : (if a0 ≥ a1 then (some (decide (a0 ≤ a2))) else (some false)) = some r := h
 clear h
 by_cases c4 : a0 ≥ a1
 case pos =>
  rw [if_pos c4] at H
  have aA := decide_eq_true c4
  clear c4
  obtain rfl := Option.some.inj H
  go_enter Try.func80, Try.ntmps80
  go_wp2
  go_ret
  exact ⟨by first | rfl | (simp; done) | (simp [*]; done), by repeat (first | exact Drawn0.refl _ | apply Drawn0.step)⟩
 rw [if_neg c4] at H
 have aA := decide_eq_false c4
 clear c4
 obtain rfl := Option.some.inj H
 go_enter Try.func80, Try.ntmps80
 go_wp2
 go_ret
 exact ⟨by first | rfl | (simp; done) | (simp [*]; done), by repeat (first | exact Drawn0.refl _ | apply Drawn0.step)⟩

def spec_VecOk.f (aA aD aC aE : Int) : Option (Bool) := (spec_l1In.f aA 1 9).bind fun aG => (if aG = true then ((spec_l1In.f aC 1 9).bind fun aH => (if aH = true then (if aA ≤ aC then ((spec_l1In.f aD 0 20).bind fun aI => (if aI = true then (if ((aD == 0) == (aA == aC)) = true then ((spec_l1In.f aE 0 3).bind fun aJ => (some aJ)) else (some false)) else (some false))) else (some false)) else (some false))) else (some false))
set_option maxHeartbeats 60000000 in
set_option maxRecDepth 100000 in
theorem spec_VecOk.calls (aA aD aC aG : Int) (r : Bool) (w : World) (h : spec_VecOk.f aA aD aC aG = some r) :
  Calls Try.prog 181 #[.agg #[aA, aD, aC, aG]] w fun e w' => e = .returned (.bool r) ∧ Below w.heap.size w w' := by
 have bQ := Try.underlying73
 have HB := aM (Below.refl w.heap.size w)
 have H : ((spec_l1In.f aA 1 9).bind fun aK => (if aK = true then ((spec_l1In.f aC 1 9).bind fun aN => (if aN = true then (if aA ≤ aC then ((spec_l1In.f aD 0 20).bind fun aQ => (if aQ = true then (if ((aD == 0) == (aA == aC)) = true then ((spec_l1In.f aG 0 3).bind fun aT => (some aT)) else (some false)) else (some false))) else (some false)) else (some false))) else (some false))) = some r := h
 clear h
 obtain ⟨aK, aW, H⟩ := hB H
 have A2 := aM aW
 clear aW
 by_cases c3 : aK = true
 case neg =>
  replace c3 := Bool.eq_false_iff.mpr c3
  subst c3
  replace H := hF H
  obtain rfl := Option.some.inj H
  go_enter Try.func181, Try.ntmps181
  go_wp2_with (first | ((with_reducible refine gD (N := 1) rfl ?_); refine bE (N := 1) (cs := #[aA, aD, aC, aG]) (t := 73) ?_; intro aH hg bU hbox hb; have aE := aM (hbox); have aI := gF hg HB; have aJ := gF hg HB; replace HB := rS HB hb; clear hb hbox hg; have bK := cA4 aE.out) | ((with_reducible refine gC (f := 80) rfl ?_); refine gL (some 5) Try.func80 #[aA, .int .i64 1, .int .i64 9] ?_; (with_reducible refine (spec_l1In.calls aA 1 9 false _ A2.out).mono ?_); rintro e w' ⟨rfl, ⟨nd, rfl⟩⟩; refine ⟨_, rfl, ?_⟩))
  go_ret
  exact ⟨xW, bl HB.out⟩
 subst c3
 replace H := hP H rfl
 obtain ⟨aN, aX, H⟩ := hB H
 have A4 := aM aX
 clear aX
 by_cases c5 : aN = true
 case neg =>
  replace c5 := Bool.eq_false_iff.mpr c5
  subst c5
  replace H := hF H
  obtain rfl := Option.some.inj H
  go_enter Try.func181, Try.ntmps181
  go_wp2_with (first | ((with_reducible refine gD (N := 1) rfl ?_); refine bE (N := 1) (cs := #[aA, aD, aC, aG]) (t := 73) ?_; intro aH hg bV hbox hb; have aE := aM (hbox); have aI := gF hg HB; have aJ := gF hg HB; replace HB := rS HB hb; clear hb hbox hg; have bL := cA4 aE.out) | ((with_reducible refine gC (f := 80) rfl ?_); refine gL (some 5) Try.func80 #[aA, .int .i64 1, .int .i64 9] ?_; (with_reducible refine (spec_l1In.calls aA 1 9 true _ A2.out).mono ?_); rintro e w' ⟨rfl, ⟨nd, rfl⟩⟩; refine ⟨_, rfl, ?_⟩) | (go_at_call 80; (with_reducible refine (spec_l1In.calls aC 1 9 false _ A4.out).mono ?_); rintro e w' ⟨rfl, ⟨nd, rfl⟩⟩))
  go_ret
  exact ⟨xW, bl HB.out⟩
 subst c5
 replace H := hP H rfl
 by_cases c6 : aA ≤ aC
 case neg =>
  rw [if_neg c6] at H
  have bD := decide_eq_false c6
  clear c6
  obtain rfl := Option.some.inj H
  go_enter Try.func181, Try.ntmps181
  go_wp2_with (first | ((with_reducible refine gD (N := 1) rfl ?_); refine bE (N := 1) (cs := #[aA, aD, aC, aG]) (t := 73) ?_; intro aH hg bW hbox hb; have aE := aM (hbox); have aI := gF hg HB; have aJ := gF hg HB; replace HB := rS HB hb; clear hb hbox hg; have bM := cA4 aE.out) | ((with_reducible refine gC (f := 80) rfl ?_); refine gL (some 5) Try.func80 #[aA, .int .i64 1, .int .i64 9] ?_; (with_reducible refine (spec_l1In.calls aA 1 9 true _ A2.out).mono ?_); rintro e w' ⟨rfl, ⟨nd, rfl⟩⟩; refine ⟨_, rfl, ?_⟩) | (go_at_call 80; (with_reducible refine (spec_l1In.calls aC 1 9 true _ A4.out).mono ?_); rintro e w' ⟨rfl, ⟨nd, rfl⟩⟩))
  go_ret
  exact ⟨xW, bl HB.out⟩
 rw [if_pos c6] at H
 have bD := decide_eq_true c6
 clear c6
 obtain ⟨aQ, bA, H⟩ := hB H
 have A7 := aM bA
 clear bA
 by_cases c8 : aQ = true
 case neg =>
  replace c8 := Bool.eq_false_iff.mpr c8
  subst c8
  replace H := hF H
  obtain rfl := Option.some.inj H
  go_enter Try.func181, Try.ntmps181
  go_wp2_with (first | ((with_reducible refine gD (N := 1) rfl ?_); refine bE (N := 1) (cs := #[aA, aD, aC, aG]) (t := 73) ?_; intro aH hg bX hbox hb; have aE := aM (hbox); have aI := gF hg HB; have aJ := gF hg HB; replace HB := rS HB hb; clear hb hbox hg; have bN := cA4 aE.out) | ((with_reducible refine gC (f := 80) rfl ?_); refine gL (some 5) Try.func80 #[aA, .int .i64 1, .int .i64 9] ?_; (with_reducible refine (spec_l1In.calls aA 1 9 true _ A2.out).mono ?_); rintro e w' ⟨rfl, ⟨nd, rfl⟩⟩; refine ⟨_, rfl, ?_⟩) | (go_at_call 80; (with_reducible refine (spec_l1In.calls aC 1 9 true _ A4.out).mono ?_); rintro e w' ⟨rfl, ⟨nd, rfl⟩⟩) | (go_at_call 80; (with_reducible refine (spec_l1In.calls aD 0 20 false _ A7.out).mono ?_); rintro e w' ⟨rfl, ⟨nd, rfl⟩⟩))
  go_ret
  exact ⟨xW, bl HB.out⟩
 subst c8
 replace H := hP H rfl
 by_cases c9 : ((aD == 0) == (aA == aC)) = true
 case neg =>
  rw [if_neg c9] at H
  have bG : ((aD == 0) == (aA == aC)) = false := by simpa using c9
  (try (have bH : decide ((aD == 0) = (aA == aC)) = false := by simpa using c9))
  (try (have bI : ((aD == 0) == (aA == aC)) = false := by simpa using c9))
  (try (have bT : ¬ ((aD == 0) = (aA == aC)) := by simpa using c9))
  clear c9
  obtain rfl := Option.some.inj H
  go_enter Try.func181, Try.ntmps181
  go_wp2_with (first | ((with_reducible refine gD (N := 1) rfl ?_); refine bE (N := 1) (cs := #[aA, aD, aC, aG]) (t := 73) ?_; intro aH hg bY hbox hb; have aE := aM (hbox); have aI := gF hg HB; have aJ := gF hg HB; replace HB := rS HB hb; clear hb hbox hg; have bO := cA4 aE.out) | ((with_reducible refine gC (f := 80) rfl ?_); refine gL (some 5) Try.func80 #[aA, .int .i64 1, .int .i64 9] ?_; (with_reducible refine (spec_l1In.calls aA 1 9 true _ A2.out).mono ?_); rintro e w' ⟨rfl, ⟨nd, rfl⟩⟩; refine ⟨_, rfl, ?_⟩) | (go_at_call 80; (with_reducible refine (spec_l1In.calls aC 1 9 true _ A4.out).mono ?_); rintro e w' ⟨rfl, ⟨nd, rfl⟩⟩) | (go_at_call 80; (with_reducible refine (spec_l1In.calls aD 0 20 true _ A7.out).mono ?_); rintro e w' ⟨rfl, ⟨nd, rfl⟩⟩))
  go_ret
  exact ⟨xW, bl HB.out⟩
 rw [if_pos c9] at H
 have bG : ((aD == 0) == (aA == aC)) = true := c9
 (try (have bH : decide ((aD == 0) = (aA == aC)) = true := by simpa using c9))
 (try (have bI : ((aD == 0) == (aA == aC)) = true := by simpa using c9))
 clear c9
 obtain ⟨aT, aV, H⟩ := hB H
 have bJ := aM aV
 clear aV
 obtain rfl := Option.some.inj H
 go_enter Try.func181, Try.ntmps181
 go_wp2_with (first | ((with_reducible refine gD (N := 1) rfl ?_); refine bE (N := 1) (cs := #[aA, aD, aC, aG]) (t := 73) ?_; intro aH hg bZ hbox hb; have aE := aM (hbox); have aI := gF hg HB; have aJ := gF hg HB; replace HB := rS HB hb; clear hb hbox hg; have bP := cA4 aE.out) | ((with_reducible refine gC (f := 80) rfl ?_); refine gL (some 5) Try.func80 #[aA, .int .i64 1, .int .i64 9] ?_; (with_reducible refine (spec_l1In.calls aA 1 9 true _ A2.out).mono ?_); rintro e w' ⟨rfl, ⟨nd, rfl⟩⟩; refine ⟨_, rfl, ?_⟩) | (go_at_call 80; (with_reducible refine (spec_l1In.calls aC 1 9 true _ A4.out).mono ?_); rintro e w' ⟨rfl, ⟨nd, rfl⟩⟩) | (go_at_call 80; (with_reducible refine (spec_l1In.calls aD 0 20 true _ A7.out).mono ?_); rintro e w' ⟨rfl, ⟨nd, rfl⟩⟩) | (go_at_call 80; (with_reducible refine (spec_l1In.calls aG 0 3 aT _ bJ.out).mono ?_); rintro e w' ⟨rfl, ⟨nd, rfl⟩⟩))
 go_ret
 exact ⟨xW, bl HB.out⟩

end Go.Proofs.Ythmijfekdeagpaa.PFnFades

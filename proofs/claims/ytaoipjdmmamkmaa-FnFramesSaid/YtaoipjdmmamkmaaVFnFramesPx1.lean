/- A part of the proof of laws.FnFrames. No condition beyond what its theorems say. -/
import Derived.Test.YtaoipjdmmamkmaaVFnFramesPx0
namespace Go.Proofs.Ytaoipjdmmamkmaa.PFnFrames
open Go.RowKit Go.Proofs.YtaoipjdmmamkmaaW.PrintWords Go.Proofs.YtaoipjdmmamkmaaW.PrintLast Go.Proofs.YtaoipjdmmamkmaaW.PrintMore
set_option linter.unusedVariables false
set_option linter.unusedSimpArgs false

def laws_big.f (l0 : List Int) : Option (Bool) := some (decide ((l0.length : Int) > 1048576))
set_option maxHeartbeats 60000000 in
set_option maxRecDepth 100000 in
theorem laws_big.calls (A0 : Option Addr) (c0 : Nat) (l0 : List Int) (r : Bool) (w : World) (hr0 : Kd.C (Kd.int .u8) w A0 l0.length l0) (hc0 : l0.length ≤ c0) (h : laws_big.f l0 = some r) :
  Calls Try.prog 6 #[.slice A0 l0.length c0] w fun e w' => e = .returned (.bool r) ∧ Drawn0 w w' := by
 have aA := aM hr0
 have aC := aM hc0
 clear hr0 hc0
 have H : (some (decide ((l0.length : Int) > 1048576))) = some r := h
 clear h
 obtain rfl := Option.some.inj H
 go_enter Try.func6, Try.ntmps6
 go_wp2
 go_ret
 exact ⟨by first | rfl | (simp; done) | (simp [*]; done), by repeat (first | exact Drawn0.refl _ | apply Drawn0.step)⟩

/-- A state of type 91 at block g of W; what its slices lead to came in by w0. -/
def IsS91 (w0 W : World) (g : Nat) (f0 : List Int) (f1 f2 : Int) : Prop := ∃ A0 c0, W.heap[g]? = some (.cells #[.slice A0 f0.length c0, f1, f2] 91 (0, 0)) ∧ w0.heap.size ≤ g ∧ (Kd.C (Kd.int .u8) w0 A0 f0.length f0 ∧ f0.length ≤ c0)
theorem IsS91.grown {w0 W : World} {g : Nat} {f0 : List Int} {f1 : Int} {f2 : Int} {W1 : World} {row : Option Nat} (h : IsS91 w0 W g f0 f1 f2) (hw : W.grownBy W1 row) (hne : some g ≠ row) : IsS91 w0 W1 g f0 f1 f2 := by
 obtain ⟨A0, c0, hb, hg, hr0⟩ := h
 exact ⟨A0, c0, blk_grown hb hw hne, hg, hr0⟩
theorem IsS91.own_neN {w0 W : World} {g : Nat} {f0 : List Int} {f1 : Int} {f2 : Int} {α : Type} {d : Kd α} {e : Nat} {base : Nat} {ok : Nat → Prop} {v : Value} {xs : List α} (h : IsS91 w0 W g f0 f1 f2) (ho : Kd.N d e W base ok v xs) (ht : e ≠ 91) : some g ≠ v.ownBlock := by
 obtain ⟨A0, c0, hb, hg, hr0⟩ := h
 exact Kd.N_ne ho hb ht
theorem IsS91.fresh {w0 W : World} {g : Nat} {f0 : List Int} {f1 : Int} {f2 : Int} (h : IsS91 w0 W g f0 f1 f2) : ∀ k, W.heap.size ≤ k → k ≠ g := by
 obtain ⟨A0, c0, hb, hg, hr0⟩ := h
 exact Kd.freshB hb
theorem IsS91.kept {w0 W : World} {g : Nat} {f0 : List Int} {f1 : Int} {f2 : Int} {W1 : World} {S : Nat → Prop} (h : IsS91 w0 W g f0 f1 f2) (hk : Kept W W1 S) (hne : ¬ S g) : IsS91 w0 W1 g f0 f1 f2 := by
 obtain ⟨A0, c0, hb, hg, hr0⟩ := h
 exact ⟨A0, c0, blk_kept hb hk hne, hg, hr0⟩
theorem IsS91.below {w0 W : World} {g : Nat} {f0 : List Int} {f1 : Int} {f2 : Int} {W1 : World} (h : IsS91 w0 W g f0 f1 f2) (hw : Below W.heap.size W W1) : IsS91 w0 W1 g f0 f1 f2 := h.grown (grown_of_below hw none) (by simp)
theorem IsS91.alloc {w0 W : World} {g : Nat} {f0 : List Int} {f1 : Int} {f2 : Int} (h : IsS91 w0 W g f0 f1 f2) (o : Obj) : IsS91 w0 (W.alloc o) g f0 f1 f2 := h.below (below_alloc (Below.refl _ _) o)
theorem IsS91.drewN {w0 W : World} {g : Nat} {f0 : List Int} {f1 : Int} {f2 : Int} (h : IsS91 w0 W g f0 f1 f2) (m : Nat) : IsS91 w0 (W.drewN m) g f0 f1 f2 := h
theorem IsS91.drew {w0 W : World} {g : Nat} {f0 : List Int} {f1 : Int} {f2 : Int} (h : IsS91 w0 W g f0 f1 f2) : IsS91 w0 W.drew g f0 f1 f2 := h
theorem IsS91.at_ {w0 W : World} {g : Nat} {f0 : List Int} {f1 : Int} {f2 : Int} {w' : World} {m : Nat} (hq : W.drewN m = w') (h : IsS91 w0 W g f0 f1 f2) : IsS91 w0 w' g f0 f1 f2 := by subst hq; exact IsS91.drewN h m
theorem IsS91.apart {w0 W : World} {g : Nat} {f0 : List Int} {f1 : Int} {f2 : Int} {α : Type} {d : Kd α} {e : Nat} {base : Nat} {ok : Nat → Prop} {v : Value} {xs : List α} (h : IsS91 w0 W g f0 f1 f2) (ho : d.R e W base ok v xs) (ht : ∀ q, q ∈ e :: d.E → q ≠ 91) : d.R e W base (fun k => ok k ∧ k ≠ g) v xs := by
 obtain ⟨A0, c0, hb, hg, hr0⟩ := h
 exact Kd.R_types ho hb ht
theorem IsS91.own_ne {w0 W : World} {g : Nat} {f0 : List Int} {f1 : Int} {f2 : Int} {α : Type} {d : Kd α} {e : Nat} {base : Nat} {ok : Nat → Prop} {v : Value} {xs : List α} (h : IsS91 w0 W g f0 f1 f2) (ho : d.R e W base ok v xs) (ht : e ≠ 91) : some g ≠ v.ownBlock := by
 obtain ⟨A0, c0, hb, hg, hr0⟩ := h
 exact Kd.R_ne ho hb ht
theorem IsS91.apartQ {w0 W : World} {g : Nat} {f0 : List Int} {f1 : Int} {f2 : Int} {α : Type} {d : Kd α} {e : Nat} {base : Nat} {ok : Nat → Prop} {v : Value} {xs : List α} (h : IsS91 w0 W g f0 f1 f2) (ho : d.Q e W base ok v xs) (ht : ∀ q, q ∈ e :: d.E → q ≠ 91) : d.Q e W base (fun k => ok k ∧ k ≠ g) v xs := by
 obtain ⟨A0, c0, hb, hg, hr0⟩ := h
 exact Kd.Q_types ho hb ht
theorem IsS91.own_neQ {w0 W : World} {g : Nat} {f0 : List Int} {f1 : Int} {f2 : Int} {α : Type} {d : Kd α} {e : Nat} {base : Nat} {ok : Nat → Prop} {v : Value} {xs : List α} (h : IsS91 w0 W g f0 f1 f2) (ho : d.Q e W base ok v xs) (ht : e ≠ 91) : some g ≠ v.ownBlock := by
 obtain ⟨A0, c0, hb, hg, hr0⟩ := h
 exact Kd.Q_ne ho hb ht
theorem IsS91.apartS {w0 W : World} {g : Nat} {f0 : List Int} {f1 : Int} {f2 : Int} {α : Type} {d : Kd α} {e : Nat} {base : Nat} {ok : Nat → Prop} {v : Value} {xs : List α} (h : IsS91 w0 W g f0 f1 f2) (ho : d.S e W base ok v xs) (ht : ∀ q, q ∈ e :: d.E → q ≠ 91) : d.S e W base (fun k => ok k ∧ k ≠ g) v xs := by
 obtain ⟨A0, c0, hb, hg, hr0⟩ := h
 exact Kd.S_types ho hb ht
theorem IsS91.own_neS {w0 W : World} {g : Nat} {f0 : List Int} {f1 : Int} {f2 : Int} {α : Type} {d : Kd α} {e : Nat} {base : Nat} {ok : Nat → Prop} {v : Value} {xs : List α} (h : IsS91 w0 W g f0 f1 f2) (ho : d.S e W base ok v xs) (ht : e ≠ 91) : some g ≠ v.ownBlock := by
 obtain ⟨A0, c0, hb, hg, hr0⟩ := h
 exact Kd.S_ne ho hb ht
theorem IsS91.lt {w0 W : World} {g : Nat} {f0 : List Int} {f1 : Int} {f2 : Int} (h : IsS91 w0 W g f0 f1 f2) : g < W.heap.size := by
 obtain ⟨A0, c0, hb, hg, hr0⟩ := h
 exact blk_lt hb
theorem IsS91.ge {w0 W : World} {g : Nat} {f0 : List Int} {f1 : Int} {f2 : Int} (h : IsS91 w0 W g f0 f1 f2) : w0.heap.size ≤ g := by
 obtain ⟨A0, c0, hb, hg, hr0⟩ := h
 exact hg
theorem IsS91.ne_blk {w0 W : World} {g : Nat} {f0 : List Int} {f1 : Int} {f2 : Int} {a : Nat} {cs : Array Value} {t : TypeId} {fr : Nat × Nat} (h : IsS91 w0 W g f0 f1 f2) (hb2 : W.heap[a]? = some (.cells cs t fr)) (ht : t ≠ 91) : g ≠ a := by
 obtain ⟨A0, c0, hb, hg, hr0⟩ := h
 rintro rfl
 rw [hb] at hb2
 injection hb2 with hb2
 injection hb2 with _ ht2
 exact ht ht2.symm
theorem IsS91.far {w0 W : World} {g : Nat} {f0 : List Int} {f1 : Int} {f2 : Int} {p : Addr} (h : IsS91 w0 W g f0 f1 f2) (hne : g ≠ p.block) (u : Value) : IsS91 w0 (W.setCell p u) g f0 f1 f2 := by
 obtain ⟨A0, c0, hb, hg, hr0⟩ := h
 exact ⟨A0, c0, blk_far hb hne u, hg, hr0⟩
theorem cellS91_0 {W : World} {g : Nat} {A0 : Option Addr} {c0 : Nat} {f0 : List Int} {f1 : Int} {f2 : Int} (h : W.heap[g]? = some (.cells #[.slice A0 f0.length c0, f1, f2] 91 (0, 0))) : W.cell? ⟨g, 0, none⟩ = some (.slice A0 f0.length c0) := (bC h 0).trans rfl
theorem IsS91.put_0 {w0 W : World} {g : Nat} {f0 : List Int} {f1 : Int} {f2 : Int} {A_ : Option Addr} {c_ : Nat} {x_ : List Int} (h : IsS91 w0 W g f0 f1 f2) (hx_ : Kd.C (Kd.int .u8) w0 A_ x_.length x_ ∧ x_.length ≤ c_) : IsS91 w0 (W.setCell ⟨g, 0, none⟩ (.slice A_ x_.length c_)) g x_ f1 f2 := by
 obtain ⟨A0, c0, hb, hg, hr0⟩ := h
 exact ⟨A_, c_, by simpa using blk_set hb 0 (.slice A_ x_.length c_), hg, hx_⟩
theorem cellS91_1 {W : World} {g : Nat} {A0 : Option Addr} {c0 : Nat} {f0 : List Int} {f1 : Int} {f2 : Int} (h : W.heap[g]? = some (.cells #[.slice A0 f0.length c0, f1, f2] 91 (0, 0))) : W.cell? ⟨g, 1, none⟩ = some f1 := (bC h 1).trans rfl
theorem IsS91.set_1 {w0 W : World} {g : Nat} {f0 : List Int} {f1 : Int} {f2 : Int} (h : IsS91 w0 W g f0 f1 f2) (x : Int) : IsS91 w0 (W.setCell ⟨g, 1, none⟩ (.int .i64 x)) g f0 x f2 := by
 obtain ⟨A0, c0, hb, hg, hr0⟩ := h
 exact ⟨A0, c0, by simpa using blk_set hb 1 (.int .i64 x), hg, hr0⟩
theorem cellS91_2 {W : World} {g : Nat} {A0 : Option Addr} {c0 : Nat} {f0 : List Int} {f1 : Int} {f2 : Int} (h : W.heap[g]? = some (.cells #[.slice A0 f0.length c0, f1, f2] 91 (0, 0))) : W.cell? ⟨g, 2, none⟩ = some f2 := (bC h 2).trans rfl
theorem IsS91.set_2 {w0 W : World} {g : Nat} {f0 : List Int} {f1 : Int} {f2 : Int} (h : IsS91 w0 W g f0 f1 f2) (x : Int) : IsS91 w0 (W.setCell ⟨g, 2, none⟩ (.int .i64 x)) g f0 f1 x := by
 obtain ⟨A0, c0, hb, hg, hr0⟩ := h
 exact ⟨A0, c0, by simpa using blk_set hb 2 (.int .i64 x), hg, hr0⟩
theorem IsS91.new (w0 W : World) (A0 : Option Addr) (c0 : Nat) (f0 : List Int) (f1 f2 : Int) (hB : Below w0.heap.size w0 W) (hr0 : Kd.C (Kd.int .u8) w0 A0 f0.length f0 ∧ f0.length ≤ c0) : IsS91 w0 (W.alloc (.cells #[.slice A0 f0.length c0, f1, f2] 91)) W.heap.size f0 f1 f2 := ⟨A0, c0, by simpa using heap_alloc_new W _, hB.size, hr0⟩

theorem IsS91.mv {w0 W W' : World} {g : Nat} {f0 f0' : List Int} {f1 f1' : Int} {f2 f2' : Int} (h : IsS91 w0 W g f0 f1 f2) (hs : IsS91 w0 W g f0 f1 f2 → IsS91 w0 W' g f0' f1' f2' := by intro h; repeat (first | (with_reducible first | exact h | apply IsS91.alloc | apply IsS91.drewN | apply IsS91.drew | apply IsS91.set_1 | apply IsS91.set_2 | refine IsS91.far ?_ (Aside0.out (by assumption)) _) | exact h)) : IsS91 w0 W' g f0' f1' f2' := hs h
theorem IsS91.bl {B : Nat} {w0 W W' : World} (h : Below B w0 W) (hs : Below B w0 W → Below B w0 W' := by intro h; repeat (first | (with_reducible first | exact h | apply below_alloc | apply pw_below_drewN | apply below_drew1 | refine below_set ?_ (Aside0.out (by assumption)) | refine below_set ?_ (IsS91.ge (Aside0.out (by assumption)))) | exact h)) : Below B w0 W' := hs h
def spec_l1Byte.f (aD : List Int) (aC aA : Int) : Option (Int × Int × Int) := if aC < (aD.length : Int) then (if 0 ≤ aC then (some (Go.bits .and .i64 (wrap64 ((Go.bits .and .i64 (Go.bits .xor .i64 ((wrap64 ((wrap64 (aA * 6364136223846793005)) + 1442695040888963407)) / 8589934592) ((wrap64 ((wrap64 (aA * 6364136223846793005)) + 1442695040888963407)) / 35184372088832)) 255) + (wrap64 (rd aD aC)))) 255, wrap64 (aC + 1), wrap64 ((wrap64 (aA * 6364136223846793005)) + 1442695040888963407))) else (none)) else (some (Go.bits .and .i64 (Go.bits .xor .i64 ((wrap64 ((wrap64 (aA * 6364136223846793005)) + 1442695040888963407)) / 8589934592) ((wrap64 ((wrap64 (aA * 6364136223846793005)) + 1442695040888963407)) / 35184372088832)) 255, aC, wrap64 ((wrap64 (aA * 6364136223846793005)) + 1442695040888963407)))
set_option maxHeartbeats 60000000 in
set_option maxRecDepth 100000 in
theorem spec_l1Byte.calls (g : Nat) (aE : List Int) (aC aD r1 r2 r3 : Int) (w0 w : World) (hI : IsS91 w0 w g aE aC aD) (hB : Below w0.heap.size w0 w) (h : spec_l1Byte.f aE aC aD = some (r1, r2, r3)) :
  Calls Try.prog 82 #[.pointer (some ⟨g, 0, none⟩)] w fun e w' => e = .returned (.int .i64 r1) ∧ IsS91 w0 w' g aE r2 r3 ∧ Below w0.heap.size w0 w' ∧ KeepBut w w' g none := by
 have aG := aM hI
 have HK := aM (KeepBut.refl w g none)
 have HL := aM hB.size
 clear hI
 have HW0 := aM hB.size
 have HB := aM hB
 clear hB
 have H : (if aC < (aE.length : Int) then (if 0 ≤ aC then (some (Go.bits .and .i64 (wrap64 ((Go.bits .and .i64 (Go.bits .xor .i64 ((wrap64 ((wrap64 (aD * 6364136223846793005)) + 1442695040888963407)) / 8589934592) ((wrap64 ((wrap64 (aD * 6364136223846793005)) + 1442695040888963407)) / 35184372088832)) 255) + (wrap64 (rd aE aC)))) 255, wS aC, wrap64 ((wrap64 (aD * 6364136223846793005)) + 1442695040888963407))) else (none)) else (some (Go.bits .and .i64 (Go.bits .xor .i64 ((wrap64 ((wrap64 (aD * 6364136223846793005)) + 1442695040888963407)) / 8589934592) ((wrap64 ((wrap64 (aD * 6364136223846793005)) + 1442695040888963407)) / 35184372088832)) 255, aC, wrap64 ((wrap64 (aD * 6364136223846793005)) + 1442695040888963407)))) = some (r1, r2, r3) := h
 clear h
 by_cases c2 : aC < (aE.length : Int)
 case neg =>
  rw [if_neg c2] at H
  have aK := decide_eq_false c2
  clear c2
  simp only [Option.some.injEq, Prod.mk.injEq] at H
  obtain ⟨rfl, rfl, rfl⟩ := H
  obtain ⟨ASz5_0, cSz5_0, HGz5, hgz5, HSz5_0⟩ := aG.out
  have aT := cellS91_0 HGz5
  have aV := cellS91_1 HGz5
  have aW := cellS91_2 HGz5
  have aX := bF HGz5 1
  have bA := bF HGz5 2
  clear HGz5 hgz5
  go_enter Try.func82, Try.ntmps82
  go_wp2
  repeat (go_quiet (fail); try go_wp2)
  go_ret
  exact ⟨xW, IsS91.mv aG.out, IsS91.bl HB.out, km HK.out⟩
 rw [if_pos c2] at H
 have aK := decide_eq_true c2
 clear c2
 obtain ⟨bK, H⟩ := gI H
 simp only [Option.some.injEq, Prod.mk.injEq] at H
 obtain ⟨rfl, rfl, rfl⟩ := H
 obtain ⟨ASz4_0, cSz4_0, HGz4, hgz4, HSz4_0⟩ := aG.out
 have bD := cellS91_0 HGz4
 have bG := cellS91_1 HGz4
 have bH := cellS91_2 HGz4
 have bI := bF HGz4 1
 have bJ := bF HGz4 2
 clear HGz4 hgz4
 have aH : 0 ≤ (aC : Int) := dT
 have aI : aC < (aE.length : Int) := dT
 obtain ⟨aJ, aN, aA⟩ := Kd.at_int HSz4_0.1 aC aH aI
 cases aN
 have hn101_0 : aJ.block ≠ g := Nat.ne_of_lt (Nat.lt_of_lt_of_le (by have := World.block_lt_of_cell? _ _ aA; first | rwa [add_block] at this | exact this) (IsS91.ge aG.out))
 replace aA := pw_cell_below HB.out aA
 replace aA := (cell_far (p := ⟨g, 2, none⟩) (by first | (rw [add_block]; exact hn101_0) | (show (Addr.add _ _).block ≠ _; rw [add_block]; exact hn101_0) | exact hn101_0) (.int .i64 (wrap64 ((wrap64 (aD * 6364136223846793005)) + 1442695040888963407)))).trans aA
 (try have aQ := fun (n_ : Nat) => (show (((w.drewN n_).setCell ⟨g, 2, none⟩ (.int .i64 (wrap64 ((wrap64 (aD * 6364136223846793005)) + 1442695040888963407))))).cell? _ = some _ from aA))
 clear hn101_0
 replace aH := eq_true aH
 replace aI := eq_true aI
 go_enter Try.func82, Try.ntmps82
 go_wp2
 repeat (go_quiet (fail); try go_wp2)
 go_ret
 exact ⟨xW, IsS91.mv aG.out, IsS91.bl HB.out, km HK.out⟩

def spec_l1Below.f (aA : List Int) (aI aJ a1 : Int) : Option (Int × Int × Int) := if a1 ≤ 0 then (some (0, aI, aJ)) else (if a1 ≤ 256 then ((spec_l1Byte.f aA aI aJ).bind fun aC => (if a1 = 0 then (none) else (some (Int.tmod aC.1 a1, aC.2.1, aC.2.2)))) else ((spec_l1Byte.f aA aI aJ).bind fun aD => ((spec_l1Byte.f aA aD.2.1 aD.2.2).bind fun aE => ((spec_l1Byte.f aA aE.2.1 aE.2.2).bind fun aG => ((spec_l1Byte.f aA aG.2.1 aG.2.2).bind fun aH => (if a1 = 0 then (none) else (some (Int.tmod (wrap64 ((wrap64 ((wrap64 ((wrap64 (aD.1 * 16777216)) + (wrap64 (aE.1 * 65536)))) + (wrap64 (aG.1 * 256)))) + aH.1)) a1, aH.2.1, aH.2.2))))))))
set_option maxHeartbeats 60000000 in
set_option maxRecDepth 100000 in
theorem spec_l1Below.calls (g : Nat) (aA : List Int) (aD aE a1 r1 r2 r3 : Int) (w0 w : World) (hI : IsS91 w0 w g aA aD aE) (hB : Below w0.heap.size w0 w) (h : spec_l1Below.f aA aD aE a1 = some (r1, r2, r3)) :
  Calls Try.prog 64 #[.pointer (some ⟨g, 0, none⟩), a1] w fun e w' => e = .returned (.int .i64 r1) ∧ IsS91 w0 w' g aA r2 r3 ∧ Below w0.heap.size w0 w' ∧ KeepBut w w' g none := by
 have aC := aM hI
 have HK := aM (KeepBut.refl w g none)
 have HL := aM hB.size
 clear hI
 have HW0 := aM hB.size
 have HB := aM hB
 clear hB
 have H : (if a1 ≤ 0 then (some (0, aD, aE)) else (if a1 ≤ 256 then ((spec_l1Byte.f aA aD aE).bind fun aG => (if a1 = 0 then (none) else (some (Int.tmod aG.1 a1, aG.2.1, aG.2.2)))) else ((spec_l1Byte.f aA aD aE).bind fun aH => ((spec_l1Byte.f aA aH.2.1 aH.2.2).bind fun aI => ((spec_l1Byte.f aA aI.2.1 aI.2.2).bind fun aJ => ((spec_l1Byte.f aA aJ.2.1 aJ.2.2).bind fun aK => (if a1 = 0 then (none) else (some (Int.tmod (wrap64 ((wrap64 ((wrap64 ((wrap64 (aH.1 * 16777216)) + (wrap64 (aI.1 * 65536)))) + (wrap64 (aJ.1 * 256)))) + aK.1)) a1, aK.2.1, aK.2.2))))))))) = some (r1, r2, r3) := h
 clear h
 by_cases c3 : a1 ≤ 0
 case pos =>
  rw [if_pos c3] at H
  have bK := decide_eq_true c3
  clear c3
  simp only [Option.some.injEq, Prod.mk.injEq] at H
  obtain ⟨rfl, rfl, rfl⟩ := H
  go_enter Try.func64, Try.ntmps64
  go_wp2
  go_ret
  exact ⟨xW, IsS91.mv aC.out, IsS91.bl HB.out, km HK.out⟩
 rw [if_neg c3] at H
 have bK := decide_eq_false c3
 clear c3
 by_cases c4 : a1 ≤ 256
 case pos =>
  rw [if_pos c4] at H
  have bL := decide_eq_true c4
  clear c4
  obtain ⟨⟨bM, bN, bO⟩, bH, H⟩ := hB H
  try dsimp only at H
  have A5 := aM bH
  clear bH
  by_cases c6 : a1 = 0
  case pos =>
   rw [if_pos c6] at H
   exact absurd H (by simp)
  rw [if_neg c6] at H
  have cC : (a1 == 0) = false := beq_eq_false_iff_ne.mpr c6
  have cD : (a1 != 0) = true := bne_iff_ne.mpr c6
  simp only [Option.some.injEq, Prod.mk.injEq] at H
  obtain ⟨rfl, rfl, rfl⟩ := H
  go_enter Try.func64, Try.ntmps64
  go_wp2_with (first | ((with_reducible refine gC (f := 82) rfl ?_); refine gL (some 14) Try.func82 #[.pointer (some ⟨g, 0, none⟩)] ?_; (with_reducible refine (spec_l1Byte.calls g aA aD aE bM bN bO w0 _ ?side1 ?side2 A5.out).mono ?_); (case side1 => exact IsS91.mv aC.out); (case side2 => exact IsS91.bl HB.out); rintro e w7 ⟨rfl, hi, hb, hk⟩; refine ⟨_, rfl, ?_⟩; replace HK := aM (KeepBut.trans (km HK.out) hk (.inl rfl)); replace HB := aM (hb); replace aC := aM (hi); (repeat first|clear hb|clear hk|clear hi)))
  go_ret
  exact ⟨xW, IsS91.mv aC.out, IsS91.bl HB.out, km HK.out⟩
 rw [if_neg c4] at H
 have bL := decide_eq_false c4
 clear c4
 obtain ⟨⟨bP, aQ, aT⟩, bI, H⟩ := hB H
 try dsimp only at H
 have A8 := aM bI
 clear bI
 obtain ⟨⟨bQ, aV, aW⟩, bJ, H⟩ := hB H
 try dsimp only at H
 have A9 := aM bJ
 clear bJ
 obtain ⟨⟨bT, aX, bA⟩, bD, H⟩ := hB H
 try dsimp only at H
 have bX := aM bD
 clear bD
 obtain ⟨⟨bU, bV, bW⟩, bG, H⟩ := hB H
 try dsimp only at H
 have bY := aM bG
 clear bG
 by_cases aN : a1 = 0
 case pos =>
  rw [if_pos aN] at H
  exact absurd H (by simp)
 rw [if_neg aN] at H
 have bZ : (a1 == 0) = false := beq_eq_false_iff_ne.mpr aN
 have cA : (a1 != 0) = true := bne_iff_ne.mpr aN
 simp only [Option.some.injEq, Prod.mk.injEq] at H
 obtain ⟨rfl, rfl, rfl⟩ := H
 go_enter Try.func64, Try.ntmps64
 go_wp2_with (first | ((with_reducible refine gC (f := 82) rfl ?_); refine gL (some 18) Try.func82 #[.pointer (some ⟨g, 0, none⟩)] ?_; (with_reducible refine (spec_l1Byte.calls g aA aD aE bP aQ aT w0 _ ?side1 ?side2 A8.out).mono ?_); (case side1 => exact IsS91.mv aC.out); (case side2 => exact IsS91.bl HB.out); rintro e cE ⟨rfl, hi, hb, hk⟩; refine ⟨_, rfl, ?_⟩; replace HK := aM (KeepBut.trans (km HK.out) hk (.inl rfl)); replace HB := aM (hb); replace aC := aM (hi); (repeat first|clear hb|clear hk|clear hi)) | ((with_reducible refine gC (f := 82) rfl ?_); refine gL (some 20) Try.func82 #[.pointer (some ⟨g, 0, none⟩)] ?_; (with_reducible refine (spec_l1Byte.calls g aA aQ aT bQ aV aW w0 _ ?side1 ?side2 A9.out).mono ?_); (case side1 => exact IsS91.mv aC.out); (case side2 => exact IsS91.bl HB.out); rintro e cG ⟨rfl, hi, hb, hk⟩; refine ⟨_, rfl, ?_⟩; replace HK := aM (KeepBut.trans (km HK.out) hk (.inl rfl)); replace HB := aM (hb); replace aC := aM (hi); (repeat first|clear hb|clear hk|clear hi)) | ((with_reducible refine gC (f := 82) rfl ?_); refine gL (some 22) Try.func82 #[.pointer (some ⟨g, 0, none⟩)] ?_; (with_reducible refine (spec_l1Byte.calls g aA aV aW bT aX bA w0 _ ?side1 ?side2 bX.out).mono ?_); (case side1 => exact IsS91.mv aC.out); (case side2 => exact IsS91.bl HB.out); rintro e cH ⟨rfl, hi, hb, hk⟩; refine ⟨_, rfl, ?_⟩; replace HK := aM (KeepBut.trans (km HK.out) hk (.inl rfl)); replace HB := aM (hb); replace aC := aM (hi); (repeat first|clear hb|clear hk|clear hi)) | ((with_reducible refine gC (f := 82) rfl ?_); refine gL (some 24) Try.func82 #[.pointer (some ⟨g, 0, none⟩)] ?_; (with_reducible refine (spec_l1Byte.calls g aA aX bA bU bV bW w0 _ ?side1 ?side2 bY.out).mono ?_); (case side1 => exact IsS91.mv aC.out); (case side2 => exact IsS91.bl HB.out); rintro e cK ⟨rfl, hi, hb, hk⟩; refine ⟨_, rfl, ?_⟩; replace HK := aM (KeepBut.trans (km HK.out) hk (.inl rfl)); replace HB := aM (hb); replace aC := aM (hi); (repeat first|clear hb|clear hk|clear hi)))
 go_ret
 exact ⟨xW, IsS91.mv aC.out, IsS91.bl HB.out, km HK.out⟩

def spec_l2DrawRight.l0 : Nat → Int → List Int → Int → Int → Int → Int → Int → List Int → Option (Int × Int × Int × List Int × Int × Int)
 | 0, _, _, _, _, _, _, _, _ => none
 | k + 1, x4, aH, aJ, aK, aD, aE, aG, aC => (spec_l1Below.f aH aJ aK 4).bind fun aA => (if x4 < aA.1 then ((spec_l1Below.f aH aA.2.1 aA.2.2 256).bind fun aI => (if aC.length < 140737488355328 then (spec_l2DrawRight.l0 k (wrap64 (x4 + 1)) aH aI.2.1 aI.2.2 aD aE aG (aC ++ [(aI.1) % 256])) else (none))) else (some (aD, aE, aG, aC, aA.2.1, aA.2.2)))
def spec_l2DrawRight.f (k : Nat) (aA : List Int) (aG aH : Int) : Option (Int × Int × Int × List Int × Int × Int) := (spec_l1Below.f aA aG aH 5).bind fun aC => ((spec_l1Below.f aA aC.2.1 aC.2.2 4).bind fun aD => ((spec_l1Below.f aA aD.2.1 aD.2.2 3).bind fun aE => (spec_l2DrawRight.l0 k 0 aA aE.2.1 aE.2.2 aC.1 (wrap64 (1 + aD.1)) aE.1 ([] : List Int))))
theorem spec_l2DrawRight.mono_l : ∀ k, (∀ y0 y1 y2 y3 y4 y5 y6 y7, LeO (spec_l2DrawRight.l0 k y0 y1 y2 y3 y4 y5 y6 y7) (spec_l2DrawRight.l0 (k + 1) y0 y1 y2 y3 y4 y5 y6 y7))
 | 0 => fun _ _ _ _ _ _ _ _ r h => by simp [spec_l2DrawRight.l0] at h
 | k + 1 => by
  have ih0 := spec_l2DrawRight.mono_l k
  ·intro y0 y1 y2 y3 y4 y5 y6 y7
   unfold spec_l2DrawRight.l0
   repeat' first|(with_reducible first|apply ih0|exact lR _|exact lN _|refine lI ?_ ?_|refine lB ?_ fun _ => ?_)|exact lN _|refine lI ?_ ?_|refine lB ?_ fun _ => ?_
theorem spec_l2DrawRight.mono : ∀ a0 a1 a2 k, LeO (spec_l2DrawRight.f k a0 a1 a2) (spec_l2DrawRight.f (k + 1) a0 a1 a2) := by
 intro a0 a1 a2 k
 have ih0 := spec_l2DrawRight.mono_l k
 unfold spec_l2DrawRight.f
 repeat' first|(with_reducible first|apply ih0|exact lR _|exact lN _|refine lI ?_ ?_|refine lB ?_ fun _ => ?_)|exact lN _|refine lI ?_ ?_|refine lB ?_ fun _ => ?_
def spec_l2DrawRight.T5 : Bool × List (List Nat × List Nat) := (true, [([], []), ([0], [0]), ([], []), ([2], [2]), ([3], [3]), ([4], [4]), ([1, 5, 3], [1, 5]), ([0, 1, 2, 3, 4, 5, 6], []), ([7, 6, 6, 0, 1, 2, 3, 4, 5, 6], [6, 7])])
def spec_l2DrawRight.B5 : List Nat := [0, 1, 0, 4, 12, 28, 63, 127, 255]
theorem spec_l2DrawRight.tab5 : rtab .any (opsOf Try.f44 5) = spec_l2DrawRight.T5 := by kernel_rfl
theorem spec_l2DrawRight.bits5 : waitsOk spec_l2DrawRight.T5.2 spec_l2DrawRight.B5 = true := by kernel_rfl
set_option maxHeartbeats 60000000 in
set_option maxRecDepth 100000 in
theorem spec_l2DrawRight.calls (k g : Nat) (aG : List Int) (bH bI r1 r2 r3 : Int) (r4 : List Int) (r5 r6 : Int) (w0 w : World) (hI : IsS91 w0 w g aG bH bI) (hB : Below w0.heap.size w0 w) (h : spec_l2DrawRight.f k aG bH bI = some (r1, r2, r3, r4, r5, r6)) :
  Calls Try.prog 44 #[.pointer (some ⟨g, 0, none⟩)] w fun e w' => ∃ cW : Value, e = .returned (.agg #[r1, r2, r3, cW]) ∧ Kd.R (Kd.int .u8) 5 w' w.heap.size (fun _ => True) cW r4 ∧ IsS91 w0 w' g aG r5 r6 ∧ Below w0.heap.size w0 w' ∧ KeepBut w w' g none := by
 have eG := Try.underlying25
 have aE := aM hI
 have HK := aM (KeepBut.refl w g none)
 have HL := aM hB.size
 clear hI
 have HW0 := aM hB.size
 have HB := aM hB
 clear hB
 have H : ((spec_l1Below.f aG bH bI 5).bind fun bN => ((spec_l1Below.f aG bN.2.1 bN.2.2 4).bind fun bO => ((spec_l1Below.f aG bO.2.1 bO.2.2 3).bind fun bP => (spec_l2DrawRight.l0 k 0 aG bP.2.1 bP.2.2 bN.1 (wrap64 (1 + bO.1)) bP.1 ([] : List Int))))) = some (r1, r2, r3, r4, r5, r6) := h
 clear h
 obtain ⟨⟨aV, cG, cH⟩, cX, H⟩ := hB H
 try dsimp only at H
 have A2 := aM cX
 clear cX
 obtain ⟨⟨aT, cK, cL⟩, cY, H⟩ := hB H
 try dsimp only at H
 have A3 := aM cY
 clear cY
 obtain ⟨⟨aW, bQ, bT⟩, dA, H⟩ := hB H
 try dsimp only at H
 have A4 := aM dA
 clear dA
 have H' := aM H
 clear H
 go_enter Try.func44, Try.ntmps44
 go_wp2_with (first | ((with_reducible refine gD (N := 2) rfl ?_); refine bE (N := 2) (cs := #[.int .i64 0, .int .i64 0, .int .i64 0, .slice none 0 0]) (t := 25) ?_; intro bD hg w5 hbox hb; have aD := aM (hbox); have dP := gE hg (keep_size (km HK.out)); have dQ := gE2 HW0.out hg (keep_size (km HK.out)); have cE := nL hg (IsS91.lt (show IsS91 w0 _ g aG bH bI from IsS91.mv aE.out)); have aI := nG hg (IsS91.lt (show IsS91 w0 _ g aG bH bI from IsS91.mv aE.out)); replace aE := aM (IsS91.below (IsS91.mv aE.out) hb); replace HK := rU HK hb; replace HB := aM (bS (IsS91.bl HB.out) hb); clear hb hbox hg) | ((with_reducible refine gC (f := 64) rfl ?_); refine gL (some 6) Try.func64 #[.pointer (some ⟨g, 0, none⟩), .int .i64 5] ?_; (with_reducible refine (spec_l1Below.calls g aG bH bI 5 aV cG cH w0 _ ?side1 ?side2 A2.out).mono ?_); (case side1 => exact IsS91.mv aE.out); (case side2 => exact IsS91.bl HB.out); rintro e w6 ⟨rfl, hi, hb, hk⟩; refine ⟨_, rfl, ?_⟩; replace aD := rP hk aD aI; replace HK := aM (KeepBut.trans (km HK.out) hk (.inl rfl)); replace HB := aM (hb); replace aE := aM (hi); (repeat first|clear hb|clear hk|clear hi)) | ((with_reducible refine gC (f := 64) rfl ?_); refine gL (some 8) Try.func64 #[.pointer (some ⟨g, 0, none⟩), .int .i64 4] ?_; (with_reducible refine (spec_l1Below.calls g aG cG cH 4 aT cK cL w0 _ ?side1 ?side2 A3.out).mono ?_); (case side1 => exact IsS91.mv aE.out); (case side2 => exact IsS91.bl HB.out); rintro e w7 ⟨rfl, hi, hb, hk⟩; refine ⟨_, rfl, ?_⟩; replace aD := rP hk aD aI; replace HK := aM (KeepBut.trans (km HK.out) hk (.inl rfl)); replace HB := aM (hb); replace aE := aM (hi); (repeat first|clear hb|clear hk|clear hi)) | ((with_reducible refine gC (f := 64) rfl ?_); refine gL (some 11) Try.func64 #[.pointer (some ⟨g, 0, none⟩), .int .i64 3] ?_; (with_reducible refine (spec_l1Below.calls g aG cK cL 3 aW bQ bT w0 _ ?side1 ?side2 A4.out).mono ?_); (case side1 => exact IsS91.mv aE.out); (case side2 => exact IsS91.bl HB.out); rintro e w8 ⟨rfl, hi, hb, hk⟩; refine ⟨_, rfl, ?_⟩; replace aD := rP hk aD aI; replace HK := aM (KeepBut.trans (km HK.out) hk (.inl rfl)); replace HB := aM (hb); replace aE := aM (hi); (repeat first|clear hb|clear hk|clear hi)) | ((with_reducible refine gD (N := 3) rfl ?_); refine bE (N := 3) (cs := #[.int .i64 0, .int .i64 0, .int .i64 0, .slice none 0 0]) (t := 25) ?_; intro bK hg w9 hbox hb; have aA := aM (hbox); have dR := gE hg (keep_size (km HK.out)); have dS := gE2 HW0.out hg (keep_size (km HK.out)); have aX := nM hg aD; have bA := nH hg aD; have bL := nL hg (IsS91.lt (show IsS91 w0 _ g aG bQ bT from IsS91.mv aE.out)); have aQ := nG hg (IsS91.lt (show IsS91 w0 _ g aG bQ bT from IsS91.mv aE.out)); replace aE := aM (IsS91.below (IsS91.mv aE.out) hb); replace aD := rB aD hb; replace HK := rU HK hb; replace HB := aM (bS (IsS91.bl HB.out) hb); clear hb hbox hg; have dU := bA.out; have dV := aX.out; have dW := aQ.out; have dX := bL.out; have dY := cA4 aA.out))
 go_loopg [4] k (fun kq v4 w' => ∃ (bJ : Int) (aJ : Int) (aK : Int) (aH : List Int) (aN : Value), v4 = .int .i64 bJ ∧ Aside0 (spec_l2DrawRight.l0 kq bJ aG aJ aK aV (wrap64 (1 + aT)) aW aH = some (r1, r2, r3, r4, r5, r6)) ∧ Aside0 (kq ≤ k) ∧ Aside0 (Kd.R (Kd.int .u8) 5 w' w.heap.size (fun _ => True) aN aH) ∧ Aside0 (w'.heap[bD]? = some (.cells #[.int .i64 0, .int .i64 0, .int .i64 0, (.slice none 0 0)] 25 (0, 0))) ∧ Aside0 (w'.heap[bK]? = some (.cells #[aV, .int .i64 (wrap64 (1 + aT)), aW, aN] 25 (0, 0))) ∧ Aside0 (IsS91 w0 w' g aG aJ aK) ∧ Aside0 (KeepBut w w' g none) ∧ Aside0 (Below w0.heap.size w0 w'))
 case atStart => exact ⟨(0), (bQ), (bT), (([] : List Int)), (.slice none 0 0), xE, H', ⟨Nat.le_refl _⟩, ⟨by first | exact Kd.R_nil _ _ _ _ _ | exact Kd.N_nil _ _ _ _ _ | exact Kd.V_nil _ _ _ _ _ | exact Kd.Q_nil _ _ _ _ _ | exact Kd.S_nil _ _ _ _ _⟩, ⟨fm aD.out⟩, ⟨bm aA.out⟩, ⟨IsS91.mv aE.out⟩, ⟨km HK.out⟩, ⟨IsS91.bl HB.out⟩⟩
 case round =>
  clear H'
  repeat first|clear c1|clear p2|clear c4|clear c6|clear p6|clear eJ|clear eK
  obtain ⟨bJ, aJ, aK, aH, aN, rfl, HA, dB, aC, aD, aA, aE, HK, HB⟩ := hrel
  cases gk with
  | zero => exact absurd HA.out (by simp [spec_l2DrawRight.l0])
  | succ k1 =>
   have H := HA.out
   clear HA
   simp only [spec_l2DrawRight.l0] at H
   obtain ⟨⟨bY, bU, bV⟩, cN, H⟩ := hB H
   try dsimp only at H
   have dC := aM cN
   clear cN
   by_cases bM : bJ < bY
   case neg =>
    rw [if_neg bM] at H
    have cU := decide_eq_false bM
    clear bM
    simp only [Option.some.injEq, Prod.mk.injEq] at H
    obtain ⟨rfl, rfl, rfl, rfl, rfl, rfl⟩ := H
    go_wp2_with (first | ((with_reducible refine gC (f := 64) rfl ?_); refine gL (some 15) Try.func64 #[.pointer (some ⟨g, 0, none⟩), .int .i64 4] ?_; (with_reducible refine (spec_l1Below.calls g aG aJ aK 4 bY bU bV w0 _ ?side1 ?side2 dC.out).mono ?_); (case side1 => exact IsS91.mv aE.out); (case side2 => exact IsS91.bl HB.out); rintro e dM ⟨rfl, hi, hb, hk⟩; refine ⟨_, rfl, ?_⟩; replace aC := aM (Kd.R_mono (Kd.R_keep (IsS91.apart (show IsS91 w0 _ g aG aJ aK from IsS91.mv aE.out) (kr aC.out) (by decide)) hk (fun _ h => h.2)) (fun _ h => h.1)); replace aD := rP hk aD aI; replace aA := rP hk aA aQ; replace HK := aM (KeepBut.trans (km HK.out) hk (.inl rfl)); replace HB := aM (hb); replace aE := aM (hi); (repeat first|clear hb|clear hk|clear hi); have dZ := bA.out; have eA := aX.out; have eB := aQ.out; have eC := bL.out; have dE := cI aA.out 0; have dF : dM.cell? ⟨bK, 1, none⟩ = some (.int .i64 (wrap64 (1 + aT))) := cI aA.out 1; have dG := cI aA.out 2; have dH := cI aA.out 3; have dI := bF aA.out 0; have dJ := bF aA.out 1; have dK := bF aA.out 2; have dL := bF aA.out 3; have eD := aI.out; have eE := cE.out; have eF := cA4 aD.out; obtain ⟨cO, cP, dD⟩ := Kd.R_slice aC.out; subst dD))
    refine bodyPost_ret (results_cell_row rfl _ _ bD 25 #[aV, .int .i64 (wrap64 (1 + aT)), aW, .slice cO aH.length cP] (0, 0) _ rfl (bm aD.out) Try.underlying25 rfl (by kernel_rfl)) rfl ?_
    exact ⟨_, xW, by (with_reducible repeat (first | apply Kd.R_alloc | apply Kd.R_drewN | apply Kd.R_drew)); exact Kd.R_mono (kF (p := ⟨bD, 3, none⟩) (kF (p := ⟨bD, 2, none⟩) (kF (p := ⟨bD, 1, none⟩) (kF (p := ⟨bD, 0, none⟩) (Kd.R_types aC.out aD.out (by decide)) (fun _ hk => hk.2) (.int .i64 aV)) (fun _ hk => hk.2) (.int .i64 (wrap64 (1 + aT)))) (fun _ hk => hk.2) (.int .i64 aW)) (fun _ hk => hk.2) (.slice cO aH.length cP)) (fun _ hk => trivial), IsS91.mv aE.out, IsS91.bl HB.out, km HK.out⟩
   rw [if_pos bM] at H
   have cU := decide_eq_true bM
   clear bM
   obtain ⟨⟨bW, bZ, cA⟩, cQ, H⟩ := hB H
   try dsimp only at H
   have dN := aM cQ
   clear cQ
   by_cases cC : aH.length < 140737488355328
   case neg =>
    rw [if_neg cC] at H
    exact absurd H (by simp)
   rw [if_pos cC] at H
   have LMc16 := aM cC
   clear cC
   obtain ⟨bX, bG⟩ : ∃ y_ : List Int, y_ = (aH ++ [(bW) % 256]) := ⟨_, rfl⟩
   replace H : (spec_l2DrawRight.l0 k1 (wS bJ) aG bZ cA aV (wrap64 (1 + aT)) aW bX) = some (r1, r2, r3, r4, r5, r6) := by first | (rw [bG]; with_reducible exact H) | (have H2_ := (Option.bind_some _ _).symm.trans H; rw [bG]; with_reducible exact H2_) | (have H2_ := (Option.bind_some _ _).symm.trans H; with_reducible exact H2_) | with_reducible exact H | (rw [bG]; exact H) | exact H
   have cV := aM bG
   clear bG
   have H' := aM H
   clear H
   try go_wp2_with (first | ((with_reducible refine gC (f := 64) rfl ?_); refine gL (some 15) Try.func64 #[.pointer (some ⟨g, 0, none⟩), .int .i64 4] ?_; (with_reducible refine (spec_l1Below.calls g aG aJ aK 4 bY bU bV w0 _ ?side1 ?side2 dC.out).mono ?_); (case side1 => exact IsS91.mv aE.out); (case side2 => exact IsS91.bl HB.out); rintro e dO ⟨rfl, hi, hb, hk⟩; refine ⟨_, rfl, ?_⟩; replace aC := aM (Kd.R_mono (Kd.R_keep (IsS91.apart (show IsS91 w0 _ g aG aJ aK from IsS91.mv aE.out) (kr aC.out) (by decide)) hk (fun _ h => h.2)) (fun _ h => h.1)); replace aD := rP hk aD aI; replace aA := rP hk aA aQ; replace HK := aM (KeepBut.trans (km HK.out) hk (.inl rfl)); replace HB := aM (hb); replace aE := aM (hi); (repeat first|clear hb|clear hk|clear hi)))
   replace aC := aM (Kd.R_drew aC.out)
   replace aD := aM (blk_drew aD.out)
   replace aA := aM (blk_drew aA.out)
   replace aE := aM (IsS91.drew aE.out)
   replace HK := aM (keep_drew HK.out)
   replace HB := aM (below_drew1 HB.out)
   refine start_ (n := 9) (S := fun w' => cS4 w' bK (.int .i64 aV) (.int .i64 (wrap64 (1 + aT))) (.int .i64 aW) (aN)) (ds := [8]) (dn 9 0) (by kernel_rfl) rfl rfl ⟨cI aA.out 0, cI aA.out 1, cI aA.out 2, cI aA.out 3⟩ (fun hHeld => ?_); refine with_tabW spec_l2DrawRight.tab5 spec_l2DrawRight.bits5 (fun HT_ HW_ => ?_)
   generalize dO.drew = eL at aC aD aA aE HK HB hHeld ⊢
   refine nY (N := some 19) HT_ ?_
   refine pZ 2 21 (bv 9 5) HT_ ?_
   refine aZ 1 20 (bv 9 7) HT_ HW_ hHeld ?_
   refine one_ (i := 3) (N := some 22) (bv 9 15) rfl rfl (one_of HT_.out (by kernel_rfl)) (by decide) (fun K hK => ?_)
   refine goes_ Try.func64 (by kernel_rfl) rfl #[.pointer (some ⟨g, 0, none⟩), .int .i64 256] (by rfl) rfl rfl xR ?_
   with_reducible refine (spec_l1Below.calls g aG bU bV 256 bW bZ cA w0 _ ?side1 ?side2 dN.out).mono ?_
   (case side1 => exact IsS91.mv aE.out)
   (case side2 => exact IsS91.bl HB.out)
   rintro e eM ⟨rfl, hi, hb, hk⟩
   refine ⟨_, rfl, ?_⟩
   replace aC := aM (Kd.R_mono (Kd.R_keep (IsS91.apart (show IsS91 w0 _ g aG bU bV from IsS91.mv aE.out) (kr aC.out) (by decide)) hk (fun _ h => h.2)) (fun _ h => h.1))
   replace aD := rP hk aD aI
   replace aA := rP hk aA aQ
   replace HK := aM (KeepBut.trans (km HK.out) hk (.inl rfl))
   replace HB := aM (hb)
   replace aE := aM (hi)
   (try clear hb)
   (try clear hb2)
   (try clear hk)
   (try clear hi)
   refine hK.out _ _ ⟨cI aA.out 0, cI aA.out 1, cI aA.out 2, cI aA.out 3⟩ (fun hHeld => ?_)
   clear hK K
   refine norm_ (a' := ?_) ?_ ?_
   rotate_left
   ·show Act.put _ (some 22) _ = _
    simp only [Act.put, sA, sZ, sS, i64_w, i32_w]
    rfl
   refine pZ 4 23 (bv 9 31) HT_ ?_
   refine one_ (i := 5) (N := some 24) (bv 9 63) rfl rfl (one_of HT_.out (by kernel_rfl)) (by decide) (fun K hK => ?_)
   refine value_ (w1 := ?_) (v := ?_) (by rfl) rfl ?_ ?_
   rotate_left 2
   ·go_simp
    constructor
    ·rfl
    ·rfl
   refine hK.out _ _ ⟨(bC (blk_alloc aA.out _) 0).trans rfl, (bC (blk_alloc aA.out _) 1).trans rfl, (bC (blk_alloc aA.out _) 2).trans rfl, (bC (blk_alloc aA.out _) 3).trans rfl⟩ (fun hHeld => ?_)
   clear hK K
   refine norm_ (a' := ?_) ?_ ?_
   rotate_left
   ·show Act.put _ (some 24) _ = _
    simp only [Act.put, sA, sZ, sS, i64_w, i32_w]
    rfl
   refine one_ (i := 6) (N := some 25) (bv 9 127) rfl rfl (one_of HT_.out (by kernel_rfl)) (by decide) (fun K hK => ?_)
   refine Kd.R_append_step (Kd.int .u8) w.heap.size (by rfl) (.tmp 20) (.tmp 24) 22 5 (.int .u8 0) 1 rfl Try.underlying22 info5 rfl (by decide) (by omega) aN aH ((bW) % 256) [.int .u8 ((bW) % 256)] (fun _ => True) (fun _ => False) rfl rfl ?aP (fun _ hk => hk.elim) ?aF ?aO (Below.refl _ _) ?aS ?aL ?_
   (case aP => exact rfl)
   (case aF => exact (fun _ _ => trivial))
   (case aO => exact (kr aC.out))
   (case aS => exact (keep_size (km HK.out)))
   (case aL => have := LMc16.out; omega)
   intro eH eN ho hb hg hat
   rw [← cV.out] at ho
   have cD := aM (ho)
   replace aD := aM (blk_grown (bk aD.out) hg (Kd.R_ne aC.out aD.out (by decide)))
   replace aA := aM (blk_grown (bk aA.out) hg (Kd.R_ne aC.out aA.out (by decide)))
   replace aE := aM (IsS91.grown (IsS91.mv aE.out) hg (IsS91.own_ne aE.out aC.out (by decide)))
   replace HB := aM (below_weaken (IsS91.bl HB.out) HL.out hb)
   replace HK := aM (KeepBut.trans (km HK.out) (KeepBut.of_grown hg g) (Kd.R_base2 aC.out))
   clear aC
   clear ho hb hg hat
   obtain ⟨cR, cS, cT⟩ := Kd.R_slice cD.out
   (first | subst cT | (injection cT with f1_ f2_ f3_; have f4_ := f1_.symm; have f5_ := f3_.symm; clear f1_ f2_ f3_; subst f4_; subst f5_))
   refine hK.out _ _ ⟨cI aA.out 0, cI aA.out 1, cI aA.out 2, cI aA.out 3⟩ (fun hHeld => ?_)
   clear hK K
   refine norm_ (a' := ?_) ?_ ?_
   rotate_left
   ·show Act.put _ (some 25) _ = _
    simp only [Act.put, sA, sZ, sS, i64_w, i32_w]
    rfl
   refine pZ 7 26 (bv 9 255) HT_ ?_
   refine last_ (i := 8) (N := none) (bv 9 511) rfl rfl (one_of HT_.out (by kernel_rfl)) (by decide) (fun K hK => ?_)
   have eI := cI aA.out 3
   have hfs22 := bF aA.out 3
   have hns22_0 := aX.out
   have hms22_0 := bA.out
   refine skip_ (w1 := ?_) (by rfl) rfl ?_ ?_
   rotate_left
   ·go_simp
    rfl
   refine hK.out _ _ ?_
   clear hK K
   refine done_ (done_of HT_.out (by kernel_rfl)) ?_
   try go_wp2
   go_roundg k1
   case measure => have := dB.out; omega
   case rel => exact ⟨(wS bJ), (bZ), (cA), (bX), (.slice cR bX.length cS), xE, H', ⟨by have := dB.out; omega⟩, ⟨kr (Kd.R_mono (kF (p := ⟨bK, 3, none⟩) (Kd.R_types cD.out aA.out (by decide)) (fun _ hk => hk.2) (.slice cR bX.length cS)) (fun _ hk => trivial))⟩, ⟨fm aD.out⟩, ⟨by (with_reducible repeat (first | refine blk_drewN ?_ _ | refine blk_drew ?_ | refine blk_alloc ?_ _)); refine blk_put (cs := #[aV, .int .i64 (wrap64 (1 + aT)), aW, aN]) ?_ 3 _ rfl; (with_reducible repeat (first | refine blk_drewN ?_ _ | refine blk_drew ?_ | refine blk_alloc ?_ _)); exact aA.out⟩, ⟨IsS91.mv aE.out⟩, ⟨km HK.out⟩, ⟨IsS91.bl HB.out⟩⟩

def spec_l1PickInt.f (aC : List Int) (aD aE : Int) (l1 : List Int) : Option (Int × Int × Int) := (spec_l1Below.f aC aD aE (l1.length : Int)).bind fun aA => (if 0 ≤ aA.1 then (if aA.1 < (l1.length : Int) then (some (rd l1 aA.1, aA.2.1, aA.2.2)) else (none)) else (none))
set_option maxHeartbeats 60000000 in
set_option maxRecDepth 100000 in
theorem spec_l1PickInt.calls (g : Nat) (aC : List Int) (aE aG : Int) (A1 : Option Addr) (c1 : Nat) (l1 : List Int) (r1 r2 r3 : Int) (w0 w : World) (hI : IsS91 w0 w g aC aE aG) (hB : Below w0.heap.size w0 w) (hr1 : Kd.C (Kd.int .i64) w A1 l1.length l1) (hc1 : l1.length ≤ c1) (aK : ∀ ad, A1 = some ad → 0 < l1.length → ad.block ≠ g) (h : spec_l1PickInt.f aC aE aG l1 = some (r1, r2, r3)) :
  Calls Try.prog 60 #[.pointer (some ⟨g, 0, none⟩), .slice A1 l1.length c1] w fun e w' => e = .returned (.int .i64 r1) ∧ IsS91 w0 w' g aC r2 r3 ∧ Below w0.heap.size w0 w' ∧ KeepBut w w' g none := by
 have bA := aM hr1
 have bH := aM hc1
 clear hr1 hc1
 have aN := aM hI
 have HK := aM (KeepBut.refl w g none)
 have HL := aM hB.size
 clear hI
 have HW0 := aM hB.size
 have HB := aM hB
 clear hB
 have H : ((spec_l1Below.f aC aE aG (l1.length : Int)).bind fun aA => (if 0 ≤ aA.1 then (if aA.1 < (l1.length : Int) then (some (rd l1 aA.1, aA.2.1, aA.2.2)) else (none)) else (none))) = some (r1, r2, r3) := h
 clear h
 obtain ⟨⟨aH, aV, aW⟩, aT, H⟩ := hB H
 try dsimp only at H
 have A3 := aM aT
 clear aT
 obtain ⟨bD, H⟩ := gI H
 obtain ⟨bG, H⟩ := gI H
 simp only [Option.some.injEq, Prod.mk.injEq] at H
 obtain ⟨rfl, rfl, rfl⟩ := H
 go_enter Try.func60, Try.ntmps60
 go_wp2_with (first | ((with_reducible refine gC (f := 64) rfl ?_); refine gL (some 9) Try.func64 #[.pointer (some ⟨g, 0, none⟩), .int .i64 (l1.length : Int)] ?_; (with_reducible refine (spec_l1Below.calls g aC aE aG (l1.length : Int) aH aV aW w0 _ ?side1 ?side2 A3.out).mono ?_); (case side1 => exact IsS91.mv aN.out); (case side2 => exact IsS91.bl HB.out); rintro e w6 ⟨rfl, hi, hb, hk⟩; refine ⟨_, rfl, ?_⟩; replace HK := aM (KeepBut.trans (km HK.out) hk (.inl rfl)); replace HB := aM (hb); replace aN := aM (hi); (repeat first|clear hb|clear hk|clear hi); have aI : 0 ≤ (aH : Int) := dT; have aJ : aH < (l1.length : Int) := dT; obtain ⟨aQ, aX, aD⟩ := Kd.at_int bA.out aH aI aJ; cases aX; replace aD := keep_cell HK.out aD (by first | (rw [add_block]; exact aK _ rfl (by omega)) | exact aK _ rfl (by omega) | exact aK aQ rfl (by omega)); replace aI := eq_true aI; replace aJ := eq_true aJ))
 go_ret
 exact ⟨xW, IsS91.mv aN.out, IsS91.bl HB.out, km HK.out⟩

def spec_l2Draw.f (k : Nat) (aE : List Int) (aJ aK : Int) : Option (Int × Int × Int × List Int × Int × Int) := (spec_l2DrawRight.f k aE aJ aK).bind fun aA => ((spec_l1Below.f aE aA.2.2.2.2.1 aA.2.2.2.2.2 10).bind fun aC => (if aC.1 = 0 then ((spec_l1PickInt.f aE aC.2.1 aC.2.2 (([(-1), 9, 10] : List Int))).bind fun aG => (some (aG.1, aA.2.1, aA.2.2.1, aA.2.2.2.1, aG.2.1, aG.2.2))) else (if aC.1 = 1 then ((spec_l1PickInt.f aE aC.2.1 aC.2.2 (([0, 9, 10] : List Int))).bind fun aH => (some (aA.1, aH.1, aA.2.2.1, aA.2.2.2.1, aH.2.1, aH.2.2))) else (if aC.1 = 2 then ((spec_l1PickInt.f aE aC.2.1 aC.2.2 (([(-1), 4, 5] : List Int))).bind fun aI => (some (aA.1, aA.2.1, aI.1, aA.2.2.2.1, aI.2.1, aI.2.2))) else (if aC.1 = 3 then ((spec_l1Below.f aE aC.2.1 aC.2.2 2).bind fun aD => (if 0 ≤ (wrap64 (30 + aD.1)) then (if (wrap64 (30 + aD.1) : Int).toNat ≤ 281474976710656 then (some (aA.1, aA.2.1, aA.2.2.1, (List.replicate (wrap64 (30 + aD.1) : Int).toNat 0), aD.2.1, aD.2.2)) else (none)) else (none))) else (some (aA.1, aA.2.1, aA.2.2.1, aA.2.2.2.1, aC.2.1, aC.2.2)))))))
theorem spec_l2Draw.mono : ∀ a0 a1 a2 k, LeO (spec_l2Draw.f k a0 a1 a2) (spec_l2Draw.f (k + 1) a0 a1 a2) := by
 intro a0 a1 a2 k
 unfold spec_l2Draw.f
 repeat' first|(with_reducible first|apply spec_l2DrawRight.mono|exact lR _|exact lN _|refine lI ?_ ?_|refine lB ?_ fun _ => ?_)|exact lN _|refine lI ?_ ?_|refine lB ?_ fun _ => ?_
set_option maxHeartbeats 60000000 in
set_option maxRecDepth 100000 in
theorem spec_l2Draw.calls (k g : Nat) (aG : List Int) (bK bL r1 r2 r3 : Int) (r4 : List Int) (r5 r6 : Int) (w0 w : World) (hI : IsS91 w0 w g aG bK bL) (hB : Below w0.heap.size w0 w) (h : spec_l2Draw.f k aG bK bL = some (r1, r2, r3, r4, r5, r6)) :
  Calls Try.prog 39 #[.pointer (some ⟨g, 0, none⟩)] w fun e w' => ∃ eD : Value, e = .returned (.agg #[r1, r2, r3, eD]) ∧ Kd.R (Kd.int .u8) 5 w' w.heap.size (fun _ => True) eD r4 ∧ IsS91 w0 w' g aG r5 r6 ∧ Below w0.heap.size w0 w' ∧ KeepBut w w' g none := by
 have iD := Try.underlying25
 have aD := aM hI
 have HK := aM (KeepBut.refl w g none)
 have HL := aM hB.size
 clear hI
 have HW0 := aM hB.size
 have HB := aM hB
 clear hB
 have H : ((spec_l2DrawRight.f k aG bK bL).bind fun bD => ((spec_l1Below.f aG bD.2.2.2.2.1 bD.2.2.2.2.2 10).bind fun bM => (if bM.1 = 0 then ((spec_l1PickInt.f aG bM.2.1 bM.2.2 (([(-1), 9, 10] : List Int))).bind fun bU => (some (bU.1, bD.2.1, bD.2.2.1, bD.2.2.2.1, bU.2.1, bU.2.2))) else (if bM.1 = 1 then ((spec_l1PickInt.f aG bM.2.1 bM.2.2 (([0, 9, 10] : List Int))).bind fun bV => (some (bD.1, bV.1, bD.2.2.1, bD.2.2.2.1, bV.2.1, bV.2.2))) else (if bM.1 = 2 then ((spec_l1PickInt.f aG bM.2.1 bM.2.2 (([(-1), 4, 5] : List Int))).bind fun bW => (some (bD.1, bD.2.1, bW.1, bD.2.2.2.1, bW.2.1, bW.2.2))) else (if bM.1 = 3 then ((spec_l1Below.f aG bM.2.1 bM.2.2 2).bind fun bX => (if 0 ≤ (wrap64 (30 + bX.1)) then (if (wrap64 (30 + bX.1) : Int).toNat ≤ 281474976710656 then (some (bD.1, bD.2.1, bD.2.2.1, (List.replicate (wrap64 (30 + bX.1) : Int).toNat 0), bX.2.1, bX.2.2)) else (none)) else (none))) else (some (bD.1, bD.2.1, bD.2.2.1, bD.2.2.2.1, bM.2.1, bM.2.2)))))))) = some (r1, r2, r3, r4, r5, r6) := h
 clear h
 obtain ⟨⟨aN, aQ, aT, aV, aW, aX⟩, eE, H⟩ := hB H
 try dsimp only at H
 have A2 := aM eE
 clear eE
 obtain ⟨⟨bA, bI, bJ⟩, eF, H⟩ := hB H
 try dsimp only at H
 have A3 := aM eF
 clear eF
 by_cases c4 : bA = 0
 case pos =>
  rw [if_pos c4] at H
  have eI : (bA == 0) = true := beq_iff_eq.mpr c4
  have eJ : (bA != 0) = false := bne_eq_false_iff_eq.mpr c4
  clear c4
  obtain ⟨dE, bY⟩ : ∃ y_ : List Int, y_ = (([(-1), 9, 10] : List Int)) := ⟨_, rfl⟩
  replace H : ((spec_l1PickInt.f aG bI bJ dE).bind fun bU => (some (bU.1, aQ, aT, aV, bU.2.1, bU.2.2))) = some (r1, r2, r3, r4, r5, r6) := by first | (rw [bY]; with_reducible exact H) | (have H2_ := (Option.bind_some _ _).symm.trans H; rw [bY]; with_reducible exact H2_) | (have H2_ := (Option.bind_some _ _).symm.trans H; with_reducible exact H2_) | with_reducible exact H | (rw [bY]; exact H) | exact H
  have dM := aM bY
  clear bY
  obtain ⟨⟨cO, eK, eL⟩, eG, H⟩ := hB H
  try dsimp only at H
  have A5 := aM eG
  clear eG
  simp only [Option.some.injEq, Prod.mk.injEq] at H
  obtain ⟨rfl, rfl, rfl, rfl, rfl, rfl⟩ := H
  go_enter Try.func39, Try.ntmps39
  go_wp2_with (first | ((with_reducible refine gD (N := 2) rfl ?_); refine box_event ?hg (N := 2) ?hd (cs := #[.int .i64 0, .int .i64 0, .int .i64 0, .slice none 0 0]) (t := 25) ?hr ?_; (case hd => rfl); (case hg => rfl); (case hr => first | (go_simp; done) | (go_simp; rfl) | (obtain ⟨A_, c_, e_⟩ := Kd.R_slice aC.out; subst e_; (first | (go_simp; done) | (go_simp; rfl))) | (obtain ⟨A_, c_, e_⟩ := Kd.S_slice aC.out; subst e_; (first | (go_simp; done) | (go_simp; rfl))) | (obtain ⟨A_, c_, e_⟩ := Kd.R_slice bP.out; subst e_; (first | (go_simp; done) | (go_simp; rfl))) | (obtain ⟨A_, c_, e_⟩ := Kd.S_slice bP.out; subst e_; (first | (go_simp; done) | (go_simp; rfl)))); intro aJ hg w6 hbox hb; have aA := aM (hbox); have cD := gE hg (keep_size (km HK.out)); have cE := gE2 HW0.out hg (keep_size (km HK.out)); have bN := nL hg (IsS91.lt (show IsS91 w0 _ g aG bK bL from IsS91.mv aD.out)); have aI := nG hg (IsS91.lt (show IsS91 w0 _ g aG bK bL from IsS91.mv aD.out)); replace aD := aM (IsS91.below (IsS91.mv aD.out) hb); replace HK := rU HK hb; replace HB := aM (bS (IsS91.bl HB.out) hb); clear hb hbox hg) | ((with_reducible refine gC (f := 44) rfl ?_); refine gL (some 5) Try.func44 #[.pointer (some ⟨g, 0, none⟩)] ?_; (with_reducible refine (spec_l2DrawRight.calls k g aG bK bL aN aQ aT aV aW aX w0 _ ?side1 ?side2 A2.out).mono ?_); (case side1 => exact IsS91.mv aD.out); (case side2 => exact IsS91.bl HB.out); rintro e w7 ⟨cP, rfl, ho0, hi, hb, hk⟩; refine ⟨_, rfl, ?_⟩; have aC := aM (Kd.R_lower ho0 (keep_size (km HK.out))); replace aA := rP hk aA aI; replace HK := aM (KeepBut.trans (km HK.out) hk (.inl rfl)); replace HB := aM (hb); replace aD := aM (hi); (repeat first|clear hb|clear hk|clear hi|clear ho0)) | ((with_reducible refine gD (N := 3) rfl ?_); refine box_event ?hg (N := 3) ?hd (cs := #[.int .i64 0, .int .i64 0, .int .i64 0, .slice none 0 0]) (t := 25) ?hr ?_; (case hd => rfl); (case hg => rfl); (case hr => first | (go_simp; done) | (go_simp; rfl) | (obtain ⟨A_, c_, e_⟩ := Kd.R_slice aC.out; subst e_; (first | (go_simp; done) | (go_simp; rfl))) | (obtain ⟨A_, c_, e_⟩ := Kd.S_slice aC.out; subst e_; (first | (go_simp; done) | (go_simp; rfl))) | (obtain ⟨A_, c_, e_⟩ := Kd.R_slice bP.out; subst e_; (first | (go_simp; done) | (go_simp; rfl))) | (obtain ⟨A_, c_, e_⟩ := Kd.S_slice bP.out; subst e_; (first | (go_simp; done) | (go_simp; rfl)))); intro aH hg w8 hbox hb; have aE := aM (hbox); have cG := gE hg (keep_size (km HK.out)); have cH := gE2 HW0.out hg (keep_size (km HK.out)); have bG := nM hg aA; have bH := nH hg aA; have bO := nL hg (IsS91.lt (show IsS91 w0 _ g aG aW aX from IsS91.mv aD.out)); have aK := nG hg (IsS91.lt (show IsS91 w0 _ g aG aW aX from IsS91.mv aD.out)); replace aC := rK aC hb; replace aD := aM (IsS91.below (IsS91.mv aD.out) hb); replace aA := rB aA hb; replace HK := rU HK hb; replace HB := aM (bS (IsS91.bl HB.out) hb); clear hb hbox hg; have iE := bH.out; have iF := bG.out; have fH := aK.out; have fI := bO.out; have fK := cA4 aE.out; obtain ⟨cQ, cR, eM⟩ := Kd.R_slice aC.out; subst eM) | ((with_reducible refine gC (f := 64) rfl ?_); refine gL (some 7) Try.func64 #[.pointer (some ⟨g, 0, none⟩), .int .i64 10] ?_; (with_reducible refine (spec_l1Below.calls g aG aW aX 10 bA bI bJ w0 _ ?side1 ?side2 A3.out).mono ?_); (case side1 => exact IsS91.mv aD.out); (case side2 => exact IsS91.bl HB.out); rintro e iK ⟨rfl, hi, hb, hk⟩; refine ⟨_, rfl, ?_⟩; replace aA := aM (KeepBut.blk hk (fm aA.out) aI.out (by simp)); replace aC := aM (Kd.R_mono (Kd.R_keep (IsS91.apart (show IsS91 w0 _ g aG aW aX from IsS91.mv aD.out) (kr (Kd.R_mono (kF (p := ⟨aH, 3, none⟩) (kF (p := ⟨aH, 2, none⟩) (kF (p := ⟨aH, 1, none⟩) (kF (p := ⟨aH, 0, none⟩) (Kd.R_types aC.out aE.out (by decide)) (fun _ hk => hk.2) (.int .i64 aN)) (fun _ hk => hk.2) (.int .i64 aQ)) (fun _ hk => hk.2) (.int .i64 aT)) (fun _ hk => hk.2) (.slice cQ aV.length cR)) (fun _ h_ => h_.1))) (by decide)) hk (fun _ h => h.2)) (fun _ h => h.1)); replace aE := aM (KeepBut.blk hk (g' := aH) (o := .cells #[aN, aQ, aT, .slice cQ aV.length cR] 25 (0, 0)) (bm aE.out) aK.out (by simp)); replace HK := aM (KeepBut.trans (km HK.out) hk (.inl rfl)); replace HB := aM (hb); replace aD := aM (hi); (repeat first|clear hb|clear hk|clear hi)) | ((with_reducible refine gD (N := 11) rfl ?_); refine Kd.R_lit (Kd.int .i64) _ 3 ?hg (N := 11) ?hd (xs := ([(-1), 9, 10] : List Int)) (inner := [.int .i64 (-1), .int .i64 9, .int .i64 10]) (ok := fun _ => True) (okp := fun _ => True) ?hr ?hp (fun _ hk => hk) trivial (Below.refl _ _) (Nat.le_refl _) (by simp) ?_; (case hd => rfl); (case hg => rfl); (case hr => first | (go_simp; done) | (go_simp; rfl) | (obtain ⟨A_, c_, e_⟩ := Kd.R_slice aC.out; subst e_; (first | (go_simp; done) | (go_simp; rfl))) | (obtain ⟨A_, c_, e_⟩ := Kd.S_slice aC.out; subst e_; (first | (go_simp; done) | (go_simp; rfl))) | (obtain ⟨A_, c_, e_⟩ := Kd.R_slice bP.out; subst e_; (first | (go_simp; done) | (go_simp; rfl))) | (obtain ⟨A_, c_, e_⟩ := Kd.S_slice bP.out; subst e_; (first | (go_simp; done) | (go_simp; rfl)))); (case hp => exact (Reps.one (show Kd.M (Kd.int .i64) _ _ _ (-1) [.int .i64 (-1)] from rfl) (Reps.one (show Kd.M (Kd.int .i64) _ _ _ 9 [.int .i64 9] from rfl) (Reps.one (show Kd.M (Kd.int .i64) _ _ _ 10 [.int .i64 10] from rfl) (Reps.none _ _))))); intro iG iL ho15 hb hg_ hnew_; clear hg_ hnew_; (first | rw [← dM.out] at ho15 | (simp only [Int.reduceToNat] at ho15; rw [← dM.out] at ho15)); have bP := aM (Kd.R_lower ho15 (keep_size (km HK.out))); replace aC := rK aC hb; replace aD := aM (IsS91.below (IsS91.mv aD.out) hb); replace aA := rB aA hb; replace aE := rB aE hb; replace HK := rU HK hb; replace HB := aM (bS (IsS91.bl HB.out) hb); clear hb ho15; obtain ⟨eN, eO, eP⟩ := Kd.R_slice bP.out; subst eP) | ((with_reducible refine gC (f := 60) rfl ?_); refine gL (some 12) Try.func60 #[.pointer (some ⟨g, 0, none⟩), .slice eN dE.length eO] ?_; (with_reducible refine (spec_l1PickInt.calls g aG bI bJ _ _ dE cO eK eL w0 _ ?side1 ?side2 ?side3 ?side4 ?side5 A5.out).mono ?_); (case side1 => exact IsS91.mv aD.out); (case side2 => exact IsS91.bl HB.out); (case side3 => exact cM ((Kd.R_reads' bP.out).2.2)); (case side4 => exact (Kd.R_reads' bP.out).2.1); (case side5 => exact far_slice (IsS91.own_ne aD.out bP.out (by decide))); rintro e iM ⟨rfl, hi, hb, hk⟩; refine ⟨_, rfl, ?_⟩; replace aA := rP hk aA aI; replace aC := aM (Kd.R_mono (Kd.R_keep (IsS91.apart (show IsS91 w0 _ g aG bI bJ from IsS91.mv aD.out) (kr aC.out) (by decide)) hk (fun _ h => h.2)) (fun _ h => h.1)); replace aE := rP hk aE aK; replace bP := aM (Kd.R_mono (Kd.R_keep (IsS91.apart (show IsS91 w0 _ g aG bI bJ from IsS91.mv aD.out) (kr bP.out) (by decide)) hk (fun _ h => h.2)) (fun _ h => h.1)); replace HK := aM (KeepBut.trans (km HK.out) hk (.inl rfl)); replace HB := aM (hb); replace aD := aM (hi); (repeat first|clear hb|clear hk|clear hi); have fL := cA4 aE.out; have fM := aI.out; have fN := bN.out; have fO := cA4 aA.out))
  refine bodyPost_ret (results_cell_row rfl _ _ aJ 25 #[cO, aQ, aT, .slice cQ aV.length cR] (0, 0) _ rfl (bm aA.out) Try.underlying25 rfl (by kernel_rfl)) rfl ?_
  exact ⟨_, xW, by (with_reducible repeat (first | apply Kd.R_alloc | apply Kd.R_drewN | apply Kd.R_drew)); exact Kd.R_mono (kF (p := ⟨aJ, 3, none⟩) (kF (p := ⟨aJ, 2, none⟩) (kF (p := ⟨aJ, 1, none⟩) (kF (p := ⟨aJ, 0, none⟩) (kF (p := ⟨aH, 0, none⟩) (Kd.R_types (Kd.R_types aC.out aE.out (by decide)) aA.out (by decide)) (fun _ hk => hk.1.2) (.int .i64 cO)) (fun _ hk => hk.2) (.int .i64 cO)) (fun _ hk => hk.2) (.int .i64 aQ)) (fun _ hk => hk.2) (.int .i64 aT)) (fun _ hk => hk.2) (.slice cQ aV.length cR)) (fun _ hk => trivial), IsS91.mv aD.out, IsS91.bl HB.out, km HK.out⟩
 rw [if_neg c4] at H
 have eI : (bA == 0) = false := beq_eq_false_iff_ne.mpr c4
 have eJ : (bA != 0) = true := bne_iff_ne.mpr c4
 by_cases cK : bA = 1
 case pos =>
  rw [if_pos cK] at H
  have dX : (bA == 1) = true := beq_iff_eq.mpr cK
  have dY : (bA != 1) = false := bne_eq_false_iff_eq.mpr cK
  clear cK
  obtain ⟨dF, bZ⟩ : ∃ y_ : List Int, y_ = (([0, 9, 10] : List Int)) := ⟨_, rfl⟩
  replace H : ((spec_l1PickInt.f aG bI bJ dF).bind fun bV => (some (aN, bV.1, aT, aV, bV.2.1, bV.2.2))) = some (r1, r2, r3, r4, r5, r6) := by first | (rw [bZ]; with_reducible exact H) | (have H2_ := (Option.bind_some _ _).symm.trans H; rw [bZ]; with_reducible exact H2_) | (have H2_ := (Option.bind_some _ _).symm.trans H; with_reducible exact H2_) | with_reducible exact H | (rw [bZ]; exact H) | exact H
  have dN := aM bZ
  clear bZ
  obtain ⟨⟨cS, eQ, eR⟩, dR, H⟩ := hB H
  try dsimp only at H
  have fF := aM dR
  clear dR
  simp only [Option.some.injEq, Prod.mk.injEq] at H
  obtain ⟨rfl, rfl, rfl, rfl, rfl, rfl⟩ := H
  go_enter Try.func39, Try.ntmps39
  go_wp2_with (first | ((with_reducible refine gD (N := 2) rfl ?_); refine box_event ?hg (N := 2) ?hd (cs := #[.int .i64 0, .int .i64 0, .int .i64 0, .slice none 0 0]) (t := 25) ?hr ?_; (case hd => rfl); (case hg => rfl); (case hr => first | (go_simp; done) | (go_simp; rfl) | (obtain ⟨A_, c_, e_⟩ := Kd.R_slice aC.out; subst e_; (first | (go_simp; done) | (go_simp; rfl))) | (obtain ⟨A_, c_, e_⟩ := Kd.S_slice aC.out; subst e_; (first | (go_simp; done) | (go_simp; rfl))) | (obtain ⟨A_, c_, e_⟩ := Kd.R_slice bQ.out; subst e_; (first | (go_simp; done) | (go_simp; rfl))) | (obtain ⟨A_, c_, e_⟩ := Kd.S_slice bQ.out; subst e_; (first | (go_simp; done) | (go_simp; rfl)))); intro aJ hg iN hbox hb; have aA := aM (hbox); have cD := gE hg (keep_size (km HK.out)); have cE := gE2 HW0.out hg (keep_size (km HK.out)); have bN := nL hg (IsS91.lt (show IsS91 w0 _ g aG bK bL from IsS91.mv aD.out)); have aI := nG hg (IsS91.lt (show IsS91 w0 _ g aG bK bL from IsS91.mv aD.out)); replace aD := aM (IsS91.below (IsS91.mv aD.out) hb); replace HK := rU HK hb; replace HB := aM (bS (IsS91.bl HB.out) hb); clear hb hbox hg) | ((with_reducible refine gC (f := 44) rfl ?_); refine gL (some 5) Try.func44 #[.pointer (some ⟨g, 0, none⟩)] ?_; (with_reducible refine (spec_l2DrawRight.calls k g aG bK bL aN aQ aT aV aW aX w0 _ ?side1 ?side2 A2.out).mono ?_); (case side1 => exact IsS91.mv aD.out); (case side2 => exact IsS91.bl HB.out); rintro e iO ⟨cP, rfl, ho0, hi, hb, hk⟩; refine ⟨_, rfl, ?_⟩; have aC := aM (Kd.R_lower ho0 (keep_size (km HK.out))); replace aA := rP hk aA aI; replace HK := aM (KeepBut.trans (km HK.out) hk (.inl rfl)); replace HB := aM (hb); replace aD := aM (hi); (repeat first|clear hb|clear hk|clear hi|clear ho0)) | ((with_reducible refine gD (N := 3) rfl ?_); refine box_event ?hg (N := 3) ?hd (cs := #[.int .i64 0, .int .i64 0, .int .i64 0, .slice none 0 0]) (t := 25) ?hr ?_; (case hd => rfl); (case hg => rfl); (case hr => first | (go_simp; done) | (go_simp; rfl) | (obtain ⟨A_, c_, e_⟩ := Kd.R_slice aC.out; subst e_; (first | (go_simp; done) | (go_simp; rfl))) | (obtain ⟨A_, c_, e_⟩ := Kd.S_slice aC.out; subst e_; (first | (go_simp; done) | (go_simp; rfl))) | (obtain ⟨A_, c_, e_⟩ := Kd.R_slice bQ.out; subst e_; (first | (go_simp; done) | (go_simp; rfl))) | (obtain ⟨A_, c_, e_⟩ := Kd.S_slice bQ.out; subst e_; (first | (go_simp; done) | (go_simp; rfl)))); intro aH hg iP hbox hb; have aE := aM (hbox); have cG := gE hg (keep_size (km HK.out)); have cH := gE2 HW0.out hg (keep_size (km HK.out)); have bG := nM hg aA; have bH := nH hg aA; have bO := nL hg (IsS91.lt (show IsS91 w0 _ g aG aW aX from IsS91.mv aD.out)); have aK := nG hg (IsS91.lt (show IsS91 w0 _ g aG aW aX from IsS91.mv aD.out)); replace aC := rK aC hb; replace aD := aM (IsS91.below (IsS91.mv aD.out) hb); replace aA := rB aA hb; replace HK := rU HK hb; replace HB := aM (bS (IsS91.bl HB.out) hb); clear hb hbox hg; have fP := bH.out; have fQ := bG.out; have fS := aK.out; have fT := bO.out; have fU := cA4 aE.out; obtain ⟨cT, cU, eS⟩ := Kd.R_slice aC.out; subst eS) | ((with_reducible refine gC (f := 64) rfl ?_); refine gL (some 7) Try.func64 #[.pointer (some ⟨g, 0, none⟩), .int .i64 10] ?_; (with_reducible refine (spec_l1Below.calls g aG aW aX 10 bA bI bJ w0 _ ?side1 ?side2 A3.out).mono ?_); (case side1 => exact IsS91.mv aD.out); (case side2 => exact IsS91.bl HB.out); rintro e iQ ⟨rfl, hi, hb, hk⟩; refine ⟨_, rfl, ?_⟩; replace aA := aM (KeepBut.blk hk (fm aA.out) aI.out (by simp)); replace aC := aM (Kd.R_mono (Kd.R_keep (IsS91.apart (show IsS91 w0 _ g aG aW aX from IsS91.mv aD.out) (kr (Kd.R_mono (kF (p := ⟨aH, 3, none⟩) (kF (p := ⟨aH, 2, none⟩) (kF (p := ⟨aH, 1, none⟩) (kF (p := ⟨aH, 0, none⟩) (Kd.R_types aC.out aE.out (by decide)) (fun _ hk => hk.2) (.int .i64 aN)) (fun _ hk => hk.2) (.int .i64 aQ)) (fun _ hk => hk.2) (.int .i64 aT)) (fun _ hk => hk.2) (.slice cT aV.length cU)) (fun _ h_ => h_.1))) (by decide)) hk (fun _ h => h.2)) (fun _ h => h.1)); replace aE := aM (KeepBut.blk hk (g' := aH) (o := .cells #[aN, aQ, aT, .slice cT aV.length cU] 25 (0, 0)) (bm aE.out) aK.out (by simp)); replace HK := aM (KeepBut.trans (km HK.out) hk (.inl rfl)); replace HB := aM (hb); replace aD := aM (hi); (repeat first|clear hb|clear hk|clear hi)) | ((with_reducible refine gD (N := 17) rfl ?_); refine Kd.R_lit (Kd.int .i64) _ 3 ?hg (N := 17) ?hd (xs := ([0, 9, 10] : List Int)) (inner := [.int .i64 0, .int .i64 9, .int .i64 10]) (ok := fun _ => True) (okp := fun _ => True) ?hr ?hp (fun _ hk => hk) trivial (Below.refl _ _) (Nat.le_refl _) (by simp) ?_; (case hd => rfl); (case hg => rfl); (case hr => first | (go_simp; done) | (go_simp; rfl) | (obtain ⟨A_, c_, e_⟩ := Kd.R_slice aC.out; subst e_; (first | (go_simp; done) | (go_simp; rfl))) | (obtain ⟨A_, c_, e_⟩ := Kd.S_slice aC.out; subst e_; (first | (go_simp; done) | (go_simp; rfl))) | (obtain ⟨A_, c_, e_⟩ := Kd.R_slice bQ.out; subst e_; (first | (go_simp; done) | (go_simp; rfl))) | (obtain ⟨A_, c_, e_⟩ := Kd.S_slice bQ.out; subst e_; (first | (go_simp; done) | (go_simp; rfl)))); (case hp => exact (Reps.one (show Kd.M (Kd.int .i64) _ _ _ 0 [.int .i64 0] from rfl) (Reps.one (show Kd.M (Kd.int .i64) _ _ _ 9 [.int .i64 9] from rfl) (Reps.one (show Kd.M (Kd.int .i64) _ _ _ 10 [.int .i64 10] from rfl) (Reps.none _ _))))); intro iH iR ho32 hb hg_ hnew_; clear hg_ hnew_; (first | rw [← dN.out] at ho32 | (simp only [Int.reduceToNat] at ho32; rw [← dN.out] at ho32)); have bQ := aM (Kd.R_lower ho32 (keep_size (km HK.out))); replace aC := rK aC hb; replace aD := aM (IsS91.below (IsS91.mv aD.out) hb); replace aA := rB aA hb; replace aE := rB aE hb; replace HK := rU HK hb; replace HB := aM (bS (IsS91.bl HB.out) hb); clear hb ho32; obtain ⟨eT, eU, eV⟩ := Kd.R_slice bQ.out; subst eV) | ((with_reducible refine gC (f := 60) rfl ?_); refine gL (some 18) Try.func60 #[.pointer (some ⟨g, 0, none⟩), .slice eT dF.length eU] ?_; (with_reducible refine (spec_l1PickInt.calls g aG bI bJ _ _ dF cS eQ eR w0 _ ?side1 ?side2 ?side3 ?side4 ?side5 fF.out).mono ?_); (case side1 => exact IsS91.mv aD.out); (case side2 => exact IsS91.bl HB.out); (case side3 => exact cM ((Kd.R_reads' bQ.out).2.2)); (case side4 => exact (Kd.R_reads' bQ.out).2.1); (case side5 => exact far_slice (IsS91.own_ne aD.out bQ.out (by decide))); rintro e iS ⟨rfl, hi, hb, hk⟩; refine ⟨_, rfl, ?_⟩; replace aA := rP hk aA aI; replace aC := aM (Kd.R_mono (Kd.R_keep (IsS91.apart (show IsS91 w0 _ g aG bI bJ from IsS91.mv aD.out) (kr aC.out) (by decide)) hk (fun _ h => h.2)) (fun _ h => h.1)); replace aE := rP hk aE aK; replace bQ := aM (Kd.R_mono (Kd.R_keep (IsS91.apart (show IsS91 w0 _ g aG bI bJ from IsS91.mv aD.out) (kr bQ.out) (by decide)) hk (fun _ h => h.2)) (fun _ h => h.1)); replace HK := aM (KeepBut.trans (km HK.out) hk (.inl rfl)); replace HB := aM (hb); replace aD := aM (hi); (repeat first|clear hb|clear hk|clear hi); have fV := cA4 aE.out; have fW := aI.out; have fX := bN.out; have fY := cA4 aA.out))
  refine bodyPost_ret (results_cell_row rfl _ _ aJ 25 #[aN, cS, aT, .slice cT aV.length cU] (0, 0) _ rfl (bm aA.out) Try.underlying25 rfl (by kernel_rfl)) rfl ?_
  exact ⟨_, xW, by (with_reducible repeat (first | apply Kd.R_alloc | apply Kd.R_drewN | apply Kd.R_drew)); exact Kd.R_mono (kF (p := ⟨aJ, 3, none⟩) (kF (p := ⟨aJ, 2, none⟩) (kF (p := ⟨aJ, 1, none⟩) (kF (p := ⟨aJ, 0, none⟩) (kF (p := ⟨aH, 1, none⟩) (Kd.R_types (Kd.R_types aC.out aE.out (by decide)) aA.out (by decide)) (fun _ hk => hk.1.2) (.int .i64 cS)) (fun _ hk => hk.2) (.int .i64 aN)) (fun _ hk => hk.2) (.int .i64 cS)) (fun _ hk => hk.2) (.int .i64 aT)) (fun _ hk => hk.2) (.slice cT aV.length cU)) (fun _ hk => trivial), IsS91.mv aD.out, IsS91.bl HB.out, km HK.out⟩
 rw [if_neg cK] at H
 have dX : (bA == 1) = false := beq_eq_false_iff_ne.mpr cK
 have dY : (bA != 1) = true := bne_iff_ne.mpr cK
 by_cases cL : bA = 2
 case pos =>
  rw [if_pos cL] at H
  have dZ : (bA == 2) = true := beq_iff_eq.mpr cL
  have eA : (bA != 2) = false := bne_eq_false_iff_eq.mpr cL
  clear cL
  obtain ⟨dG, cA⟩ : ∃ y_ : List Int, y_ = (([(-1), 4, 5] : List Int)) := ⟨_, rfl⟩
  replace H : ((spec_l1PickInt.f aG bI bJ dG).bind fun bW => (some (aN, aQ, bW.1, aV, bW.2.1, bW.2.2))) = some (r1, r2, r3, r4, r5, r6) := by first | (rw [cA]; with_reducible exact H) | (have H2_ := (Option.bind_some _ _).symm.trans H; rw [cA]; with_reducible exact H2_) | (have H2_ := (Option.bind_some _ _).symm.trans H; with_reducible exact H2_) | with_reducible exact H | (rw [cA]; exact H) | exact H
  have dO := aM cA
  clear cA
  obtain ⟨⟨cV, eW, eX⟩, dS, H⟩ := hB H
  try dsimp only at H
  have fG := aM dS
  clear dS
  simp only [Option.some.injEq, Prod.mk.injEq] at H
  obtain ⟨rfl, rfl, rfl, rfl, rfl, rfl⟩ := H
  go_enter Try.func39, Try.ntmps39
  go_wp2_with (first | ((with_reducible refine gD (N := 2) rfl ?_); refine box_event ?hg (N := 2) ?hd (cs := #[.int .i64 0, .int .i64 0, .int .i64 0, .slice none 0 0]) (t := 25) ?hr ?_; (case hd => rfl); (case hg => rfl); (case hr => first | (go_simp; done) | (go_simp; rfl) | (obtain ⟨A_, c_, e_⟩ := Kd.R_slice aC.out; subst e_; (first | (go_simp; done) | (go_simp; rfl))) | (obtain ⟨A_, c_, e_⟩ := Kd.S_slice aC.out; subst e_; (first | (go_simp; done) | (go_simp; rfl))) | (obtain ⟨A_, c_, e_⟩ := Kd.R_slice bT.out; subst e_; (first | (go_simp; done) | (go_simp; rfl))) | (obtain ⟨A_, c_, e_⟩ := Kd.S_slice bT.out; subst e_; (first | (go_simp; done) | (go_simp; rfl)))); intro aJ hg iT hbox hb; have aA := aM (hbox); have cD := gE hg (keep_size (km HK.out)); have cE := gE2 HW0.out hg (keep_size (km HK.out)); have bN := nL hg (IsS91.lt (show IsS91 w0 _ g aG bK bL from IsS91.mv aD.out)); have aI := nG hg (IsS91.lt (show IsS91 w0 _ g aG bK bL from IsS91.mv aD.out)); replace aD := aM (IsS91.below (IsS91.mv aD.out) hb); replace HK := rU HK hb; replace HB := aM (bS (IsS91.bl HB.out) hb); clear hb hbox hg) | ((with_reducible refine gC (f := 44) rfl ?_); refine gL (some 5) Try.func44 #[.pointer (some ⟨g, 0, none⟩)] ?_; (with_reducible refine (spec_l2DrawRight.calls k g aG bK bL aN aQ aT aV aW aX w0 _ ?side1 ?side2 A2.out).mono ?_); (case side1 => exact IsS91.mv aD.out); (case side2 => exact IsS91.bl HB.out); rintro e iU ⟨cP, rfl, ho0, hi, hb, hk⟩; refine ⟨_, rfl, ?_⟩; have aC := aM (Kd.R_lower ho0 (keep_size (km HK.out))); replace aA := rP hk aA aI; replace HK := aM (KeepBut.trans (km HK.out) hk (.inl rfl)); replace HB := aM (hb); replace aD := aM (hi); (repeat first|clear hb|clear hk|clear hi|clear ho0)) | ((with_reducible refine gD (N := 3) rfl ?_); refine box_event ?hg (N := 3) ?hd (cs := #[.int .i64 0, .int .i64 0, .int .i64 0, .slice none 0 0]) (t := 25) ?hr ?_; (case hd => rfl); (case hg => rfl); (case hr => first | (go_simp; done) | (go_simp; rfl) | (obtain ⟨A_, c_, e_⟩ := Kd.R_slice aC.out; subst e_; (first | (go_simp; done) | (go_simp; rfl))) | (obtain ⟨A_, c_, e_⟩ := Kd.S_slice aC.out; subst e_; (first | (go_simp; done) | (go_simp; rfl))) | (obtain ⟨A_, c_, e_⟩ := Kd.R_slice bT.out; subst e_; (first | (go_simp; done) | (go_simp; rfl))) | (obtain ⟨A_, c_, e_⟩ := Kd.S_slice bT.out; subst e_; (first | (go_simp; done) | (go_simp; rfl)))); intro aH hg iV hbox hb; have aE := aM (hbox); have cG := gE hg (keep_size (km HK.out)); have cH := gE2 HW0.out hg (keep_size (km HK.out)); have bG := nM hg aA; have bH := nH hg aA; have bO := nL hg (IsS91.lt (show IsS91 w0 _ g aG aW aX from IsS91.mv aD.out)); have aK := nG hg (IsS91.lt (show IsS91 w0 _ g aG aW aX from IsS91.mv aD.out)); replace aC := rK aC hb; replace aD := aM (IsS91.below (IsS91.mv aD.out) hb); replace aA := rB aA hb; replace HK := rU HK hb; replace HB := aM (bS (IsS91.bl HB.out) hb); clear hb hbox hg; have gA := bH.out; have gB := bG.out; have gG := aK.out; have gH := bO.out; have gJ := cA4 aE.out; obtain ⟨cW, cX, eY⟩ := Kd.R_slice aC.out; subst eY) | ((with_reducible refine gC (f := 64) rfl ?_); refine gL (some 7) Try.func64 #[.pointer (some ⟨g, 0, none⟩), .int .i64 10] ?_; (with_reducible refine (spec_l1Below.calls g aG aW aX 10 bA bI bJ w0 _ ?side1 ?side2 A3.out).mono ?_); (case side1 => exact IsS91.mv aD.out); (case side2 => exact IsS91.bl HB.out); rintro e iW ⟨rfl, hi, hb, hk⟩; refine ⟨_, rfl, ?_⟩; replace aA := aM (KeepBut.blk hk (fm aA.out) aI.out (by simp)); replace aC := aM (Kd.R_mono (Kd.R_keep (IsS91.apart (show IsS91 w0 _ g aG aW aX from IsS91.mv aD.out) (kr (Kd.R_mono (kF (p := ⟨aH, 3, none⟩) (kF (p := ⟨aH, 2, none⟩) (kF (p := ⟨aH, 1, none⟩) (kF (p := ⟨aH, 0, none⟩) (Kd.R_types aC.out aE.out (by decide)) (fun _ hk => hk.2) (.int .i64 aN)) (fun _ hk => hk.2) (.int .i64 aQ)) (fun _ hk => hk.2) (.int .i64 aT)) (fun _ hk => hk.2) (.slice cW aV.length cX)) (fun _ h_ => h_.1))) (by decide)) hk (fun _ h => h.2)) (fun _ h => h.1)); replace aE := aM (KeepBut.blk hk (g' := aH) (o := .cells #[aN, aQ, aT, .slice cW aV.length cX] 25 (0, 0)) (bm aE.out) aK.out (by simp)); replace HK := aM (KeepBut.trans (km HK.out) hk (.inl rfl)); replace HB := aM (hb); replace aD := aM (hi); (repeat first|clear hb|clear hk|clear hi)) | ((with_reducible refine gD (N := 23) rfl ?_); refine Kd.R_lit (Kd.int .i64) _ 3 ?hg (N := 23) ?hd (xs := ([(-1), 4, 5] : List Int)) (inner := [.int .i64 (-1), .int .i64 4, .int .i64 5]) (ok := fun _ => True) (okp := fun _ => True) ?hr ?hp (fun _ hk => hk) trivial (Below.refl _ _) (Nat.le_refl _) (by simp) ?_; (case hd => rfl); (case hg => rfl); (case hr => first | (go_simp; done) | (go_simp; rfl) | (obtain ⟨A_, c_, e_⟩ := Kd.R_slice aC.out; subst e_; (first | (go_simp; done) | (go_simp; rfl))) | (obtain ⟨A_, c_, e_⟩ := Kd.S_slice aC.out; subst e_; (first | (go_simp; done) | (go_simp; rfl))) | (obtain ⟨A_, c_, e_⟩ := Kd.R_slice bT.out; subst e_; (first | (go_simp; done) | (go_simp; rfl))) | (obtain ⟨A_, c_, e_⟩ := Kd.S_slice bT.out; subst e_; (first | (go_simp; done) | (go_simp; rfl)))); (case hp => exact (Reps.one (show Kd.M (Kd.int .i64) _ _ _ (-1) [.int .i64 (-1)] from rfl) (Reps.one (show Kd.M (Kd.int .i64) _ _ _ 4 [.int .i64 4] from rfl) (Reps.one (show Kd.M (Kd.int .i64) _ _ _ 5 [.int .i64 5] from rfl) (Reps.none _ _))))); intro iI iX ho49 hb hg_ hnew_; clear hg_ hnew_; (first | rw [← dO.out] at ho49 | (simp only [Int.reduceToNat] at ho49; rw [← dO.out] at ho49)); have bT := aM (Kd.R_lower ho49 (keep_size (km HK.out))); replace aC := rK aC hb; replace aD := aM (IsS91.below (IsS91.mv aD.out) hb); replace aA := rB aA hb; replace aE := rB aE hb; replace HK := rU HK hb; replace HB := aM (bS (IsS91.bl HB.out) hb); clear hb ho49; obtain ⟨eZ, fA, fB⟩ := Kd.R_slice bT.out; subst fB) | ((with_reducible refine gC (f := 60) rfl ?_); refine gL (some 24) Try.func60 #[.pointer (some ⟨g, 0, none⟩), .slice eZ dG.length fA] ?_; (with_reducible refine (spec_l1PickInt.calls g aG bI bJ _ _ dG cV eW eX w0 _ ?side1 ?side2 ?side3 ?side4 ?side5 fG.out).mono ?_); (case side1 => exact IsS91.mv aD.out); (case side2 => exact IsS91.bl HB.out); (case side3 => exact cM ((Kd.R_reads' bT.out).2.2)); (case side4 => exact (Kd.R_reads' bT.out).2.1); (case side5 => exact far_slice (IsS91.own_ne aD.out bT.out (by decide))); rintro e iY ⟨rfl, hi, hb, hk⟩; refine ⟨_, rfl, ?_⟩; replace aA := rP hk aA aI; replace aC := aM (Kd.R_mono (Kd.R_keep (IsS91.apart (show IsS91 w0 _ g aG bI bJ from IsS91.mv aD.out) (kr aC.out) (by decide)) hk (fun _ h => h.2)) (fun _ h => h.1)); replace aE := rP hk aE aK; replace bT := aM (Kd.R_mono (Kd.R_keep (IsS91.apart (show IsS91 w0 _ g aG bI bJ from IsS91.mv aD.out) (kr bT.out) (by decide)) hk (fun _ h => h.2)) (fun _ h => h.1)); replace HK := aM (KeepBut.trans (km HK.out) hk (.inl rfl)); replace HB := aM (hb); replace aD := aM (hi); (repeat first|clear hb|clear hk|clear hi); have gK := cA4 aE.out; have gM := aI.out; have gN := bN.out; have gO := cA4 aA.out))
  refine bodyPost_ret (results_cell_row rfl _ _ aJ 25 #[aN, aQ, cV, .slice cW aV.length cX] (0, 0) _ rfl (bm aA.out) Try.underlying25 rfl (by kernel_rfl)) rfl ?_
  exact ⟨_, xW, by (with_reducible repeat (first | apply Kd.R_alloc | apply Kd.R_drewN | apply Kd.R_drew)); exact Kd.R_mono (kF (p := ⟨aJ, 3, none⟩) (kF (p := ⟨aJ, 2, none⟩) (kF (p := ⟨aJ, 1, none⟩) (kF (p := ⟨aJ, 0, none⟩) (kF (p := ⟨aH, 2, none⟩) (Kd.R_types (Kd.R_types aC.out aE.out (by decide)) aA.out (by decide)) (fun _ hk => hk.1.2) (.int .i64 cV)) (fun _ hk => hk.2) (.int .i64 aN)) (fun _ hk => hk.2) (.int .i64 aQ)) (fun _ hk => hk.2) (.int .i64 cV)) (fun _ hk => hk.2) (.slice cW aV.length cX)) (fun _ hk => trivial), IsS91.mv aD.out, IsS91.bl HB.out, km HK.out⟩
 rw [if_neg cL] at H
 have dZ : (bA == 2) = false := beq_eq_false_iff_ne.mpr cL
 have eA : (bA != 2) = true := bne_iff_ne.mpr cL
 by_cases cN : bA = 3
 case neg =>
  rw [if_neg cN] at H
  have eB : (bA == 3) = false := beq_eq_false_iff_ne.mpr cN
  have eC : (bA != 3) = true := bne_iff_ne.mpr cN
  simp only [Option.some.injEq, Prod.mk.injEq] at H
  obtain ⟨rfl, rfl, rfl, rfl, rfl, rfl⟩ := H
  go_enter Try.func39, Try.ntmps39
  go_wp2_with (first | ((with_reducible refine gD (N := 2) rfl ?_); refine bE (N := 2) (cs := #[.int .i64 0, .int .i64 0, .int .i64 0, .slice none 0 0]) (t := 25) ?_; intro aJ hg iZ hbox hb; have aA := aM (hbox); have cD := gE hg (keep_size (km HK.out)); have cE := gE2 HW0.out hg (keep_size (km HK.out)); have bN := nL hg (IsS91.lt (show IsS91 w0 _ g aG bK bL from IsS91.mv aD.out)); have aI := nG hg (IsS91.lt (show IsS91 w0 _ g aG bK bL from IsS91.mv aD.out)); replace aD := aM (IsS91.below (IsS91.mv aD.out) hb); replace HK := rU HK hb; replace HB := aM (bS (IsS91.bl HB.out) hb); clear hb hbox hg) | ((with_reducible refine gC (f := 44) rfl ?_); refine gL (some 5) Try.func44 #[.pointer (some ⟨g, 0, none⟩)] ?_; (with_reducible refine (spec_l2DrawRight.calls k g aG bK bL aN aQ aT aV aW aX w0 _ ?side1 ?side2 A2.out).mono ?_); (case side1 => exact IsS91.mv aD.out); (case side2 => exact IsS91.bl HB.out); rintro e jA ⟨cP, rfl, ho0, hi, hb, hk⟩; refine ⟨_, rfl, ?_⟩; have aC := aM (Kd.R_lower ho0 (keep_size (km HK.out))); replace aA := rP hk aA aI; replace HK := aM (KeepBut.trans (km HK.out) hk (.inl rfl)); replace HB := aM (hb); replace aD := aM (hi); (repeat first|clear hb|clear hk|clear hi|clear ho0)) | ((with_reducible refine gD (N := 3) rfl ?_); refine bR aC (N := 3) (cs := #[.int .i64 0, .int .i64 0, .int .i64 0, .slice none 0 0]) (t := 25) ?_; intro aH hg jB hbox hb; have aE := aM (hbox); have cG := gE hg (keep_size (km HK.out)); have cH := gE2 HW0.out hg (keep_size (km HK.out)); have bG := nM hg aA; have bH := nH hg aA; have bO := nL hg (IsS91.lt (show IsS91 w0 _ g aG aW aX from IsS91.mv aD.out)); have aK := nG hg (IsS91.lt (show IsS91 w0 _ g aG aW aX from IsS91.mv aD.out)); replace aC := rK aC hb; replace aD := aM (IsS91.below (IsS91.mv aD.out) hb); replace aA := rB aA hb; replace HK := rU HK hb; replace HB := aM (bS (IsS91.bl HB.out) hb); clear hb hbox hg; have gP := bH.out; have gQ := bG.out; have gR := aK.out; have gS := bO.out; have gT := cA4 aE.out; obtain ⟨cY, dA, fC⟩ := Kd.R_slice aC.out; subst fC) | ((with_reducible refine gC (f := 64) rfl ?_); refine gL (some 7) Try.func64 #[.pointer (some ⟨g, 0, none⟩), .int .i64 10] ?_; (with_reducible refine (spec_l1Below.calls g aG aW aX 10 bA bI bJ w0 _ ?side1 ?side2 A3.out).mono ?_); (case side1 => exact IsS91.mv aD.out); (case side2 => exact IsS91.bl HB.out); rintro e jC ⟨rfl, hi, hb, hk⟩; refine ⟨_, rfl, ?_⟩; replace aA := aM (KeepBut.blk hk (fm aA.out) aI.out (by simp)); replace aC := aM (Kd.R_mono (Kd.R_keep (IsS91.apart (show IsS91 w0 _ g aG aW aX from IsS91.mv aD.out) (kr (Kd.R_mono (kF (p := ⟨aH, 3, none⟩) (kF (p := ⟨aH, 2, none⟩) (kF (p := ⟨aH, 1, none⟩) (kF (p := ⟨aH, 0, none⟩) (Kd.R_types aC.out aE.out (by decide)) (fun _ hk => hk.2) (.int .i64 aN)) (fun _ hk => hk.2) (.int .i64 aQ)) (fun _ hk => hk.2) (.int .i64 aT)) (fun _ hk => hk.2) (.slice cY aV.length dA)) (fun _ h_ => h_.1))) (by decide)) hk (fun _ h => h.2)) (fun _ h => h.1)); replace aE := aM (KeepBut.blk hk (g' := aH) (o := .cells #[aN, aQ, aT, .slice cY aV.length dA] 25 (0, 0)) (bm aE.out) aK.out (by simp)); replace HK := aM (KeepBut.trans (km HK.out) hk (.inl rfl)); replace HB := aM (hb); replace aD := aM (hi); (repeat first|clear hb|clear hk|clear hi); have gU := cA4 aE.out; have gV := aI.out; have gW := bN.out; have gX := cA4 aA.out))
  refine bodyPost_ret (results_cell_row rfl _ _ aJ 25 #[aN, aQ, aT, .slice cY aV.length dA] (0, 0) _ rfl (bm aA.out) Try.underlying25 rfl (by kernel_rfl)) rfl ?_
  exact ⟨_, xW, by (with_reducible repeat (first | apply Kd.R_alloc | apply Kd.R_drewN | apply Kd.R_drew)); exact Kd.R_mono (kF (p := ⟨aJ, 3, none⟩) (kF (p := ⟨aJ, 2, none⟩) (kF (p := ⟨aJ, 1, none⟩) (kF (p := ⟨aJ, 0, none⟩) (Kd.R_types aC.out aA.out (by decide)) (fun _ hk => hk.2) (.int .i64 aN)) (fun _ hk => hk.2) (.int .i64 aQ)) (fun _ hk => hk.2) (.int .i64 aT)) (fun _ hk => hk.2) (.slice cY aV.length dA)) (fun _ hk => trivial), IsS91.mv aD.out, IsS91.bl HB.out, km HK.out⟩
 rw [if_pos cN] at H
 have eB : (bA == 3) = true := beq_iff_eq.mpr cN
 have eC : (bA != 3) = false := bne_eq_false_iff_eq.mpr cN
 clear cN
 obtain ⟨⟨dH, dI, dJ⟩, dU, H⟩ := hB H
 try dsimp only at H
 have eH := aM dU
 clear dU
 obtain ⟨ji57, hji57⟩ : ∃ j_ : Int, (wrap64 (30 + dH)) = j_ := ⟨_, rfl⟩
 replace H : (if 0 ≤ (ji57) then (if (ji57 : Int).toNat ≤ 281474976710656 then (some (aN, aQ, aT, (List.replicate (ji57 : Int).toNat 0), dI, dJ)) else (none)) else (none)) = some (r1, r2, r3, r4, r5, r6) := by first | (rw [hji57] at H; exact H) | (simp only [hji57] at H ⊢; exact H)
 (try rw [hji57] at A2)
 (try rw [hji57] at A3)
 (try rw [hji57] at eH)
 have hji57w : (IntKind.i64.wrap (30 + dH)) = ji57 := (i64_w _).trans hji57
 by_cases dC : 0 ≤ (ji57)
 case neg =>
  rw [if_neg dC] at H
  exact absurd H (by simp)
 rw [if_pos dC] at H
 have gY := eq_true dC
 have gZ : decide (0 ≤ (ji57)) = true := decide_eq_true dC
 clear dC
 by_cases dD : (ji57 : Int).toNat ≤ 281474976710656
 case neg =>
  rw [if_neg dD] at H
  exact absurd H (by simp)
 rw [if_pos dD] at H
 have hD := eq_true dD
 have hH : decide ((ji57 : Int).toNat ≤ 281474976710656) = true := decide_eq_true dD
 clear dD
 obtain ⟨dB, cC⟩ : ∃ y_ : List Int, y_ = (List.replicate (ji57 : Int).toNat 0) := ⟨_, rfl⟩
 replace H : (some (aN, aQ, aT, dB, dI, dJ)) = some (r1, r2, r3, r4, r5, r6) := by first | (rw [cC]; with_reducible exact H) | (have H2_ := (Option.bind_some _ _).symm.trans H; rw [cC]; with_reducible exact H2_) | (have H2_ := (Option.bind_some _ _).symm.trans H; with_reducible exact H2_) | with_reducible exact H | (rw [cC]; exact H) | exact H
 have dP := aM cC
 clear cC
 simp only [Option.some.injEq, Prod.mk.injEq] at H
 obtain ⟨rfl, rfl, rfl, rfl, rfl, rfl⟩ := H
 go_enter Try.func39, Try.ntmps39
 go_wp2_with (first | ((with_reducible refine gD (N := 2) rfl ?_); refine bE (N := 2) (cs := #[.int .i64 0, .int .i64 0, .int .i64 0, .slice none 0 0]) (t := 25) ?_; intro aJ hg jD hbox hb; have aA := aM (hbox); have cD := gE hg (keep_size (km HK.out)); have cE := gE2 HW0.out hg (keep_size (km HK.out)); have bN := nL hg (IsS91.lt (show IsS91 w0 _ g aG bK bL from IsS91.mv aD.out)); have aI := nG hg (IsS91.lt (show IsS91 w0 _ g aG bK bL from IsS91.mv aD.out)); replace aD := aM (IsS91.below (IsS91.mv aD.out) hb); replace HK := rU HK hb; replace HB := aM (bS (IsS91.bl HB.out) hb); clear hb hbox hg) | ((with_reducible refine gC (f := 44) rfl ?_); refine gL (some 5) Try.func44 #[.pointer (some ⟨g, 0, none⟩)] ?_; (with_reducible refine (spec_l2DrawRight.calls k g aG bK bL aN aQ aT aV aW aX w0 _ ?side1 ?side2 A2.out).mono ?_); (case side1 => exact IsS91.mv aD.out); (case side2 => exact IsS91.bl HB.out); rintro e jE ⟨cP, rfl, ho0, hi, hb, hk⟩; refine ⟨_, rfl, ?_⟩; have aC := aM (Kd.R_lower ho0 (keep_size (km HK.out))); replace aA := rP hk aA aI; replace HK := aM (KeepBut.trans (km HK.out) hk (.inl rfl)); replace HB := aM (hb); replace aD := aM (hi); (repeat first|clear hb|clear hk|clear hi|clear ho0)) | ((with_reducible refine gD (N := 3) rfl ?_); refine bR aC (N := 3) (cs := #[.int .i64 0, .int .i64 0, .int .i64 0, .slice none 0 0]) (t := 25) ?_; intro aH hg jF hbox hb; have aE := aM (hbox); have cG := gE hg (keep_size (km HK.out)); have cH := gE2 HW0.out hg (keep_size (km HK.out)); have bG := nM hg aA; have bH := nH hg aA; have bO := nL hg (IsS91.lt (show IsS91 w0 _ g aG aW aX from IsS91.mv aD.out)); have aK := nG hg (IsS91.lt (show IsS91 w0 _ g aG aW aX from IsS91.mv aD.out)); replace aC := rK aC hb; replace aD := aM (IsS91.below (IsS91.mv aD.out) hb); replace aA := rB aA hb; replace HK := rU HK hb; replace HB := aM (bS (IsS91.bl HB.out) hb); clear hb hbox hg; have hJ := bH.out; have hO := bG.out; have hU := aK.out; have hX := bO.out; have hY := cA4 aE.out; obtain ⟨dV, dW, fD⟩ := Kd.R_slice aC.out; subst fD) | ((with_reducible refine gC (f := 64) rfl ?_); refine gL (some 7) Try.func64 #[.pointer (some ⟨g, 0, none⟩), .int .i64 10] ?_; (with_reducible refine (spec_l1Below.calls g aG aW aX 10 bA bI bJ w0 _ ?side1 ?side2 A3.out).mono ?_); (case side1 => exact IsS91.mv aD.out); (case side2 => exact IsS91.bl HB.out); rintro e jG ⟨rfl, hi, hb, hk⟩; refine ⟨_, rfl, ?_⟩; replace aA := aM (KeepBut.blk hk (fm aA.out) aI.out (by simp)); replace aC := aM (Kd.R_mono (Kd.R_keep (IsS91.apart (show IsS91 w0 _ g aG aW aX from IsS91.mv aD.out) (kr (Kd.R_mono (kF (p := ⟨aH, 3, none⟩) (kF (p := ⟨aH, 2, none⟩) (kF (p := ⟨aH, 1, none⟩) (kF (p := ⟨aH, 0, none⟩) (Kd.R_types aC.out aE.out (by decide)) (fun _ hk => hk.2) (.int .i64 aN)) (fun _ hk => hk.2) (.int .i64 aQ)) (fun _ hk => hk.2) (.int .i64 aT)) (fun _ hk => hk.2) (.slice dV aV.length dW)) (fun _ h_ => h_.1))) (by decide)) hk (fun _ h => h.2)) (fun _ h => h.1)); replace aE := aM (KeepBut.blk hk (g' := aH) (o := .cells #[aN, aQ, aT, .slice dV aV.length dW] 25 (0, 0)) (bm aE.out) aK.out (by simp)); replace HK := aM (KeepBut.trans (km HK.out) hk (.inl rfl)); replace HB := aM (hb); replace aD := aM (hi); (repeat first|clear hb|clear hk|clear hi)) | ((with_reducible refine gC (f := 64) rfl ?_); refine gL (some 29) Try.func64 #[.pointer (some ⟨g, 0, none⟩), .int .i64 2] ?_; (with_reducible refine (spec_l1Below.calls g aG bI bJ 2 dH dI dJ w0 _ ?side1 ?side2 eH.out).mono ?_); (case side1 => exact IsS91.mv aD.out); (case side2 => exact IsS91.bl HB.out); rintro e jH ⟨rfl, hi, hb, hk⟩; refine ⟨_, rfl, ?_⟩; replace aA := rP hk aA aI; replace aC := aM (Kd.R_mono (Kd.R_keep (IsS91.apart (show IsS91 w0 _ g aG bI bJ from IsS91.mv aD.out) (kr aC.out) (by decide)) hk (fun _ h => h.2)) (fun _ h => h.1)); replace aE := rP hk aE aK; replace HK := aM (KeepBut.trans (km HK.out) hk (.inl rfl)); replace HB := aM (hb); replace aD := aM (hi); (repeat first|clear hb|clear hk|clear hi)) | ((with_reducible refine gD (N := 31) rfl ?_); refine Kd.R_make (Kd.int .u8) _ 5 rfl (N := 31) rfl 22 _ _ rfl ji57 rfl rfl Try.underlying22 (.int .u8 0) 1 info5 rfl (by decide) (by omega) 0 (ok := fun _ => True) (okp := fun _ => True) rfl (fun _ hk => hk) trivial (dT) (Nat.le_trans (Nat.mul_le_mul_right _ (dT : ji57.toNat ≤ 281474976710656)) (by omega)) (Below.refl _ _) (Nat.le_refl _) ?_; intro iJ jI ho70 hb hg_ hnew_; clear hg_ hnew_; (first | rw [← dP.out] at ho70 | (simp only [Int.reduceToNat] at ho70; rw [← dP.out] at ho70)); have dQ := aM (Kd.R_lower (Kd.R_new' ho70 (Kd.R_lt (kr aC.out))) (keep_size (km HK.out))); replace aC := aM (Kd.R_elder' (kr aC.out) (Kd.R_base ho70) hb); replace aD := aM (IsS91.below (IsS91.mv aD.out) hb); replace aA := rB aA hb; replace aE := rB aE hb; replace HK := rU HK hb; replace HB := aM (bS (IsS91.bl HB.out) hb); clear hb ho70; obtain ⟨dK, dL, fE⟩ := Kd.R_slice dQ.out; subst fE; have hZ := cA4 aE.out; have iA := aI.out; have iB := bN.out; have iC := cA4 aA.out))
 refine bodyPost_ret (results_cell_row rfl _ _ aJ 25 #[aN, aQ, aT, .slice dK dB.length dL] (0, 0) _ rfl (bm aA.out) Try.underlying25 rfl (by kernel_rfl)) rfl ?_
 exact ⟨_, by first | rfl | (simp [errW_none, errW_some] <;> rfl) | (simp only [← hji57]; first | rfl | (simp [errW_none, errW_some] <;> rfl)) | (simp [*, errW_none, errW_some] <;> rfl), by (with_reducible repeat (first | apply Kd.R_alloc | apply Kd.R_drewN | apply Kd.R_drew)); exact Kd.R_mono (kF (p := ⟨aJ, 3, none⟩) (kF (p := ⟨aJ, 2, none⟩) (kF (p := ⟨aJ, 1, none⟩) (kF (p := ⟨aJ, 0, none⟩) (kF (p := ⟨aH, 3, none⟩) (Kd.R_types (Kd.R_types dQ.out aE.out (by decide)) aA.out (by decide)) (fun _ hk => hk.1.2) (.slice dK dB.length dL)) (fun _ hk => hk.2) (.int .i64 aN)) (fun _ hk => hk.2) (.int .i64 aQ)) (fun _ hk => hk.2) (.int .i64 aT)) (fun _ hk => hk.2) (.slice dK dB.length dL)) (fun _ hk => trivial), IsS91.mv aD.out, IsS91.bl HB.out, km HK.out⟩

def spec_l1New.l0 : Nat → List Int → Int → Int → Option (List Int × Int × Int)
 | 0, _, _, _ => none
 | k + 1, x0, x3, x4 => if x4 < (x0.length : Int) then (if x4 < 4000 then (if 0 ≤ x4 then (spec_l1New.l0 k x0 (Go.bits .and .i64 (wrap64 ((wrap64 ((wrap64 (x3 * 131)) + (wrap64 (rd x0 x4)))) + 7)) 1073741823) (wrap64 (x4 + 1))) else (none)) else (some (x0, 0, x3))) else (some (x0, 0, x3))
def spec_l1New.f (k : Nat) (l0 : List Int) : Option (List Int × Int × Int) := spec_l1New.l0 k l0 (wrap64 (27397 + (l0.length : Int))) 0
theorem spec_l1New.mono_l : ∀ k, (∀ y0 y1 y2, LeO (spec_l1New.l0 k y0 y1 y2) (spec_l1New.l0 (k + 1) y0 y1 y2))
 | 0 => fun _ _ _ r h => by simp [spec_l1New.l0] at h
 | k + 1 => by
  have ih0 := spec_l1New.mono_l k
  ·intro y0 y1 y2
   unfold spec_l1New.l0
   repeat' first|(with_reducible first|apply ih0|exact lR _|exact lN _|refine lI ?_ ?_|refine lB ?_ fun _ => ?_)|exact lN _|refine lI ?_ ?_|refine lB ?_ fun _ => ?_
theorem spec_l1New.mono : ∀ a0 k, LeO (spec_l1New.f k a0) (spec_l1New.f (k + 1) a0) := by
 intro a0 k
 have ih0 := spec_l1New.mono_l k
 unfold spec_l1New.f
 repeat' first|(with_reducible first|apply ih0|exact lR _|exact lN _|refine lI ?_ ?_|refine lB ?_ fun _ => ?_)|exact lN _|refine lI ?_ ?_|refine lB ?_ fun _ => ?_
set_option maxHeartbeats 60000000 in
set_option maxRecDepth 100000 in
theorem spec_l1New.calls (k : Nat) (A0 : Option Addr) (c0 : Nat) (l0 : List Int) (r1 : List Int) (r2 r3 : Int) (w0 w : World) (hB : Below w0.heap.size w0 w) (hr0 : Kd.C (Kd.int .u8) w0 A0 l0.length l0) (hc0 : l0.length ≤ c0) (h : spec_l1New.f k l0 = some (r1, r2, r3)) :
  Calls Try.prog 40 #[.slice A0 l0.length c0] w fun e w' => ∃ g_ : Nat, e = .returned (.pointer (some ⟨g_, 0, none⟩)) ∧ IsS91 w0 w' g_ r1 r2 r3 ∧ Below w0.heap.size w0 w' ∧ Below w.heap.size w w' := by
 have bJ := Try.underlying91
 have aJ := aM hr0
 have aX := aM hc0
 clear hr0 hc0
 have HBW := aM (Below.refl w.heap.size w)
 have HW0 := aM hB.size
 have HB := aM hB
 clear hB
 have H : (spec_l1New.l0 k l0 (wrap64 (27397 + (l0.length : Int))) 0) = some (r1, r2, r3) := h
 clear h
 have H' := aM H
 clear H
 go_enter Try.func40, Try.ntmps40
 go_wp2
 go_loopg [3, 4] k (fun kq v3 v4 w' => ∃ (aC : Int) (aA : Int), v3 = .int .i64 aC ∧ v4 = .int .i64 aA ∧ Aside0 (spec_l1New.l0 kq l0 aC aA = some (r1, r2, r3)) ∧ Aside0 (kq ≤ k) ∧ Aside0 (Below w0.heap.size w0 w') ∧ Aside0 (Below w.heap.size w w'))
 case atStart => exact ⟨(wrap64 (27397 + (l0.length : Int))), (0), xE, xE, H', ⟨Nat.le_refl _⟩, ⟨bl HB.out⟩, ⟨by repeat (first | (with_reducible first | exact HBW.out | apply below_alloc | apply pw_below_drewN | apply below_drew1) | exact HBW.out)⟩⟩
 case round =>
  clear H'
  obtain ⟨aC, aA, rfl, rfl, HA, bA, HB, HBW⟩ := hrel
  cases gk with
  | zero => exact absurd HA.out (by simp [spec_l1New.l0])
  | succ k1 =>
   have H := HA.out
   clear HA
   simp only [spec_l1New.l0] at H
   by_cases c2 : aA < (l0.length : Int)
   case neg =>
    rw [if_neg c2] at H
    have bD := decide_eq_false c2
    clear c2
    simp only [Option.some.injEq, Prod.mk.injEq] at H
    obtain ⟨rfl, rfl, rfl⟩ := H
    go_wp2_with (first | ((with_reducible refine gD (N := 31) rfl ?_); refine bE (N := 31) (cs := #[.slice A0 l0.length c0, .int .i64 0, aC]) (t := 91) ?_; intro aD hg w6 hbox hb; have aK := aM (hbox); have aN := aM ((by rw [hg]; exact (below_size (by repeat (first | (with_reducible first | exact HBW.out | apply below_alloc | apply pw_below_drewN | apply below_drew1) | exact HBW.out))) : w.heap.size ≤ aD)); have aQ := aM ((Nat.le_trans HW0.out (by rw [hg]; exact (below_size (by repeat (first | (with_reducible first | exact HBW.out | apply below_alloc | apply pw_below_drewN | apply below_drew1) | exact HBW.out))) : w.heap.size ≤ aD) : w0.heap.size ≤ aD)); replace HBW := aM (bS HBW.out hb); replace HB := rS HB hb; clear hb hbox hg))
    go_ret
    exact ⟨_, rfl, (show IsS91 w0 _ aD l0 0 aC from ⟨_, _, by (with_reducible repeat (first | refine blk_drewN ?_ _ | refine blk_drew ?_ | refine blk_alloc ?_ _)); exact aK.out, aQ.out, ⟨aJ.out, aX.out⟩⟩), bl HB.out, by repeat (first | (with_reducible first | exact HBW.out | apply below_alloc | apply pw_below_drewN | apply below_drew1 | refine below_set ?_ aN.out) | exact HBW.out)⟩
   rw [if_pos c2] at H
   have bD := decide_eq_true c2
   clear c2
   by_cases c3 : aA < 4000
   case neg =>
    rw [if_neg c3] at H
    have bG := decide_eq_false c3
    clear c3
    simp only [Option.some.injEq, Prod.mk.injEq] at H
    obtain ⟨rfl, rfl, rfl⟩ := H
    go_wp2_with (first | ((with_reducible refine gD (N := 31) rfl ?_); refine bE (N := 31) (cs := #[.slice A0 l0.length c0, .int .i64 0, aC]) (t := 91) ?_; intro aE hg w5 hbox hb; have aT := aM (hbox); have aV := aM ((by rw [hg]; exact (below_size (by repeat (first | (with_reducible first | exact HBW.out | apply below_alloc | apply pw_below_drewN | apply below_drew1) | exact HBW.out))) : w.heap.size ≤ aE)); have aW := aM ((Nat.le_trans HW0.out (by rw [hg]; exact (below_size (by repeat (first | (with_reducible first | exact HBW.out | apply below_alloc | apply pw_below_drewN | apply below_drew1) | exact HBW.out))) : w.heap.size ≤ aE) : w0.heap.size ≤ aE)); replace HBW := aM (bS HBW.out hb); replace HB := rS HB hb; clear hb hbox hg))
    go_ret
    exact ⟨_, rfl, (show IsS91 w0 _ aE l0 0 aC from ⟨_, _, by (with_reducible repeat (first | refine blk_drewN ?_ _ | refine blk_drew ?_ | refine blk_alloc ?_ _)); exact aT.out, aW.out, ⟨aJ.out, aX.out⟩⟩), bl HB.out, by repeat (first | (with_reducible first | exact HBW.out | apply below_alloc | apply pw_below_drewN | apply below_drew1 | refine below_set ?_ aV.out) | exact HBW.out)⟩
   rw [if_pos c3] at H
   have bG := decide_eq_true c3
   clear c3
   obtain ⟨bK, H⟩ := gI H
   have H' := aM H
   clear H
   have aH : 0 ≤ (aA : Int) := dT
   have aI : aA < (l0.length : Int) := dT
   obtain ⟨bI, bH, aG⟩ := Kd.at_int aJ.out aA aH aI
   cases bH
   replace aG := pw_cell_below HB.out aG
   replace aH := eq_true aH
   replace aI := eq_true aI
   go_wp2
   go_roundg k1
   case measure => have := bA.out; omega
   case rel => exact ⟨(Go.bits .and .i64 (wrap64 ((wrap64 ((wrap64 (aC * 131)) + (wrap64 (rd l0 aA)))) + 7)) 1073741823), (wS aA), xE, xE, H', ⟨by have := bA.out; omega⟩, ⟨bl HB.out⟩, ⟨by repeat (first | (with_reducible first | exact HBW.out | apply below_alloc | apply pw_below_drewN | apply below_drew1) | exact HBW.out)⟩⟩

def spec_DrawFrameBytes.f (k : Nat) (l0 : List Int) : Option (Int × Int × Int × List Int) := (spec_l1New.f k l0).bind fun aC => ((spec_l2Draw.f k aC.1 aC.2.1 aC.2.2).bind fun aA => (some (aA.1, aA.2.1, aA.2.2.1, aA.2.2.2.1)))
theorem spec_DrawFrameBytes.mono : ∀ a0 k, LeO (spec_DrawFrameBytes.f k a0) (spec_DrawFrameBytes.f (k + 1) a0) := by
 intro a0 k
 unfold spec_DrawFrameBytes.f
 repeat' first|(with_reducible first|apply spec_l1New.mono|apply spec_l2Draw.mono|exact lR _|exact lN _|refine lI ?_ ?_|refine lB ?_ fun _ => ?_)|exact lN _|refine lI ?_ ?_|refine lB ?_ fun _ => ?_
set_option maxHeartbeats 60000000 in
set_option maxRecDepth 100000 in
theorem spec_DrawFrameBytes.calls (k : Nat) (A0 : Option Addr) (c0 : Nat) (l0 : List Int) (r1 r2 r3 : Int) (r4 : List Int) (w : World) (hr0 : Kd.C (Kd.int .u8) w A0 l0.length l0) (hc0 : l0.length ≤ c0) (h : spec_DrawFrameBytes.f k l0 = some (r1, r2, r3, r4)) :
  Calls Try.prog 7 #[.slice A0 l0.length c0] w fun e w' => ∃ bA : Value, e = .returned (.agg #[r1, r2, r3, bA]) ∧ Kd.R (Kd.int .u8) 5 w' w.heap.size (fun _ => True) bA r4 ∧ Below w.heap.size w w' := by
 have bQ := Try.underlying25
 have bL := aM hr0
 have bM := aM hc0
 clear hr0 hc0
 have HB := aM (Below.refl w.heap.size w)
 have H : ((spec_l1New.f k l0).bind fun aG => ((spec_l2Draw.f k aG.1 aG.2.1 aG.2.2).bind fun aE => (some (aE.1, aE.2.1, aE.2.2.1, aE.2.2.2.1)))) = some (r1, r2, r3, r4) := h
 clear h
 obtain ⟨⟨aV, aW, aX⟩, bD, H⟩ := hB H
 try dsimp only at H
 have A2 := aM bD
 clear bD
 obtain ⟨⟨aI, aJ, aK, aN, bJ, bK⟩, bG, H⟩ := hB H
 try dsimp only at H
 have A3 := aM bG
 clear bG
 simp only [Option.some.injEq, Prod.mk.injEq] at H
 obtain ⟨rfl, rfl, rfl, rfl⟩ := H
 go_enter Try.func7, Try.ntmps7
 go_wp2_with (first | ((with_reducible refine gD (N := 2) rfl ?_); refine bE (N := 2) (cs := #[.int .i64 0, .int .i64 0, .int .i64 0, .slice none 0 0]) (t := 25) ?_; intro aC hg w4 hbox hb; have aA := aM (hbox); have bO := gF hg HB; have bP := gF hg HB; replace HB := rS HB hb; clear hb hbox hg) | ((with_reducible refine gC (f := 40) rfl ?_); refine gL (some 4) Try.func40 #[.slice A0 l0.length c0] ?_; (with_reducible refine (spec_l1New.calls k _ _ l0 aV aW aX w _ ?side1 ?side2 ?side3 A2.out).mono ?_); (case side1 => exact bl HB.out); (case side2 => exact bL.out); (case side3 => exact bM.out); rintro e w5 ⟨g185, rfl, hi, hb, hb2⟩; refine ⟨_, rfl, ?_⟩; have aQ := aM (hi); have aH := aM (IsS91.ne_blk hi (bB (bk aA.out) hb2) (by decide)); have aD := aM (Ne.symm (IsS91.ne_blk hi (bB (bk aA.out) hb2) (by decide))); replace aA := aM (bB (bk aA.out) hb2); replace HB := aM (hb); (repeat first|clear hb|clear hb2|clear hi)) | ((with_reducible refine gC (f := 39) rfl ?_); refine gL (some 5) Try.func39 #[.pointer (some ⟨g185, 0, none⟩)] ?_; (with_reducible refine (spec_l2Draw.calls k g185 aV aW aX aI aJ aK aN bJ bK w _ ?side1 ?side2 A3.out).mono ?_); (case side1 => exact IsS91.mv aQ.out); (case side2 => exact IsS91.bl HB.out); rintro e w6 ⟨bT, rfl, ho0, hi, hb, hk⟩; refine ⟨_, rfl, ?_⟩; have aT := aM (Kd.R_lower ho0 (below_size (IsS91.bl HB.out))); replace aA := rP hk aA aD; replace HB := aM (hb); replace aQ := aM (hi); (repeat first|clear hb|clear hk|clear hi|clear ho0); have bU := aD.out; have bV := aH.out; have bW := cA4 aA.out; obtain ⟨bH, bI, bN⟩ := Kd.R_slice aT.out; subst bN))
 refine bodyPost_ret (results_cell_row rfl _ _ aC 25 #[aI, aJ, aK, .slice bH aN.length bI] (0, 0) _ rfl (bm aA.out) Try.underlying25 rfl (by kernel_rfl)) rfl ?_
 exact ⟨_, xW, by (with_reducible repeat (first | apply Kd.R_alloc | apply Kd.R_drewN | apply Kd.R_drew)); exact Kd.R_mono (kF (p := ⟨aC, 3, none⟩) (kF (p := ⟨aC, 2, none⟩) (kF (p := ⟨aC, 1, none⟩) (kF (p := ⟨aC, 0, none⟩) (Kd.R_types aT.out aA.out (by decide)) (fun _ hk => hk.2) (.int .i64 aI)) (fun _ hk => hk.2) (.int .i64 aJ)) (fun _ hk => hk.2) (.int .i64 aK)) (fun _ hk => hk.2) (.slice bH aN.length bI)) (fun _ hk => trivial), IsS91.bl HB.out⟩

end Go.Proofs.Ytaoipjdmmamkmaa.PFnFrames

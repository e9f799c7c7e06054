/- A part of the proof of laws.FnFrames. No condition beyond what its theorems say. -/
import Derived.Test.YtaoipjdmmamkmaaVFnFramesPx0
namespace Go.Proofs.Ytaoipjdmmamkmaa.PFnFrames
open Go.RowKit Go.Proofs.YtaoipjdmmamkmaaW.PrintWords Go.Proofs.YtaoipjdmmamkmaaW.PrintLast Go.Proofs.YtaoipjdmmamkmaaW.PrintMore
set_option linter.unusedVariables false
set_option linter.unusedSimpArgs false

def impl_inRange.f (a0 a1 a2 : Int) : Option (Bool) := if a0 ≥ a1 then (some (decide (a0 ≤ a2))) else (some false)
set_option maxHeartbeats 60000000 in
set_option maxRecDepth 100000 in
theorem impl_inRange.calls (a0 a1 a2 : Int) (r : Bool) (w : World) (h : impl_inRange.f a0 a1 a2 = some r) :
  Calls Try.prog 55 #[a0, a1, a2] w fun e w' => e = .returned (.bool r) ∧ Drawn0 w w' := by
 have H : (if a0 ≥ a1 then (some (decide (a0 ≤ a2))) else (some false)) = some r := h
 clear h
 by_cases c4 : a0 ≥ a1
 case pos =>
  rw [if_pos c4] at H
  have aA := decide_eq_true c4
  clear c4
  obtain rfl := Option.some.inj H
  go_enter Try.func55, Try.ntmps55
  go_wp2
  go_ret
  exact ⟨by first | rfl | (simp; done) | (simp [*]; done), by repeat (first | exact Drawn0.refl _ | apply Drawn0.step)⟩
 rw [if_neg c4] at H
 have aA := decide_eq_false c4
 clear c4
 obtain rfl := Option.some.inj H
 go_enter Try.func55, Try.ntmps55
 go_wp2
 go_ret
 exact ⟨by first | rfl | (simp; done) | (simp [*]; done), by repeat (first | exact Drawn0.refl _ | apply Drawn0.step)⟩

def impl_isAddr.f (a0 : Int) : Option (Bool) := (impl_inRange.f a0 1 9).bind fun aA => (some aA)
set_option maxHeartbeats 60000000 in
set_option maxRecDepth 100000 in
theorem impl_isAddr.calls (a0 : Int) (r : Bool) (w : World) (h : impl_isAddr.f a0 = some r) :
  Calls Try.prog 56 #[a0] w fun e w' => e = .returned (.bool r) ∧ Drawn0 w w' := by
 have H : ((impl_inRange.f a0 1 9).bind fun aA => (some aA)) = some r := h
 clear h
 obtain ⟨aA, aC, H⟩ := hB H
 have A2 := aM aC
 clear aC
 obtain rfl := Option.some.inj H
 go_enter Try.func56, Try.ntmps56
 go_wp2_with (first | ((with_reducible refine gC (f := 55) rfl ?_); refine gL (some 4) Try.func55 #[a0, .int .i64 1, .int .i64 9] ?_; (with_reducible refine (impl_inRange.calls a0 1 9 aA _ A2.out).mono ?_); rintro e w' ⟨rfl, ⟨nd, rfl⟩⟩; refine ⟨_, rfl, ?_⟩))
 go_ret
 exact ⟨by first | rfl | (simp; done) | (simp [*]; done), by repeat (first | exact Drawn0.refl _ | apply Drawn0.step)⟩

def impl_FrameOk.f (aA aC aD : Int) (aE : List Int) : Option (Bool) := (impl_inRange.f aA 0 9).bind fun aG => (if aG = true then ((impl_isAddr.f aC).bind fun aH => (if aH = true then ((impl_inRange.f aD 0 4).bind fun aI => (if aI = true then (some (decide ((aE.length : Int) ≤ 30))) else (some false))) else (some false))) else (some false))
set_option maxHeartbeats 60000000 in
set_option maxRecDepth 100000 in
theorem impl_FrameOk.calls (aA aC aE : Int) (aH : Option Addr) (aI : Nat) (aD : List Int) (r : Bool) (w : World) (hr0_3 : Kd.C (Kd.int .u8) w aH aD.length aD) (hc0_3 : aD.length ≤ aI) (h : impl_FrameOk.f aA aC aE aD = some r) :
  Calls Try.prog 16 #[.agg #[aA, aC, aE, .slice aH aD.length aI]] w fun e w' => e = .returned (.bool r) ∧ Below w.heap.size w w' := by
 have bK := Try.underlying25
 have bD := aM hr0_3
 have bG := aM hc0_3
 clear hr0_3 hc0_3
 have HB := aM (Below.refl w.heap.size w)
 have H : ((impl_inRange.f aA 0 9).bind fun aQ => (if aQ = true then ((impl_isAddr.f aC).bind fun aT => (if aT = true then ((impl_inRange.f aE 0 4).bind fun aV => (if aV = true then (some (decide ((aD.length : Int) ≤ 30))) else (some false))) else (some false))) else (some false))) = some r := h
 clear h
 obtain ⟨aQ, aW, H⟩ := hB H
 have A2 := aM aW
 clear aW
 by_cases c3 : aQ = true
 case neg =>
  replace c3 := Bool.eq_false_iff.mpr c3
  subst c3
  replace H := hF H
  obtain rfl := Option.some.inj H
  go_enter Try.func16, Try.ntmps16
  go_wp2_with (first | ((with_reducible refine gD (N := 1) rfl ?_); (try (refine gate_guard (by rfl) ?_; dsimp only)); refine bE (N := 1) (cs := #[aA, aC, aE, .slice aH aD.length aI]) (t := 25) ?_; intro aJ hg bM hbox hb; have aG := aM (hbox); have aK := gF hg HB; have aN := gF hg HB; replace HB := rS HB hb; clear hb hbox hg; have bH := cA4 aG.out) | ((with_reducible refine gC (f := 55) rfl ?_); refine gL (some 5) Try.func55 #[aA, .int .i64 0, .int .i64 9] ?_; (with_reducible refine (impl_inRange.calls aA 0 9 false _ A2.out).mono ?_); rintro e w' ⟨rfl, ⟨nd, rfl⟩⟩; refine ⟨_, rfl, ?_⟩))
  go_ret
  exact ⟨xW, bl HB.out⟩
 subst c3
 replace H := hP H rfl
 obtain ⟨aT, aX, H⟩ := hB H
 have A4 := aM aX
 clear aX
 by_cases c5 : aT = true
 case neg =>
  replace c5 := Bool.eq_false_iff.mpr c5
  subst c5
  replace H := hF H
  obtain rfl := Option.some.inj H
  go_enter Try.func16, Try.ntmps16
  go_wp2_with (first | ((with_reducible refine gD (N := 1) rfl ?_); (try (refine gate_guard (by rfl) ?_; dsimp only)); refine bE (N := 1) (cs := #[aA, aC, aE, .slice aH aD.length aI]) (t := 25) ?_; intro aJ hg bN hbox hb; have aG := aM (hbox); have aK := gF hg HB; have aN := gF hg HB; replace HB := rS HB hb; clear hb hbox hg; have bI := cA4 aG.out) | ((with_reducible refine gC (f := 55) rfl ?_); refine gL (some 5) Try.func55 #[aA, .int .i64 0, .int .i64 9] ?_; (with_reducible refine (impl_inRange.calls aA 0 9 true _ A2.out).mono ?_); rintro e w' ⟨rfl, ⟨nd, rfl⟩⟩; refine ⟨_, rfl, ?_⟩) | (go_at_call 56; (with_reducible refine (impl_isAddr.calls aC false _ A4.out).mono ?_); rintro e w' ⟨rfl, ⟨nd, rfl⟩⟩))
  go_ret
  exact ⟨xW, bl HB.out⟩
 subst c5
 replace H := hP H rfl
 obtain ⟨aV, bA, H⟩ := hB H
 have A6 := aM bA
 clear bA
 by_cases c7 : aV = true
 case pos =>
  subst c7
  replace H := hP H rfl
  obtain rfl := Option.some.inj H
  go_enter Try.func16, Try.ntmps16
  go_wp2_with (first | ((with_reducible refine gD (N := 1) rfl ?_); (try (refine gate_guard (by rfl) ?_; dsimp only)); refine bE (N := 1) (cs := #[aA, aC, aE, .slice aH aD.length aI]) (t := 25) ?_; intro aJ hg w8 hbox hb; have aG := aM (hbox); have aK := gF hg HB; have aN := gF hg HB; replace HB := rS HB hb; clear hb hbox hg; have bL := cA4 aG.out) | ((with_reducible refine gC (f := 55) rfl ?_); refine gL (some 5) Try.func55 #[aA, .int .i64 0, .int .i64 9] ?_; (with_reducible refine (impl_inRange.calls aA 0 9 true _ A2.out).mono ?_); rintro e w' ⟨rfl, ⟨nd, rfl⟩⟩; refine ⟨_, rfl, ?_⟩) | (go_at_call 56; (with_reducible refine (impl_isAddr.calls aC true _ A4.out).mono ?_); rintro e w' ⟨rfl, ⟨nd, rfl⟩⟩) | (go_at_call 55; (with_reducible refine (impl_inRange.calls aE 0 4 true _ A6.out).mono ?_); rintro e w' ⟨rfl, ⟨nd, rfl⟩⟩))
  go_ret
  exact ⟨xW, bl HB.out⟩
 replace c7 := Bool.eq_false_iff.mpr c7
 subst c7
 replace H := hF H
 obtain rfl := Option.some.inj H
 go_enter Try.func16, Try.ntmps16
 go_wp2_with (first | ((with_reducible refine gD (N := 1) rfl ?_); (try (refine gate_guard (by rfl) ?_; dsimp only)); refine bE (N := 1) (cs := #[aA, aC, aE, .slice aH aD.length aI]) (t := 25) ?_; intro aJ hg bO hbox hb; have aG := aM (hbox); have aK := gF hg HB; have aN := gF hg HB; replace HB := rS HB hb; clear hb hbox hg; have bJ := cA4 aG.out) | ((with_reducible refine gC (f := 55) rfl ?_); refine gL (some 5) Try.func55 #[aA, .int .i64 0, .int .i64 9] ?_; (with_reducible refine (impl_inRange.calls aA 0 9 true _ A2.out).mono ?_); rintro e w' ⟨rfl, ⟨nd, rfl⟩⟩; refine ⟨_, rfl, ?_⟩) | (go_at_call 56; (with_reducible refine (impl_isAddr.calls aC true _ A4.out).mono ?_); rintro e w' ⟨rfl, ⟨nd, rfl⟩⟩) | (go_at_call 55; (with_reducible refine (impl_inRange.calls aE 0 4 false _ A6.out).mono ?_); rintro e w' ⟨rfl, ⟨nd, rfl⟩⟩))
 go_ret
 exact ⟨xW, bl HB.out⟩

def impl_PutNum.l0 : Nat → Int → List Int → Option (List Int)
 | 0, _, _ => none
 | k + 1, x0, x3 => if x0 > 127 then (if x3.length < 140737488355328 then (impl_PutNum.l0 k (wrap64 (Int.tdiv x0 128)) (x3 ++ [(wrap64 (128 + (Int.tmod x0 128))) % 256])) else (none)) else (if x3.length < 140737488355328 then (some (x3 ++ [(x0) % 256])) else (none))
def impl_PutNum.f (k : Nat) (a0 : Int) : Option (List Int) := (impl_inRange.f a0 0 2147483647).bind fun aA => (if aA = true then (impl_PutNum.l0 k a0 ([] : List Int)) else (some ([] : List Int)))
theorem impl_PutNum.mono_l : ∀ k, (∀ y0 y1, LeO (impl_PutNum.l0 k y0 y1) (impl_PutNum.l0 (k + 1) y0 y1))
 | 0 => fun _ _ r h => by simp [impl_PutNum.l0] at h
 | k + 1 => by
  have ih0 := impl_PutNum.mono_l k
  ·intro y0 y1
   unfold impl_PutNum.l0
   repeat' first|(with_reducible first|apply ih0|exact lR _|exact lN _|refine lI ?_ ?_|refine lB ?_ fun _ => ?_)|exact lN _|refine lI ?_ ?_|refine lB ?_ fun _ => ?_
theorem impl_PutNum.mono : ∀ a0 k, LeO (impl_PutNum.f k a0) (impl_PutNum.f (k + 1) a0) := by
 intro a0 k
 have ih0 := impl_PutNum.mono_l k
 unfold impl_PutNum.f
 repeat' first|(with_reducible first|apply ih0|exact lR _|exact lN _|refine lI ?_ ?_|refine lB ?_ fun _ => ?_)|exact lN _|refine lI ?_ ?_|refine lB ?_ fun _ => ?_
set_option maxHeartbeats 60000000 in
set_option maxRecDepth 100000 in
theorem impl_PutNum.calls (k : Nat) (a0 : Int) (r : List Int) (w : World) (h : impl_PutNum.f k a0 = some r) :
  Calls Try.prog 74 #[a0] w fun e w' => ∃ aT : Value, e = .returned (aT) ∧ Kd.R (Kd.int .u8) 5 w' w.heap.size (fun _ => True) aT r ∧ Below w.heap.size w w' := by
 have HB := aM (Below.refl w.heap.size w)
 have H : ((impl_inRange.f a0 0 2147483647).bind fun aH => (if aH = true then (impl_PutNum.l0 k a0 ([] : List Int)) else (some ([] : List Int)))) = some r := h
 clear h
 obtain ⟨aH, aV, H⟩ := hB H
 have A2 := aM aV
 clear aV
 by_cases c3 : aH = true
 case neg =>
  replace c3 := Bool.eq_false_iff.mpr c3
  subst c3
  replace H := hF H
  obtain rfl := Option.some.inj H
  go_enter Try.func74, Try.ntmps74
  go_wp2_with (first | ((with_reducible refine gC (f := 55) rfl ?_); refine gL (some 5) Try.func55 #[a0, .int .i64 0, .int .i64 2147483647] ?_; (with_reducible refine (impl_inRange.calls a0 0 2147483647 false _ A2.out).mono ?_); rintro e w' ⟨rfl, ⟨nd, rfl⟩⟩; refine ⟨_, rfl, ?_⟩))
  go_ret
  exact ⟨_, xW, by first | exact Kd.R_nil _ _ _ _ _ | exact Kd.N_nil _ _ _ _ _ | exact Kd.V_nil _ _ _ _ _ | exact Kd.Q_nil _ _ _ _ _ | exact Kd.S_nil _ _ _ _ _, bl HB.out⟩
 subst c3
 replace H := hP H rfl
 have H' := aM H
 clear H
 go_enter Try.func74, Try.ntmps74
 go_wp2_with (first | ((with_reducible refine gC (f := 55) rfl ?_); refine gL (some 5) Try.func55 #[a0, .int .i64 0, .int .i64 2147483647] ?_; (with_reducible refine (impl_inRange.calls a0 0 2147483647 true _ A2.out).mono ?_); rintro e w' ⟨rfl, ⟨nd, rfl⟩⟩; refine ⟨_, rfl, ?_⟩))
 go_loopg [0, 3] k (fun kq v0 v3 w' => ∃ (aA : Int) (aC : List Int), v0 = .int .i64 aA ∧ Aside0 (impl_PutNum.l0 kq aA aC = some r) ∧ Aside0 (kq ≤ k) ∧ Aside0 (Kd.R (Kd.int .u8) 5 w' w.heap.size (fun _ => True) v3 aC) ∧ Aside0 (Below w.heap.size w w'))
 case atStart => exact ⟨(a0), (([] : List Int)), xE, H', ⟨Nat.le_refl _⟩, ⟨by first | exact Kd.R_nil _ _ _ _ _ | exact Kd.N_nil _ _ _ _ _ | exact Kd.V_nil _ _ _ _ _ | exact Kd.Q_nil _ _ _ _ _ | exact Kd.S_nil _ _ _ _ _⟩, ⟨bl HB.out⟩⟩
 case round =>
  clear H'
  repeat first|clear p2|clear c3
  obtain ⟨aA, aC, rfl, HA, aW, aG, HB⟩ := hrel
  cases gk with
  | zero => exact absurd HA.out (by simp [impl_PutNum.l0])
  | succ k1 =>
   have H := HA.out
   clear HA
   simp only [impl_PutNum.l0] at H
   by_cases c4 : aA > 127
   case neg =>
    rw [if_neg c4] at H
    have aX := decide_eq_false c4
    clear c4
    by_cases c7 : aC.length < 140737488355328
    case neg =>
     rw [if_neg c7] at H
     exact absurd H (by simp)
    rw [if_pos c7] at H
    have LMc7 := aM c7
    clear c7
    obtain ⟨bA, aD⟩ : ∃ y_ : List Int, y_ = (aC ++ [(aA) % 256]) := ⟨_, rfl⟩
    replace H : (some bA) = some r := by first | (rw [aD]; with_reducible exact H) | (have H2_ := (Option.bind_some _ _).symm.trans H; rw [aD]; with_reducible exact H2_) | (have H2_ := (Option.bind_some _ _).symm.trans H; with_reducible exact H2_) | with_reducible exact H | (rw [aD]; exact H) | exact H
    have aJ := aM aD
    clear aD
    obtain rfl := Option.some.inj H
    go_wp2_with (first | ((with_reducible refine gate_builtin (b := .append) (xs := #[.tmp 18, .tmp 21]) rfl ?_); at_builtin; refine Kd.R_append (Kd.int .u8) (w0 := w) w.heap.size rfl (.tmp 18) (.tmp 21) 22 5 (.int .u8 0) 1 rfl Try.underlying22 info5 rfl (by decide) (by omega) u3 aC ((aA) % 256) [.int .u8 ((aA) % 256)] (fun _ => True) (fun _ => False) rfl rfl ?aP (fun _ hk => hk.elim) ?aF ?aO ?aB ?aS ?aL ?_; (case aP => exact rfl); (case aB => exact (bl HB.out)); (case aF => exact (fun _ _ => trivial)); (case aO => exact (kr aG.out)); (case aS => exact (below_size (bl HB.out))); (case aL => have := LMc7.out; omega); intro bD w8 ho hb hg hat; rw [← aJ.out] at ho; have aK := aM (ho); replace HB := aM (hb); clear aG; clear ho hb hg hat))
    go_ret
    exact ⟨_, xW, by (with_reducible repeat (first | apply Kd.R_alloc | apply Kd.R_drewN | apply Kd.R_drew)); exact aK.out, bl HB.out⟩
   rw [if_pos c4] at H
   have aX := decide_eq_true c4
   clear c4
   by_cases c5 : aC.length < 140737488355328
   case neg =>
    rw [if_neg c5] at H
    exact absurd H (by simp)
   rw [if_pos c5] at H
   have LMc5 := aM c5
   clear c5
   obtain ⟨aI, aE⟩ : ∃ y_ : List Int, y_ = (aC ++ [(wrap64 (128 + (Int.tmod aA 128))) % 256]) := ⟨_, rfl⟩
   replace H : (impl_PutNum.l0 k1 (wrap64 (Int.tdiv aA 128)) aI) = some r := by first | (rw [aE]; with_reducible exact H) | (have H2_ := (Option.bind_some _ _).symm.trans H; rw [aE]; with_reducible exact H2_) | (have H2_ := (Option.bind_some _ _).symm.trans H; with_reducible exact H2_) | with_reducible exact H | (rw [aE]; exact H) | exact H
   have aN := aM aE
   clear aE
   have H' := aM H
   clear H
   go_wp2_with (first | ((with_reducible refine gate_builtin (b := .append) (xs := #[.tmp 9, .tmp 14]) rfl ?_); at_builtin; refine Kd.R_append (Kd.int .u8) (w0 := w) w.heap.size rfl (.tmp 9) (.tmp 14) 22 5 (.int .u8 0) 1 rfl Try.underlying22 info5 rfl (by decide) (by omega) u3 aC ((wrap64 (128 + (Int.tmod aA 128))) % 256) [.int .u8 ((wrap64 (128 + (Int.tmod aA 128))) % 256)] (fun _ => True) (fun _ => False) rfl rfl ?aP (fun _ hk => hk.elim) ?aF ?aO ?aB ?aS ?aL ?_; (case aP => exact rfl); (case aB => exact (bl HB.out)); (case aF => exact (fun _ _ => trivial)); (case aO => exact (kr aG.out)); (case aS => exact (below_size (bl HB.out))); (case aL => have := LMc5.out; omega); intro bG w6 ho hb hg hat; rw [← aN.out] at ho; have aQ := aM (ho); replace HB := aM (hb); clear aG; clear ho hb hg hat))
   go_roundg k1
   case measure => have := aW.out; omega
   case rel => exact ⟨(wrap64 (Int.tdiv aA 128)), (aI), xE, H', ⟨by have := aW.out; omega⟩, ⟨kr aQ.out⟩, ⟨bl HB.out⟩⟩

def impl_putNums.l0 : Nat → List Int → List Int → Int → Int → Option (List Int)
 | 0, _, _, _, _ => none
 | k + 1, x0, x7, x8, x9 => if x9 < x8 then (if 0 ≤ x9 then (if x9 < (x7.length : Int) then ((impl_PutNum.f k (rd x7 x9)).bind fun aA => (if x0.length + aA.length < 140737488355328 then (impl_putNums.l0 k (x0 ++ aA) x7 x8 (wrap64 (x9 + 1))) else (none))) else (none)) else (none)) else (some x0)
def impl_putNums.f (k : Nat) (l0 : List Int) (l1 : List Int) : Option (List Int) := impl_putNums.l0 k l0 l1 (l1.length : Int) 0
theorem impl_putNums.mono_l : ∀ k, (∀ y0 y1 y2 y3, LeO (impl_putNums.l0 k y0 y1 y2 y3) (impl_putNums.l0 (k + 1) y0 y1 y2 y3))
 | 0 => fun _ _ _ _ r h => by simp [impl_putNums.l0] at h
 | k + 1 => by
  have ih0 := impl_putNums.mono_l k
  ·intro y0 y1 y2 y3
   unfold impl_putNums.l0
   repeat' first|(with_reducible first|apply ih0|apply impl_PutNum.mono|exact lR _|exact lN _|refine lI ?_ ?_|refine lB ?_ fun _ => ?_)|exact lN _|refine lI ?_ ?_|refine lB ?_ fun _ => ?_
theorem impl_putNums.mono : ∀ a0 a1 k, LeO (impl_putNums.f k a0 a1) (impl_putNums.f (k + 1) a0 a1) := by
 intro a0 a1 k
 have ih0 := impl_putNums.mono_l k
 unfold impl_putNums.f
 repeat' first|(with_reducible first|apply ih0|apply impl_PutNum.mono|exact lR _|exact lN _|refine lI ?_ ?_|refine lB ?_ fun _ => ?_)|exact lN _|refine lI ?_ ?_|refine lB ?_ fun _ => ?_
set_option maxHeartbeats 60000000 in
set_option maxRecDepth 100000 in
theorem impl_putNums.calls (k : Nat) (P0_ : Nat → Prop) (aH : Value) (l0 : List Int) (A1 : Option Addr) (c1 : Nat) (l1 : List Int) (r : List Int) (w0 w : World) (hB : Below w0.heap.size w0 w) (ho0 : Kd.R (Kd.int .u8) 5 w w0.heap.size P0_ aH l0) (hr1 : ∀ W_, Kept w W_ (fun k_ => P0_ k_) → Kd.C (Kd.int .i64) W_ A1 l1.length l1) (hc1 : l1.length ≤ c1) (h : impl_putNums.f k l0 l1 = some r) :
  Calls Try.prog 41 #[aH, .slice A1 l1.length c1] w fun e w' => ∃ aV : Value, e = .returned (aV) ∧ Kd.R (Kd.int .u8) 5 w' w0.heap.size (fun k_ => (P0_ k_ ∨ w.heap.size ≤ k_)) aV r ∧ Below w0.heap.size w0 w' ∧ Kept w w' (fun k_ => P0_ k_) := by
 have bK := aM (show Kd.R (Kd.int .u8) 5 w w0.heap.size (fun k_ => (P0_ k_ ∨ w.heap.size ≤ k_)) aH l0 from Kd.R_mono ho0 (fun k_ hk => (.inl hk)))
 have bL := aM hr1
 have bT := aM hc1
 clear hr1 hc1
 have HK := aM (Kept.refl w (fun k_ => P0_ k_))
 have HW0 := aM hB.size
 have HB := aM hB
 clear hB
 have H : (impl_putNums.l0 k l0 l1 (l1.length : Int) 0) = some r := h
 clear h
 have H' := aM H
 clear H
 go_enter Try.func41, Try.ntmps41
 go_wp2
 go_loopg [0, 9] k (fun kq v0 v9 w' => ∃ (aG : List Int) (aA : Int), v9 = .int .i64 aA ∧ Aside0 (impl_putNums.l0 kq aG l1 (l1.length : Int) aA = some r) ∧ Aside0 (kq ≤ k) ∧ Aside0 (Kd.R (Kd.int .u8) 5 w' w0.heap.size (fun k_ => (P0_ k_ ∨ w.heap.size ≤ k_)) v0 aG) ∧ Aside0 (Kept w w' (fun k_ => P0_ k_)) ∧ Aside0 (Below w0.heap.size w0 w'))
 case atStart => exact ⟨(l0), (0), xE, H', ⟨Nat.le_refl _⟩, ⟨kr bK.out⟩, ⟨kk HK.out⟩, ⟨bl HB.out⟩⟩
 case round =>
  clear H'
  repeat first|clear c1|clear p2
  obtain ⟨aG, aA, rfl, HA, aW, aC, HK, HB⟩ := hrel
  cases gk with
  | zero => exact absurd HA.out (by simp [impl_putNums.l0])
  | succ k1 =>
   have H := HA.out
   clear HA
   simp only [impl_putNums.l0] at H
   by_cases c3 : aA < (l1.length : Int)
   case neg =>
    rw [if_neg c3] at H
    have bA := decide_eq_false c3
    clear c3
    obtain rfl := Option.some.inj H
    go_wp2
    go_ret
    exact ⟨_, xW, by (with_reducible repeat (first | apply Kd.R_alloc | apply Kd.R_drewN | apply Kd.R_drew)); exact aC.out, bl HB.out, kk HK.out⟩
   rw [if_pos c3] at H
   have bA := decide_eq_true c3
   clear c3
   obtain ⟨bN, H⟩ := gI H
   obtain ⟨bO, H⟩ := gI H
   obtain ⟨aI, aX, H⟩ := hB H
   have A6 := aM aX
   clear aX
   by_cases c7 : aG.length + aI.length < 140737488355328
   case neg =>
    rw [if_neg c7] at H
    exact absurd H (by simp)
   rw [if_pos c7] at H
   have LMc7 := aM c7
   clear c7
   obtain ⟨aN, aD⟩ : ∃ y_ : List Int, y_ = (aG ++ aI) := ⟨_, rfl⟩
   replace H : (impl_putNums.l0 k1 aN l1 (l1.length : Int) (wS aA)) = some r := by first | (rw [aD]; with_reducible exact H) | (have H2_ := (Option.bind_some _ _).symm.trans H; rw [aD]; with_reducible exact H2_) | (have H2_ := (Option.bind_some _ _).symm.trans H; with_reducible exact H2_) | with_reducible exact H | (rw [aD]; exact H) | exact H
   have aQ := aM aD
   clear aD
   have H' := aM H
   clear H
   have aJ : 0 ≤ (aA : Int) := dT
   have aK : aA < (l1.length : Int) := dT
   obtain ⟨bM, bD, bJ⟩ := Kd.at_int (Kd.C_kept_now bL.out HK.out) aA aJ aK
   cases bD
   replace aJ := eq_true aJ
   replace aK := eq_true aK
   go_wp2_with (first | ((with_reducible refine gC (f := 74) rfl ?_); refine gL (some 15) Try.func74 #[.int .i64 (rd l1 aA)] ?_; (with_reducible refine (impl_PutNum.calls k1 (rd l1 aA) aI _ A6.out).mono ?_); rintro e w8 ⟨bP, rfl, ho0, hb⟩; refine ⟨_, rfl, ?_⟩; have aE := aM (Kd.R_lower (Kd.R_new' (Kd.R_newM (M := fun k_ => (P0_ k_ ∨ w.heap.size ≤ k_)) ho0 (kk HK.out).1 (fun k_ h_ => .inr h_)) (Kd.R_lt (kr aC.out))) (below_size (bl HB.out))); replace aC := aM (Kd.R_elder' (kr aC.out) (Kd.R_base ho0) hb); replace HK := aM (Kept.below (S := (fun k_ => P0_ k_)) (kk HK.out) hb); replace HB := rS HB hb; (repeat first|clear hb|clear ho0); obtain ⟨bG, bH, bI⟩ := Kd.R_slice aE.out; subst bI) | ((with_reducible refine gate_builtin (b := .append) (xs := #[.tmp 13, .tmp 15]) rfl ?_); at_builtin; refine Kd.R_append_rows (Kd.int .u8) (w0 := w0) w0.heap.size rfl (.tmp 13) (.tmp 15) 22 5 (.int .u8 0) 1 rfl Try.underlying22 info5 rfl (by decide) (by omega) u0 aG aI _ _ _ (fun k_ => (P0_ k_ ∨ w.heap.size ≤ k_) ∧ some k_ ≠ (.slice bG aI.length bH : Value).ownBlock) (fun _ => False) rfl rfl ?aO ?aR (fun _ _ h => h) (fun _ h => h.elim) ?aF ?aB ?aS ?aL ?_; (case aR => repeat (first | exact (Kd.R_reads' aE.out).2.2 | (with_reducible refine Kd.C_alloc ?_ _) | (with_reducible refine Kd.C_drewN ?_ _) | (with_reducible refine Kd.C_drew ?_))); (case aB => exact (bl HB.out)); (case aF => exact (fun k_ hk => ⟨(.inr (Nat.le_trans (kk HK.out).1 hk)), Kd.fresh' (Kd.R_lt (kr aE.out)) k_ hk⟩)); (case aO => exact (kr aC.out)); (case aS => exact (below_size (bl HB.out))); (case aL => have := LMc7.out; omega); intro bQ w9 ho hb hg hat; rw [← aQ.out] at ho; have aT := aM (ho); replace aE := aM (Kd.R_after (ok := (fun k_ => (P0_ k_ ∨ w.heap.size ≤ k_))) (kr (Kd.R_mono aE.out (fun _ hk => ⟨hk.1.1, hk.2⟩))) hg hat); replace HB := aM (hb); replace HK := aM (Kept.of_grown (S := (fun k_ => P0_ k_)) hg (kk HK.out) (fun k_ e_ => (aC.out.1 k_ e_).1)); clear aC; clear ho hb hg hat))
   go_roundg k1
   case measure => have := aW.out; omega
   case rel => exact ⟨(aN), (wS aA), xE, H', ⟨by have := aW.out; omega⟩, ⟨kr (Kd.R_mono aT.out (fun _ hk => hk.1))⟩, ⟨kk HK.out⟩, ⟨bl HB.out⟩⟩

def impl_SumOf.l0 : Nat → Int → Int → List Int → Int → Int → Option (Int)
 | 0, _, _, _, _, _ => none
 | k + 1, x3, x4, x7, x8, x9 => if x9 < x8 then (if 0 ≤ x9 then (if x9 < (x7.length : Int) then (impl_SumOf.l0 k (Int.tmod (wrap64 (x3 + (wrap64 (rd x7 x9)))) 65521) (Int.tmod (wrap64 (x4 + (Int.tmod (wrap64 (x3 + (wrap64 (rd x7 x9)))) 65521))) 65521) x7 x8 (wrap64 (x9 + 1))) else (none)) else (none)) else (some (wrap64 ((wrap64 (x4 * 65536)) + x3)))
def impl_SumOf.f (k : Nat) (l0 : List Int) : Option (Int) := impl_SumOf.l0 k 1 0 l0 (l0.length : Int) 0
theorem impl_SumOf.mono_l : ∀ k, (∀ y0 y1 y2 y3 y4, LeO (impl_SumOf.l0 k y0 y1 y2 y3 y4) (impl_SumOf.l0 (k + 1) y0 y1 y2 y3 y4))
 | 0 => fun _ _ _ _ _ r h => by simp [impl_SumOf.l0] at h
 | k + 1 => by
  have ih0 := impl_SumOf.mono_l k
  ·intro y0 y1 y2 y3 y4
   unfold impl_SumOf.l0
   repeat' first|(with_reducible first|apply ih0|exact lR _|exact lN _|refine lI ?_ ?_|refine lB ?_ fun _ => ?_)|exact lN _|refine lI ?_ ?_|refine lB ?_ fun _ => ?_
theorem impl_SumOf.mono : ∀ a0 k, LeO (impl_SumOf.f k a0) (impl_SumOf.f (k + 1) a0) := by
 intro a0 k
 have ih0 := impl_SumOf.mono_l k
 unfold impl_SumOf.f
 repeat' first|(with_reducible first|apply ih0|exact lR _|exact lN _|refine lI ?_ ?_|refine lB ?_ fun _ => ?_)|exact lN _|refine lI ?_ ?_|refine lB ?_ fun _ => ?_
set_option maxHeartbeats 60000000 in
set_option maxRecDepth 100000 in
theorem impl_SumOf.calls (k : Nat) (A0 : Option Addr) (c0 : Nat) (l0 : List Int) (r : Int) (w : World) (hr0 : Kd.C (Kd.int .u8) w A0 l0.length l0) (hc0 : l0.length ≤ c0) (h : impl_SumOf.f k l0 = some r) :
  Calls Try.prog 75 #[.slice A0 l0.length c0] w fun e w' => e = .returned (.int .i64 r) ∧ Drawn0 w w' := by
 have aN := aM hr0
 have aW := aM hc0
 clear hr0 hc0
 have H : (impl_SumOf.l0 k 1 0 l0 (l0.length : Int) 0) = some r := h
 clear h
 have H' := aM H
 clear H
 go_enter Try.func75, Try.ntmps75
 go_wp2
 go_loopg [3, 4, 9] k (fun kq v3 v4 v9 w' => ∃ (aC : Int) (aD : Int) (aA : Int), v3 = .int .i64 aC ∧ v4 = .int .i64 aD ∧ v9 = .int .i64 aA ∧ Aside0 (impl_SumOf.l0 kq aC aD l0 (l0.length : Int) aA = some r) ∧ Aside0 (kq ≤ k) ∧ Drawn0 w w')
 case atStart => exact ⟨(1), (0), (0), xE, xE, xE, H', ⟨Nat.le_refl _⟩, by repeat (first | exact Drawn0.refl _ | apply Drawn0.step)⟩
 case round =>
  clear H'
  obtain ⟨aC, aD, aA, rfl, rfl, rfl, HA, aH, ⟨m1, rfl⟩⟩ := hrel
  cases gk with
  | zero => exact absurd HA.out (by simp [impl_SumOf.l0])
  | succ k1 =>
   have H := HA.out
   clear HA
   simp only [impl_SumOf.l0] at H
   by_cases c2 : aA < (l0.length : Int)
   case neg =>
    rw [if_neg c2] at H
    have aI := decide_eq_false c2
    clear c2
    obtain rfl := Option.some.inj H
    go_wp2
    go_ret
    exact ⟨by first | rfl | (simp; done) | (simp [*]; done), by repeat (first | exact Drawn0.refl _ | apply Drawn0.step)⟩
   rw [if_pos c2] at H
   have aI := decide_eq_true c2
   clear c2
   obtain ⟨aT, H⟩ := gI H
   obtain ⟨aV, H⟩ := gI H
   have H' := aM H
   clear H
   have aE : 0 ≤ (aA : Int) := dT
   have aG : aA < (l0.length : Int) := dT
   obtain ⟨aQ, aJ, aK⟩ := Kd.at_int aN.out aA aE aG
   cases aJ
   replace aE := eq_true aE
   replace aG := eq_true aG
   go_wp2
   go_roundg k1
   case measure => have := aH.out; omega
   case rel => exact ⟨(Int.tmod (wrap64 (aC + (wrap64 (rd l0 aA)))) 65521), (Int.tmod (wrap64 (aD + (Int.tmod (wrap64 (aC + (wrap64 (rd l0 aA)))) 65521))) 65521), (wS aA), xE, xE, xE, H', ⟨by have := aH.out; omega⟩, by repeat (first | exact Drawn0.refl _ | apply Drawn0.step)⟩

def impl_summed.f (k : Nat) (l0 : List Int) : Option (List Int) := (impl_SumOf.f k l0).bind fun aA => ((some (([(aA) % 256, (aA / 256) % 256, (aA / 65536) % 256, (aA / 16777216) % 256] : List Int) : List Int)).bind fun aC => (if l0.length + aC.length < 140737488355328 then (some (l0 ++ aC)) else (none)))
theorem impl_summed.mono : ∀ a0 k, LeO (impl_summed.f k a0) (impl_summed.f (k + 1) a0) := by
 intro a0 k
 unfold impl_summed.f
 repeat' first|(with_reducible first|apply impl_SumOf.mono|exact lR _|exact lN _|refine lI ?_ ?_|refine lB ?_ fun _ => ?_)|exact lN _|refine lI ?_ ?_|refine lB ?_ fun _ => ?_
set_option maxHeartbeats 60000000 in
set_option maxRecDepth 100000 in
theorem impl_summed.calls (k : Nat) (P0_ : Nat → Prop) (aH : Value) (l0 : List Int) (r : List Int) (w0 w : World) (hB : Below w0.heap.size w0 w) (ho0 : Kd.R (Kd.int .u8) 5 w w0.heap.size P0_ aH l0) (h : impl_summed.f k l0 = some r) :
  Calls Try.prog 42 #[aH] w fun e w' => ∃ aQ : Value, e = .returned (aQ) ∧ Kd.R (Kd.int .u8) 5 w' w0.heap.size (fun k_ => (P0_ k_ ∨ w.heap.size ≤ k_)) aQ r ∧ Below w0.heap.size w0 w' ∧ Kept w w' (fun k_ => P0_ k_) := by
 have aD := aM (show Kd.R (Kd.int .u8) 5 w w0.heap.size (fun k_ => (P0_ k_ ∨ w.heap.size ≤ k_)) aH l0 from Kd.R_mono ho0 (fun k_ hk => (.inl hk)))
 have HK := aM (Kept.refl w (fun k_ => P0_ k_))
 have HW0 := aM hB.size
 have HB := aM hB
 clear hB
 have H : ((impl_SumOf.f k l0).bind fun aA => ((some (([(aA) % 256, (aA / 256) % 256, (aA / 65536) % 256, (aA / 16777216) % 256] : List Int) : List Int)).bind fun aE => (if l0.length + aE.length < 140737488355328 then (some (l0 ++ aE)) else (none)))) = some r := h
 clear h
 obtain ⟨aA, aT, H⟩ := hB H
 have A2 := aM aT
 clear aT
 obtain ⟨aE, aI, H⟩ := hS H
 have aJ := aM aI
 clear aI
 by_cases c3 : l0.length + aE.length < 140737488355328
 case neg =>
  rw [if_neg c3] at H
  exact absurd H (by simp)
 rw [if_pos c3] at H
 have LMc3 := aM c3
 clear c3
 obtain ⟨aX, aG⟩ : ∃ y_ : List Int, y_ = (l0 ++ aE) := ⟨_, rfl⟩
 replace H : (some aX) = some r := by first | (rw [aG]; with_reducible exact H) | (have H2_ := (Option.bind_some _ _).symm.trans H; rw [aG]; with_reducible exact H2_) | (have H2_ := (Option.bind_some _ _).symm.trans H; with_reducible exact H2_) | with_reducible exact H | (rw [aG]; exact H) | exact H
 have aK := aM aG
 clear aG
 obtain rfl := Option.some.inj H
 obtain ⟨aV, aW, bA⟩ := Kd.R_slice aD.out
 subst bA
 go_enter Try.func42, Try.ntmps42
 go_wp2_with (first | ((with_reducible refine gC (f := 75) rfl ?_); refine gL (some 5) Try.func75 #[.slice aV l0.length aW] ?_; (with_reducible refine (impl_SumOf.calls k _ _ l0 aA _ ?side1 ?side2 A2.out).mono ?_); (case side1 => exact cM ((Kd.R_reads' aD.out).2.2)); (case side2 => exact (Kd.R_reads' aD.out).2.1); rintro e w' ⟨rfl, ⟨nd, rfl⟩⟩; refine ⟨_, rfl, ?_⟩) | ((with_reducible refine gD (N := 18) rfl ?_); refine Kd.R_lit (Kd.int .u8) _ 5 ?hg (N := 18) ?hd (xs := ([(aA) % 256, (aA / 256) % 256, (aA / 65536) % 256, (aA / 16777216) % 256] : List Int)) (inner := [.int .u8 ((aA) % 256), .int .u8 ((aA / 256) % 256), .int .u8 ((aA / 65536) % 256), .int .u8 ((aA / 16777216) % 256)]) (ok := fun _ => True) (okp := fun _ => True) ?hr ?hp (fun _ hk => hk) trivial (Below.refl _ _) (Nat.le_refl _) (by simp) ?_; (case hd => rfl); (case hg => rfl); (case hr => first | (go_simp; done) | (go_simp; rfl) | (obtain ⟨A_, c_, e_⟩ := Kd.R_slice aD.out; subst e_; (first | (go_simp; done) | (go_simp; rfl))) | (obtain ⟨A_, c_, e_⟩ := Kd.S_slice aD.out; subst e_; (first | (go_simp; done) | (go_simp; rfl))) | (obtain ⟨A_, c_, e_⟩ := Kd.R_slice aC.out; subst e_; (first | (go_simp; done) | (go_simp; rfl))) | (obtain ⟨A_, c_, e_⟩ := Kd.S_slice aC.out; subst e_; (first | (go_simp; done) | (go_simp; rfl)))); (case hp => exact (Reps.one (show Kd.M (Kd.int .u8) _ _ _ ((aA) % 256) [.int .u8 ((aA) % 256)] from rfl) (Reps.one (show Kd.M (Kd.int .u8) _ _ _ ((aA / 256) % 256) [.int .u8 ((aA / 256) % 256)] from rfl) (Reps.one (show Kd.M (Kd.int .u8) _ _ _ ((aA / 65536) % 256) [.int .u8 ((aA / 65536) % 256)] from rfl) (Reps.one (show Kd.M (Kd.int .u8) _ _ _ ((aA / 16777216) % 256) [.int .u8 ((aA / 16777216) % 256)] from rfl) (Reps.none _ _)))))); intro bI w5 ho6 hb hg_ hnew_; clear hg_ hnew_; (first | rw [← aJ.out] at ho6 | (simp only [Int.reduceToNat] at ho6; rw [← aJ.out] at ho6)); have aC := aM (Kd.R_lower (Kd.R_new' (Kd.R_newM (M := fun k_ => (P0_ k_ ∨ w.heap.size ≤ k_)) ho6 (kk HK.out).1 (fun k_ h_ => .inr h_)) (Kd.R_lt (kr aD.out))) (below_size (bl HB.out))); replace aD := aM (Kd.R_elder' (kr aD.out) (Kd.R_base ho6) hb); replace HK := aM (Kept.below (S := (fun k_ => P0_ k_)) (kk HK.out) hb); replace HB := rS HB hb; clear hb ho6; obtain ⟨bD, bG, bH⟩ := Kd.R_slice aC.out; subst bH) | ((with_reducible refine gate_builtin (b := .append) (xs := #[.tmp 6, .tmp 18]) rfl ?_); at_builtin; refine Kd.R_append_rows (Kd.int .u8) (w0 := w0) w0.heap.size rfl (.tmp 6) (.tmp 18) 22 5 (.int .u8 0) 1 rfl Try.underlying22 info5 rfl (by decide) (by omega) (.slice aV l0.length aW) l0 aE _ _ _ (fun k_ => (P0_ k_ ∨ w.heap.size ≤ k_) ∧ some k_ ≠ (.slice bD aE.length bG : Value).ownBlock) (fun _ => False) rfl rfl ?aO ?aR (fun _ _ h => h) (fun _ h => h.elim) ?aF ?aB ?aS ?aL ?_; (case aR => repeat (first | exact (Kd.R_reads' aC.out).2.2 | (with_reducible refine Kd.C_alloc ?_ _) | (with_reducible refine Kd.C_drewN ?_ _) | (with_reducible refine Kd.C_drew ?_))); (case aB => exact (bl HB.out)); (case aF => exact (fun k_ hk => ⟨(.inr (Nat.le_trans (kk HK.out).1 hk)), Kd.fresh' (Kd.R_lt (kr aC.out)) k_ hk⟩)); (case aO => exact (kr aD.out)); (case aS => exact (below_size (bl HB.out))); (case aL => have := LMc3.out; omega); intro bJ w7 ho hb hg hat; rw [← aK.out] at ho; have aN := aM (ho); replace aC := aM (Kd.R_after (ok := (fun k_ => (P0_ k_ ∨ w.heap.size ≤ k_))) (kr (Kd.R_mono aC.out (fun _ hk => ⟨hk.1.1, hk.2⟩))) hg hat); replace HB := aM (hb); replace HK := aM (Kept.of_grown (S := (fun k_ => P0_ k_)) hg (kk HK.out) (fun k_ e_ => (aD.out.1 k_ e_).1)); clear aD; clear ho hb hg hat))
 go_ret
 exact ⟨_, xW, by (with_reducible repeat (first | apply Kd.R_alloc | apply Kd.R_drewN | apply Kd.R_drew)); exact Kd.R_mono aN.out (fun _ hk => hk.1), bl HB.out, kk HK.out⟩

def impl_FrameBytes.f (k : Nat) (aC aD aE : Int) (aA : List Int) : Option (List Int) := (impl_FrameOk.f aC aD aE aA).bind fun aH => (if aH = true then ((impl_putNums.f k (([(aC) % 256, (aD) % 256, (aE) % 256] : List Int)) (([(aA.length : Int)] : List Int))).bind fun aG => (if aG.length + aA.length < 140737488355328 then ((impl_summed.f k (aG ++ aA)).bind fun aI => (some aI)) else (none))) else (some ([] : List Int)))
theorem impl_FrameBytes.mono : ∀ a0 a1 a2 a3 k, LeO (impl_FrameBytes.f k a0 a1 a2 a3) (impl_FrameBytes.f (k + 1) a0 a1 a2 a3) := by
 intro a0 a1 a2 a3 k
 unfold impl_FrameBytes.f
 repeat' first|(with_reducible first|apply impl_putNums.mono|apply impl_summed.mono|exact lR _|exact lN _|refine lI ?_ ?_|refine lB ?_ fun _ => ?_)|exact lN _|refine lI ?_ ?_|refine lB ?_ fun _ => ?_
set_option maxHeartbeats 60000000 in
set_option maxRecDepth 100000 in
theorem impl_FrameBytes.calls (k : Nat) (aG aH aI : Int) (aX : Option Addr) (bA : Nat) (aC : List Int) (r : List Int) (w : World) (hr0_3 : Kd.C (Kd.int .u8) w aX aC.length aC) (hc0_3 : aC.length ≤ bA) (h : impl_FrameBytes.f k aG aH aI aC = some r) :
  Calls Try.prog 8 #[.agg #[aG, aH, aI, .slice aX aC.length bA]] w fun e w' => ∃ bY : Value, e = .returned (bY) ∧ Kd.R (Kd.int .u8) 5 w' w.heap.size (fun _ => True) bY r ∧ Below w.heap.size w w' := by
 have cR := Try.underlying25
 have bH := aM hr0_3
 have bO := aM hc0_3
 clear hr0_3 hc0_3
 have HB := aM (Below.refl w.heap.size w)
 have H : ((impl_FrameOk.f aG aH aI aC).bind fun bI => (if bI = true then ((impl_putNums.f k (([(aG) % 256, (aH) % 256, (aI) % 256] : List Int)) (([(aC.length : Int)] : List Int))).bind fun aK => (if aK.length + aC.length < 140737488355328 then ((impl_summed.f k (aK ++ aC)).bind fun aQ => (some aQ)) else (none))) else (some ([] : List Int)))) = some r := h
 clear h
 obtain ⟨bI, bZ, H⟩ := hB H
 have A2 := aM bZ
 clear bZ
 by_cases c3 : bI = true
 case neg =>
  replace c3 := Bool.eq_false_iff.mpr c3
  subst c3
  replace H := hF H
  obtain rfl := Option.some.inj H
  go_enter Try.func8, Try.ntmps8
  go_wp2_with (first | ((with_reducible refine gD (N := 1) rfl ?_); refine bE (N := 1) (cs := #[aG, aH, aI, .slice aX aC.length bA]) (t := 25) ?_; intro bT hg cX hbox hb; have aA := aM (hbox); have bU := gF hg HB; have bV := gF hg HB; replace HB := rS HB hb; clear hb hbox hg; have cN := cA4 aA.out) | ((with_reducible refine gC (f := 16) rfl ?_); refine gL (some 5) Try.func16 #[.agg #[aG, aH, aI, .slice aX aC.length bA]] ?_; (with_reducible refine (impl_FrameOk.calls aG aH aI _ _ aC false _ ?side1 ?side2 A2.out).mono ?_); (case side1 => exact cM (cB bH.out HB.out)); (case side2 => exact bO.out); rintro e cY ⟨rfl, hb⟩; refine ⟨_, rfl, ?_⟩; replace aA := rB aA hb; replace HB := rS HB hb; (try clear hb)))
  go_ret
  exact ⟨_, xW, by first | exact Kd.R_nil _ _ _ _ _ | exact Kd.N_nil _ _ _ _ _ | exact Kd.V_nil _ _ _ _ _ | exact Kd.Q_nil _ _ _ _ _ | exact Kd.S_nil _ _ _ _ _, bl HB.out⟩
 subst c3
 replace H := hP H rfl
 obtain ⟨bD, aT⟩ : ∃ y_ : List Int, y_ = (([(aG) % 256, (aH) % 256, (aI) % 256] : List Int)) := ⟨_, rfl⟩
 replace H : ((impl_putNums.f k bD (([(aC.length : Int)] : List Int))).bind fun aK => (if aK.length + aC.length < 140737488355328 then ((impl_summed.f k (aK ++ aC)).bind fun aQ => (some aQ)) else (none))) = some r := by first | (rw [aT]; with_reducible exact H) | (have H2_ := (Option.bind_some _ _).symm.trans H; rw [aT]; with_reducible exact H2_) | (have H2_ := (Option.bind_some _ _).symm.trans H; with_reducible exact H2_) | with_reducible exact H | (rw [aT]; exact H) | exact H
 have bP := aM aT
 clear aT
 obtain ⟨bJ, aV⟩ : ∃ y_ : List Int, y_ = (([(aC.length : Int)] : List Int)) := ⟨_, rfl⟩
 replace H : ((impl_putNums.f k bD bJ).bind fun aK => (if aK.length + aC.length < 140737488355328 then ((impl_summed.f k (aK ++ aC)).bind fun aQ => (some aQ)) else (none))) = some r := by first | (rw [aV]; with_reducible exact H) | (have H2_ := (Option.bind_some _ _).symm.trans H; rw [aV]; with_reducible exact H2_) | (have H2_ := (Option.bind_some _ _).symm.trans H; with_reducible exact H2_) | with_reducible exact H | (rw [aV]; exact H) | exact H
 have bQ := aM aV
 clear aV
 obtain ⟨aK, cA, H⟩ := hB H
 have A4 := aM cA
 clear cA
 by_cases c5 : aK.length + aC.length < 140737488355328
 case neg =>
  rw [if_neg c5] at H
  exact absurd H (by simp)
 rw [if_pos c5] at H
 have LMc5 := aM c5
 clear c5
 obtain ⟨bG, aW⟩ : ∃ y_ : List Int, y_ = (aK ++ aC) := ⟨_, rfl⟩
 replace H : ((impl_summed.f k bG).bind fun aQ => (some aQ)) = some r := by first | (rw [aW]; with_reducible exact H) | (have H2_ := (Option.bind_some _ _).symm.trans H; rw [aW]; with_reducible exact H2_) | (have H2_ := (Option.bind_some _ _).symm.trans H; with_reducible exact H2_) | with_reducible exact H | (rw [aW]; exact H) | exact H
 have bW := aM aW
 clear aW
 obtain ⟨aQ, cC, H⟩ := hB H
 have A6 := aM cC
 clear cC
 obtain rfl := Option.some.inj H
 go_enter Try.func8, Try.ntmps8
 go_wp2_with (first | ((with_reducible refine gD (N := 1) rfl ?_); refine box_event ?hg (N := 1) ?hd (cs := #[aG, aH, aI, .slice aX aC.length bA]) (t := 25) ?hr ?_; (case hd => rfl); (case hg => rfl); (case hr => first | (go_simp; done) | (go_simp; rfl) | (obtain ⟨A_, c_, e_⟩ := Kd.R_slice aE.out; subst e_; (first | (go_simp; done) | (go_simp; rfl))) | (obtain ⟨A_, c_, e_⟩ := Kd.S_slice aE.out; subst e_; (first | (go_simp; done) | (go_simp; rfl))) | (obtain ⟨A_, c_, e_⟩ := Kd.R_slice aD.out; subst e_; (first | (go_simp; done) | (go_simp; rfl))) | (obtain ⟨A_, c_, e_⟩ := Kd.S_slice aD.out; subst e_; (first | (go_simp; done) | (go_simp; rfl))) | (obtain ⟨A_, c_, e_⟩ := Kd.R_slice aN.out; subst e_; (first | (go_simp; done) | (go_simp; rfl))) | (obtain ⟨A_, c_, e_⟩ := Kd.S_slice aN.out; subst e_; (first | (go_simp; done) | (go_simp; rfl))) | (obtain ⟨A_, c_, e_⟩ := Kd.R_slice aJ.out; subst e_; (first | (go_simp; done) | (go_simp; rfl))) | (obtain ⟨A_, c_, e_⟩ := Kd.S_slice aJ.out; subst e_; (first | (go_simp; done) | (go_simp; rfl)))); intro bT hg w7 hbox hb; have aA := aM (hbox); have bU := gF hg HB; have bV := gF hg HB; replace HB := rS HB hb; clear hb hbox hg; have cS := cA4 aA.out) | ((with_reducible refine gC (f := 16) rfl ?_); refine gL (some 5) Try.func16 #[.agg #[aG, aH, aI, .slice aX aC.length bA]] ?_; (with_reducible refine (impl_FrameOk.calls aG aH aI _ _ aC true _ ?side1 ?side2 A2.out).mono ?_); (case side1 => exact cM (cB bH.out HB.out)); (case side2 => exact bO.out); rintro e w9 ⟨rfl, hb⟩; refine ⟨_, rfl, ?_⟩; replace aA := rB aA hb; replace HB := rS HB hb; (try clear hb); have cO := cA4 aA.out) | ((with_reducible refine gD (N := 16) rfl ?_); refine Kd.R_lit (Kd.int .u8) _ 5 ?hg (N := 16) ?hd (xs := ([(aG) % 256, (aH) % 256, (aI) % 256] : List Int)) (inner := [.int .u8 ((aG) % 256), .int .u8 ((aH) % 256), .int .u8 ((aI) % 256)]) (ok := fun _ => True) (okp := fun _ => True) ?hr ?hp (fun _ hk => hk) trivial (Below.refl _ _) (Nat.le_refl _) (by simp) ?_; (case hd => rfl); (case hg => rfl); (case hr => first | (go_simp; done) | (go_simp; rfl) | (obtain ⟨A_, c_, e_⟩ := Kd.R_slice aE.out; subst e_; (first | (go_simp; done) | (go_simp; rfl))) | (obtain ⟨A_, c_, e_⟩ := Kd.S_slice aE.out; subst e_; (first | (go_simp; done) | (go_simp; rfl))) | (obtain ⟨A_, c_, e_⟩ := Kd.R_slice aD.out; subst e_; (first | (go_simp; done) | (go_simp; rfl))) | (obtain ⟨A_, c_, e_⟩ := Kd.S_slice aD.out; subst e_; (first | (go_simp; done) | (go_simp; rfl))) | (obtain ⟨A_, c_, e_⟩ := Kd.R_slice aN.out; subst e_; (first | (go_simp; done) | (go_simp; rfl))) | (obtain ⟨A_, c_, e_⟩ := Kd.S_slice aN.out; subst e_; (first | (go_simp; done) | (go_simp; rfl))) | (obtain ⟨A_, c_, e_⟩ := Kd.R_slice aJ.out; subst e_; (first | (go_simp; done) | (go_simp; rfl))) | (obtain ⟨A_, c_, e_⟩ := Kd.S_slice aJ.out; subst e_; (first | (go_simp; done) | (go_simp; rfl)))); (case hp => exact (Reps.one (show Kd.M (Kd.int .u8) _ _ _ ((aG) % 256) [.int .u8 ((aG) % 256)] from rfl) (Reps.one (show Kd.M (Kd.int .u8) _ _ _ ((aH) % 256) [.int .u8 ((aH) % 256)] from rfl) (Reps.one (show Kd.M (Kd.int .u8) _ _ _ ((aI) % 256) [.int .u8 ((aI) % 256)] from rfl) (Reps.none _ _))))); intro cT dA ho12 hb hg_ hnew_; clear hg_ hnew_; (first | rw [← bP.out] at ho12 | (simp only [Int.reduceToNat] at ho12; rw [← bP.out] at ho12)); have aE := aM (Kd.R_lower ho12 (below_size (bl HB.out))); replace aA := rB aA hb; replace HB := rS HB hb; clear hb ho12; have cP := cA4 aA.out) | ((with_reducible refine gD (N := 20) rfl ?_); refine Kd.R_lit (Kd.int .i64) _ 3 ?hg (N := 20) ?hd (xs := ([(aC.length : Int)] : List Int)) (inner := [.int .i64 (aC.length : Int)]) (ok := fun _ => True) (okp := fun _ => True) ?hr ?hp (fun _ hk => hk) trivial (Below.refl _ _) (Nat.le_refl _) (by simp) ?_; (case hd => rfl); (case hg => rfl); (case hr => first | (go_simp; done) | (go_simp; rfl) | (obtain ⟨A_, c_, e_⟩ := Kd.R_slice aE.out; subst e_; (first | (go_simp; done) | (go_simp; rfl))) | (obtain ⟨A_, c_, e_⟩ := Kd.S_slice aE.out; subst e_; (first | (go_simp; done) | (go_simp; rfl))) | (obtain ⟨A_, c_, e_⟩ := Kd.R_slice aD.out; subst e_; (first | (go_simp; done) | (go_simp; rfl))) | (obtain ⟨A_, c_, e_⟩ := Kd.S_slice aD.out; subst e_; (first | (go_simp; done) | (go_simp; rfl))) | (obtain ⟨A_, c_, e_⟩ := Kd.R_slice aN.out; subst e_; (first | (go_simp; done) | (go_simp; rfl))) | (obtain ⟨A_, c_, e_⟩ := Kd.S_slice aN.out; subst e_; (first | (go_simp; done) | (go_simp; rfl))) | (obtain ⟨A_, c_, e_⟩ := Kd.R_slice aJ.out; subst e_; (first | (go_simp; done) | (go_simp; rfl))) | (obtain ⟨A_, c_, e_⟩ := Kd.S_slice aJ.out; subst e_; (first | (go_simp; done) | (go_simp; rfl)))); (case hp => exact (Reps.one (show Kd.M (Kd.int .i64) _ _ _ (aC.length : Int) [.int .i64 (aC.length : Int)] from rfl) (Reps.none _ _))); intro cU dB ho15 hb hg_ hnew_; clear hg_ hnew_; (first | rw [← bQ.out] at ho15 | (simp only [Int.reduceToNat] at ho15; rw [← bQ.out] at ho15)); have aD := aM (Kd.R_lower ho15 (below_size (bl HB.out))); replace aE := rK aE hb; replace aA := rB aA hb; replace HB := rS HB hb; clear hb ho15; obtain ⟨bK, bL, cD⟩ := Kd.R_slice aE.out; subst cD; obtain ⟨cE, cG, cH⟩ := Kd.R_slice aD.out; subst cH) | ((with_reducible refine gC (f := 41) rfl ?_); refine gL (some 21) Try.func41 #[.slice bK bD.length bL, .slice cE bJ.length cG] ?_; (with_reducible refine (impl_putNums.calls k (fun k_ => some k_ = (.slice bK bD.length bL : Value).ownBlock) (.slice bK bD.length bL) bD _ _ bJ aK w _ ?side1 ?side2 ?side3 ?side4 A4.out).mono ?_); (case side1 => exact bl HB.out); (case side2 => exact Kd.R_tight rfl aE.out); (case side3 => exact Kd.C_kept_own ((Kd.R_apart' aD.out (Kd.R_typed aE.out) (by decide))) (fun k_ hk_ hs_ => (hk_.2) hs_)); (case side4 => exact (Kd.R_reads' aD.out).2.1); rintro e dC ⟨cK, rfl, ho0, hb, hkp⟩; refine ⟨_, rfl, ?_⟩; have aN := aM (Kd.R_mono (ok' := fun k_ => True) ho0 (fun k_ hk_ => trivial)); replace aA := aM (blk_kept (bk aA.out) hkp (fun hs_ => (fun e_ => (Kd.R_ne aE.out aA.out (by decide)) e_) hs_)); replace aD := aM (Kd.R_mono (ok' := fun k_ => True) (Kd.R_keptB ((Kd.R_apart' aD.out (Kd.R_typed aE.out) (by decide))) hkp (fun k_ hk_ hs_ => (hk_.2) hs_)) (fun k_ hk_ => trivial)); replace HB := aM (hb); clear aE; (repeat first|clear hb|clear hkp|clear ho0); have cQ := cA4 aA.out) | ((with_reducible refine gate_builtin (b := .append) (xs := #[.tmp 22, .tmp 24]) rfl ?_); at_builtin; refine Kd.R_append_rows (Kd.int .u8) (w0 := w) w.heap.size rfl (.tmp 22) (.tmp 24) 22 5 (.int .u8 0) 1 rfl Try.underlying22 info5 rfl (by decide) (by omega) cK aK aC _ _ _ (fun _ => True) (fun _ => False) rfl rfl ?aO ?aR (fun _ _ h => h) (fun _ h => h.elim) ?aF ?aB ?aS ?aL ?_; (case aR => repeat (first | exact (cB bH.out HB.out) | (with_reducible refine Kd.C_alloc ?_ _) | (with_reducible refine Kd.C_drewN ?_ _) | (with_reducible refine Kd.C_drew ?_))); (case aB => exact (bl HB.out)); (case aF => exact (fun _ _ => trivial)); (case aO => exact (kr aN.out)); (case aS => exact (below_size (bl HB.out))); (case aL => have := LMc5.out; omega); intro cV dD ho hb hg hat; rw [← bW.out] at ho; have aJ := aM (ho); replace aA := aM (blk_grown (bk aA.out) hg (Kd.R_ne aN.out aA.out (by decide))); replace aD := aM (Kd.R_over' (kr aD.out) (Kd.R_typed (kr aN.out)) (by decide) hg); replace HB := aM (hb); clear aN; clear ho hb hg hat; obtain ⟨bM, bN, cL⟩ := Kd.R_slice aJ.out; subst cL) | ((with_reducible refine gC (f := 42) rfl ?_); refine gL (some 26) Try.func42 #[.slice bM bG.length bN] ?_; (with_reducible refine (impl_summed.calls k (fun k_ => some k_ = (.slice bM bG.length bN : Value).ownBlock) (.slice bM bG.length bN) bG aQ w _ ?side1 ?side2 A6.out).mono ?_); (case side1 => exact bl HB.out); (case side2 => exact Kd.R_tight rfl aJ.out); rintro e dE ⟨cW, rfl, ho0, hb, hkp⟩; refine ⟨_, rfl, ?_⟩; have bX := aM (Kd.R_mono (ok' := fun k_ => True) ho0 (fun k_ hk_ => trivial)); replace aA := aM (blk_kept (bk aA.out) hkp (fun hs_ => (fun e_ => (Kd.R_ne aJ.out aA.out (by decide)) e_) hs_)); replace aD := aM (Kd.R_mono (ok' := fun k_ => True) (Kd.R_keptB ((Kd.R_apart' aD.out (Kd.R_typed aJ.out) (by decide))) hkp (fun k_ hk_ hs_ => (hk_.2) hs_)) (fun k_ hk_ => trivial)); replace HB := aM (hb); clear aJ; (repeat first|clear hb|clear hkp|clear ho0)))
 go_ret
 exact ⟨_, xW, by (with_reducible repeat (first | apply Kd.R_alloc | apply Kd.R_drewN | apply Kd.R_drew)); exact bX.out, bl HB.out⟩

def spec_l1In.f (a0 a1 a2 : Int) : Option (Bool) := if a0 ≥ a1 then (some (decide (a0 ≤ a2))) else (some false)
set_option maxHeartbeats 60000000 in
set_option maxRecDepth 100000 in
theorem spec_l1In.calls (a0 a1 a2 : Int) (r : Bool) (w : World) (h : spec_l1In.f a0 a1 a2 = some r) :
  Calls Try.prog 57 #[a0, a1, a2] w fun e w' => e = .returned (.bool r) ∧ Drawn0 w w' := by
 have H : (if a0 ≥ a1 then (some (decide (a0 ≤ a2))) else (some false)) = some r := h
 clear h
 by_cases c4 : a0 ≥ a1
 case pos =>
  rw [if_pos c4] at H
  have aA := decide_eq_true c4
  clear c4
  obtain rfl := Option.some.inj H
  go_enter Try.func57, Try.ntmps57
  go_wp2
  go_ret
  exact ⟨by first | rfl | (simp; done) | (simp [*]; done), by repeat (first | exact Drawn0.refl _ | apply Drawn0.step)⟩
 rw [if_neg c4] at H
 have aA := decide_eq_false c4
 clear c4
 obtain rfl := Option.some.inj H
 go_enter Try.func57, Try.ntmps57
 go_wp2
 go_ret
 exact ⟨by first | rfl | (simp; done) | (simp [*]; done), by repeat (first | exact Drawn0.refl _ | apply Drawn0.step)⟩

def spec_FrameOk.f (aA aC aD : Int) (aE : List Int) : Option (Bool) := (spec_l1In.f aA 0 9).bind fun aG => (if aG = true then ((spec_l1In.f aC 1 9).bind fun aH => (if aH = true then ((spec_l1In.f aD 0 4).bind fun aI => (if aI = true then (some (decide ((aE.length : Int) ≤ 30))) else (some false))) else (some false))) else (some false))
set_option maxHeartbeats 60000000 in
set_option maxRecDepth 100000 in
theorem spec_FrameOk.calls (aA aC aE : Int) (aH : Option Addr) (aI : Nat) (aD : List Int) (r : Bool) (w : World) (hr0_3 : Kd.C (Kd.int .u8) w aH aD.length aD) (hc0_3 : aD.length ≤ aI) (h : spec_FrameOk.f aA aC aE aD = some r) :
  Calls Try.prog 17 #[.agg #[aA, aC, aE, .slice aH aD.length aI]] w fun e w' => e = .returned (.bool r) ∧ Below w.heap.size w w' := by
 have bK := Try.underlying25
 have bD := aM hr0_3
 have bG := aM hc0_3
 clear hr0_3 hc0_3
 have HB := aM (Below.refl w.heap.size w)
 have H : ((spec_l1In.f aA 0 9).bind fun aQ => (if aQ = true then ((spec_l1In.f aC 1 9).bind fun aT => (if aT = true then ((spec_l1In.f aE 0 4).bind fun aV => (if aV = true then (some (decide ((aD.length : Int) ≤ 30))) else (some false))) else (some false))) else (some false))) = some r := h
 clear h
 obtain ⟨aQ, aW, H⟩ := hB H
 have A2 := aM aW
 clear aW
 by_cases c3 : aQ = true
 case neg =>
  replace c3 := Bool.eq_false_iff.mpr c3
  subst c3
  replace H := hF H
  obtain rfl := Option.some.inj H
  go_enter Try.func17, Try.ntmps17
  go_wp2_with (first | ((with_reducible refine gD (N := 1) rfl ?_); (try (refine gate_guard (by rfl) ?_; dsimp only)); refine bE (N := 1) (cs := #[aA, aC, aE, .slice aH aD.length aI]) (t := 25) ?_; intro aJ hg bM hbox hb; have aG := aM (hbox); have aK := gF hg HB; have aN := gF hg HB; replace HB := rS HB hb; clear hb hbox hg; have bH := cA4 aG.out) | ((with_reducible refine gC (f := 57) rfl ?_); refine gL (some 5) Try.func57 #[aA, .int .i64 0, .int .i64 9] ?_; (with_reducible refine (spec_l1In.calls aA 0 9 false _ A2.out).mono ?_); rintro e w' ⟨rfl, ⟨nd, rfl⟩⟩; refine ⟨_, rfl, ?_⟩))
  go_ret
  exact ⟨xW, bl HB.out⟩
 subst c3
 replace H := hP H rfl
 obtain ⟨aT, aX, H⟩ := hB H
 have A4 := aM aX
 clear aX
 by_cases c5 : aT = true
 case neg =>
  replace c5 := Bool.eq_false_iff.mpr c5
  subst c5
  replace H := hF H
  obtain rfl := Option.some.inj H
  go_enter Try.func17, Try.ntmps17
  go_wp2_with (first | ((with_reducible refine gD (N := 1) rfl ?_); (try (refine gate_guard (by rfl) ?_; dsimp only)); refine bE (N := 1) (cs := #[aA, aC, aE, .slice aH aD.length aI]) (t := 25) ?_; intro aJ hg bN hbox hb; have aG := aM (hbox); have aK := gF hg HB; have aN := gF hg HB; replace HB := rS HB hb; clear hb hbox hg; have bI := cA4 aG.out) | ((with_reducible refine gC (f := 57) rfl ?_); refine gL (some 5) Try.func57 #[aA, .int .i64 0, .int .i64 9] ?_; (with_reducible refine (spec_l1In.calls aA 0 9 true _ A2.out).mono ?_); rintro e w' ⟨rfl, ⟨nd, rfl⟩⟩; refine ⟨_, rfl, ?_⟩) | (go_at_call 57; (with_reducible refine (spec_l1In.calls aC 1 9 false _ A4.out).mono ?_); rintro e w' ⟨rfl, ⟨nd, rfl⟩⟩))
  go_ret
  exact ⟨xW, bl HB.out⟩
 subst c5
 replace H := hP H rfl
 obtain ⟨aV, bA, H⟩ := hB H
 have A6 := aM bA
 clear bA
 by_cases c7 : aV = true
 case pos =>
  subst c7
  replace H := hP H rfl
  obtain rfl := Option.some.inj H
  go_enter Try.func17, Try.ntmps17
  go_wp2_with (first | ((with_reducible refine gD (N := 1) rfl ?_); (try (refine gate_guard (by rfl) ?_; dsimp only)); refine bE (N := 1) (cs := #[aA, aC, aE, .slice aH aD.length aI]) (t := 25) ?_; intro aJ hg w8 hbox hb; have aG := aM (hbox); have aK := gF hg HB; have aN := gF hg HB; replace HB := rS HB hb; clear hb hbox hg; have bL := cA4 aG.out) | ((with_reducible refine gC (f := 57) rfl ?_); refine gL (some 5) Try.func57 #[aA, .int .i64 0, .int .i64 9] ?_; (with_reducible refine (spec_l1In.calls aA 0 9 true _ A2.out).mono ?_); rintro e w' ⟨rfl, ⟨nd, rfl⟩⟩; refine ⟨_, rfl, ?_⟩) | (go_at_call 57; (with_reducible refine (spec_l1In.calls aC 1 9 true _ A4.out).mono ?_); rintro e w' ⟨rfl, ⟨nd, rfl⟩⟩) | (go_at_call 57; (with_reducible refine (spec_l1In.calls aE 0 4 true _ A6.out).mono ?_); rintro e w' ⟨rfl, ⟨nd, rfl⟩⟩))
  go_ret
  exact ⟨xW, bl HB.out⟩
 replace c7 := Bool.eq_false_iff.mpr c7
 subst c7
 replace H := hF H
 obtain rfl := Option.some.inj H
 go_enter Try.func17, Try.ntmps17
 go_wp2_with (first | ((with_reducible refine gD (N := 1) rfl ?_); (try (refine gate_guard (by rfl) ?_; dsimp only)); refine bE (N := 1) (cs := #[aA, aC, aE, .slice aH aD.length aI]) (t := 25) ?_; intro aJ hg bO hbox hb; have aG := aM (hbox); have aK := gF hg HB; have aN := gF hg HB; replace HB := rS HB hb; clear hb hbox hg; have bJ := cA4 aG.out) | ((with_reducible refine gC (f := 57) rfl ?_); refine gL (some 5) Try.func57 #[aA, .int .i64 0, .int .i64 9] ?_; (with_reducible refine (spec_l1In.calls aA 0 9 true _ A2.out).mono ?_); rintro e w' ⟨rfl, ⟨nd, rfl⟩⟩; refine ⟨_, rfl, ?_⟩) | (go_at_call 57; (with_reducible refine (spec_l1In.calls aC 1 9 true _ A4.out).mono ?_); rintro e w' ⟨rfl, ⟨nd, rfl⟩⟩) | (go_at_call 57; (with_reducible refine (spec_l1In.calls aE 0 4 false _ A6.out).mono ?_); rintro e w' ⟨rfl, ⟨nd, rfl⟩⟩))
 go_ret
 exact ⟨xW, bl HB.out⟩

def spec_PutNum.l0 : Nat → Int → List Int → Option (List Int)
 | 0, _, _ => none
 | k + 1, x0, x3 => if x0 > 127 then (if x3.length < 140737488355328 then (spec_PutNum.l0 k (wrap64 (Int.tdiv x0 128)) (x3 ++ [(wrap64 ((Int.tmod x0 128) + 128)) % 256])) else (none)) else (if x3.length < 140737488355328 then (some (x3 ++ [(x0) % 256])) else (none))
def spec_PutNum.f (k : Nat) (a0 : Int) : Option (List Int) := (some (([] : List Int) : List Int)).bind fun aA => ((spec_l1In.f a0 0 2147483647).bind fun aC => (if aC = true then (spec_PutNum.l0 k a0 aA) else (some aA)))
theorem spec_PutNum.mono_l : ∀ k, (∀ y0 y1, LeO (spec_PutNum.l0 k y0 y1) (spec_PutNum.l0 (k + 1) y0 y1))
 | 0 => fun _ _ r h => by simp [spec_PutNum.l0] at h
 | k + 1 => by
  have ih0 := spec_PutNum.mono_l k
  ·intro y0 y1
   unfold spec_PutNum.l0
   repeat' first|(with_reducible first|apply ih0|exact lR _|exact lN _|refine lI ?_ ?_|refine lB ?_ fun _ => ?_)|exact lN _|refine lI ?_ ?_|refine lB ?_ fun _ => ?_
theorem spec_PutNum.mono : ∀ a0 k, LeO (spec_PutNum.f k a0) (spec_PutNum.f (k + 1) a0) := by
 intro a0 k
 have ih0 := spec_PutNum.mono_l k
 unfold spec_PutNum.f
 repeat' first|(with_reducible first|apply ih0|exact lR _|exact lN _|refine lI ?_ ?_|refine lB ?_ fun _ => ?_)|exact lN _|refine lI ?_ ?_|refine lB ?_ fun _ => ?_
set_option maxHeartbeats 60000000 in
set_option maxRecDepth 100000 in
theorem spec_PutNum.calls (k : Nat) (a0 : Int) (r : List Int) (w : World) (h : spec_PutNum.f k a0 = some r) :
  Calls Try.prog 52 #[a0] w fun e w' => ∃ bA : Value, e = .returned (bA) ∧ Kd.R (Kd.int .u8) 5 w' w.heap.size (fun _ => True) bA r ∧ Below w.heap.size w w' := by
 have HB := aM (Below.refl w.heap.size w)
 have H : ((some (([] : List Int) : List Int)).bind fun aH => ((spec_l1In.f a0 0 2147483647).bind fun aK => (if aK = true then (spec_PutNum.l0 k a0 aH) else (some aH)))) = some r := h
 clear h
 obtain ⟨aH, aN, H⟩ := hS H
 have aG := aM aN
 clear aN
 obtain ⟨aK, bD, H⟩ := hB H
 have A2 := aM bD
 clear bD
 by_cases c3 : aK = true
 case neg =>
  replace c3 := Bool.eq_false_iff.mpr c3
  subst c3
  replace H := hF H
  obtain rfl := Option.some.inj H
  go_enter Try.func52, Try.ntmps52
  go_wp2_with (first | ((with_reducible refine gD (N := 4) rfl ?_); refine Kd.R_lit (Kd.int .u8) _ 5 ?hg (N := 4) ?hd (xs := ([] : List Int)) (inner := []) (ok := fun _ => True) (okp := fun _ => True) ?hr ?hp (fun _ hk => hk) trivial (Below.refl _ _) (Nat.le_refl _) (by simp) ?_; (case hd => rfl); (case hg => rfl); (case hr => first | (go_simp; done) | (go_simp; rfl)); (case hp => exact (Reps.none _ _)); intro bH bM ho12 hb hg_ hnew_; clear hg_ hnew_; (first | rw [← aG.out] at ho12 | (simp only [Int.reduceToNat] at ho12; rw [← aG.out] at ho12)); have aI := aM (Kd.R_lower ho12 (below_size (bl HB.out))); replace HB := rS HB hb; clear hb ho12) | ((with_reducible refine gC (f := 57) rfl ?_); refine gL (some 6) Try.func57 #[a0, .int .i64 0, .int .i64 2147483647] ?_; (with_reducible refine (spec_l1In.calls a0 0 2147483647 false _ A2.out).mono ?_); rintro e w' ⟨rfl, ⟨nd, rfl⟩⟩; refine ⟨_, rfl, ?_⟩))
  go_ret
  exact ⟨_, xW, by (with_reducible repeat (first | apply Kd.R_alloc | apply Kd.R_drewN | apply Kd.R_drew)); exact aI.out, bl HB.out⟩
 subst c3
 replace H := hP H rfl
 have H' := aM H
 clear H
 go_enter Try.func52, Try.ntmps52
 go_wp2_with (first | ((with_reducible refine gD (N := 4) rfl ?_); refine Kd.R_lit (Kd.int .u8) _ 5 ?hg (N := 4) ?hd (xs := ([] : List Int)) (inner := []) (ok := fun _ => True) (okp := fun _ => True) ?hr ?hp (fun _ hk => hk) trivial (Below.refl _ _) (Nat.le_refl _) (by simp) ?_; (case hd => rfl); (case hg => rfl); (case hr => first | (go_simp; done) | (go_simp; rfl)); (case hp => exact (Reps.none _ _)); intro bH w4 ho5 hb hg_ hnew_; clear hg_ hnew_; (first | rw [← aG.out] at ho5 | (simp only [Int.reduceToNat] at ho5; rw [← aG.out] at ho5)); have aI := aM (Kd.R_lower ho5 (below_size (bl HB.out))); replace HB := rS HB hb; clear hb ho5) | ((with_reducible refine gC (f := 57) rfl ?_); refine gL (some 6) Try.func57 #[a0, .int .i64 0, .int .i64 2147483647] ?_; (with_reducible refine (spec_l1In.calls a0 0 2147483647 true _ A2.out).mono ?_); rintro e w' ⟨rfl, ⟨nd, rfl⟩⟩; refine ⟨_, rfl, ?_⟩))
 go_loopg [0, 3] k (fun kq v0 v3 w' => ∃ (aA : Int) (aC : List Int), v0 = .int .i64 aA ∧ Aside0 (spec_PutNum.l0 kq aA aC = some r) ∧ Aside0 (kq ≤ k) ∧ Aside0 (Kd.R (Kd.int .u8) 5 w' w.heap.size (fun _ => True) v3 aC) ∧ Aside0 (Below w.heap.size w w'))
 case atStart => exact ⟨(a0), (aH), xE, H', ⟨Nat.le_refl _⟩, ⟨kr aI.out⟩, ⟨bl HB.out⟩⟩
 case round =>
  clear H'
  repeat first|clear p2|clear c3|clear c5
  obtain ⟨aA, aC, rfl, HA, bG, aJ, HB⟩ := hrel
  cases gk with
  | zero => exact absurd HA.out (by simp [spec_PutNum.l0])
  | succ k1 =>
   have H := HA.out
   clear HA
   simp only [spec_PutNum.l0] at H
   by_cases c6 : aA > 127
   case neg =>
    rw [if_neg c6] at H
    have bI := decide_eq_false c6
    clear c6
    by_cases c9 : aC.length < 140737488355328
    case neg =>
     rw [if_neg c9] at H
     exact absurd H (by simp)
    rw [if_pos c9] at H
    have LMc9 := aM c9
    clear c9
    obtain ⟨bJ, aD⟩ : ∃ y_ : List Int, y_ = (aC ++ [(aA) % 256]) := ⟨_, rfl⟩
    replace H : (some bJ) = some r := by first | (rw [aD]; with_reducible exact H) | (have H2_ := (Option.bind_some _ _).symm.trans H; rw [aD]; with_reducible exact H2_) | (have H2_ := (Option.bind_some _ _).symm.trans H; with_reducible exact H2_) | with_reducible exact H | (rw [aD]; exact H) | exact H
    have aT := aM aD
    clear aD
    obtain rfl := Option.some.inj H
    go_wp2_with (first | ((with_reducible refine gate_builtin (b := .append) (xs := #[.tmp 20, .tmp 23]) rfl ?_); at_builtin; refine Kd.R_append (Kd.int .u8) (w0 := w) w.heap.size rfl (.tmp 20) (.tmp 23) 22 5 (.int .u8 0) 1 rfl Try.underlying22 info5 rfl (by decide) (by omega) u3 aC ((aA) % 256) [.int .u8 ((aA) % 256)] (fun _ => True) (fun _ => False) rfl rfl ?aP (fun _ hk => hk.elim) ?aF ?aO ?aB ?aS ?aL ?_; (case aP => exact rfl); (case aB => exact (bl HB.out)); (case aF => exact (fun _ _ => trivial)); (case aO => exact (kr aJ.out)); (case aS => exact (below_size (bl HB.out))); (case aL => have := LMc9.out; omega); intro bK bN ho hb hg hat; rw [← aT.out] at ho; have aV := aM (ho); replace HB := aM (hb); clear aJ; clear ho hb hg hat))
    go_ret
    exact ⟨_, xW, by (with_reducible repeat (first | apply Kd.R_alloc | apply Kd.R_drewN | apply Kd.R_drew)); exact aV.out, bl HB.out⟩
   rw [if_pos c6] at H
   have bI := decide_eq_true c6
   clear c6
   by_cases c7 : aC.length < 140737488355328
   case neg =>
    rw [if_neg c7] at H
    exact absurd H (by simp)
   rw [if_pos c7] at H
   have LMc7 := aM c7
   clear c7
   obtain ⟨aQ, aE⟩ : ∃ y_ : List Int, y_ = (aC ++ [(wrap64 ((Int.tmod aA 128) + 128)) % 256]) := ⟨_, rfl⟩
   replace H : (spec_PutNum.l0 k1 (wrap64 (Int.tdiv aA 128)) aQ) = some r := by first | (rw [aE]; with_reducible exact H) | (have H2_ := (Option.bind_some _ _).symm.trans H; rw [aE]; with_reducible exact H2_) | (have H2_ := (Option.bind_some _ _).symm.trans H; with_reducible exact H2_) | with_reducible exact H | (rw [aE]; exact H) | exact H
   have aW := aM aE
   clear aE
   have H' := aM H
   clear H
   go_wp2_with (first | ((with_reducible refine gate_builtin (b := .append) (xs := #[.tmp 11, .tmp 16]) rfl ?_); at_builtin; refine Kd.R_append (Kd.int .u8) (w0 := w) w.heap.size rfl (.tmp 11) (.tmp 16) 22 5 (.int .u8 0) 1 rfl Try.underlying22 info5 rfl (by decide) (by omega) u3 aC ((wrap64 ((Int.tmod aA 128) + 128)) % 256) [.int .u8 ((wrap64 ((Int.tmod aA 128) + 128)) % 256)] (fun _ => True) (fun _ => False) rfl rfl ?aP (fun _ hk => hk.elim) ?aF ?aO ?aB ?aS ?aL ?_; (case aP => exact rfl); (case aB => exact (bl HB.out)); (case aF => exact (fun _ _ => trivial)); (case aO => exact (kr aJ.out)); (case aS => exact (below_size (bl HB.out))); (case aL => have := LMc7.out; omega); intro bL w8 ho hb hg hat; rw [← aW.out] at ho; have aX := aM (ho); replace HB := aM (hb); clear aJ; clear ho hb hg hat))
   go_roundg k1
   case measure => have := bG.out; omega
   case rel => exact ⟨(wrap64 (Int.tdiv aA 128)), (aQ), xE, H', ⟨by have := bG.out; omega⟩, ⟨kr aX.out⟩, ⟨bl HB.out⟩⟩

def spec_l2Sum.f (a0 : Int) : Option (List Int) := some (([(Go.bits .and .i64 a0 255) % 256, (Go.bits .and .i64 (a0 / 256) 255) % 256, (Go.bits .and .i64 (a0 / 65536) 255) % 256, (Go.bits .and .i64 (a0 / 16777216) 255) % 256] : List Int))
set_option maxHeartbeats 60000000 in
set_option maxRecDepth 100000 in
theorem spec_l2Sum.calls (a0 : Int) (r : List Int) (w : World) (h : spec_l2Sum.f a0 = some r) :
  Calls Try.prog 53 #[a0] w fun e w' => ∃ aE : Value, e = .returned (aE) ∧ Kd.R (Kd.int .u8) 5 w' w.heap.size (fun _ => True) aE r ∧ Below w.heap.size w w' := by
 have HB := aM (Below.refl w.heap.size w)
 have H : (some (([(Go.bits .and .i64 a0 255) % 256, (Go.bits .and .i64 (a0 / 256) 255) % 256, (Go.bits .and .i64 (a0 / 65536) 255) % 256, (Go.bits .and .i64 (a0 / 16777216) 255) % 256] : List Int))) = some r := h
 clear h
 obtain ⟨aG, aA⟩ : ∃ y_ : List Int, y_ = (([(Go.bits .and .i64 a0 255) % 256, (Go.bits .and .i64 (a0 / 256) 255) % 256, (Go.bits .and .i64 (a0 / 65536) 255) % 256, (Go.bits .and .i64 (a0 / 16777216) 255) % 256] : List Int)) := ⟨_, rfl⟩
 replace H : (some aG) = some r := by first | (rw [aA]; with_reducible exact H) | (have H2_ := (Option.bind_some _ _).symm.trans H; rw [aA]; with_reducible exact H2_) | (have H2_ := (Option.bind_some _ _).symm.trans H; with_reducible exact H2_) | with_reducible exact H | (rw [aA]; exact H) | exact H
 have aC := aM aA
 clear aA
 obtain rfl := Option.some.inj H
 go_enter Try.func53, Try.ntmps53
 go_wp2_with (first | ((with_reducible refine gD (N := 18) rfl ?_); refine Kd.R_lit (Kd.int .u8) _ 5 ?hg (N := 18) ?hd (xs := ([(Go.bits .and .i64 a0 255) % 256, (Go.bits .and .i64 (a0 / 256) 255) % 256, (Go.bits .and .i64 (a0 / 65536) 255) % 256, (Go.bits .and .i64 (a0 / 16777216) 255) % 256] : List Int)) (inner := [.int .u8 ((Go.bits .and .i64 a0 255) % 256), .int .u8 ((Go.bits .and .i64 (a0 / 256) 255) % 256), .int .u8 ((Go.bits .and .i64 (a0 / 65536) 255) % 256), .int .u8 ((Go.bits .and .i64 (a0 / 16777216) 255) % 256)]) (ok := fun _ => True) (okp := fun _ => True) ?hr ?hp (fun _ hk => hk) trivial (Below.refl _ _) (Nat.le_refl _) (by simp) ?_; (case hd => rfl); (case hg => rfl); (case hr => first | (go_simp; done) | (go_simp; rfl)); (case hp => exact (Reps.one (show Kd.M (Kd.int .u8) _ _ _ ((Go.bits .and .i64 a0 255) % 256) [.int .u8 ((Go.bits .and .i64 a0 255) % 256)] from rfl) (Reps.one (show Kd.M (Kd.int .u8) _ _ _ ((Go.bits .and .i64 (a0 / 256) 255) % 256) [.int .u8 ((Go.bits .and .i64 (a0 / 256) 255) % 256)] from rfl) (Reps.one (show Kd.M (Kd.int .u8) _ _ _ ((Go.bits .and .i64 (a0 / 65536) 255) % 256) [.int .u8 ((Go.bits .and .i64 (a0 / 65536) 255) % 256)] from rfl) (Reps.one (show Kd.M (Kd.int .u8) _ _ _ ((Go.bits .and .i64 (a0 / 16777216) 255) % 256) [.int .u8 ((Go.bits .and .i64 (a0 / 16777216) 255) % 256)] from rfl) (Reps.none _ _)))))); intro aH w2 ho3 hb hg_ hnew_; clear hg_ hnew_; (first | rw [← aC.out] at ho3 | (simp only [Int.reduceToNat] at ho3; rw [← aC.out] at ho3)); have aD := aM (Kd.R_lower ho3 (below_size (bl HB.out))); replace HB := rS HB hb; clear hb ho3))
 go_ret
 exact ⟨_, xW, by (with_reducible repeat (first | apply Kd.R_alloc | apply Kd.R_drewN | apply Kd.R_drew)); exact aD.out, bl HB.out⟩

end Go.Proofs.Ytaoipjdmmamkmaa.PFnFrames

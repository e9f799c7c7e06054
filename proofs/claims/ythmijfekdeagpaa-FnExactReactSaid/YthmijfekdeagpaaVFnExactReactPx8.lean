/- A part of the proof of laws.FnExactReact. No condition beyond what its theorems say. -/
import Derived.Test.YthmijfekdeagpaaVFnExactReactPx1
import Derived.Test.YthmijfekdeagpaaVFnExactReactPx7
namespace Go.Proofs.Ythmijfekdeagpaa.PFnExactReact
open Go.RowKit Go.Proofs.YthmijfekdeagpaaW.PrintWords Go.Proofs.YthmijfekdeagpaaW.PrintLast Go.Proofs.YthmijfekdeagpaaW.PrintMore
set_option linter.unusedVariables false
set_option linter.unusedSimpArgs false

attribute [local go_sem high] eqA73 eqA89
def Z29.l0 : Nat → List (S79) → Int → Int → Int → List (S79) → Option (Bool)
 | 0, _, _, _, _, _ => none
 | k + 1, x6, x7, x8, aA, aC => if x8 < x7 then (if 0 ≤ x8 then (if x8 < (x6.length : Int) then ((Z11.f k ((rd_T79 x6 x8).f0) ((rd_T79 x6 x8).f1) ((rd_T79 x6 x8).f2.f0) ((rd_T79 x6 x8).f2.f1) ((rd_T79 x6 x8).f2.f2) ((rd_T79 x6 x8).f2.f3) ((rd_T79 x6 x8).f3) ((rd_T79 x6 x8).f4) ((rd_T79 x6 x8).f5) ((rd_T79 x6 x8).f6) ((rd_T79 x6 x8).f7)).bind fun aD => (if aD = true then (Z29.l0 k x6 x7 (wrap64 (x8 + 1)) aA aC) else (some false))) else (none)) else (none)) else ((Z15.f aA 1 9).bind fun aE => (if aE = true then ((Z15.f (aC.length : Int) 1 4).bind fun aG => (some aG)) else (some false)))
def Z29.f (k : Nat) (aC : Int) (aA : List (S79)) : Option (Bool) := Z29.l0 k aA (aA.length : Int) 0 aC aA
theorem Z29.mono_l : ∀ k, (∀ y0 y1 y2 y3 y4, LeO (Z29.l0 k y0 y1 y2 y3 y4) (Z29.l0 (k + 1) y0 y1 y2 y3 y4))
 | 0 => fun _ _ _ _ _ r h => by simp [Z29.l0] at h
 | k + 1 => by
  have ih0 := Z29.mono_l k
  ·intro y0 y1 y2 y3 y4
   unfold Z29.l0
   repeat' first|(with_reducible first|apply ih0|apply Z11.mono|exact lR _|exact lN _|refine lI ?_ ?_|refine lB ?_ fun _ => ?_)|exact lN _|refine lI ?_ ?_|refine lB ?_ fun _ => ?_
theorem Z29.mono : ∀ a0 a1 k, LeO (Z29.f k a0 a1) (Z29.f (k + 1) a0 a1) := by
 intro a0 a1 k
 have ih0 := Z29.mono_l k
 unfold Z29.f
 repeat' first|(with_reducible first|apply ih0|apply Z11.mono|exact lR _|exact lN _|refine lI ?_ ?_|refine lB ?_ fun _ => ?_)|exact lN _|refine lI ?_ ?_|refine lB ?_ fun _ => ?_
set_option maxHeartbeats 60000000 in
set_option maxRecDepth 100000 in
theorem Z29.calls (k : Nat) (aG : Int) (bJ : Option Addr) (bK : Nat) (aA : List (S79)) (r : Bool) (w : World) (hr0_1 : Kd.C k79 w bJ aA.length aA) (hc0_1 : aA.length ≤ bK) (h : Z29.f k aG aA = some r) :
  Calls Try.prog 45 #[.agg #[aG, .slice bJ aA.length bK]] w fun e w' => e = .returned (.bool r) ∧ Below w.heap.size w w' := by
 have cV := Try.underlying28
 have cW := Try.underlying79
 have bN := aM hr0_1
 have cH := aM hc0_1
 clear hr0_1 hc0_1
 have HB := aM (Below.refl w.heap.size w)
 have H : (Z29.l0 k aA (aA.length : Int) 0 aG aA) = some r := h
 clear h
 have H' := aM H
 clear H
 go_enter Try.func45, Try.ntmps45
 go_wp2_with (first | ((with_reducible refine gD (N := 1) rfl ?_); (try (refine gate_guard (by rfl) ?_; dsimp only)); refine bE (N := 1) (cs := #[aG, .slice bJ aA.length bK]) (t := 28) ?_; intro bT hg w2 hbox hb; have aD := aM (hbox); have cK := gF hg HB; have cL := gF hg HB; replace HB := rS HB hb; clear hb hbox hg; have cX := cA2 aD.out))
 go_loopg [8] k (fun kq v8 w' => ∃ (aC : Int), v8 = .int .i64 aC ∧ Aside0 (Z29.l0 kq aA (aA.length : Int) aC aG aA = some r) ∧ Aside0 (kq ≤ k) ∧ Aside0 (w'.heap[bT]? = some (.cells #[aG, (.slice bJ aA.length bK)] 28 (0, 0))) ∧ Aside0 (Below w.heap.size w w'))
 case atStart => exact ⟨(0), xE, H', ⟨Nat.le_refl _⟩, ⟨bk aD.out⟩, ⟨bl HB.out⟩⟩
 case round =>
  clear H'
  try clear p2
  obtain ⟨aC, rfl, HA, bX, aD, HB⟩ := hrel
  cases gk with
  | zero => exact absurd HA.out (by simp [Z29.l0])
  | succ k1 =>
   have H := HA.out
   clear HA
   simp only [Z29.l0] at H
   by_cases c4 : aC < (aA.length : Int)
   case neg =>
    rw [if_neg c4] at H
    have cA := decide_eq_false c4
    clear c4
    obtain ⟨cC, bP, H⟩ := hB H
    have bY := aM bP
    clear bP
    by_cases bO : cC = true
    case neg =>
     replace bO := Bool.eq_false_iff.mpr bO
     subst bO
     replace H := hF H
     obtain rfl := Option.some.inj H
     have cN := cA2 aD.out
     go_wp2_with (first | ((with_reducible refine gC (f := 86) rfl ?_); refine gL (some 18) Try.func86 #[aG, .int .i64 1, .int .i64 9] ?_; (with_reducible refine (Z15.calls aG 1 9 false _ bY.out).mono ?_); rintro e w' ⟨rfl, ⟨nd, rfl⟩⟩; refine ⟨_, rfl, ?_⟩))
     go_ret
     exact ⟨xW, bl HB.out⟩
    subst bO
    replace H := hP H rfl
    obtain ⟨cD, bQ, H⟩ := hB H
    have cG := aM bQ
    clear bQ
    obtain rfl := Option.some.inj H
    have cO := cA2 aD.out
    go_wp2_with (first | ((with_reducible refine gC (f := 86) rfl ?_); refine gL (some 18) Try.func86 #[aG, .int .i64 1, .int .i64 9] ?_; (with_reducible refine (Z15.calls aG 1 9 true _ bY.out).mono ?_); rintro e w' ⟨rfl, ⟨nd, rfl⟩⟩; refine ⟨_, rfl, ?_⟩) | (go_at_call 86; (with_reducible refine (Z15.calls (aA.length : Int) 1 4 cD _ cG.out).mono ?_); rintro e w' ⟨rfl, ⟨nd, rfl⟩⟩))
    go_ret
    exact ⟨xW, bl HB.out⟩
   rw [if_pos c4] at H
   have cA := decide_eq_true c4
   clear c4
   obtain ⟨cY, H⟩ := gI H
   obtain ⟨dA, H⟩ := gI H
   obtain ⟨cE, bZ, H⟩ := hB H
   have A7 := aM bZ
   clear bZ
   by_cases c8 : cE = true
   case neg =>
    replace c8 := Bool.eq_false_iff.mpr c8
    subst c8
    replace H := hF H
    obtain rfl := Option.some.inj H
    have bH : 0 ≤ (aC : Int) := dT
    have bI : aC < (aA.length : Int) := dT
    obtain ⟨bU, bM, aH, aI, aJ, aK, aN, aQ, aT, aV, aW, aX, aE⟩ := at_T79 bN.out aC bH bI
    cases bM
    replace aH := xB HB aH
    replace aI := xB HB aI
    replace aJ := xB HB aJ
    replace aK := xB HB aK
    replace aN := xB HB aN
    replace aQ := xB HB aQ
    replace aT := xB HB aT
    replace aV := xB HB aV
    replace aW := xB HB aW
    replace aX := xB HB aX
    replace aE := xB HB aE
    replace bH := eq_true bH
    replace bI := eq_true bI
    go_wp2_with (first | ((with_reducible refine gD (N := 4) rfl ?_); (try (refine gate_guard (by rfl) ?_; dsimp only)); refine bE (N := 4) (cs := #[.bool false, .bool false, .int .i64 0, .int .i64 0, .int .i64 0, .int .i64 0, .int .i64 0, .int .i64 0, .int .i64 0, .int .i64 0, .bool false]) (t := 79) ?_; intro bL hg dB hbox hb; have bA := aM (hbox); have bV := gF hg HB; have bW := gF hg HB; have bD := nM hg aD; have bG := nH hg aD; replace aD := rB aD hb; replace HB := rS HB hb; clear hb hbox hg; have cP := bG.out; have cQ := bD.out; have cR := cA11 bA.out) | ((with_reducible refine gC (f := 122) rfl ?_); refine gL (some 13) Try.func122 #[.agg #[((rd_T79 aA aC).f0), ((rd_T79 aA aC).f1), ((rd_T79 aA aC).f2.f0), ((rd_T79 aA aC).f2.f1), ((rd_T79 aA aC).f2.f2), ((rd_T79 aA aC).f2.f3), ((rd_T79 aA aC).f3), ((rd_T79 aA aC).f4), ((rd_T79 aA aC).f5), ((rd_T79 aA aC).f6), ((rd_T79 aA aC).f7)]] ?_; (with_reducible refine (Z11.calls k1 ((rd_T79 aA aC).f0) ((rd_T79 aA aC).f1) ((rd_T79 aA aC).f2.f0) ((rd_T79 aA aC).f2.f1) ((rd_T79 aA aC).f2.f2) ((rd_T79 aA aC).f2.f3) ((rd_T79 aA aC).f3) ((rd_T79 aA aC).f4) ((rd_T79 aA aC).f5) ((rd_T79 aA aC).f6) ((rd_T79 aA aC).f7) false _ A7.out).mono ?_); rintro e dC ⟨rfl, hb⟩; refine ⟨_, rfl, ?_⟩; replace aD := aM (bB (fm aD.out) hb); replace bA := aM (bB (g := bL) (o := .cells #[((rd_T79 aA aC).f0), ((rd_T79 aA aC).f1), ((rd_T79 aA aC).f2.f0), ((rd_T79 aA aC).f2.f1), ((rd_T79 aA aC).f2.f2), ((rd_T79 aA aC).f2.f3), ((rd_T79 aA aC).f3), ((rd_T79 aA aC).f4), ((rd_T79 aA aC).f5), ((rd_T79 aA aC).f6), ((rd_T79 aA aC).f7)] 79 (0, 0)) (bm bA.out) hb); replace HB := rS HB hb; (try clear hb)))
    go_ret
    exact ⟨xW, bl HB.out⟩
   subst c8
   replace H := hP H rfl
   have H' := aM H
   clear H
   have bH : 0 ≤ (aC : Int) := dT
   have bI : aC < (aA.length : Int) := dT
   obtain ⟨bU, bM, aH, aI, aJ, aK, aN, aQ, aT, aV, aW, aX, aE⟩ := at_T79 bN.out aC bH bI
   cases bM
   replace aH := xB HB aH
   replace aI := xB HB aI
   replace aJ := xB HB aJ
   replace aK := xB HB aK
   replace aN := xB HB aN
   replace aQ := xB HB aQ
   replace aT := xB HB aT
   replace aV := xB HB aV
   replace aW := xB HB aW
   replace aX := xB HB aX
   replace aE := xB HB aE
   replace bH := eq_true bH
   replace bI := eq_true bI
   go_wp2_with (first | ((with_reducible refine gD (N := 4) rfl ?_); (try (refine gate_guard (by rfl) ?_; dsimp only)); refine bE (N := 4) (cs := #[.bool false, .bool false, .int .i64 0, .int .i64 0, .int .i64 0, .int .i64 0, .int .i64 0, .int .i64 0, .int .i64 0, .int .i64 0, .bool false]) (t := 79) ?_; intro bL hg w9 hbox hb; have bA := aM (hbox); have bV := gF hg HB; have bW := gF hg HB; have bD := nM hg aD; have bG := nH hg aD; replace aD := rB aD hb; replace HB := rS HB hb; clear hb hbox hg; have cS := bG.out; have cT := bD.out; have cU := cA11 bA.out) | ((with_reducible refine gC (f := 122) rfl ?_); refine gL (some 13) Try.func122 #[.agg #[((rd_T79 aA aC).f0), ((rd_T79 aA aC).f1), ((rd_T79 aA aC).f2.f0), ((rd_T79 aA aC).f2.f1), ((rd_T79 aA aC).f2.f2), ((rd_T79 aA aC).f2.f3), ((rd_T79 aA aC).f3), ((rd_T79 aA aC).f4), ((rd_T79 aA aC).f5), ((rd_T79 aA aC).f6), ((rd_T79 aA aC).f7)]] ?_; (with_reducible refine (Z11.calls k1 ((rd_T79 aA aC).f0) ((rd_T79 aA aC).f1) ((rd_T79 aA aC).f2.f0) ((rd_T79 aA aC).f2.f1) ((rd_T79 aA aC).f2.f2) ((rd_T79 aA aC).f2.f3) ((rd_T79 aA aC).f3) ((rd_T79 aA aC).f4) ((rd_T79 aA aC).f5) ((rd_T79 aA aC).f6) ((rd_T79 aA aC).f7) true _ A7.out).mono ?_); rintro e dD ⟨rfl, hb⟩; refine ⟨_, rfl, ?_⟩; replace aD := aM (bB (fm aD.out) hb); replace bA := aM (bB (g := bL) (o := .cells #[((rd_T79 aA aC).f0), ((rd_T79 aA aC).f1), ((rd_T79 aA aC).f2.f0), ((rd_T79 aA aC).f2.f1), ((rd_T79 aA aC).f2.f2), ((rd_T79 aA aC).f2.f3), ((rd_T79 aA aC).f3), ((rd_T79 aA aC).f4), ((rd_T79 aA aC).f5), ((rd_T79 aA aC).f6), ((rd_T79 aA aC).f7)] 79 (0, 0)) (bm bA.out) hb); replace HB := rS HB hb; (try clear hb)))
   go_roundg k1
   case measure => have := bX.out; omega
   case rel => exact ⟨(wS aC), xE, H', ⟨by have := bX.out; omega⟩, ⟨bk aD.out⟩, ⟨bl HB.out⟩⟩

def Z52.f (l0 : List (S79)) : Option ((List (S79))) := (some (([] : List (S79)) : List (S79))).bind fun aA => (if aA.length + l0.length < 1759218604441 then (some (aA ++ l0)) else (none))
set_option maxHeartbeats 60000000 in
set_option maxRecDepth 100000 in
theorem Z52.calls (A0 : Option Addr) (c0 : Nat) (l0 : List (S79)) (r : List (S79)) (w : World) (hr0 : Kd.C k79 w A0 l0.length l0) (hc0 : l0.length ≤ c0) (h : Z52.f l0 = some r) :
  Calls Try.prog 144 #[.slice A0 l0.length c0] w fun e w' => ∃ aJ : Value, e = .returned (aJ) ∧ Kd.R k79 79 w' w.heap.size (fun _ => True) aJ r ∧ Below w.heap.size w w' := by
 have qn : ∀ (w : World) (a : Option Addr) (n c n' c' : Nat), (binOp .eql 26 (.slice a n c) (.slice none n' c')).run Try.prog w = .ok (.bool a.isNone) w := fun w a n c n' c' => Lib.run_eql_slice_nil w _ _ a n c n' c' Try.underlying26
 by_cases hnil : A0 = none
 ·have hl : l0 = [] := by
   have hc := hr0.2.2
   rw [hnil] at hc
   cases l0 with
   | nil => rfl
   | cons x t => obtain ⟨_, hx, _⟩ := hc (by simp); cases hx
  subst hnil
  subst hl
  have hr : r = [] := by simpa [Z52.f] using h.symm
  subst hr
  clear hr0 h
  go_enter Try.func144, Try.ntmps144
  go_wp2
  go_ret
  exact ⟨_, rfl, Kd.R_nil _ _ _ _ _, Below.refl _ _⟩
 have hsome : A0.isNone = false := by cases A0 <;> simp at hnil ⊢
 clear hnil
 have aQ := aM hr0
 have aV := aM hc0
 clear hr0 hc0
 have HB := aM (Below.refl w.heap.size w)
 have H : ((some (([] : List (S79)) : List (S79))).bind fun aC => (if aC.length + l0.length < 1759218604441 then (some (aC ++ l0)) else (none))) = some r := h
 clear h
 obtain ⟨aC, aE, H⟩ := hS H
 have aG := aM aE
 clear aE
 by_cases c2 : aC.length + l0.length < 1759218604441
 case neg =>
  rw [if_neg c2] at H
  exact absurd H (by simp)
 rw [if_pos c2] at H
 have LMc2 := aM c2
 clear c2
 obtain ⟨aK, aA⟩ : ∃ y_ : List (S79), y_ = (aC ++ l0) := ⟨_, rfl⟩
 replace H : (some aK) = some r := by first | (rw [aA]; with_reducible exact H) | (have H2_ := (Option.bind_some _ _).symm.trans H; rw [aA]; with_reducible exact H2_) | (have H2_ := (Option.bind_some _ _).symm.trans H; with_reducible exact H2_) | with_reducible exact H | (rw [aA]; exact H) | exact H
 have aH := aM aA
 clear aA
 obtain rfl := Option.some.inj H
 go_enter Try.func144, Try.ntmps144
 go_wp2_with (first | ((with_reducible refine gD (N := 5) rfl ?_); refine Kd.R_lit k79 _ 79 ?hg (N := 5) ?hd (xs := ([] : List (S79))) (inner := []) (ok := fun _ => True) (okp := fun _ => True) ?hr ?hp (fun _ hk => hk) trivial (Below.refl _ _) (Nat.le_refl _) (by simp) ?_; (case hd => rfl); (case hg => rfl); (case hr => first | (go_simp; done) | (go_simp; rfl) | (obtain ⟨A_, c_, e_⟩ := Kd.R_slice aD.out; subst e_; (first | (go_simp; done) | (go_simp; rfl))) | (obtain ⟨A_, c_, e_⟩ := Kd.S_slice aD.out; subst e_; (first | (go_simp; done) | (go_simp; rfl)))); (case hp => exact (Reps.none _ _)); intro aN w3 ho4 hb hg_ hnew_; clear hg_ hnew_; (first | rw [← aG.out] at ho4 | (simp only [Int.reduceToNat] at ho4; rw [← aG.out] at ho4)); have aD := aM (Kd.R_lower ho4 (below_size (bl HB.out))); replace HB := rS HB hb; clear hb ho4) | ((with_reducible refine gate_builtin (b := .append) (xs := #[.tmp 5, .tmp 6]) rfl ?_); at_builtin; refine Kd.R_append_rows k79 (w0 := w) w.heap.size rfl (.tmp 5) (.tmp 6) 26 79 (.agg #[(.bool false), (.bool false), (.int .i64 0), (.int .i64 0), (.int .i64 0), (.int .i64 0), (.int .i64 0), (.int .i64 0), (.int .i64 0), (.int .i64 0), (.bool false)]) 80 rfl Try.underlying26 info79 rfl (by decide) (by omega) aN aC l0 _ _ _ (fun _ => True) (fun _ => False) rfl rfl ?aO ?aR (fun _ _ h => h) (fun _ h => h.elim) ?aF ?aB ?aS ?aL ?_; (case aR => repeat (first | exact (cB aQ.out HB.out) | (with_reducible refine Kd.C_alloc ?_ _) | (with_reducible refine Kd.C_drewN ?_ _) | (with_reducible refine Kd.C_drew ?_))); (case aB => exact (bl HB.out)); (case aF => exact (fun _ _ => trivial)); (case aO => exact (kr aD.out)); (case aS => exact (below_size (bl HB.out))); (case aL => have := LMc2.out; omega); intro aT w5 ho hb hg hat; rw [← aH.out] at ho; have aI := aM (ho); replace HB := aM (hb); clear aD; clear ho hb hg hat))
 go_ret
 exact ⟨_, xW, by (with_reducible repeat (first | apply Kd.R_alloc | apply Kd.R_drewN | apply Kd.R_drew)); exact aI.out, bl HB.out⟩

def Z54.f (aA : Int) (aC : List (S79)) : Option (Int × (List (S79))) := (Z52.f aC).bind fun aD => (some (aA, aD))
set_option maxHeartbeats 60000000 in
set_option maxRecDepth 100000 in
theorem Z54.calls (aE : Int) (aI : Option Addr) (aJ : Nat) (aD : List (S79)) (r1 : Int) (r2 : List (S79)) (w : World) (hr0_1 : Kd.C k79 w aI aD.length aD) (hc0_1 : aD.length ≤ aJ) (h : Z54.f aE aD = some (r1, r2)) :
  Calls Try.prog 71 #[.agg #[aE, .slice aI aD.length aJ]] w fun e w' => ∃ aX : Value, e = .returned (.agg #[r1, aX]) ∧ Kd.R k79 79 w' w.heap.size (fun _ => True) aX r2 ∧ Below w.heap.size w w' := by
 have bM := Try.underlying28
 have aT := aM hr0_1
 have aV := aM hc0_1
 clear hr0_1 hc0_1
 have HB := aM (Below.refl w.heap.size w)
 have H : ((Z52.f aD).bind fun aK => (some (aE, aK))) = some (r1, r2) := h
 clear h
 obtain ⟨aK, bA, H⟩ := hB H
 have A2 := aM bA
 clear bA
 simp only [Option.some.injEq, Prod.mk.injEq] at H
 obtain ⟨rfl, rfl⟩ := H
 go_enter Try.func71, Try.ntmps71
 try go_wp2_with (first | ((with_reducible refine gD (N := 1) rfl ?_); refine bE (N := 1) (cs := #[aE, .slice aI aD.length aJ]) (t := 28) ?_; intro aW hg w3 hbox hb; have aA := aM (hbox); have bI := gF hg HB; have bJ := gF hg HB; replace HB := rS HB hb; clear hb hbox hg) | ((with_reducible refine gD (N := 2) rfl ?_); refine bE (N := 2) (cs := #[.int .i64 0, .slice none 0 0]) (t := 28) ?_; intro aN hg w4 hbox hb; have aC := aM (hbox); have bK := gF hg HB; have bL := gF hg HB; have aG := nM hg aA; have aH := nH hg aA; replace aA := rB aA hb; replace HB := rS HB hb; clear hb hbox hg))
 replace aA := aM (blk_drew aA.out)
 replace aC := aM (blk_drew aC.out)
 replace HB := aM (below_drew1 HB.out)
 refine start_ (n := 7) (S := fun w' => cS2 w' aW (.int .i64 aE) (.slice aI aD.length aJ)) (ds := []) (dn 7 0) (by kernel_rfl) rfl rfl ⟨cI aA.out 0, cI aA.out 1⟩ (fun hHeld => ?_)
 generalize w4.drew = w5 at aA aC HB hHeld ⊢
 refine pure_ (i := 0) (N := some 3) (v := ?_) (a' := ?_) (bv 7 1) rfl rfl (by kernel_rfl) (fun _ _ _ h => h) (Or.inl ⟨by rfl, ?_⟩) ?_ ?_
 rotate_left
 ·intro w'
  go_simp
  with_reducible rfl
 rotate_left
 ·simp only [Act.put, sA, sZ, sS, i64_w, i32_w]
  rfl
 refine pure_ (i := 2) (N := some 5) (v := ?_) (a' := ?_) (bv 7 5) rfl rfl (by kernel_rfl) (fun _ _ _ h => h) (Or.inl ⟨by rfl, ?_⟩) ?_ ?_
 rotate_left
 ·intro w'
  go_simp
  with_reducible rfl
 rotate_left
 ·simp only [Act.put, sA, sZ, sS, i64_w, i32_w]
  rfl
 refine take_ (i := 1) (N := some 4) (v := ?_) (a' := ?_) (bv 7 7) rfl rfl (by kernel_rfl) (fun _ _ _ h => h) (Or.inl ⟨by rfl, ?_⟩) hHeld ?_ ?_
 rotate_left
 ·rintro w' ⟨s0, s1⟩
  go_simp
  with_reducible rfl
 rotate_left
 ·simp only [Act.put, sA, sZ, sS, i64_w, i32_w]
  rfl
 refine take_ (i := 3) (N := some 6) (v := ?_) (a' := ?_) (bv 7 15) rfl rfl (by kernel_rfl) (fun _ _ _ h => h) (Or.inl ⟨by rfl, ?_⟩) hHeld ?_ ?_
 rotate_left
 ·rintro w' ⟨s0, s1⟩
  go_simp
  with_reducible rfl
 rotate_left
 ·simp only [Act.put, sA, sZ, sS, i64_w, i32_w]
  rfl
 refine one_ (i := 4) (N := some 7) (bv 7 31) rfl rfl (by kernel_rfl) (by decide) (fun K hK => ?_)
 refine goes_ Try.func144 (by kernel_rfl) rfl #[.slice aI aD.length aJ] (by rfl) rfl rfl xR ?_
 with_reducible refine (Z52.calls _ _ aD aK _ ?side1 ?side2 A2.out).mono ?_
 (case side1 => exact cM (cB aT.out HB.out))
 (case side2 => exact aV.out)
 rintro e w6 ⟨bN, rfl, ho0, hb⟩
 refine ⟨_, rfl, ?_⟩
 have aQ := aM (Kd.R_lower ho0 (below_size (bl HB.out)))
 replace aA := rB aA hb
 replace aC := rB aC hb
 replace HB := rS HB hb
 (try clear hb)
 (try clear hb2)
 (try clear hk)
 (try clear hi)
 (try clear ho0)
 obtain ⟨bD, bG, bH⟩ := Kd.R_slice aQ.out
 (first | subst bH | (injection bH with f1_ f2_ f3_; have f4_ := f1_.symm; have f5_ := f3_.symm; clear f1_ f2_ f3_; subst f4_; subst f5_))
 refine hK.out _ _ ⟨cI aA.out 0, cI aA.out 1⟩ (fun hHeld => ?_)
 clear hK K
 refine norm_ (a' := ?_) ?_ ?_
 rotate_left
 ·show Act.put _ (some 7) _ = _
  simp only [Act.put, sA, sZ, sS, i64_w, i32_w]
  rfl
 refine pure_ (i := 5) (N := some 8) (v := ?_) (a' := ?_) (bv 7 63) rfl rfl (by kernel_rfl) (fun _ _ _ h => h) (Or.inl ⟨by rfl, ?_⟩) ?_ ?_
 rotate_left
 ·intro w'
  go_simp
  with_reducible rfl
 rotate_left
 ·simp only [Act.put, sA, sZ, sS, i64_w, i32_w]
  rfl
 refine one_ (i := 6) (N := none) (bv 7 127) rfl rfl (by kernel_rfl) (by decide) (fun K hK => ?_)
 have bO := cI aC.out 0
 have hfs8 := bF aC.out 0
 have hns8_0 := aG.out
 have hms8_0 := aH.out
 have bP := cI aC.out 1
 have hfs9 := bF aC.out 1
 have hns9_0 := aG.out
 have hms9_0 := aH.out
 refine skip_ (w1 := ?_) (by rfl) rfl ?_ ?_
 rotate_left
 ·go_simp
  rfl
 refine hK.out _ _ ⟨(cm (hHeld.1)), (cm (hHeld.2))⟩ (fun hHeld => ?_)
 clear hK K
 refine done_ (by kernel_rfl) ?_
 try go_wp2
 refine bodyPost_ret (results_cell_row rfl _ _ aN 28 #[aE, .slice bD aK.length bG] (0, 0) _ rfl (bm aC.out) Try.underlying28 rfl (by kernel_rfl)) rfl ?_
 exact ⟨_, xW, by (with_reducible repeat (first | apply Kd.R_alloc | apply Kd.R_drewN | apply Kd.R_drew)); exact Kd.R_mono (kF (p := ⟨aN, 1, none⟩) (kF (p := ⟨aN, 0, none⟩) (Kd.R_types aQ.out aC.out (by decide)) (fun _ hk => hk.2) (.int .i64 aE)) (fun _ hk => hk.2) (.slice bD aK.length bG)) (fun _ hk => trivial), bl HB.out⟩

def Z55.f (aA aC aD aE aG aH aI : Int) (aJ : Bool) : Option (Bool) := if aA = 1 then ((Z37.f aC).bind fun aK => (if aK = true then ((Z43.f aD aE aG aH).bind fun aN => (if aN = true then ((Z45.f aI).bind fun aQ => (if aQ = true then (some (!aJ)) else (some false))) else (some false))) else (some false))) else (if aA = 3 then ((Z37.f aC).bind fun aT => (if aT = true then (if (aD == 0 && (aE == 0 && (aG == 0 && (aH == 0)))) = true then (some (aI == 0)) else (some false)) else (some false))) else (some (aA == 2 && (aC == 0 && ((aD == 0 && (aE == 0 && (aG == 0 && (aH == 0)))) && (aI == 0 && (!aJ)))))))
set_option maxHeartbeats 60000000 in
set_option maxRecDepth 100000 in
theorem Z55.calls (aI aC aD aE aG aH aJ : Int) (aK r : Bool) (w : World) (h : Z55.f aI aC aD aE aG aH aJ aK = some r) :
  Calls Try.prog 130 #[.agg #[aI, aC, aD, aE, aG, aH, aJ, aK]] w fun e w' => e = .returned (.bool r) ∧ Below w.heap.size w w' := by
 have cL := Try.underlying89
 have cN := Try.underlying73
 have HB := aM (Below.refl w.heap.size w)
 have H : (if aI = 1 then ((Z37.f aC).bind fun aX => (if aX = true then ((Z43.f aD aE aG aH).bind fun bA => (if bA = true then ((Z45.f aJ).bind fun bD => (if bD = true then (some (!aK)) else (some false))) else (some false))) else (some false))) else (if aI = 3 then ((Z37.f aC).bind fun bG => (if bG = true then (if (aD == 0 && (aE == 0 && (aG == 0 && (aH == 0)))) = true then (some (aJ == 0)) else (some false)) else (some false))) else (some (aI == 2 && (aC == 0 && ((aD == 0 && (aE == 0 && (aG == 0 && (aH == 0)))) && (aJ == 0 && (!aK)))))))) = some r := h
 clear h
 by_cases c2 : aI = 1
 case neg =>
  rw [if_neg c2] at H
  have bU : (aI == 1) = false := beq_eq_false_iff_ne.mpr c2
  have bV : (aI != 1) = true := bne_iff_ne.mpr c2
  by_cases aW : aI = 3
  case neg =>
   rw [if_neg aW] at H
   have bK : (aI == 3) = false := beq_eq_false_iff_ne.mpr aW
   have bL : (aI != 3) = true := bne_iff_ne.mpr aW
   obtain rfl := Option.some.inj H
   go_enter Try.func130, Try.ntmps130
   go_wp2_with (first | ((with_reducible refine gD (N := 1) rfl ?_); refine bE (N := 1) (cs := #[aI, aC, aD, aE, aG, aH, aJ, aK]) (t := 89) ?_; intro aN hg cO hbox hb; have aA := aM (hbox); have aQ := gF hg HB; have aT := gF hg HB; replace HB := rS HB hb; clear hb hbox hg; have bW := cA8 aA.out))
   go_ret
   exact ⟨xW, bl HB.out⟩
  rw [if_pos aW] at H
  have bK : (aI == 3) = true := beq_iff_eq.mpr aW
  have bL : (aI != 3) = false := bne_eq_false_iff_eq.mpr aW
  clear aW
  obtain ⟨bG, bI, H⟩ := hB H
  have bJ := aM bI
  clear bI
  by_cases bH : bG = true
  case neg =>
   replace bH := Bool.eq_false_iff.mpr bH
   subst bH
   replace H := hF H
   obtain rfl := Option.some.inj H
   go_enter Try.func130, Try.ntmps130
   go_wp2_with (first | ((with_reducible refine gD (N := 1) rfl ?_); refine bE (N := 1) (cs := #[aI, aC, aD, aE, aG, aH, aJ, aK]) (t := 89) ?_; intro aN hg cP hbox hb; have aA := aM (hbox); have aQ := gF hg HB; have aT := gF hg HB; replace HB := rS HB hb; clear hb hbox hg; have bX := cA8 aA.out) | ((with_reducible refine gC (f := 170) rfl ?_); refine gL (some 29) Try.func170 #[aC] ?_; (with_reducible refine (Z37.calls aC false _ bJ.out).mono ?_); rintro e w' ⟨rfl, ⟨nd, rfl⟩⟩; refine ⟨_, rfl, ?_⟩))
   go_ret
   exact ⟨xW, bl HB.out⟩
  subst bH
  replace H := hP H rfl
  by_cases aV : (aD == 0 && (aE == 0 && (aG == 0 && (aH == 0)))) = true
  case pos =>
   rw [if_pos aV] at H
   have bM : (aD == 0 && (aE == 0 && (aG == 0 && (aH == 0)))) = true := aV
   (try (have bN : decide (aD = 0 && (aE == 0 && (aG == 0 && (aH == 0)))) = true := by simpa using aV))
   (try (have bO : (aD == 0 && (aE == 0 && (aG == 0 && (aH == 0)))) = true := by simpa using aV))
   clear aV
   obtain rfl := Option.some.inj H
   go_enter Try.func130, Try.ntmps130
   go_wp2_with (first | ((with_reducible refine gD (N := 1) rfl ?_); refine bE (N := 1) (cs := #[aI, aC, aD, aE, aG, aH, aJ, aK]) (t := 89) ?_; intro aN hg cQ hbox hb; have aA := aM (hbox); have aQ := gF hg HB; have aT := gF hg HB; replace HB := rS HB hb; clear hb hbox hg; have bY := cA8 aA.out) | ((with_reducible refine gC (f := 170) rfl ?_); refine gL (some 29) Try.func170 #[aC] ?_; (with_reducible refine (Z37.calls aC true _ bJ.out).mono ?_); rintro e w' ⟨rfl, ⟨nd, rfl⟩⟩; refine ⟨_, rfl, ?_⟩))
   go_ret
   exact ⟨xW, bl HB.out⟩
  rw [if_neg aV] at H
  have bM : (aD == 0 && (aE == 0 && (aG == 0 && (aH == 0)))) = false := by simpa using aV
  (try (have bN : decide (aD = 0 && (aE == 0 && (aG == 0 && (aH == 0)))) = false := by simpa using aV))
  (try (have bO : (aD == 0 && (aE == 0 && (aG == 0 && (aH == 0)))) = false := by simpa using aV))
  (try (have bZ : ¬ (aD = 0 && (aE == 0 && (aG == 0 && (aH == 0)))) := by simpa using aV))
  clear aV
  obtain rfl := Option.some.inj H
  go_enter Try.func130, Try.ntmps130
  go_wp2_with (first | ((with_reducible refine gD (N := 1) rfl ?_); refine bE (N := 1) (cs := #[aI, aC, aD, aE, aG, aH, aJ, aK]) (t := 89) ?_; intro aN hg cR hbox hb; have aA := aM (hbox); have aQ := gF hg HB; have aT := gF hg HB; replace HB := rS HB hb; clear hb hbox hg; have cA := cA8 aA.out) | ((with_reducible refine gC (f := 170) rfl ?_); refine gL (some 29) Try.func170 #[aC] ?_; (with_reducible refine (Z37.calls aC true _ bJ.out).mono ?_); rintro e w' ⟨rfl, ⟨nd, rfl⟩⟩; refine ⟨_, rfl, ?_⟩))
  go_ret
  exact ⟨xW, bl HB.out⟩
 rw [if_pos c2] at H
 have bU : (aI == 1) = true := beq_iff_eq.mpr c2
 have bV : (aI != 1) = false := bne_eq_false_iff_eq.mpr c2
 clear c2
 obtain ⟨aX, bP, H⟩ := hB H
 have A3 := aM bP
 clear bP
 by_cases c4 : aX = true
 case neg =>
  replace c4 := Bool.eq_false_iff.mpr c4
  subst c4
  replace H := hF H
  obtain rfl := Option.some.inj H
  go_enter Try.func130, Try.ntmps130
  go_wp2_with (first | ((with_reducible refine gD (N := 1) rfl ?_); refine bE (N := 1) (cs := #[aI, aC, aD, aE, aG, aH, aJ, aK]) (t := 89) ?_; intro aN hg cS hbox hb; have aA := aM (hbox); have aQ := gF hg HB; have aT := gF hg HB; replace HB := rS HB hb; clear hb hbox hg; have cC := cA8 aA.out) | ((with_reducible refine gC (f := 170) rfl ?_); refine gL (some 9) Try.func170 #[aC] ?_; (with_reducible refine (Z37.calls aC false _ A3.out).mono ?_); rintro e w' ⟨rfl, ⟨nd, rfl⟩⟩; refine ⟨_, rfl, ?_⟩))
  go_ret
  exact ⟨xW, bl HB.out⟩
 subst c4
 replace H := hP H rfl
 obtain ⟨bA, bQ, H⟩ := hB H
 have A5 := aM bQ
 clear bQ
 by_cases c6 : bA = true
 case neg =>
  replace c6 := Bool.eq_false_iff.mpr c6
  subst c6
  replace H := hF H
  obtain rfl := Option.some.inj H
  go_enter Try.func130, Try.ntmps130
  go_wp2_with (first | ((with_reducible refine gD (N := 1) rfl ?_); refine bE (N := 1) (cs := #[aI, aC, aD, aE, aG, aH, aJ, aK]) (t := 89) ?_; intro aN hg cT hbox hb; have aA := aM (hbox); have aQ := gF hg HB; have aT := gF hg HB; replace HB := rS HB hb; clear hb hbox hg; have cD := cA8 aA.out) | ((with_reducible refine gC (f := 170) rfl ?_); refine gL (some 9) Try.func170 #[aC] ?_; (with_reducible refine (Z37.calls aC true _ A3.out).mono ?_); rintro e w' ⟨rfl, ⟨nd, rfl⟩⟩; refine ⟨_, rfl, ?_⟩) | (go_at_call 178; (with_reducible refine (Z43.calls aD aE aG aH false _ A5.out).mono ?_); rintro e cU ⟨rfl, hb⟩; replace aA := rB aA hb; replace HB := rS HB hb; (try clear hb)))
  go_ret
  exact ⟨xW, bl HB.out⟩
 subst c6
 replace H := hP H rfl
 obtain ⟨bD, bT, H⟩ := hB H
 have A7 := aM bT
 clear bT
 by_cases c8 : bD = true
 case pos =>
  subst c8
  replace H := hP H rfl
  obtain rfl := Option.some.inj H
  go_enter Try.func130, Try.ntmps130
  go_wp2_with (first | ((with_reducible refine gD (N := 1) rfl ?_); refine bE (N := 1) (cs := #[aI, aC, aD, aE, aG, aH, aJ, aK]) (t := 89) ?_; intro aN hg w9 hbox hb; have aA := aM (hbox); have aQ := gF hg HB; have aT := gF hg HB; replace HB := rS HB hb; clear hb hbox hg; have cE := cA8 aA.out) | ((with_reducible refine gC (f := 170) rfl ?_); refine gL (some 9) Try.func170 #[aC] ?_; (with_reducible refine (Z37.calls aC true _ A3.out).mono ?_); rintro e w' ⟨rfl, ⟨nd, rfl⟩⟩; refine ⟨_, rfl, ?_⟩) | (go_at_call 178; (with_reducible refine (Z43.calls aD aE aG aH true _ A5.out).mono ?_); rintro e cV ⟨rfl, hb⟩; replace aA := rB aA hb; replace HB := rS HB hb; (try clear hb); have cG := cA8 aA.out) | (go_at_call 179; (with_reducible refine (Z45.calls aJ true _ A7.out).mono ?_); rintro e w' ⟨rfl, ⟨nd, rfl⟩⟩))
  go_ret
  exact ⟨xW, bl HB.out⟩
 replace c8 := Bool.eq_false_iff.mpr c8
 subst c8
 replace H := hF H
 obtain rfl := Option.some.inj H
 go_enter Try.func130, Try.ntmps130
 go_wp2_with (first | ((with_reducible refine gD (N := 1) rfl ?_); refine bE (N := 1) (cs := #[aI, aC, aD, aE, aG, aH, aJ, aK]) (t := 89) ?_; intro aN hg cW hbox hb; have aA := aM (hbox); have aQ := gF hg HB; have aT := gF hg HB; replace HB := rS HB hb; clear hb hbox hg; have cH := cA8 aA.out) | ((with_reducible refine gC (f := 170) rfl ?_); refine gL (some 9) Try.func170 #[aC] ?_; (with_reducible refine (Z37.calls aC true _ A3.out).mono ?_); rintro e w' ⟨rfl, ⟨nd, rfl⟩⟩; refine ⟨_, rfl, ?_⟩) | (go_at_call 178; (with_reducible refine (Z43.calls aD aE aG aH true _ A5.out).mono ?_); rintro e cX ⟨rfl, hb⟩; replace aA := rB aA hb; replace HB := rS HB hb; (try clear hb); have cK := cA8 aA.out) | (go_at_call 179; (with_reducible refine (Z45.calls aJ false _ A7.out).mono ?_); rintro e w' ⟨rfl, ⟨nd, rfl⟩⟩))
 go_ret
 exact ⟨xW, bl HB.out⟩

def Z32.l0 : Nat → Int → List Int → Int → Int → Option (Int)
 | 0, _, _, _, _ => none
 | k + 1, x3, x6, x7, x8 => if x8 < x7 then (if 0 ≤ x8 then (if x8 < (x6.length : Int) then (if (rd x6 x8) = x3 then (Z32.l0 k x3 x6 x7 (wrap64 (x8 + 1))) else (some (rd x6 x8))) else (none)) else (none)) else (some x3)
def Z32.f (k : Nat) (l0 : List Int) : Option (Int) := Z32.l0 k 0 l0 (l0.length : Int) 0
theorem Z32.mono_l : ∀ k, (∀ y0 y1 y2 y3, LeO (Z32.l0 k y0 y1 y2 y3) (Z32.l0 (k + 1) y0 y1 y2 y3))
 | 0 => fun _ _ _ _ r h => by simp [Z32.l0] at h
 | k + 1 => by
  have ih0 := Z32.mono_l k
  ·intro y0 y1 y2 y3
   unfold Z32.l0
   repeat' first|(with_reducible first|apply ih0|exact lR _|exact lN _|refine lI ?_ ?_|refine lB ?_ fun _ => ?_)|exact lN _|refine lI ?_ ?_|refine lB ?_ fun _ => ?_
theorem Z32.mono : ∀ a0 k, LeO (Z32.f k a0) (Z32.f (k + 1) a0) := by
 intro a0 k
 have ih0 := Z32.mono_l k
 unfold Z32.f
 repeat' first|(with_reducible first|apply ih0|exact lR _|exact lN _|refine lI ?_ ?_|refine lB ?_ fun _ => ?_)|exact lN _|refine lI ?_ ?_|refine lB ?_ fun _ => ?_
set_option maxHeartbeats 60000000 in
set_option maxRecDepth 100000 in
theorem Z32.calls (k : Nat) (A0 : Option Addr) (c0 : Nat) (l0 : List Int) (r : Int) (w : World) (hr0 : Kd.C (Kd.int .i64) w A0 l0.length l0) (hc0 : l0.length ≤ c0) (h : Z32.f k l0 = some r) :
  Calls Try.prog 124 #[.slice A0 l0.length c0] w fun e w' => e = .returned (.int .i64 r) ∧ Drawn0 w w' := by
 have aI := aM hr0
 have aW := aM hc0
 clear hr0 hc0
 have H : (Z32.l0 k 0 l0 (l0.length : Int) 0) = some r := h
 clear h
 have H' := aM H
 clear H
 go_enter Try.func124, Try.ntmps124
 go_wp2
 go_loopg [8] k (fun kq v8 w' => ∃ (aA : Int), v8 = .int .i64 aA ∧ Aside0 (Z32.l0 kq 0 l0 (l0.length : Int) aA = some r) ∧ Aside0 (kq ≤ k) ∧ Drawn0 w w')
 case atStart => exact ⟨(0), xE, H', ⟨Nat.le_refl _⟩, by repeat (first | exact Drawn0.refl _ | apply Drawn0.step)⟩
 case round =>
  clear H'
  try clear c1
  obtain ⟨aA, rfl, HA, aJ, ⟨m1, rfl⟩⟩ := hrel
  cases gk with
  | zero => exact absurd HA.out (by simp [Z32.l0])
  | succ k1 =>
   have H := HA.out
   clear HA
   simp only [Z32.l0] at H
   by_cases c2 : aA < (l0.length : Int)
   case neg =>
    rw [if_neg c2] at H
    have aK := decide_eq_false c2
    clear c2
    obtain rfl := Option.some.inj H
    go_wp2
    go_ret
    exact ⟨by first | rfl | (simp; done) | (simp [*]; done), by repeat (first | exact Drawn0.refl _ | apply Drawn0.step)⟩
   rw [if_pos c2] at H
   have aK := decide_eq_true c2
   clear c2
   obtain ⟨aT, H⟩ := gI H
   obtain ⟨aV, H⟩ := gI H
   by_cases c5 : (rd l0 aA) = 0
   case neg =>
    rw [if_neg c5] at H
    have aN : ((rd l0 aA) == 0) = false := beq_eq_false_iff_ne.mpr c5
    have aQ : ((rd l0 aA) != 0) = true := bne_iff_ne.mpr c5
    obtain rfl := Option.some.inj H
    have aC : 0 ≤ (aA : Int) := dT
    have aD : aA < (l0.length : Int) := dT
    obtain ⟨aH, aE, aG⟩ := Kd.at_int aI.out aA aC aD
    cases aE
    replace aC := eq_true aC
    replace aD := eq_true aD
    go_wp2
    go_ret
    exact ⟨by first | rfl | (simp; done) | (simp [*]; done), by repeat (first | exact Drawn0.refl _ | apply Drawn0.step)⟩
   rw [if_pos c5] at H
   have aN : ((rd l0 aA) == 0) = true := beq_iff_eq.mpr c5
   have aQ : ((rd l0 aA) != 0) = false := bne_eq_false_iff_eq.mpr c5
   clear c5
   have H' := aM H
   clear H
   have aC : 0 ≤ (aA : Int) := dT
   have aD : aA < (l0.length : Int) := dT
   obtain ⟨aH, aE, aG⟩ := Kd.at_int aI.out aA aC aD
   cases aE
   replace aC := eq_true aC
   replace aD := eq_true aD
   go_wp2
   go_roundg k1
   case measure => have := aJ.out; omega
   case rel => exact ⟨(wS aA), xE, H', ⟨by have := aJ.out; omega⟩, by repeat (first | exact Drawn0.refl _ | apply Drawn0.step)⟩

def Z40.f (a0 : Int) : Option (Bool) := some (a0 != a0)
set_option maxHeartbeats 60000000 in
set_option maxRecDepth 100000 in
theorem Z40.calls (a0 : Int) (r : Bool) (w : World) (h : Z40.f a0 = some r) :
  Calls Try.prog 182 #[a0] w fun e w' => e = .returned (.bool r) ∧ Drawn0 w w' := by
 have H : (some (a0 != a0)) = some r := h
 clear h
 obtain rfl := Option.some.inj H
 go_enter Try.func182, Try.ntmps182
 go_wp2
 go_ret
 exact ⟨by first | rfl | (simp; done) | (simp [*]; done), by repeat (first | exact Drawn0.refl _ | apply Drawn0.step)⟩

def Z47.f (a0 a1 : Int) : Option (Int) := (Z40.f a0).bind fun aC => ((Z40.f a1).bind fun aA => (if aC = true then (if aA = true then (some 0) else (some (-1))) else (if aA = true then (some 1) else (if a0 < a1 then (some (-1)) else (if a0 > a1 then (some 1) else (some 0))))))
set_option maxHeartbeats 60000000 in
set_option maxRecDepth 100000 in
theorem Z47.calls (a0 a1 r : Int) (w : World) (h : Z47.f a0 a1 = some r) :
  Calls Try.prog 125 #[a0, a1] w fun e w' => e = .returned (.int .i64 r) ∧ Drawn0 w w' := by
 have H : ((Z40.f a0).bind fun aC => ((Z40.f a1).bind fun aA => (if aC = true then (if aA = true then (some 0) else (some (-1))) else (if aA = true then (some 1) else (if a0 < a1 then (some (-1)) else (if a0 > a1 then (some 1) else (some 0))))))) = some r := h
 clear h
 obtain ⟨aC, aD, H⟩ := hB H
 have A3 := aM aD
 clear aD
 obtain ⟨aA, aE, H⟩ := hB H
 have A4 := aM aE
 clear aE
 by_cases c5 : aC = true
 case pos =>
  subst c5
  replace H := hP H rfl
  by_cases c6 : aA = true
  case pos =>
   subst c6
   replace H := hP H rfl
   obtain rfl := Option.some.inj H
   go_enter Try.func125, Try.ntmps125
   go_wp2_with (first | ((with_reducible refine gC (f := 182) rfl ?_); refine gL (some 8) Try.func182 #[a0] ?_; (with_reducible refine (Z40.calls a0 true _ A3.out).mono ?_); rintro e w' ⟨rfl, ⟨nd, rfl⟩⟩; refine ⟨_, rfl, ?_⟩) | ((with_reducible refine gC (f := 182) rfl ?_); refine gL (some 10) Try.func182 #[a1] ?_; (with_reducible refine (Z40.calls a1 true _ A4.out).mono ?_); rintro e w' ⟨rfl, ⟨nd, rfl⟩⟩; refine ⟨_, rfl, ?_⟩))
   go_ret
   exact ⟨by first | rfl | (simp; done) | (simp [*]; done), by repeat (first | exact Drawn0.refl _ | apply Drawn0.step)⟩
  replace c6 := Bool.eq_false_iff.mpr c6
  subst c6
  replace H := hF H
  obtain rfl := Option.some.inj H
  go_enter Try.func125, Try.ntmps125
  go_wp2_with (first | ((with_reducible refine gC (f := 182) rfl ?_); refine gL (some 8) Try.func182 #[a0] ?_; (with_reducible refine (Z40.calls a0 true _ A3.out).mono ?_); rintro e w' ⟨rfl, ⟨nd, rfl⟩⟩; refine ⟨_, rfl, ?_⟩) | ((with_reducible refine gC (f := 182) rfl ?_); refine gL (some 10) Try.func182 #[a1] ?_; (with_reducible refine (Z40.calls a1 false _ A4.out).mono ?_); rintro e w' ⟨rfl, ⟨nd, rfl⟩⟩; refine ⟨_, rfl, ?_⟩))
  go_ret
  exact ⟨by first | rfl | (simp; done) | (simp [*]; done), by repeat (first | exact Drawn0.refl _ | apply Drawn0.step)⟩
 replace c5 := Bool.eq_false_iff.mpr c5
 subst c5
 replace H := hF H
 by_cases c7 : aA = true
 case pos =>
  subst c7
  replace H := hP H rfl
  obtain rfl := Option.some.inj H
  go_enter Try.func125, Try.ntmps125
  go_wp2_with (first | ((with_reducible refine gC (f := 182) rfl ?_); refine gL (some 8) Try.func182 #[a0] ?_; (with_reducible refine (Z40.calls a0 false _ A3.out).mono ?_); rintro e w' ⟨rfl, ⟨nd, rfl⟩⟩; refine ⟨_, rfl, ?_⟩) | ((with_reducible refine gC (f := 182) rfl ?_); refine gL (some 10) Try.func182 #[a1] ?_; (with_reducible refine (Z40.calls a1 true _ A4.out).mono ?_); rintro e w' ⟨rfl, ⟨nd, rfl⟩⟩; refine ⟨_, rfl, ?_⟩))
  go_ret
  exact ⟨by first | rfl | (simp; done) | (simp [*]; done), by repeat (first | exact Drawn0.refl _ | apply Drawn0.step)⟩
 replace c7 := Bool.eq_false_iff.mpr c7
 subst c7
 replace H := hF H
 by_cases c8 : a0 < a1
 case pos =>
  rw [if_pos c8] at H
  have aG := decide_eq_true c8
  clear c8
  obtain rfl := Option.some.inj H
  go_enter Try.func125, Try.ntmps125
  go_wp2_with (first | ((with_reducible refine gC (f := 182) rfl ?_); refine gL (some 8) Try.func182 #[a0] ?_; (with_reducible refine (Z40.calls a0 false _ A3.out).mono ?_); rintro e w' ⟨rfl, ⟨nd, rfl⟩⟩; refine ⟨_, rfl, ?_⟩) | ((with_reducible refine gC (f := 182) rfl ?_); refine gL (some 10) Try.func182 #[a1] ?_; (with_reducible refine (Z40.calls a1 false _ A4.out).mono ?_); rintro e w' ⟨rfl, ⟨nd, rfl⟩⟩; refine ⟨_, rfl, ?_⟩))
  go_ret
  exact ⟨by first | rfl | (simp; done) | (simp [*]; done), by repeat (first | exact Drawn0.refl _ | apply Drawn0.step)⟩
 rw [if_neg c8] at H
 have aG := decide_eq_false c8
 clear c8
 by_cases c9 : a0 > a1
 case pos =>
  rw [if_pos c9] at H
  have aH := decide_eq_true c9
  clear c9
  obtain rfl := Option.some.inj H
  go_enter Try.func125, Try.ntmps125
  go_wp2_with (first | ((with_reducible refine gC (f := 182) rfl ?_); refine gL (some 8) Try.func182 #[a0] ?_; (with_reducible refine (Z40.calls a0 false _ A3.out).mono ?_); rintro e w' ⟨rfl, ⟨nd, rfl⟩⟩; refine ⟨_, rfl, ?_⟩) | ((with_reducible refine gC (f := 182) rfl ?_); refine gL (some 10) Try.func182 #[a1] ?_; (with_reducible refine (Z40.calls a1 false _ A4.out).mono ?_); rintro e w' ⟨rfl, ⟨nd, rfl⟩⟩; refine ⟨_, rfl, ?_⟩))
  go_ret
  exact ⟨by first | rfl | (simp; done) | (simp [*]; done), by repeat (first | exact Drawn0.refl _ | apply Drawn0.step)⟩
 rw [if_neg c9] at H
 have aH := decide_eq_false c9
 clear c9
 obtain rfl := Option.some.inj H
 go_enter Try.func125, Try.ntmps125
 go_wp2_with (first | ((with_reducible refine gC (f := 182) rfl ?_); refine gL (some 8) Try.func182 #[a0] ?_; (with_reducible refine (Z40.calls a0 false _ A3.out).mono ?_); rintro e w' ⟨rfl, ⟨nd, rfl⟩⟩; refine ⟨_, rfl, ?_⟩) | ((with_reducible refine gC (f := 182) rfl ?_); refine gL (some 10) Try.func182 #[a1] ?_; (with_reducible refine (Z40.calls a1 false _ A4.out).mono ?_); rintro e w' ⟨rfl, ⟨nd, rfl⟩⟩; refine ⟨_, rfl, ?_⟩))
 go_ret
 exact ⟨by first | rfl | (simp; done) | (simp [*]; done), by repeat (first | exact Drawn0.refl _ | apply Drawn0.step)⟩

end Go.Proofs.Ythmijfekdeagpaa.PFnExactReact

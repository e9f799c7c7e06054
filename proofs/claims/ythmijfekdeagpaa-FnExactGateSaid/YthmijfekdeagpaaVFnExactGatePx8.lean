/- A part of the proof of laws.FnExactGate. No condition beyond what its theorems say. -/
import Derived.Test.YthmijfekdeagpaaVFnExactGatePx7
namespace Go.Proofs.Ythmijfekdeagpaa.PFnExactGate
open Go.RowKit Go.Proofs.YthmijfekdeagpaaW.PrintWords Go.Proofs.YthmijfekdeagpaaW.PrintLast Go.Proofs.YthmijfekdeagpaaW.PrintMore
set_option linter.unusedVariables false
set_option linter.unusedSimpArgs false

def impl_CardOk.l0 : Nat → List (S63) → Int → Int → List Bool → List (S63) → List (S138) → Option (Bool)
 | 0, _, _, _, _, _, _ => none
 | k + 1, x6, x7, x8, aA, aC, aD => if x8 < x7 then (if 0 ≤ x8 then (if x8 < (x6.length : Int) then ((impl_MemberOk.f k ((rd_T63 x6 x8).f0) ((rd_T63 x6 x8).f1)).bind fun aE => (if aE = true then (impl_CardOk.l0 k x6 x7 (wrap64 (x8 + 1)) aA aC aD) else (some false))) else (none)) else (none)) else ((impl_inRange.f (aA.length : Int) 1 4).bind fun aG => (if aG = true then (if (aC.length : Int) = (aA.length : Int) then ((impl_TableOk.f k aD).bind fun aH => (some aH)) else (some false)) else (some false)))
def impl_CardOk.f (k : Nat) (aC : List Bool) (aA : List (S63)) (aD : List (S138)) : Option (Bool) := impl_CardOk.l0 k aA (aA.length : Int) 0 aC aA aD
theorem impl_CardOk.mono_l : ∀ k, (∀ y0 y1 y2 y3 y4 y5, LeO (impl_CardOk.l0 k y0 y1 y2 y3 y4 y5) (impl_CardOk.l0 (k + 1) y0 y1 y2 y3 y4 y5))
 | 0 => fun _ _ _ _ _ _ r h => by simp [impl_CardOk.l0] at h
 | k + 1 => by
  have ih0 := impl_CardOk.mono_l k
  ·intro y0 y1 y2 y3 y4 y5
   unfold impl_CardOk.l0
   repeat' first|(with_reducible first|apply ih0|apply impl_MemberOk.mono|apply impl_TableOk.mono|exact lR _|exact lN _|refine lI ?_ ?_|refine lB ?_ fun _ => ?_)|exact lN _|refine lI ?_ ?_|refine lB ?_ fun _ => ?_
theorem impl_CardOk.mono : ∀ a0 a1 a2 k, LeO (impl_CardOk.f k a0 a1 a2) (impl_CardOk.f (k + 1) a0 a1 a2) := by
 intro a0 a1 a2 k
 have ih0 := impl_CardOk.mono_l k
 unfold impl_CardOk.f
 repeat' first|(with_reducible first|apply ih0|apply impl_MemberOk.mono|apply impl_TableOk.mono|exact lR _|exact lN _|refine lI ?_ ?_|refine lB ?_ fun _ => ?_)|exact lN _|refine lI ?_ ?_|refine lB ?_ fun _ => ?_
set_option maxHeartbeats 60000000 in
set_option maxRecDepth 100000 in
theorem impl_CardOk.calls (k : Nat) (bI : Option Addr) (bJ : Nat) (aE : List Bool) (bK : Option Addr) (bL : Nat) (aA : List (S63)) (bM : Option Addr) (bN : Nat) (aG : List (S138)) (r : Bool) (w : World) (hr0_0 : Kd.C Kd.bool w bI aE.length aE) (hc0_0 : aE.length ≤ bJ) (hr0_1 : Kd.C k63 w bK aA.length aA) (hc0_1 : aA.length ≤ bL) (hr0_2 : Kd.C k138 w bM aG.length aG) (hc0_2 : aG.length ≤ bN) (h : impl_CardOk.f k aE aA aG = some r) :
  Calls Try.prog 31 #[.agg #[.slice bI aE.length bJ, .slice bK aA.length bL, .slice bM aG.length bN]] w fun e w' => e = .returned (.bool r) ∧ Below w.heap.size w w' := by
 have dM := Try.underlying43
 have dN := Try.underlying63
 have cX := aM hr0_0
 have cY := aM hc0_0
 clear hr0_0 hc0_0
 have bQ := aM hr0_1
 have dA := aM hc0_1
 clear hr0_1 hc0_1
 have cD := aM hr0_2
 have cE := aM hc0_2
 clear hr0_2 hc0_2
 have HB := aM (Below.refl w.heap.size w)
 have H : (impl_CardOk.l0 k aA (aA.length : Int) 0 aE aA aG) = some r := h
 clear h
 have H' := aM H
 clear H
 go_enter Try.func31, Try.ntmps31
 go_wp2_with (first | ((with_reducible refine gD (N := 1) rfl ?_); (try (refine gate_guard (by rfl) ?_; dsimp only)); refine bE (N := 1) (cs := #[.slice bI aE.length bJ, .slice bK aA.length bL, .slice bM aG.length bN]) (t := 43) ?_; intro cG hg w2 hbox hb; have aC := aM (hbox); have dB := gF hg HB; have dC := gF hg HB; replace HB := rS HB hb; clear hb hbox hg; have dO := cA3 aC.out))
 go_loopg [8] k (fun kq v8 w' => ∃ (aD : Int), v8 = .int .i64 aD ∧ Aside0 (impl_CardOk.l0 kq aA (aA.length : Int) aD aE aA aG = some r) ∧ Aside0 (kq ≤ k) ∧ Aside0 (w'.heap[cG]? = some (.cells #[(.slice bI aE.length bJ), (.slice bK aA.length bL), (.slice bM aG.length bN)] 43 (0, 0))) ∧ Aside0 (Below w.heap.size w w'))
 case atStart => exact ⟨(0), xE, H', ⟨Nat.le_refl _⟩, ⟨bk aC.out⟩, ⟨bl HB.out⟩⟩
 case round =>
  clear H'
  repeat first|clear p2|clear c3
  obtain ⟨aD, rfl, HA, cQ, aC, HB⟩ := hrel
  cases gk with
  | zero => exact absurd HA.out (by simp [impl_CardOk.l0])
  | succ k1 =>
   have H := HA.out
   clear HA
   simp only [impl_CardOk.l0] at H
   by_cases c4 : aD < (aA.length : Int)
   case pos =>
    rw [if_pos c4] at H
    have cS := decide_eq_true c4
    clear c4
    obtain ⟨dP, H⟩ := gI H
    obtain ⟨dQ, H⟩ := gI H
    obtain ⟨cT, cR, H⟩ := hB H
    have A7 := aM cR
    clear cR
    by_cases c8 : cT = true
    case neg =>
     replace c8 := Bool.eq_false_iff.mpr c8
     subst c8
     replace H := hF H
     obtain rfl := Option.some.inj H
     have aW : 0 ≤ (aD : Int) := dT
     have aX : aD < (aA.length : Int) := dT
     obtain ⟨cH, aK, aN, bP, aH, aI, hl256_1, hi256_1⟩ := at_T63 bQ.out aD aW aX
     cases bP
     replace aH := xB HB aH
     replace aI := xB HB aI
     have bA := aM hi256_1
     have bD := aM hl256_1
     clear hi256_1 hl256_1
     replace aW := eq_true aW
     replace aX := eq_true aX
     go_wp2_with (first | ((with_reducible refine gD (N := 4) rfl ?_); (try (refine gate_guard (by rfl) ?_; dsimp only)); refine bE (N := 4) (cs := #[.int .i64 0, .slice none 0 0]) (t := 63) ?_; intro bO hg dR hbox hb; have aJ := aM (hbox); have cK := gF hg HB; have cL := gF hg HB; have aQ := nM hg aC; have aT := nH hg aC; replace aC := rB aC hb; replace HB := rS HB hb; clear hb hbox hg; have dD := aT.out; have dE := aQ.out; have dF := cA2 aJ.out) | ((with_reducible refine gC (f := 113) rfl ?_); refine gL (some 13) Try.func113 #[.agg #[((rd_T63 aA aD).f0), .slice aK ((rd_T63 aA aD).f1).length aN]] ?_; (with_reducible refine (impl_MemberOk.calls k1 ((rd_T63 aA aD).f0) _ _ ((rd_T63 aA aD).f1) false _ ?side1 ?side2 A7.out).mono ?_); (case side1 => exact cB bA.out (bl HB.out)); (case side2 => exact bD.out); rintro e dS ⟨rfl, hb⟩; refine ⟨_, rfl, ?_⟩; replace aC := aM (bB (fm aC.out) hb); replace aJ := aM (bB (g := bO) (o := .cells #[((rd_T63 aA aD).f0), .slice aK ((rd_T63 aA aD).f1).length aN] 63 (0, 0)) (bm aJ.out) hb); replace HB := rS HB hb; (try clear hb)))
     go_ret
     exact ⟨xW, bl HB.out⟩
    subst c8
    replace H := hP H rfl
    have H' := aM H
    clear H
    have aW : 0 ≤ (aD : Int) := dT
    have aX : aD < (aA.length : Int) := dT
    obtain ⟨cH, aK, aN, bP, aH, aI, hl256_1, hi256_1⟩ := at_T63 bQ.out aD aW aX
    cases bP
    replace aH := xB HB aH
    replace aI := xB HB aI
    have bA := aM hi256_1
    have bD := aM hl256_1
    clear hi256_1 hl256_1
    replace aW := eq_true aW
    replace aX := eq_true aX
    go_wp2_with (first | ((with_reducible refine gD (N := 4) rfl ?_); (try (refine gate_guard (by rfl) ?_; dsimp only)); refine bE (N := 4) (cs := #[.int .i64 0, .slice none 0 0]) (t := 63) ?_; intro bO hg w9 hbox hb; have aJ := aM (hbox); have cK := gF hg HB; have cL := gF hg HB; have aQ := nM hg aC; have aT := nH hg aC; replace aC := rB aC hb; replace HB := rS HB hb; clear hb hbox hg; have dG := aT.out; have dH := aQ.out; have dI := cA2 aJ.out) | ((with_reducible refine gC (f := 113) rfl ?_); refine gL (some 13) Try.func113 #[.agg #[((rd_T63 aA aD).f0), .slice aK ((rd_T63 aA aD).f1).length aN]] ?_; (with_reducible refine (impl_MemberOk.calls k1 ((rd_T63 aA aD).f0) _ _ ((rd_T63 aA aD).f1) true _ ?side1 ?side2 A7.out).mono ?_); (case side1 => exact cB bA.out (bl HB.out)); (case side2 => exact bD.out); rintro e dU ⟨rfl, hb⟩; refine ⟨_, rfl, ?_⟩; replace aC := aM (bB (fm aC.out) hb); replace aJ := aM (bB (g := bO) (o := .cells #[((rd_T63 aA aD).f0), .slice aK ((rd_T63 aA aD).f1).length aN] 63 (0, 0)) (bm aJ.out) hb); replace HB := rS HB hb; (try clear hb)))
    go_roundg k1
    case measure => have := cQ.out; omega
    case rel => exact ⟨(wS aD), xE, H', ⟨by have := cQ.out; omega⟩, ⟨bk aC.out⟩, ⟨bl HB.out⟩⟩
   rw [if_neg c4] at H
   have cS := decide_eq_false c4
   clear c4
   obtain ⟨cU, bW, H⟩ := hB H
   have cA := aM bW
   clear bW
   by_cases bU : cU = true
   case neg =>
    replace bU := Bool.eq_false_iff.mpr bU
    subst bU
    replace H := hF H
    obtain rfl := Option.some.inj H
    have dJ := cA3 aC.out
    go_wp2_with (first | ((with_reducible refine gC (f := 86) rfl ?_); refine gL (some 19) Try.func86 #[.int .i64 (aE.length : Int), .int .i64 1, .int .i64 4] ?_; (with_reducible refine (impl_inRange.calls (aE.length : Int) 1 4 false _ cA.out).mono ?_); rintro e w' ⟨rfl, ⟨nd, rfl⟩⟩; refine ⟨_, rfl, ?_⟩))
    go_ret
    exact ⟨xW, bl HB.out⟩
   subst bU
   replace H := hP H rfl
   by_cases aV : (aA.length : Int) = (aE.length : Int)
   case neg =>
    rw [if_neg aV] at H
    have cN : ((aA.length : Int) == (aE.length : Int)) = false := beq_eq_false_iff_ne.mpr aV
    have cO : ((aA.length : Int) != (aE.length : Int)) = true := bne_iff_ne.mpr aV
    have cP : (aA.length == aE.length) = false := by first | simpa using aV | (simp at aV ⊢; omega)
    obtain rfl := Option.some.inj H
    have dK := cA3 aC.out
    go_wp2_with (first | ((with_reducible refine gC (f := 86) rfl ?_); refine gL (some 19) Try.func86 #[.int .i64 (aE.length : Int), .int .i64 1, .int .i64 4] ?_; (with_reducible refine (impl_inRange.calls (aE.length : Int) 1 4 true _ cA.out).mono ?_); rintro e w' ⟨rfl, ⟨nd, rfl⟩⟩; refine ⟨_, rfl, ?_⟩))
    go_ret
    exact ⟨xW, bl HB.out⟩
   rw [if_pos aV] at H
   have cN : ((aA.length : Int) == (aE.length : Int)) = true := beq_iff_eq.mpr aV
   have cO : ((aA.length : Int) != (aE.length : Int)) = false := bne_eq_false_iff_eq.mpr aV
   have cP : (aA.length == aE.length) = true := by first | simpa using aV | (simp at aV ⊢; omega)
   clear aV
   obtain ⟨cV, cC, H⟩ := hB H
   have cW := aM cC
   clear cC
   obtain rfl := Option.some.inj H
   have dL := cA3 aC.out
   go_wp2_with (first | ((with_reducible refine gC (f := 86) rfl ?_); refine gL (some 19) Try.func86 #[.int .i64 (aE.length : Int), .int .i64 1, .int .i64 4] ?_; (with_reducible refine (impl_inRange.calls (aE.length : Int) 1 4 true _ cA.out).mono ?_); rintro e w' ⟨rfl, ⟨nd, rfl⟩⟩; refine ⟨_, rfl, ?_⟩) | (go_at_call 114; (with_reducible refine (impl_TableOk.calls k1 _ _ aG cV _ ?side1 ?side2 cW.out).mono ?_); (case side1 => exact cM (cB cD.out (bl HB.out))); (case side2 => exact cE.out); rintro e dV ⟨rfl, hb⟩; replace aC := rB aC hb; replace HB := rS HB hb; (try clear hb)))
   go_ret
   exact ⟨xW, bl HB.out⟩

def slices_Clone_bool_bool.f (l0 : List Bool) : Option (List Bool) := (some (([] : List Bool) : List Bool)).bind fun aA => (if aA.length + l0.length < 140737488355328 then (some (aA ++ l0)) else (none))
set_option maxHeartbeats 60000000 in
set_option maxRecDepth 100000 in
theorem slices_Clone_bool_bool.calls (A0 : Option Addr) (c0 : Nat) (l0 : List Bool) (r : List Bool) (w : World) (hr0 : Kd.C Kd.bool w A0 l0.length l0) (hc0 : l0.length ≤ c0) (h : slices_Clone_bool_bool.f l0 = some r) :
  Calls Try.prog 150 #[.slice A0 l0.length c0] w fun e w' => ∃ aJ : Value, e = .returned (aJ) ∧ Kd.R Kd.bool 4 w' w.heap.size (fun _ => True) aJ r ∧ Below w.heap.size w w' := by
 have qn : ∀ (w : World) (a : Option Addr) (n c n' c' : Nat), (binOp .eql 34 (.slice a n c) (.slice none n' c')).run Try.prog w = .ok (.bool a.isNone) w := fun w a n c n' c' => Lib.run_eql_slice_nil w _ _ a n c n' c' Try.underlying34
 by_cases hnil : A0 = none
 ·have hl : l0 = [] := by
   have hc := hr0.2.2
   rw [hnil] at hc
   cases l0 with
   | nil => rfl
   | cons x t => obtain ⟨_, hx, _⟩ := hc (by simp); cases hx
  subst hnil
  subst hl
  have hr : r = [] := by simpa [slices_Clone_bool_bool.f] using h.symm
  subst hr
  clear hr0 h
  go_enter Try.func150, Try.ntmps150
  go_wp2
  go_ret
  exact ⟨_, rfl, Kd.R_nil _ _ _ _ _, Below.refl _ _⟩
 have hsome : A0.isNone = false := by cases A0 <;> simp at hnil ⊢
 clear hnil
 have aQ := aM hr0
 have aV := aM hc0
 clear hr0 hc0
 have HB := aM (Below.refl w.heap.size w)
 have H : ((some (([] : List Bool) : List Bool)).bind fun aC => (if aC.length + l0.length < 140737488355328 then (some (aC ++ l0)) else (none))) = some r := h
 clear h
 obtain ⟨aC, aE, H⟩ := hS H
 have aG := aM aE
 clear aE
 by_cases c2 : aC.length + l0.length < 140737488355328
 case neg =>
  rw [if_neg c2] at H
  exact absurd H (by simp)
 rw [if_pos c2] at H
 have LMc2 := aM c2
 clear c2
 obtain ⟨aK, aA⟩ : ∃ y_ : List Bool, y_ = (aC ++ l0) := ⟨_, rfl⟩
 replace H : (some aK) = some r := by first | (rw [aA]; with_reducible exact H) | (have H2_ := (Option.bind_some _ _).symm.trans H; rw [aA]; with_reducible exact H2_) | (have H2_ := (Option.bind_some _ _).symm.trans H; with_reducible exact H2_) | with_reducible exact H | (rw [aA]; exact H) | exact H
 have aH := aM aA
 clear aA
 obtain rfl := Option.some.inj H
 go_enter Try.func150, Try.ntmps150
 go_wp2_with (first | ((with_reducible refine gD (N := 5) rfl ?_); refine Kd.R_lit Kd.bool _ 4 ?hg (N := 5) ?hd (xs := ([] : List Bool)) (inner := []) (ok := fun _ => True) (okp := fun _ => True) ?hr ?hp (fun _ hk => hk) trivial (Below.refl _ _) (Nat.le_refl _) (by simp) ?_; (case hd => rfl); (case hg => rfl); (case hr => first | (go_simp; done) | (go_simp; rfl) | (obtain ⟨A_, c_, e_⟩ := Kd.R_slice aD.out; subst e_; (first | (go_simp; done) | (go_simp; rfl))) | (obtain ⟨A_, c_, e_⟩ := Kd.S_slice aD.out; subst e_; (first | (go_simp; done) | (go_simp; rfl)))); (case hp => exact (Reps.none _ _)); intro aN w3 ho4 hb hg_ hnew_; clear hg_ hnew_; (first | rw [← aG.out] at ho4 | (simp only [Int.reduceToNat] at ho4; rw [← aG.out] at ho4)); have aD := aM (Kd.R_lower ho4 (below_size (bl HB.out))); replace HB := rS HB hb; clear hb ho4) | ((with_reducible refine gate_builtin (b := .append) (xs := #[.tmp 5, .tmp 6]) rfl ?_); at_builtin; refine Kd.R_append_rows Kd.bool (w0 := w) w.heap.size rfl (.tmp 5) (.tmp 6) 34 4 (.bool false) 1 rfl Try.underlying34 info4 rfl (by decide) (by omega) aN aC l0 _ _ _ (fun _ => True) (fun _ => False) rfl rfl ?aO ?aR (fun _ _ h => h) (fun _ h => h.elim) ?aF ?aB ?aS ?aL ?_; (case aR => repeat (first | exact (cB aQ.out HB.out) | (with_reducible refine Kd.C_alloc ?_ _) | (with_reducible refine Kd.C_drewN ?_ _) | (with_reducible refine Kd.C_drew ?_))); (case aB => exact (bl HB.out)); (case aF => exact (fun _ _ => trivial)); (case aO => exact (kr aD.out)); (case aS => exact (below_size (bl HB.out))); (case aL => have := LMc2.out; omega); intro aT w5 ho hb hg hat; rw [← aH.out] at ho; have aI := aM (ho); replace HB := aM (hb); clear aD; clear ho hb hg hat))
 go_ret
 exact ⟨_, xW, by (with_reducible repeat (first | apply Kd.R_alloc | apply Kd.R_drewN | apply Kd.R_drew)); exact aI.out, bl HB.out⟩

def impl_Heard.f (l0 : List (S138)) : Option ((List (S138))) := (some (([] : List (S138)) : List (S138))).bind fun aA => (if aA.length + l0.length < 4398046511104 then (some (aA ++ l0)) else (none))
set_option maxHeartbeats 60000000 in
set_option maxRecDepth 100000 in
theorem impl_Heard.calls (A0 : Option Addr) (c0 : Nat) (l0 : List (S138)) (r : List (S138)) (w : World) (hr0 : Kd.C k138 w A0 l0.length l0) (hc0 : l0.length ≤ c0) (h : impl_Heard.f l0 = some r) :
  Calls Try.prog 151 #[.slice A0 l0.length c0] w fun e w' => ∃ aJ : Value, e = .returned (aJ) ∧ Kd.R k138 138 w' w.heap.size (fun _ => True) aJ r ∧ Below w.heap.size w w' := by
 have qn : ∀ (w : World) (a : Option Addr) (n c n' c' : Nat), (binOp .eql 41 (.slice a n c) (.slice none n' c')).run Try.prog w = .ok (.bool a.isNone) w := fun w a n c n' c' => Lib.run_eql_slice_nil w _ _ a n c n' c' Try.underlying41
 by_cases hnil : A0 = none
 ·have hl : l0 = [] := by
   have hc := hr0.2.2
   rw [hnil] at hc
   cases l0 with
   | nil => rfl
   | cons x t => obtain ⟨_, hx, _⟩ := hc (by simp); cases hx
  subst hnil
  subst hl
  have hr : r = [] := by simpa [impl_Heard.f] using h.symm
  subst hr
  clear hr0 h
  go_enter Try.func151, Try.ntmps151
  go_wp2
  go_ret
  exact ⟨_, rfl, Kd.R_nil _ _ _ _ _, Below.refl _ _⟩
 have hsome : A0.isNone = false := by cases A0 <;> simp at hnil ⊢
 clear hnil
 have aQ := aM hr0
 have aV := aM hc0
 clear hr0 hc0
 have HB := aM (Below.refl w.heap.size w)
 have H : ((some (([] : List (S138)) : List (S138))).bind fun aC => (if aC.length + l0.length < 4398046511104 then (some (aC ++ l0)) else (none))) = some r := h
 clear h
 obtain ⟨aC, aE, H⟩ := hS H
 have aG := aM aE
 clear aE
 by_cases c2 : aC.length + l0.length < 4398046511104
 case neg =>
  rw [if_neg c2] at H
  exact absurd H (by simp)
 rw [if_pos c2] at H
 have LMc2 := aM c2
 clear c2
 obtain ⟨aK, aA⟩ : ∃ y_ : List (S138), y_ = (aC ++ l0) := ⟨_, rfl⟩
 replace H : (some aK) = some r := by first | (rw [aA]; with_reducible exact H) | (have H2_ := (Option.bind_some _ _).symm.trans H; rw [aA]; with_reducible exact H2_) | (have H2_ := (Option.bind_some _ _).symm.trans H; with_reducible exact H2_) | with_reducible exact H | (rw [aA]; exact H) | exact H
 have aH := aM aA
 clear aA
 obtain rfl := Option.some.inj H
 go_enter Try.func151, Try.ntmps151
 go_wp2_with (first | ((with_reducible refine gD (N := 5) rfl ?_); refine Kd.R_lit k138 _ 138 ?hg (N := 5) ?hd (xs := ([] : List (S138))) (inner := []) (ok := fun _ => True) (okp := fun _ => True) ?hr ?hp (fun _ hk => hk) trivial (Below.refl _ _) (Nat.le_refl _) (by simp) ?_; (case hd => rfl); (case hg => rfl); (case hr => first | (go_simp; done) | (go_simp; rfl) | (obtain ⟨A_, c_, e_⟩ := Kd.R_slice aD.out; subst e_; (first | (go_simp; done) | (go_simp; rfl))) | (obtain ⟨A_, c_, e_⟩ := Kd.S_slice aD.out; subst e_; (first | (go_simp; done) | (go_simp; rfl)))); (case hp => exact (Reps.none _ _)); intro aN w3 ho4 hb hg_ hnew_; clear hg_ hnew_; (first | rw [← aG.out] at ho4 | (simp only [Int.reduceToNat] at ho4; rw [← aG.out] at ho4)); have aD := aM (Kd.R_lower ho4 (below_size (bl HB.out))); replace HB := rS HB hb; clear hb ho4) | ((with_reducible refine gate_builtin (b := .append) (xs := #[.tmp 5, .tmp 6]) rfl ?_); at_builtin; refine Kd.R_append_rows k138 (w0 := w) w.heap.size rfl (.tmp 5) (.tmp 6) 41 138 (.agg #[(.int .i64 0), (.int .i64 0), (.int .i64 0), (.int .i64 0)]) 32 rfl Try.underlying41 info138 rfl (by decide) (by omega) aN aC l0 _ _ _ (fun _ => True) (fun _ => False) rfl rfl ?aO ?aR (fun _ _ h => h) (fun _ h => h.elim) ?aF ?aB ?aS ?aL ?_; (case aR => repeat (first | exact (cB aQ.out HB.out) | (with_reducible refine Kd.C_alloc ?_ _) | (with_reducible refine Kd.C_drewN ?_ _) | (with_reducible refine Kd.C_drew ?_))); (case aB => exact (bl HB.out)); (case aF => exact (fun _ _ => trivial)); (case aO => exact (kr aD.out)); (case aS => exact (below_size (bl HB.out))); (case aL => have := LMc2.out; omega); intro aT w5 ho hb hg hat; rw [← aH.out] at ho; have aI := aM (ho); replace HB := aM (hb); clear aD; clear ho hb hg hat))
 go_ret
 exact ⟨_, xW, by (with_reducible repeat (first | apply Kd.R_alloc | apply Kd.R_drewN | apply Kd.R_drew)); exact aI.out, bl HB.out⟩

def slices_Clone_int_int.f (l0 : List Int) : Option (List Int) := (some (([] : List Int) : List Int)).bind fun aA => (if aA.length + l0.length < 17592186044416 then (some (aA ++ l0)) else (none))
set_option maxHeartbeats 60000000 in
set_option maxRecDepth 100000 in
theorem slices_Clone_int_int.calls (A0 : Option Addr) (c0 : Nat) (l0 : List Int) (r : List Int) (w : World) (hr0 : Kd.C (Kd.int .i64) w A0 l0.length l0) (hc0 : l0.length ≤ c0) (h : slices_Clone_int_int.f l0 = some r) :
  Calls Try.prog 152 #[.slice A0 l0.length c0] w fun e w' => ∃ aJ : Value, e = .returned (aJ) ∧ Kd.R (Kd.int .i64) 3 w' w.heap.size (fun _ => True) aJ r ∧ Below w.heap.size w w' := by
 have qn : ∀ (w : World) (a : Option Addr) (n c n' c' : Nat), (binOp .eql 61 (.slice a n c) (.slice none n' c')).run Try.prog w = .ok (.bool a.isNone) w := fun w a n c n' c' => Lib.run_eql_slice_nil w _ _ a n c n' c' Try.underlying61
 by_cases hnil : A0 = none
 ·have hl : l0 = [] := by
   have hc := hr0.2.2
   rw [hnil] at hc
   cases l0 with
   | nil => rfl
   | cons x t => obtain ⟨_, hx, _⟩ := hc (by simp); cases hx
  subst hnil
  subst hl
  have hr : r = [] := by simpa [slices_Clone_int_int.f] using h.symm
  subst hr
  clear hr0 h
  go_enter Try.func152, Try.ntmps152
  go_wp2
  go_ret
  exact ⟨_, rfl, Kd.R_nil _ _ _ _ _, Below.refl _ _⟩
 have hsome : A0.isNone = false := by cases A0 <;> simp at hnil ⊢
 clear hnil
 have aQ := aM hr0
 have aV := aM hc0
 clear hr0 hc0
 have HB := aM (Below.refl w.heap.size w)
 have H : ((some (([] : List Int) : List Int)).bind fun aC => (if aC.length + l0.length < 17592186044416 then (some (aC ++ l0)) else (none))) = some r := h
 clear h
 obtain ⟨aC, aE, H⟩ := hS H
 have aG := aM aE
 clear aE
 by_cases c2 : aC.length + l0.length < 17592186044416
 case neg =>
  rw [if_neg c2] at H
  exact absurd H (by simp)
 rw [if_pos c2] at H
 have LMc2 := aM c2
 clear c2
 obtain ⟨aK, aA⟩ : ∃ y_ : List Int, y_ = (aC ++ l0) := ⟨_, rfl⟩
 replace H : (some aK) = some r := by first | (rw [aA]; with_reducible exact H) | (have H2_ := (Option.bind_some _ _).symm.trans H; rw [aA]; with_reducible exact H2_) | (have H2_ := (Option.bind_some _ _).symm.trans H; with_reducible exact H2_) | with_reducible exact H | (rw [aA]; exact H) | exact H
 have aH := aM aA
 clear aA
 obtain rfl := Option.some.inj H
 go_enter Try.func152, Try.ntmps152
 go_wp2_with (first | ((with_reducible refine gD (N := 5) rfl ?_); refine Kd.R_lit (Kd.int .i64) _ 3 ?hg (N := 5) ?hd (xs := ([] : List Int)) (inner := []) (ok := fun _ => True) (okp := fun _ => True) ?hr ?hp (fun _ hk => hk) trivial (Below.refl _ _) (Nat.le_refl _) (by simp) ?_; (case hd => rfl); (case hg => rfl); (case hr => first | (go_simp; done) | (go_simp; rfl) | (obtain ⟨A_, c_, e_⟩ := Kd.R_slice aD.out; subst e_; (first | (go_simp; done) | (go_simp; rfl))) | (obtain ⟨A_, c_, e_⟩ := Kd.S_slice aD.out; subst e_; (first | (go_simp; done) | (go_simp; rfl)))); (case hp => exact (Reps.none _ _)); intro aN w3 ho4 hb hg_ hnew_; clear hg_ hnew_; (first | rw [← aG.out] at ho4 | (simp only [Int.reduceToNat] at ho4; rw [← aG.out] at ho4)); have aD := aM (Kd.R_lower ho4 (below_size (bl HB.out))); replace HB := rS HB hb; clear hb ho4) | ((with_reducible refine gate_builtin (b := .append) (xs := #[.tmp 5, .tmp 6]) rfl ?_); at_builtin; refine Kd.R_append_rows (Kd.int .i64) (w0 := w) w.heap.size rfl (.tmp 5) (.tmp 6) 61 3 (.int .i64 0) 8 rfl Try.underlying61 info3 rfl (by decide) (by omega) aN aC l0 _ _ _ (fun _ => True) (fun _ => False) rfl rfl ?aO ?aR (fun _ _ h => h) (fun _ h => h.elim) ?aF ?aB ?aS ?aL ?_; (case aR => repeat (first | exact (cB aQ.out HB.out) | (with_reducible refine Kd.C_alloc ?_ _) | (with_reducible refine Kd.C_drewN ?_ _) | (with_reducible refine Kd.C_drew ?_))); (case aB => exact (bl HB.out)); (case aF => exact (fun _ _ => trivial)); (case aO => exact (kr aD.out)); (case aS => exact (below_size (bl HB.out))); (case aL => have := LMc2.out; omega); intro aT w5 ho hb hg hat; rw [← aH.out] at ho; have aI := aM (ho); replace HB := aM (hb); clear aD; clear ho hb hg hat))
 go_ret
 exact ⟨_, xW, by (with_reducible repeat (first | apply Kd.R_alloc | apply Kd.R_drewN | apply Kd.R_drew)); exact aI.out, bl HB.out⟩

end Go.Proofs.Ythmijfekdeagpaa.PFnExactGate

/- A part of the proof of laws.FnExactGate. No condition beyond what its theorems say. -/
import Derived.Test.YthmijfekdeagpaaVFnExactGatePx0
namespace Go.Proofs.Ythmijfekdeagpaa.PFnExactGate
open Go.RowKit Go.Proofs.YthmijfekdeagpaaW.PrintWords Go.Proofs.YthmijfekdeagpaaW.PrintLast Go.Proofs.YthmijfekdeagpaaW.PrintMore
set_option linter.unusedVariables false
set_option linter.unusedSimpArgs false

def laws_szBoolS.f (l0 : List Bool) (a1 : Int) : Option (Int) := if (wrap64 (a1 - (l0.length : Int))) < 0 then (some (-1)) else (some (wrap64 (a1 - (l0.length : Int))))
set_option maxHeartbeats 60000000 in
set_option maxRecDepth 100000 in
theorem laws_szBoolS.calls (A0 : Option Addr) (c0 : Nat) (l0 : List Bool) (a1 r : Int) (w : World) (hr0 : Kd.C Kd.bool w A0 l0.length l0) (hc0 : l0.length ≤ c0) (h : laws_szBoolS.f l0 a1 = some r) :
  Calls Try.prog 76 #[.slice A0 l0.length c0, a1] w fun e w' => e = .returned (.int .i64 r) ∧ Drawn0 w w' := by
 have aC := aM hr0
 have aD := aM hc0
 clear hr0 hc0
 have H : (if (wrap64 (a1 - (l0.length : Int))) < 0 then (some (-1)) else (some (wrap64 (a1 - (l0.length : Int))))) = some r := h
 clear h
 by_cases c3 : (wrap64 (a1 - (l0.length : Int))) < 0
 case pos =>
  rw [if_pos c3] at H
  have aA := decide_eq_true c3
  clear c3
  obtain rfl := Option.some.inj H
  go_enter Try.func76, Try.ntmps76
  go_wp2
  go_ret
  exact ⟨by first | rfl | (simp; done) | (simp [*]; done), by repeat (first | exact Drawn0.refl _ | apply Drawn0.step)⟩
 rw [if_neg c3] at H
 have aA := decide_eq_false c3
 clear c3
 obtain rfl := Option.some.inj H
 go_enter Try.func76, Try.ntmps76
 go_wp2
 go_ret
 exact ⟨by first | rfl | (simp; done) | (simp [*]; done), by repeat (first | exact Drawn0.refl _ | apply Drawn0.step)⟩

def laws_szIntS.f (l0 : List Int) (a1 : Int) : Option (Int) := if (wrap64 (a1 - (l0.length : Int))) < 0 then (some (-1)) else (some (wrap64 (a1 - (l0.length : Int))))
set_option maxHeartbeats 60000000 in
set_option maxRecDepth 100000 in
theorem laws_szIntS.calls (A0 : Option Addr) (c0 : Nat) (l0 : List Int) (a1 r : Int) (w : World) (hr0 : Kd.C (Kd.int .i64) w A0 l0.length l0) (hc0 : l0.length ≤ c0) (h : laws_szIntS.f l0 a1 = some r) :
  Calls Try.prog 187 #[.slice A0 l0.length c0, a1] w fun e w' => e = .returned (.int .i64 r) ∧ Drawn0 w w' := by
 have aC := aM hr0
 have aD := aM hc0
 clear hr0 hc0
 have H : (if (wrap64 (a1 - (l0.length : Int))) < 0 then (some (-1)) else (some (wrap64 (a1 - (l0.length : Int))))) = some r := h
 clear h
 by_cases c3 : (wrap64 (a1 - (l0.length : Int))) < 0
 case pos =>
  rw [if_pos c3] at H
  have aA := decide_eq_true c3
  clear c3
  obtain rfl := Option.some.inj H
  go_enter Try.func187, Try.ntmps187
  go_wp2
  go_ret
  exact ⟨by first | rfl | (simp; done) | (simp [*]; done), by repeat (first | exact Drawn0.refl _ | apply Drawn0.step)⟩
 rw [if_neg c3] at H
 have aA := decide_eq_false c3
 clear c3
 obtain rfl := Option.some.inj H
 go_enter Try.func187, Try.ntmps187
 go_wp2
 go_ret
 exact ⟨by first | rfl | (simp; done) | (simp [*]; done), by repeat (first | exact Drawn0.refl _ | apply Drawn0.step)⟩

def laws_szMember.f (aD : Int) (aC : List Int) (a1 : Int) : Option (Int) := (laws_szIntS.f aC a1).bind fun aA => (if aA < 0 then (some (-1)) else (some aA))
set_option maxHeartbeats 60000000 in
set_option maxRecDepth 100000 in
theorem laws_szMember.calls (aG : Int) (aC : Option Addr) (aD : Nat) (aA : List Int) (a1 r : Int) (w : World) (hr0_1 : Kd.C (Kd.int .i64) w aC aA.length aA) (hc0_1 : aA.length ≤ aD) (h : laws_szMember.f aG aA a1 = some r) :
  Calls Try.prog 147 #[.agg #[aG, .slice aC aA.length aD], a1] w fun e w' => e = .returned (.int .i64 r) ∧ Below w.heap.size w w' := by
 have aW := Try.underlying165
 have aI := aM hr0_1
 have aJ := aM hc0_1
 clear hr0_1 hc0_1
 have HB := aM (Below.refl w.heap.size w)
 have H : ((laws_szIntS.f aA a1).bind fun aE => (if aE < 0 then (some (-1)) else (some aE))) = some r := h
 clear h
 obtain ⟨aE, aT, H⟩ := hB H
 have A3 := aM aT
 clear aT
 by_cases c4 : aE < 0
 case pos =>
  rw [if_pos c4] at H
  have aV := decide_eq_true c4
  clear c4
  obtain rfl := Option.some.inj H
  go_enter Try.func147, Try.ntmps147
  go_wp2_with (first | ((with_reducible refine gD (N := 2) rfl ?_); refine bE (N := 2) (cs := #[aG, .slice aC aA.length aD]) (t := 165) ?_; intro aK hg w5 hbox hb; have aH := aM (hbox); have aN := gF hg HB; have aQ := gF hg HB; replace HB := rS HB hb; clear hb hbox hg; have aX := cA2 aH.out) | ((with_reducible refine gC (f := 187) rfl ?_); refine gL (some 8) Try.func187 #[.slice aC aA.length aD, a1] ?_; (with_reducible refine (laws_szIntS.calls _ _ aA a1 aE _ ?side1 ?side2 A3.out).mono ?_); (case side1 => exact cM (cB aI.out HB.out)); (case side2 => exact aJ.out); rintro e w' ⟨rfl, ⟨nd, rfl⟩⟩; refine ⟨_, rfl, ?_⟩))
  go_ret
  exact ⟨xW, bl HB.out⟩
 rw [if_neg c4] at H
 have aV := decide_eq_false c4
 clear c4
 obtain rfl := Option.some.inj H
 go_enter Try.func147, Try.ntmps147
 go_wp2_with (first | ((with_reducible refine gD (N := 2) rfl ?_); refine bE (N := 2) (cs := #[aG, .slice aC aA.length aD]) (t := 165) ?_; intro aK hg w7 hbox hb; have aH := aM (hbox); have aN := gF hg HB; have aQ := gF hg HB; replace HB := rS HB hb; clear hb hbox hg; have bA := cA2 aH.out) | ((with_reducible refine gC (f := 187) rfl ?_); refine gL (some 8) Try.func187 #[.slice aC aA.length aD, a1] ?_; (with_reducible refine (laws_szIntS.calls _ _ aA a1 aE _ ?side1 ?side2 A3.out).mono ?_); (case side1 => exact cM (cB aI.out HB.out)); (case side2 => exact aJ.out); rintro e w' ⟨rfl, ⟨nd, rfl⟩⟩; refine ⟨_, rfl, ?_⟩))
 go_ret
 exact ⟨xW, bl HB.out⟩

def laws_szMemberS.l0 : Nat → List (S165) → Int → Int → Option (Int)
 | 0, _, _, _ => none
 | k + 1, x0, x1, x5 => if x5 < (x0.length : Int) then (if 0 ≤ x5 then ((laws_szMember.f ((rd_T165 x0 x5).f0) ((rd_T165 x0 x5).f1) x1).bind fun aA => (if aA < 0 then (some (-1)) else (laws_szMemberS.l0 k x0 aA (wrap64 (x5 + 1))))) else (none)) else (some x1)
def laws_szMemberS.f (k : Nat) (l0 : List (S165)) (a1 : Int) : Option (Int) := if (wrap64 (a1 - (l0.length : Int))) < 0 then (some (-1)) else (laws_szMemberS.l0 k l0 (wrap64 (a1 - (l0.length : Int))) 0)
theorem laws_szMemberS.mono_l : ∀ k, (∀ y0 y1 y2, LeO (laws_szMemberS.l0 k y0 y1 y2) (laws_szMemberS.l0 (k + 1) y0 y1 y2))
 | 0 => fun _ _ _ r h => by simp [laws_szMemberS.l0] at h
 | k + 1 => by
  have ih0 := laws_szMemberS.mono_l k
  ·intro y0 y1 y2
   unfold laws_szMemberS.l0
   repeat' first|(with_reducible first|apply ih0|exact lR _|exact lN _|refine lI ?_ ?_|refine lB ?_ fun _ => ?_)|exact lN _|refine lI ?_ ?_|refine lB ?_ fun _ => ?_
theorem laws_szMemberS.mono : ∀ a0 a1 k, LeO (laws_szMemberS.f k a0 a1) (laws_szMemberS.f (k + 1) a0 a1) := by
 intro a0 a1 k
 have ih0 := laws_szMemberS.mono_l k
 unfold laws_szMemberS.f
 repeat' first|(with_reducible first|apply ih0|exact lR _|exact lN _|refine lI ?_ ?_|refine lB ?_ fun _ => ?_)|exact lN _|refine lI ?_ ?_|refine lB ?_ fun _ => ?_
set_option maxHeartbeats 60000000 in
set_option maxRecDepth 100000 in
theorem laws_szMemberS.calls (k : Nat) (A0 : Option Addr) (c0 : Nat) (l0 : List (S165)) (a1 r : Int) (w : World) (hr0 : Kd.C k165 w A0 l0.length l0) (hc0 : l0.length ≤ c0) (h : laws_szMemberS.f k l0 a1 = some r) :
  Calls Try.prog 77 #[.slice A0 l0.length c0, a1] w fun e w' => e = .returned (.int .i64 r) ∧ Below w.heap.size w w' := by
 have bK := Try.underlying165
 have aX := aM hr0
 have bM := aM hc0
 clear hr0 hc0
 have HB := aM (Below.refl w.heap.size w)
 have H : (if (wrap64 (a1 - (l0.length : Int))) < 0 then (some (-1)) else (laws_szMemberS.l0 k l0 (wrap64 (a1 - (l0.length : Int))) 0)) = some r := h
 clear h
 by_cases c3 : (wrap64 (a1 - (l0.length : Int))) < 0
 case pos =>
  rw [if_pos c3] at H
  have aV := decide_eq_true c3
  clear c3
  obtain rfl := Option.some.inj H
  go_enter Try.func77, Try.ntmps77
  go_wp2
  go_ret
  exact ⟨xW, bl HB.out⟩
 rw [if_neg c3] at H
 have aV := decide_eq_false c3
 clear c3
 have H' := aM H
 clear H
 go_enter Try.func77, Try.ntmps77
 go_wp2
 go_loopg [1, 5] k (fun kq v1 v5 w' => ∃ (aE : Int) (aA : Int), v1 = .int .i64 aE ∧ v5 = .int .i64 aA ∧ Aside0 (laws_szMemberS.l0 kq l0 aE aA = some r) ∧ Aside0 (kq ≤ k) ∧ Aside0 (Below w.heap.size w w'))
 case atStart => exact ⟨(wrap64 (a1 - (l0.length : Int))), (0), xE, xE, H', ⟨Nat.le_refl _⟩, ⟨bl HB.out⟩⟩
 case round =>
  clear H'
  repeat first|clear p2|clear c3|clear aV
  obtain ⟨aE, aA, rfl, rfl, HA, bA, HB⟩ := hrel
  cases gk with
  | zero => exact absurd HA.out (by simp [laws_szMemberS.l0])
  | succ k1 =>
   have H := HA.out
   clear HA
   simp only [laws_szMemberS.l0] at H
   by_cases c4 : aA < (l0.length : Int)
   case neg =>
    rw [if_neg c4] at H
    have bI := decide_eq_false c4
    clear c4
    obtain rfl := Option.some.inj H
    go_wp2
    go_ret
    exact ⟨xW, bl HB.out⟩
   rw [if_pos c4] at H
   have bI := decide_eq_true c4
   clear c4
   obtain ⟨bL, H⟩ := gI H
   obtain ⟨aQ, bD, H⟩ := hB H
   have A6 := aM bD
   clear bD
   by_cases c7 : aQ < 0
   case pos =>
    rw [if_pos c7] at H
    have bJ := decide_eq_true c7
    clear c7
    obtain rfl := Option.some.inj H
    have aG : 0 ≤ (aA : Int) := dT
    have aH : aA < (l0.length : Int) := dT
    obtain ⟨aW, aK, aN, aT, aC, aD, hl103_1, hi103_1⟩ := at_T165 aX.out aA aG aH
    cases aT
    replace aC := xB HB aC
    replace aD := xB HB aD
    have aI := aM hi103_1
    have aJ := aM hl103_1
    clear hi103_1 hl103_1
    replace aG := eq_true aG
    replace aH := eq_true aH
    go_wp2_with (first | ((with_reducible refine gC (f := 147) rfl ?_); refine gL (some 23) Try.func147 #[.agg #[((rd_T165 l0 aA).f0), .slice aK ((rd_T165 l0 aA).f1).length aN], aE] ?_; (with_reducible refine (laws_szMember.calls ((rd_T165 l0 aA).f0) _ _ ((rd_T165 l0 aA).f1) aE aQ _ ?side1 ?side2 A6.out).mono ?_); (case side1 => exact cM (cB aI.out HB.out)); (case side2 => exact aJ.out); rintro e w8 ⟨rfl, hb⟩; refine ⟨_, rfl, ?_⟩; replace HB := rS HB hb; (try clear hb)))
    go_ret
    exact ⟨xW, bl HB.out⟩
   rw [if_neg c7] at H
   have bJ := decide_eq_false c7
   clear c7
   have H' := aM H
   clear H
   have aG : 0 ≤ (aA : Int) := dT
   have aH : aA < (l0.length : Int) := dT
   obtain ⟨aW, aK, aN, aT, aC, aD, hl103_1, hi103_1⟩ := at_T165 aX.out aA aG aH
   cases aT
   replace aC := xB HB aC
   replace aD := xB HB aD
   have aI := aM hi103_1
   have aJ := aM hl103_1
   clear hi103_1 hl103_1
   replace aG := eq_true aG
   replace aH := eq_true aH
   go_wp2_with (first | ((with_reducible refine gC (f := 147) rfl ?_); refine gL (some 23) Try.func147 #[.agg #[((rd_T165 l0 aA).f0), .slice aK ((rd_T165 l0 aA).f1).length aN], aE] ?_; (with_reducible refine (laws_szMember.calls ((rd_T165 l0 aA).f0) _ _ ((rd_T165 l0 aA).f1) aE aQ _ ?side1 ?side2 A6.out).mono ?_); (case side1 => exact cM (cB aI.out HB.out)); (case side2 => exact aJ.out); rintro e w9 ⟨rfl, hb⟩; refine ⟨_, rfl, ?_⟩; replace HB := rS HB hb; (try clear hb)))
   go_roundg k1
   case measure => have := bA.out; omega
   case rel => exact ⟨(aQ), (wS aA), xE, xE, H', ⟨by have := bA.out; omega⟩, ⟨bl HB.out⟩⟩

def laws_szHeardS.f (l0 : List (S168)) (a1 : Int) : Option (Int) := if (wrap64 (a1 - (l0.length : Int))) < 0 then (some (-1)) else (some (wrap64 (a1 - (l0.length : Int))))
set_option maxHeartbeats 60000000 in
set_option maxRecDepth 100000 in
theorem laws_szHeardS.calls (A0 : Option Addr) (c0 : Nat) (l0 : List (S168)) (a1 r : Int) (w : World) (hr0 : Kd.C k168 w A0 l0.length l0) (hc0 : l0.length ≤ c0) (h : laws_szHeardS.f l0 a1 = some r) :
  Calls Try.prog 78 #[.slice A0 l0.length c0, a1] w fun e w' => e = .returned (.int .i64 r) ∧ Drawn0 w w' := by
 have aC := aM hr0
 have aD := aM hc0
 clear hr0 hc0
 have H : (if (wrap64 (a1 - (l0.length : Int))) < 0 then (some (-1)) else (some (wrap64 (a1 - (l0.length : Int))))) = some r := h
 clear h
 by_cases c3 : (wrap64 (a1 - (l0.length : Int))) < 0
 case pos =>
  rw [if_pos c3] at H
  have aA := decide_eq_true c3
  clear c3
  obtain rfl := Option.some.inj H
  go_enter Try.func78, Try.ntmps78
  go_wp2
  go_ret
  exact ⟨by first | rfl | (simp; done) | (simp [*]; done), by repeat (first | exact Drawn0.refl _ | apply Drawn0.step)⟩
 rw [if_neg c3] at H
 have aA := decide_eq_false c3
 clear c3
 obtain rfl := Option.some.inj H
 go_enter Try.func78, Try.ntmps78
 go_wp2
 go_ret
 exact ⟨by first | rfl | (simp; done) | (simp [*]; done), by repeat (first | exact Drawn0.refl _ | apply Drawn0.step)⟩

def laws_szCard.f (k : Nat) (aE : List Bool) (aG : List (S165)) (aH : List (S168)) (a1 : Int) : Option (Int) := (laws_szBoolS.f aE a1).bind fun aA => (if aA < 0 then (some (-1)) else ((laws_szMemberS.f k aG aA).bind fun aC => (if aC < 0 then (some (-1)) else ((laws_szHeardS.f aH aC).bind fun aD => (if aD < 0 then (some (-1)) else (some aD))))))
theorem laws_szCard.mono : ∀ a0 a1 a2 a3 k, LeO (laws_szCard.f k a0 a1 a2 a3) (laws_szCard.f (k + 1) a0 a1 a2 a3) := by
 intro a0 a1 a2 a3 k
 unfold laws_szCard.f
 repeat' first|(with_reducible first|apply laws_szMemberS.mono|exact lR _|exact lN _|refine lI ?_ ?_|refine lB ?_ fun _ => ?_)|exact lN _|refine lI ?_ ?_|refine lB ?_ fun _ => ?_
set_option maxHeartbeats 60000000 in
set_option maxRecDepth 100000 in
theorem laws_szCard.calls (k : Nat) (aI : Option Addr) (aJ : Nat) (aC : List Bool) (aK : Option Addr) (aN : Nat) (aD : List (S165)) (aQ : Option Addr) (aT : Nat) (aE : List (S168)) (a1 r : Int) (w : World) (hr0_0 : Kd.C Kd.bool w aI aC.length aC) (hc0_0 : aC.length ≤ aJ) (hr0_1 : Kd.C k165 w aK aD.length aD) (hc0_1 : aD.length ≤ aN) (hr0_2 : Kd.C k168 w aQ aE.length aE) (hc0_2 : aE.length ≤ aT) (h : laws_szCard.f k aC aD aE a1 = some r) :
  Calls Try.prog 19 #[.agg #[.slice aI aC.length aJ, .slice aK aD.length aN, .slice aQ aE.length aT], a1] w fun e w' => e = .returned (.int .i64 r) ∧ Below w.heap.size w w' := by
 have cL := Try.underlying38
 have aW := aM hr0_0
 have aX := aM hc0_0
 clear hr0_0 hc0_0
 have bD := aM hr0_1
 have bI := aM hc0_1
 clear hr0_1 hc0_1
 have bM := aM hr0_2
 have bN := aM hc0_2
 clear hr0_2 hc0_2
 have HB := aM (Below.refl w.heap.size w)
 have H : ((laws_szBoolS.f aC a1).bind fun aG => (if aG < 0 then (some (-1)) else ((laws_szMemberS.f k aD aG).bind fun aH => (if aH < 0 then (some (-1)) else ((laws_szHeardS.f aE aH).bind fun aV => (if aV < 0 then (some (-1)) else (some aV))))))) = some r := h
 clear h
 obtain ⟨aG, bQ, H⟩ := hB H
 have A3 := aM bQ
 clear bQ
 by_cases c4 : aG < 0
 case pos =>
  rw [if_pos c4] at H
  have cA := decide_eq_true c4
  clear c4
  obtain rfl := Option.some.inj H
  go_enter Try.func19, Try.ntmps19
  go_wp2_with (first | ((with_reducible refine gD (N := 2) rfl ?_); refine bE (N := 2) (cs := #[.slice aI aC.length aJ, .slice aK aD.length aN, .slice aQ aE.length aT]) (t := 38) ?_; intro bJ hg w5 hbox hb; have aA := aM (hbox); have bK := gF hg HB; have bL := gF hg HB; replace HB := rS HB hb; clear hb hbox hg; have cN := cA3 aA.out) | ((with_reducible refine gC (f := 76) rfl ?_); refine gL (some 8) Try.func76 #[.slice aI aC.length aJ, a1] ?_; (with_reducible refine (laws_szBoolS.calls _ _ aC a1 aG _ ?side1 ?side2 A3.out).mono ?_); (case side1 => exact cM (cB aW.out HB.out)); (case side2 => exact aX.out); rintro e w' ⟨rfl, ⟨nd, rfl⟩⟩; refine ⟨_, rfl, ?_⟩))
  go_ret
  exact ⟨xW, bl HB.out⟩
 rw [if_neg c4] at H
 have cA := decide_eq_false c4
 clear c4
 obtain ⟨aH, bU, H⟩ := hB H
 have A7 := aM bU
 clear bU
 by_cases c8 : aH < 0
 case pos =>
  rw [if_pos c8] at H
  have cC := decide_eq_true c8
  clear c8
  obtain rfl := Option.some.inj H
  go_enter Try.func19, Try.ntmps19
  go_wp2_with (first | ((with_reducible refine gD (N := 2) rfl ?_); refine bE (N := 2) (cs := #[.slice aI aC.length aJ, .slice aK aD.length aN, .slice aQ aE.length aT]) (t := 38) ?_; intro bJ hg w9 hbox hb; have aA := aM (hbox); have bK := gF hg HB; have bL := gF hg HB; replace HB := rS HB hb; clear hb hbox hg; have cD := cA3 aA.out) | ((with_reducible refine gC (f := 76) rfl ?_); refine gL (some 8) Try.func76 #[.slice aI aC.length aJ, a1] ?_; (with_reducible refine (laws_szBoolS.calls _ _ aC a1 aG _ ?side1 ?side2 A3.out).mono ?_); (case side1 => exact cM (cB aW.out HB.out)); (case side2 => exact aX.out); rintro e w' ⟨rfl, ⟨nd, rfl⟩⟩; refine ⟨_, rfl, ?_⟩) | ((with_reducible refine gC (f := 77) rfl ?_); refine gL (some 14) Try.func77 #[.slice aK aD.length aN, aG] ?_; (with_reducible refine (laws_szMemberS.calls k _ _ aD aG aH _ ?side1 ?side2 A7.out).mono ?_); (case side1 => exact cM (cB bD.out (bl HB.out))); (case side2 => exact bI.out); rintro e cO ⟨rfl, hb⟩; refine ⟨_, rfl, ?_⟩; replace aA := rB aA hb; replace HB := rS HB hb; (try clear hb)))
  go_ret
  exact ⟨xW, bl HB.out⟩
 rw [if_neg c8] at H
 have cC := decide_eq_false c8
 clear c8
 obtain ⟨aV, bO, H⟩ := hB H
 have bW := aM bO
 clear bO
 by_cases bA : aV < 0
 case pos =>
  rw [if_pos bA] at H
  have bP := decide_eq_true bA
  clear bA
  obtain rfl := Option.some.inj H
  go_enter Try.func19, Try.ntmps19
  go_wp2_with (first | ((with_reducible refine gD (N := 2) rfl ?_); refine bE (N := 2) (cs := #[.slice aI aC.length aJ, .slice aK aD.length aN, .slice aQ aE.length aT]) (t := 38) ?_; intro bJ hg cP hbox hb; have aA := aM (hbox); have bK := gF hg HB; have bL := gF hg HB; replace HB := rS HB hb; clear hb hbox hg; have cE := cA3 aA.out) | ((with_reducible refine gC (f := 76) rfl ?_); refine gL (some 8) Try.func76 #[.slice aI aC.length aJ, a1] ?_; (with_reducible refine (laws_szBoolS.calls _ _ aC a1 aG _ ?side1 ?side2 A3.out).mono ?_); (case side1 => exact cM (cB aW.out HB.out)); (case side2 => exact aX.out); rintro e w' ⟨rfl, ⟨nd, rfl⟩⟩; refine ⟨_, rfl, ?_⟩) | ((with_reducible refine gC (f := 77) rfl ?_); refine gL (some 14) Try.func77 #[.slice aK aD.length aN, aG] ?_; (with_reducible refine (laws_szMemberS.calls k _ _ aD aG aH _ ?side1 ?side2 A7.out).mono ?_); (case side1 => exact cM (cB bD.out (bl HB.out))); (case side2 => exact bI.out); rintro e cQ ⟨rfl, hb⟩; refine ⟨_, rfl, ?_⟩; replace aA := rB aA hb; replace HB := rS HB hb; (try clear hb); have cG := cA3 aA.out) | ((with_reducible refine gC (f := 78) rfl ?_); refine gL (some 20) Try.func78 #[.slice aQ aE.length aT, aH] ?_; (with_reducible refine (laws_szHeardS.calls _ _ aE aH aV _ ?side1 ?side2 bW.out).mono ?_); (case side1 => exact cM (cB bM.out HB.out)); (case side2 => exact bN.out); rintro e w' ⟨rfl, ⟨nd, rfl⟩⟩; refine ⟨_, rfl, ?_⟩))
  go_ret
  exact ⟨xW, bl HB.out⟩
 rw [if_neg bA] at H
 have bP := decide_eq_false bA
 clear bA
 obtain rfl := Option.some.inj H
 go_enter Try.func19, Try.ntmps19
 go_wp2_with (first | ((with_reducible refine gD (N := 2) rfl ?_); refine bE (N := 2) (cs := #[.slice aI aC.length aJ, .slice aK aD.length aN, .slice aQ aE.length aT]) (t := 38) ?_; intro bJ hg cR hbox hb; have aA := aM (hbox); have bK := gF hg HB; have bL := gF hg HB; replace HB := rS HB hb; clear hb hbox hg; have cH := cA3 aA.out) | ((with_reducible refine gC (f := 76) rfl ?_); refine gL (some 8) Try.func76 #[.slice aI aC.length aJ, a1] ?_; (with_reducible refine (laws_szBoolS.calls _ _ aC a1 aG _ ?side1 ?side2 A3.out).mono ?_); (case side1 => exact cM (cB aW.out HB.out)); (case side2 => exact aX.out); rintro e w' ⟨rfl, ⟨nd, rfl⟩⟩; refine ⟨_, rfl, ?_⟩) | ((with_reducible refine gC (f := 77) rfl ?_); refine gL (some 14) Try.func77 #[.slice aK aD.length aN, aG] ?_; (with_reducible refine (laws_szMemberS.calls k _ _ aD aG aH _ ?side1 ?side2 A7.out).mono ?_); (case side1 => exact cM (cB bD.out (bl HB.out))); (case side2 => exact bI.out); rintro e cS ⟨rfl, hb⟩; refine ⟨_, rfl, ?_⟩; replace aA := rB aA hb; replace HB := rS HB hb; (try clear hb); have cK := cA3 aA.out) | ((with_reducible refine gC (f := 78) rfl ?_); refine gL (some 20) Try.func78 #[.slice aQ aE.length aT, aH] ?_; (with_reducible refine (laws_szHeardS.calls _ _ aE aH aV _ ?side1 ?side2 bW.out).mono ?_); (case side1 => exact cM (cB bM.out HB.out)); (case side2 => exact bN.out); rintro e w' ⟨rfl, ⟨nd, rfl⟩⟩; refine ⟨_, rfl, ?_⟩))
 go_ret
 exact ⟨xW, bl HB.out⟩

def spec_l1In.f (a0 a1 a2 : Int) : Option (Bool) := if a0 ≥ a1 then (some (decide (a0 ≤ a2))) else (some false)
set_option maxHeartbeats 60000000 in
set_option maxRecDepth 100000 in
theorem spec_l1In.calls (a0 a1 a2 : Int) (r : Bool) (w : World) (h : spec_l1In.f a0 a1 a2 = some r) :
  Calls Try.prog 80 #[a0, a1, a2] w fun e w' => e = .returned (.bool r) ∧ Drawn0 w w' := by
 have H : (if a0 ≥ a1 then (some (decide (a0 ≤ a2))) else (some false)) = some r := h
 clear h
 by_cases c4 : a0 ≥ a1
 case pos =>
  rw [if_pos c4] at H
  have aA := decide_eq_true c4
  clear c4
  obtain rfl := Option.some.inj H
  go_enter Try.func80, Try.ntmps80
  go_wp2
  go_ret
  exact ⟨by first | rfl | (simp; done) | (simp [*]; done), by repeat (first | exact Drawn0.refl _ | apply Drawn0.step)⟩
 rw [if_neg c4] at H
 have aA := decide_eq_false c4
 clear c4
 obtain rfl := Option.some.inj H
 go_enter Try.func80, Try.ntmps80
 go_wp2
 go_ret
 exact ⟨by first | rfl | (simp; done) | (simp [*]; done), by repeat (first | exact Drawn0.refl _ | apply Drawn0.step)⟩

def spec_l3Before.f (aD aA aG aH aE aC aI aJ : Int) : Option (Bool) := if aA < aC then (some true) else (if aA = aC then (some (decide (aD < aE))) else (some false))
set_option maxHeartbeats 60000000 in
set_option maxRecDepth 100000 in
theorem spec_l3Before.calls (aI aC aK aN aJ aD aQ aT : Int) (r : Bool) (w : World) (h : spec_l3Before.f aI aC aK aN aJ aD aQ aT = some r) :
  Calls Try.prog 168 #[.agg #[aI, aC, aK, aN], .agg #[aJ, aD, aQ, aT]] w fun e w' => e = .returned (.bool r) ∧ Below w.heap.size w w' := by
 have bM := Try.underlying138
 have HB := aM (Below.refl w.heap.size w)
 have H : (if aC < aD then (some true) else (if aC = aD then (some (decide (aI < aJ))) else (some false))) = some r := h
 clear h
 by_cases c3 : aC < aD
 case pos =>
  rw [if_pos c3] at H
  have bJ := decide_eq_true c3
  clear c3
  obtain rfl := Option.some.inj H
  go_enter Try.func168, Try.ntmps168
  go_wp2_with (first | ((with_reducible refine gD (N := 2) rfl ?_); refine bE (N := 2) (cs := #[aI, aC, aK, aN]) (t := 138) ?_; intro aV hg w4 hbox hb; have aA := aM (hbox); have aW := gF hg HB; have aX := gF hg HB; replace HB := rS HB hb; clear hb hbox hg) | ((with_reducible refine gD (N := 3) rfl ?_); refine bE (N := 3) (cs := #[aJ, aD, aQ, aT]) (t := 138) ?_; intro bA hg w5 hbox hb; have aH := aM (hbox); have bD := gF hg HB; have bI := gF hg HB; have aE := nM hg aA; have aG := nH hg aA; replace aA := rB aA hb; replace HB := rS HB hb; clear hb hbox hg; have cD := aE.out; have cE := aG.out; have cG := cA4 aA.out; have cH := cA4 aH.out))
  go_ret
  exact ⟨xW, bl HB.out⟩
 rw [if_neg c3] at H
 have bJ := decide_eq_false c3
 clear c3
 by_cases c9 : aC = aD
 case neg =>
  rw [if_neg c9] at H
  have bK : (aC == aD) = false := beq_eq_false_iff_ne.mpr c9
  have bL : (aC != aD) = true := bne_iff_ne.mpr c9
  obtain rfl := Option.some.inj H
  go_enter Try.func168, Try.ntmps168
  go_wp2_with (first | ((with_reducible refine gD (N := 2) rfl ?_); refine bE (N := 2) (cs := #[aI, aC, aK, aN]) (t := 138) ?_; intro aV hg cK hbox hb; have aA := aM (hbox); have aW := gF hg HB; have aX := gF hg HB; replace HB := rS HB hb; clear hb hbox hg) | ((with_reducible refine gD (N := 3) rfl ?_); refine bE (N := 3) (cs := #[aJ, aD, aQ, aT]) (t := 138) ?_; intro bA hg cL hbox hb; have aH := aM (hbox); have bD := gF hg HB; have bI := gF hg HB; have aE := nM hg aA; have aG := nH hg aA; replace aA := rB aA hb; replace HB := rS HB hb; clear hb hbox hg; have bN := aE.out; have bO := aG.out; have bP := cA4 aA.out; have bQ := cA4 aH.out))
  go_ret
  exact ⟨xW, bl HB.out⟩
 rw [if_pos c9] at H
 have bK : (aC == aD) = true := beq_iff_eq.mpr c9
 have bL : (aC != aD) = false := bne_eq_false_iff_eq.mpr c9
 clear c9
 obtain rfl := Option.some.inj H
 go_enter Try.func168, Try.ntmps168
 go_wp2_with (first | ((with_reducible refine gD (N := 2) rfl ?_); refine bE (N := 2) (cs := #[aI, aC, aK, aN]) (t := 138) ?_; intro aV hg cN hbox hb; have aA := aM (hbox); have aW := gF hg HB; have aX := gF hg HB; replace HB := rS HB hb; clear hb hbox hg) | ((with_reducible refine gD (N := 3) rfl ?_); refine bE (N := 3) (cs := #[aJ, aD, aQ, aT]) (t := 138) ?_; intro bA hg cO hbox hb; have aH := aM (hbox); have bD := gF hg HB; have bI := gF hg HB; have aE := nM hg aA; have aG := nH hg aA; replace aA := rB aA hb; replace HB := rS HB hb; clear hb hbox hg; have bU := aE.out; have bW := aG.out; have cA := cA4 aA.out; have cC := cA4 aH.out))
 go_ret
 exact ⟨xW, bl HB.out⟩

end Go.Proofs.Ythmijfekdeagpaa.PFnExactGate

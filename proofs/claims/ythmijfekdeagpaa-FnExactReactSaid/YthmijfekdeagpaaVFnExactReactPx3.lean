/- A part of the proof of laws.FnExactReact. No condition beyond what its theorems say. -/
import Derived.Test.YthmijfekdeagpaaVFnExactReactPx0
namespace Go.Proofs.Ythmijfekdeagpaa.PFnExactReact
open Go.RowKit Go.Proofs.YthmijfekdeagpaaW.PrintWords Go.Proofs.YthmijfekdeagpaaW.PrintLast Go.Proofs.YthmijfekdeagpaaW.PrintMore
set_option linter.unusedVariables false
set_option linter.unusedSimpArgs false

def Z56.f (l0 : List (S160)) (a1 : Int) : Option (Int) := if (wrap64 (a1 - (l0.length : Int))) < 0 then (some (-1)) else (some (wrap64 (a1 - (l0.length : Int))))
set_option maxHeartbeats 60000000 in
set_option maxRecDepth 100000 in
theorem Z56.calls (A0 : Option Addr) (c0 : Nat) (l0 : List (S160)) (a1 r : Int) (w : World) (hr0 : Kd.C k160 w A0 l0.length l0) (hc0 : l0.length ≤ c0) (h : Z56.f l0 a1 = some r) :
  Calls Try.prog 66 #[.slice A0 l0.length c0, a1] w fun e w' => e = .returned (.int .i64 r) ∧ Drawn0 w w' := by
 have aC := aM hr0
 have aD := aM hc0
 clear hr0 hc0
 have H : (if (wrap64 (a1 - (l0.length : Int))) < 0 then (some (-1)) else (some (wrap64 (a1 - (l0.length : Int))))) = some r := h
 clear h
 by_cases c3 : (wrap64 (a1 - (l0.length : Int))) < 0
 case pos =>
  rw [if_pos c3] at H
  have aA := decide_eq_true c3
  clear c3
  obtain rfl := Option.some.inj H
  go_enter Try.func66, Try.ntmps66
  go_wp2
  go_ret
  exact ⟨by first | rfl | (simp; done) | (simp [*]; done), by repeat (first | exact Drawn0.refl _ | apply Drawn0.step)⟩
 rw [if_neg c3] at H
 have aA := decide_eq_false c3
 clear c3
 obtain rfl := Option.some.inj H
 go_enter Try.func66, Try.ntmps66
 go_wp2
 go_ret
 exact ⟨by first | rfl | (simp; done) | (simp [*]; done), by repeat (first | exact Drawn0.refl _ | apply Drawn0.step)⟩

def Z58.f (aD : Int) (aC : List (S160)) (a1 : Int) : Option (Int) := (Z56.f aC a1).bind fun aA => (if aA < 0 then (some (-1)) else (some aA))
set_option maxHeartbeats 60000000 in
set_option maxRecDepth 100000 in
theorem Z58.calls (aG : Int) (aC : Option Addr) (aD : Nat) (aA : List (S160)) (a1 r : Int) (w : World) (hr0_1 : Kd.C k160 w aC aA.length aA) (hc0_1 : aA.length ≤ aD) (h : Z58.f aG aA a1 = some r) :
  Calls Try.prog 12 #[.agg #[aG, .slice aC aA.length aD], a1] w fun e w' => e = .returned (.int .i64 r) ∧ Below w.heap.size w w' := by
 have aW := Try.underlying24
 have aI := aM hr0_1
 have aJ := aM hc0_1
 clear hr0_1 hc0_1
 have HB := aM (Below.refl w.heap.size w)
 have H : ((Z56.f aA a1).bind fun aE => (if aE < 0 then (some (-1)) else (some aE))) = some r := h
 clear h
 obtain ⟨aE, aT, H⟩ := hB H
 have A3 := aM aT
 clear aT
 by_cases c4 : aE < 0
 case pos =>
  rw [if_pos c4] at H
  have aV := decide_eq_true c4
  clear c4
  obtain rfl := Option.some.inj H
  go_enter Try.func12, Try.ntmps12
  go_wp2_with (first | ((with_reducible refine gD (N := 2) rfl ?_); refine bE (N := 2) (cs := #[aG, .slice aC aA.length aD]) (t := 24) ?_; intro aK hg w5 hbox hb; have aH := aM (hbox); have aN := gF hg HB; have aQ := gF hg HB; replace HB := rS HB hb; clear hb hbox hg; have aX := cA2 aH.out) | ((with_reducible refine gC (f := 66) rfl ?_); refine gL (some 8) Try.func66 #[.slice aC aA.length aD, a1] ?_; (with_reducible refine (Z56.calls _ _ aA a1 aE _ ?side1 ?side2 A3.out).mono ?_); (case side1 => exact cM (cB aI.out HB.out)); (case side2 => exact aJ.out); rintro e w' ⟨rfl, ⟨nd, rfl⟩⟩; refine ⟨_, rfl, ?_⟩))
  go_ret
  exact ⟨xW, bl HB.out⟩
 rw [if_neg c4] at H
 have aV := decide_eq_false c4
 clear c4
 obtain rfl := Option.some.inj H
 go_enter Try.func12, Try.ntmps12
 go_wp2_with (first | ((with_reducible refine gD (N := 2) rfl ?_); refine bE (N := 2) (cs := #[aG, .slice aC aA.length aD]) (t := 24) ?_; intro aK hg w7 hbox hb; have aH := aM (hbox); have aN := gF hg HB; have aQ := gF hg HB; replace HB := rS HB hb; clear hb hbox hg; have bA := cA2 aH.out) | ((with_reducible refine gC (f := 66) rfl ?_); refine gL (some 8) Try.func66 #[.slice aC aA.length aD, a1] ?_; (with_reducible refine (Z56.calls _ _ aA a1 aE _ ?side1 ?side2 A3.out).mono ?_); (case side1 => exact cM (cB aI.out HB.out)); (case side2 => exact aJ.out); rintro e w' ⟨rfl, ⟨nd, rfl⟩⟩; refine ⟨_, rfl, ?_⟩))
 go_ret
 exact ⟨xW, bl HB.out⟩

def Z53.f (aA aC aD aE : Int) : Option (Int × Int × Int × Int) := some (aA, aC, aD, aE)
set_option maxHeartbeats 60000000 in
set_option maxRecDepth 100000 in
theorem Z53.calls (aD aE aG aH r1 r2 r3 r4 : Int) (w : World) (h : Z53.f aD aE aG aH = some (r1, r2, r3, r4)) :
  Calls Try.prog 134 #[.agg #[aD, aE, aG, aH]] w fun e w' => e = .returned (.agg #[r1, r2, r3, r4]) ∧ Below w.heap.size w w' := by
 have bM := Try.underlying90
 have bN := Try.underlying73
 have HB := aM (Below.refl w.heap.size w)
 have H : (some (aD, aE, aG, aH)) = some (r1, r2, r3, r4) := h
 clear h
 simp only [Option.some.injEq, Prod.mk.injEq] at H
 obtain ⟨rfl, rfl, rfl, rfl⟩ := H
 go_enter Try.func134, Try.ntmps134
 go_wp2_with (first | ((with_reducible refine gD (N := 1) rfl ?_); refine bE (N := 1) (cs := #[aD, aE, aG, aH]) (t := 90) ?_; intro aX hg w2 hbox hb; have aA := aM (hbox); have bA := gF hg HB; have bD := gF hg HB; replace HB := rS HB hb; clear hb hbox hg) | ((with_reducible refine gD (N := 2) rfl ?_); refine bE (N := 2) (cs := #[.int .i64 0, .int .i64 0, .int .i64 0, .int .i64 0]) (t := 73) ?_; intro aV hg w3 hbox hb; have aC := aM (hbox); have bG := gF hg HB; have bH := gF hg HB; have aI := nM hg aA; have aJ := nH hg aA; replace aA := rB aA hb; replace HB := rS HB hb; clear hb hbox hg) | ((with_reducible refine gD (N := 3) rfl ?_); refine bE (N := 3) (cs := #[.int .i64 0, .int .i64 0, .int .i64 0, .int .i64 0]) (t := 73) ?_; intro bI hg w4 hbox hb; have aW := aM (hbox); have bJ := gF hg HB; have bK := gF hg HB; have aK := nM hg aA; have aN := nH hg aA; have aQ := nM hg aC; have aT := nH hg aC; replace aA := rB aA hb; replace aC := rB aC hb; replace HB := rS HB hb; clear hb hbox hg; have bO := aI.out; have bP := aJ.out; have bQ := aK.out; have bT := aN.out; have bU := cA4 aA.out; have bV := aT.out; have bW := aQ.out; have bX := cA4 aW.out; have bL := cA4 aC.out))
 refine bodyPost_ret (results_cell_row rfl _ _ aV 73 #[aD, aE, aG, aH] (0, 0) _ rfl (bm aC.out) Try.underlying73 rfl (by kernel_rfl)) rfl ?_
 exact ⟨xW, bl HB.out⟩

def Z61.f (aD aE : Bool) (aG aH aI aJ aK aN aQ aT : Int) (aC : Bool) : Option (Bool × Bool × Int × Int × Int × Int × Int × Int × Int × Int × Bool) := (Z53.f aG aH aI aJ).bind fun aA => (some (aD, aE, aA.1, aA.2.1, aA.2.2.1, aA.2.2.2, aK, aN, aQ, aT, aC))
set_option maxHeartbeats 60000000 in
set_option maxRecDepth 100000 in
theorem Z61.calls (aD aG : Bool) (aH aI aJ aK aT aV aW aX : Int) (aE r1 r2 : Bool) (r3 r4 r5 r6 r7 r8 r9 bK : Int) (bL : Bool) (w : World) (h : Z61.f aD aG aH aI aJ aK aT aV aW aX aE = some (r1, r2, r3, r4, r5, r6, r7, r8, r9, bK, bL)) :
  Calls Try.prog 143 #[.agg #[aD, aG, aH, aI, aJ, aK, aT, aV, aW, aX, aE]] w fun e w' => e = .returned (.agg #[r1, r2, r3, r4, r5, r6, r7, r8, r9, bK, bL]) ∧ Below w.heap.size w w' := by
 have bV := Try.underlying160
 have cL := Try.underlying79
 have cN := Try.underlying90
 have cO := Try.underlying73
 have HB := aM (Below.refl w.heap.size w)
 have H : ((Z53.f aH aI aJ aK).bind fun aN => (some (aD, aG, aN.1, aN.2.1, aN.2.2.1, aN.2.2.2, aT, aV, aW, aX, aE))) = some (r1, r2, r3, r4, r5, r6, r7, r8, r9, bK, bL) := h
 clear h
 obtain ⟨⟨bM, bN, bO, bP⟩, bU, H⟩ := hB H
 try dsimp only at H
 have A2 := aM bU
 clear bU
 simp only [Option.some.injEq, Prod.mk.injEq] at H
 obtain ⟨rfl, rfl, rfl, rfl, rfl, rfl, rfl, rfl, rfl, rfl, rfl⟩ := H
 go_enter Try.func143, Try.ntmps143
 go_wp2_with (first | ((with_reducible refine gD (N := 1) rfl ?_); refine bE (N := 1) (cs := #[aD, aG, aH, aI, aJ, aK, aT, aV, aW, aX, aE]) (t := 160) ?_; intro bW hg w3 hbox hb; have aA := aM (hbox); have bX := gF hg HB; have bY := gF hg HB; replace HB := rS HB hb; clear hb hbox hg) | ((with_reducible refine gD (N := 2) rfl ?_); refine bE (N := 2) (cs := #[.bool false, .bool false, .int .i64 0, .int .i64 0, .int .i64 0, .int .i64 0, .int .i64 0, .int .i64 0, .int .i64 0, .int .i64 0, .bool false]) (t := 79) ?_; intro bQ hg w4 hbox hb; have aC := aM (hbox); have bZ := gF hg HB; have cA := gF hg HB; have bA := nM hg aA; have bD := nH hg aA; replace aA := rB aA hb; replace HB := rS HB hb; clear hb hbox hg) | ((with_reducible refine gD (N := 3) rfl ?_); refine bE (N := 3) (cs := #[.bool false, .bool false, .int .i64 0, .int .i64 0, .int .i64 0, .int .i64 0, .int .i64 0, .int .i64 0, .int .i64 0, .int .i64 0, .bool false]) (t := 79) ?_; intro bT hg w5 hbox hb; have aQ := aM (hbox); have cC := gF hg HB; have cD := gF hg HB; have bG := nM hg aA; have bH := nH hg aA; have bI := nM hg aC; have bJ := nH hg aC; replace aA := rB aA hb; replace aC := rB aC hb; replace HB := rS HB hb; clear hb hbox hg; have cP := bA.out; have cQ := bD.out; have cR := bG.out; have cS := bH.out; have cT := cA11 aA.out; have cU := bJ.out; have cV := bI.out; have cE := cA11 aQ.out) | ((with_reducible refine gC (f := 134) rfl ?_); refine gL (some 12) Try.func134 #[.agg #[aH, aI, aJ, aK]] ?_; (with_reducible refine (Z53.calls aH aI aJ aK bM bN bO bP _ A2.out).mono ?_); rintro e cW ⟨rfl, hb⟩; refine ⟨_, rfl, ?_⟩; replace aA := aM (bB (fm aA.out) hb); replace aC := aM (bB (fm aC.out) hb); replace aQ := aM (bB (g := bT) (o := .cells #[aD, aG, .int .i64 0, .int .i64 0, .int .i64 0, .int .i64 0, .int .i64 0, .int .i64 0, .int .i64 0, .int .i64 0, .bool false] 79 (0, 0)) (by (with_reducible repeat (first | refine blk_drewN ?_ _ | refine blk_drew ?_ | refine blk_alloc ?_ _)); refine blk_put (cs := #[aD, .bool false, .int .i64 0, .int .i64 0, .int .i64 0, .int .i64 0, .int .i64 0, .int .i64 0, .int .i64 0, .int .i64 0, .bool false]) ?_ 1 _ rfl; (with_reducible repeat (first | refine blk_drewN ?_ _ | refine blk_drew ?_ | refine blk_alloc ?_ _)); refine blk_put (cs := #[.bool false, .bool false, .int .i64 0, .int .i64 0, .int .i64 0, .int .i64 0, .int .i64 0, .int .i64 0, .int .i64 0, .int .i64 0, .bool false]) ?_ 0 _ rfl; (with_reducible repeat (first | refine blk_drewN ?_ _ | refine blk_drew ?_ | refine blk_alloc ?_ _)); exact aQ.out) hb); replace HB := rS HB hb; (try clear hb); have cG := cA11 aQ.out; have cH := cA11 aA.out; have cK := cA11 aC.out))
 refine bodyPost_ret (results_cell_row rfl _ _ bQ 79 #[aD, aG, bM, bN, bO, bP, aT, aV, aW, aX, aE] (0, 0) _ rfl (bm aC.out) Try.underlying79 rfl (by kernel_rfl)) rfl ?_
 exact ⟨xW, bl HB.out⟩

def Z28.l0 : Nat → List (S160) → List (S79) → Int → Option ((List (S79)))
 | 0, _, _, _ => none
 | k + 1, x0, x3, x4 => if x4 < (x0.length : Int) then (if 0 ≤ x4 then ((Z61.f ((rd_T160 x0 x4).f0) ((rd_T160 x0 x4).f1) ((rd_T160 x0 x4).f2.f0) ((rd_T160 x0 x4).f2.f1) ((rd_T160 x0 x4).f2.f2) ((rd_T160 x0 x4).f2.f3) ((rd_T160 x0 x4).f3) ((rd_T160 x0 x4).f4) ((rd_T160 x0 x4).f5) ((rd_T160 x0 x4).f6) ((rd_T160 x0 x4).f7)).bind fun aA => (if x4 < (x3.length : Int) then (Z28.l0 k x0 (x3.set (x4 : Int).toNat (⟨aA.1, aA.2.1, (⟨aA.2.2.1, aA.2.2.2.1, aA.2.2.2.2.1, aA.2.2.2.2.2.1⟩ : S73), aA.2.2.2.2.2.2.1, aA.2.2.2.2.2.2.2.1, aA.2.2.2.2.2.2.2.2.1, aA.2.2.2.2.2.2.2.2.2.1, aA.2.2.2.2.2.2.2.2.2.2⟩ : S79)) (wrap64 (x4 + 1))) else (none))) else (none)) else (some x3)
def Z28.f (k : Nat) (l0 : List (S160)) : Option ((List (S79))) := if 0 ≤ (l0.length : Int) then (if ((l0.length : Int) : Int).toNat ≤ 3518437208883 then (Z28.l0 k l0 (List.replicate ((l0.length : Int) : Int).toNat z79) 0) else (none)) else (none)
theorem Z28.mono_l : ∀ k, (∀ y0 y1 y2, LeO (Z28.l0 k y0 y1 y2) (Z28.l0 (k + 1) y0 y1 y2))
 | 0 => fun _ _ _ r h => by simp [Z28.l0] at h
 | k + 1 => by
  have ih0 := Z28.mono_l k
  ·intro y0 y1 y2
   unfold Z28.l0
   repeat' first|(with_reducible first|apply ih0|exact lR _|exact lN _|refine lI ?_ ?_|refine lB ?_ fun _ => ?_)|exact lN _|refine lI ?_ ?_|refine lB ?_ fun _ => ?_
theorem Z28.mono : ∀ a0 k, LeO (Z28.f k a0) (Z28.f (k + 1) a0) := by
 intro a0 k
 have ih0 := Z28.mono_l k
 unfold Z28.f
 repeat' first|(with_reducible first|apply ih0|exact lR _|exact lN _|refine lI ?_ ?_|refine lB ?_ fun _ => ?_)|exact lN _|refine lI ?_ ?_|refine lB ?_ fun _ => ?_
set_option maxHeartbeats 60000000 in
set_option maxRecDepth 100000 in
theorem Z28.calls (k : Nat) (A0 : Option Addr) (c0 : Nat) (l0 : List (S160)) (r : List (S79)) (w : World) (hr0 : Kd.C k160 w A0 l0.length l0) (hc0 : l0.length ≤ c0) (h : Z28.f k l0 = some r) :
  Calls Try.prog 70 #[.slice A0 l0.length c0] w fun e w' => ∃ cY : Value, e = .returned (cY) ∧ Kd.R k79 79 w' w.heap.size (fun _ => True) cY r ∧ Below w.heap.size w w' := by
 have fE := Try.underlying160
 have fG := Try.underlying79
 have dO := aM hr0
 have fO := aM hc0
 clear hr0 hc0
 have HB := aM (Below.refl w.heap.size w)
 have H : (if 0 ≤ (l0.length : Int) then (if ((l0.length : Int) : Int).toNat ≤ 3518437208883 then (Z28.l0 k l0 (List.replicate ((l0.length : Int) : Int).toNat z79) 0) else (none)) else (none)) = some r := h
 clear h
 by_cases c2 : 0 ≤ (l0.length : Int)
 case neg =>
  rw [if_neg c2] at H
  exact absurd H (by simp)
 rw [if_pos c2] at H
 have dC := eq_true c2
 have dD : decide (0 ≤ (l0.length : Int)) = true := decide_eq_true c2
 clear c2
 by_cases c3 : ((l0.length : Int) : Int).toNat ≤ 3518437208883
 case neg =>
  rw [if_neg c3] at H
  exact absurd H (by simp)
 rw [if_pos c3] at H
 have dE := eq_true c3
 have dF : decide (((l0.length : Int) : Int).toNat ≤ 3518437208883) = true := decide_eq_true c3
 clear c3
 obtain ⟨cG, aJ⟩ : ∃ y_ : List (S79), y_ = (List.replicate ((l0.length : Int) : Int).toNat z79) := ⟨_, rfl⟩
 replace H : (Z28.l0 k l0 cG 0) = some r := by first | (rw [aJ]; with_reducible exact H) | (have H2_ := (Option.bind_some _ _).symm.trans H; rw [aJ]; with_reducible exact H2_) | (have H2_ := (Option.bind_some _ _).symm.trans H; with_reducible exact H2_) | with_reducible exact H | (rw [aJ]; exact H) | exact H
 have cA := aM aJ
 clear aJ
 have H' := aM H
 clear H
 go_enter Try.func70, Try.ntmps70
 go_wp2_with (first | ((with_reducible refine gD (N := 7) rfl ?_); refine Kd.R_make k79 _ 79 rfl (N := 7) rfl 26 _ _ rfl (l0.length : Int) rfl rfl Try.underlying26 (.agg #[(.bool false), (.bool false), (.int .i64 0), (.int .i64 0), (.int .i64 0), (.int .i64 0), (.int .i64 0), (.int .i64 0), (.int .i64 0), (.int .i64 0), (.bool false)]) 80 info79 rfl (by decide) (by omega) z79 (ok := fun _ => True) (okp := fun _ => True) (k79_mkM _ _ _ z79 ) (fun _ hk => hk) trivial (dT) (Nat.le_trans (Nat.mul_le_mul_right _ (dT : (l0.length : Int).toNat ≤ 3518437208883)) (by omega)) (Below.refl _ _) (Nat.le_refl _) ?_; intro dG w4 ho5 hb hg_ hnew_; clear hg_ hnew_; (first | rw [← cA.out] at ho5 | (simp only [Int.reduceToNat] at ho5; rw [← cA.out] at ho5)); have cV := aM (Kd.R_lower ho5 (below_size (bl HB.out))); replace HB := rS HB hb; clear hb ho5))
 go_loopg [4] k (fun kq v4 w' => ∃ (aI : List (S79)) (aA : Int), v4 = .int .i64 aA ∧ Aside0 (Z28.l0 kq l0 aI aA = some r) ∧ Aside0 (kq ≤ k) ∧ Aside0 (Kd.R k79 79 w' w.heap.size (fun _ => True) dG aI) ∧ Aside0 (Below w.heap.size w w'))
 case atStart => exact ⟨(cG), (0), xE, H', ⟨Nat.le_refl _⟩, ⟨kr cV.out⟩, ⟨bl HB.out⟩⟩
 case round =>
  clear H'
  repeat first|clear c2|clear dC|clear dD|clear p2|clear c3|clear dE|clear dF
  obtain ⟨aI, aA, rfl, HA, dA, aH, HB⟩ := hrel
  cases gk with
  | zero => exact absurd HA.out (by simp [Z28.l0])
  | succ k1 =>
   have H := HA.out
   clear HA
   simp only [Z28.l0] at H
   by_cases c6 : aA < (l0.length : Int)
   case neg =>
    rw [if_neg c6] at H
    have dH := decide_eq_false c6
    clear c6
    obtain rfl := Option.some.inj H
    go_wp2
    go_ret
    exact ⟨_, xW, by (with_reducible repeat (first | apply Kd.R_alloc | apply Kd.R_drewN | apply Kd.R_drew)); exact aH.out, bl HB.out⟩
   rw [if_pos c6] at H
   have dH := decide_eq_true c6
   clear c6
   obtain ⟨fH, H⟩ := gI H
   obtain ⟨⟨aN, aQ, aT, aV, aW, aX, bA, bD, bG, bH, bI⟩, dB, H⟩ := hB H
   try dsimp only at H
   have A8 := aM dB
   clear dB
   obtain ⟨fI, H⟩ := gI H
   obtain ⟨bW, aK⟩ : ∃ y_ : List (S79), y_ = (aI.set (aA : Int).toNat (⟨aN, aQ, (⟨aT, aV, aW, aX⟩ : S73), bA, bD, bG, bH, bI⟩ : S79)) := ⟨_, rfl⟩
   replace H : (Z28.l0 k1 l0 bW (wS aA)) = some r := by first | (rw [aK]; with_reducible exact H) | (have H2_ := (Option.bind_some _ _).symm.trans H; rw [aK]; with_reducible exact H2_) | (have H2_ := (Option.bind_some _ _).symm.trans H; with_reducible exact H2_) | with_reducible exact H | (rw [aK]; exact H) | exact H
   have cW := aM aK
   clear aK
   have H' := aM H
   clear H
   have bX : 0 ≤ (aA : Int) := dT
   have bY : aA < (l0.length : Int) := dT
   obtain ⟨fF, dI, bK, bL, bM, bN, bO, bP, bQ, bT, bU, bV, bJ⟩ := at_T160 dO.out aA bX bY
   cases dI
   replace bK := xB HB bK
   replace bL := xB HB bL
   replace bM := xB HB bM
   replace bN := xB HB bN
   replace bO := xB HB bO
   replace bP := xB HB bP
   replace bQ := xB HB bQ
   replace bT := xB HB bT
   replace bU := xB HB bU
   replace bV := xB HB bV
   replace bJ := xB HB bJ
   replace bX := eq_true bX
   replace bY := eq_true bY
   go_wp2_with (first | ((with_reducible refine gC (f := 143) rfl ?_); refine gL (some 20) Try.func143 #[.agg #[((rd_T160 l0 aA).f0), ((rd_T160 l0 aA).f1), ((rd_T160 l0 aA).f2.f0), ((rd_T160 l0 aA).f2.f1), ((rd_T160 l0 aA).f2.f2), ((rd_T160 l0 aA).f2.f3), ((rd_T160 l0 aA).f3), ((rd_T160 l0 aA).f4), ((rd_T160 l0 aA).f5), ((rd_T160 l0 aA).f6), ((rd_T160 l0 aA).f7)]] ?_; (with_reducible refine (Z61.calls ((rd_T160 l0 aA).f0) ((rd_T160 l0 aA).f1) ((rd_T160 l0 aA).f2.f0) ((rd_T160 l0 aA).f2.f1) ((rd_T160 l0 aA).f2.f2) ((rd_T160 l0 aA).f2.f3) ((rd_T160 l0 aA).f3) ((rd_T160 l0 aA).f4) ((rd_T160 l0 aA).f5) ((rd_T160 l0 aA).f6) ((rd_T160 l0 aA).f7) aN aQ aT aV aW aX bA bD bG bH bI _ A8.out).mono ?_); rintro e cH ⟨rfl, hb⟩; refine ⟨_, rfl, ?_⟩; replace aH := rK aH hb; replace HB := rS HB hb; (try clear hb); have cK : 0 ≤ (aA : Int) := dT; have cL : (aA : Int) < ((aI.length : Int) : Int) := dT; obtain ⟨aE, cN, cO, cP, dJ, fK, cQ⟩ := Kd.R_form aH.out (by omega); (first | cases cO | (injection cO with ea_ en_ ec_; (first | subst ea_ | (injection ea_ with ea_; subst ea_)); subst ec_; clear en_)); have aG := aM cP; have fL := aM cQ; clear cP dJ cQ; obtain ⟨fM, cX, cR, cC, cD⟩ := Kd.R_elem aH.out z79 (aA : Int) cK cL; obtain rfl := k79_openM cR; obtain ⟨dP, dQ, dR, dS, dU, dV, dW, dX, dY, dZ, dK, eA, eB, eC, eD, eE, eF, eG, eH, eI, eJ, dL⟩ := eS79 (rd_T79 aI aA) cC cD; clear cX cC cD cR; replace cK := eq_true cK; replace cL := eq_true cL; have cS := aM (show Kd.R k79 79 cH w.heap.size (fun _ => True) (.slice (some ⟨aE, 0, none⟩) aI.length cN) aI from (kr aH.out)); obtain ⟨fN, cE, cT, aC, aD⟩ := Kd.R_elem cS.out z79 (aA : Int) (dT) dT; obtain rfl := k79_openM cT; have bZ := Kd.R_seg cS.out (aA : Int) (dT) dT (seg := [.bool aN, .bool aQ, .int .i64 aT, .int .i64 aV, .int .i64 aW, .int .i64 aX, .int .i64 bA, .int .i64 bD, .int .i64 bG, .int .i64 bH, .bool bI]) (j := 0) cE aC (show 11 ≤ 11 from by decide) (x' := (⟨aN, aQ, (⟨aT, aV, aW, aX⟩ : S73), bA, bD, bG, bH, bI⟩ : S79)) (k79_mkM _ _ _ _) (fun _ hk => hk); have eK := cZ 11 (aC 0 _ rfl); have eL := fZ 11 (aD 0); have eM := cJ 11 (aC 1 _ rfl); have eN := fJ 11 (aD 1); have eO := cJ 11 (aC 2 _ rfl); have eP := fJ 11 (aD 2); have eQ := cJ 11 (aC 3 _ rfl); have eR := fJ 11 (aD 3); have eS := cJ 11 (aC 4 _ rfl); have eT := fJ 11 (aD 4); have eU := cJ 11 (aC 5 _ rfl); have eV := fJ 11 (aD 5); have eW := cJ 11 (aC 6 _ rfl); have eX := fJ 11 (aD 6); have eY := cJ 11 (aC 7 _ rfl); have eZ := fJ 11 (aD 7); have fA := cJ 11 (aC 8 _ rfl); have fB := fJ 11 (aD 8); have fC := cJ 11 (aC 9 _ rfl); have fD := fJ 11 (aD 9); have dM := cJ 11 (aC 10 _ rfl); have dN := fJ 11 (aD 10); clear cE aC aD cT) | ((with_reducible refine gate_store (t := 79) (p := 21) rfl ?_); refine store_event (t := 79) (p := 21) (v := ?vo_w13) (w1 := (((((((((((cH.setCell ⟨aE, (aA : Int).toNat * 11, none⟩ (.bool aN)).setCell ⟨aE, (aA : Int).toNat * 11 + 1, none⟩ (.bool aQ)).setCell ⟨aE, (aA : Int).toNat * 11 + 2, none⟩ (.int .i64 aT)).setCell ⟨aE, (aA : Int).toNat * 11 + 3, none⟩ (.int .i64 aV)).setCell ⟨aE, (aA : Int).toNat * 11 + 4, none⟩ (.int .i64 aW)).setCell ⟨aE, (aA : Int).toNat * 11 + 5, none⟩ (.int .i64 aX)).setCell ⟨aE, (aA : Int).toNat * 11 + 6, none⟩ (.int .i64 bA)).setCell ⟨aE, (aA : Int).toNat * 11 + 7, none⟩ (.int .i64 bD)).setCell ⟨aE, (aA : Int).toNat * 11 + 8, none⟩ (.int .i64 bG)).setCell ⟨aE, (aA : Int).toNat * 11 + 9, none⟩ (.int .i64 bH)).setCell ⟨aE, (aA : Int).toNat * 11 + 10, none⟩ (.bool bI))) ?hg ?ho ?hn ?hr ?_; (case ho => rfl); (case hg => rfl); (case hn => rfl); (case hr => first | (go_simp; done) | (go_simp; rfl) | (obtain ⟨A_, c_, e_⟩ := Kd.R_slice aH.out; subst e_; (first | (go_simp; done) | (go_simp; rfl))) | (obtain ⟨A_, c_, e_⟩ := Kd.S_slice aH.out; subst e_; (first | (go_simp; done) | (go_simp; rfl)))); intro cU hw; have hg : cH.grownBy cU (some aE) := (by rw [hw]; exact bZ.2); have hp_ : Kd.R k79 79 cU w.heap.size (fun _ => True) (.slice (some ⟨aE, 0, none⟩) aI.length cN) bW := (by rw [hw, cW.out]; exact bZ.1); clear bZ; replace aH := aM (hp_); replace HB := aM ((by rw [hw]; exact below_set (below_set (below_set (below_set (below_set (below_set (below_set (below_set (below_set (below_set (below_set (HB.out) aG.out) aG.out) aG.out) aG.out) aG.out) aG.out) aG.out) aG.out) aG.out) aG.out) aG.out : Below w.heap.size w cU)); clear hg hw hp_))
   go_roundg k1
   case measure => have := dA.out; omega
   case rel => exact ⟨(bW), (wS aA), xE, H', ⟨by have := dA.out; omega⟩, ⟨kr aH.out⟩, ⟨bl HB.out⟩⟩

def Z33.f (k : Nat) (aA : Int) (aC : List (S160)) : Option (Int × (List (S79))) := (Z28.f k aC).bind fun aD => (some (aA, aD))
theorem Z33.mono : ∀ a0 a1 k, LeO (Z33.f k a0 a1) (Z33.f (k + 1) a0 a1) := by
 intro a0 a1 k
 unfold Z33.f
 repeat' first|(with_reducible first|apply Z28.mono|exact lR _|exact lN _|refine lI ?_ ?_|refine lB ?_ fun _ => ?_)|exact lN _|refine lI ?_ ?_|refine lB ?_ fun _ => ?_
set_option maxHeartbeats 60000000 in
set_option maxRecDepth 100000 in
theorem Z33.calls (k : Nat) (aE : Int) (aI : Option Addr) (aJ : Nat) (aD : List (S160)) (r1 : Int) (r2 : List (S79)) (w : World) (hr0_1 : Kd.C k160 w aI aD.length aD) (hc0_1 : aD.length ≤ aJ) (h : Z33.f k aE aD = some (r1, r2)) :
  Calls Try.prog 14 #[.agg #[aE, .slice aI aD.length aJ]] w fun e w' => ∃ bK : Value, e = .returned (.agg #[r1, bK]) ∧ Kd.R k79 79 w' w.heap.size (fun _ => True) bK r2 ∧ Below w.heap.size w w' := by
 have bZ := Try.underlying24
 have cA := Try.underlying28
 have bI := aM hr0_1
 have bJ := aM hc0_1
 clear hr0_1 hc0_1
 have HB := aM (Below.refl w.heap.size w)
 have H : ((Z28.f k aD).bind fun aH => (some (aE, aH))) = some (r1, r2) := h
 clear h
 obtain ⟨aH, bL, H⟩ := hB H
 have A2 := aM bL
 clear bL
 simp only [Option.some.injEq, Prod.mk.injEq] at H
 obtain ⟨rfl, rfl⟩ := H
 go_enter Try.func14, Try.ntmps14
 go_wp2_with (first | ((with_reducible refine gD (N := 1) rfl ?_); refine bE (N := 1) (cs := #[aE, .slice aI aD.length aJ]) (t := 24) ?_; intro bN hg w3 hbox hb; have aA := aM (hbox); have bO := gF hg HB; have bP := gF hg HB; replace HB := rS HB hb; clear hb hbox hg) | ((with_reducible refine gD (N := 2) rfl ?_); refine bE (N := 2) (cs := #[.int .i64 0, .slice none 0 0]) (t := 28) ?_; intro aK hg w4 hbox hb; have aC := aM (hbox); have bQ := gF hg HB; have bT := gF hg HB; have aN := nM hg aA; have aQ := nH hg aA; replace aA := rB aA hb; replace HB := rS HB hb; clear hb hbox hg) | ((with_reducible refine gD (N := 3) rfl ?_); refine bE (N := 3) (cs := #[.int .i64 0, .slice none 0 0]) (t := 28) ?_; intro bG hg w5 hbox hb; have aG := aM (hbox); have bU := gF hg HB; have bV := gF hg HB; have aT := nM hg aA; have aV := nH hg aA; have aW := nM hg aC; have aX := nH hg aC; replace aA := rB aA hb; replace aC := rB aC hb; replace HB := rS HB hb; clear hb hbox hg; have cC := aN.out; have cD := aQ.out; have cE := aT.out; have cG := aV.out; have cH := cA2 aA.out; have cK := aX.out; have cL := aW.out; have bW := cA2 aG.out) | ((with_reducible refine gC (f := 70) rfl ?_); refine gL (some 9) Try.func70 #[.slice aI aD.length aJ] ?_; (with_reducible refine (Z28.calls k _ _ aD aH _ ?side1 ?side2 A2.out).mono ?_); (case side1 => exact cB bI.out (bl HB.out)); (case side2 => exact bJ.out); rintro e cO ⟨cN, rfl, ho0, hb⟩; refine ⟨_, rfl, ?_⟩; have bH := aM (Kd.R_lower ho0 (below_size (bl HB.out))); replace aA := aM (bB (fm aA.out) hb); replace aC := aM (bB (fm aC.out) hb); replace aG := aM (bB (g := bG) (o := .cells #[aE, .slice none 0 0] 28 (0, 0)) (by (with_reducible repeat (first | refine blk_drewN ?_ _ | refine blk_drew ?_ | refine blk_alloc ?_ _)); refine blk_put (cs := #[.int .i64 0, .slice none 0 0]) ?_ 0 _ rfl; (with_reducible repeat (first | refine blk_drewN ?_ _ | refine blk_drew ?_ | refine blk_alloc ?_ _)); exact aG.out) hb); replace HB := rS HB hb; (repeat first|clear hb|clear ho0); obtain ⟨bA, bD, bM⟩ := Kd.R_slice bH.out; subst bM; have bX := cA2 aG.out; have bY := cA2 aC.out))
 refine bodyPost_ret (results_cell_row rfl _ _ aK 28 #[aE, .slice bA aH.length bD] (0, 0) _ rfl (bm aC.out) Try.underlying28 rfl (by kernel_rfl)) rfl ?_
 exact ⟨_, xW, by (with_reducible repeat (first | apply Kd.R_alloc | apply Kd.R_drewN | apply Kd.R_drew)); exact Kd.R_mono (kF (p := ⟨aK, 1, none⟩) (kF (p := ⟨aK, 0, none⟩) (kF (p := ⟨bG, 1, none⟩) (Kd.R_types (Kd.R_types bH.out aG.out (by decide)) aC.out (by decide)) (fun _ hk => hk.1.2) (.slice bA aH.length bD)) (fun _ hk => hk.2) (.int .i64 aE)) (fun _ hk => hk.2) (.slice bA aH.length bD)) (fun _ hk => trivial), bl HB.out⟩

def Z38.f (aA aC aD aE aG aH aI aJ : Int) : Option (Bool) := if aA = aG then (if aC = aH then (if aD = aI then (if aE = aJ then (some true) else (some false)) else (some false)) else (some false)) else (some false)
set_option maxHeartbeats 60000000 in
set_option maxRecDepth 100000 in
theorem Z38.calls (aE aG aH aI aJ aK aN aQ : Int) (r : Bool) (w : World) (h : Z38.f aE aG aH aI aJ aK aN aQ = some r) :
  Calls Try.prog 186 #[.agg #[aE, aG, aH, aI], .agg #[aJ, aK, aN, aQ]] w fun e w' => e = .returned (.bool r) ∧ Below w.heap.size w w' := by
 have cO := Try.underlying73
 have HB := aM (Below.refl w.heap.size w)
 have H : (if aE = aJ then (if aG = aK then (if aH = aN then (if aI = aQ then (some true) else (some false)) else (some false)) else (some false)) else (some false)) = some r := h
 clear h
 by_cases c3 : aE = aJ
 case neg =>
  rw [if_neg c3] at H
  have bH : (aE == aJ) = false := beq_eq_false_iff_ne.mpr c3
  have bI : (aE != aJ) = true := bne_iff_ne.mpr c3
  obtain rfl := Option.some.inj H
  go_enter Try.func186, Try.ntmps186
  go_wp2_with (first | ((with_reducible refine gD (N := 2) rfl ?_); refine bE (N := 2) (cs := #[aE, aG, aH, aI]) (t := 73) ?_; intro aV hg cR hbox hb; have aA := aM (hbox); have aW := gF hg HB; have aX := gF hg HB; replace HB := rS HB hb; clear hb hbox hg) | ((with_reducible refine gD (N := 3) rfl ?_); refine bE (N := 3) (cs := #[aJ, aK, aN, aQ]) (t := 73) ?_; intro bA hg cS hbox hb; have aT := aM (hbox); have bD := gF hg HB; have bG := gF hg HB; have aC := nM hg aA; have aD := nH hg aA; replace aA := rB aA hb; replace HB := rS HB hb; clear hb hbox hg; have bP := aC.out; have bQ := aD.out; have bT := cA4 aA.out; have bU := cA4 aT.out))
  go_ret
  exact ⟨xW, bl HB.out⟩
 rw [if_pos c3] at H
 have bH : (aE == aJ) = true := beq_iff_eq.mpr c3
 have bI : (aE != aJ) = false := bne_eq_false_iff_eq.mpr c3
 clear c3
 by_cases c4 : aG = aK
 case neg =>
  rw [if_neg c4] at H
  have bJ : (aG == aK) = false := beq_eq_false_iff_ne.mpr c4
  have bK : (aG != aK) = true := bne_iff_ne.mpr c4
  obtain rfl := Option.some.inj H
  go_enter Try.func186, Try.ntmps186
  go_wp2_with (first | ((with_reducible refine gD (N := 2) rfl ?_); refine bE (N := 2) (cs := #[aE, aG, aH, aI]) (t := 73) ?_; intro aV hg cT hbox hb; have aA := aM (hbox); have aW := gF hg HB; have aX := gF hg HB; replace HB := rS HB hb; clear hb hbox hg) | ((with_reducible refine gD (N := 3) rfl ?_); refine bE (N := 3) (cs := #[aJ, aK, aN, aQ]) (t := 73) ?_; intro bA hg cU hbox hb; have aT := aM (hbox); have bD := gF hg HB; have bG := gF hg HB; have aC := nM hg aA; have aD := nH hg aA; replace aA := rB aA hb; replace HB := rS HB hb; clear hb hbox hg; have bV := aC.out; have bW := aD.out; have bX := cA4 aA.out; have bY := cA4 aT.out))
  go_ret
  exact ⟨xW, bl HB.out⟩
 rw [if_pos c4] at H
 have bJ : (aG == aK) = true := beq_iff_eq.mpr c4
 have bK : (aG != aK) = false := bne_eq_false_iff_eq.mpr c4
 clear c4
 by_cases c5 : aH = aN
 case neg =>
  rw [if_neg c5] at H
  have bL : (aH == aN) = false := beq_eq_false_iff_ne.mpr c5
  have bM : (aH != aN) = true := bne_iff_ne.mpr c5
  obtain rfl := Option.some.inj H
  go_enter Try.func186, Try.ntmps186
  go_wp2_with (first | ((with_reducible refine gD (N := 2) rfl ?_); refine bE (N := 2) (cs := #[aE, aG, aH, aI]) (t := 73) ?_; intro aV hg cV hbox hb; have aA := aM (hbox); have aW := gF hg HB; have aX := gF hg HB; replace HB := rS HB hb; clear hb hbox hg) | ((with_reducible refine gD (N := 3) rfl ?_); refine bE (N := 3) (cs := #[aJ, aK, aN, aQ]) (t := 73) ?_; intro bA hg cW hbox hb; have aT := aM (hbox); have bD := gF hg HB; have bG := gF hg HB; have aC := nM hg aA; have aD := nH hg aA; replace aA := rB aA hb; replace HB := rS HB hb; clear hb hbox hg; have bZ := aC.out; have cA := aD.out; have cC := cA4 aA.out; have cD := cA4 aT.out))
  go_ret
  exact ⟨xW, bl HB.out⟩
 rw [if_pos c5] at H
 have bL : (aH == aN) = true := beq_iff_eq.mpr c5
 have bM : (aH != aN) = false := bne_eq_false_iff_eq.mpr c5
 clear c5
 by_cases c6 : aI = aQ
 case neg =>
  rw [if_neg c6] at H
  have bN : (aI == aQ) = false := beq_eq_false_iff_ne.mpr c6
  have bO : (aI != aQ) = true := bne_iff_ne.mpr c6
  obtain rfl := Option.some.inj H
  go_enter Try.func186, Try.ntmps186
  go_wp2_with (first | ((with_reducible refine gD (N := 2) rfl ?_); refine bE (N := 2) (cs := #[aE, aG, aH, aI]) (t := 73) ?_; intro aV hg cX hbox hb; have aA := aM (hbox); have aW := gF hg HB; have aX := gF hg HB; replace HB := rS HB hb; clear hb hbox hg) | ((with_reducible refine gD (N := 3) rfl ?_); refine bE (N := 3) (cs := #[aJ, aK, aN, aQ]) (t := 73) ?_; intro bA hg cY hbox hb; have aT := aM (hbox); have bD := gF hg HB; have bG := gF hg HB; have aC := nM hg aA; have aD := nH hg aA; replace aA := rB aA hb; replace HB := rS HB hb; clear hb hbox hg; have cE := aC.out; have cG := aD.out; have cH := cA4 aA.out; have cK := cA4 aT.out))
  go_ret
  exact ⟨xW, bl HB.out⟩
 rw [if_pos c6] at H
 have bN : (aI == aQ) = true := beq_iff_eq.mpr c6
 have bO : (aI != aQ) = false := bne_eq_false_iff_eq.mpr c6
 clear c6
 obtain rfl := Option.some.inj H
 go_enter Try.func186, Try.ntmps186
 go_wp2_with (first | ((with_reducible refine gD (N := 2) rfl ?_); refine bE (N := 2) (cs := #[aE, aG, aH, aI]) (t := 73) ?_; intro aV hg w7 hbox hb; have aA := aM (hbox); have aW := gF hg HB; have aX := gF hg HB; replace HB := rS HB hb; clear hb hbox hg) | ((with_reducible refine gD (N := 3) rfl ?_); refine bE (N := 3) (cs := #[aJ, aK, aN, aQ]) (t := 73) ?_; intro bA hg w8 hbox hb; have aT := aM (hbox); have bD := gF hg HB; have bG := gF hg HB; have aC := nM hg aA; have aD := nH hg aA; replace aA := rB aA hb; replace HB := rS HB hb; clear hb hbox hg; have cP := aC.out; have cQ := aD.out; have cL := cA4 aA.out; have cN := cA4 aT.out))
 go_ret
 exact ⟨xW, bl HB.out⟩

def Z59.f (aD aE : Bool) (aG aH aI aJ aK aN aQ aT : Int) (aA aV aW : Bool) (aX bA bD bG bH bI bJ bK : Int) (aC : Bool) : Option (Bool) := if (aD != aV) = true then (some false) else (if (aE != aW) = true then (some false) else ((Z38.f aG aH aI aJ aX bA bD bG).bind fun bL => (if bL = true then (if aK = bH then (if aN = bI then (if aQ = bJ then (if aT = bK then (if (aA != aC) = true then (some false) else (some true)) else (some false)) else (some false)) else (some false)) else (some false)) else (some false))))
set_option maxHeartbeats 60000000 in
set_option maxRecDepth 100000 in
theorem Z59.calls (aX bA : Bool) (aG aH aI aJ bH bI bJ bK : Int) (aV bD bG : Bool) (aK aN aQ aT bL bM bN bO : Int) (aW r : Bool) (w : World) (h : Z59.f aX bA aG aH aI aJ bH bI bJ bK aV bD bG aK aN aQ aT bL bM bN bO aW = some r) :
  Calls Try.prog 146 #[.agg #[aX, bA, aG, aH, aI, aJ, bH, bI, bJ, bK, aV], .agg #[bD, bG, aK, aN, aQ, aT, bL, bM, bN, bO, aW]] w fun e w' => e = .returned (.bool r) ∧ Below w.heap.size w w' := by
 have eX := Try.underlying79
 have eY := Try.underlying73
 have HB := aM (Below.refl w.heap.size w)
 have H : (if (aX != bD) = true then (some false) else (if (bA != bG) = true then (some false) else ((Z38.f aG aH aI aJ aK aN aQ aT).bind fun cE => (if cE = true then (if bH = bL then (if bI = bM then (if bJ = bN then (if bK = bO then (if (aV != aW) = true then (some false) else (some true)) else (some false)) else (some false)) else (some false)) else (some false)) else (some false))))) = some r := h
 clear h
 by_cases c3 : (aX != bD) = true
 case pos =>
  rw [if_pos c3] at H
  have cW : (aX != bD) = true := c3
  (try (have cX : decide (aX = bD) = false := by simpa using c3))
  (try (have cY : (aX == bD) = false := by simpa using c3))
  (try (have eZ : ¬ (aX = bD) := by simpa using c3))
  clear c3
  obtain rfl := Option.some.inj H
  go_enter Try.func146, Try.ntmps146
  go_wp2_with (first | ((with_reducible refine gD (N := 2) rfl ?_); refine bE (N := 2) (cs := #[aX, bA, aG, aH, aI, aJ, bH, bI, bJ, bK, aV]) (t := 79) ?_; intro bP hg w4 hbox hb; have aA := aM (hbox); have bQ := gF hg HB; have bT := gF hg HB; replace HB := rS HB hb; clear hb hbox hg) | ((with_reducible refine gD (N := 3) rfl ?_); refine bE (N := 3) (cs := #[bD, bG, aK, aN, aQ, aT, bL, bM, bN, bO, aW]) (t := 79) ?_; intro bU hg w5 hbox hb; have aC := aM (hbox); have bV := gF hg HB; have bW := gF hg HB; have aD := nM hg aA; have aE := nH hg aA; replace aA := rB aA hb; replace HB := rS HB hb; clear hb hbox hg; have fA := aD.out; have fB := aE.out; have fC := cA11 aA.out; have fD := cA11 aC.out))
  go_ret
  exact ⟨xW, bl HB.out⟩
 rw [if_neg c3] at H
 have cW : (aX != bD) = false := by simpa using c3
 (try (have cX : decide (aX = bD) = true := by simpa using c3))
 (try (have cY : (aX == bD) = true := by simpa using c3))
 clear c3
 by_cases c9 : (bA != bG) = true
 case pos =>
  rw [if_pos c9] at H
  have dA : (bA != bG) = true := c9
  (try (have dB : decide (bA = bG) = false := by simpa using c9))
  (try (have dC : (bA == bG) = false := by simpa using c9))
  (try (have fE : ¬ (bA = bG) := by simpa using c9))
  clear c9
  obtain rfl := Option.some.inj H
  go_enter Try.func146, Try.ntmps146
  go_wp2_with (first | ((with_reducible refine gD (N := 2) rfl ?_); refine bE (N := 2) (cs := #[aX, bA, aG, aH, aI, aJ, bH, bI, bJ, bK, aV]) (t := 79) ?_; intro bP hg fF hbox hb; have aA := aM (hbox); have bQ := gF hg HB; have bT := gF hg HB; replace HB := rS HB hb; clear hb hbox hg) | ((with_reducible refine gD (N := 3) rfl ?_); refine bE (N := 3) (cs := #[bD, bG, aK, aN, aQ, aT, bL, bM, bN, bO, aW]) (t := 79) ?_; intro bU hg fG hbox hb; have aC := aM (hbox); have bV := gF hg HB; have bW := gF hg HB; have aD := nM hg aA; have aE := nH hg aA; replace aA := rB aA hb; replace HB := rS HB hb; clear hb hbox hg; have dD := aD.out; have dE := aE.out; have dF := cA11 aA.out; have dG := cA11 aC.out))
  go_ret
  exact ⟨xW, bl HB.out⟩
 rw [if_neg c9] at H
 have dA : (bA != bG) = false := by simpa using c9
 (try (have dB : decide (bA = bG) = true := by simpa using c9))
 (try (have dC : (bA == bG) = true := by simpa using c9))
 clear c9
 obtain ⟨cE, cH, H⟩ := hB H
 have bY := aM cH
 clear cH
 by_cases cG : cE = true
 case neg =>
  replace cG := Bool.eq_false_iff.mpr cG
  subst cG
  replace H := hF H
  obtain rfl := Option.some.inj H
  go_enter Try.func146, Try.ntmps146
  go_wp2_with (first | ((with_reducible refine gD (N := 2) rfl ?_); refine bE (N := 2) (cs := #[aX, bA, aG, aH, aI, aJ, bH, bI, bJ, bK, aV]) (t := 79) ?_; intro bP hg fH hbox hb; have aA := aM (hbox); have bQ := gF hg HB; have bT := gF hg HB; replace HB := rS HB hb; clear hb hbox hg) | ((with_reducible refine gD (N := 3) rfl ?_); refine bE (N := 3) (cs := #[bD, bG, aK, aN, aQ, aT, bL, bM, bN, bO, aW]) (t := 79) ?_; intro bU hg fI hbox hb; have aC := aM (hbox); have bV := gF hg HB; have bW := gF hg HB; have aD := nM hg aA; have aE := nH hg aA; replace aA := rB aA hb; replace HB := rS HB hb; clear hb hbox hg; have dH := aD.out; have dI := aE.out; have dJ := cA11 aA.out; have dK := cA11 aC.out) | ((with_reducible refine gC (f := 186) rfl ?_); refine gL (some 19) Try.func186 #[.agg #[aG, aH, aI, aJ], .agg #[aK, aN, aQ, aT]] ?_; (with_reducible refine (Z38.calls aG aH aI aJ aK aN aQ aT false _ bY.out).mono ?_); rintro e fK ⟨rfl, hb⟩; refine ⟨_, rfl, ?_⟩; replace aA := rB aA hb; replace aC := rB aC hb; replace HB := rS HB hb; (try clear hb)))
  go_ret
  exact ⟨xW, bl HB.out⟩
 subst cG
 replace H := hP H rfl
 by_cases bZ : bH = bL
 case neg =>
  rw [if_neg bZ] at H
  have cK : (bH == bL) = false := beq_eq_false_iff_ne.mpr bZ
  have cL : (bH != bL) = true := bne_iff_ne.mpr bZ
  obtain rfl := Option.some.inj H
  go_enter Try.func146, Try.ntmps146
  go_wp2_with (first | ((with_reducible refine gD (N := 2) rfl ?_); refine bE (N := 2) (cs := #[aX, bA, aG, aH, aI, aJ, bH, bI, bJ, bK, aV]) (t := 79) ?_; intro bP hg fL hbox hb; have aA := aM (hbox); have bQ := gF hg HB; have bT := gF hg HB; replace HB := rS HB hb; clear hb hbox hg) | ((with_reducible refine gD (N := 3) rfl ?_); refine bE (N := 3) (cs := #[bD, bG, aK, aN, aQ, aT, bL, bM, bN, bO, aW]) (t := 79) ?_; intro bU hg fM hbox hb; have aC := aM (hbox); have bV := gF hg HB; have bW := gF hg HB; have aD := nM hg aA; have aE := nH hg aA; replace aA := rB aA hb; replace HB := rS HB hb; clear hb hbox hg; have dL := aD.out; have dM := aE.out; have dN := cA11 aA.out; have dO := cA11 aC.out) | ((with_reducible refine gC (f := 186) rfl ?_); refine gL (some 19) Try.func186 #[.agg #[aG, aH, aI, aJ], .agg #[aK, aN, aQ, aT]] ?_; (with_reducible refine (Z38.calls aG aH aI aJ aK aN aQ aT true _ bY.out).mono ?_); rintro e fN ⟨rfl, hb⟩; refine ⟨_, rfl, ?_⟩; replace aA := rB aA hb; replace aC := rB aC hb; replace HB := rS HB hb; (try clear hb); have dP := cA11 aA.out; have dQ := cA11 aC.out))
  go_ret
  exact ⟨xW, bl HB.out⟩
 rw [if_pos bZ] at H
 have cK : (bH == bL) = true := beq_iff_eq.mpr bZ
 have cL : (bH != bL) = false := bne_eq_false_iff_eq.mpr bZ
 clear bZ
 by_cases cA : bI = bM
 case neg =>
  rw [if_neg cA] at H
  have cN : (bI == bM) = false := beq_eq_false_iff_ne.mpr cA
  have cO : (bI != bM) = true := bne_iff_ne.mpr cA
  obtain rfl := Option.some.inj H
  go_enter Try.func146, Try.ntmps146
  go_wp2_with (first | ((with_reducible refine gD (N := 2) rfl ?_); refine bE (N := 2) (cs := #[aX, bA, aG, aH, aI, aJ, bH, bI, bJ, bK, aV]) (t := 79) ?_; intro bP hg fO hbox hb; have aA := aM (hbox); have bQ := gF hg HB; have bT := gF hg HB; replace HB := rS HB hb; clear hb hbox hg) | ((with_reducible refine gD (N := 3) rfl ?_); refine bE (N := 3) (cs := #[bD, bG, aK, aN, aQ, aT, bL, bM, bN, bO, aW]) (t := 79) ?_; intro bU hg fP hbox hb; have aC := aM (hbox); have bV := gF hg HB; have bW := gF hg HB; have aD := nM hg aA; have aE := nH hg aA; replace aA := rB aA hb; replace HB := rS HB hb; clear hb hbox hg; have dR := aD.out; have dS := aE.out; have dU := cA11 aA.out; have dV := cA11 aC.out) | ((with_reducible refine gC (f := 186) rfl ?_); refine gL (some 19) Try.func186 #[.agg #[aG, aH, aI, aJ], .agg #[aK, aN, aQ, aT]] ?_; (with_reducible refine (Z38.calls aG aH aI aJ aK aN aQ aT true _ bY.out).mono ?_); rintro e fQ ⟨rfl, hb⟩; refine ⟨_, rfl, ?_⟩; replace aA := rB aA hb; replace aC := rB aC hb; replace HB := rS HB hb; (try clear hb); have dW := cA11 aA.out; have dX := cA11 aC.out))
  go_ret
  exact ⟨xW, bl HB.out⟩
 rw [if_pos cA] at H
 have cN : (bI == bM) = true := beq_iff_eq.mpr cA
 have cO : (bI != bM) = false := bne_eq_false_iff_eq.mpr cA
 clear cA
 by_cases cC : bJ = bN
 case neg =>
  rw [if_neg cC] at H
  have cP : (bJ == bN) = false := beq_eq_false_iff_ne.mpr cC
  have cQ : (bJ != bN) = true := bne_iff_ne.mpr cC
  obtain rfl := Option.some.inj H
  go_enter Try.func146, Try.ntmps146
  go_wp2_with (first | ((with_reducible refine gD (N := 2) rfl ?_); refine bE (N := 2) (cs := #[aX, bA, aG, aH, aI, aJ, bH, bI, bJ, bK, aV]) (t := 79) ?_; intro bP hg fS hbox hb; have aA := aM (hbox); have bQ := gF hg HB; have bT := gF hg HB; replace HB := rS HB hb; clear hb hbox hg) | ((with_reducible refine gD (N := 3) rfl ?_); refine bE (N := 3) (cs := #[bD, bG, aK, aN, aQ, aT, bL, bM, bN, bO, aW]) (t := 79) ?_; intro bU hg fT hbox hb; have aC := aM (hbox); have bV := gF hg HB; have bW := gF hg HB; have aD := nM hg aA; have aE := nH hg aA; replace aA := rB aA hb; replace HB := rS HB hb; clear hb hbox hg; have dY := aD.out; have dZ := aE.out; have eA := cA11 aA.out; have eB := cA11 aC.out) | ((with_reducible refine gC (f := 186) rfl ?_); refine gL (some 19) Try.func186 #[.agg #[aG, aH, aI, aJ], .agg #[aK, aN, aQ, aT]] ?_; (with_reducible refine (Z38.calls aG aH aI aJ aK aN aQ aT true _ bY.out).mono ?_); rintro e fU ⟨rfl, hb⟩; refine ⟨_, rfl, ?_⟩; replace aA := rB aA hb; replace aC := rB aC hb; replace HB := rS HB hb; (try clear hb); have eC := cA11 aA.out; have eD := cA11 aC.out))
  go_ret
  exact ⟨xW, bl HB.out⟩
 rw [if_pos cC] at H
 have cP : (bJ == bN) = true := beq_iff_eq.mpr cC
 have cQ : (bJ != bN) = false := bne_eq_false_iff_eq.mpr cC
 clear cC
 by_cases cD : bK = bO
 case neg =>
  rw [if_neg cD] at H
  have cR : (bK == bO) = false := beq_eq_false_iff_ne.mpr cD
  have cS : (bK != bO) = true := bne_iff_ne.mpr cD
  obtain rfl := Option.some.inj H
  go_enter Try.func146, Try.ntmps146
  go_wp2_with (first | ((with_reducible refine gD (N := 2) rfl ?_); refine bE (N := 2) (cs := #[aX, bA, aG, aH, aI, aJ, bH, bI, bJ, bK, aV]) (t := 79) ?_; intro bP hg fV hbox hb; have aA := aM (hbox); have bQ := gF hg HB; have bT := gF hg HB; replace HB := rS HB hb; clear hb hbox hg) | ((with_reducible refine gD (N := 3) rfl ?_); refine bE (N := 3) (cs := #[bD, bG, aK, aN, aQ, aT, bL, bM, bN, bO, aW]) (t := 79) ?_; intro bU hg fW hbox hb; have aC := aM (hbox); have bV := gF hg HB; have bW := gF hg HB; have aD := nM hg aA; have aE := nH hg aA; replace aA := rB aA hb; replace HB := rS HB hb; clear hb hbox hg; have eE := aD.out; have eF := aE.out; have eG := cA11 aA.out; have eH := cA11 aC.out) | ((with_reducible refine gC (f := 186) rfl ?_); refine gL (some 19) Try.func186 #[.agg #[aG, aH, aI, aJ], .agg #[aK, aN, aQ, aT]] ?_; (with_reducible refine (Z38.calls aG aH aI aJ aK aN aQ aT true _ bY.out).mono ?_); rintro e fX ⟨rfl, hb⟩; refine ⟨_, rfl, ?_⟩; replace aA := rB aA hb; replace aC := rB aC hb; replace HB := rS HB hb; (try clear hb); have eI := cA11 aA.out; have eJ := cA11 aC.out))
  go_ret
  exact ⟨xW, bl HB.out⟩
 rw [if_pos cD] at H
 have cR : (bK == bO) = true := beq_iff_eq.mpr cD
 have cS : (bK != bO) = false := bne_eq_false_iff_eq.mpr cD
 clear cD
 by_cases bX : (aV != aW) = true
 case neg =>
  rw [if_neg bX] at H
  have cT : (aV != aW) = false := by simpa using bX
  (try (have cU : decide (aV = aW) = true := by simpa using bX))
  (try (have cV : (aV == aW) = true := by simpa using bX))
  clear bX
  obtain rfl := Option.some.inj H
  go_enter Try.func146, Try.ntmps146
  go_wp2_with (first | ((with_reducible refine gD (N := 2) rfl ?_); refine bE (N := 2) (cs := #[aX, bA, aG, aH, aI, aJ, bH, bI, bJ, bK, aV]) (t := 79) ?_; intro bP hg fY hbox hb; have aA := aM (hbox); have bQ := gF hg HB; have bT := gF hg HB; replace HB := rS HB hb; clear hb hbox hg) | ((with_reducible refine gD (N := 3) rfl ?_); refine bE (N := 3) (cs := #[bD, bG, aK, aN, aQ, aT, bL, bM, bN, bO, aW]) (t := 79) ?_; intro bU hg gA hbox hb; have aC := aM (hbox); have bV := gF hg HB; have bW := gF hg HB; have aD := nM hg aA; have aE := nH hg aA; replace aA := rB aA hb; replace HB := rS HB hb; clear hb hbox hg; have eK := aD.out; have eL := aE.out; have eM := cA11 aA.out; have eN := cA11 aC.out) | ((with_reducible refine gC (f := 186) rfl ?_); refine gL (some 19) Try.func186 #[.agg #[aG, aH, aI, aJ], .agg #[aK, aN, aQ, aT]] ?_; (with_reducible refine (Z38.calls aG aH aI aJ aK aN aQ aT true _ bY.out).mono ?_); rintro e gB ⟨rfl, hb⟩; refine ⟨_, rfl, ?_⟩; replace aA := rB aA hb; replace aC := rB aC hb; replace HB := rS HB hb; (try clear hb); have eO := cA11 aA.out; have eP := cA11 aC.out))
  go_ret
  exact ⟨xW, bl HB.out⟩
 rw [if_pos bX] at H
 have cT : (aV != aW) = true := bX
 (try (have cU : decide (aV = aW) = false := by simpa using bX))
 (try (have cV : (aV == aW) = false := by simpa using bX))
 (try (have eQ : ¬ (aV = aW) := by simpa using bX))
 clear bX
 obtain rfl := Option.some.inj H
 go_enter Try.func146, Try.ntmps146
 go_wp2_with (first | ((with_reducible refine gD (N := 2) rfl ?_); refine bE (N := 2) (cs := #[aX, bA, aG, aH, aI, aJ, bH, bI, bJ, bK, aV]) (t := 79) ?_; intro bP hg gG hbox hb; have aA := aM (hbox); have bQ := gF hg HB; have bT := gF hg HB; replace HB := rS HB hb; clear hb hbox hg) | ((with_reducible refine gD (N := 3) rfl ?_); refine bE (N := 3) (cs := #[bD, bG, aK, aN, aQ, aT, bL, bM, bN, bO, aW]) (t := 79) ?_; intro bU hg gH hbox hb; have aC := aM (hbox); have bV := gF hg HB; have bW := gF hg HB; have aD := nM hg aA; have aE := nH hg aA; replace aA := rB aA hb; replace HB := rS HB hb; clear hb hbox hg; have eR := aD.out; have eS := aE.out; have eT := cA11 aA.out; have eU := cA11 aC.out) | ((with_reducible refine gC (f := 186) rfl ?_); refine gL (some 19) Try.func186 #[.agg #[aG, aH, aI, aJ], .agg #[aK, aN, aQ, aT]] ?_; (with_reducible refine (Z38.calls aG aH aI aJ aK aN aQ aT true _ bY.out).mono ?_); rintro e gJ ⟨rfl, hb⟩; refine ⟨_, rfl, ?_⟩; replace aA := rB aA hb; replace aC := rB aC hb; replace HB := rS HB hb; (try clear hb); have eV := cA11 aA.out; have eW := cA11 aC.out))
 go_ret
 exact ⟨xW, bl HB.out⟩

end Go.Proofs.Ythmijfekdeagpaa.PFnExactReact

/- A part of the proof of laws.FnExactGate. No condition beyond what its theorems say. -/
/- The machine side of laws.FnExactGate: where the plain function of that name answers true, its call returns true. No condition beyond what its arguments read as. -/
import Derived.Test.YthmijfekdeagpaaVFnExactGatePx13
namespace Go.Proofs.Ythmijfekdeagpaa.PFnExactGate
open Go.RowKit Go.Proofs.YthmijfekdeagpaaW.PrintWords Go.Proofs.YthmijfekdeagpaaW.PrintLast Go.Proofs.YthmijfekdeagpaaW.PrintMore
set_option linter.unusedVariables false
set_option linter.unusedSimpArgs false

/-- One member's own row, lent to what writes it, and the members back behind that. -/
theorem fld168_0 (w : World) (x0 : Int) (x1 : Int) (x2 : Int) (x3 : Int) : (Instr.field 168 (.agg #[.int .i64 x0, .int .i64 x1, .int .i64 x2, .int .i64 x3]) 0).run Try.prog w = .ok (.int .i64 x0) w := by kernel_rfl
theorem fld168_1 (w : World) (x0 : Int) (x1 : Int) (x2 : Int) (x3 : Int) : (Instr.field 168 (.agg #[.int .i64 x0, .int .i64 x1, .int .i64 x2, .int .i64 x3]) 1).run Try.prog w = .ok (.int .i64 x1) w := by kernel_rfl
theorem fld168_2 (w : World) (x0 : Int) (x1 : Int) (x2 : Int) (x3 : Int) : (Instr.field 168 (.agg #[.int .i64 x0, .int .i64 x1, .int .i64 x2, .int .i64 x3]) 2).run Try.prog w = .ok (.int .i64 x2) w := by kernel_rfl
theorem fld168_3 (w : World) (x0 : Int) (x1 : Int) (x2 : Int) (x3 : Int) : (Instr.field 168 (.agg #[.int .i64 x0, .int .i64 x1, .int .i64 x2, .int .i64 x3]) 3).run Try.prog w = .ok (.int .i64 x3) w := by kernel_rfl
theorem fld138_0 (w : World) (x0 : Int) (x1 : Int) (x2 : Int) (x3 : Int) : (Instr.field 138 (.agg #[.int .i64 x0, .int .i64 x1, .int .i64 x2, .int .i64 x3]) 0).run Try.prog w = .ok (.int .i64 x0) w := by kernel_rfl
theorem fld138_1 (w : World) (x0 : Int) (x1 : Int) (x2 : Int) (x3 : Int) : (Instr.field 138 (.agg #[.int .i64 x0, .int .i64 x1, .int .i64 x2, .int .i64 x3]) 1).run Try.prog w = .ok (.int .i64 x1) w := by kernel_rfl
theorem fld138_2 (w : World) (x0 : Int) (x1 : Int) (x2 : Int) (x3 : Int) : (Instr.field 138 (.agg #[.int .i64 x0, .int .i64 x1, .int .i64 x2, .int .i64 x3]) 2).run Try.prog w = .ok (.int .i64 x2) w := by kernel_rfl
theorem fld138_3 (w : World) (x0 : Int) (x1 : Int) (x2 : Int) (x3 : Int) : (Instr.field 138 (.agg #[.int .i64 x0, .int .i64 x1, .int .i64 x2, .int .i64 x3]) 3).run Try.prog w = .ok (.int .i64 x3) w := by kernel_rfl
attribute [local go_sem high] fld168_0 fld168_1 fld168_2 fld168_3 fld138_0 fld138_1 fld138_2 fld138_3
theorem member_lend {W : World} {base g n cap : Nat} {ok : Nat → Prop} {xs : List S63} {i : Int} {A : Option Addr} {c : Nat}
  (h : Kd.S k63 63 W base ok (.slice (some ⟨g, 0, none⟩) n cap) xs) (h0 : 0 ≤ i) (h1 : i < n) (hc : W.cell? ⟨g, i.toNat * 2 + 1, none⟩ = some (.slice A ((rd_T63 xs i).f1).length c)) :
  ∃ oki : Nat → Prop, (∀ k, oki k → ok k) ∧ Kd.R (Kd.int .i64) 3 W base oki (.slice A ((rd_T63 xs i).f1).length c) (rd_T63 xs i).f1 ∧
   ∀ {w1 : World} {ys : List Int}, Kept W w1 oki → Kd.R (Kd.int .i64) 3 w1 base (fun k => oki k ∨ W.heap.size ≤ k) (.slice A ((rd_T63 xs i).f1).length c) ys →
    Kd.S k63 63 w1 base ok (.slice (some ⟨g, 0, none⟩) n cap) (xs.set i.toNat (⟨(rd_T63 xs i).f0, ys⟩ : S63)) := by
 obtain ⟨oki, cs, hcl, hM, hcc, hoki, hH⟩ := Kd.S_lend h z63 i h0 h1
 obtain ⟨v1, rfl, ge⟩ := k63_openM hM
 have hv2 : W.cell? ⟨g, i.toNat * 2 + 1, none⟩ = some v1 := hcc 1 _ rfl
 obtain rfl : v1 = .slice A ((rd_T63 xs i).f1).length c := Option.some.inj (hv2.symm.trans hc)
 refine ⟨oki, fun k hk => (hoki k hk).1, ge, fun {w1 ys} hK hy => ?_⟩
 have hH' := Kd.H_step hH (fun k _ hn hlt => hK.2 k hlt hn)
 exact Kd.H_back hH' (k63_mkM _ _ _ (⟨(rd_T63 xs i).f0, ys⟩ : S63) (Kd.R_reok rfl hy (fun k e => ge.1 k e))) (fun _ hk => hk)
def laws_markMemberS.l0 : Nat → List (S63) → Int → Int → Option (Int × (List (S63)))
 | 0, _, _, _ => none
 | k + 1, x0, x1, x5 => if x5 < (x0.length : Int) then (if 0 ≤ x5 then ((some (x0.set (x5 : Int).toNat (⟨x1, (rd_T63 x0 x5).f1⟩ : S63) : List (S63))).bind fun y342 => ((laws_markIntS.f k ((rd_T63 y342 x5).f1) (wrap64 (x1 + 1))).bind fun bt344 => (laws_markMemberS.l0 k (y342.set (x5 : Int).toNat (⟨(rd_T63 y342 x5).f0, bt344.2⟩ : S63)) bt344.1 (wrap64 (x5 + 1))))) else (none)) else (some (x1, x0))
def laws_markMemberS.f (k : Nat) (l0 : List (S63)) (a1 : Int) : Option (Int × (List (S63))) := laws_markMemberS.l0 k l0 a1 0
theorem laws_markMemberS.mono_l : ∀ k, (∀ y0 y1 y2, LeO (laws_markMemberS.l0 k y0 y1 y2) (laws_markMemberS.l0 (k + 1) y0 y1 y2))
 | 0 => fun _ _ _ r h => by simp [laws_markMemberS.l0] at h
 | k + 1 => by
  have ih0 := laws_markMemberS.mono_l k
  ·intro y0 y1 y2
   unfold laws_markMemberS.l0
   repeat' first
   | (with_reducible exact ih0 _ _ _)
   | (with_reducible exact laws_markIntS.mono _ _ _)
   | (with_reducible exact LeO.refl _)
   | (with_reducible exact LeO.none _)
   | (with_reducible refine LeO.ite ?_ ?_)
   | (with_reducible refine LeO.bind ?_ (fun _ => ?_))
   | exact ih0 _ _ _
   | exact LeO.none _
   | refine LeO.ite ?_ ?_
   | refine LeO.bind ?_ (fun _ => ?_)
theorem laws_markMemberS.mono : ∀ a0 a1 k, LeO (laws_markMemberS.f k a0 a1) (laws_markMemberS.f (k + 1) a0 a1) := by
 intro a0 a1 k
 have ih0 := laws_markMemberS.mono_l k
 unfold laws_markMemberS.f
 repeat' first
   | (with_reducible exact ih0 _ _ _)
   | (with_reducible exact LeO.refl _)
   | (with_reducible exact LeO.none _)
   | (with_reducible refine LeO.ite ?_ ?_)
   | (with_reducible refine LeO.bind ?_ (fun _ => ?_))
   | exact ih0 _ _ _
   | exact LeO.none _
   | refine LeO.ite ?_ ?_
   | refine LeO.bind ?_ (fun _ => ?_)
set_option maxHeartbeats 60000000 in
set_option maxRecDepth 100000 in
theorem laws_markMemberS.calls (k : Nat) (P0_ : Nat → Prop) (u9000_ : Value) (l0 : List (S63)) (a1 : Int) (r1 : Int) (r2 : List (S63)) (w0 w : World) (hB : Below w0.heap.size w0 w) (ho0 : Kd.S k63 63 w w0.heap.size P0_ u9000_ l0) (h : laws_markMemberS.f k l0 a1 = some (r1, r2)) :
  Calls Try.prog 92 #[u9000_, .int .i64 a1] w fun e w' => e = .returned (.int .i64 r1) ∧ Kd.S k63 63 w' w0.heap.size (fun k_ => P0_ k_) u9000_ r2 ∧ Below w0.heap.size w0 w' ∧ Kept w w' (fun k_ => P0_ k_) := by
 have HO0 := aM (show Kd.S k63 63 w w0.heap.size (fun k_ => P0_ k_) u9000_ l0 from ho0)
 have HK := aM (Kept.refl w (fun k_ => P0_ k_))
 have HW0 := aM hB.size
 have HB := aM hB
 clear hB
 have H : (laws_markMemberS.l0 k l0 a1 0) = some (r1, r2) := h
 clear h
 have H' := aM H
 clear H
 go_enter Try.func92, Try.ntmps92
 go_wp2
 go_loopg [1, 5] k (fun kq v1 v5 w' => ∃ (x0_1 : List (S63)) (x1_1 : Int) (x5_1 : Int), v1 = .int .i64 x1_1 ∧ v5 = .int .i64 x5_1 ∧ Aside0 (laws_markMemberS.l0 kq x0_1 x1_1 x5_1 = some (r1, r2)) ∧ Aside0 (kq ≤ k) ∧ Aside0 (Kd.S k63 63 w' w0.heap.size (fun k_ => P0_ k_) u9000_ x0_1) ∧ Aside0 (Kept w w' (fun k_ => P0_ k_)) ∧ Aside0 (Below w0.heap.size w0 w'))
 case atStart => exact ⟨(l0), (a1), (0), xE, xE, H', ⟨Nat.le_refl _⟩, ⟨by (with_reducible repeat (first | apply Kd.S_alloc | apply Kd.S_drewN | apply Kd.S_drew)); exact HO0.out⟩, ⟨by repeat (first | (with_reducible first | exact HK.out | apply Kept.alloc | apply Kept.drewN | apply Kept.drew) | exact HK.out)⟩, ⟨bl HB.out⟩⟩
 case round =>
  clear H'
  try clear p2
  obtain ⟨x0_1, x1_1, x5_1, rfl, rfl, HA, HK1, HO_0, HK, HB⟩ := hrel
  cases gk with
  | zero => exact absurd HA.out (by simp [laws_markMemberS.l0])
  | succ k1 =>
   have H := HA.out
   clear HA
   simp only [laws_markMemberS.l0] at H
   by_cases c3 : x5_1 < (x0_1.length : Int)
   case neg =>
    rw [if_neg c3] at H
    have c3b0 : decide (x5_1 < (x0_1.length : Int)) = false := decide_eq_false c3
    clear c3
    simp only [Option.some.injEq, Prod.mk.injEq] at H
    obtain ⟨rfl, rfl⟩ := H
    obtain ⟨Ao10, co10, eo10⟩ := Kd.S_slice HO_0.out
    subst eo10
    go_wp2
    go_ret
    exact ⟨xW, by (with_reducible repeat (first | apply Kd.S_alloc | apply Kd.S_drewN | apply Kd.S_drew)); exact HO_0.out, bl HB.out, by repeat (first | (with_reducible first | exact HK.out | apply Kept.alloc | apply Kept.drewN | apply Kept.drew) | exact HK.out)⟩
   rw [if_pos c3] at H
   have c3b0 : decide (x5_1 < (x0_1.length : Int)) = true := decide_eq_true c3
   clear c3
   by_cases c4 : 0 ≤ x5_1
   case neg =>
    rw [if_neg c4] at H
    exact absurd H (by simp)
   rw [if_pos c4] at H
   have c4b0 : decide (0 ≤ x5_1) = true := decide_eq_true c4
   clear c4
   obtain ⟨y342, hy342⟩ : ∃ y_ : List (S63), y_ = (x0_1.set (x5_1 : Int).toNat (⟨x1_1, (rd_T63 x0_1 x5_1).f1⟩ : S63)) := ⟨_, rfl⟩
   replace H : ((laws_markIntS.f k1 ((rd_T63 y342 x5_1).f1) (wrap64 (x1_1 + 1))).bind fun bt344 => (laws_markMemberS.l0 k1 (y342.set (x5_1 : Int).toNat (⟨(rd_T63 y342 x5_1).f0, bt344.2⟩ : S63)) bt344.1 (wrap64 (x5_1 + 1)))) = some (r1, r2) := by first | (rw [hy342]; with_reducible exact H) | (have H2_ := (Option.bind_some _ _).symm.trans H; rw [hy342]; with_reducible exact H2_) | (have H2_ := (Option.bind_some _ _).symm.trans H; with_reducible exact H2_) | with_reducible exact H | (rw [hy342]; exact H) | exact H
   have Ny342 := aM hy342
   clear hy342
   replace H := Option.bind_eq_some_iff.mp H
   obtain ⟨⟨t344, t344r⟩, A60, H⟩ := H
   replace H : (laws_markMemberS.l0 k1 (y342.set (x5_1 : Int).toNat (⟨(rd_T63 y342 x5_1).f0, t344r⟩ : S63)) t344 (wrap64 (x5_1 + 1))) = some (r1, r2) := H
   have A6 := aM A60
   clear A60
   have H' := aM H
   clear H
   obtain ⟨Ao7, co7, eo7⟩ := Kd.S_slice HO_0.out
   subst eo7
   have p5 : 0 ≤ (x5_1 : Int) := of_decide_eq_true (by first | (with_reducible assumption) | assumption)
   have q5 : (x5_1 : Int) < ((x0_1.length : Int) : Int) := of_decide_eq_true (by first | (with_reducible assumption) | assumption)
   obtain ⟨go5, co5, eo5, gb5, gl5, cl5, HG5⟩ := Kd.S_form HO_0.out (by omega)
   (first | cases eo5 | (injection eo5 with ea_ en_ ec_; (first | subst ea_ | (injection ea_ with ea_; subst ea_)); subst ec_; clear en_))
   have GB5 := aM gb5
   have GG5 := aM HG5
   clear gb5 gl5 HG5
   obtain ⟨_, ce5, hcl5, hM5, hcc5, hfr5, _, _⟩ := Kd.S_elem HO_0.out z63 (x5_1 : Int) p5 q5
   obtain ⟨ve5_1, rfl, ge5_1⟩ := k63_openM hM5
   have hx5_0 : wr.cell? ⟨go5, (x5_1 : Int).toNat * 2, none⟩ = some (.int .i64 ((rd_T63 x0_1 x5_1).f0)) := hcc5 0 _ rfl
   have hx5_1 : wr.cell? ⟨go5, (x5_1 : Int).toNat * 2 + 1, none⟩ = some (ve5_1) := hcc5 1 _ rfl
   have hf5_0 : wr.frozen? ⟨go5, (x5_1 : Int).toNat * 2, none⟩ = false := hfr5 0
   have hf5_1 : wr.frozen? ⟨go5, (x5_1 : Int).toNat * 2 + 1, none⟩ = false := hfr5 1
   clear hcl5 hcc5 hfr5 hM5
   replace p5 := eq_true p5
   replace q5 := eq_true q5
   have HX8 := aM (show Kd.S k63 63 wr w0.heap.size (fun k_ => ((fun k_ => P0_ k_)) k_ ∧ ¬ ((fun _ => False)) k_) (.slice (some ⟨go5, 0, none⟩) x0_1.length co7) x0_1 from (by (with_reducible repeat (first | apply Kd.S_alloc | apply Kd.S_drewN | apply Kd.S_drew)); exact Kd.S_mono HO_0.out (fun k_ hk => ⟨hk, fun e_ => e_⟩)))
   obtain ⟨oki8, ce8, hcl8, hM8, hcc8, hfr8, hoki8, hH8⟩ := Kd.S_elem HX8.out z63 (x5_1 : Int) (of_decide_eq_true (by first | (with_reducible assumption) | assumption)) (by have h_ : (x5_1 : Int) < ((x0_1.length : Int) : Int) := of_decide_eq_true (by first | (with_reducible assumption) | assumption); first | exact h_ | (have e_ := (Kd.S_reads' HO_0.out).1; omega) | simpa using h_)
   obtain ⟨ve8_1, rfl, ge8_1⟩ := k63_openM hM8
   have HP8 := Kd.S_seg hH8 (of_decide_eq_true (by first | (with_reducible assumption) | assumption)) (by have h_ : (x5_1 : Int) < ((x0_1.length : Int) : Int) := of_decide_eq_true (by first | (with_reducible assumption) | assumption); first | exact h_ | (have e_ := (Kd.S_reads' HO_0.out).1; omega) | simpa using h_) (seg := [.int .i64 x1_1]) (j := 0) (show 1 ≤ 2 from by decide) (x' := (⟨x1_1, (rd_T63 x0_1 x5_1).f1⟩ : S63)) (k63_mkM _ _ _ (⟨x1_1, (rd_T63 x0_1 x5_1).f1⟩ : S63) (Kd.R_mono ge8_1 (fun _ h_ => Or.inl h_))) (fun _ hk => hk) (fun k_ hk_ => hk_.elim)
   have hx8_0 := hcc8 0 _ rfl
   (try simp only [show (k63).sz = 2 from rfl, Nat.mul_one, Nat.add_zero] at hx8_0)
   have hf8_0 := hfr8 0
   (try simp only [show (k63).sz = 2 from rfl, Nat.mul_one, Nat.add_zero] at hf8_0)
   clear hcl8 hcc8 hfr8 hM8 hoki8 hH8
   go_wp2_with (first | ((with_reducible refine gate_store (t := 3) (p := 16) rfl ?_); refine store_event (t := 3) (p := 16) (v := ?vo_w9) (w1 := (wr.setCell ⟨go5, (x5_1 : Int).toNat * 2, none⟩ (.int .i64 x1_1))) ?hg ?ho ?hn ?hr ?_; (case ho => rfl); (case hg => rfl); (case hn => rfl); (case hr => first | (go_simp; done) | (go_simp; rfl) | (obtain ⟨A_, c_, e_⟩ := Kd.R_slice HO_0.out; subst e_; (first | (go_simp; done) | (go_simp; rfl))) | (obtain ⟨A_, c_, e_⟩ := Kd.S_slice HO_0.out; subst e_; (first | (go_simp; done) | (go_simp; rfl)))); intro w9 hw; have hg : wr.grownBy w9 (some go5) := (by rw [hw]; exact HP8.2); have hp_ : Kd.S k63 63 w9 w0.heap.size (fun k_ => P0_ k_) (.slice (some ⟨go5, 0, none⟩) x0_1.length co7) y342 := (by rw [hw, Ny342.out]; exact HP8.1); clear HP8; have n0_ := aM (hp_); have n1_ := aM ((by rw [hw]; exact below_set (HB.out) GB5.out : Below w0.heap.size w0 w9)); have n2_ := aM (Kept.of_grown (S := (fun k_ => P0_ k_)) hg (by repeat (first | (with_reducible first | exact HK.out | apply Kept.alloc | apply Kept.drewN | apply Kept.drew) | exact HK.out)) (fun k_ e_ => .inl ((Kd.S_R HO_0.out).1 k_ e_))); clear HO_0 HB HK; have HO_0 := n0_; have HB := n1_; have HK := n2_; clear n0_ n1_ n2_; clear hg hw hp_; have p343 : 0 ≤ (x5_1 : Int) := of_decide_eq_true (by first | (with_reducible assumption) | assumption); have q343 : x5_1 < (y342.length : Int) := (by have h_ : (x5_1 : Int) < ((x0_1.length : Int) : Int) := of_decide_eq_true (by first | (with_reducible assumption) | assumption); first | (have e_ := (Kd.S_reads' HO_0.out).1; omega) | simpa only [Ny342.out, List.length_set] using h_); have ql343 : ((x5_1 : Int) < ((x0_1.length : Int) : Int)) = True := eq_true (of_decide_eq_true (by first | (with_reducible assumption) | assumption)); obtain ⟨ad343, A343_1, c343_1, e343, hx343_0, hx343_1, hl343_1, hi343_1⟩ := at_T63 (Kd.S_reads' HO_0.out).2.2 x5_1 p343 q343; obtain rfl : (⟨go5, 0, none⟩ : Addr) = ad343 := (by injection e343); obtain ⟨ce343, hce343, hMe343, hcc343⟩ := Kd.S_get HO_0.out z63 x5_1 p343 (by first | exact q343 | exact of_decide_eq_true (by first | (with_reducible assumption) | assumption) | (have e_ := (Kd.S_reads' HO_0.out).1; omega)); obtain ⟨ve343_1, rfl, ge343_1⟩ := k63_openM hMe343; have hv343_1 := hcc343 1 _ rfl; rw [add_field _ _ 1 (by omega)] at hv343_1; replace hv343_1 := Option.some.inj (hv343_1.symm.trans hx343_1); rw [hv343_1] at ge343_1; have HL343_1 := aM (show Kd.R (Kd.int .i64) 3 _ _ _ _ ((rd_T63 y342 x5_1).f1) from ge343_1); clear hv343_1 ge343_1; clear hcc343 hce343; (first | simp only [add_plain] at hx343_0 | simp only [add_at] at hx343_0 | simp only [Addr.add, Nat.zero_add] at hx343_0 | skip); (first | simp only [add_plain] at hx343_1 | simp only [add_at] at hx343_1 | simp only [Addr.add, Nat.zero_add] at hx343_1 | skip); have HR343_1 := aM hi343_1; have HC343_1 := aM hl343_1; clear hi343_1 hl343_1; replace p343 := eq_true p343; replace q343 := eq_true q343) | ((with_reducible refine gate_callee (f := 155) rfl ?_); refine goesL_ (some 25) rfl rfl Try.func155 (by kernel_rfl) rfl #[.slice A343_1 ((rd_T63 y342 x5_1).f1).length c343_1, .int .i64 (wrap64 (x1_1 + 1))] rfl xR ?_; obtain ⟨oki_, hoki_, hge_, hback_⟩ := member_lend HO_0.out (of_decide_eq_true (by first | (with_reducible assumption) | assumption)) (of_decide_eq_true (by first | (with_reducible assumption) | assumption)) hx343_1; (with_reducible refine (laws_markIntS.calls k1 oki_ _ ((rd_T63 y342 x5_1).f1) (wrap64 (x1_1 + 1)) t344 t344r w0 _ HB.out hge_ A6.out).mono ?_); rintro e w77 ⟨rfl, hy, hb, hkp⟩; refine ⟨_, rfl, ?_⟩; have n0_ := aM (hback_ hkp hy); have n1_ := aM hb; have n2_ := aM (Kept.then_ HK.out hkp (fun k_ hk_ => .inl (hoki_ k_ hk_))); clear HO_0 HB HK; have HO_0 := n0_; have HB := n1_; have HK := n2_; clear n0_ n1_ n2_))
   go_roundg k1
   case measure => have := HK1.out; omega
   case rel => exact ⟨(y342.set (x5_1 : Int).toNat (⟨(rd_T63 y342 x5_1).f0, t344r⟩ : S63)), (t344), (wrap64 (x5_1 + 1)), xE, xE, H', ⟨by have := HK1.out; omega⟩, ⟨by (with_reducible repeat (first | apply Kd.S_alloc | apply Kd.S_drewN | apply Kd.S_drew)); exact HO_0.out⟩, ⟨by repeat (first | (with_reducible first | exact HK.out | apply Kept.alloc | apply Kept.drewN | apply Kept.drew) | exact HK.out)⟩, ⟨bl HB.out⟩⟩

/-- A card in memory, made from b on and ahead of e: its three rows, none of whose blocks is another's. -/
def CardAt (B : Nat) (W : World) (b e : Nat) (v0 v1 v2 : Value) (o : List Bool) (m : List S63) (t : List S138) : Prop :=
 ∃ P0 P1 P2 : Nat → Prop, (∀ k, P0 k → b ≤ k ∧ k < e) ∧ (∀ k, P1 k → b ≤ k ∧ k < e) ∧ (∀ k, P2 k → b ≤ k ∧ k < e) ∧ (∀ k, P0 k → ¬ P1 k) ∧ (∀ k, P0 k → ¬ P2 k) ∧ (∀ k, P1 k → ¬ P2 k) ∧
  Kd.R Kd.bool 4 W B P0 v0 o ∧ Kd.S k63 63 W B P1 v1 m ∧ Kd.R k138 138 W B P2 v2 t
theorem CardAt.kept {B : Nat} {W W' : World} {b e : Nat} {v0 v1 v2 : Value} {o : List Bool} {m : List S63} {t : List S138} {Q : Nat → Prop} (h : CardAt B W b e v0 v1 v2 o m t) (hK : Kept W W' Q) (hq : ∀ k, b ≤ k → k < e → ¬ Q k) : CardAt B W' b e v0 v1 v2 o m t := by
 obtain ⟨P0, P1, P2, a0, a1, a2, d1, d2, d3, h0, h1, h2⟩ := h
 exact ⟨P0, P1, P2, a0, a1, a2, d1, d2, d3, Kd.R_step h0 (fun k hk hlt => hK.2 k hlt (hq k (a0 k hk).1 (a0 k hk).2)), Kd.S_step h1 (fun k hk hlt => hK.2 k hlt (hq k (a1 k hk).1 (a1 k hk).2)), Kd.R_step h2 (fun k hk hlt => hK.2 k hlt (hq k (a2 k hk).1 (a2 k hk).2))⟩
theorem CardAt.below {B : Nat} {W W' : World} {b e : Nat} {v0 v1 v2 : Value} {o : List Bool} {m : List S63} {t : List S138} (h : CardAt B W b e v0 v1 v2 o m t) (hb : Below W.heap.size W W') : CardAt B W' b e v0 v1 v2 o m t :=
 h.kept (Kept.of_below hb (fun _ => False)) (fun _ _ _ hk => hk)
theorem CardAt.make {B : Nat} {W W' : World} {v0 v1 v2 : Value} {o : List Bool} {m : List S63} {t : List S138} (g : Nat) (hg : g < W.heap.size) (hB : B ≤ W.heap.size) (h0 : Kd.R Kd.bool 4 W' W.heap.size (fun _ => True) v0 o) (h1 : Kd.S k63 63 W' W.heap.size (fun _ => True) v1 m) (h2 : Kd.R k138 138 W' W.heap.size (fun _ => True) v2 t) :
  ∃ b e, g < b ∧ e ≤ W'.heap.size ∧ CardAt B W' b e v0 v1 v2 o m t := by
 have ty : ∀ (k q q' : Nat) (c c' : Array Value), W'.heap[k]? = some (.cells c q (0, 0)) → W'.heap[k]? = some (.cells c' q' (0, 0)) → q = q' := by
  intro k q q' c c' e1 e2
  rw [e1] at e2
  injection e2 with e2
  injection e2
 refine ⟨W.heap.size, W'.heap.size, hg, Nat.le_refl _,
  fun k => (W.heap.size ≤ k ∧ k < W'.heap.size) ∧ ∃ q, q ∈ 4 :: Kd.bool.E ∧ ∃ cells, W'.heap[k]? = some (.cells cells q (0, 0)),
  fun k => (W.heap.size ≤ k ∧ k < W'.heap.size) ∧ ∃ q, q ∈ 63 :: k63.E ∧ ∃ cells, W'.heap[k]? = some (.cells cells q (0, 0)),
  fun k => (W.heap.size ≤ k ∧ k < W'.heap.size) ∧ ∃ q, q ∈ 138 :: k138.E ∧ ∃ cells, W'.heap[k]? = some (.cells cells q (0, 0)),
  fun k hk => hk.1, fun k hk => hk.1, fun k hk => hk.1, ?_, ?_, ?_,
  Kd.R_lower (Kd.R_mono (Kd.R_bound h0) (fun k hk => ⟨⟨hk.2.1, hk.2.2.1⟩, hk.2.2.2⟩)) hB, Kd.S_lower (Kd.S_mono (Kd.S_bound h1) (fun k hk => ⟨⟨hk.2.1, hk.2.2.1⟩, hk.2.2.2⟩)) hB, Kd.R_lower (Kd.R_mono (Kd.R_bound h2) (fun k hk => ⟨⟨hk.2.1, hk.2.2.1⟩, hk.2.2.2⟩)) hB⟩
 ·rintro k ⟨_, q, hq, c, hc⟩ ⟨_, q', hq', c', hc'⟩
  have := ty k q q' c c' hc hc'
  subst this
  exact absurd hq' ((show ∀ q, q ∈ 4 :: Kd.bool.E → ¬ q ∈ 63 :: k63.E by decide) q hq)
 ·rintro k ⟨_, q, hq, c, hc⟩ ⟨_, q', hq', c', hc'⟩
  have := ty k q q' c c' hc hc'
  subst this
  exact absurd hq' ((show ∀ q, q ∈ 4 :: Kd.bool.E → ¬ q ∈ 138 :: k138.E by decide) q hq)
 ·rintro k ⟨_, q, hq, c, hc⟩ ⟨_, q', hq', c', hc'⟩
  have := ty k q q' c c' hc hc'
  subst this
  exact absurd hq' ((show ∀ q, q ∈ 63 :: k63.E → ¬ q ∈ 138 :: k138.E by decide) q hq)
theorem CardAt.reads {B : Nat} {W : World} {b e : Nat} {v0 v1 v2 : Value} {o : List Bool} {m : List S63} {t : List S138} (h : CardAt B W b e v0 v1 v2 o m t) :
  ∃ A0 c0 A1 c1 A2 c2, v0 = .slice A0 o.length c0 ∧ v1 = .slice A1 m.length c1 ∧ v2 = .slice A2 t.length c2 ∧ o.length ≤ c0 ∧ m.length ≤ c1 ∧ t.length ≤ c2 ∧ Kd.C Kd.bool W A0 o.length o ∧ Kd.C k63 W A1 m.length m ∧ Kd.C k138 W A2 t.length t := by
 obtain ⟨_, _, _, _, _, _, _, _, _, h0, h1, h2⟩ := h
 obtain ⟨A0, c0, e0, l0, r0⟩ := Kd.R_reads h0
 obtain ⟨A1, c1, e1, l1, r1⟩ := Kd.S_reads h1
 obtain ⟨A2, c2, e2, l2, r2⟩ := Kd.R_reads h2
 exact ⟨A0, c0, A1, c1, A2, c2, e0, e1, e2, l0, l1, l2, r0, r1, r2⟩
def laws_markCard.f (k : Nat) (o : List Bool) (m : List S63) (t : List S138) (a1 : Int) : Option (Int × List Bool × List S63 × List S138) :=
 (laws_markBoolS.f k o a1).bind fun b1 => ((laws_markMemberS.f k m b1.1).bind fun b2 => ((laws_markHeardS.f k t b2.1).bind fun b3 => (some (b3.1, b1.2, b2.2, b3.2))))
set_option maxHeartbeats 60000000 in
set_option maxRecDepth 100000 in
theorem laws_markCard.calls (k : Nat) {b e : Nat} {v0 v1 v2 : Value} (o : List Bool) (m : List S63) (t : List S138) (a1 r1 : Int) (o2 : List Bool) (m2 : List S63) (t2 : List S138) (w0 w : World) (hB : Below w0.heap.size w0 w) (hC : CardAt w0.heap.size w b e v0 v1 v2 o m t) (he : e ≤ w.heap.size) (h : laws_markCard.f k o m t a1 = some (r1, o2, m2, t2)) :
  Calls Try.prog 24 #[.agg #[v0, v1, v2], .int .i64 a1] w fun e_ w' => e_ = .returned (.int .i64 r1) ∧ CardAt w0.heap.size w' b e v0 v1 v2 o2 m2 t2 ∧ Below w0.heap.size w0 w' ∧ Kept w w' (fun k_ => b ≤ k_ ∧ k_ < e) := by
 obtain ⟨⟨t1, o3⟩, Z1, h⟩ := Option.bind_eq_some_iff.mp h
 obtain ⟨⟨t2_, m3⟩, Z2, h⟩ := Option.bind_eq_some_iff.mp h
 obtain ⟨⟨t3, h3⟩, Z3, h⟩ := Option.bind_eq_some_iff.mp h
 obtain ⟨rfl, rfl, rfl, rfl⟩ : t3 = r1 ∧ o3 = o2 ∧ m3 = m2 ∧ h3 = t2 := by simpa using h
 clear h
 have A1 := aM Z1
 have A2 := aM Z2
 have A3 := aM Z3
 obtain ⟨P0, P1, P2, a0, a1_, a2, d01, d02, d12, q0, q1, q2⟩ := hC
 obtain ⟨X0, c0, rfl⟩ : ∃ A c, v0 = .slice A o.length c := Kd.R_slice q0
 obtain ⟨X1, c1, rfl⟩ : ∃ A c, v1 = .slice A m.length c := Kd.S_slice q1
 obtain ⟨X2, c2, rfl⟩ : ∃ A c, v2 = .slice A t.length c := Kd.R_slice q2
 have Q0 := aM q0
 have Q1 := aM q1
 have Q2 := aM q2
 have HB := aM hB
 have HK := aM (Kept.refl w (fun k_ => b ≤ k_ ∧ k_ < e))
 have HE := aM he
 have D := aM (And.intro a0 (And.intro a1_ (And.intro a2 (And.intro d01 (And.intro d02 d12)))))
 clear q0 q1 q2 hB a0 a1_ a2 d01 d02 d12 Z1 Z2 Z3 he
 have hu43 := Try.underlying43
 go_enter Try.func24, Try.ntmps24
 go_wp2_with (first | ((with_reducible refine gate_dst (N := 2) rfl ?_); refine box_event ?hg (N := 2) ?hd (cs := #[.slice X0 o.length c0, .slice X1 m.length c1, .slice X2 t.length c2]) (t := 43) ?hr ?_; (case hd => rfl); (case hg => rfl); (case hr => first | (go_simp; done) | (go_simp; rfl)); intro g hg w1 hbox hb; have BK := aM hbox; have HG := aM (show e ≤ g by rw [hg]; exact HE.out); replace Q0 := aM (kB Q0.out hb); replace Q1 := aM (Kd.S_below Q1.out hb); replace Q2 := aM (kB Q2.out hb); replace HB := aM (bS HB.out hb); replace HK := aM (Kept.below HK.out hb); clear hb hbox hg; have z0 : w1.cell? ⟨g, 0, none⟩ = some (.slice X0 o.length c0) := (bC BK.out 0).trans rfl; have z1 : w1.cell? ⟨g, 1, none⟩ = some (.slice X1 m.length c1) := (bC BK.out 1).trans rfl; have z2 : w1.cell? ⟨g, 2, none⟩ = some (.slice X2 t.length c2) := (bC BK.out 2).trans rfl) | ((with_reducible refine gate_callee (f := 91) rfl ?_); refine goesL_ (some 8) rfl rfl Try.func91 (by kernel_rfl) rfl #[.slice X0 o.length c0, .int .i64 a1] rfl (by (try simp only [List.map_toArray, List.map_cons, List.map_nil]); first | done | rfl) ?_; (with_reducible refine (laws_markBoolS.calls k P0 (.slice X0 o.length c0) o a1 t1 o3 w0 _ HB.out Q0.out A1.out).mono ?_); rintro e_ w3 ⟨rfl, hy, hb, hk⟩; refine ⟨_, rfl, ?_⟩; replace Q0 := aM (Kd.R_reok rfl hy (fun k_ h_ => Q0.out.1 k_ h_)); replace Q1 := aM (Kd.S_step Q1.out (fun k_ h_ hlt => hk.2 k_ hlt (fun h2 => D.out.2.2.2.1 k_ h2 h_))); replace Q2 := aM (Kd.R_step Q2.out (fun k_ h_ hlt => hk.2 k_ hlt (fun h2 => D.out.2.2.2.2.1 k_ h2 h_))); replace HB := aM hb; replace HK := aM (Kept.then_ HK.out hk (fun k_ h_ => .inl (D.out.1 k_ h_))); replace BK := aM (blk_kept BK.out hk (fun h_ => by have := (D.out.1 g h_).2; have := HG.out; omega)); clear hb hk hy; have z1 : w3.cell? ⟨g, 1, none⟩ = some (.slice X1 m.length c1) := (bC BK.out 1).trans rfl; have z2 : w3.cell? ⟨g, 2, none⟩ = some (.slice X2 t.length c2) := (bC BK.out 2).trans rfl) | ((with_reducible refine gate_callee (f := 92) rfl ?_); refine goesL_ (some 12) rfl rfl Try.func92 (by kernel_rfl) rfl #[.slice X1 m.length c1, .int .i64 t1] rfl (by (try simp only [List.map_toArray, List.map_cons, List.map_nil]); first | done | rfl) ?_; (with_reducible refine (laws_markMemberS.calls k P1 (.slice X1 m.length c1) m t1 t2_ m3 w0 _ HB.out Q1.out A2.out).mono ?_); rintro e_ w4 ⟨rfl, hy, hb, hk⟩; refine ⟨_, rfl, ?_⟩; replace Q1 := aM hy; replace Q0 := aM (Kd.R_step Q0.out (fun k_ h_ hlt => hk.2 k_ hlt (fun h2 => D.out.2.2.2.1 k_ h_ h2))); replace Q2 := aM (Kd.R_step Q2.out (fun k_ h_ hlt => hk.2 k_ hlt (fun h2 => D.out.2.2.2.2.2 k_ h2 h_))); replace HB := aM hb; replace HK := aM (Kept.then_ HK.out hk (fun k_ h_ => .inl (D.out.2.1 k_ h_))); replace BK := aM (blk_kept BK.out hk (fun h_ => by have := (D.out.2.1 g h_).2; have := HG.out; omega)); clear hb hk hy; have z2 : w4.cell? ⟨g, 2, none⟩ = some (.slice X2 t.length c2) := (bC BK.out 2).trans rfl) | ((with_reducible refine gate_callee (f := 93) rfl ?_); refine goesL_ (some 16) rfl rfl Try.func93 (by kernel_rfl) rfl #[.slice X2 t.length c2, .int .i64 t2_] rfl (by (try simp only [List.map_toArray, List.map_cons, List.map_nil]); first | done | rfl) ?_; (with_reducible refine (laws_markHeardS.calls k P2 (.slice X2 t.length c2) t t2_ t3 h3 w0 _ HB.out Q2.out A3.out).mono ?_); rintro e_ w5 ⟨rfl, hy, hb, hk⟩; refine ⟨_, rfl, ?_⟩; replace Q2 := aM (Kd.R_reok rfl hy (fun k_ h_ => Q2.out.1 k_ h_)); replace Q0 := aM (Kd.R_step Q0.out (fun k_ h_ hlt => hk.2 k_ hlt (fun h2 => D.out.2.2.2.2.1 k_ h_ h2))); replace Q1 := aM (Kd.S_step Q1.out (fun k_ h_ hlt => hk.2 k_ hlt (fun h2 => D.out.2.2.2.2.2 k_ h_ h2))); replace HB := aM hb; replace HK := aM (Kept.then_ HK.out hk (fun k_ h_ => .inl (D.out.2.2.1 k_ h_))); clear hb hk hy))
 go_ret
 exact ⟨rfl, ⟨P0, P1, P2, D.out.1, D.out.2.1, D.out.2.2.1, D.out.2.2.2.1, D.out.2.2.2.2.1, D.out.2.2.2.2.2, Q0.out, Q1.out, Q2.out⟩, HB.out, HK.out⟩

def fill3 (W : World) (g : Nat) (u0 u1 u2 : Value) : World := ((W.setCell ⟨g, 0, none⟩ u0).setCell ⟨g, 1, none⟩ u1).setCell ⟨g, 2, none⟩ u2
theorem fill3_box {W : World} {g t : Nat} {a0 a1 a2 : Value} (h : W.heap[g]? = some (.cells #[a0, a1, a2] t (0, 0))) (u0 u1 u2 : Value) : (((W.setCell ⟨g, 0, none⟩ u0).setCell ⟨g, 1, none⟩ u1).setCell ⟨g, 2, none⟩ u2).heap[g]? = some (.cells #[u0, u1, u2] t (0, 0)) :=
 blk_put (cs := #[u0, u1, a2]) (blk_put (cs := #[u0, a1, a2]) (blk_put (cs := #[a0, a1, a2]) h 0 u0 rfl) 1 u1 rfl) 2 u2 rfl
theorem fill3_kept (W : World) (g : Nat) (u0 u1 u2 : Value) : Kept W (((W.setCell ⟨g, 0, none⟩ u0).setCell ⟨g, 1, none⟩ u1).setCell ⟨g, 2, none⟩ u2) (fun k => k = g) :=
 Kept.setCell (Kept.setCell (Kept.setCell (Kept.refl W (fun k => k = g)) (.inl rfl) u0) (.inl rfl) u1) (.inl rfl) u2
theorem fill3_below {w W : World} {g : Nat} (h : Below w.heap.size w W) (hg : w.heap.size ≤ g) (u0 u1 u2 : Value) : Below w.heap.size w (((W.setCell ⟨g, 0, none⟩ u0).setCell ⟨g, 1, none⟩ u1).setCell ⟨g, 2, none⟩ u2) := below_set (below_set (below_set h hg) hg) hg
/-- The calls over whole cards. -/
theorem eq_card (k : Nat) {B : Nat} {W : World} {b e b' e' : Nat} {v0 v1 v2 u0 u1 u2 : Value} {o o' : List Bool} {m m' : List S63} {t t' : List S138} {r : Bool} (hC : CardAt B W b e v0 v1 v2 o m t) (hD : CardAt B W b' e' u0 u1 u2 o' m' t') (h : laws_eqCard.f k o m t o' m' t' = some r) :
  Calls Try.prog 23 #[.agg #[v0, v1, v2], .agg #[u0, u1, u2]] W fun e w' => e = .returned (.bool r) ∧ Below W.heap.size W w' := by
 obtain ⟨A0, c0, A1, c1, A2, c2, rfl, rfl, rfl, l0, l1, l2, r0, r1, r2⟩ := hC.reads
 obtain ⟨X0, d0, X1, d1, X2, d2, rfl, rfl, rfl, n0, n1, n2, s0, s1, s2⟩ := hD.reads
 exact laws_eqCard.calls k A0 c0 o A1 c1 m A2 c2 t X0 d0 o' X1 d1 m' X2 d2 t' r W r0 l0 r1 l1 r2 l2 s0 n0 s1 n1 s2 n2 h
theorem held_card (k : Nat) {B : Nat} {W : World} {b e : Nat} {v0 v1 v2 : Value} {o : List Bool} {m : List S63} {t : List S138} {a1 r : Int} (hC : CardAt B W b e v0 v1 v2 o m t) (h : laws_heldCard.f k o m t a1 = some r) :
  Calls Try.prog 25 #[.agg #[v0, v1, v2], .int .i64 a1] W fun e w' => e = .returned (.int .i64 r) ∧ Below W.heap.size W w' := by
 obtain ⟨A0, c0, A1, c1, A2, c2, rfl, rfl, rfl, l0, l1, l2, r0, r1, r2⟩ := hC.reads
 exact laws_heldCard.calls k A0 c0 o A1 c1 m A2 c2 t a1 r W r0 l0 r1 l1 r2 l2 h
theorem spec_gate (k : Nat) {B : Nat} {W : World} {b e : Nat} {v0 v1 v2 : Value} {o : List Bool} {m : List S63} {t : List S138} {a1 : Int} {a2 : Bool} {r1 : List Bool} {r2 : List S63} {r3 : List S138} (g : Nat) (hg : g < W.heap.size) (hB : B ≤ W.heap.size) (hC : CardAt B W b e v0 v1 v2 o m t) (h : spec_Gate.f k o m t a1 a2 = some (r1, r2, r3)) :
  Calls Try.prog 20 #[.agg #[v0, v1, v2], .int .i64 a1, .bool a2] W fun e w' => ∃ u0 u1 u2 b e_, e = .returned (.agg #[u0, u1, u2]) ∧ Below W.heap.size W w' ∧ g < b ∧ e_ ≤ w'.heap.size ∧ CardAt B w' b e_ u0 u1 u2 r1 r2 r3 := by
 obtain ⟨A0, c0, A1, c1, A2, c2, rfl, rfl, rfl, l0, l1, l2, q0, q1, q2⟩ := hC.reads
 refine (spec_Gate.calls k A0 c0 o A1 c1 m A2 c2 t a1 a2 r1 r2 r3 W q0 l0 q1 l1 q2 l2 h).mono ?_
 rintro e w' ⟨u0, u1, u2, he, h0, h1, h2, hb⟩
 obtain ⟨b, e_, k1, k2, hD⟩ := CardAt.make g hg hB h0 h1 h2
 exact ⟨u0, u1, u2, b, e_, he, hb, k1, k2, hD⟩
theorem impl_gate (k : Nat) {B : Nat} {W : World} {b e : Nat} {v0 v1 v2 : Value} {o : List Bool} {m : List S63} {t : List S138} {a1 : Int} {a2 : Bool} {r1 : List Bool} {r2 : List S63} {r3 : List S138} (g : Nat) (hg : g < W.heap.size) (hB : B ≤ W.heap.size) (hC : CardAt B W b e v0 v1 v2 o m t) (h : impl_Gate.f k o m t a1 a2 = some (r1, r2, r3)) :
  Calls Try.prog 22 #[.agg #[v0, v1, v2], .int .i64 a1, .bool a2] W fun e w' => ∃ u0 u1 u2 b e_, e = .returned (.agg #[u0, u1, u2]) ∧ Below W.heap.size W w' ∧ g < b ∧ e_ ≤ w'.heap.size ∧ CardAt B w' b e_ u0 u1 u2 r1 r2 r3 := by
 obtain ⟨A0, c0, A1, c1, A2, c2, rfl, rfl, rfl, l0, l1, l2, q0, q1, q2⟩ := hC.reads
 refine (impl_Gate.calls k A0 c0 o A1 c1 m A2 c2 t a1 a2 r1 r2 r3 W q0 l0 q1 l1 q2 l2 h).mono ?_
 rintro e w' ⟨u0, u1, u2, he, h0, h1, h2, hb⟩
 obtain ⟨b, e_, k1, k2, hD⟩ := CardAt.make g hg hB h0 h1 h2
 exact ⟨u0, u1, u2, b, e_, he, hb, k1, k2, hD⟩
theorem CardAt.forms {B : Nat} {W : World} {b e : Nat} {v0 v1 v2 : Value} {o : List Bool} {m : List S63} {t : List S138} (h : CardAt B W b e v0 v1 v2 o m t) : ∃ A0 n0 c0 A1 n1 c1 A2 n2 c2, v0 = .slice A0 n0 c0 ∧ v1 = .slice A1 n1 c1 ∧ v2 = .slice A2 n2 c2 := by
 obtain ⟨A0, c0, A1, c1, A2, c2, h0, h1, h2, _⟩ := h.reads
 exact ⟨A0, _, c0, A1, _, c1, A2, _, c2, h0, h1, h2⟩
def laws_FnExactGate.f (k : Nat) (l0_0 : List Bool) (l0_1 : List (S165)) (l0_2 : List (S168)) (a1 : Int) (a2 : Bool) : Option (Bool) :=
 (laws_szCard.f k l0_0 l0_1 l0_2 1048576).bind fun s => (if s < 0 then (some true) else
 ((laws_toCard.f k l0_0 l0_1 l0_2).bind fun c => ((spec_Gate.f k c.1 c.2.1 c.2.2 a1 a2).bind fun w0 => ((impl_Gate.f k c.1 c.2.1 c.2.2 a1 a2).bind fun g0 =>
 ((laws_eqCard.f k g0.1 g0.2.1 g0.2.2 w0.1 w0.2.1 w0.2.2).bind fun e1 => (if e1 = true then ((laws_eqCard.f k c.1 c.2.1 c.2.2 c.1 c.2.1 c.2.2).bind fun e2 => (if e2 = true then
 ((laws_markCard.f k c.1 c.2.1 c.2.2 1).bind fun k1 => (if k1.1 < 0 then none else ((laws_markCard.f k g0.1 g0.2.1 g0.2.2 1).bind fun m1 => ((laws_heldCard.f k m1.2.1 m1.2.2.1 m1.2.2.2 1).bind fun q =>
 (if q < 0 then none else (if q = m1.1 then (some true) else none)))))) else none)) else none))))))
set_option maxHeartbeats 60000000 in
set_option maxRecDepth 100000 in
theorem laws_FnExactGate.calls (k : Nat) (A0_0 : Option Addr) (c0_0 : Nat) (l0_0 : List Bool) (A0_1 : Option Addr) (c0_1 : Nat) (l0_1 : List (S165)) (A0_2 : Option Addr) (c0_2 : Nat) (l0_2 : List (S168)) (a1 : Int) (a2 : Bool) (w : World) (hr0_0 : Kd.C Kd.bool w A0_0 l0_0.length l0_0) (hc0_0 : l0_0.length ≤ c0_0) (hr0_1 : Kd.C k165 w A0_1 l0_1.length l0_1) (hc0_1 : l0_1.length ≤ c0_1) (hr0_2 : Kd.C k168 w A0_2 l0_2.length l0_2) (hc0_2 : l0_2.length ≤ c0_2) (h : laws_FnExactGate.f k l0_0 l0_1 l0_2 a1 a2 = some true) :
  Calls Try.prog 4 #[.agg #[.slice A0_0 l0_0.length c0_0, .slice A0_1 l0_1.length c0_1, .slice A0_2 l0_2.length c0_2], .int .i64 a1, .bool a2] w fun e w' => e = .returned (.bool true) ∧ Below w.heap.size w w' := by
 have hu38 := Try.underlying38
 have hu43 := Try.underlying43
 have R0 := aM hr0_0
 have R1 := aM hr0_1
 have R2 := aM hr0_2
 have N0 := aM hc0_0
 have N1 := aM hc0_1
 have N2 := aM hc0_2
 clear hr0_0 hr0_1 hr0_2 hc0_0 hc0_1 hc0_2
 have HB := aM (Below.refl w.heap.size w)
 obtain ⟨s, Z1, h⟩ := Option.bind_eq_some_iff.mp h
 have E1 := aM Z1
 clear Z1
 by_cases hs : s < 0
 ·rw [if_pos hs] at h
  have hs1 : decide (s < 0) = true := decide_eq_true hs
  clear hs
  go_enter Try.func4, Try.ntmps4
  go_wp2_with (first | ((with_reducible refine gate_dst (N := 3) rfl ?_); refine box_event ?hg (N := 3) ?hd (cs := #[.slice A0_0 l0_0.length c0_0, .slice A0_1 l0_1.length c0_1, .slice A0_2 l0_2.length c0_2]) (t := 38) ?hr ?_; (case hd => rfl); (case hg => rfl); (case hr => first | (go_simp; done) | (go_simp; rfl)); intro g3 hg w1 hbox hb; have B3 := aM hbox; replace HB := aM (bS HB.out hb); clear hb hbox hg; have z3_0 : w1.cell? ⟨g3, 0, none⟩ = some (.slice A0_0 l0_0.length c0_0) := (bC B3.out 0).trans rfl; have z3_1 : w1.cell? ⟨g3, 1, none⟩ = some (.slice A0_1 l0_1.length c0_1) := (bC B3.out 1).trans rfl; have z3_2 : w1.cell? ⟨g3, 2, none⟩ = some (.slice A0_2 l0_2.length c0_2) := (bC B3.out 2).trans rfl) | ((with_reducible refine gate_callee (f := 19) rfl ?_); refine goesL_ (some 17) rfl rfl Try.func19 (by kernel_rfl) rfl #[.agg #[.slice A0_0 l0_0.length c0_0, .slice A0_1 l0_1.length c0_1, .slice A0_2 l0_2.length c0_2], .int .i64 1048576] rfl (by (try simp only [List.map_toArray, List.map_cons, List.map_nil]); first | done | rfl) ?_; (with_reducible refine (laws_szCard.calls k _ _ l0_0 _ _ l0_1 _ _ l0_2 1048576 s _ (cB R0.out HB.out) N0.out (cB R1.out HB.out) N1.out (cB R2.out HB.out) N2.out E1.out).mono ?_); rintro e w2 ⟨rfl, hb⟩; refine ⟨_, rfl, ?_⟩; replace B3 := aM (bB B3.out hb); replace HB := aM (bS HB.out hb); clear hb; have z3b_0 : w2.cell? ⟨g3, 0, none⟩ = some (.slice A0_0 l0_0.length c0_0) := (bC B3.out 0).trans rfl; have z3b_1 : w2.cell? ⟨g3, 1, none⟩ = some (.slice A0_1 l0_1.length c0_1) := (bC B3.out 1).trans rfl; have z3b_2 : w2.cell? ⟨g3, 2, none⟩ = some (.slice A0_2 l0_2.length c0_2) := (bC B3.out 2).trans rfl))
  go_ret
  exact ⟨by first | rfl | (simp [errW_none, errW_some] <;> rfl), HB.out⟩
 rw [if_neg hs] at h
 have hs1 : decide (s < 0) = false := decide_eq_false hs
 clear hs
 obtain ⟨⟨o, m, t⟩, Z2, h⟩ := Option.bind_eq_some_iff.mp h
 obtain ⟨⟨o1, m1, t1⟩, Z3, h⟩ := Option.bind_eq_some_iff.mp h
 obtain ⟨⟨o2, m2, t2⟩, Z4, h⟩ := Option.bind_eq_some_iff.mp h
 obtain ⟨e1, Z5, h⟩ := Option.bind_eq_some_iff.mp h
 dsimp only at Z3 Z4 Z5 h
 by_cases he1 : e1 = true
 case neg => rw [if_neg he1] at h; cases h
 rw [if_pos he1] at h
 subst he1
 obtain ⟨e2, Z6, h⟩ := Option.bind_eq_some_iff.mp h
 by_cases he2 : e2 = true
 case neg => rw [if_neg he2] at h; cases h
 rw [if_pos he2] at h
 subst he2
 obtain ⟨⟨k1, o3, m3, t3⟩, Z7, h⟩ := Option.bind_eq_some_iff.mp h
 dsimp only at h
 by_cases hk1 : k1 < 0
 case pos => rw [if_pos hk1] at h; cases h
 rw [if_neg hk1] at h
 obtain ⟨⟨n1, o4, m4, t4⟩, Z8, h⟩ := Option.bind_eq_some_iff.mp h
 obtain ⟨q, Z9, h⟩ := Option.bind_eq_some_iff.mp h
 dsimp only at Z9 h
 by_cases hq : q < 0
 case pos => rw [if_pos hq] at h; cases h
 rw [if_neg hq] at h
 by_cases hn : q = n1
 case neg => rw [if_neg hn] at h; cases h
 subst hn
 clear h
 have hk1b : decide (k1 < 0) = false := decide_eq_false hk1
 have hqb : decide (q < 0) = false := decide_eq_false hq
 have hqe : (q == q) = true := beq_self_eq_true q
 have hqn : (q != q) = false := bne_self_eq_false q
 clear hk1 hq
 have E2 := aM Z2
 clear Z2
 have E3 := aM Z3
 clear Z3
 have E4 := aM Z4
 clear Z4
 have E5 := aM Z5
 clear Z5
 have E6 := aM Z6
 clear Z6
 have E7 := aM Z7
 clear Z7
 have E8 := aM Z8
 clear Z8
 have E9 := aM Z9
 clear Z9
 go_enter Try.func4, Try.ntmps4
 try go_wp2_with (first | ((with_reducible refine gate_dst (N := 3) rfl ?_); refine box_event ?hg (N := 3) ?hd (cs := #[.slice A0_0 l0_0.length c0_0, .slice A0_1 l0_1.length c0_1, .slice A0_2 l0_2.length c0_2]) (t := 38) ?hr ?_; (case hd => rfl); (case hg => rfl); (case hr => first | (go_simp; done) | (go_simp; rfl)); intro g3 hg w1 hbox hb; have B3 := aM hbox; replace HB := aM (bS HB.out hb); clear hb hbox hg; have z3_0 : w1.cell? ⟨g3, 0, none⟩ = some (.slice A0_0 l0_0.length c0_0) := (bC B3.out 0).trans rfl; have z3_1 : w1.cell? ⟨g3, 1, none⟩ = some (.slice A0_1 l0_1.length c0_1) := (bC B3.out 1).trans rfl; have z3_2 : w1.cell? ⟨g3, 2, none⟩ = some (.slice A0_2 l0_2.length c0_2) := (bC B3.out 2).trans rfl) | ((with_reducible refine gate_callee (f := 19) rfl ?_); refine goesL_ (some 17) rfl rfl Try.func19 (by kernel_rfl) rfl #[.agg #[.slice A0_0 l0_0.length c0_0, .slice A0_1 l0_1.length c0_1, .slice A0_2 l0_2.length c0_2], .int .i64 1048576] rfl (by (try simp only [List.map_toArray, List.map_cons, List.map_nil]); first | done | rfl) ?_; (with_reducible refine (laws_szCard.calls k _ _ l0_0 _ _ l0_1 _ _ l0_2 1048576 s _ (cB R0.out HB.out) N0.out (cB R1.out HB.out) N1.out (cB R2.out HB.out) N2.out E1.out).mono ?_); rintro e w2 ⟨rfl, hb⟩; refine ⟨_, rfl, ?_⟩; replace B3 := aM (bB B3.out hb); replace HB := aM (bS HB.out hb); clear hb; have z3b_0 : w2.cell? ⟨g3, 0, none⟩ = some (.slice A0_0 l0_0.length c0_0) := (bC B3.out 0).trans rfl; have z3b_1 : w2.cell? ⟨g3, 1, none⟩ = some (.slice A0_1 l0_1.length c0_1) := (bC B3.out 1).trans rfl; have z3b_2 : w2.cell? ⟨g3, 2, none⟩ = some (.slice A0_2 l0_2.length c0_2) := (bC B3.out 2).trans rfl) | ((with_reducible refine gate_callee (f := 21) rfl ?_); refine goesL_ (some 21) rfl rfl Try.func21 (by kernel_rfl) rfl #[.agg #[.slice A0_0 l0_0.length c0_0, .slice A0_1 l0_1.length c0_1, .slice A0_2 l0_2.length c0_2]] rfl (by (try simp only [List.map_toArray, List.map_cons, List.map_nil]); first | done | rfl) ?_; (with_reducible refine (laws_toCard.calls k _ _ l0_0 _ _ l0_1 _ _ l0_2 o m t _ (cB R0.out HB.out) N0.out (cB R1.out HB.out) N1.out (cB R2.out HB.out) N2.out E2.out).mono ?_); rintro e w3 ⟨v0, v1, v2, rfl, ho0, ho1, ho2, hb⟩; refine ⟨_, rfl, ?_⟩; obtain ⟨bT, eT, x1_, x2_, y_⟩ := CardAt.make g3 (blk_lt B3.out) (below_size HB.out) ho0 ho1 ho2; have CT := aM y_; have OLT := aM x1_; have OHT := aM x2_; clear x1_ x2_ y_; replace B3 := aM (bB B3.out hb); replace HB := aM (bS HB.out hb); clear hb ho0 ho1 ho2; obtain ⟨TA0, Tn0, Tc0, TA1, Tn1, Tc1, TA2, Tn2, Tc2, f0_, f1_, f2_⟩ := CT.out.forms; subst f0_; subst f1_; subst f2_; have zcw3_3_0 : w3.cell? ⟨g3, 0, none⟩ = some (.slice A0_0 l0_0.length c0_0) := (bC B3.out 0).trans rfl; have zcw3_3_1 : w3.cell? ⟨g3, 1, none⟩ = some (.slice A0_1 l0_1.length c0_1) := (bC B3.out 1).trans rfl; have zcw3_3_2 : w3.cell? ⟨g3, 2, none⟩ = some (.slice A0_2 l0_2.length c0_2) := (bC B3.out 2).trans rfl) | ((with_reducible refine gate_callee (f := 20) rfl ?_); refine goesL_ (some 24) rfl rfl Try.func20 (by kernel_rfl) rfl #[.agg #[.slice TA0 Tn0 Tc0, .slice TA1 Tn1 Tc1, .slice TA2 Tn2 Tc2], .int .i64 a1, .bool a2] rfl (by (try simp only [List.map_toArray, List.map_cons, List.map_nil]); first | done | rfl) ?_; (with_reducible refine (spec_gate k (a1 := a1) (a2 := a2) g3 (blk_lt B3.out) (below_size HB.out) CT.out E3.out).mono ?_); rintro e w4 ⟨v0, v1, v2, bV, eV, rfl, hb, x1_, x2_, y_⟩; refine ⟨_, rfl, ?_⟩; replace B3 := aM (bB B3.out hb); replace CT := aM (CT.out.below hb); replace HB := aM (bS HB.out hb); have CV := aM y_; have OLV := aM x1_; have OHV := aM x2_; clear x1_ x2_ y_; clear hb; obtain ⟨VA0, Vn0, Vc0, VA1, Vn1, Vc1, VA2, Vn2, Vc2, f0_, f1_, f2_⟩ := CV.out.forms; subst f0_; subst f1_; subst f2_; have zcw4_3_0 : w4.cell? ⟨g3, 0, none⟩ = some (.slice A0_0 l0_0.length c0_0) := (bC B3.out 0).trans rfl; have zcw4_3_1 : w4.cell? ⟨g3, 1, none⟩ = some (.slice A0_1 l0_1.length c0_1) := (bC B3.out 1).trans rfl; have zcw4_3_2 : w4.cell? ⟨g3, 2, none⟩ = some (.slice A0_2 l0_2.length c0_2) := (bC B3.out 2).trans rfl) | ((with_reducible refine gate_dst (N := 8) rfl ?_); refine box_event ?hg (N := 8) ?hd (cs := #[.slice none 0 0, .slice none 0 0, .slice none 0 0]) (t := 43) ?hr ?_; (case hd => rfl); (case hg => rfl); (case hr => first | (go_simp; done) | (go_simp; rfl)); intro g8 hg w5 hbox hb; have GE8 := aM (show w.heap.size ≤ g8 by rw [hg]; exact below_size HB.out); have P3_8 := aM (show g3 < g8 by rw [hg]; exact blk_lt B3.out); have X3_8 := aM (show ¬ g3 = g8 by have := P3_8.out; omega); have x3_8 := X3_8.out; have y3_8 := (Ne.symm x3_8); have QV_8 := aM (show eV ≤ g8 by rw [hg]; exact OHV.out); replace B3 := aM (bB B3.out hb); replace CV := aM (CV.out.below hb); replace HB := aM (bS HB.out hb); have B8 := aM hbox; clear hb hbox hg; have zb8_3_0 : w5.cell? ⟨g3, 0, none⟩ = some (.slice A0_0 l0_0.length c0_0) := (bC B3.out 0).trans rfl; have zb8_3_1 : w5.cell? ⟨g3, 1, none⟩ = some (.slice A0_1 l0_1.length c0_1) := (bC B3.out 1).trans rfl; have zb8_3_2 : w5.cell? ⟨g3, 2, none⟩ = some (.slice A0_2 l0_2.length c0_2) := (bC B3.out 2).trans rfl; have zb8_8_0 : w5.cell? ⟨g8, 0, none⟩ = some (.slice none 0 0) := (bC B8.out 0).trans rfl; have zb8_8_1 : w5.cell? ⟨g8, 1, none⟩ = some (.slice none 0 0) := (bC B8.out 1).trans rfl; have zb8_8_2 : w5.cell? ⟨g8, 2, none⟩ = some (.slice none 0 0) := (bC B8.out 2).trans rfl; have fr8_0 := bF B8.out 0; have fr8_1 := bF B8.out 1; have fr8_2 := bF B8.out 2) | ((with_reducible refine gate_callee (f := 21) rfl ?_); refine goesL_ (some 26) rfl rfl Try.func21 (by kernel_rfl) rfl #[.agg #[.slice A0_0 l0_0.length c0_0, .slice A0_1 l0_1.length c0_1, .slice A0_2 l0_2.length c0_2]] rfl (by (try simp only [List.map_toArray, List.map_cons, List.map_nil]); first | done | rfl) ?_; replace B3 := aM (blk_kept B3.out (fill3_kept w5 g8 (.slice VA0 Vn0 Vc0) (.slice VA1 Vn1 Vc1) (.slice VA2 Vn2 Vc2)) X3_8.out); replace CV := aM (CV.out.kept (fill3_kept w5 g8 (.slice VA0 Vn0 Vc0) (.slice VA1 Vn1 Vc1) (.slice VA2 Vn2 Vc2)) (fun k_ h1_ h2_ h3_ => by have := OLV.out; have := OHV.out; have := P3_8.out; have := QV_8.out; omega)); replace HB := aM (fill3_below HB.out GE8.out (.slice VA0 Vn0 Vc0) (.slice VA1 Vn1 Vc1) (.slice VA2 Vn2 Vc2)); replace B8 := aM (fill3_box B8.out (.slice VA0 Vn0 Vc0) (.slice VA1 Vn1 Vc1) (.slice VA2 Vn2 Vc2)); (with_reducible refine (laws_toCard.calls k _ _ l0_0 _ _ l0_1 _ _ l0_2 o m t _ (cB R0.out HB.out) N0.out (cB R1.out HB.out) N1.out (cB R2.out HB.out) N2.out E2.out).mono ?_); rintro e w6 ⟨v0, v1, v2, rfl, ho0, ho1, ho2, hb⟩; refine ⟨_, rfl, ?_⟩; obtain ⟨bX, eX, x1_, x2_, y_⟩ := CardAt.make g8 (blk_lt B8.out) (below_size HB.out) ho0 ho1 ho2; have CX := aM y_; have OLX := aM x1_; have OHX := aM x2_; clear x1_ x2_ y_; replace B3 := aM (bB B3.out hb); replace B8 := aM (bB B8.out hb); replace CV := aM (CV.out.below hb); replace HB := aM (bS HB.out hb); clear hb ho0 ho1 ho2; obtain ⟨XA0, Xn0, Xc0, XA1, Xn1, Xc1, XA2, Xn2, Xc2, f0_, f1_, f2_⟩ := CX.out.forms; subst f0_; subst f1_; subst f2_; have zcw6_3_0 : w6.cell? ⟨g3, 0, none⟩ = some (.slice A0_0 l0_0.length c0_0) := (bC B3.out 0).trans rfl; have zcw6_3_1 : w6.cell? ⟨g3, 1, none⟩ = some (.slice A0_1 l0_1.length c0_1) := (bC B3.out 1).trans rfl; have zcw6_3_2 : w6.cell? ⟨g3, 2, none⟩ = some (.slice A0_2 l0_2.length c0_2) := (bC B3.out 2).trans rfl; have zcw6_8_0 : w6.cell? ⟨g8, 0, none⟩ = some (.slice VA0 Vn0 Vc0) := (bC B8.out 0).trans rfl; have zcw6_8_1 : w6.cell? ⟨g8, 1, none⟩ = some (.slice VA1 Vn1 Vc1) := (bC B8.out 1).trans rfl; have zcw6_8_2 : w6.cell? ⟨g8, 2, none⟩ = some (.slice VA2 Vn2 Vc2) := (bC B8.out 2).trans rfl) | ((with_reducible refine gate_dst (N := 9) rfl ?_); refine box_event ?hg (N := 9) ?hd (cs := #[.slice none 0 0, .slice none 0 0, .slice none 0 0]) (t := 43) ?hr ?_; (case hd => rfl); (case hg => rfl); (case hr => first | (go_simp; done) | (go_simp; rfl)); intro g9 hg w7 hbox hb; have GE9 := aM (show w.heap.size ≤ g9 by rw [hg]; exact below_size HB.out); have P3_9 := aM (show g3 < g9 by rw [hg]; exact blk_lt B3.out); have X3_9 := aM (show ¬ g3 = g9 by have := P3_9.out; omega); have x3_9 := X3_9.out; have y3_9 := (Ne.symm x3_9); have P8_9 := aM (show g8 < g9 by rw [hg]; exact blk_lt B8.out); have X8_9 := aM (show ¬ g8 = g9 by have := P8_9.out; omega); have x8_9 := X8_9.out; have y8_9 := (Ne.symm x8_9); have QX_9 := aM (show eX ≤ g9 by rw [hg]; exact OHX.out); replace B3 := aM (bB B3.out hb); replace B8 := aM (bB B8.out hb); replace CV := aM (CV.out.below hb); replace CX := aM (CX.out.below hb); replace HB := aM (bS HB.out hb); have B9 := aM hbox; clear hb hbox hg; have zb9_3_0 : w7.cell? ⟨g3, 0, none⟩ = some (.slice A0_0 l0_0.length c0_0) := (bC B3.out 0).trans rfl; have zb9_3_1 : w7.cell? ⟨g3, 1, none⟩ = some (.slice A0_1 l0_1.length c0_1) := (bC B3.out 1).trans rfl; have zb9_3_2 : w7.cell? ⟨g3, 2, none⟩ = some (.slice A0_2 l0_2.length c0_2) := (bC B3.out 2).trans rfl; have zb9_8_0 : w7.cell? ⟨g8, 0, none⟩ = some (.slice VA0 Vn0 Vc0) := (bC B8.out 0).trans rfl; have zb9_8_1 : w7.cell? ⟨g8, 1, none⟩ = some (.slice VA1 Vn1 Vc1) := (bC B8.out 1).trans rfl; have zb9_8_2 : w7.cell? ⟨g8, 2, none⟩ = some (.slice VA2 Vn2 Vc2) := (bC B8.out 2).trans rfl; have zb9_9_0 : w7.cell? ⟨g9, 0, none⟩ = some (.slice none 0 0) := (bC B9.out 0).trans rfl; have zb9_9_1 : w7.cell? ⟨g9, 1, none⟩ = some (.slice none 0 0) := (bC B9.out 1).trans rfl; have zb9_9_2 : w7.cell? ⟨g9, 2, none⟩ = some (.slice none 0 0) := (bC B9.out 2).trans rfl; have fr9_0 := bF B9.out 0; have fr9_1 := bF B9.out 1; have fr9_2 := bF B9.out 2) | ((with_reducible refine gate_callee (f := 22) rfl ?_); refine goesL_ (some 30) rfl rfl Try.func22 (by kernel_rfl) rfl #[.agg #[.slice XA0 Xn0 Xc0, .slice XA1 Xn1 Xc1, .slice XA2 Xn2 Xc2], .int .i64 a1, .bool a2] rfl (by (try simp only [List.map_toArray, List.map_cons, List.map_nil]); first | done | rfl) ?_; replace B3 := aM (blk_kept B3.out (fill3_kept w7 g9 (.slice XA0 Xn0 Xc0) (.slice XA1 Xn1 Xc1) (.slice XA2 Xn2 Xc2)) X3_9.out); replace B8 := aM (blk_kept B8.out (fill3_kept w7 g9 (.slice XA0 Xn0 Xc0) (.slice XA1 Xn1 Xc1) (.slice XA2 Xn2 Xc2)) X8_9.out); replace CV := aM (CV.out.kept (fill3_kept w7 g9 (.slice XA0 Xn0 Xc0) (.slice XA1 Xn1 Xc1) (.slice XA2 Xn2 Xc2)) (fun k_ h1_ h2_ h3_ => by have := OLV.out; have := OHV.out; have := P3_8.out; have := QV_8.out; have := OLX.out; have := OHX.out; have := P3_9.out; have := P8_9.out; have := QX_9.out; omega)); replace CX := aM (CX.out.kept (fill3_kept w7 g9 (.slice XA0 Xn0 Xc0) (.slice XA1 Xn1 Xc1) (.slice XA2 Xn2 Xc2)) (fun k_ h1_ h2_ h3_ => by have := OLV.out; have := OHV.out; have := P3_8.out; have := QV_8.out; have := OLX.out; have := OHX.out; have := P3_9.out; have := P8_9.out; have := QX_9.out; omega)); replace HB := aM (fill3_below HB.out GE9.out (.slice XA0 Xn0 Xc0) (.slice XA1 Xn1 Xc1) (.slice XA2 Xn2 Xc2)); replace B9 := aM (fill3_box B9.out (.slice XA0 Xn0 Xc0) (.slice XA1 Xn1 Xc1) (.slice XA2 Xn2 Xc2)); (with_reducible refine (impl_gate k (a1 := a1) (a2 := a2) g9 (blk_lt B9.out) (below_size HB.out) CX.out E4.out).mono ?_); rintro e w8 ⟨v0, v1, v2, bG, eG, rfl, hb, x1_, x2_, y_⟩; refine ⟨_, rfl, ?_⟩; replace B3 := aM (bB B3.out hb); replace B8 := aM (bB B8.out hb); replace B9 := aM (bB B9.out hb); replace CV := aM (CV.out.below hb); replace CX := aM (CX.out.below hb); replace HB := aM (bS HB.out hb); have CG := aM y_; have OLG := aM x1_; have OHG := aM x2_; clear x1_ x2_ y_; clear hb; obtain ⟨GA0, Gn0, Gc0, GA1, Gn1, Gc1, GA2, Gn2, Gc2, f0_, f1_, f2_⟩ := CG.out.forms; subst f0_; subst f1_; subst f2_; have zcw8_3_0 : w8.cell? ⟨g3, 0, none⟩ = some (.slice A0_0 l0_0.length c0_0) := (bC B3.out 0).trans rfl; have zcw8_3_1 : w8.cell? ⟨g3, 1, none⟩ = some (.slice A0_1 l0_1.length c0_1) := (bC B3.out 1).trans rfl; have zcw8_3_2 : w8.cell? ⟨g3, 2, none⟩ = some (.slice A0_2 l0_2.length c0_2) := (bC B3.out 2).trans rfl; have zcw8_8_0 : w8.cell? ⟨g8, 0, none⟩ = some (.slice VA0 Vn0 Vc0) := (bC B8.out 0).trans rfl; have zcw8_8_1 : w8.cell? ⟨g8, 1, none⟩ = some (.slice VA1 Vn1 Vc1) := (bC B8.out 1).trans rfl; have zcw8_8_2 : w8.cell? ⟨g8, 2, none⟩ = some (.slice VA2 Vn2 Vc2) := (bC B8.out 2).trans rfl; have zcw8_9_0 : w8.cell? ⟨g9, 0, none⟩ = some (.slice XA0 Xn0 Xc0) := (bC B9.out 0).trans rfl; have zcw8_9_1 : w8.cell? ⟨g9, 1, none⟩ = some (.slice XA1 Xn1 Xc1) := (bC B9.out 1).trans rfl; have zcw8_9_2 : w8.cell? ⟨g9, 2, none⟩ = some (.slice XA2 Xn2 Xc2) := (bC B9.out 2).trans rfl) | ((with_reducible refine gate_dst (N := 10) rfl ?_); refine box_event ?hg (N := 10) ?hd (cs := #[.slice none 0 0, .slice none 0 0, .slice none 0 0]) (t := 43) ?hr ?_; (case hd => rfl); (case hg => rfl); (case hr => first | (go_simp; done) | (go_simp; rfl)); intro g10 hg w9 hbox hb; have GE10 := aM (show w.heap.size ≤ g10 by rw [hg]; exact below_size HB.out); have P3_10 := aM (show g3 < g10 by rw [hg]; exact blk_lt B3.out); have X3_10 := aM (show ¬ g3 = g10 by have := P3_10.out; omega); have x3_10 := X3_10.out; have y3_10 := (Ne.symm x3_10); have P8_10 := aM (show g8 < g10 by rw [hg]; exact blk_lt B8.out); have X8_10 := aM (show ¬ g8 = g10 by have := P8_10.out; omega); have x8_10 := X8_10.out; have y8_10 := (Ne.symm x8_10); have P9_10 := aM (show g9 < g10 by rw [hg]; exact blk_lt B9.out); have X9_10 := aM (show ¬ g9 = g10 by have := P9_10.out; omega); have x9_10 := X9_10.out; have y9_10 := (Ne.symm x9_10); have QG_10 := aM (show eG ≤ g10 by rw [hg]; exact OHG.out); replace B3 := aM (bB B3.out hb); replace B8 := aM (bB B8.out hb); replace B9 := aM (bB B9.out hb); replace CV := aM (CV.out.below hb); replace CX := aM (CX.out.below hb); replace CG := aM (CG.out.below hb); replace HB := aM (bS HB.out hb); have B10 := aM hbox; clear hb hbox hg; have zb10_3_0 : w9.cell? ⟨g3, 0, none⟩ = some (.slice A0_0 l0_0.length c0_0) := (bC B3.out 0).trans rfl; have zb10_3_1 : w9.cell? ⟨g3, 1, none⟩ = some (.slice A0_1 l0_1.length c0_1) := (bC B3.out 1).trans rfl; have zb10_3_2 : w9.cell? ⟨g3, 2, none⟩ = some (.slice A0_2 l0_2.length c0_2) := (bC B3.out 2).trans rfl; have zb10_8_0 : w9.cell? ⟨g8, 0, none⟩ = some (.slice VA0 Vn0 Vc0) := (bC B8.out 0).trans rfl; have zb10_8_1 : w9.cell? ⟨g8, 1, none⟩ = some (.slice VA1 Vn1 Vc1) := (bC B8.out 1).trans rfl; have zb10_8_2 : w9.cell? ⟨g8, 2, none⟩ = some (.slice VA2 Vn2 Vc2) := (bC B8.out 2).trans rfl; have zb10_9_0 : w9.cell? ⟨g9, 0, none⟩ = some (.slice XA0 Xn0 Xc0) := (bC B9.out 0).trans rfl; have zb10_9_1 : w9.cell? ⟨g9, 1, none⟩ = some (.slice XA1 Xn1 Xc1) := (bC B9.out 1).trans rfl; have zb10_9_2 : w9.cell? ⟨g9, 2, none⟩ = some (.slice XA2 Xn2 Xc2) := (bC B9.out 2).trans rfl; have zb10_10_0 : w9.cell? ⟨g10, 0, none⟩ = some (.slice none 0 0) := (bC B10.out 0).trans rfl; have zb10_10_1 : w9.cell? ⟨g10, 1, none⟩ = some (.slice none 0 0) := (bC B10.out 1).trans rfl; have zb10_10_2 : w9.cell? ⟨g10, 2, none⟩ = some (.slice none 0 0) := (bC B10.out 2).trans rfl; have fr10_0 := bF B10.out 0; have fr10_1 := bF B10.out 1; have fr10_2 := bF B10.out 2) | ((with_reducible refine gate_callee (f := 23) rfl ?_); refine goesL_ (some 33) rfl rfl Try.func23 (by kernel_rfl) rfl #[.agg #[.slice GA0 Gn0 Gc0, .slice GA1 Gn1 Gc1, .slice GA2 Gn2 Gc2], .agg #[.slice VA0 Vn0 Vc0, .slice VA1 Vn1 Vc1, .slice VA2 Vn2 Vc2]] rfl (by (try simp only [List.map_toArray, List.map_cons, List.map_nil]); first | done | rfl) ?_; replace B3 := aM (blk_kept B3.out (fill3_kept w9 g10 (.slice GA0 Gn0 Gc0) (.slice GA1 Gn1 Gc1) (.slice GA2 Gn2 Gc2)) X3_10.out); replace B8 := aM (blk_kept B8.out (fill3_kept w9 g10 (.slice GA0 Gn0 Gc0) (.slice GA1 Gn1 Gc1) (.slice GA2 Gn2 Gc2)) X8_10.out); replace B9 := aM (blk_kept B9.out (fill3_kept w9 g10 (.slice GA0 Gn0 Gc0) (.slice GA1 Gn1 Gc1) (.slice GA2 Gn2 Gc2)) X9_10.out); replace CV := aM (CV.out.kept (fill3_kept w9 g10 (.slice GA0 Gn0 Gc0) (.slice GA1 Gn1 Gc1) (.slice GA2 Gn2 Gc2)) (fun k_ h1_ h2_ h3_ => by have := OLV.out; have := OHV.out; have := P3_8.out; have := QV_8.out; have := OLX.out; have := OHX.out; have := P3_9.out; have := P8_9.out; have := QX_9.out; have := OLG.out; have := OHG.out; have := P3_10.out; have := P8_10.out; have := P9_10.out; have := QG_10.out; omega)); replace CX := aM (CX.out.kept (fill3_kept w9 g10 (.slice GA0 Gn0 Gc0) (.slice GA1 Gn1 Gc1) (.slice GA2 Gn2 Gc2)) (fun k_ h1_ h2_ h3_ => by have := OLV.out; have := OHV.out; have := P3_8.out; have := QV_8.out; have := OLX.out; have := OHX.out; have := P3_9.out; have := P8_9.out; have := QX_9.out; have := OLG.out; have := OHG.out; have := P3_10.out; have := P8_10.out; have := P9_10.out; have := QG_10.out; omega)); replace CG := aM (CG.out.kept (fill3_kept w9 g10 (.slice GA0 Gn0 Gc0) (.slice GA1 Gn1 Gc1) (.slice GA2 Gn2 Gc2)) (fun k_ h1_ h2_ h3_ => by have := OLV.out; have := OHV.out; have := P3_8.out; have := QV_8.out; have := OLX.out; have := OHX.out; have := P3_9.out; have := P8_9.out; have := QX_9.out; have := OLG.out; have := OHG.out; have := P3_10.out; have := P8_10.out; have := P9_10.out; have := QG_10.out; omega)); replace HB := aM (fill3_below HB.out GE10.out (.slice GA0 Gn0 Gc0) (.slice GA1 Gn1 Gc1) (.slice GA2 Gn2 Gc2)); replace B10 := aM (fill3_box B10.out (.slice GA0 Gn0 Gc0) (.slice GA1 Gn1 Gc1) (.slice GA2 Gn2 Gc2)); (with_reducible refine (eq_card k CG.out CV.out E5.out).mono ?_); rintro e w10 ⟨rfl, hb⟩; refine ⟨_, rfl, ?_⟩; replace B3 := aM (bB B3.out hb); replace B8 := aM (bB B8.out hb); replace B9 := aM (bB B9.out hb); replace B10 := aM (bB B10.out hb); replace CV := aM (CV.out.below hb); replace CX := aM (CX.out.below hb); replace CG := aM (CG.out.below hb); replace HB := aM (bS HB.out hb); clear hb; have zcw10_3_0 : w10.cell? ⟨g3, 0, none⟩ = some (.slice A0_0 l0_0.length c0_0) := (bC B3.out 0).trans rfl; have zcw10_3_1 : w10.cell? ⟨g3, 1, none⟩ = some (.slice A0_1 l0_1.length c0_1) := (bC B3.out 1).trans rfl; have zcw10_3_2 : w10.cell? ⟨g3, 2, none⟩ = some (.slice A0_2 l0_2.length c0_2) := (bC B3.out 2).trans rfl; have zcw10_8_0 : w10.cell? ⟨g8, 0, none⟩ = some (.slice VA0 Vn0 Vc0) := (bC B8.out 0).trans rfl; have zcw10_8_1 : w10.cell? ⟨g8, 1, none⟩ = some (.slice VA1 Vn1 Vc1) := (bC B8.out 1).trans rfl; have zcw10_8_2 : w10.cell? ⟨g8, 2, none⟩ = some (.slice VA2 Vn2 Vc2) := (bC B8.out 2).trans rfl; have zcw10_9_0 : w10.cell? ⟨g9, 0, none⟩ = some (.slice XA0 Xn0 Xc0) := (bC B9.out 0).trans rfl; have zcw10_9_1 : w10.cell? ⟨g9, 1, none⟩ = some (.slice XA1 Xn1 Xc1) := (bC B9.out 1).trans rfl; have zcw10_9_2 : w10.cell? ⟨g9, 2, none⟩ = some (.slice XA2 Xn2 Xc2) := (bC B9.out 2).trans rfl; have zcw10_10_0 : w10.cell? ⟨g10, 0, none⟩ = some (.slice GA0 Gn0 Gc0) := (bC B10.out 0).trans rfl; have zcw10_10_1 : w10.cell? ⟨g10, 1, none⟩ = some (.slice GA1 Gn1 Gc1) := (bC B10.out 1).trans rfl; have zcw10_10_2 : w10.cell? ⟨g10, 2, none⟩ = some (.slice GA2 Gn2 Gc2) := (bC B10.out 2).trans rfl))
 replace B3 := aM (blk_drew B3.out)
 replace B8 := aM (blk_drew B8.out)
 replace B9 := aM (blk_drew B9.out)
 replace B10 := aM (blk_drew B10.out)
 replace CV := aM (CV.out.kept (Kept.drew (Kept.refl w10 (fun _ => False))) (fun _ _ _ h_ => h_))
 replace CX := aM (CX.out.kept (Kept.drew (Kept.refl w10 (fun _ => False))) (fun _ _ _ h_ => h_))
 replace CG := aM (CG.out.kept (Kept.drew (Kept.refl w10 (fun _ => False))) (fun _ _ _ h_ => h_))
 replace HB := aM (below_drew1 HB.out)
 refine start_ (n := 5) (S := fun w' => w'.cell? ⟨g9, 0, none⟩ = some (.slice XA0 Xn0 Xc0) ∧ w'.cell? ⟨g9, 1, none⟩ = some (.slice XA1 Xn1 Xc1) ∧ w'.cell? ⟨g9, 2, none⟩ = some (.slice XA2 Xn2 Xc2) ∧ w'.cell? ⟨g3, 0, none⟩ = some (.slice A0_0 l0_0.length c0_0) ∧ w'.cell? ⟨g3, 1, none⟩ = some (.slice A0_1 l0_1.length c0_1) ∧ w'.cell? ⟨g3, 2, none⟩ = some (.slice A0_2 l0_2.length c0_2)) (ds := []) (dn 5 0) (by kernel_rfl) rfl rfl ⟨(bC B9.out 0).trans rfl, (bC B9.out 1).trans rfl, (bC B9.out 2).trans rfl, (bC B3.out 0).trans rfl, (bC B3.out 1).trans rfl, (bC B3.out 2).trans rfl⟩ (fun hHeld => ?_)
 generalize w10.drew = wd at B3 B8 B9 B10 CV CX CG HB hHeld ⊢
 refine take_ (i := 0) (N := some 35) (v := ?_) (a' := ?_) #[Y,U,U,U,U] rfl rfl (by kernel_rfl) (fun _ _ _ h => h) (Or.inl ⟨by rfl, ?_⟩) hHeld ?_ ?_
 rotate_left
 ·rintro w' ⟨s0, s1, s2, s3, s4, s5⟩
  go_simp
  with_reducible rfl
 rotate_left
 ·simp only [Act.put, sA, sZ, sS, i64_w, i32_w]
  rfl
 refine take_ (i := 1) (N := some 36) (v := ?_) (a' := ?_) #[Y,Y,U,U,U] rfl rfl (by kernel_rfl) (fun _ _ _ h => h) (Or.inl ⟨by rfl, ?_⟩) hHeld ?_ ?_
 rotate_left
 ·rintro w' ⟨s0, s1, s2, s3, s4, s5⟩
  go_simp
  with_reducible rfl
 rotate_left
 ·simp only [Act.put, sA, sZ, sS, i64_w, i32_w]
  rfl
 refine one_ (i := 2) (N := some 37) #[Y,Y,Y,U,U] rfl rfl (by kernel_rfl) (by decide) (fun K hK => ?_)
 refine goes_ Try.func21 (by kernel_rfl) rfl #[.agg #[.slice A0_0 l0_0.length c0_0, .slice A0_1 l0_1.length c0_1, .slice A0_2 l0_2.length c0_2]] (by rfl) rfl rfl (by (try simp only [List.map_toArray, List.map_cons, List.map_nil]); first | done | rfl) ?_
 with_reducible refine (laws_toCard.calls k _ _ l0_0 _ _ l0_1 _ _ l0_2 o m t _ (cB R0.out HB.out) N0.out (cB R1.out HB.out) N1.out (cB R2.out HB.out) N2.out E2.out).mono ?_
 rintro e w11 ⟨v0, v1, v2, rfl, ho0, ho1, ho2, hb⟩
 refine ⟨_, rfl, ?_⟩
 obtain ⟨bY, eY, x1_, x2_, y_⟩ := CardAt.make g10 (blk_lt B10.out) (below_size HB.out) ho0 ho1 ho2
 have CY := aM y_
 have OLY := aM x1_
 have OHY := aM x2_
 clear x1_ x2_ y_
 replace B3 := aM (bB B3.out hb)
 replace B8 := aM (bB B8.out hb)
 replace B9 := aM (bB B9.out hb)
 replace B10 := aM (bB B10.out hb)
 replace CV := aM (CV.out.below hb)
 replace CX := aM (CX.out.below hb)
 replace CG := aM (CG.out.below hb)
 replace HB := aM (bS HB.out hb)
 clear hb ho0 ho1 ho2
 obtain ⟨YA0, Yn0, Yc0, YA1, Yn1, Yc1, YA2, Yn2, Yc2, f0_, f1_, f2_⟩ := CY.out.forms
 subst f0_
 subst f1_
 subst f2_
 refine hK.out _ _ ⟨(bC B9.out 0).trans rfl, (bC B9.out 1).trans rfl, (bC B9.out 2).trans rfl, (bC B3.out 0).trans rfl, (bC B3.out 1).trans rfl, (bC B3.out 2).trans rfl⟩ (fun hHeld => ?_)
 clear hK K
 refine norm_ (a' := ?_) ?_ ?_
 rotate_left
 ·show Act.put _ (some 37) _ = _
  simp only [Act.put, sA, sZ, sS, i64_w, i32_w]
  rfl
 refine one_ (i := 3) (N := some 38) #[Y,Y,Y,Y,U] rfl rfl (by kernel_rfl) (by decide) (fun K hK => ?_)
 refine goes_ Try.func23 (by kernel_rfl) rfl #[.agg #[.slice XA0 Xn0 Xc0, .slice XA1 Xn1 Xc1, .slice XA2 Xn2 Xc2], .agg #[.slice YA0 Yn0 Yc0, .slice YA1 Yn1 Yc1, .slice YA2 Yn2 Yc2]] (by rfl) rfl rfl (by (try simp only [List.map_toArray, List.map_cons, List.map_nil]); first | done | rfl) ?_
 with_reducible refine (eq_card k CX.out CY.out E6.out).mono ?_
 rintro e w12 ⟨rfl, hb⟩
 refine ⟨_, rfl, ?_⟩
 clear CY OLY OHY
 replace B3 := aM (bB B3.out hb)
 replace B8 := aM (bB B8.out hb)
 replace B9 := aM (bB B9.out hb)
 replace B10 := aM (bB B10.out hb)
 replace CV := aM (CV.out.below hb)
 replace CX := aM (CX.out.below hb)
 replace CG := aM (CG.out.below hb)
 replace HB := aM (bS HB.out hb)
 clear hb
 refine hK.out _ _ ⟨(bC B9.out 0).trans rfl, (bC B9.out 1).trans rfl, (bC B9.out 2).trans rfl, (bC B3.out 0).trans rfl, (bC B3.out 1).trans rfl, (bC B3.out 2).trans rfl⟩ (fun hHeld => ?_)
 clear hK K
 refine norm_ (a' := ?_) ?_ ?_
 rotate_left
 ·show Act.put _ (some 38) _ = _
  simp only [Act.put, sA, sZ, sS, i64_w, i32_w]
  rfl
 refine pure_ (i := 4) (N := some 39) (v := ?_) (a' := ?_) #[Y,Y,Y,Y,Y] rfl rfl (by kernel_rfl) (fun _ _ _ h => h) (Or.inl ⟨by rfl, ?_⟩) ?_ ?_
 rotate_left
 ·intro w'
  go_simp
  with_reducible rfl
 rotate_left
 ·simp only [Act.put, sA, sZ, sS, i64_w, i32_w]
  rfl
 refine done_ (by kernel_rfl) ?_
 have zr_3_0 : w12.cell? ⟨g3, 0, none⟩ = some (.slice A0_0 l0_0.length c0_0) := (bC B3.out 0).trans rfl
 have zr_3_1 : w12.cell? ⟨g3, 1, none⟩ = some (.slice A0_1 l0_1.length c0_1) := (bC B3.out 1).trans rfl
 have zr_3_2 : w12.cell? ⟨g3, 2, none⟩ = some (.slice A0_2 l0_2.length c0_2) := (bC B3.out 2).trans rfl
 have zr_8_0 : w12.cell? ⟨g8, 0, none⟩ = some (.slice VA0 Vn0 Vc0) := (bC B8.out 0).trans rfl
 have zr_8_1 : w12.cell? ⟨g8, 1, none⟩ = some (.slice VA1 Vn1 Vc1) := (bC B8.out 1).trans rfl
 have zr_8_2 : w12.cell? ⟨g8, 2, none⟩ = some (.slice VA2 Vn2 Vc2) := (bC B8.out 2).trans rfl
 have zr_9_0 : w12.cell? ⟨g9, 0, none⟩ = some (.slice XA0 Xn0 Xc0) := (bC B9.out 0).trans rfl
 have zr_9_1 : w12.cell? ⟨g9, 1, none⟩ = some (.slice XA1 Xn1 Xc1) := (bC B9.out 1).trans rfl
 have zr_9_2 : w12.cell? ⟨g9, 2, none⟩ = some (.slice XA2 Xn2 Xc2) := (bC B9.out 2).trans rfl
 have zr_10_0 : w12.cell? ⟨g10, 0, none⟩ = some (.slice GA0 Gn0 Gc0) := (bC B10.out 0).trans rfl
 have zr_10_1 : w12.cell? ⟨g10, 1, none⟩ = some (.slice GA1 Gn1 Gc1) := (bC B10.out 1).trans rfl
 have zr_10_2 : w12.cell? ⟨g10, 2, none⟩ = some (.slice GA2 Gn2 Gc2) := (bC B10.out 2).trans rfl
 go_wp2_with (first | ((with_reducible refine gate_callee (f := 24) rfl ?_); refine goesL_ (some 42) rfl rfl Try.func24 (by kernel_rfl) rfl #[.agg #[.slice XA0 Xn0 Xc0, .slice XA1 Xn1 Xc1, .slice XA2 Xn2 Xc2], .int .i64 1] rfl (by (try simp only [List.map_toArray, List.map_cons, List.map_nil]); first | done | rfl) ?_; (with_reducible refine (laws_markCard.calls k o m t 1 k1 o3 m3 t3 w _ HB.out CX.out (Nat.le_trans (show eX ≤ g9 from by have := OLV.out; have := OHV.out; have := P3_8.out; have := QV_8.out; have := OLX.out; have := OHX.out; have := P3_9.out; have := P8_9.out; have := QX_9.out; have := OLG.out; have := OHG.out; have := P3_10.out; have := P8_10.out; have := P9_10.out; have := QG_10.out; omega) (Nat.le_of_lt (blk_lt B9.out))) E7.out).mono ?_); rintro e w13 ⟨rfl, hC_, hB_, hk_⟩; refine ⟨_, rfl, ?_⟩; replace CX := aM hC_; replace HB := aM hB_; replace CV := aM (CV.out.kept hk_ (fun k_ h1_ h2_ h3_ => by have := OLV.out; have := OHV.out; have := P3_8.out; have := QV_8.out; have := OLX.out; have := OHX.out; have := P3_9.out; have := P8_9.out; have := QX_9.out; have := OLG.out; have := OHG.out; have := P3_10.out; have := P8_10.out; have := P9_10.out; have := QG_10.out; omega)); replace CG := aM (CG.out.kept hk_ (fun k_ h1_ h2_ h3_ => by have := OLV.out; have := OHV.out; have := P3_8.out; have := QV_8.out; have := OLX.out; have := OHX.out; have := P3_9.out; have := P8_9.out; have := QX_9.out; have := OLG.out; have := OHG.out; have := P3_10.out; have := P8_10.out; have := P9_10.out; have := QG_10.out; omega)); replace B3 := aM (blk_kept B3.out hk_ (fun h3_ => by have := OLV.out; have := OHV.out; have := P3_8.out; have := QV_8.out; have := OLX.out; have := OHX.out; have := P3_9.out; have := P8_9.out; have := QX_9.out; have := OLG.out; have := OHG.out; have := P3_10.out; have := P8_10.out; have := P9_10.out; have := QG_10.out; omega)); replace B8 := aM (blk_kept B8.out hk_ (fun h3_ => by have := OLV.out; have := OHV.out; have := P3_8.out; have := QV_8.out; have := OLX.out; have := OHX.out; have := P3_9.out; have := P8_9.out; have := QX_9.out; have := OLG.out; have := OHG.out; have := P3_10.out; have := P8_10.out; have := P9_10.out; have := QG_10.out; omega)); replace B9 := aM (blk_kept B9.out hk_ (fun h3_ => by have := OLV.out; have := OHV.out; have := P3_8.out; have := QV_8.out; have := OLX.out; have := OHX.out; have := P3_9.out; have := P8_9.out; have := QX_9.out; have := OLG.out; have := OHG.out; have := P3_10.out; have := P8_10.out; have := P9_10.out; have := QG_10.out; omega)); replace B10 := aM (blk_kept B10.out hk_ (fun h3_ => by have := OLV.out; have := OHV.out; have := P3_8.out; have := QV_8.out; have := OLX.out; have := OHX.out; have := P3_9.out; have := P8_9.out; have := QX_9.out; have := OLG.out; have := OHG.out; have := P3_10.out; have := P8_10.out; have := P9_10.out; have := QG_10.out; omega)); clear hk_ hC_ hB_; have zcw13_3_0 : w13.cell? ⟨g3, 0, none⟩ = some (.slice A0_0 l0_0.length c0_0) := (bC B3.out 0).trans rfl; have zcw13_3_1 : w13.cell? ⟨g3, 1, none⟩ = some (.slice A0_1 l0_1.length c0_1) := (bC B3.out 1).trans rfl; have zcw13_3_2 : w13.cell? ⟨g3, 2, none⟩ = some (.slice A0_2 l0_2.length c0_2) := (bC B3.out 2).trans rfl; have zcw13_8_0 : w13.cell? ⟨g8, 0, none⟩ = some (.slice VA0 Vn0 Vc0) := (bC B8.out 0).trans rfl; have zcw13_8_1 : w13.cell? ⟨g8, 1, none⟩ = some (.slice VA1 Vn1 Vc1) := (bC B8.out 1).trans rfl; have zcw13_8_2 : w13.cell? ⟨g8, 2, none⟩ = some (.slice VA2 Vn2 Vc2) := (bC B8.out 2).trans rfl; have zcw13_9_0 : w13.cell? ⟨g9, 0, none⟩ = some (.slice XA0 Xn0 Xc0) := (bC B9.out 0).trans rfl; have zcw13_9_1 : w13.cell? ⟨g9, 1, none⟩ = some (.slice XA1 Xn1 Xc1) := (bC B9.out 1).trans rfl; have zcw13_9_2 : w13.cell? ⟨g9, 2, none⟩ = some (.slice XA2 Xn2 Xc2) := (bC B9.out 2).trans rfl; have zcw13_10_0 : w13.cell? ⟨g10, 0, none⟩ = some (.slice GA0 Gn0 Gc0) := (bC B10.out 0).trans rfl; have zcw13_10_1 : w13.cell? ⟨g10, 1, none⟩ = some (.slice GA1 Gn1 Gc1) := (bC B10.out 1).trans rfl; have zcw13_10_2 : w13.cell? ⟨g10, 2, none⟩ = some (.slice GA2 Gn2 Gc2) := (bC B10.out 2).trans rfl) | (go_at_call 23; (with_reducible refine (eq_card k CG.out CV.out E5.out).mono ?_); rintro e w14 ⟨rfl, hb⟩; replace B3 := aM (bB B3.out hb); replace B8 := aM (bB B8.out hb); replace B9 := aM (bB B9.out hb); replace B10 := aM (bB B10.out hb); replace CV := aM (CV.out.below hb); replace CX := aM (CX.out.below hb); replace CG := aM (CG.out.below hb); replace HB := aM (bS HB.out hb); clear hb; have zcw14_3_0 : w14.cell? ⟨g3, 0, none⟩ = some (.slice A0_0 l0_0.length c0_0) := (bC B3.out 0).trans rfl; have zcw14_3_1 : w14.cell? ⟨g3, 1, none⟩ = some (.slice A0_1 l0_1.length c0_1) := (bC B3.out 1).trans rfl; have zcw14_3_2 : w14.cell? ⟨g3, 2, none⟩ = some (.slice A0_2 l0_2.length c0_2) := (bC B3.out 2).trans rfl; have zcw14_8_0 : w14.cell? ⟨g8, 0, none⟩ = some (.slice VA0 Vn0 Vc0) := (bC B8.out 0).trans rfl; have zcw14_8_1 : w14.cell? ⟨g8, 1, none⟩ = some (.slice VA1 Vn1 Vc1) := (bC B8.out 1).trans rfl; have zcw14_8_2 : w14.cell? ⟨g8, 2, none⟩ = some (.slice VA2 Vn2 Vc2) := (bC B8.out 2).trans rfl; have zcw14_9_0 : w14.cell? ⟨g9, 0, none⟩ = some (.slice XA0 Xn0 Xc0) := (bC B9.out 0).trans rfl; have zcw14_9_1 : w14.cell? ⟨g9, 1, none⟩ = some (.slice XA1 Xn1 Xc1) := (bC B9.out 1).trans rfl; have zcw14_9_2 : w14.cell? ⟨g9, 2, none⟩ = some (.slice XA2 Xn2 Xc2) := (bC B9.out 2).trans rfl; have zcw14_10_0 : w14.cell? ⟨g10, 0, none⟩ = some (.slice GA0 Gn0 Gc0) := (bC B10.out 0).trans rfl; have zcw14_10_1 : w14.cell? ⟨g10, 1, none⟩ = some (.slice GA1 Gn1 Gc1) := (bC B10.out 1).trans rfl; have zcw14_10_2 : w14.cell? ⟨g10, 2, none⟩ = some (.slice GA2 Gn2 Gc2) := (bC B10.out 2).trans rfl) | ((with_reducible refine gate_callee (f := 24) rfl ?_); refine goesL_ (some 53) rfl rfl Try.func24 (by kernel_rfl) rfl #[.agg #[.slice GA0 Gn0 Gc0, .slice GA1 Gn1 Gc1, .slice GA2 Gn2 Gc2], .int .i64 1] rfl (by (try simp only [List.map_toArray, List.map_cons, List.map_nil]); first | done | rfl) ?_; (with_reducible refine (laws_markCard.calls k o2 m2 t2 1 q o4 m4 t4 w _ HB.out CG.out (Nat.le_trans (show eG ≤ g10 from by have := OLV.out; have := OHV.out; have := P3_8.out; have := QV_8.out; have := P3_9.out; have := P8_9.out; have := OLG.out; have := OHG.out; have := P3_10.out; have := P8_10.out; have := P9_10.out; have := QG_10.out; omega) (Nat.le_of_lt (blk_lt B10.out))) E8.out).mono ?_); rintro e w15 ⟨rfl, hC_, hB_, hk_⟩; refine ⟨_, rfl, ?_⟩; replace CG := aM hC_; replace HB := aM hB_; replace CV := aM (CV.out.kept hk_ (fun k_ h1_ h2_ h3_ => by have := OLV.out; have := OHV.out; have := P3_8.out; have := QV_8.out; have := P3_9.out; have := P8_9.out; have := OLG.out; have := OHG.out; have := P3_10.out; have := P8_10.out; have := P9_10.out; have := QG_10.out; omega)); replace B3 := aM (blk_kept B3.out hk_ (fun h3_ => by have := OLV.out; have := OHV.out; have := P3_8.out; have := QV_8.out; have := P3_9.out; have := P8_9.out; have := OLG.out; have := OHG.out; have := P3_10.out; have := P8_10.out; have := P9_10.out; have := QG_10.out; omega)); replace B8 := aM (blk_kept B8.out hk_ (fun h3_ => by have := OLV.out; have := OHV.out; have := P3_8.out; have := QV_8.out; have := P3_9.out; have := P8_9.out; have := OLG.out; have := OHG.out; have := P3_10.out; have := P8_10.out; have := P9_10.out; have := QG_10.out; omega)); replace B9 := aM (blk_kept B9.out hk_ (fun h3_ => by have := OLV.out; have := OHV.out; have := P3_8.out; have := QV_8.out; have := P3_9.out; have := P8_9.out; have := OLG.out; have := OHG.out; have := P3_10.out; have := P8_10.out; have := P9_10.out; have := QG_10.out; omega)); replace B10 := aM (blk_kept B10.out hk_ (fun h3_ => by have := OLV.out; have := OHV.out; have := P3_8.out; have := QV_8.out; have := P3_9.out; have := P8_9.out; have := OLG.out; have := OHG.out; have := P3_10.out; have := P8_10.out; have := P9_10.out; have := QG_10.out; omega)); clear hk_ hC_ hB_; have zcw15_3_0 : w15.cell? ⟨g3, 0, none⟩ = some (.slice A0_0 l0_0.length c0_0) := (bC B3.out 0).trans rfl; have zcw15_3_1 : w15.cell? ⟨g3, 1, none⟩ = some (.slice A0_1 l0_1.length c0_1) := (bC B3.out 1).trans rfl; have zcw15_3_2 : w15.cell? ⟨g3, 2, none⟩ = some (.slice A0_2 l0_2.length c0_2) := (bC B3.out 2).trans rfl; have zcw15_8_0 : w15.cell? ⟨g8, 0, none⟩ = some (.slice VA0 Vn0 Vc0) := (bC B8.out 0).trans rfl; have zcw15_8_1 : w15.cell? ⟨g8, 1, none⟩ = some (.slice VA1 Vn1 Vc1) := (bC B8.out 1).trans rfl; have zcw15_8_2 : w15.cell? ⟨g8, 2, none⟩ = some (.slice VA2 Vn2 Vc2) := (bC B8.out 2).trans rfl; have zcw15_9_0 : w15.cell? ⟨g9, 0, none⟩ = some (.slice XA0 Xn0 Xc0) := (bC B9.out 0).trans rfl; have zcw15_9_1 : w15.cell? ⟨g9, 1, none⟩ = some (.slice XA1 Xn1 Xc1) := (bC B9.out 1).trans rfl; have zcw15_9_2 : w15.cell? ⟨g9, 2, none⟩ = some (.slice XA2 Xn2 Xc2) := (bC B9.out 2).trans rfl; have zcw15_10_0 : w15.cell? ⟨g10, 0, none⟩ = some (.slice GA0 Gn0 Gc0) := (bC B10.out 0).trans rfl; have zcw15_10_1 : w15.cell? ⟨g10, 1, none⟩ = some (.slice GA1 Gn1 Gc1) := (bC B10.out 1).trans rfl; have zcw15_10_2 : w15.cell? ⟨g10, 2, none⟩ = some (.slice GA2 Gn2 Gc2) := (bC B10.out 2).trans rfl) | ((with_reducible refine gate_callee (f := 25) rfl ?_); refine goesL_ (some 56) rfl rfl Try.func25 (by kernel_rfl) rfl #[.agg #[.slice GA0 Gn0 Gc0, .slice GA1 Gn1 Gc1, .slice GA2 Gn2 Gc2], .int .i64 1] rfl (by (try simp only [List.map_toArray, List.map_cons, List.map_nil]); first | done | rfl) ?_; (with_reducible refine (held_card k CG.out E9.out).mono ?_); rintro e w16 ⟨rfl, hb⟩; refine ⟨_, rfl, ?_⟩; replace B3 := aM (bB B3.out hb); replace B8 := aM (bB B8.out hb); replace B9 := aM (bB B9.out hb); replace B10 := aM (bB B10.out hb); replace CV := aM (CV.out.below hb); replace CG := aM (CG.out.below hb); replace HB := aM (bS HB.out hb); clear hb; have zcw16_3_0 : w16.cell? ⟨g3, 0, none⟩ = some (.slice A0_0 l0_0.length c0_0) := (bC B3.out 0).trans rfl; have zcw16_3_1 : w16.cell? ⟨g3, 1, none⟩ = some (.slice A0_1 l0_1.length c0_1) := (bC B3.out 1).trans rfl; have zcw16_3_2 : w16.cell? ⟨g3, 2, none⟩ = some (.slice A0_2 l0_2.length c0_2) := (bC B3.out 2).trans rfl; have zcw16_8_0 : w16.cell? ⟨g8, 0, none⟩ = some (.slice VA0 Vn0 Vc0) := (bC B8.out 0).trans rfl; have zcw16_8_1 : w16.cell? ⟨g8, 1, none⟩ = some (.slice VA1 Vn1 Vc1) := (bC B8.out 1).trans rfl; have zcw16_8_2 : w16.cell? ⟨g8, 2, none⟩ = some (.slice VA2 Vn2 Vc2) := (bC B8.out 2).trans rfl; have zcw16_9_0 : w16.cell? ⟨g9, 0, none⟩ = some (.slice XA0 Xn0 Xc0) := (bC B9.out 0).trans rfl; have zcw16_9_1 : w16.cell? ⟨g9, 1, none⟩ = some (.slice XA1 Xn1 Xc1) := (bC B9.out 1).trans rfl; have zcw16_9_2 : w16.cell? ⟨g9, 2, none⟩ = some (.slice XA2 Xn2 Xc2) := (bC B9.out 2).trans rfl; have zcw16_10_0 : w16.cell? ⟨g10, 0, none⟩ = some (.slice GA0 Gn0 Gc0) := (bC B10.out 0).trans rfl; have zcw16_10_1 : w16.cell? ⟨g10, 1, none⟩ = some (.slice GA1 Gn1 Gc1) := (bC B10.out 1).trans rfl; have zcw16_10_2 : w16.cell? ⟨g10, 2, none⟩ = some (.slice GA2 Gn2 Gc2) := (bC B10.out 2).trans rfl) | ((with_reducible refine gate_callee (f := 21) rfl ?_); refine goesL_ (some 63) rfl rfl Try.func21 (by kernel_rfl) rfl #[.agg #[.slice A0_0 l0_0.length c0_0, .slice A0_1 l0_1.length c0_1, .slice A0_2 l0_2.length c0_2]] rfl (by (try simp only [List.map_toArray, List.map_cons, List.map_nil]); first | done | rfl) ?_; (with_reducible refine (laws_toCard.calls k _ _ l0_0 _ _ l0_1 _ _ l0_2 o m t _ (cB R0.out HB.out) N0.out (cB R1.out HB.out) N1.out (cB R2.out HB.out) N2.out E2.out).mono ?_); rintro e w17 ⟨v0, v1, v2, rfl, ho0, ho1, ho2, hb⟩; refine ⟨_, rfl, ?_⟩; obtain ⟨bZ, eZ, x1_, x2_, y_⟩ := CardAt.make g10 (blk_lt B10.out) (below_size HB.out) ho0 ho1 ho2; have CZ := aM y_; have OLZ := aM x1_; have OHZ := aM x2_; clear x1_ x2_ y_; replace B3 := aM (bB B3.out hb); replace B8 := aM (bB B8.out hb); replace B9 := aM (bB B9.out hb); replace B10 := aM (bB B10.out hb); replace CV := aM (CV.out.below hb); replace CG := aM (CG.out.below hb); replace HB := aM (bS HB.out hb); clear hb ho0 ho1 ho2; obtain ⟨ZA0, Zn0, Zc0, ZA1, Zn1, Zc1, ZA2, Zn2, Zc2, f0_, f1_, f2_⟩ := CZ.out.forms; subst f0_; subst f1_; subst f2_; have zcw17_3_0 : w17.cell? ⟨g3, 0, none⟩ = some (.slice A0_0 l0_0.length c0_0) := (bC B3.out 0).trans rfl; have zcw17_3_1 : w17.cell? ⟨g3, 1, none⟩ = some (.slice A0_1 l0_1.length c0_1) := (bC B3.out 1).trans rfl; have zcw17_3_2 : w17.cell? ⟨g3, 2, none⟩ = some (.slice A0_2 l0_2.length c0_2) := (bC B3.out 2).trans rfl; have zcw17_8_0 : w17.cell? ⟨g8, 0, none⟩ = some (.slice VA0 Vn0 Vc0) := (bC B8.out 0).trans rfl; have zcw17_8_1 : w17.cell? ⟨g8, 1, none⟩ = some (.slice VA1 Vn1 Vc1) := (bC B8.out 1).trans rfl; have zcw17_8_2 : w17.cell? ⟨g8, 2, none⟩ = some (.slice VA2 Vn2 Vc2) := (bC B8.out 2).trans rfl; have zcw17_9_0 : w17.cell? ⟨g9, 0, none⟩ = some (.slice XA0 Xn0 Xc0) := (bC B9.out 0).trans rfl; have zcw17_9_1 : w17.cell? ⟨g9, 1, none⟩ = some (.slice XA1 Xn1 Xc1) := (bC B9.out 1).trans rfl; have zcw17_9_2 : w17.cell? ⟨g9, 2, none⟩ = some (.slice XA2 Xn2 Xc2) := (bC B9.out 2).trans rfl; have zcw17_10_0 : w17.cell? ⟨g10, 0, none⟩ = some (.slice GA0 Gn0 Gc0) := (bC B10.out 0).trans rfl; have zcw17_10_1 : w17.cell? ⟨g10, 1, none⟩ = some (.slice GA1 Gn1 Gc1) := (bC B10.out 1).trans rfl; have zcw17_10_2 : w17.cell? ⟨g10, 2, none⟩ = some (.slice GA2 Gn2 Gc2) := (bC B10.out 2).trans rfl) | ((with_reducible refine gate_callee (f := 22) rfl ?_); refine goesL_ (some 66) rfl rfl Try.func22 (by kernel_rfl) rfl #[.agg #[.slice ZA0 Zn0 Zc0, .slice ZA1 Zn1 Zc1, .slice ZA2 Zn2 Zc2], .int .i64 a1, .bool a2] rfl (by (try simp only [List.map_toArray, List.map_cons, List.map_nil]); first | done | rfl) ?_; (with_reducible refine (impl_gate k (a1 := a1) (a2 := a2) g10 (blk_lt B10.out) (below_size HB.out) CZ.out E4.out).mono ?_); rintro e w18 ⟨v0, v1, v2, bH, eH, rfl, hb, x1_, x2_, y_⟩; refine ⟨_, rfl, ?_⟩; replace B3 := aM (bB B3.out hb); replace B8 := aM (bB B8.out hb); replace B9 := aM (bB B9.out hb); replace B10 := aM (bB B10.out hb); replace CV := aM (CV.out.below hb); replace CG := aM (CG.out.below hb); replace CZ := aM (CZ.out.below hb); replace HB := aM (bS HB.out hb); have CH := aM y_; have OLH := aM x1_; have OHH := aM x2_; clear x1_ x2_ y_; clear hb; obtain ⟨HA0, Hn0, Hc0, HA1, Hn1, Hc1, HA2, Hn2, Hc2, f0_, f1_, f2_⟩ := CH.out.forms; subst f0_; subst f1_; subst f2_; have zcw18_3_0 : w18.cell? ⟨g3, 0, none⟩ = some (.slice A0_0 l0_0.length c0_0) := (bC B3.out 0).trans rfl; have zcw18_3_1 : w18.cell? ⟨g3, 1, none⟩ = some (.slice A0_1 l0_1.length c0_1) := (bC B3.out 1).trans rfl; have zcw18_3_2 : w18.cell? ⟨g3, 2, none⟩ = some (.slice A0_2 l0_2.length c0_2) := (bC B3.out 2).trans rfl; have zcw18_8_0 : w18.cell? ⟨g8, 0, none⟩ = some (.slice VA0 Vn0 Vc0) := (bC B8.out 0).trans rfl; have zcw18_8_1 : w18.cell? ⟨g8, 1, none⟩ = some (.slice VA1 Vn1 Vc1) := (bC B8.out 1).trans rfl; have zcw18_8_2 : w18.cell? ⟨g8, 2, none⟩ = some (.slice VA2 Vn2 Vc2) := (bC B8.out 2).trans rfl; have zcw18_9_0 : w18.cell? ⟨g9, 0, none⟩ = some (.slice XA0 Xn0 Xc0) := (bC B9.out 0).trans rfl; have zcw18_9_1 : w18.cell? ⟨g9, 1, none⟩ = some (.slice XA1 Xn1 Xc1) := (bC B9.out 1).trans rfl; have zcw18_9_2 : w18.cell? ⟨g9, 2, none⟩ = some (.slice XA2 Xn2 Xc2) := (bC B9.out 2).trans rfl; have zcw18_10_0 : w18.cell? ⟨g10, 0, none⟩ = some (.slice GA0 Gn0 Gc0) := (bC B10.out 0).trans rfl; have zcw18_10_1 : w18.cell? ⟨g10, 1, none⟩ = some (.slice GA1 Gn1 Gc1) := (bC B10.out 1).trans rfl; have zcw18_10_2 : w18.cell? ⟨g10, 2, none⟩ = some (.slice GA2 Gn2 Gc2) := (bC B10.out 2).trans rfl) | ((with_reducible refine gate_dst (N := 14) rfl ?_); refine box_event ?hg (N := 14) ?hd (cs := #[.slice none 0 0, .slice none 0 0, .slice none 0 0]) (t := 43) ?hr ?_; (case hd => rfl); (case hg => rfl); (case hr => first | (go_simp; done) | (go_simp; rfl)); intro g14 hg w19 hbox hb; have GE14 := aM (show w.heap.size ≤ g14 by rw [hg]; exact below_size HB.out); have P3_14 := aM (show g3 < g14 by rw [hg]; exact blk_lt B3.out); have X3_14 := aM (show ¬ g3 = g14 by have := P3_14.out; omega); have x3_14 := X3_14.out; have y3_14 := (Ne.symm x3_14); have P8_14 := aM (show g8 < g14 by rw [hg]; exact blk_lt B8.out); have X8_14 := aM (show ¬ g8 = g14 by have := P8_14.out; omega); have x8_14 := X8_14.out; have y8_14 := (Ne.symm x8_14); have P9_14 := aM (show g9 < g14 by rw [hg]; exact blk_lt B9.out); have X9_14 := aM (show ¬ g9 = g14 by have := P9_14.out; omega); have x9_14 := X9_14.out; have y9_14 := (Ne.symm x9_14); have P10_14 := aM (show g10 < g14 by rw [hg]; exact blk_lt B10.out); have X10_14 := aM (show ¬ g10 = g14 by have := P10_14.out; omega); have x10_14 := X10_14.out; have y10_14 := (Ne.symm x10_14); have QH_14 := aM (show eH ≤ g14 by rw [hg]; exact OHH.out); replace B3 := aM (bB B3.out hb); replace B8 := aM (bB B8.out hb); replace B9 := aM (bB B9.out hb); replace B10 := aM (bB B10.out hb); replace CV := aM (CV.out.below hb); replace CG := aM (CG.out.below hb); replace CH := aM (CH.out.below hb); replace HB := aM (bS HB.out hb); have B14 := aM hbox; clear hb hbox hg; have zb14_3_0 : w19.cell? ⟨g3, 0, none⟩ = some (.slice A0_0 l0_0.length c0_0) := (bC B3.out 0).trans rfl; have zb14_3_1 : w19.cell? ⟨g3, 1, none⟩ = some (.slice A0_1 l0_1.length c0_1) := (bC B3.out 1).trans rfl; have zb14_3_2 : w19.cell? ⟨g3, 2, none⟩ = some (.slice A0_2 l0_2.length c0_2) := (bC B3.out 2).trans rfl; have zb14_8_0 : w19.cell? ⟨g8, 0, none⟩ = some (.slice VA0 Vn0 Vc0) := (bC B8.out 0).trans rfl; have zb14_8_1 : w19.cell? ⟨g8, 1, none⟩ = some (.slice VA1 Vn1 Vc1) := (bC B8.out 1).trans rfl; have zb14_8_2 : w19.cell? ⟨g8, 2, none⟩ = some (.slice VA2 Vn2 Vc2) := (bC B8.out 2).trans rfl; have zb14_9_0 : w19.cell? ⟨g9, 0, none⟩ = some (.slice XA0 Xn0 Xc0) := (bC B9.out 0).trans rfl; have zb14_9_1 : w19.cell? ⟨g9, 1, none⟩ = some (.slice XA1 Xn1 Xc1) := (bC B9.out 1).trans rfl; have zb14_9_2 : w19.cell? ⟨g9, 2, none⟩ = some (.slice XA2 Xn2 Xc2) := (bC B9.out 2).trans rfl; have zb14_10_0 : w19.cell? ⟨g10, 0, none⟩ = some (.slice GA0 Gn0 Gc0) := (bC B10.out 0).trans rfl; have zb14_10_1 : w19.cell? ⟨g10, 1, none⟩ = some (.slice GA1 Gn1 Gc1) := (bC B10.out 1).trans rfl; have zb14_10_2 : w19.cell? ⟨g10, 2, none⟩ = some (.slice GA2 Gn2 Gc2) := (bC B10.out 2).trans rfl; have zb14_14_0 : w19.cell? ⟨g14, 0, none⟩ = some (.slice none 0 0) := (bC B14.out 0).trans rfl; have zb14_14_1 : w19.cell? ⟨g14, 1, none⟩ = some (.slice none 0 0) := (bC B14.out 1).trans rfl; have zb14_14_2 : w19.cell? ⟨g14, 2, none⟩ = some (.slice none 0 0) := (bC B14.out 2).trans rfl; have fr14_0 := bF B14.out 0; have fr14_1 := bF B14.out 1; have fr14_2 := bF B14.out 2) | ((with_reducible refine gate_callee (f := 23) rfl ?_); refine goesL_ (some 69) rfl rfl Try.func23 (by kernel_rfl) rfl #[.agg #[.slice HA0 Hn0 Hc0, .slice HA1 Hn1 Hc1, .slice HA2 Hn2 Hc2], .agg #[.slice VA0 Vn0 Vc0, .slice VA1 Vn1 Vc1, .slice VA2 Vn2 Vc2]] rfl (by (try simp only [List.map_toArray, List.map_cons, List.map_nil]); first | done | rfl) ?_; replace B3 := aM (blk_kept B3.out (fill3_kept w19 g14 (.slice HA0 Hn0 Hc0) (.slice HA1 Hn1 Hc1) (.slice HA2 Hn2 Hc2)) X3_14.out); replace B8 := aM (blk_kept B8.out (fill3_kept w19 g14 (.slice HA0 Hn0 Hc0) (.slice HA1 Hn1 Hc1) (.slice HA2 Hn2 Hc2)) X8_14.out); replace B9 := aM (blk_kept B9.out (fill3_kept w19 g14 (.slice HA0 Hn0 Hc0) (.slice HA1 Hn1 Hc1) (.slice HA2 Hn2 Hc2)) X9_14.out); replace B10 := aM (blk_kept B10.out (fill3_kept w19 g14 (.slice HA0 Hn0 Hc0) (.slice HA1 Hn1 Hc1) (.slice HA2 Hn2 Hc2)) X10_14.out); replace CV := aM (CV.out.kept (fill3_kept w19 g14 (.slice HA0 Hn0 Hc0) (.slice HA1 Hn1 Hc1) (.slice HA2 Hn2 Hc2)) (fun k_ h1_ h2_ h3_ => by have := OLV.out; have := OHV.out; have := P3_8.out; have := QV_8.out; have := P3_9.out; have := P8_9.out; have := OLG.out; have := OHG.out; have := P3_10.out; have := P8_10.out; have := P9_10.out; have := QG_10.out; have := OLH.out; have := OHH.out; have := P3_14.out; have := P8_14.out; have := P9_14.out; have := P10_14.out; have := QH_14.out; omega)); replace CG := aM (CG.out.kept (fill3_kept w19 g14 (.slice HA0 Hn0 Hc0) (.slice HA1 Hn1 Hc1) (.slice HA2 Hn2 Hc2)) (fun k_ h1_ h2_ h3_ => by have := OLV.out; have := OHV.out; have := P3_8.out; have := QV_8.out; have := P3_9.out; have := P8_9.out; have := OLG.out; have := OHG.out; have := P3_10.out; have := P8_10.out; have := P9_10.out; have := QG_10.out; have := OLH.out; have := OHH.out; have := P3_14.out; have := P8_14.out; have := P9_14.out; have := P10_14.out; have := QH_14.out; omega)); replace CH := aM (CH.out.kept (fill3_kept w19 g14 (.slice HA0 Hn0 Hc0) (.slice HA1 Hn1 Hc1) (.slice HA2 Hn2 Hc2)) (fun k_ h1_ h2_ h3_ => by have := OLV.out; have := OHV.out; have := P3_8.out; have := QV_8.out; have := P3_9.out; have := P8_9.out; have := OLG.out; have := OHG.out; have := P3_10.out; have := P8_10.out; have := P9_10.out; have := QG_10.out; have := OLH.out; have := OHH.out; have := P3_14.out; have := P8_14.out; have := P9_14.out; have := P10_14.out; have := QH_14.out; omega)); replace HB := aM (fill3_below HB.out GE14.out (.slice HA0 Hn0 Hc0) (.slice HA1 Hn1 Hc1) (.slice HA2 Hn2 Hc2)); replace B14 := aM (fill3_box B14.out (.slice HA0 Hn0 Hc0) (.slice HA1 Hn1 Hc1) (.slice HA2 Hn2 Hc2)); (with_reducible refine (eq_card k CH.out CV.out E5.out).mono ?_); rintro e w20 ⟨rfl, hb⟩; refine ⟨_, rfl, ?_⟩; replace B3 := aM (bB B3.out hb); replace B8 := aM (bB B8.out hb); replace B9 := aM (bB B9.out hb); replace B10 := aM (bB B10.out hb); replace B14 := aM (bB B14.out hb); replace CV := aM (CV.out.below hb); replace CG := aM (CG.out.below hb); replace CH := aM (CH.out.below hb); replace HB := aM (bS HB.out hb); clear hb; have zcw20_3_0 : w20.cell? ⟨g3, 0, none⟩ = some (.slice A0_0 l0_0.length c0_0) := (bC B3.out 0).trans rfl; have zcw20_3_1 : w20.cell? ⟨g3, 1, none⟩ = some (.slice A0_1 l0_1.length c0_1) := (bC B3.out 1).trans rfl; have zcw20_3_2 : w20.cell? ⟨g3, 2, none⟩ = some (.slice A0_2 l0_2.length c0_2) := (bC B3.out 2).trans rfl; have zcw20_8_0 : w20.cell? ⟨g8, 0, none⟩ = some (.slice VA0 Vn0 Vc0) := (bC B8.out 0).trans rfl; have zcw20_8_1 : w20.cell? ⟨g8, 1, none⟩ = some (.slice VA1 Vn1 Vc1) := (bC B8.out 1).trans rfl; have zcw20_8_2 : w20.cell? ⟨g8, 2, none⟩ = some (.slice VA2 Vn2 Vc2) := (bC B8.out 2).trans rfl; have zcw20_9_0 : w20.cell? ⟨g9, 0, none⟩ = some (.slice XA0 Xn0 Xc0) := (bC B9.out 0).trans rfl; have zcw20_9_1 : w20.cell? ⟨g9, 1, none⟩ = some (.slice XA1 Xn1 Xc1) := (bC B9.out 1).trans rfl; have zcw20_9_2 : w20.cell? ⟨g9, 2, none⟩ = some (.slice XA2 Xn2 Xc2) := (bC B9.out 2).trans rfl; have zcw20_10_0 : w20.cell? ⟨g10, 0, none⟩ = some (.slice GA0 Gn0 Gc0) := (bC B10.out 0).trans rfl; have zcw20_10_1 : w20.cell? ⟨g10, 1, none⟩ = some (.slice GA1 Gn1 Gc1) := (bC B10.out 1).trans rfl; have zcw20_10_2 : w20.cell? ⟨g10, 2, none⟩ = some (.slice GA2 Gn2 Gc2) := (bC B10.out 2).trans rfl; have zcw20_14_0 : w20.cell? ⟨g14, 0, none⟩ = some (.slice HA0 Hn0 Hc0) := (bC B14.out 0).trans rfl; have zcw20_14_1 : w20.cell? ⟨g14, 1, none⟩ = some (.slice HA1 Hn1 Hc1) := (bC B14.out 1).trans rfl; have zcw20_14_2 : w20.cell? ⟨g14, 2, none⟩ = some (.slice HA2 Hn2 Hc2) := (bC B14.out 2).trans rfl) | ((with_reducible refine gate_callee (f := 25) rfl ?_); refine goesL_ (some 73) rfl rfl Try.func25 (by kernel_rfl) rfl #[.agg #[.slice GA0 Gn0 Gc0, .slice GA1 Gn1 Gc1, .slice GA2 Gn2 Gc2], .int .i64 1] rfl (by (try simp only [List.map_toArray, List.map_cons, List.map_nil]); first | done | rfl) ?_; (with_reducible refine (held_card k CG.out E9.out).mono ?_); rintro e w21 ⟨rfl, hb⟩; refine ⟨_, rfl, ?_⟩; replace B3 := aM (bB B3.out hb); replace B8 := aM (bB B8.out hb); replace B9 := aM (bB B9.out hb); replace B10 := aM (bB B10.out hb); replace B14 := aM (bB B14.out hb); replace CV := aM (CV.out.below hb); replace CG := aM (CG.out.below hb); replace CH := aM (CH.out.below hb); replace HB := aM (bS HB.out hb); clear hb; have zcw21_3_0 : w21.cell? ⟨g3, 0, none⟩ = some (.slice A0_0 l0_0.length c0_0) := (bC B3.out 0).trans rfl; have zcw21_3_1 : w21.cell? ⟨g3, 1, none⟩ = some (.slice A0_1 l0_1.length c0_1) := (bC B3.out 1).trans rfl; have zcw21_3_2 : w21.cell? ⟨g3, 2, none⟩ = some (.slice A0_2 l0_2.length c0_2) := (bC B3.out 2).trans rfl; have zcw21_8_0 : w21.cell? ⟨g8, 0, none⟩ = some (.slice VA0 Vn0 Vc0) := (bC B8.out 0).trans rfl; have zcw21_8_1 : w21.cell? ⟨g8, 1, none⟩ = some (.slice VA1 Vn1 Vc1) := (bC B8.out 1).trans rfl; have zcw21_8_2 : w21.cell? ⟨g8, 2, none⟩ = some (.slice VA2 Vn2 Vc2) := (bC B8.out 2).trans rfl; have zcw21_9_0 : w21.cell? ⟨g9, 0, none⟩ = some (.slice XA0 Xn0 Xc0) := (bC B9.out 0).trans rfl; have zcw21_9_1 : w21.cell? ⟨g9, 1, none⟩ = some (.slice XA1 Xn1 Xc1) := (bC B9.out 1).trans rfl; have zcw21_9_2 : w21.cell? ⟨g9, 2, none⟩ = some (.slice XA2 Xn2 Xc2) := (bC B9.out 2).trans rfl; have zcw21_10_0 : w21.cell? ⟨g10, 0, none⟩ = some (.slice GA0 Gn0 Gc0) := (bC B10.out 0).trans rfl; have zcw21_10_1 : w21.cell? ⟨g10, 1, none⟩ = some (.slice GA1 Gn1 Gc1) := (bC B10.out 1).trans rfl; have zcw21_10_2 : w21.cell? ⟨g10, 2, none⟩ = some (.slice GA2 Gn2 Gc2) := (bC B10.out 2).trans rfl; have zcw21_14_0 : w21.cell? ⟨g14, 0, none⟩ = some (.slice HA0 Hn0 Hc0) := (bC B14.out 0).trans rfl; have zcw21_14_1 : w21.cell? ⟨g14, 1, none⟩ = some (.slice HA1 Hn1 Hc1) := (bC B14.out 1).trans rfl; have zcw21_14_2 : w21.cell? ⟨g14, 2, none⟩ = some (.slice HA2 Hn2 Hc2) := (bC B14.out 2).trans rfl))
 go_ret
 exact ⟨by first | rfl | (simp [errW_none, errW_some] <;> rfl), HB.out⟩
end Go.Proofs.Ythmijfekdeagpaa.PFnExactGate

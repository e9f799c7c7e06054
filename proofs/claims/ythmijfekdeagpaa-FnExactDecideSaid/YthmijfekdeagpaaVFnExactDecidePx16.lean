/- Of the proof of laws.FnExactDecide: a part. No condition beyond what its theorems say. -/
import Derived.Test.YthmijfekdeagpaaVFnExactDecideWTight
import Derived.Test.YthmijfekdeagpaaVFnExactDecidePx0
import Derived.Test.YthmijfekdeagpaaVFnExactDecidePx11
import Derived.Test.YthmijfekdeagpaaVFnExactDecidePx15
namespace Go.Proofs.Ythmijfekdeagpaa.PFnExactDecide
open Go.RowKit Go.Proofs.YthmijfekdeagpaaW.PrintWords Go.Proofs.YthmijfekdeagpaaW.PrintLast Go.Proofs.YthmijfekdeagpaaW.PrintMore
attribute [local go_sem] max2_int min2_int max_two min_two max_three min_three max_four min_four   -- for this text's walks alone
set_option linter.unusedVariables false
set_option linter.unusedSimpArgs false

def impl_Decide.f (k : Nat) (a0_0 : Int) (l0_1 : List (S79)) : Option (Int × (List (S79))) := (impl_copyBridge.f a0_0 l0_1).bind fun bt394 => ((impl_BridgeOk.f k a0_0 l0_1).bind fun t399 => (if t399 = true then ((impl_Bridge_decide.f k bt394.1 bt394.2).bind fun t400 => (some (bt394.1, t400))) else (some (bt394.1, bt394.2))))
theorem impl_Decide.mono : ∀ a0 a1 k, LeO (impl_Decide.f k a0 a1) (impl_Decide.f (k + 1) a0 a1) := by
 intro a0 a1 k
 unfold impl_Decide.f
 repeat' first
   | (with_reducible exact impl_BridgeOk.mono _ _ _)
   | (with_reducible exact impl_Bridge_decide.mono _ _ _)
   | (with_reducible exact LeO.refl _)
   | (with_reducible exact LeO.none _)
   | (with_reducible refine LeO.ite ?_ ?_)
   | (with_reducible refine LeO.bind ?_ (fun _ => ?_))
   | exact impl_BridgeOk.mono _ _ _
   | exact impl_Bridge_decide.mono _ _ _
   | exact LeO.none _
   | refine LeO.ite ?_ ?_
   | refine LeO.bind ?_ (fun _ => ?_)
set_option maxHeartbeats 60000000 in
set_option maxRecDepth 100000 in
theorem impl_Decide.calls (k : Nat) (a0_0 : Int) (A0_1 : Option Addr) (c0_1 : Nat) (l0_1 : List (S79)) (r1 : Int) (r2 : List (S79)) (w : World) (hr0_1 : Kd.C k79 w A0_1 l0_1.length l0_1) (hc0_1 : l0_1.length ≤ c0_1) (h : impl_Decide.f k a0_0 l0_1 = some (r1, r2)) :
  Calls Try.prog 15 #[.agg #[.int .i64 a0_0, .slice A0_1 l0_1.length c0_1]] w fun e w' => ∃ v1_ : Value, e = .returned (.agg #[.int .i64 r1, v1_]) ∧ Kd.R k79 79 w' w.heap.size (fun _ => True) v1_ r2 ∧ Below w.heap.size w w' := by
 have hu28 := Try.underlying28
 have HR0_1 := aM hr0_1
 have HC0_1 := aM hc0_1
 clear hr0_1 hc0_1
 have HB := aM (Below.refl w.heap.size w)
 have H : ((impl_copyBridge.f a0_0 l0_1).bind fun bt394 => ((impl_BridgeOk.f k a0_0 l0_1).bind fun t399 => (if t399 = true then ((impl_Bridge_decide.f k bt394.1 bt394.2).bind fun t400 => (some (bt394.1, t400))) else (some (bt394.1, bt394.2))))) = some (r1, r2) := h
 clear h
 replace H := Option.bind_eq_some_iff.mp H
 obtain ⟨⟨t394, t395⟩, A20, H⟩ := H
 replace H : ((impl_BridgeOk.f k a0_0 l0_1).bind fun t399 => (if t399 = true then ((impl_Bridge_decide.f k t394 t395).bind fun t400 => (some (t394, t400))) else (some (t394, t395)))) = some (r1, r2) := H
 have A2 := aM A20
 clear A20
 replace H := Option.bind_eq_some_iff.mp H
 obtain ⟨t399, A30, H⟩ := H
 replace H : (if t399 = true then ((impl_Bridge_decide.f k t394 t395).bind fun t400 => (some (t394, t400))) else (some (t394, t395))) = some (r1, r2) := H
 have A3 := aM A30
 clear A30
 by_cases c4 : t399 = true
 case neg =>
  replace c4 := Bool.eq_false_iff.mpr c4
  subst c4
  have H1 : (some (t394, t395)) = some (r1, r2) := by rw [if_neg (show ¬ (false = true) by decide)] at H; exact H
  clear H
  have H := H1
  clear H1
  simp only [Option.some.injEq, Prod.mk.injEq] at H
  obtain ⟨rfl, rfl⟩ := H
  go_enter Try.func15, Try.ntmps15
  go_wp2_with (first | ((with_reducible refine gD (N := 1) rfl ?_); refine box_event ?hg (N := 1) ?hd (cs := #[.int .i64 a0_0, .slice A0_1 l0_1.length c0_1]) (t := 28) ?hr ?_; (case hd => rfl); (case hg => rfl); (case hr => first | (go_simp; done) | (go_simp; rfl) | (obtain ⟨A_, c_, e_⟩ := Kd.R_slice HO397.out; subst e_; (first | (go_simp; done) | (go_simp; rfl))) | (obtain ⟨A_, c_, e_⟩ := Kd.S_slice HO397.out; subst e_; (first | (go_simp; done) | (go_simp; rfl)))); intro gb392 hg w22 hbox hb; have BK392 := aM (hbox); have GW392 := gE hg (below_size (bl HB.out)); have GE392 := gE hg (below_size (bl HB.out)); replace HB := aM (bS (bl HB.out) hb); clear hb hbox hg) | ((with_reducible refine gD (N := 2) rfl ?_); refine box_event ?hg (N := 2) ?hd (cs := #[.int .i64 0, .slice none 0 0]) (t := 28) ?hr ?_; (case hd => rfl); (case hg => rfl); (case hr => first | (go_simp; done) | (go_simp; rfl) | (obtain ⟨A_, c_, e_⟩ := Kd.R_slice HO397.out; subst e_; (first | (go_simp; done) | (go_simp; rfl))) | (obtain ⟨A_, c_, e_⟩ := Kd.S_slice HO397.out; subst e_; (first | (go_simp; done) | (go_simp; rfl)))); intro gb393 hg w23 hbox hb; have BK393 := aM (hbox); have GW393 := gE hg (below_size (bl HB.out)); have GE393 := gE hg (below_size (bl HB.out)); have NB392_393 := nL hg (blk_lt (bk BK392.out)); have NB393_392 := nG hg (blk_lt (bk BK392.out)); replace BK392 := aM (bB (bk BK392.out) hb); replace HB := aM (bS (bl HB.out) hb); clear hb hbox hg; have hnb24 := NB392_393.out; have hnc24 := NB393_392.out; have hcz25 := cA2 BK392.out) | ((with_reducible refine gC (f := 71) rfl ?_); refine gL (some 5) Try.func71 #[.agg #[.int .i64 a0_0, .slice A0_1 l0_1.length c0_1]] ?_; (with_reducible refine (impl_copyBridge.calls a0_0 _ _ l0_1 t394 t395 _ ?side1 ?side2 A2.out).mono ?_); (case side1 => repeat (first | exact (cB HR0_1.out HB.out) | (with_reducible refine Kd.C_alloc ?_ _) | (with_reducible refine Kd.C_drewN ?_ _) | (with_reducible refine Kd.C_drew ?_))); (case side2 => exact HC0_1.out); rintro e w26 ⟨v396, rfl, ho0, hb⟩; refine ⟨_, rfl, ?_⟩; have HO397 := aM (Kd.R_lower ho0 (below_size (bl HB.out))); replace BK392 := aM (bB (bk BK392.out) hb); replace BK393 := aM (bB (bk BK393.out) hb); replace HB := aM (bS (bl HB.out) hb); (try clear hb); (try clear ho0)) | ((with_reducible refine gD (N := 3) rfl ?_); refine box_event ?hg (N := 3) ?hd (cs := #[.int .i64 0, .slice none 0 0]) (t := 28) ?hr ?_; (case hd => rfl); (case hg => rfl); (case hr => first | (go_simp; done) | (go_simp; rfl) | (obtain ⟨A_, c_, e_⟩ := Kd.R_slice HO397.out; subst e_; (first | (go_simp; done) | (go_simp; rfl))) | (obtain ⟨A_, c_, e_⟩ := Kd.S_slice HO397.out; subst e_; (first | (go_simp; done) | (go_simp; rfl)))); intro gb398 hg w27 hbox hb; have BK398 := aM (hbox); have GW398 := gE hg (below_size (bl HB.out)); have GE398 := gE hg (below_size (bl HB.out)); have NB392_398 := nL hg (blk_lt (bk BK392.out)); have NB398_392 := nG hg (blk_lt (bk BK392.out)); have NB393_398 := nL hg (blk_lt (bk BK393.out)); have NB398_393 := nG hg (blk_lt (bk BK393.out)); replace HO397 := aM (kB (kr HO397.out) hb); replace BK392 := aM (bB (bk BK392.out) hb); replace BK393 := aM (bB (bk BK393.out) hb); replace HB := aM (bS (bl HB.out) hb); clear hb hbox hg; have hnb28 := NB398_392.out; have hnc28 := NB392_398.out; have hnb29 := NB398_393.out; have hnc29 := NB393_398.out; have hcz30 := cA2 BK398.out; obtain ⟨Ao31, co31, eo31⟩ := Kd.R_slice HO397.out; subst eo31; have hcz32 := cA2 BK392.out) | ((with_reducible refine gC (f := 45) rfl ?_); refine gL (some 7) Try.func45 #[.agg #[.int .i64 a0_0, .slice A0_1 l0_1.length c0_1]] ?_; (with_reducible refine (impl_BridgeOk.calls k a0_0 _ _ l0_1 false _ ?side1 ?side2 A3.out).mono ?_); (case side1 => exact cB HR0_1.out (bl HB.out)); (case side2 => exact HC0_1.out); rintro e w33 ⟨rfl, hb⟩; refine ⟨_, rfl, ?_⟩; replace HO397 := aM (kB (kr (Kd.R_mono (kF (p := ⟨gb398, 1, none⟩) (kF (p := ⟨gb398, 0, none⟩) (Kd.R_types HO397.out BK398.out (by decide)) (fun _ hk => hk.2) (.int .i64 t394)) (fun _ hk => hk.2) (.slice Ao31 t395.length co31)) (fun _ h_ => h_.1))) hb); replace BK392 := aM (bB (fm BK392.out) hb); replace BK393 := aM (bB (fm BK393.out) hb); replace BK398 := aM (bB (pA2 (fm BK398.out)) hb); replace HB := aM (bS (bl HB.out) hb); (try clear hb); have hcz34 := cA2 BK398.out; have hcz35 := cA2 BK393.out))
  refine bodyPost_ret (results_cell_row rfl _ _ gb393 28 #[.int .i64 t394, .slice Ao31 t395.length co31] (0, 0) _ rfl (pA2 (fm BK393.out)) Try.underlying28 rfl (by kernel_rfl)) rfl ?_
  exact ⟨_, xW, by (with_reducible repeat (first | apply Kd.R_alloc | apply Kd.R_drewN | apply Kd.R_drew)); exact Kd.R_mono (kF (p := ⟨gb393, 1, none⟩) (kF (p := ⟨gb393, 0, none⟩) (Kd.R_types HO397.out BK393.out (by decide)) (fun _ hk => hk.2) (.int .i64 t394)) (fun _ hk => hk.2) (.slice Ao31 t395.length co31)) (fun _ hk => trivial), bl HB.out⟩
 subst c4
 have H1 : ((impl_Bridge_decide.f k t394 t395).bind fun t400 => (some (t394, t400))) = some (r1, r2) := by rw [if_pos rfl] at H; exact H
 clear H
 have H := H1
 clear H1
 replace H := Option.bind_eq_some_iff.mp H
 obtain ⟨t400, A50, H⟩ := H
 replace H : (some (t394, t400)) = some (r1, r2) := H
 have A5 := aM A50
 clear A50
 simp only [Option.some.injEq, Prod.mk.injEq] at H
 obtain ⟨rfl, rfl⟩ := H
 go_enter Try.func15, Try.ntmps15
 go_wp2_with (first | ((with_reducible refine gD (N := 1) rfl ?_); refine box_event ?hg (N := 1) ?hd (cs := #[.int .i64 a0_0, .slice A0_1 l0_1.length c0_1]) (t := 28) ?hr ?_; (case hd => rfl); (case hg => rfl); (case hr => first | (go_simp; done) | (go_simp; rfl) | (obtain ⟨A_, c_, e_⟩ := Kd.R_slice HO397.out; subst e_; (first | (go_simp; done) | (go_simp; rfl))) | (obtain ⟨A_, c_, e_⟩ := Kd.S_slice HO397.out; subst e_; (first | (go_simp; done) | (go_simp; rfl)))); intro gb392 hg w6 hbox hb; have BK392 := aM (hbox); have GW392 := gE hg (below_size (bl HB.out)); have GE392 := gE hg (below_size (bl HB.out)); replace HB := aM (bS (bl HB.out) hb); clear hb hbox hg) | ((with_reducible refine gD (N := 2) rfl ?_); refine box_event ?hg (N := 2) ?hd (cs := #[.int .i64 0, .slice none 0 0]) (t := 28) ?hr ?_; (case hd => rfl); (case hg => rfl); (case hr => first | (go_simp; done) | (go_simp; rfl) | (obtain ⟨A_, c_, e_⟩ := Kd.R_slice HO397.out; subst e_; (first | (go_simp; done) | (go_simp; rfl))) | (obtain ⟨A_, c_, e_⟩ := Kd.S_slice HO397.out; subst e_; (first | (go_simp; done) | (go_simp; rfl)))); intro gb393 hg w7 hbox hb; have BK393 := aM (hbox); have GW393 := gE hg (below_size (bl HB.out)); have GE393 := gE hg (below_size (bl HB.out)); have NB392_393 := nL hg (blk_lt (bk BK392.out)); have NB393_392 := nG hg (blk_lt (bk BK392.out)); replace BK392 := aM (bB (bk BK392.out) hb); replace HB := aM (bS (bl HB.out) hb); clear hb hbox hg; have hnb8 := NB392_393.out; have hnc8 := NB393_392.out; have hcz9 := cA2 BK392.out) | ((with_reducible refine gC (f := 71) rfl ?_); refine gL (some 5) Try.func71 #[.agg #[.int .i64 a0_0, .slice A0_1 l0_1.length c0_1]] ?_; (with_reducible refine (impl_copyBridge.calls a0_0 _ _ l0_1 t394 t395 _ ?side1 ?side2 A2.out).mono ?_); (case side1 => repeat (first | exact (cB HR0_1.out HB.out) | (with_reducible refine Kd.C_alloc ?_ _) | (with_reducible refine Kd.C_drewN ?_ _) | (with_reducible refine Kd.C_drew ?_))); (case side2 => exact HC0_1.out); rintro e w10 ⟨v396, rfl, ho0, hb⟩; refine ⟨_, rfl, ?_⟩; have HO397 := aM (Kd.R_lower ho0 (below_size (bl HB.out))); replace BK392 := aM (bB (bk BK392.out) hb); replace BK393 := aM (bB (bk BK393.out) hb); replace HB := aM (bS (bl HB.out) hb); (try clear hb); (try clear ho0)) | ((with_reducible refine gD (N := 3) rfl ?_); refine box_event ?hg (N := 3) ?hd (cs := #[.int .i64 0, .slice none 0 0]) (t := 28) ?hr ?_; (case hd => rfl); (case hg => rfl); (case hr => first | (go_simp; done) | (go_simp; rfl) | (obtain ⟨A_, c_, e_⟩ := Kd.R_slice HO397.out; subst e_; (first | (go_simp; done) | (go_simp; rfl))) | (obtain ⟨A_, c_, e_⟩ := Kd.S_slice HO397.out; subst e_; (first | (go_simp; done) | (go_simp; rfl)))); intro gb398 hg w11 hbox hb; have BK398 := aM (hbox); have GW398 := gE hg (below_size (bl HB.out)); have GE398 := gE hg (below_size (bl HB.out)); have NB392_398 := nL hg (blk_lt (bk BK392.out)); have NB398_392 := nG hg (blk_lt (bk BK392.out)); have NB393_398 := nL hg (blk_lt (bk BK393.out)); have NB398_393 := nG hg (blk_lt (bk BK393.out)); replace HO397 := aM (kB (kr HO397.out) hb); replace BK392 := aM (bB (bk BK392.out) hb); replace BK393 := aM (bB (bk BK393.out) hb); replace HB := aM (bS (bl HB.out) hb); clear hb hbox hg; have hnb12 := NB398_392.out; have hnc12 := NB392_398.out; have hnb13 := NB398_393.out; have hnc13 := NB393_398.out; have hcz14 := cA2 BK398.out; obtain ⟨Ao15, co15, eo15⟩ := Kd.R_slice HO397.out; subst eo15; have hcz16 := cA2 BK392.out) | ((with_reducible refine gC (f := 45) rfl ?_); refine gL (some 7) Try.func45 #[.agg #[.int .i64 a0_0, .slice A0_1 l0_1.length c0_1]] ?_; (with_reducible refine (impl_BridgeOk.calls k a0_0 _ _ l0_1 true _ ?side1 ?side2 A3.out).mono ?_); (case side1 => exact cB HR0_1.out (bl HB.out)); (case side2 => exact HC0_1.out); rintro e w17 ⟨rfl, hb⟩; refine ⟨_, rfl, ?_⟩; replace HO397 := aM (kB (kr (Kd.R_mono (kF (p := ⟨gb398, 1, none⟩) (kF (p := ⟨gb398, 0, none⟩) (Kd.R_types HO397.out BK398.out (by decide)) (fun _ hk => hk.2) (.int .i64 t394)) (fun _ hk => hk.2) (.slice Ao15 t395.length co15)) (fun _ h_ => h_.1))) hb); replace BK392 := aM (bB (fm BK392.out) hb); replace BK393 := aM (bB (fm BK393.out) hb); replace BK398 := aM (bB (pA2 (fm BK398.out)) hb); replace HB := aM (bS (bl HB.out) hb); (try clear hb); have hcz18 := cA2 BK398.out) | ((with_reducible refine gC (f := 72) rfl ?_); refine gL (some 8) Try.func72 #[.pointer (some ⟨gb398, 0, none⟩)] ?_; (with_reducible refine (impl_Bridge_decide.calls (gb := gb398) (hBK := (bk BK398.out)) (hgb := ?hgb) k t394 (fun k_ => some k_ = (.slice Ao15 t395.length co15 : Value).ownBlock) (.slice Ao15 t395.length co15) t395 t400 w _ ?side1 ?side2 A5.out).mono ?_); (case hgb => exact (fun hs_ => (fun e_ => (Kd.R_ne HO397.out BK398.out (by decide)) e_) hs_)); (case side1 => exact bl HB.out); (case side2 => exact Kd.R_tight rfl HO397.out); rintro e w19 ⟨rfl, hy0, hb, hkp⟩; refine ⟨_, rfl, ?_⟩; replace BK392 := aM (blk_kept (bk BK392.out) hkp (fun hs_ => (fun e_ => (Kd.R_ne HO397.out BK392.out (by decide)) e_) hs_)); replace BK393 := aM (blk_kept (bk BK393.out) hkp (fun hs_ => (fun e_ => (Kd.R_ne HO397.out BK393.out (by decide)) e_) hs_)); replace BK398 := aM (blk_kept (bk BK398.out) hkp (fun hs_ => (fun e_ => (Kd.R_ne HO397.out BK398.out (by decide)) e_) hs_)); replace HO397 := aM (Kd.R_reok rfl hy0 (fun k_ e_ => HO397.out.1 k_ e_)); replace HB := aM (hb); (try clear hb); (try clear hkp); (try clear hy0); have hcz20 := cA2 BK398.out; have hcz21 := cA2 BK393.out))
 refine bodyPost_ret (results_cell_row rfl _ _ gb393 28 #[.int .i64 t394, .slice Ao15 t395.length co15] (0, 0) _ rfl (pA2 (fm BK393.out)) Try.underlying28 rfl (by kernel_rfl)) rfl ?_
 exact ⟨_, xW, by (with_reducible repeat (first | apply Kd.R_alloc | apply Kd.R_drewN | apply Kd.R_drew)); exact Kd.R_mono (kF (p := ⟨gb393, 1, none⟩) (kF (p := ⟨gb393, 0, none⟩) (Kd.R_types HO397.out BK393.out (by decide)) (fun _ hk => hk.2) (.int .i64 t394)) (fun _ hk => hk.2) (.slice Ao15 t395.length co15)) (fun _ hk => trivial), bl HB.out⟩

def laws_eqVec.f (a0_0 : Int) (a0_1 : Int) (a0_2 : Int) (a0_3 : Int) (a1_0 : Int) (a1_1 : Int) (a1_2 : Int) (a1_3 : Int) : Option (Bool) := if a0_0 = a1_0 then (if a0_1 = a1_1 then (if a0_2 = a1_2 then (if a0_3 = a1_3 then (some true) else (some false)) else (some false)) else (some false)) else (some false)
set_option maxHeartbeats 60000000 in
set_option maxRecDepth 100000 in
theorem laws_eqVec.calls (a0_0 : Int) (a0_1 : Int) (a0_2 : Int) (a0_3 : Int) (a1_0 : Int) (a1_1 : Int) (a1_2 : Int) (a1_3 : Int) (r : Bool) (w : World) (h : laws_eqVec.f a0_0 a0_1 a0_2 a0_3 a1_0 a1_1 a1_2 a1_3 = some r) :
  Calls Try.prog 186 #[.agg #[.int .i64 a0_0, .int .i64 a0_1, .int .i64 a0_2, .int .i64 a0_3], .agg #[.int .i64 a1_0, .int .i64 a1_1, .int .i64 a1_2, .int .i64 a1_3]] w fun e w' => e = .returned (.bool r) ∧ Below w.heap.size w w' := by
 have hu73 := Try.underlying73
 have HB := aM (Below.refl w.heap.size w)
 have H : (if a0_0 = a1_0 then (if a0_1 = a1_1 then (if a0_2 = a1_2 then (if a0_3 = a1_3 then (some true) else (some false)) else (some false)) else (some false)) else (some false)) = some r := h
 clear h
 by_cases c3 : a0_0 = a1_0
 case neg =>
  rw [if_neg c3] at H
  have c3b0 : (a0_0 == a1_0) = false := beq_eq_false_iff_ne.mpr c3
  have c3b1 : (a0_0 != a1_0) = true := bne_iff_ne.mpr c3
  obtain rfl := Option.some.inj H
  go_enter Try.func186, Try.ntmps186
  go_wp2_with (first | ((with_reducible refine gD (N := 2) rfl ?_); refine bE (N := 2) (cs := #[.int .i64 a0_0, .int .i64 a0_1, .int .i64 a0_2, .int .i64 a0_3]) (t := 73) ?_; intro gb401 hg w27 hbox hb; have BK401 := aM (hbox); have GW401 := gE hg (below_size (bl HB.out)); have GE401 := gE hg (below_size (bl HB.out)); replace HB := aM (bS (bl HB.out) hb); clear hb hbox hg) | ((with_reducible refine gD (N := 3) rfl ?_); refine bE (N := 3) (cs := #[.int .i64 a1_0, .int .i64 a1_1, .int .i64 a1_2, .int .i64 a1_3]) (t := 73) ?_; intro gb402 hg w28 hbox hb; have BK402 := aM (hbox); have GW402 := gE hg (below_size (bl HB.out)); have GE402 := gE hg (below_size (bl HB.out)); have NB401_402 := nL hg (blk_lt (bk BK401.out)); have NB402_401 := nG hg (blk_lt (bk BK401.out)); replace BK401 := aM (bB (bk BK401.out) hb); replace HB := aM (bS (bl HB.out) hb); clear hb hbox hg; have hnb29 := NB401_402.out; have hnc29 := NB402_401.out; have hcz30 := cA4 BK401.out; have hcz31 := cA4 BK402.out))
  go_ret
  exact ⟨xW, bl HB.out⟩
 rw [if_pos c3] at H
 have c3b0 : (a0_0 == a1_0) = true := beq_iff_eq.mpr c3
 have c3b1 : (a0_0 != a1_0) = false := bne_eq_false_iff_eq.mpr c3
 clear c3
 by_cases c4 : a0_1 = a1_1
 case neg =>
  rw [if_neg c4] at H
  have c4b0 : (a0_1 == a1_1) = false := beq_eq_false_iff_ne.mpr c4
  have c4b1 : (a0_1 != a1_1) = true := bne_iff_ne.mpr c4
  obtain rfl := Option.some.inj H
  go_enter Try.func186, Try.ntmps186
  go_wp2_with (first | ((with_reducible refine gD (N := 2) rfl ?_); refine bE (N := 2) (cs := #[.int .i64 a0_0, .int .i64 a0_1, .int .i64 a0_2, .int .i64 a0_3]) (t := 73) ?_; intro gb401 hg w22 hbox hb; have BK401 := aM (hbox); have GW401 := gE hg (below_size (bl HB.out)); have GE401 := gE hg (below_size (bl HB.out)); replace HB := aM (bS (bl HB.out) hb); clear hb hbox hg) | ((with_reducible refine gD (N := 3) rfl ?_); refine bE (N := 3) (cs := #[.int .i64 a1_0, .int .i64 a1_1, .int .i64 a1_2, .int .i64 a1_3]) (t := 73) ?_; intro gb402 hg w23 hbox hb; have BK402 := aM (hbox); have GW402 := gE hg (below_size (bl HB.out)); have GE402 := gE hg (below_size (bl HB.out)); have NB401_402 := nL hg (blk_lt (bk BK401.out)); have NB402_401 := nG hg (blk_lt (bk BK401.out)); replace BK401 := aM (bB (bk BK401.out) hb); replace HB := aM (bS (bl HB.out) hb); clear hb hbox hg; have hnb24 := NB401_402.out; have hnc24 := NB402_401.out; have hcz25 := cA4 BK401.out; have hcz26 := cA4 BK402.out))
  go_ret
  exact ⟨xW, bl HB.out⟩
 rw [if_pos c4] at H
 have c4b0 : (a0_1 == a1_1) = true := beq_iff_eq.mpr c4
 have c4b1 : (a0_1 != a1_1) = false := bne_eq_false_iff_eq.mpr c4
 clear c4
 by_cases c5 : a0_2 = a1_2
 case neg =>
  rw [if_neg c5] at H
  have c5b0 : (a0_2 == a1_2) = false := beq_eq_false_iff_ne.mpr c5
  have c5b1 : (a0_2 != a1_2) = true := bne_iff_ne.mpr c5
  obtain rfl := Option.some.inj H
  go_enter Try.func186, Try.ntmps186
  go_wp2_with (first | ((with_reducible refine gD (N := 2) rfl ?_); refine bE (N := 2) (cs := #[.int .i64 a0_0, .int .i64 a0_1, .int .i64 a0_2, .int .i64 a0_3]) (t := 73) ?_; intro gb401 hg w17 hbox hb; have BK401 := aM (hbox); have GW401 := gE hg (below_size (bl HB.out)); have GE401 := gE hg (below_size (bl HB.out)); replace HB := aM (bS (bl HB.out) hb); clear hb hbox hg) | ((with_reducible refine gD (N := 3) rfl ?_); refine bE (N := 3) (cs := #[.int .i64 a1_0, .int .i64 a1_1, .int .i64 a1_2, .int .i64 a1_3]) (t := 73) ?_; intro gb402 hg w18 hbox hb; have BK402 := aM (hbox); have GW402 := gE hg (below_size (bl HB.out)); have GE402 := gE hg (below_size (bl HB.out)); have NB401_402 := nL hg (blk_lt (bk BK401.out)); have NB402_401 := nG hg (blk_lt (bk BK401.out)); replace BK401 := aM (bB (bk BK401.out) hb); replace HB := aM (bS (bl HB.out) hb); clear hb hbox hg; have hnb19 := NB401_402.out; have hnc19 := NB402_401.out; have hcz20 := cA4 BK401.out; have hcz21 := cA4 BK402.out))
  go_ret
  exact ⟨xW, bl HB.out⟩
 rw [if_pos c5] at H
 have c5b0 : (a0_2 == a1_2) = true := beq_iff_eq.mpr c5
 have c5b1 : (a0_2 != a1_2) = false := bne_eq_false_iff_eq.mpr c5
 clear c5
 by_cases c6 : a0_3 = a1_3
 case neg =>
  rw [if_neg c6] at H
  have c6b0 : (a0_3 == a1_3) = false := beq_eq_false_iff_ne.mpr c6
  have c6b1 : (a0_3 != a1_3) = true := bne_iff_ne.mpr c6
  obtain rfl := Option.some.inj H
  go_enter Try.func186, Try.ntmps186
  go_wp2_with (first | ((with_reducible refine gD (N := 2) rfl ?_); refine bE (N := 2) (cs := #[.int .i64 a0_0, .int .i64 a0_1, .int .i64 a0_2, .int .i64 a0_3]) (t := 73) ?_; intro gb401 hg w12 hbox hb; have BK401 := aM (hbox); have GW401 := gE hg (below_size (bl HB.out)); have GE401 := gE hg (below_size (bl HB.out)); replace HB := aM (bS (bl HB.out) hb); clear hb hbox hg) | ((with_reducible refine gD (N := 3) rfl ?_); refine bE (N := 3) (cs := #[.int .i64 a1_0, .int .i64 a1_1, .int .i64 a1_2, .int .i64 a1_3]) (t := 73) ?_; intro gb402 hg w13 hbox hb; have BK402 := aM (hbox); have GW402 := gE hg (below_size (bl HB.out)); have GE402 := gE hg (below_size (bl HB.out)); have NB401_402 := nL hg (blk_lt (bk BK401.out)); have NB402_401 := nG hg (blk_lt (bk BK401.out)); replace BK401 := aM (bB (bk BK401.out) hb); replace HB := aM (bS (bl HB.out) hb); clear hb hbox hg; have hnb14 := NB401_402.out; have hnc14 := NB402_401.out; have hcz15 := cA4 BK401.out; have hcz16 := cA4 BK402.out))
  go_ret
  exact ⟨xW, bl HB.out⟩
 rw [if_pos c6] at H
 have c6b0 : (a0_3 == a1_3) = true := beq_iff_eq.mpr c6
 have c6b1 : (a0_3 != a1_3) = false := bne_eq_false_iff_eq.mpr c6
 clear c6
 obtain rfl := Option.some.inj H
 go_enter Try.func186, Try.ntmps186
 go_wp2_with (first | ((with_reducible refine gD (N := 2) rfl ?_); refine bE (N := 2) (cs := #[.int .i64 a0_0, .int .i64 a0_1, .int .i64 a0_2, .int .i64 a0_3]) (t := 73) ?_; intro gb401 hg w7 hbox hb; have BK401 := aM (hbox); have GW401 := gE hg (below_size (bl HB.out)); have GE401 := gE hg (below_size (bl HB.out)); replace HB := aM (bS (bl HB.out) hb); clear hb hbox hg) | ((with_reducible refine gD (N := 3) rfl ?_); refine bE (N := 3) (cs := #[.int .i64 a1_0, .int .i64 a1_1, .int .i64 a1_2, .int .i64 a1_3]) (t := 73) ?_; intro gb402 hg w8 hbox hb; have BK402 := aM (hbox); have GW402 := gE hg (below_size (bl HB.out)); have GE402 := gE hg (below_size (bl HB.out)); have NB401_402 := nL hg (blk_lt (bk BK401.out)); have NB402_401 := nG hg (blk_lt (bk BK401.out)); replace BK401 := aM (bB (bk BK401.out) hb); replace HB := aM (bS (bl HB.out) hb); clear hb hbox hg; have hnb9 := NB401_402.out; have hnc9 := NB402_401.out; have hcz10 := cA4 BK401.out; have hcz11 := cA4 BK402.out))
 go_ret
 exact ⟨xW, bl HB.out⟩

def laws_eqPort.f (a0_0 : Bool) (a0_1 : Bool) (a0_2 : Int) (a0_3 : Int) (a0_4 : Int) (a0_5 : Int) (a0_6 : Int) (a0_7 : Int) (a0_8 : Int) (a0_9 : Int) (a0_10 : Bool) (a1_0 : Bool) (a1_1 : Bool) (a1_2 : Int) (a1_3 : Int) (a1_4 : Int) (a1_5 : Int) (a1_6 : Int) (a1_7 : Int) (a1_8 : Int) (a1_9 : Int) (a1_10 : Bool) : Option (Bool) := if (a0_0 != a1_0) = true then (some false) else (if (a0_1 != a1_1) = true then (some false) else ((laws_eqVec.f a0_2 a0_3 a0_4 a0_5 a1_2 a1_3 a1_4 a1_5).bind fun t405 => (if t405 = true then (if a0_6 = a1_6 then (if a0_7 = a1_7 then (if a0_8 = a1_8 then (if a0_9 = a1_9 then (if (a0_10 != a1_10) = true then (some false) else (some true)) else (some false)) else (some false)) else (some false)) else (some false)) else (some false))))
set_option maxHeartbeats 60000000 in
set_option maxRecDepth 100000 in
theorem laws_eqPort.calls (a0_0 : Bool) (a0_1 : Bool) (a0_2 : Int) (a0_3 : Int) (a0_4 : Int) (a0_5 : Int) (a0_6 : Int) (a0_7 : Int) (a0_8 : Int) (a0_9 : Int) (a0_10 : Bool) (a1_0 : Bool) (a1_1 : Bool) (a1_2 : Int) (a1_3 : Int) (a1_4 : Int) (a1_5 : Int) (a1_6 : Int) (a1_7 : Int) (a1_8 : Int) (a1_9 : Int) (a1_10 : Bool) (r : Bool) (w : World) (h : laws_eqPort.f a0_0 a0_1 a0_2 a0_3 a0_4 a0_5 a0_6 a0_7 a0_8 a0_9 a0_10 a1_0 a1_1 a1_2 a1_3 a1_4 a1_5 a1_6 a1_7 a1_8 a1_9 a1_10 = some r) :
  Calls Try.prog 146 #[.agg #[.bool a0_0, .bool a0_1, .int .i64 a0_2, .int .i64 a0_3, .int .i64 a0_4, .int .i64 a0_5, .int .i64 a0_6, .int .i64 a0_7, .int .i64 a0_8, .int .i64 a0_9, .bool a0_10], .agg #[.bool a1_0, .bool a1_1, .int .i64 a1_2, .int .i64 a1_3, .int .i64 a1_4, .int .i64 a1_5, .int .i64 a1_6, .int .i64 a1_7, .int .i64 a1_8, .int .i64 a1_9, .bool a1_10]] w fun e w' => e = .returned (.bool r) ∧ Below w.heap.size w w' := by
 have hu79 := Try.underlying79
 have hu73 := Try.underlying73
 have HB := aM (Below.refl w.heap.size w)
 have H : (if (a0_0 != a1_0) = true then (some false) else (if (a0_1 != a1_1) = true then (some false) else ((laws_eqVec.f a0_2 a0_3 a0_4 a0_5 a1_2 a1_3 a1_4 a1_5).bind fun t405 => (if t405 = true then (if a0_6 = a1_6 then (if a0_7 = a1_7 then (if a0_8 = a1_8 then (if a0_9 = a1_9 then (if (a0_10 != a1_10) = true then (some false) else (some true)) else (some false)) else (some false)) else (some false)) else (some false)) else (some false))))) = some r := h
 clear h
 by_cases c3 : (a0_0 != a1_0) = true
 case pos =>
  rw [if_pos c3] at H
  have c3b0 : (a0_0 != a1_0) = true := c3
  (try (have c3b1 : decide (a0_0 = a1_0) = false := by simpa using c3))
  (try (have c3b2 : (a0_0 == a1_0) = false := by simpa using c3))
  (try (have c3b3 : ¬ (a0_0 = a1_0) := by simpa using c3))
  clear c3
  obtain rfl := Option.some.inj H
  go_enter Try.func146, Try.ntmps146
  go_wp2_with (first | ((with_reducible refine gD (N := 2) rfl ?_); refine bE (N := 2) (cs := #[.bool a0_0, .bool a0_1, .int .i64 a0_2, .int .i64 a0_3, .int .i64 a0_4, .int .i64 a0_5, .int .i64 a0_6, .int .i64 a0_7, .int .i64 a0_8, .int .i64 a0_9, .bool a0_10]) (t := 79) ?_; intro gb403 hg w4 hbox hb; have BK403 := aM (hbox); have GW403 := gE hg (below_size (bl HB.out)); have GE403 := gE hg (below_size (bl HB.out)); replace HB := aM (bS (bl HB.out) hb); clear hb hbox hg) | ((with_reducible refine gD (N := 3) rfl ?_); refine bE (N := 3) (cs := #[.bool a1_0, .bool a1_1, .int .i64 a1_2, .int .i64 a1_3, .int .i64 a1_4, .int .i64 a1_5, .int .i64 a1_6, .int .i64 a1_7, .int .i64 a1_8, .int .i64 a1_9, .bool a1_10]) (t := 79) ?_; intro gb404 hg w5 hbox hb; have BK404 := aM (hbox); have GW404 := gE hg (below_size (bl HB.out)); have GE404 := gE hg (below_size (bl HB.out)); have NB403_404 := nL hg (blk_lt (bk BK403.out)); have NB404_403 := nG hg (blk_lt (bk BK403.out)); replace BK403 := aM (bB (bk BK403.out) hb); replace HB := aM (bS (bl HB.out) hb); clear hb hbox hg; have hnb6 := NB403_404.out; have hnc6 := NB404_403.out; have hcz7 := cA11 BK403.out; have hcz8 := cA11 BK404.out))
  go_ret
  exact ⟨xW, bl HB.out⟩
 rw [if_neg c3] at H
 have c3b0 : (a0_0 != a1_0) = false := by simpa using c3
 (try (have c3b1 : decide (a0_0 = a1_0) = true := by simpa using c3))
 (try (have c3b2 : (a0_0 == a1_0) = true := by simpa using c3))
 clear c3
 by_cases c9 : (a0_1 != a1_1) = true
 case pos =>
  rw [if_pos c9] at H
  have c9b0 : (a0_1 != a1_1) = true := c9
  (try (have c9b1 : decide (a0_1 = a1_1) = false := by simpa using c9))
  (try (have c9b2 : (a0_1 == a1_1) = false := by simpa using c9))
  (try (have c9b3 : ¬ (a0_1 = a1_1) := by simpa using c9))
  clear c9
  obtain rfl := Option.some.inj H
  go_enter Try.func146, Try.ntmps146
  go_wp2_with (first | ((with_reducible refine gD (N := 2) rfl ?_); refine bE (N := 2) (cs := #[.bool a0_0, .bool a0_1, .int .i64 a0_2, .int .i64 a0_3, .int .i64 a0_4, .int .i64 a0_5, .int .i64 a0_6, .int .i64 a0_7, .int .i64 a0_8, .int .i64 a0_9, .bool a0_10]) (t := 79) ?_; intro gb403 hg w10 hbox hb; have BK403 := aM (hbox); have GW403 := gE hg (below_size (bl HB.out)); have GE403 := gE hg (below_size (bl HB.out)); replace HB := aM (bS (bl HB.out) hb); clear hb hbox hg) | ((with_reducible refine gD (N := 3) rfl ?_); refine bE (N := 3) (cs := #[.bool a1_0, .bool a1_1, .int .i64 a1_2, .int .i64 a1_3, .int .i64 a1_4, .int .i64 a1_5, .int .i64 a1_6, .int .i64 a1_7, .int .i64 a1_8, .int .i64 a1_9, .bool a1_10]) (t := 79) ?_; intro gb404 hg w11 hbox hb; have BK404 := aM (hbox); have GW404 := gE hg (below_size (bl HB.out)); have GE404 := gE hg (below_size (bl HB.out)); have NB403_404 := nL hg (blk_lt (bk BK403.out)); have NB404_403 := nG hg (blk_lt (bk BK403.out)); replace BK403 := aM (bB (bk BK403.out) hb); replace HB := aM (bS (bl HB.out) hb); clear hb hbox hg; have hnb12 := NB403_404.out; have hnc12 := NB404_403.out; have hcz13 := cA11 BK403.out; have hcz14 := cA11 BK404.out))
  go_ret
  exact ⟨xW, bl HB.out⟩
 rw [if_neg c9] at H
 have c9b0 : (a0_1 != a1_1) = false := by simpa using c9
 (try (have c9b1 : decide (a0_1 = a1_1) = true := by simpa using c9))
 (try (have c9b2 : (a0_1 == a1_1) = true := by simpa using c9))
 clear c9
 replace H := Option.bind_eq_some_iff.mp H
 obtain ⟨t405, A150, H⟩ := H
 replace H : (if t405 = true then (if a0_6 = a1_6 then (if a0_7 = a1_7 then (if a0_8 = a1_8 then (if a0_9 = a1_9 then (if (a0_10 != a1_10) = true then (some false) else (some true)) else (some false)) else (some false)) else (some false)) else (some false)) else (some false)) = some r := H
 have A15 := aM A150
 clear A150
 by_cases c16 : t405 = true
 case neg =>
  replace c16 := Bool.eq_false_iff.mpr c16
  subst c16
  have H1 : (some false) = some r := by rw [if_neg (show ¬ (false = true) by decide)] at H; exact H
  clear H
  have H := H1
  clear H1
  obtain rfl := Option.some.inj H
  go_enter Try.func146, Try.ntmps146
  go_wp2_with (first | ((with_reducible refine gD (N := 2) rfl ?_); refine bE (N := 2) (cs := #[.bool a0_0, .bool a0_1, .int .i64 a0_2, .int .i64 a0_3, .int .i64 a0_4, .int .i64 a0_5, .int .i64 a0_6, .int .i64 a0_7, .int .i64 a0_8, .int .i64 a0_9, .bool a0_10]) (t := 79) ?_; intro gb403 hg w70 hbox hb; have BK403 := aM (hbox); have GW403 := gE hg (below_size (bl HB.out)); have GE403 := gE hg (below_size (bl HB.out)); replace HB := aM (bS (bl HB.out) hb); clear hb hbox hg) | ((with_reducible refine gD (N := 3) rfl ?_); refine bE (N := 3) (cs := #[.bool a1_0, .bool a1_1, .int .i64 a1_2, .int .i64 a1_3, .int .i64 a1_4, .int .i64 a1_5, .int .i64 a1_6, .int .i64 a1_7, .int .i64 a1_8, .int .i64 a1_9, .bool a1_10]) (t := 79) ?_; intro gb404 hg w71 hbox hb; have BK404 := aM (hbox); have GW404 := gE hg (below_size (bl HB.out)); have GE404 := gE hg (below_size (bl HB.out)); have NB403_404 := nL hg (blk_lt (bk BK403.out)); have NB404_403 := nG hg (blk_lt (bk BK403.out)); replace BK403 := aM (bB (bk BK403.out) hb); replace HB := aM (bS (bl HB.out) hb); clear hb hbox hg; have hnb72 := NB403_404.out; have hnc72 := NB404_403.out; have hcz73 := cA11 BK403.out; have hcz74 := cA11 BK404.out) | ((with_reducible refine gC (f := 186) rfl ?_); refine gL (some 19) Try.func186 #[.agg #[.int .i64 a0_2, .int .i64 a0_3, .int .i64 a0_4, .int .i64 a0_5], .agg #[.int .i64 a1_2, .int .i64 a1_3, .int .i64 a1_4, .int .i64 a1_5]] ?_; (with_reducible refine (laws_eqVec.calls a0_2 a0_3 a0_4 a0_5 a1_2 a1_3 a1_4 a1_5 false _ A15.out).mono ?_); rintro e w75 ⟨rfl, hb⟩; refine ⟨_, rfl, ?_⟩; replace BK403 := aM (bB (bk BK403.out) hb); replace BK404 := aM (bB (bk BK404.out) hb); replace HB := aM (bS (bl HB.out) hb); (try clear hb)))
  go_ret
  exact ⟨xW, bl HB.out⟩
 subst c16
 have H1 : (if a0_6 = a1_6 then (if a0_7 = a1_7 then (if a0_8 = a1_8 then (if a0_9 = a1_9 then (if (a0_10 != a1_10) = true then (some false) else (some true)) else (some false)) else (some false)) else (some false)) else (some false)) = some r := by rw [if_pos rfl] at H; exact H
 clear H
 have H := H1
 clear H1
 by_cases c17 : a0_6 = a1_6
 case neg =>
  rw [if_neg c17] at H
  have c17b0 : (a0_6 == a1_6) = false := beq_eq_false_iff_ne.mpr c17
  have c17b1 : (a0_6 != a1_6) = true := bne_iff_ne.mpr c17
  obtain rfl := Option.some.inj H
  go_enter Try.func146, Try.ntmps146
  go_wp2_with (first | ((with_reducible refine gD (N := 2) rfl ?_); refine bE (N := 2) (cs := #[.bool a0_0, .bool a0_1, .int .i64 a0_2, .int .i64 a0_3, .int .i64 a0_4, .int .i64 a0_5, .int .i64 a0_6, .int .i64 a0_7, .int .i64 a0_8, .int .i64 a0_9, .bool a0_10]) (t := 79) ?_; intro gb403 hg w62 hbox hb; have BK403 := aM (hbox); have GW403 := gE hg (below_size (bl HB.out)); have GE403 := gE hg (below_size (bl HB.out)); replace HB := aM (bS (bl HB.out) hb); clear hb hbox hg) | ((with_reducible refine gD (N := 3) rfl ?_); refine bE (N := 3) (cs := #[.bool a1_0, .bool a1_1, .int .i64 a1_2, .int .i64 a1_3, .int .i64 a1_4, .int .i64 a1_5, .int .i64 a1_6, .int .i64 a1_7, .int .i64 a1_8, .int .i64 a1_9, .bool a1_10]) (t := 79) ?_; intro gb404 hg w63 hbox hb; have BK404 := aM (hbox); have GW404 := gE hg (below_size (bl HB.out)); have GE404 := gE hg (below_size (bl HB.out)); have NB403_404 := nL hg (blk_lt (bk BK403.out)); have NB404_403 := nG hg (blk_lt (bk BK403.out)); replace BK403 := aM (bB (bk BK403.out) hb); replace HB := aM (bS (bl HB.out) hb); clear hb hbox hg; have hnb64 := NB403_404.out; have hnc64 := NB404_403.out; have hcz65 := cA11 BK403.out; have hcz66 := cA11 BK404.out) | ((with_reducible refine gC (f := 186) rfl ?_); refine gL (some 19) Try.func186 #[.agg #[.int .i64 a0_2, .int .i64 a0_3, .int .i64 a0_4, .int .i64 a0_5], .agg #[.int .i64 a1_2, .int .i64 a1_3, .int .i64 a1_4, .int .i64 a1_5]] ?_; (with_reducible refine (laws_eqVec.calls a0_2 a0_3 a0_4 a0_5 a1_2 a1_3 a1_4 a1_5 true _ A15.out).mono ?_); rintro e w67 ⟨rfl, hb⟩; refine ⟨_, rfl, ?_⟩; replace BK403 := aM (bB (bk BK403.out) hb); replace BK404 := aM (bB (bk BK404.out) hb); replace HB := aM (bS (bl HB.out) hb); (try clear hb); have hcz68 := cA11 BK403.out; have hcz69 := cA11 BK404.out))
  go_ret
  exact ⟨xW, bl HB.out⟩
 rw [if_pos c17] at H
 have c17b0 : (a0_6 == a1_6) = true := beq_iff_eq.mpr c17
 have c17b1 : (a0_6 != a1_6) = false := bne_eq_false_iff_eq.mpr c17
 clear c17
 by_cases c18 : a0_7 = a1_7
 case neg =>
  rw [if_neg c18] at H
  have c18b0 : (a0_7 == a1_7) = false := beq_eq_false_iff_ne.mpr c18
  have c18b1 : (a0_7 != a1_7) = true := bne_iff_ne.mpr c18
  obtain rfl := Option.some.inj H
  go_enter Try.func146, Try.ntmps146
  go_wp2_with (first | ((with_reducible refine gD (N := 2) rfl ?_); refine bE (N := 2) (cs := #[.bool a0_0, .bool a0_1, .int .i64 a0_2, .int .i64 a0_3, .int .i64 a0_4, .int .i64 a0_5, .int .i64 a0_6, .int .i64 a0_7, .int .i64 a0_8, .int .i64 a0_9, .bool a0_10]) (t := 79) ?_; intro gb403 hg w54 hbox hb; have BK403 := aM (hbox); have GW403 := gE hg (below_size (bl HB.out)); have GE403 := gE hg (below_size (bl HB.out)); replace HB := aM (bS (bl HB.out) hb); clear hb hbox hg) | ((with_reducible refine gD (N := 3) rfl ?_); refine bE (N := 3) (cs := #[.bool a1_0, .bool a1_1, .int .i64 a1_2, .int .i64 a1_3, .int .i64 a1_4, .int .i64 a1_5, .int .i64 a1_6, .int .i64 a1_7, .int .i64 a1_8, .int .i64 a1_9, .bool a1_10]) (t := 79) ?_; intro gb404 hg w55 hbox hb; have BK404 := aM (hbox); have GW404 := gE hg (below_size (bl HB.out)); have GE404 := gE hg (below_size (bl HB.out)); have NB403_404 := nL hg (blk_lt (bk BK403.out)); have NB404_403 := nG hg (blk_lt (bk BK403.out)); replace BK403 := aM (bB (bk BK403.out) hb); replace HB := aM (bS (bl HB.out) hb); clear hb hbox hg; have hnb56 := NB403_404.out; have hnc56 := NB404_403.out; have hcz57 := cA11 BK403.out; have hcz58 := cA11 BK404.out) | ((with_reducible refine gC (f := 186) rfl ?_); refine gL (some 19) Try.func186 #[.agg #[.int .i64 a0_2, .int .i64 a0_3, .int .i64 a0_4, .int .i64 a0_5], .agg #[.int .i64 a1_2, .int .i64 a1_3, .int .i64 a1_4, .int .i64 a1_5]] ?_; (with_reducible refine (laws_eqVec.calls a0_2 a0_3 a0_4 a0_5 a1_2 a1_3 a1_4 a1_5 true _ A15.out).mono ?_); rintro e w59 ⟨rfl, hb⟩; refine ⟨_, rfl, ?_⟩; replace BK403 := aM (bB (bk BK403.out) hb); replace BK404 := aM (bB (bk BK404.out) hb); replace HB := aM (bS (bl HB.out) hb); (try clear hb); have hcz60 := cA11 BK403.out; have hcz61 := cA11 BK404.out))
  go_ret
  exact ⟨xW, bl HB.out⟩
 rw [if_pos c18] at H
 have c18b0 : (a0_7 == a1_7) = true := beq_iff_eq.mpr c18
 have c18b1 : (a0_7 != a1_7) = false := bne_eq_false_iff_eq.mpr c18
 clear c18
 by_cases c19 : a0_8 = a1_8
 case neg =>
  rw [if_neg c19] at H
  have c19b0 : (a0_8 == a1_8) = false := beq_eq_false_iff_ne.mpr c19
  have c19b1 : (a0_8 != a1_8) = true := bne_iff_ne.mpr c19
  obtain rfl := Option.some.inj H
  go_enter Try.func146, Try.ntmps146
  go_wp2_with (first | ((with_reducible refine gD (N := 2) rfl ?_); refine bE (N := 2) (cs := #[.bool a0_0, .bool a0_1, .int .i64 a0_2, .int .i64 a0_3, .int .i64 a0_4, .int .i64 a0_5, .int .i64 a0_6, .int .i64 a0_7, .int .i64 a0_8, .int .i64 a0_9, .bool a0_10]) (t := 79) ?_; intro gb403 hg w46 hbox hb; have BK403 := aM (hbox); have GW403 := gE hg (below_size (bl HB.out)); have GE403 := gE hg (below_size (bl HB.out)); replace HB := aM (bS (bl HB.out) hb); clear hb hbox hg) | ((with_reducible refine gD (N := 3) rfl ?_); refine bE (N := 3) (cs := #[.bool a1_0, .bool a1_1, .int .i64 a1_2, .int .i64 a1_3, .int .i64 a1_4, .int .i64 a1_5, .int .i64 a1_6, .int .i64 a1_7, .int .i64 a1_8, .int .i64 a1_9, .bool a1_10]) (t := 79) ?_; intro gb404 hg w47 hbox hb; have BK404 := aM (hbox); have GW404 := gE hg (below_size (bl HB.out)); have GE404 := gE hg (below_size (bl HB.out)); have NB403_404 := nL hg (blk_lt (bk BK403.out)); have NB404_403 := nG hg (blk_lt (bk BK403.out)); replace BK403 := aM (bB (bk BK403.out) hb); replace HB := aM (bS (bl HB.out) hb); clear hb hbox hg; have hnb48 := NB403_404.out; have hnc48 := NB404_403.out; have hcz49 := cA11 BK403.out; have hcz50 := cA11 BK404.out) | ((with_reducible refine gC (f := 186) rfl ?_); refine gL (some 19) Try.func186 #[.agg #[.int .i64 a0_2, .int .i64 a0_3, .int .i64 a0_4, .int .i64 a0_5], .agg #[.int .i64 a1_2, .int .i64 a1_3, .int .i64 a1_4, .int .i64 a1_5]] ?_; (with_reducible refine (laws_eqVec.calls a0_2 a0_3 a0_4 a0_5 a1_2 a1_3 a1_4 a1_5 true _ A15.out).mono ?_); rintro e w51 ⟨rfl, hb⟩; refine ⟨_, rfl, ?_⟩; replace BK403 := aM (bB (bk BK403.out) hb); replace BK404 := aM (bB (bk BK404.out) hb); replace HB := aM (bS (bl HB.out) hb); (try clear hb); have hcz52 := cA11 BK403.out; have hcz53 := cA11 BK404.out))
  go_ret
  exact ⟨xW, bl HB.out⟩
 rw [if_pos c19] at H
 have c19b0 : (a0_8 == a1_8) = true := beq_iff_eq.mpr c19
 have c19b1 : (a0_8 != a1_8) = false := bne_eq_false_iff_eq.mpr c19
 clear c19
 by_cases c20 : a0_9 = a1_9
 case neg =>
  rw [if_neg c20] at H
  have c20b0 : (a0_9 == a1_9) = false := beq_eq_false_iff_ne.mpr c20
  have c20b1 : (a0_9 != a1_9) = true := bne_iff_ne.mpr c20
  obtain rfl := Option.some.inj H
  go_enter Try.func146, Try.ntmps146
  go_wp2_with (first | ((with_reducible refine gD (N := 2) rfl ?_); refine bE (N := 2) (cs := #[.bool a0_0, .bool a0_1, .int .i64 a0_2, .int .i64 a0_3, .int .i64 a0_4, .int .i64 a0_5, .int .i64 a0_6, .int .i64 a0_7, .int .i64 a0_8, .int .i64 a0_9, .bool a0_10]) (t := 79) ?_; intro gb403 hg w38 hbox hb; have BK403 := aM (hbox); have GW403 := gE hg (below_size (bl HB.out)); have GE403 := gE hg (below_size (bl HB.out)); replace HB := aM (bS (bl HB.out) hb); clear hb hbox hg) | ((with_reducible refine gD (N := 3) rfl ?_); refine bE (N := 3) (cs := #[.bool a1_0, .bool a1_1, .int .i64 a1_2, .int .i64 a1_3, .int .i64 a1_4, .int .i64 a1_5, .int .i64 a1_6, .int .i64 a1_7, .int .i64 a1_8, .int .i64 a1_9, .bool a1_10]) (t := 79) ?_; intro gb404 hg w39 hbox hb; have BK404 := aM (hbox); have GW404 := gE hg (below_size (bl HB.out)); have GE404 := gE hg (below_size (bl HB.out)); have NB403_404 := nL hg (blk_lt (bk BK403.out)); have NB404_403 := nG hg (blk_lt (bk BK403.out)); replace BK403 := aM (bB (bk BK403.out) hb); replace HB := aM (bS (bl HB.out) hb); clear hb hbox hg; have hnb40 := NB403_404.out; have hnc40 := NB404_403.out; have hcz41 := cA11 BK403.out; have hcz42 := cA11 BK404.out) | ((with_reducible refine gC (f := 186) rfl ?_); refine gL (some 19) Try.func186 #[.agg #[.int .i64 a0_2, .int .i64 a0_3, .int .i64 a0_4, .int .i64 a0_5], .agg #[.int .i64 a1_2, .int .i64 a1_3, .int .i64 a1_4, .int .i64 a1_5]] ?_; (with_reducible refine (laws_eqVec.calls a0_2 a0_3 a0_4 a0_5 a1_2 a1_3 a1_4 a1_5 true _ A15.out).mono ?_); rintro e w43 ⟨rfl, hb⟩; refine ⟨_, rfl, ?_⟩; replace BK403 := aM (bB (bk BK403.out) hb); replace BK404 := aM (bB (bk BK404.out) hb); replace HB := aM (bS (bl HB.out) hb); (try clear hb); have hcz44 := cA11 BK403.out; have hcz45 := cA11 BK404.out))
  go_ret
  exact ⟨xW, bl HB.out⟩
 rw [if_pos c20] at H
 have c20b0 : (a0_9 == a1_9) = true := beq_iff_eq.mpr c20
 have c20b1 : (a0_9 != a1_9) = false := bne_eq_false_iff_eq.mpr c20
 clear c20
 by_cases c21 : (a0_10 != a1_10) = true
 case neg =>
  rw [if_neg c21] at H
  have c21b0 : (a0_10 != a1_10) = false := by simpa using c21
  (try (have c21b1 : decide (a0_10 = a1_10) = true := by simpa using c21))
  (try (have c21b2 : (a0_10 == a1_10) = true := by simpa using c21))
  clear c21
  obtain rfl := Option.some.inj H
  go_enter Try.func146, Try.ntmps146
  go_wp2_with (first | ((with_reducible refine gD (N := 2) rfl ?_); refine bE (N := 2) (cs := #[.bool a0_0, .bool a0_1, .int .i64 a0_2, .int .i64 a0_3, .int .i64 a0_4, .int .i64 a0_5, .int .i64 a0_6, .int .i64 a0_7, .int .i64 a0_8, .int .i64 a0_9, .bool a0_10]) (t := 79) ?_; intro gb403 hg w30 hbox hb; have BK403 := aM (hbox); have GW403 := gE hg (below_size (bl HB.out)); have GE403 := gE hg (below_size (bl HB.out)); replace HB := aM (bS (bl HB.out) hb); clear hb hbox hg) | ((with_reducible refine gD (N := 3) rfl ?_); refine bE (N := 3) (cs := #[.bool a1_0, .bool a1_1, .int .i64 a1_2, .int .i64 a1_3, .int .i64 a1_4, .int .i64 a1_5, .int .i64 a1_6, .int .i64 a1_7, .int .i64 a1_8, .int .i64 a1_9, .bool a1_10]) (t := 79) ?_; intro gb404 hg w31 hbox hb; have BK404 := aM (hbox); have GW404 := gE hg (below_size (bl HB.out)); have GE404 := gE hg (below_size (bl HB.out)); have NB403_404 := nL hg (blk_lt (bk BK403.out)); have NB404_403 := nG hg (blk_lt (bk BK403.out)); replace BK403 := aM (bB (bk BK403.out) hb); replace HB := aM (bS (bl HB.out) hb); clear hb hbox hg; have hnb32 := NB403_404.out; have hnc32 := NB404_403.out; have hcz33 := cA11 BK403.out; have hcz34 := cA11 BK404.out) | ((with_reducible refine gC (f := 186) rfl ?_); refine gL (some 19) Try.func186 #[.agg #[.int .i64 a0_2, .int .i64 a0_3, .int .i64 a0_4, .int .i64 a0_5], .agg #[.int .i64 a1_2, .int .i64 a1_3, .int .i64 a1_4, .int .i64 a1_5]] ?_; (with_reducible refine (laws_eqVec.calls a0_2 a0_3 a0_4 a0_5 a1_2 a1_3 a1_4 a1_5 true _ A15.out).mono ?_); rintro e w35 ⟨rfl, hb⟩; refine ⟨_, rfl, ?_⟩; replace BK403 := aM (bB (bk BK403.out) hb); replace BK404 := aM (bB (bk BK404.out) hb); replace HB := aM (bS (bl HB.out) hb); (try clear hb); have hcz36 := cA11 BK403.out; have hcz37 := cA11 BK404.out))
  go_ret
  exact ⟨xW, bl HB.out⟩
 rw [if_pos c21] at H
 have c21b0 : (a0_10 != a1_10) = true := c21
 (try (have c21b1 : decide (a0_10 = a1_10) = false := by simpa using c21))
 (try (have c21b2 : (a0_10 == a1_10) = false := by simpa using c21))
 (try (have c21b3 : ¬ (a0_10 = a1_10) := by simpa using c21))
 clear c21
 obtain rfl := Option.some.inj H
 go_enter Try.func146, Try.ntmps146
 go_wp2_with (first | ((with_reducible refine gD (N := 2) rfl ?_); refine bE (N := 2) (cs := #[.bool a0_0, .bool a0_1, .int .i64 a0_2, .int .i64 a0_3, .int .i64 a0_4, .int .i64 a0_5, .int .i64 a0_6, .int .i64 a0_7, .int .i64 a0_8, .int .i64 a0_9, .bool a0_10]) (t := 79) ?_; intro gb403 hg w22 hbox hb; have BK403 := aM (hbox); have GW403 := gE hg (below_size (bl HB.out)); have GE403 := gE hg (below_size (bl HB.out)); replace HB := aM (bS (bl HB.out) hb); clear hb hbox hg) | ((with_reducible refine gD (N := 3) rfl ?_); refine bE (N := 3) (cs := #[.bool a1_0, .bool a1_1, .int .i64 a1_2, .int .i64 a1_3, .int .i64 a1_4, .int .i64 a1_5, .int .i64 a1_6, .int .i64 a1_7, .int .i64 a1_8, .int .i64 a1_9, .bool a1_10]) (t := 79) ?_; intro gb404 hg w23 hbox hb; have BK404 := aM (hbox); have GW404 := gE hg (below_size (bl HB.out)); have GE404 := gE hg (below_size (bl HB.out)); have NB403_404 := nL hg (blk_lt (bk BK403.out)); have NB404_403 := nG hg (blk_lt (bk BK403.out)); replace BK403 := aM (bB (bk BK403.out) hb); replace HB := aM (bS (bl HB.out) hb); clear hb hbox hg; have hnb24 := NB403_404.out; have hnc24 := NB404_403.out; have hcz25 := cA11 BK403.out; have hcz26 := cA11 BK404.out) | ((with_reducible refine gC (f := 186) rfl ?_); refine gL (some 19) Try.func186 #[.agg #[.int .i64 a0_2, .int .i64 a0_3, .int .i64 a0_4, .int .i64 a0_5], .agg #[.int .i64 a1_2, .int .i64 a1_3, .int .i64 a1_4, .int .i64 a1_5]] ?_; (with_reducible refine (laws_eqVec.calls a0_2 a0_3 a0_4 a0_5 a1_2 a1_3 a1_4 a1_5 true _ A15.out).mono ?_); rintro e w27 ⟨rfl, hb⟩; refine ⟨_, rfl, ?_⟩; replace BK403 := aM (bB (bk BK403.out) hb); replace BK404 := aM (bB (bk BK404.out) hb); replace HB := aM (bS (bl HB.out) hb); (try clear hb); have hcz28 := cA11 BK403.out; have hcz29 := cA11 BK404.out))
 go_ret
 exact ⟨xW, bl HB.out⟩

def laws_eqPortS.l0 : Nat → List (S79) → List (S79) → Int → Option (Bool)
 | 0, _, _, _ => none
 | k + 1, x0, x1, x5 => if x5 < (x0.length : Int) then (if 0 ≤ x5 then (if x5 < (x1.length : Int) then ((laws_eqPort.f ((rd_T79 x0 x5).f0) ((rd_T79 x0 x5).f1) ((rd_T79 x0 x5).f2.f0) ((rd_T79 x0 x5).f2.f1) ((rd_T79 x0 x5).f2.f2) ((rd_T79 x0 x5).f2.f3) ((rd_T79 x0 x5).f3) ((rd_T79 x0 x5).f4) ((rd_T79 x0 x5).f5) ((rd_T79 x0 x5).f6) ((rd_T79 x0 x5).f7) ((rd_T79 x1 x5).f0) ((rd_T79 x1 x5).f1) ((rd_T79 x1 x5).f2.f0) ((rd_T79 x1 x5).f2.f1) ((rd_T79 x1 x5).f2.f2) ((rd_T79 x1 x5).f2.f3) ((rd_T79 x1 x5).f3) ((rd_T79 x1 x5).f4) ((rd_T79 x1 x5).f5) ((rd_T79 x1 x5).f6) ((rd_T79 x1 x5).f7)).bind fun t408 => (if t408 = true then (laws_eqPortS.l0 k x0 x1 (wrap64 (x5 + 1))) else (some false))) else (none)) else (none)) else (some true)
def laws_eqPortS.f (k : Nat) (l0 : List (S79)) (l1 : List (S79)) : Option (Bool) := if (l0.length : Int) = (l1.length : Int) then (laws_eqPortS.l0 k l0 l1 0) else (some false)
theorem laws_eqPortS.mono_l : ∀ k, (∀ y0 y1 y2, LeO (laws_eqPortS.l0 k y0 y1 y2) (laws_eqPortS.l0 (k + 1) y0 y1 y2))
 | 0 => fun _ _ _ r h => by simp [laws_eqPortS.l0] at h
 | k + 1 => by
  have ih0 := laws_eqPortS.mono_l k
  ·intro y0 y1 y2
   unfold laws_eqPortS.l0
   repeat' first
   | (with_reducible exact ih0 _ _ _)
   | (with_reducible exact LeO.refl _)
   | (with_reducible exact LeO.none _)
   | (with_reducible refine LeO.ite ?_ ?_)
   | (with_reducible refine LeO.bind ?_ (fun _ => ?_))
   | exact ih0 _ _ _
   | exact LeO.none _
   | refine LeO.ite ?_ ?_
   | refine LeO.bind ?_ (fun _ => ?_)
theorem laws_eqPortS.mono : ∀ a0 a1 k, LeO (laws_eqPortS.f k a0 a1) (laws_eqPortS.f (k + 1) a0 a1) := by
 intro a0 a1 k
 have ih0 := laws_eqPortS.mono_l k
 unfold laws_eqPortS.f
 repeat' first
   | (with_reducible exact ih0 _ _ _)
   | (with_reducible exact LeO.refl _)
   | (with_reducible exact LeO.none _)
   | (with_reducible refine LeO.ite ?_ ?_)
   | (with_reducible refine LeO.bind ?_ (fun _ => ?_))
   | exact ih0 _ _ _
   | exact LeO.none _
   | refine LeO.ite ?_ ?_
   | refine LeO.bind ?_ (fun _ => ?_)
def laws_eqPortS.T6 : Bool × List (List Nat × List Nat) := (true, [([], []), ([], []), ([0, 1], [0, 1]), ([2], [2]), ([], []), ([], []), ([4, 5], [4, 5]), ([6], [6]), ([3, 7], [3, 7]), ([8], [8])])
def laws_eqPortS.B6 : List Nat := [0, 0, 3, 7, 0, 0, 48, 112, 255, 511]
theorem laws_eqPortS.tab6 : rtab .any (opsOf Try.f73 6) = laws_eqPortS.T6 := by kernel_rfl
theorem laws_eqPortS.bits6 : waitsOk laws_eqPortS.T6.2 laws_eqPortS.B6 = true := by kernel_rfl
set_option maxHeartbeats 60000000 in
set_option maxRecDepth 100000 in
theorem laws_eqPortS.calls (k : Nat) (A0 : Option Addr) (c0 : Nat) (l0 : List (S79)) (A1 : Option Addr) (c1 : Nat) (l1 : List (S79)) (r : Bool) (w : World) (hr0 : Kd.C k79 w A0 l0.length l0) (hc0 : l0.length ≤ c0) (hr1 : Kd.C k79 w A1 l1.length l1) (hc1 : l1.length ≤ c1) (h : laws_eqPortS.f k l0 l1 = some r) :
  Calls Try.prog 73 #[.slice A0 l0.length c0, .slice A1 l1.length c1] w fun e w' => e = .returned (.bool r) ∧ Below w.heap.size w w' := by
 have hu79 := Try.underlying79
 have HR0 := aM hr0
 have HC0 := aM hc0
 clear hr0 hc0
 have HR1 := aM hr1
 have HC1 := aM hc1
 clear hr1 hc1
 have HB := aM (Below.refl w.heap.size w)
 have H : (if (l0.length : Int) = (l1.length : Int) then (laws_eqPortS.l0 k l0 l1 0) else (some false)) = some r := h
 clear h
 by_cases c3 : (l0.length : Int) = (l1.length : Int)
 case neg =>
  rw [if_neg c3] at H
  have c3b0 : ((l0.length : Int) == (l1.length : Int)) = false := beq_eq_false_iff_ne.mpr c3
  have c3b1 : ((l0.length : Int) != (l1.length : Int)) = true := bne_iff_ne.mpr c3
  have c3b2 : (l0.length == l1.length) = false := by first | simpa using c3 | (simp at c3 ⊢; omega)
  obtain rfl := Option.some.inj H
  go_enter Try.func73, Try.ntmps73
  go_wp2
  go_ret
  exact ⟨xW, bl HB.out⟩
 rw [if_pos c3] at H
 have c3b0 : ((l0.length : Int) == (l1.length : Int)) = true := beq_iff_eq.mpr c3
 have c3b1 : ((l0.length : Int) != (l1.length : Int)) = false := bne_eq_false_iff_eq.mpr c3
 have c3b2 : (l0.length == l1.length) = true := by first | simpa using c3 | (simp at c3 ⊢; omega)
 clear c3
 have H' := aM H
 clear H
 go_enter Try.func73, Try.ntmps73
 go_wp2
 go_loopg [5] k (fun kq v5 w' => ∃ (x5_1 : Int), v5 = .int .i64 x5_1 ∧ Aside0 (laws_eqPortS.l0 kq l0 l1 x5_1 = some r) ∧ Aside0 (kq ≤ k) ∧ Aside0 (Below w.heap.size w w'))
 case atStart => exact ⟨(0), xE, H', ⟨Nat.le_refl _⟩, ⟨bl HB.out⟩⟩
 case round =>
  clear H'
  try clear c1
  try clear p2
  try clear c3
  try clear c3b0
  try clear c3b1
  try clear c3b2
  obtain ⟨x5_1, rfl, HA, HK1, HB⟩ := hrel
  cases gk with
  | zero => exact absurd HA.out (by simp [laws_eqPortS.l0])
  | succ k1 =>
   have H := HA.out
   clear HA
   simp only [laws_eqPortS.l0] at H
   by_cases c4 : x5_1 < (l0.length : Int)
   case neg =>
    rw [if_neg c4] at H
    have c4b0 : decide (x5_1 < (l0.length : Int)) = false := decide_eq_false c4
    clear c4
    obtain rfl := Option.some.inj H
    go_wp2
    go_ret
    exact ⟨xW, bl HB.out⟩
   rw [if_pos c4] at H
   have c4b0 : decide (x5_1 < (l0.length : Int)) = true := decide_eq_true c4
   clear c4
   by_cases c5 : 0 ≤ x5_1
   case neg =>
    rw [if_neg c5] at H
    exact absurd H (by simp)
   rw [if_pos c5] at H
   have c5b0 : decide (0 ≤ x5_1) = true := decide_eq_true c5
   clear c5
   by_cases c6 : x5_1 < (l1.length : Int)
   case neg =>
    rw [if_neg c6] at H
    exact absurd H (by simp)
   rw [if_pos c6] at H
   have c6b0 : decide (x5_1 < (l1.length : Int)) = true := decide_eq_true c6
   clear c6
   replace H := Option.bind_eq_some_iff.mp H
   obtain ⟨t408, A70, H⟩ := H
   replace H : (if t408 = true then (laws_eqPortS.l0 k1 l0 l1 (wrap64 (x5_1 + 1))) else (some false)) = some r := H
   have A7 := aM A70
   clear A70
   by_cases c8 : t408 = true
   case neg =>
    replace c8 := Bool.eq_false_iff.mpr c8
    subst c8
    have H1 : (some false) = some r := by rw [if_neg (show ¬ (false = true) by decide)] at H; exact H
    clear H
    have H := H1
    clear H1
    obtain rfl := Option.some.inj H
    try go_wp2
    replace HB := aM (below_drew1 HB.out)
    have p406 : 0 ≤ (x5_1 : Int) := of_decide_eq_true (by first | (with_reducible assumption) | assumption)
    have q406 : x5_1 < (l0.length : Int) := of_decide_eq_true (by first | (with_reducible assumption) | assumption)
    obtain ⟨ad406, e406, hx406_0, hx406_1, hx406_2, hx406_3, hx406_4, hx406_5, hx406_6, hx406_7, hx406_8, hx406_9, hx406_10⟩ := at_T79 HR0.out x5_1 p406 q406
    have hw406_10 := hx406_10
    have hw406_9 := hx406_9
    have hw406_8 := hx406_8
    have hw406_7 := hx406_7
    have hw406_6 := hx406_6
    have hw406_5 := hx406_5
    have hw406_4 := hx406_4
    have hw406_3 := hx406_3
    have hw406_2 := hx406_2
    have hw406_1 := hx406_1
    have hw406_0 := hx406_0
    cases e406
    replace hx406_0 := xB HB hx406_0
    replace hx406_1 := xB HB hx406_1
    replace hx406_2 := xB HB hx406_2
    replace hx406_3 := xB HB hx406_3
    replace hx406_4 := xB HB hx406_4
    replace hx406_5 := xB HB hx406_5
    replace hx406_6 := xB HB hx406_6
    replace hx406_7 := xB HB hx406_7
    replace hx406_8 := xB HB hx406_8
    replace hx406_9 := xB HB hx406_9
    replace hx406_10 := xB HB hx406_10
    replace p406 := eq_true p406
    replace q406 := eq_true q406
    have p407 : 0 ≤ (x5_1 : Int) := of_decide_eq_true (by first | (with_reducible assumption) | assumption)
    have q407 : x5_1 < (l1.length : Int) := of_decide_eq_true (by first | (with_reducible assumption) | assumption)
    obtain ⟨ad407, e407, hx407_0, hx407_1, hx407_2, hx407_3, hx407_4, hx407_5, hx407_6, hx407_7, hx407_8, hx407_9, hx407_10⟩ := at_T79 HR1.out x5_1 p407 q407
    have hw407_10 := hx407_10
    have hw407_9 := hx407_9
    have hw407_8 := hx407_8
    have hw407_7 := hx407_7
    have hw407_6 := hx407_6
    have hw407_5 := hx407_5
    have hw407_4 := hx407_4
    have hw407_3 := hx407_3
    have hw407_2 := hx407_2
    have hw407_1 := hx407_1
    have hw407_0 := hx407_0
    cases e407
    replace hx407_0 := xB HB hx407_0
    replace hx407_1 := xB HB hx407_1
    replace hx407_2 := xB HB hx407_2
    replace hx407_3 := xB HB hx407_3
    replace hx407_4 := xB HB hx407_4
    replace hx407_5 := xB HB hx407_5
    replace hx407_6 := xB HB hx407_6
    replace hx407_7 := xB HB hx407_7
    replace hx407_8 := xB HB hx407_8
    replace hx407_9 := xB HB hx407_9
    replace hx407_10 := xB HB hx407_10
    replace p407 := eq_true p407
    replace q407 := eq_true q407
    refine start_ (n := 10) (S := fun w' => w'.cell? (ad406.add ((x5_1).toNat * 11)) = some (.bool ((rd_T79 l0 x5_1).f0)) ∧ w'.cell? ⟨(ad406.add ((x5_1).toNat * 11)).block, (ad406.add ((x5_1).toNat * 11)).off + 1, none⟩ = some (.bool ((rd_T79 l0 x5_1).f1)) ∧ w'.cell? ⟨(ad406.add ((x5_1).toNat * 11)).block, (ad406.add ((x5_1).toNat * 11)).off + 2, none⟩ = some (.int .i64 ((rd_T79 l0 x5_1).f2.f0)) ∧ w'.cell? ⟨(ad406.add ((x5_1).toNat * 11)).block, (ad406.add ((x5_1).toNat * 11)).off + 3, none⟩ = some (.int .i64 ((rd_T79 l0 x5_1).f2.f1)) ∧ w'.cell? ⟨(ad406.add ((x5_1).toNat * 11)).block, (ad406.add ((x5_1).toNat * 11)).off + 4, none⟩ = some (.int .i64 ((rd_T79 l0 x5_1).f2.f2)) ∧ w'.cell? ⟨(ad406.add ((x5_1).toNat * 11)).block, (ad406.add ((x5_1).toNat * 11)).off + 5, none⟩ = some (.int .i64 ((rd_T79 l0 x5_1).f2.f3)) ∧ w'.cell? ⟨(ad406.add ((x5_1).toNat * 11)).block, (ad406.add ((x5_1).toNat * 11)).off + 6, none⟩ = some (.int .i64 ((rd_T79 l0 x5_1).f3)) ∧ w'.cell? ⟨(ad406.add ((x5_1).toNat * 11)).block, (ad406.add ((x5_1).toNat * 11)).off + 7, none⟩ = some (.int .i64 ((rd_T79 l0 x5_1).f4)) ∧ w'.cell? ⟨(ad406.add ((x5_1).toNat * 11)).block, (ad406.add ((x5_1).toNat * 11)).off + 8, none⟩ = some (.int .i64 ((rd_T79 l0 x5_1).f5)) ∧ w'.cell? ⟨(ad406.add ((x5_1).toNat * 11)).block, (ad406.add ((x5_1).toNat * 11)).off + 9, none⟩ = some (.int .i64 ((rd_T79 l0 x5_1).f6)) ∧ w'.cell? ⟨(ad406.add ((x5_1).toNat * 11)).block, (ad406.add ((x5_1).toNat * 11)).off + 10, none⟩ = some (.bool ((rd_T79 l0 x5_1).f7)) ∧ w'.cell? (ad407.add ((x5_1).toNat * 11)) = some (.bool ((rd_T79 l1 x5_1).f0)) ∧ w'.cell? ⟨(ad407.add ((x5_1).toNat * 11)).block, (ad407.add ((x5_1).toNat * 11)).off + 1, none⟩ = some (.bool ((rd_T79 l1 x5_1).f1)) ∧ w'.cell? ⟨(ad407.add ((x5_1).toNat * 11)).block, (ad407.add ((x5_1).toNat * 11)).off + 2, none⟩ = some (.int .i64 ((rd_T79 l1 x5_1).f2.f0)) ∧ w'.cell? ⟨(ad407.add ((x5_1).toNat * 11)).block, (ad407.add ((x5_1).toNat * 11)).off + 3, none⟩ = some (.int .i64 ((rd_T79 l1 x5_1).f2.f1)) ∧ w'.cell? ⟨(ad407.add ((x5_1).toNat * 11)).block, (ad407.add ((x5_1).toNat * 11)).off + 4, none⟩ = some (.int .i64 ((rd_T79 l1 x5_1).f2.f2)) ∧ w'.cell? ⟨(ad407.add ((x5_1).toNat * 11)).block, (ad407.add ((x5_1).toNat * 11)).off + 5, none⟩ = some (.int .i64 ((rd_T79 l1 x5_1).f2.f3)) ∧ w'.cell? ⟨(ad407.add ((x5_1).toNat * 11)).block, (ad407.add ((x5_1).toNat * 11)).off + 6, none⟩ = some (.int .i64 ((rd_T79 l1 x5_1).f3)) ∧ w'.cell? ⟨(ad407.add ((x5_1).toNat * 11)).block, (ad407.add ((x5_1).toNat * 11)).off + 7, none⟩ = some (.int .i64 ((rd_T79 l1 x5_1).f4)) ∧ w'.cell? ⟨(ad407.add ((x5_1).toNat * 11)).block, (ad407.add ((x5_1).toNat * 11)).off + 8, none⟩ = some (.int .i64 ((rd_T79 l1 x5_1).f5)) ∧ w'.cell? ⟨(ad407.add ((x5_1).toNat * 11)).block, (ad407.add ((x5_1).toNat * 11)).off + 9, none⟩ = some (.int .i64 ((rd_T79 l1 x5_1).f6)) ∧ w'.cell? ⟨(ad407.add ((x5_1).toNat * 11)).block, (ad407.add ((x5_1).toNat * 11)).off + 10, none⟩ = some (.bool ((rd_T79 l1 x5_1).f7))) (ds := []) (dn 10 0) (by kernel_rfl) rfl rfl ⟨((HB.out.cell (World.block_lt_of_cell? w _ hw406_0)).trans hw406_0), ((HB.out.cell (World.block_lt_of_cell? w _ hw406_1)).trans hw406_1), ((HB.out.cell (World.block_lt_of_cell? w _ hw406_2)).trans hw406_2), ((HB.out.cell (World.block_lt_of_cell? w _ hw406_3)).trans hw406_3), ((HB.out.cell (World.block_lt_of_cell? w _ hw406_4)).trans hw406_4), ((HB.out.cell (World.block_lt_of_cell? w _ hw406_5)).trans hw406_5), ((HB.out.cell (World.block_lt_of_cell? w _ hw406_6)).trans hw406_6), ((HB.out.cell (World.block_lt_of_cell? w _ hw406_7)).trans hw406_7), ((HB.out.cell (World.block_lt_of_cell? w _ hw406_8)).trans hw406_8), ((HB.out.cell (World.block_lt_of_cell? w _ hw406_9)).trans hw406_9), ((HB.out.cell (World.block_lt_of_cell? w _ hw406_10)).trans hw406_10), ((HB.out.cell (World.block_lt_of_cell? w _ hw407_0)).trans hw407_0), ((HB.out.cell (World.block_lt_of_cell? w _ hw407_1)).trans hw407_1), ((HB.out.cell (World.block_lt_of_cell? w _ hw407_2)).trans hw407_2), ((HB.out.cell (World.block_lt_of_cell? w _ hw407_3)).trans hw407_3), ((HB.out.cell (World.block_lt_of_cell? w _ hw407_4)).trans hw407_4), ((HB.out.cell (World.block_lt_of_cell? w _ hw407_5)).trans hw407_5), ((HB.out.cell (World.block_lt_of_cell? w _ hw407_6)).trans hw407_6), ((HB.out.cell (World.block_lt_of_cell? w _ hw407_7)).trans hw407_7), ((HB.out.cell (World.block_lt_of_cell? w _ hw407_8)).trans hw407_8), ((HB.out.cell (World.block_lt_of_cell? w _ hw407_9)).trans hw407_9), ((HB.out.cell (World.block_lt_of_cell? w _ hw407_10)).trans hw407_10)⟩ (fun hHeld => ?_); refine with_tabW laws_eqPortS.tab6 laws_eqPortS.bits6 (fun HT_ HW_ => ?_)
    generalize wr.drew = w11 at HB hx406_0 hx406_1 hx406_10 hx406_2 hx406_3 hx406_4 hx406_5 hx406_6 hx406_7 hx406_8 hx406_9 hx407_0 hx407_1 hx407_10 hx407_2 hx407_3 hx407_4 hx407_5 hx407_6 hx407_7 hx407_8 hx407_9 hHeld ⊢
    refine nY (N := some 17) HT_ ?_
    refine nY (N := some 18) HT_ ?_
    refine nY (N := some 19) HT_ ?_
    refine pY (i := 4) (N := some 21) #[Y,Y,Y,U,Y,U,U,U,U,U] HT_ ?_
    refine pY (i := 5) (N := some 22) #[Y,Y,Y,U,Y,Y,U,U,U,U] HT_ ?_
    refine pY (i := 6) (N := some 23) #[Y,Y,Y,U,Y,Y,Y,U,U,U] HT_ ?_
    refine aY (i := 3) (N := some 20) #[Y,Y,Y,Y,Y,Y,Y,U,U,U] HT_ HW_ hHeld ?_
    refine aY (i := 7) (N := some 24) #[Y,Y,Y,Y,Y,Y,Y,Y,U,U] HT_ HW_ hHeld ?_
    refine one_ (i := 8) (N := some 25) #[Y,Y,Y,Y,Y,Y,Y,Y,Y,U] rfl rfl (one_of HT_.out (by kernel_rfl)) (by decide) (fun K hK => ?_)
    refine goes_ Try.func146 (by kernel_rfl) rfl #[.agg #[.bool ((rd_T79 l0 x5_1).f0), .bool ((rd_T79 l0 x5_1).f1), .int .i64 ((rd_T79 l0 x5_1).f2.f0), .int .i64 ((rd_T79 l0 x5_1).f2.f1), .int .i64 ((rd_T79 l0 x5_1).f2.f2), .int .i64 ((rd_T79 l0 x5_1).f2.f3), .int .i64 ((rd_T79 l0 x5_1).f3), .int .i64 ((rd_T79 l0 x5_1).f4), .int .i64 ((rd_T79 l0 x5_1).f5), .int .i64 ((rd_T79 l0 x5_1).f6), .bool ((rd_T79 l0 x5_1).f7)], .agg #[.bool ((rd_T79 l1 x5_1).f0), .bool ((rd_T79 l1 x5_1).f1), .int .i64 ((rd_T79 l1 x5_1).f2.f0), .int .i64 ((rd_T79 l1 x5_1).f2.f1), .int .i64 ((rd_T79 l1 x5_1).f2.f2), .int .i64 ((rd_T79 l1 x5_1).f2.f3), .int .i64 ((rd_T79 l1 x5_1).f3), .int .i64 ((rd_T79 l1 x5_1).f4), .int .i64 ((rd_T79 l1 x5_1).f5), .int .i64 ((rd_T79 l1 x5_1).f6), .bool ((rd_T79 l1 x5_1).f7)]] (by rfl) rfl rfl xR ?_
    with_reducible refine (laws_eqPort.calls ((rd_T79 l0 x5_1).f0) ((rd_T79 l0 x5_1).f1) ((rd_T79 l0 x5_1).f2.f0) ((rd_T79 l0 x5_1).f2.f1) ((rd_T79 l0 x5_1).f2.f2) ((rd_T79 l0 x5_1).f2.f3) ((rd_T79 l0 x5_1).f3) ((rd_T79 l0 x5_1).f4) ((rd_T79 l0 x5_1).f5) ((rd_T79 l0 x5_1).f6) ((rd_T79 l0 x5_1).f7) ((rd_T79 l1 x5_1).f0) ((rd_T79 l1 x5_1).f1) ((rd_T79 l1 x5_1).f2.f0) ((rd_T79 l1 x5_1).f2.f1) ((rd_T79 l1 x5_1).f2.f2) ((rd_T79 l1 x5_1).f2.f3) ((rd_T79 l1 x5_1).f3) ((rd_T79 l1 x5_1).f4) ((rd_T79 l1 x5_1).f5) ((rd_T79 l1 x5_1).f6) ((rd_T79 l1 x5_1).f7) false _ A7.out).mono ?_
    rintro e w12 ⟨rfl, hb⟩
    refine ⟨_, rfl, ?_⟩
    replace HB := aM (bS (bl HB.out) hb)
    (try clear hb)
    (try clear hb2)
    (try clear hk)
    (try clear hi)
    refine hK.out _ _ ⟨((HB.out.cell (World.block_lt_of_cell? w _ hw406_0)).trans hw406_0), ((HB.out.cell (World.block_lt_of_cell? w _ hw406_1)).trans hw406_1), ((HB.out.cell (World.block_lt_of_cell? w _ hw406_2)).trans hw406_2), ((HB.out.cell (World.block_lt_of_cell? w _ hw406_3)).trans hw406_3), ((HB.out.cell (World.block_lt_of_cell? w _ hw406_4)).trans hw406_4), ((HB.out.cell (World.block_lt_of_cell? w _ hw406_5)).trans hw406_5), ((HB.out.cell (World.block_lt_of_cell? w _ hw406_6)).trans hw406_6), ((HB.out.cell (World.block_lt_of_cell? w _ hw406_7)).trans hw406_7), ((HB.out.cell (World.block_lt_of_cell? w _ hw406_8)).trans hw406_8), ((HB.out.cell (World.block_lt_of_cell? w _ hw406_9)).trans hw406_9), ((HB.out.cell (World.block_lt_of_cell? w _ hw406_10)).trans hw406_10), ((HB.out.cell (World.block_lt_of_cell? w _ hw407_0)).trans hw407_0), ((HB.out.cell (World.block_lt_of_cell? w _ hw407_1)).trans hw407_1), ((HB.out.cell (World.block_lt_of_cell? w _ hw407_2)).trans hw407_2), ((HB.out.cell (World.block_lt_of_cell? w _ hw407_3)).trans hw407_3), ((HB.out.cell (World.block_lt_of_cell? w _ hw407_4)).trans hw407_4), ((HB.out.cell (World.block_lt_of_cell? w _ hw407_5)).trans hw407_5), ((HB.out.cell (World.block_lt_of_cell? w _ hw407_6)).trans hw407_6), ((HB.out.cell (World.block_lt_of_cell? w _ hw407_7)).trans hw407_7), ((HB.out.cell (World.block_lt_of_cell? w _ hw407_8)).trans hw407_8), ((HB.out.cell (World.block_lt_of_cell? w _ hw407_9)).trans hw407_9), ((HB.out.cell (World.block_lt_of_cell? w _ hw407_10)).trans hw407_10)⟩ (fun hHeld => ?_)
    clear hK K
    refine norm_ (a' := ?_) ?_ ?_
    rotate_left
    ·show Act.put _ (some 25) _ = _
     simp only [Act.put, sA, sZ, sS, i64_w, i32_w]
     rfl
    refine pY (i := 9) (N := some 26) #[Y,Y,Y,Y,Y,Y,Y,Y,Y,Y] HT_ ?_
    refine done_ (done_of HT_.out (by kernel_rfl)) ?_
    try go_wp2
    go_ret
    exact ⟨xW, bl HB.out⟩
   subst c8
   have H1 : (laws_eqPortS.l0 k1 l0 l1 (wrap64 (x5_1 + 1))) = some r := by rw [if_pos rfl] at H; exact H
   clear H
   have H := H1
   clear H1
   have H' := aM H
   clear H
   try go_wp2
   replace HB := aM (below_drew1 HB.out)
   have p406 : 0 ≤ (x5_1 : Int) := of_decide_eq_true (by first | (with_reducible assumption) | assumption)
   have q406 : x5_1 < (l0.length : Int) := of_decide_eq_true (by first | (with_reducible assumption) | assumption)
   obtain ⟨ad406, e406, hx406_0, hx406_1, hx406_2, hx406_3, hx406_4, hx406_5, hx406_6, hx406_7, hx406_8, hx406_9, hx406_10⟩ := at_T79 HR0.out x5_1 p406 q406
   have hw406_10 := hx406_10
   have hw406_9 := hx406_9
   have hw406_8 := hx406_8
   have hw406_7 := hx406_7
   have hw406_6 := hx406_6
   have hw406_5 := hx406_5
   have hw406_4 := hx406_4
   have hw406_3 := hx406_3
   have hw406_2 := hx406_2
   have hw406_1 := hx406_1
   have hw406_0 := hx406_0
   cases e406
   replace hx406_0 := xB HB hx406_0
   replace hx406_1 := xB HB hx406_1
   replace hx406_2 := xB HB hx406_2
   replace hx406_3 := xB HB hx406_3
   replace hx406_4 := xB HB hx406_4
   replace hx406_5 := xB HB hx406_5
   replace hx406_6 := xB HB hx406_6
   replace hx406_7 := xB HB hx406_7
   replace hx406_8 := xB HB hx406_8
   replace hx406_9 := xB HB hx406_9
   replace hx406_10 := xB HB hx406_10
   replace p406 := eq_true p406
   replace q406 := eq_true q406
   have p407 : 0 ≤ (x5_1 : Int) := of_decide_eq_true (by first | (with_reducible assumption) | assumption)
   have q407 : x5_1 < (l1.length : Int) := of_decide_eq_true (by first | (with_reducible assumption) | assumption)
   obtain ⟨ad407, e407, hx407_0, hx407_1, hx407_2, hx407_3, hx407_4, hx407_5, hx407_6, hx407_7, hx407_8, hx407_9, hx407_10⟩ := at_T79 HR1.out x5_1 p407 q407
   have hw407_10 := hx407_10
   have hw407_9 := hx407_9
   have hw407_8 := hx407_8
   have hw407_7 := hx407_7
   have hw407_6 := hx407_6
   have hw407_5 := hx407_5
   have hw407_4 := hx407_4
   have hw407_3 := hx407_3
   have hw407_2 := hx407_2
   have hw407_1 := hx407_1
   have hw407_0 := hx407_0
   cases e407
   replace hx407_0 := xB HB hx407_0
   replace hx407_1 := xB HB hx407_1
   replace hx407_2 := xB HB hx407_2
   replace hx407_3 := xB HB hx407_3
   replace hx407_4 := xB HB hx407_4
   replace hx407_5 := xB HB hx407_5
   replace hx407_6 := xB HB hx407_6
   replace hx407_7 := xB HB hx407_7
   replace hx407_8 := xB HB hx407_8
   replace hx407_9 := xB HB hx407_9
   replace hx407_10 := xB HB hx407_10
   replace p407 := eq_true p407
   replace q407 := eq_true q407
   refine start_ (n := 10) (S := fun w' => w'.cell? (ad406.add ((x5_1).toNat * 11)) = some (.bool ((rd_T79 l0 x5_1).f0)) ∧ w'.cell? ⟨(ad406.add ((x5_1).toNat * 11)).block, (ad406.add ((x5_1).toNat * 11)).off + 1, none⟩ = some (.bool ((rd_T79 l0 x5_1).f1)) ∧ w'.cell? ⟨(ad406.add ((x5_1).toNat * 11)).block, (ad406.add ((x5_1).toNat * 11)).off + 2, none⟩ = some (.int .i64 ((rd_T79 l0 x5_1).f2.f0)) ∧ w'.cell? ⟨(ad406.add ((x5_1).toNat * 11)).block, (ad406.add ((x5_1).toNat * 11)).off + 3, none⟩ = some (.int .i64 ((rd_T79 l0 x5_1).f2.f1)) ∧ w'.cell? ⟨(ad406.add ((x5_1).toNat * 11)).block, (ad406.add ((x5_1).toNat * 11)).off + 4, none⟩ = some (.int .i64 ((rd_T79 l0 x5_1).f2.f2)) ∧ w'.cell? ⟨(ad406.add ((x5_1).toNat * 11)).block, (ad406.add ((x5_1).toNat * 11)).off + 5, none⟩ = some (.int .i64 ((rd_T79 l0 x5_1).f2.f3)) ∧ w'.cell? ⟨(ad406.add ((x5_1).toNat * 11)).block, (ad406.add ((x5_1).toNat * 11)).off + 6, none⟩ = some (.int .i64 ((rd_T79 l0 x5_1).f3)) ∧ w'.cell? ⟨(ad406.add ((x5_1).toNat * 11)).block, (ad406.add ((x5_1).toNat * 11)).off + 7, none⟩ = some (.int .i64 ((rd_T79 l0 x5_1).f4)) ∧ w'.cell? ⟨(ad406.add ((x5_1).toNat * 11)).block, (ad406.add ((x5_1).toNat * 11)).off + 8, none⟩ = some (.int .i64 ((rd_T79 l0 x5_1).f5)) ∧ w'.cell? ⟨(ad406.add ((x5_1).toNat * 11)).block, (ad406.add ((x5_1).toNat * 11)).off + 9, none⟩ = some (.int .i64 ((rd_T79 l0 x5_1).f6)) ∧ w'.cell? ⟨(ad406.add ((x5_1).toNat * 11)).block, (ad406.add ((x5_1).toNat * 11)).off + 10, none⟩ = some (.bool ((rd_T79 l0 x5_1).f7)) ∧ w'.cell? (ad407.add ((x5_1).toNat * 11)) = some (.bool ((rd_T79 l1 x5_1).f0)) ∧ w'.cell? ⟨(ad407.add ((x5_1).toNat * 11)).block, (ad407.add ((x5_1).toNat * 11)).off + 1, none⟩ = some (.bool ((rd_T79 l1 x5_1).f1)) ∧ w'.cell? ⟨(ad407.add ((x5_1).toNat * 11)).block, (ad407.add ((x5_1).toNat * 11)).off + 2, none⟩ = some (.int .i64 ((rd_T79 l1 x5_1).f2.f0)) ∧ w'.cell? ⟨(ad407.add ((x5_1).toNat * 11)).block, (ad407.add ((x5_1).toNat * 11)).off + 3, none⟩ = some (.int .i64 ((rd_T79 l1 x5_1).f2.f1)) ∧ w'.cell? ⟨(ad407.add ((x5_1).toNat * 11)).block, (ad407.add ((x5_1).toNat * 11)).off + 4, none⟩ = some (.int .i64 ((rd_T79 l1 x5_1).f2.f2)) ∧ w'.cell? ⟨(ad407.add ((x5_1).toNat * 11)).block, (ad407.add ((x5_1).toNat * 11)).off + 5, none⟩ = some (.int .i64 ((rd_T79 l1 x5_1).f2.f3)) ∧ w'.cell? ⟨(ad407.add ((x5_1).toNat * 11)).block, (ad407.add ((x5_1).toNat * 11)).off + 6, none⟩ = some (.int .i64 ((rd_T79 l1 x5_1).f3)) ∧ w'.cell? ⟨(ad407.add ((x5_1).toNat * 11)).block, (ad407.add ((x5_1).toNat * 11)).off + 7, none⟩ = some (.int .i64 ((rd_T79 l1 x5_1).f4)) ∧ w'.cell? ⟨(ad407.add ((x5_1).toNat * 11)).block, (ad407.add ((x5_1).toNat * 11)).off + 8, none⟩ = some (.int .i64 ((rd_T79 l1 x5_1).f5)) ∧ w'.cell? ⟨(ad407.add ((x5_1).toNat * 11)).block, (ad407.add ((x5_1).toNat * 11)).off + 9, none⟩ = some (.int .i64 ((rd_T79 l1 x5_1).f6)) ∧ w'.cell? ⟨(ad407.add ((x5_1).toNat * 11)).block, (ad407.add ((x5_1).toNat * 11)).off + 10, none⟩ = some (.bool ((rd_T79 l1 x5_1).f7))) (ds := []) (dn 10 0) (by kernel_rfl) rfl rfl ⟨((HB.out.cell (World.block_lt_of_cell? w _ hw406_0)).trans hw406_0), ((HB.out.cell (World.block_lt_of_cell? w _ hw406_1)).trans hw406_1), ((HB.out.cell (World.block_lt_of_cell? w _ hw406_2)).trans hw406_2), ((HB.out.cell (World.block_lt_of_cell? w _ hw406_3)).trans hw406_3), ((HB.out.cell (World.block_lt_of_cell? w _ hw406_4)).trans hw406_4), ((HB.out.cell (World.block_lt_of_cell? w _ hw406_5)).trans hw406_5), ((HB.out.cell (World.block_lt_of_cell? w _ hw406_6)).trans hw406_6), ((HB.out.cell (World.block_lt_of_cell? w _ hw406_7)).trans hw406_7), ((HB.out.cell (World.block_lt_of_cell? w _ hw406_8)).trans hw406_8), ((HB.out.cell (World.block_lt_of_cell? w _ hw406_9)).trans hw406_9), ((HB.out.cell (World.block_lt_of_cell? w _ hw406_10)).trans hw406_10), ((HB.out.cell (World.block_lt_of_cell? w _ hw407_0)).trans hw407_0), ((HB.out.cell (World.block_lt_of_cell? w _ hw407_1)).trans hw407_1), ((HB.out.cell (World.block_lt_of_cell? w _ hw407_2)).trans hw407_2), ((HB.out.cell (World.block_lt_of_cell? w _ hw407_3)).trans hw407_3), ((HB.out.cell (World.block_lt_of_cell? w _ hw407_4)).trans hw407_4), ((HB.out.cell (World.block_lt_of_cell? w _ hw407_5)).trans hw407_5), ((HB.out.cell (World.block_lt_of_cell? w _ hw407_6)).trans hw407_6), ((HB.out.cell (World.block_lt_of_cell? w _ hw407_7)).trans hw407_7), ((HB.out.cell (World.block_lt_of_cell? w _ hw407_8)).trans hw407_8), ((HB.out.cell (World.block_lt_of_cell? w _ hw407_9)).trans hw407_9), ((HB.out.cell (World.block_lt_of_cell? w _ hw407_10)).trans hw407_10)⟩ (fun hHeld => ?_); refine with_tabW laws_eqPortS.tab6 laws_eqPortS.bits6 (fun HT_ HW_ => ?_)
   generalize wr.drew = w9 at HB hx406_0 hx406_1 hx406_10 hx406_2 hx406_3 hx406_4 hx406_5 hx406_6 hx406_7 hx406_8 hx406_9 hx407_0 hx407_1 hx407_10 hx407_2 hx407_3 hx407_4 hx407_5 hx407_6 hx407_7 hx407_8 hx407_9 hHeld ⊢
   refine nY (N := some 17) HT_ ?_
   refine nY (N := some 18) HT_ ?_
   refine nY (N := some 19) HT_ ?_
   refine pY (i := 4) (N := some 21) #[Y,Y,Y,U,Y,U,U,U,U,U] HT_ ?_
   refine pY (i := 5) (N := some 22) #[Y,Y,Y,U,Y,Y,U,U,U,U] HT_ ?_
   refine pY (i := 6) (N := some 23) #[Y,Y,Y,U,Y,Y,Y,U,U,U] HT_ ?_
   refine aY (i := 3) (N := some 20) #[Y,Y,Y,Y,Y,Y,Y,U,U,U] HT_ HW_ hHeld ?_
   refine aY (i := 7) (N := some 24) #[Y,Y,Y,Y,Y,Y,Y,Y,U,U] HT_ HW_ hHeld ?_
   refine one_ (i := 8) (N := some 25) #[Y,Y,Y,Y,Y,Y,Y,Y,Y,U] rfl rfl (one_of HT_.out (by kernel_rfl)) (by decide) (fun K hK => ?_)
   refine goes_ Try.func146 (by kernel_rfl) rfl #[.agg #[.bool ((rd_T79 l0 x5_1).f0), .bool ((rd_T79 l0 x5_1).f1), .int .i64 ((rd_T79 l0 x5_1).f2.f0), .int .i64 ((rd_T79 l0 x5_1).f2.f1), .int .i64 ((rd_T79 l0 x5_1).f2.f2), .int .i64 ((rd_T79 l0 x5_1).f2.f3), .int .i64 ((rd_T79 l0 x5_1).f3), .int .i64 ((rd_T79 l0 x5_1).f4), .int .i64 ((rd_T79 l0 x5_1).f5), .int .i64 ((rd_T79 l0 x5_1).f6), .bool ((rd_T79 l0 x5_1).f7)], .agg #[.bool ((rd_T79 l1 x5_1).f0), .bool ((rd_T79 l1 x5_1).f1), .int .i64 ((rd_T79 l1 x5_1).f2.f0), .int .i64 ((rd_T79 l1 x5_1).f2.f1), .int .i64 ((rd_T79 l1 x5_1).f2.f2), .int .i64 ((rd_T79 l1 x5_1).f2.f3), .int .i64 ((rd_T79 l1 x5_1).f3), .int .i64 ((rd_T79 l1 x5_1).f4), .int .i64 ((rd_T79 l1 x5_1).f5), .int .i64 ((rd_T79 l1 x5_1).f6), .bool ((rd_T79 l1 x5_1).f7)]] (by rfl) rfl rfl xR ?_
   with_reducible refine (laws_eqPort.calls ((rd_T79 l0 x5_1).f0) ((rd_T79 l0 x5_1).f1) ((rd_T79 l0 x5_1).f2.f0) ((rd_T79 l0 x5_1).f2.f1) ((rd_T79 l0 x5_1).f2.f2) ((rd_T79 l0 x5_1).f2.f3) ((rd_T79 l0 x5_1).f3) ((rd_T79 l0 x5_1).f4) ((rd_T79 l0 x5_1).f5) ((rd_T79 l0 x5_1).f6) ((rd_T79 l0 x5_1).f7) ((rd_T79 l1 x5_1).f0) ((rd_T79 l1 x5_1).f1) ((rd_T79 l1 x5_1).f2.f0) ((rd_T79 l1 x5_1).f2.f1) ((rd_T79 l1 x5_1).f2.f2) ((rd_T79 l1 x5_1).f2.f3) ((rd_T79 l1 x5_1).f3) ((rd_T79 l1 x5_1).f4) ((rd_T79 l1 x5_1).f5) ((rd_T79 l1 x5_1).f6) ((rd_T79 l1 x5_1).f7) true _ A7.out).mono ?_
   rintro e w10 ⟨rfl, hb⟩
   refine ⟨_, rfl, ?_⟩
   replace HB := aM (bS (bl HB.out) hb)
   (try clear hb)
   (try clear hb2)
   (try clear hk)
   (try clear hi)
   refine hK.out _ _ ⟨((HB.out.cell (World.block_lt_of_cell? w _ hw406_0)).trans hw406_0), ((HB.out.cell (World.block_lt_of_cell? w _ hw406_1)).trans hw406_1), ((HB.out.cell (World.block_lt_of_cell? w _ hw406_2)).trans hw406_2), ((HB.out.cell (World.block_lt_of_cell? w _ hw406_3)).trans hw406_3), ((HB.out.cell (World.block_lt_of_cell? w _ hw406_4)).trans hw406_4), ((HB.out.cell (World.block_lt_of_cell? w _ hw406_5)).trans hw406_5), ((HB.out.cell (World.block_lt_of_cell? w _ hw406_6)).trans hw406_6), ((HB.out.cell (World.block_lt_of_cell? w _ hw406_7)).trans hw406_7), ((HB.out.cell (World.block_lt_of_cell? w _ hw406_8)).trans hw406_8), ((HB.out.cell (World.block_lt_of_cell? w _ hw406_9)).trans hw406_9), ((HB.out.cell (World.block_lt_of_cell? w _ hw406_10)).trans hw406_10), ((HB.out.cell (World.block_lt_of_cell? w _ hw407_0)).trans hw407_0), ((HB.out.cell (World.block_lt_of_cell? w _ hw407_1)).trans hw407_1), ((HB.out.cell (World.block_lt_of_cell? w _ hw407_2)).trans hw407_2), ((HB.out.cell (World.block_lt_of_cell? w _ hw407_3)).trans hw407_3), ((HB.out.cell (World.block_lt_of_cell? w _ hw407_4)).trans hw407_4), ((HB.out.cell (World.block_lt_of_cell? w _ hw407_5)).trans hw407_5), ((HB.out.cell (World.block_lt_of_cell? w _ hw407_6)).trans hw407_6), ((HB.out.cell (World.block_lt_of_cell? w _ hw407_7)).trans hw407_7), ((HB.out.cell (World.block_lt_of_cell? w _ hw407_8)).trans hw407_8), ((HB.out.cell (World.block_lt_of_cell? w _ hw407_9)).trans hw407_9), ((HB.out.cell (World.block_lt_of_cell? w _ hw407_10)).trans hw407_10)⟩ (fun hHeld => ?_)
   clear hK K
   refine norm_ (a' := ?_) ?_ ?_
   rotate_left
   ·show Act.put _ (some 25) _ = _
    simp only [Act.put, sA, sZ, sS, i64_w, i32_w]
    rfl
   refine pY (i := 9) (N := some 26) #[Y,Y,Y,Y,Y,Y,Y,Y,Y,Y] HT_ ?_
   refine done_ (done_of HT_.out (by kernel_rfl)) ?_
   try go_wp2
   go_roundg k1
   case measure => have := HK1.out; omega
   case rel => exact ⟨(wrap64 (x5_1 + 1)), xE, H', ⟨by have := HK1.out; omega⟩, ⟨bl HB.out⟩⟩

def laws_eqBridge.f (k : Nat) (a0_0 : Int) (l0_1 : List (S79)) (a1_0 : Int) (l1_1 : List (S79)) : Option (Bool) := if a0_0 = a1_0 then ((laws_eqPortS.f k l0_1 l1_1).bind fun t411 => (if t411 = true then (some true) else (some false))) else (some false)
theorem laws_eqBridge.mono : ∀ a0 a1 a2 a3 k, LeO (laws_eqBridge.f k a0 a1 a2 a3) (laws_eqBridge.f (k + 1) a0 a1 a2 a3) := by
 intro a0 a1 a2 a3 k
 unfold laws_eqBridge.f
 repeat' first
   | (with_reducible exact laws_eqPortS.mono _ _ _)
   | (with_reducible exact LeO.refl _)
   | (with_reducible exact LeO.none _)
   | (with_reducible refine LeO.ite ?_ ?_)
   | (with_reducible refine LeO.bind ?_ (fun _ => ?_))
   | exact laws_eqPortS.mono _ _ _
   | exact LeO.none _
   | refine LeO.ite ?_ ?_
   | refine LeO.bind ?_ (fun _ => ?_)
set_option maxHeartbeats 60000000 in
set_option maxRecDepth 100000 in
theorem laws_eqBridge.calls (k : Nat) (a0_0 : Int) (A0_1 : Option Addr) (c0_1 : Nat) (l0_1 : List (S79)) (a1_0 : Int) (A1_1 : Option Addr) (c1_1 : Nat) (l1_1 : List (S79)) (r : Bool) (w : World) (hr0_1 : Kd.C k79 w A0_1 l0_1.length l0_1) (hc0_1 : l0_1.length ≤ c0_1) (hr1_1 : Kd.C k79 w A1_1 l1_1.length l1_1) (hc1_1 : l1_1.length ≤ c1_1) (h : laws_eqBridge.f k a0_0 l0_1 a1_0 l1_1 = some r) :
  Calls Try.prog 16 #[.agg #[.int .i64 a0_0, .slice A0_1 l0_1.length c0_1], .agg #[.int .i64 a1_0, .slice A1_1 l1_1.length c1_1]] w fun e w' => e = .returned (.bool r) ∧ Below w.heap.size w w' := by
 have hu28 := Try.underlying28
 have HR0_1 := aM hr0_1
 have HC0_1 := aM hc0_1
 clear hr0_1 hc0_1
 have HR1_1 := aM hr1_1
 have HC1_1 := aM hc1_1
 clear hr1_1 hc1_1
 have HB := aM (Below.refl w.heap.size w)
 have H : (if a0_0 = a1_0 then ((laws_eqPortS.f k l0_1 l1_1).bind fun t411 => (if t411 = true then (some true) else (some false))) else (some false)) = some r := h
 clear h
 by_cases c3 : a0_0 = a1_0
 case neg =>
  rw [if_neg c3] at H
  have c3b0 : (a0_0 == a1_0) = false := beq_eq_false_iff_ne.mpr c3
  have c3b1 : (a0_0 != a1_0) = true := bne_iff_ne.mpr c3
  obtain rfl := Option.some.inj H
  go_enter Try.func16, Try.ntmps16
  go_wp2_with (first | ((with_reducible refine gD (N := 2) rfl ?_); refine bE (N := 2) (cs := #[.int .i64 a0_0, .slice A0_1 l0_1.length c0_1]) (t := 28) ?_; intro gb409 hg w18 hbox hb; have BK409 := aM (hbox); have GW409 := gE hg (below_size (bl HB.out)); have GE409 := gE hg (below_size (bl HB.out)); replace HB := aM (bS (bl HB.out) hb); clear hb hbox hg) | ((with_reducible refine gD (N := 3) rfl ?_); refine bE (N := 3) (cs := #[.int .i64 a1_0, .slice A1_1 l1_1.length c1_1]) (t := 28) ?_; intro gb410 hg w19 hbox hb; have BK410 := aM (hbox); have GW410 := gE hg (below_size (bl HB.out)); have GE410 := gE hg (below_size (bl HB.out)); have NB409_410 := nL hg (blk_lt (bk BK409.out)); have NB410_409 := nG hg (blk_lt (bk BK409.out)); replace BK409 := aM (bB (bk BK409.out) hb); replace HB := aM (bS (bl HB.out) hb); clear hb hbox hg; have hnb20 := NB409_410.out; have hnc20 := NB410_409.out; have hcz21 := cA2 BK409.out; have hcz22 := cA2 BK410.out))
  go_ret
  exact ⟨xW, bl HB.out⟩
 rw [if_pos c3] at H
 have c3b0 : (a0_0 == a1_0) = true := beq_iff_eq.mpr c3
 have c3b1 : (a0_0 != a1_0) = false := bne_eq_false_iff_eq.mpr c3
 clear c3
 replace H := Option.bind_eq_some_iff.mp H
 obtain ⟨t411, A40, H⟩ := H
 replace H : (if t411 = true then (some true) else (some false)) = some r := H
 have A4 := aM A40
 clear A40
 by_cases c5 : t411 = true
 case pos =>
  subst c5
  have H1 : (some true) = some r := by rw [if_pos rfl] at H; exact H
  clear H
  have H := H1
  clear H1
  obtain rfl := Option.some.inj H
  go_enter Try.func16, Try.ntmps16
  go_wp2_with (first | ((with_reducible refine gD (N := 2) rfl ?_); refine bE (N := 2) (cs := #[.int .i64 a0_0, .slice A0_1 l0_1.length c0_1]) (t := 28) ?_; intro gb409 hg w6 hbox hb; have BK409 := aM (hbox); have GW409 := gE hg (below_size (bl HB.out)); have GE409 := gE hg (below_size (bl HB.out)); replace HB := aM (bS (bl HB.out) hb); clear hb hbox hg) | ((with_reducible refine gD (N := 3) rfl ?_); refine bE (N := 3) (cs := #[.int .i64 a1_0, .slice A1_1 l1_1.length c1_1]) (t := 28) ?_; intro gb410 hg w7 hbox hb; have BK410 := aM (hbox); have GW410 := gE hg (below_size (bl HB.out)); have GE410 := gE hg (below_size (bl HB.out)); have NB409_410 := nL hg (blk_lt (bk BK409.out)); have NB410_409 := nG hg (blk_lt (bk BK409.out)); replace BK409 := aM (bB (bk BK409.out) hb); replace HB := aM (bS (bl HB.out) hb); clear hb hbox hg; have hnb8 := NB409_410.out; have hnc8 := NB410_409.out; have hcz9 := cA2 BK409.out; have hcz10 := cA2 BK410.out) | ((with_reducible refine gC (f := 73) rfl ?_); refine gL (some 14) Try.func73 #[.slice A0_1 l0_1.length c0_1, .slice A1_1 l1_1.length c1_1] ?_; (with_reducible refine (laws_eqPortS.calls k _ _ l0_1 _ _ l1_1 true _ ?side1 ?side2 ?side3 ?side4 A4.out).mono ?_); (case side1 => repeat (first | exact (cB HR0_1.out HB.out) | (with_reducible refine Kd.C_alloc ?_ _) | (with_reducible refine Kd.C_drewN ?_ _) | (with_reducible refine Kd.C_drew ?_))); (case side2 => exact HC0_1.out); (case side3 => repeat (first | exact (cB HR1_1.out HB.out) | (with_reducible refine Kd.C_alloc ?_ _) | (with_reducible refine Kd.C_drewN ?_ _) | (with_reducible refine Kd.C_drew ?_))); (case side4 => exact HC1_1.out); rintro e w11 ⟨rfl, hb⟩; refine ⟨_, rfl, ?_⟩; replace BK409 := aM (bB (bk BK409.out) hb); replace BK410 := aM (bB (bk BK410.out) hb); replace HB := aM (bS (bl HB.out) hb); (try clear hb)))
  go_ret
  exact ⟨xW, bl HB.out⟩
 replace c5 := Bool.eq_false_iff.mpr c5
 subst c5
 have H1 : (some false) = some r := by rw [if_neg (show ¬ (false = true) by decide)] at H; exact H
 clear H
 have H := H1
 clear H1
 obtain rfl := Option.some.inj H
 go_enter Try.func16, Try.ntmps16
 go_wp2_with (first | ((with_reducible refine gD (N := 2) rfl ?_); refine bE (N := 2) (cs := #[.int .i64 a0_0, .slice A0_1 l0_1.length c0_1]) (t := 28) ?_; intro gb409 hg w12 hbox hb; have BK409 := aM (hbox); have GW409 := gE hg (below_size (bl HB.out)); have GE409 := gE hg (below_size (bl HB.out)); replace HB := aM (bS (bl HB.out) hb); clear hb hbox hg) | ((with_reducible refine gD (N := 3) rfl ?_); refine bE (N := 3) (cs := #[.int .i64 a1_0, .slice A1_1 l1_1.length c1_1]) (t := 28) ?_; intro gb410 hg w13 hbox hb; have BK410 := aM (hbox); have GW410 := gE hg (below_size (bl HB.out)); have GE410 := gE hg (below_size (bl HB.out)); have NB409_410 := nL hg (blk_lt (bk BK409.out)); have NB410_409 := nG hg (blk_lt (bk BK409.out)); replace BK409 := aM (bB (bk BK409.out) hb); replace HB := aM (bS (bl HB.out) hb); clear hb hbox hg; have hnb14 := NB409_410.out; have hnc14 := NB410_409.out; have hcz15 := cA2 BK409.out; have hcz16 := cA2 BK410.out) | ((with_reducible refine gC (f := 73) rfl ?_); refine gL (some 14) Try.func73 #[.slice A0_1 l0_1.length c0_1, .slice A1_1 l1_1.length c1_1] ?_; (with_reducible refine (laws_eqPortS.calls k _ _ l0_1 _ _ l1_1 false _ ?side1 ?side2 ?side3 ?side4 A4.out).mono ?_); (case side1 => repeat (first | exact (cB HR0_1.out HB.out) | (with_reducible refine Kd.C_alloc ?_ _) | (with_reducible refine Kd.C_drewN ?_ _) | (with_reducible refine Kd.C_drew ?_))); (case side2 => exact HC0_1.out); (case side3 => repeat (first | exact (cB HR1_1.out HB.out) | (with_reducible refine Kd.C_alloc ?_ _) | (with_reducible refine Kd.C_drewN ?_ _) | (with_reducible refine Kd.C_drew ?_))); (case side4 => exact HC1_1.out); rintro e w17 ⟨rfl, hb⟩; refine ⟨_, rfl, ?_⟩; replace BK409 := aM (bB (bk BK409.out) hb); replace BK410 := aM (bB (bk BK410.out) hb); replace HB := aM (bS (bl HB.out) hb); (try clear hb)))
 go_ret
 exact ⟨xW, bl HB.out⟩

end Go.Proofs.Ythmijfekdeagpaa.PFnExactDecide

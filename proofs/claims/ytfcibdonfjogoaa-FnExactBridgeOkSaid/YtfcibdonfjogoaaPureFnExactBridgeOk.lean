/- The statement of laws.FnExactBridgeOk over numbers and lists alone: at every input it answers true. No condition but that the numbers are those of their kinds and that no slice is longer than a Go slice can be. -/
import Derived.Test.YtfcibdonfjogoaaPFnExactBridgeOkx7
import Derived.Test.YtfcibdonfjogoaaBase
set_option linter.unusedVariables false
set_option linter.unusedSimpArgs false
namespace Go.Proofs.Ytfcibdonfjogoaa.Pure
open Go.RowKit Go.Proofs.Ytfcibdonfjogoaa.PFnExactBridgeOk Go.Proofs.Ytfcibdonfjogoaa.Base Go.Proofs.YtfcibdonfjogoaaW.PrintWords Go.Proofs.YtfcibdonfjogoaaW.PrintLast Go.Proofs.YtfcibdonfjogoaaW.PrintMore
def FnExactBridgeOkPure : Prop := ∀ (a0_0 : Int) (l0_1 : List (S45)), ((Lit.int .i64 a0_0).wf = true) → (l0_1.length ≤ maxLen ∧ ∀ x ∈ l0_1, (True) ∧ (True) ∧ (((Lit.int .i64 x.f2.f0).wf = true) ∧ ((Lit.int .i64 x.f2.f1).wf = true) ∧ ((Lit.int .i64 x.f2.f2).wf = true) ∧ ((Lit.int .i64 x.f2.f3).wf = true)) ∧ ((Lit.int .i64 x.f3).wf = true) ∧ ((Lit.int .i64 x.f4).wf = true) ∧ ((Lit.int .i64 x.f5).wf = true) ∧ ((Lit.int .i64 x.f6).wf = true) ∧ (True)) → ∃ k, laws_FnExactBridgeOk.f k a0_0 l0_1 = some true
def vecOk (r c b p : Int) : Bool := decide (1 ≤ r ∧ r ≤ 9) && (decide (1 ≤ b ∧ b ≤ 9) && (decide (r ≤ b) && (decide (0 ≤ c ∧ c ≤ 20) && (((c == 0) == (r == b)) && decide (0 ≤ p ∧ p ≤ 3)))))
theorem vecOk_iff (r c b p : Int) : vecOk r c b p = true ↔ (1 ≤ r ∧ r ≤ 9) ∧ (1 ≤ b ∧ b ≤ 9) ∧ r ≤ b ∧ (0 ≤ c ∧ c ≤ 20) ∧ (c = 0 ↔ r = b) ∧ 0 ≤ p ∧ p ≤ 3 := by
  unfold vecOk
  have e1 : (c == 0) = decide (c = 0) := by by_cases h : c = 0 <;> simp [h]
  have e2 : (r == b) = decide (r = b) := by by_cases h : r = b <;> simp [h]
  rw [e1, e2]
  by_cases h1 : c = 0 <;> by_cases h2 : r = b <;> simp [h1, h2]
structure Prt where
  up : Bool
  has : Bool
  r : Int
  c : Int
  b : Int
  p : Int
  hops : Int
  left : Int
  role : Int
  wait : Int
  op : Bool
def Prt.tup (q : Prt) : Bool × Bool × Int × Int × Int × Int × Int × Int × Int × Int × Bool := (q.up, q.has, q.r, q.c, q.b, q.p, q.hops, q.left, q.role, q.wait, q.op)
def openBy (role wait : Int) : Bool := (role == 1 || role == 2) && wait == 0
def tailOk (up : Bool) (role wait : Int) (op : Bool) : Bool := decide (0 ≤ role ∧ role ≤ 3) && (((role == 0) == !up) && (decide (0 ≤ wait ∧ wait ≤ 4) && (op == openBy role wait)))
def headOk (q : Prt) : Bool :=
  if q.has then q.up && (vecOk q.r q.c q.b q.p && (decide (0 ≤ q.hops ∧ q.hops ≤ 8) && decide (1 ≤ q.left ∧ q.left ≤ 3)))
  else decide (q.r = 0) && (decide (q.c = 0) && (decide (q.b = 0) && (decide (q.p = 0) && (decide (q.hops = 0) && decide (q.left = 0)))))
def portOk (q : Prt) : Bool := headOk q && tailOk q.up q.role q.wait q.op
abbrev VB := S46
abbrev PB := S48
def pprt (x : PB) : Prt := ⟨x.f0, x.f1, x.f2.f0, x.f2.f1, x.f2.f2, x.f2.f3, x.f3, x.f4, x.f5, x.f6, x.f7⟩
theorem rdPB {l : List PB} {i : Nat} {x : PB} (h : l[i]? = some x) : rd_T48 l (i : Int) = x := getD_at h
theorem rdPB_set {l : List PB} {i : Nat} (h : i < l.length) (v : PB) : rd_T48 (l.set i v) (i : Int) = v := rdPB (by simp [h])
def portsOk : List PB → Bool
  | [] => true
  | x :: t => portOk (pprt x) && portsOk t
def bridgeOk (id : Int) (l : List PB) : Bool := portsOk l && (decide (1 ≤ id ∧ id ≤ 9) && decide (1 ≤ l.length ∧ l.length ≤ 4))
theorem portsOk_iff : ∀ l : List PB, portsOk l = true ↔ ∀ x ∈ l, portOk (pprt x) = true := by
  intro l
  induction l with
  | nil => simp [portsOk]
  | cons x t ih => simp [portsOk, ih]
theorem l1In_eq (x lo hi : Int) : spec_l1In.f x lo hi = some (decide (lo ≤ x ∧ x ≤ hi)) := by
  simp only [spec_l1In.f]
  by_cases h : lo ≤ x
  · rw [if_pos h]; simp [h]
  · rw [if_neg h]; simp [h]
theorem specVecOk_eq (r c b p : Int) : spec_VecOk.f r c b p = some (vecOk r c b p) := by
  simp only [spec_VecOk.f, l1In_eq, Option.bind_some, vecOk]
  by_cases h1 : 1 ≤ r ∧ r ≤ 9 <;> by_cases h2 : 1 ≤ b ∧ b ≤ 9 <;> by_cases h3 : r ≤ b <;> by_cases h4 : 0 ≤ c ∧ c ≤ 20 <;> by_cases h5 : 0 ≤ p ∧ p ≤ 3 <;> simp [h1, h2, h3, h4, h5]
  all_goals (first | (cases (c == 0) <;> cases (r == b) <;> rfl) | omega)
theorem specPortTail0 (k : Nat) (fl up has : Bool) (r c b p hops left role wait : Int) (op : Bool) : spec_PortOk.j0 (k + 1) fl up has r c b p hops left role wait op = some (!fl && tailOk up role wait op) := by
  simp only [spec_PortOk.j0, l1In_eq, Option.bind_some, tailOk, openBy]
  cases fl
  · by_cases h1 : role = 1
    · subst h1
      by_cases hw : 0 ≤ wait ∧ wait ≤ 4 <;> cases up <;> simp [hw]
    · by_cases h2 : role = 2
      · subst h2
        by_cases hw : 0 ≤ wait ∧ wait ≤ 4 <;> cases up <;> simp [hw]
      · by_cases hr : 0 ≤ role ∧ role ≤ 3 <;> by_cases hw : 0 ≤ wait ∧ wait ≤ 4 <;> by_cases h0 : role = 0 <;> cases up <;> cases op <;> simp [h1, h2, hr, hw, h0]
  · simp
theorem specPortTail1 (k : Nat) (fl up has : Bool) (r c b p hops left role wait : Int) (op : Bool) : spec_PortOk.j1 (k + 1) fl up has r c b p hops left role wait op = some (!fl && tailOk up role wait op) := by
  simp only [spec_PortOk.j1, l1In_eq, Option.bind_some, tailOk, openBy]
  cases fl
  · by_cases h1 : role = 1
    · subst h1
      by_cases hw : 0 ≤ wait ∧ wait ≤ 4 <;> cases up <;> simp [hw]
    · by_cases h2 : role = 2
      · subst h2
        by_cases hw : 0 ≤ wait ∧ wait ≤ 4 <;> cases up <;> simp [hw]
      · by_cases hr : 0 ≤ role ∧ role ≤ 3 <;> by_cases hw : 0 ≤ wait ∧ wait ≤ 4 <;> by_cases h0 : role = 0 <;> cases up <;> cases op <;> simp [h1, h2, hr, hw, h0]
  · simp
theorem specPortOk_ev (up has : Bool) (r c b p hops left role wait : Int) (op : Bool) : Ev (fun k => spec_PortOk.f k up has r c b p hops left role wait op) (portOk ⟨up, has, r, c, b, p, hops, left, role, wait, op⟩) := by
  refine ev_end fun k => ?_
  simp only [spec_PortOk.f, specVecOk_eq, l1In_eq, Option.bind_some, specPortTail0, specPortTail1, portOk, headOk]
  cases has
  · by_cases r0 : r = 0 <;> by_cases c0 : c = 0 <;> by_cases b0 : b = 0 <;> by_cases p0 : p = 0 <;> by_cases h0 : hops = 0 <;> by_cases l0 : left = 0 <;> simp [r0, c0, b0, p0, h0, l0]
  · cases up <;> cases vecOk r c b p <;> by_cases h0 : 0 ≤ hops ∧ hops ≤ 8 <;> by_cases l0 : 1 ≤ left ∧ left ≤ 3 <;> simp [h0, l0]
theorem specBridgeOk_ev (id : Int) (l : List PB) (h : l.length ≤ 4194304) : Ev (fun k => spec_BridgeOk.f k id l) (bridgeOk id l) := by
  refine ev_list0 l (fun k i => spec_BridgeOk.l0 k i id l) (fun t => portsOk t && (decide (1 ≤ id ∧ id ≤ 9) && decide (1 ≤ l.length ∧ l.length ≤ 4)))
    (ev_end fun k => ?_)
    (fun i x t hi _ hx ih => ?_)
  · simp only [spec_BridgeOk.l0]
    rw [if_neg (by omega)]
    simp only [l1In_eq, Option.bind_some, portsOk, Bool.true_and]
    by_cases a : 1 ≤ id ∧ id ≤ 9
    · have e : decide (1 ≤ (l.length : Int) ∧ (l.length : Int) ≤ 4) = decide (1 ≤ l.length ∧ l.length ≤ 4) := by rw [decide_eq_decide]; omega
      simp only [a, and_self, decide_true, if_true, Bool.true_and, e]
    · simp [a]
  · refine Ev.step (f := fun k => (spec_PortOk.f k x.f0 x.f1 x.f2.f0 x.f2.f1 x.f2.f2 x.f2.f3 x.f3 x.f4 x.f5 x.f6 x.f7).bind fun t122 => (if t122 = true then (spec_BridgeOk.l0 k ((i + 1 : Nat) : Int) id l) else (some false))) (fun k => ?_) (Ev.bind (specPortOk_ev _ _ _ _ _ _ _ _ _ _ _) ?_)
    · simp only [spec_BridgeOk.l0]
      rw [if_pos (by omega), if_pos (by omega), rdPB hx, w64_succ (by omega)]
    · cases hp : portOk (pprt x) with
      | true =>
        have hp' := hp
        simp only [pprt] at hp'
        simp only [hp', if_true, portsOk, hp, Bool.true_and]
        exact ih
      | false =>
        have hp' := hp
        simp only [pprt] at hp'
        refine ev_some fun k => ?_
        simp [hp', portsOk, hp]
theorem inRange_eq (x lo hi : Int) : impl_inRange.f x lo hi = some (decide (lo ≤ x ∧ x ≤ hi)) := by
  simp only [impl_inRange.f]
  by_cases h : lo ≤ x
  · rw [if_pos h]; simp [h]
  · rw [if_neg h]; simp [h]
theorem isPort_eq (x : Int) : impl_isPort.f x = some (decide (0 ≤ x ∧ x ≤ 3)) := by simp [impl_isPort.f, inRange_eq]
theorem implVecOk_eq (r c b p : Int) : impl_VecOk.f r c b p = some (vecOk r c b p) := by
  simp only [impl_VecOk.f, inRange_eq, isPort_eq, Option.bind_some, vecOk]
  by_cases h1 : 1 ≤ r ∧ r ≤ 9 <;> by_cases h2 : 1 ≤ b ∧ b ≤ 9 <;> by_cases h3 : r ≤ b <;> by_cases h4 : 0 ≤ c ∧ c ≤ 20 <;> by_cases h5 : 0 ≤ p ∧ p ≤ 3 <;> simp [h1, h2, h3, h4, h5]
  all_goals (first | (cases (c == 0) <;> cases (r == b) <;> rfl) | omega)
theorem isHops_eq (x : Int) : impl_isHops.f x = some (decide (0 ≤ x ∧ x ≤ 8)) := by simp [impl_isHops.f, inRange_eq]
theorem isOpenBy_eq (up has : Bool) (r c b p hops left role wait : Int) (op : Bool) : impl_Port_isOpenBy.f up has r c b p hops left role wait op = some (openBy role wait) := by
  simp only [impl_Port_isOpenBy.f, openBy]
  by_cases h1 : role = 1 <;> by_cases h2 : role = 2 <;> simp [h1, h2]
theorem implPortTail1 (k : Nat) (fl up has : Bool) (r c b p hops left role wait : Int) (op : Bool) : impl_PortOk.j1 (k + 1) fl up has r c b p hops left role wait op = some (!fl && tailOk up role wait op) := by
  simp only [impl_PortOk.j1, inRange_eq, isOpenBy_eq, Option.bind_some, tailOk]
  cases fl
  · by_cases hr : 0 ≤ role ∧ role ≤ 3 <;> by_cases hw : 0 ≤ wait ∧ wait ≤ 4 <;> by_cases h0 : role = 0 <;> cases up <;> simp [hr, hw, h0]
  · simp
theorem implPortOk_ev (up has : Bool) (r c b p hops left role wait : Int) (op : Bool) : Ev (fun k => impl_PortOk.f k up has r c b p hops left role wait op) (portOk ⟨up, has, r, c, b, p, hops, left, role, wait, op⟩) := by
  refine ⟨2, fun k hk => ?_⟩
  obtain ⟨j, rfl⟩ : ∃ j, k = j + 2 := ⟨k - 2, by omega⟩
  simp only [impl_PortOk.f, impl_PortOk.j0, implVecOk_eq, inRange_eq, isHops_eq, Option.bind_some, implPortTail1, portOk, headOk]
  cases has
  · by_cases r0 : r = 0 <;> by_cases c0 : c = 0 <;> by_cases b0 : b = 0 <;> by_cases p0 : p = 0 <;> by_cases h0 : hops = 0 <;> by_cases l0 : left = 0 <;> simp [r0, c0, b0, p0, h0, l0]
  · cases up <;> cases vecOk r c b p <;> by_cases h0 : 0 ≤ hops ∧ hops ≤ 8 <;> by_cases l0 : 1 ≤ left ∧ left ≤ 3 <;> simp [h0, l0]
theorem implBridgeOk_ev (id : Int) (l : List PB) (h : l.length ≤ 4194304) : Ev (fun k => impl_BridgeOk.f k id l) (bridgeOk id l) := by
  refine ev_list0 l (fun k i => impl_BridgeOk.l0 k l (l.length : Int) i id l) (fun t => portsOk t && (decide (1 ≤ id ∧ id ≤ 9) && decide (1 ≤ l.length ∧ l.length ≤ 4)))
    (ev_end fun k => ?_)
    (fun i x t hi _ hx ih => ?_)
  · simp only [impl_BridgeOk.l0]
    rw [if_neg (by omega)]
    simp only [inRange_eq, Option.bind_some, portsOk, Bool.true_and]
    by_cases a : 1 ≤ id ∧ id ≤ 9
    · have e : decide (1 ≤ (l.length : Int) ∧ (l.length : Int) ≤ 4) = decide (1 ≤ l.length ∧ l.length ≤ 4) := by rw [decide_eq_decide]; omega
      simp only [a, and_self, decide_true, if_true, Bool.true_and, e]
    · simp [a]
  · refine Ev.step (f := fun k => (impl_PortOk.f k x.f0 x.f1 x.f2.f0 x.f2.f1 x.f2.f2 x.f2.f3 x.f3 x.f4 x.f5 x.f6 x.f7).bind fun t122 => (if t122 = true then (impl_BridgeOk.l0 k l (l.length : Int) ((i + 1 : Nat) : Int) id l) else (some false))) (fun k => ?_) (Ev.bind (implPortOk_ev _ _ _ _ _ _ _ _ _ _ _) ?_)
    · simp only [impl_BridgeOk.l0]
      rw [if_pos (by omega), if_pos (by omega), if_pos (by omega), rdPB hx, w64_succ (by omega)]
    · cases hp : portOk (pprt x) with
      | true =>
        have hp' := hp
        simp only [pprt] at hp'
        simp only [hp', if_true, portsOk, hp, Bool.true_and]
        exact ih
      | false =>
        have hp' := hp
        simp only [pprt] at hp'
        refine ev_some fun k => ?_
        simp [hp', portsOk, hp]
abbrev PA := S45
def pcv (x : PA) : PB := ⟨x.f0, x.f1, ⟨x.f2.f0, x.f2.f1, x.f2.f2, x.f2.f3⟩, x.f3, x.f4, x.f5, x.f6, x.f7⟩
theorem rdPA {l : List PA} {i : Nat} {x : PA} (h : l[i]? = some x) : rd_T45 l (i : Int) = x := getD_at h
theorem szPortS_eq (l : List PA) (n : Int) (h : l.length ≤ maxLen) (h0 : 0 ≤ n) (h1 : n ≤ 1048576) : laws_szPortS.f l n = some (if (l.length : Int) ≤ n then n - l.length else -1) := by
  unfold maxLen at h
  simp only [laws_szPortS.f]
  rw [w64 (by omega) (by omega)]
  by_cases hl : (l.length : Int) ≤ n
  · rw [if_neg (by omega), if_pos hl]
  · rw [if_pos (by omega), if_neg hl]
theorem szBridge_eq (a : Int) (l : List PA) (n : Int) (h : l.length ≤ maxLen) (h0 : 0 ≤ n) (h1 : n ≤ 1048576) : laws_szBridge.f a l n = some (if (l.length : Int) ≤ n then n - l.length else -1) := by
  simp only [laws_szBridge.f, szPortS_eq l n h h0 h1, Option.bind_some]
  split
  · split <;> simp_all
    omega
  · simp
theorem toPortS_ev (l : List PA) (h : l.length ≤ 4194304) : Ev (fun k => laws_toPortS.f k l) (l.map pcv) := by
  have h0 := ev_copy l z48 pcv (fun k acc i => laws_toPortS.l0 k l acc i)
    (fun acc ha => ev_end fun k => by simp only [laws_toPortS.l0]; rw [if_neg (by omega)])
    (fun i acc x r ha hi hx ih => Ev.step (fun k => by
      simp only [laws_toPortS.l0, laws_toPort.f, laws_toVec.f, Option.bind_some]
      rw [if_pos (by omega), if_pos (by omega), if_pos (by omega), rdPA hx, w64_succ (by omega)]
      simp [pcv]) ih)
  refine Ev.congr (fun k => ?_) h0
  simp only [laws_toPortS.f]
  rw [if_pos (by omega), if_pos (by simp; omega)]
  simp
theorem toBridge_ev (a : Int) (l : List PA) (h : l.length ≤ 4194304) : Ev (fun k => laws_toBridge.f k a l) (a, l.map pcv) := by
  simp only [laws_toBridge.f]
  exact Ev.bind (toPortS_ev l h) (ev_some fun _ => rfl)
theorem eqPort_eq (a0 a1 : Bool) (a2 a3 a4 a5 a6 a7 a8 a9 : Int) (a10 : Bool) : laws_eqPort.f a0 a1 a2 a3 a4 a5 a6 a7 a8 a9 a10 a0 a1 a2 a3 a4 a5 a6 a7 a8 a9 a10 = some true := by
  simp [laws_eqPort.f, laws_eqVec.f]
theorem eqPortS_ev (l : List PB) (h : l.length ≤ 4194304) : Ev (fun k => laws_eqPortS.f k l l) true := by
  have h0 := ev_list0 l (fun k i => laws_eqPortS.l0 k l l i) (fun _ => true)
    (ev_end fun k => by simp only [laws_eqPortS.l0]; rw [if_neg (by omega)])
    (fun i x t hi _ hx ih => Ev.step (fun k => by
      simp only [laws_eqPortS.l0, eqPort_eq, Option.bind_some, if_true]
      rw [if_pos (by omega), if_pos (by omega), if_pos (by omega), w64_succ (by omega)]) ih)
  refine Ev.congr (fun k => ?_) h0
  simp [laws_eqPortS.f]
theorem eqBridge_ev (a : Int) (l : List PB) (h : l.length ≤ 4194304) : Ev (fun k => laws_eqBridge.f k a l a l) true := by
  simp only [laws_eqBridge.f, if_true]
  exact Ev.bind (eqPortS_ev l h) (ev_some fun _ => rfl)
theorem FnExactBridgeOk : FnExactBridgeOkPure := by
  intro a l _ hl
  have hsz := szBridge_eq a l 1048576 hl.1 (by omega) (by omega)
  by_cases hbig : ¬ ((l.length : Int) ≤ 1048576)
  · exact ⟨0, by simp [laws_FnExactBridgeOk.f, hsz, hbig]⟩
  have hbig : (l.length : Int) ≤ 1048576 := by omega
  have hm : (l.map pcv).length ≤ 4194304 := by simp; omega
  obtain ⟨K1, h1⟩ := toBridge_ev a l (by omega)
  obtain ⟨K2, h2⟩ := specBridgeOk_ev a (l.map pcv) hm
  obtain ⟨K3, h3⟩ := implBridgeOk_ev a (l.map pcv) hm
  obtain ⟨K4, h4⟩ := eqBridge_ev a (l.map pcv) hm
  refine ⟨K1 + K2 + K3 + K4, ?_⟩
  have e : ¬ ((1048576 : Int) - l.length < 0) := by omega
  simp (disch := omega) [laws_FnExactBridgeOk.f, h1, h2, h3, h4, hsz, hbig, e]
end Go.Proofs.Ytfcibdonfjogoaa.Pure

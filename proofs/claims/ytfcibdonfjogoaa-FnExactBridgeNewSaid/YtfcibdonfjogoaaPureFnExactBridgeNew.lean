/- The statement of laws.FnExactBridgeNew over numbers and lists alone: at every input it answers true. No condition but that the numbers are those of their kinds and that no slice is longer than a Go slice can be. -/
import Derived.Test.YtfcibdonfjogoaaPFnExactBridgeNewx6
import Derived.Test.YtfcibdonfjogoaaBase
set_option linter.unusedVariables false
set_option linter.unusedSimpArgs false
namespace Go.Proofs.Ytfcibdonfjogoaa.Pure
open Go.RowKit Go.Proofs.Ytfcibdonfjogoaa.PFnExactBridgeNew Go.Proofs.Ytfcibdonfjogoaa.Base Go.Proofs.YtfcibdonfjogoaaW.PrintWords Go.Proofs.YtfcibdonfjogoaaW.PrintLast Go.Proofs.YtfcibdonfjogoaaW.PrintMore
def FnExactBridgeNewPure : Prop := ∀ (a0 : Int) (a1 : Int), ((Lit.int .i64 a0).wf = true) → ((Lit.int .i64 a1).wf = true) → ∃ k, laws_FnExactBridgeNew.f k a0 a1 = some true
def vecOk (r c b p : Int) : Bool := decide (1 ≤ r ∧ r ≤ 9) && (decide (1 ≤ b ∧ b ≤ 9) && (decide (r ≤ b) && (decide (0 ≤ c ∧ c ≤ 20) && (((c == 0) == (r == b)) && decide (0 ≤ p ∧ p ≤ 3)))))
theorem vecOk_iff (r c b p : Int) : vecOk r c b p = true ↔ (1 ≤ r ∧ r ≤ 9) ∧ (1 ≤ b ∧ b ≤ 9) ∧ r ≤ b ∧ (0 ≤ c ∧ c ≤ 20) ∧ (c = 0 ↔ r = b) ∧ 0 ≤ p ∧ p ≤ 3 := by
  unfold vecOk
  have e1 : (c == 0) = decide (c = 0) := by by_cases h : c = 0 <;> simp [h]
  have e2 : (r == b) = decide (r = b) := by by_cases h : r = b <;> simp [h]
  rw [e1, e2]
  by_cases h1 : c = 0 <;> by_cases h2 : r = b <;> simp [h1, h2]
structure Prt where
  up : Bool
  has : Bool
  r : Int
  c : Int
  b : Int
  p : Int
  hops : Int
  left : Int
  role : Int
  wait : Int
  op : Bool
def Prt.tup (q : Prt) : Bool × Bool × Int × Int × Int × Int × Int × Int × Int × Int × Bool := (q.up, q.has, q.r, q.c, q.b, q.p, q.hops, q.left, q.role, q.wait, q.op)
def openBy (role wait : Int) : Bool := (role == 1 || role == 2) && wait == 0
def tailOk (up : Bool) (role wait : Int) (op : Bool) : Bool := decide (0 ≤ role ∧ role ≤ 3) && (((role == 0) == !up) && (decide (0 ≤ wait ∧ wait ≤ 4) && (op == openBy role wait)))
def headOk (q : Prt) : Bool :=
  if q.has then q.up && (vecOk q.r q.c q.b q.p && (decide (0 ≤ q.hops ∧ q.hops ≤ 8) && decide (1 ≤ q.left ∧ q.left ≤ 3)))
  else decide (q.r = 0) && (decide (q.c = 0) && (decide (q.b = 0) && (decide (q.p = 0) && (decide (q.hops = 0) && decide (q.left = 0)))))
def portOk (q : Prt) : Bool := headOk q && tailOk q.up q.role q.wait q.op
abbrev VB := S46
abbrev PB := S48
def pprt (x : PB) : Prt := ⟨x.f0, x.f1, x.f2.f0, x.f2.f1, x.f2.f2, x.f2.f3, x.f3, x.f4, x.f5, x.f6, x.f7⟩
theorem rdPB {l : List PB} {i : Nat} {x : PB} (h : l[i]? = some x) : rd_T48 l (i : Int) = x := getD_at h
theorem rdPB_set {l : List PB} {i : Nat} (h : i < l.length) (v : PB) : rd_T48 (l.set i v) (i : Int) = v := rdPB (by simp [h])
def portsOk : List PB → Bool
  | [] => true
  | x :: t => portOk (pprt x) && portsOk t
def bridgeOk (id : Int) (l : List PB) : Bool := portsOk l && (decide (1 ≤ id ∧ id ≤ 9) && decide (1 ≤ l.length ∧ l.length ≤ 4))
theorem portsOk_iff : ∀ l : List PB, portsOk l = true ↔ ∀ x ∈ l, portOk (pprt x) = true := by
  intro l
  induction l with
  | nil => simp [portsOk]
  | cons x t ih => simp [portsOk, ih]
def zport : PB := ⟨false, false, ⟨0, 0, 0, 0⟩, 0, 0, 0, 0, false⟩
def bridgeNewM (id n : Int) : Int × List PB × Bool := if 1 ≤ id ∧ id ≤ 9 ∧ 1 ≤ n ∧ n ≤ 4 then (id, List.replicate n.toNat zport, true) else (0, [], false)
theorem bridgeNewM_length (id n : Int) : (bridgeNewM id n).2.1.length ≤ 4 := by
  unfold bridgeNewM
  split <;> simp
  omega
theorem zports_ok (n : Nat) : portsOk (List.replicate n zport) = true := by
  rw [portsOk_iff]
  intro x hx
  rw [List.eq_of_mem_replicate hx]
  decide
theorem l1In_eq (x lo hi : Int) : spec_l1In.f x lo hi = some (decide (lo ≤ x ∧ x ≤ hi)) := by
  simp only [spec_l1In.f]
  by_cases h : lo ≤ x
  · rw [if_pos h]; simp [h]
  · rw [if_neg h]; simp [h]
theorem specVecOk_eq (r c b p : Int) : spec_VecOk.f r c b p = some (vecOk r c b p) := by
  simp only [spec_VecOk.f, l1In_eq, Option.bind_some, vecOk]
  by_cases h1 : 1 ≤ r ∧ r ≤ 9 <;> by_cases h2 : 1 ≤ b ∧ b ≤ 9 <;> by_cases h3 : r ≤ b <;> by_cases h4 : 0 ≤ c ∧ c ≤ 20 <;> by_cases h5 : 0 ≤ p ∧ p ≤ 3 <;> simp [h1, h2, h3, h4, h5]
  all_goals (first | (cases (c == 0) <;> cases (r == b) <;> rfl) | omega)
theorem specPortTail0 (k : Nat) (fl up has : Bool) (r c b p hops left role wait : Int) (op : Bool) : spec_PortOk.j0 (k + 1) fl up has r c b p hops left role wait op = some (!fl && tailOk up role wait op) := by
  simp only [spec_PortOk.j0, l1In_eq, Option.bind_some, tailOk, openBy]
  cases fl
  · by_cases h1 : role = 1
    · subst h1
      by_cases hw : 0 ≤ wait ∧ wait ≤ 4 <;> cases up <;> simp [hw]
    · by_cases h2 : role = 2
      · subst h2
        by_cases hw : 0 ≤ wait ∧ wait ≤ 4 <;> cases up <;> simp [hw]
      · by_cases hr : 0 ≤ role ∧ role ≤ 3 <;> by_cases hw : 0 ≤ wait ∧ wait ≤ 4 <;> by_cases h0 : role = 0 <;> cases up <;> cases op <;> simp [h1, h2, hr, hw, h0]
  · simp
theorem specPortTail1 (k : Nat) (fl up has : Bool) (r c b p hops left role wait : Int) (op : Bool) : spec_PortOk.j1 (k + 1) fl up has r c b p hops left role wait op = some (!fl && tailOk up role wait op) := by
  simp only [spec_PortOk.j1, l1In_eq, Option.bind_some, tailOk, openBy]
  cases fl
  · by_cases h1 : role = 1
    · subst h1
      by_cases hw : 0 ≤ wait ∧ wait ≤ 4 <;> cases up <;> simp [hw]
    · by_cases h2 : role = 2
      · subst h2
        by_cases hw : 0 ≤ wait ∧ wait ≤ 4 <;> cases up <;> simp [hw]
      · by_cases hr : 0 ≤ role ∧ role ≤ 3 <;> by_cases hw : 0 ≤ wait ∧ wait ≤ 4 <;> by_cases h0 : role = 0 <;> cases up <;> cases op <;> simp [h1, h2, hr, hw, h0]
  · simp
theorem specPortOk_ev (up has : Bool) (r c b p hops left role wait : Int) (op : Bool) : Ev (fun k => spec_PortOk.f k up has r c b p hops left role wait op) (portOk ⟨up, has, r, c, b, p, hops, left, role, wait, op⟩) := by
  refine ev_end fun k => ?_
  simp only [spec_PortOk.f, specVecOk_eq, l1In_eq, Option.bind_some, specPortTail0, specPortTail1, portOk, headOk]
  cases has
  · by_cases r0 : r = 0 <;> by_cases c0 : c = 0 <;> by_cases b0 : b = 0 <;> by_cases p0 : p = 0 <;> by_cases h0 : hops = 0 <;> by_cases l0 : left = 0 <;> simp [r0, c0, b0, p0, h0, l0]
  · cases up <;> cases vecOk r c b p <;> by_cases h0 : 0 ≤ hops ∧ hops ≤ 8 <;> by_cases l0 : 1 ≤ left ∧ left ≤ 3 <;> simp [h0, l0]
theorem specBridgeOk_ev (id : Int) (l : List PB) (h : l.length ≤ 4194304) : Ev (fun k => spec_BridgeOk.f k id l) (bridgeOk id l) := by
  refine ev_list0 l (fun k i => spec_BridgeOk.l0 k i id l) (fun t => portsOk t && (decide (1 ≤ id ∧ id ≤ 9) && decide (1 ≤ l.length ∧ l.length ≤ 4)))
    (ev_end fun k => ?_)
    (fun i x t hi _ hx ih => ?_)
  · simp only [spec_BridgeOk.l0]
    rw [if_neg (by omega)]
    simp only [l1In_eq, Option.bind_some, portsOk, Bool.true_and]
    by_cases a : 1 ≤ id ∧ id ≤ 9
    · have e : decide (1 ≤ (l.length : Int) ∧ (l.length : Int) ≤ 4) = decide (1 ≤ l.length ∧ l.length ≤ 4) := by rw [decide_eq_decide]; omega
      simp only [a, and_self, decide_true, if_true, Bool.true_and, e]
    · simp [a]
  · refine Ev.step (f := fun k => (spec_PortOk.f k x.f0 x.f1 x.f2.f0 x.f2.f1 x.f2.f2 x.f2.f3 x.f3 x.f4 x.f5 x.f6 x.f7).bind fun t122 => (if t122 = true then (spec_BridgeOk.l0 k ((i + 1 : Nat) : Int) id l) else (some false))) (fun k => ?_) (Ev.bind (specPortOk_ev _ _ _ _ _ _ _ _ _ _ _) ?_)
    · simp only [spec_BridgeOk.l0]
      rw [if_pos (by omega), if_pos (by omega), rdPB hx, w64_succ (by omega)]
    · cases hp : portOk (pprt x) with
      | true =>
        have hp' := hp
        simp only [pprt] at hp'
        simp only [hp', if_true, portsOk, hp, Bool.true_and]
        exact ih
      | false =>
        have hp' := hp
        simp only [pprt] at hp'
        refine ev_some fun k => ?_
        simp [hp', portsOk, hp]
theorem l1Min_eq (a b : Int) : spec_l1Min.f a b = some (min a b) := by
  simp only [spec_l1Min.f]
  split <;> congr 1 <;> omega
theorem specBridgeNew_ev (id n : Int) : Ev (fun k => spec_BridgeNew.f k id n) (bridgeNewM id n) := by
  have key : ∀ (d i : Nat), i + d = (min n 5).toNat → Ev (fun k => spec_BridgeNew.l0 k n (i : Int) id (List.replicate i zport)) (bridgeNewM id n) := by
    intro d
    induction d with
    | zero =>
      intro i hi
      refine Ev.step (f := fun k => (spec_BridgeOk.f k id (List.replicate i zport)).bind fun t140 => (if t140 = true then (some (id, List.replicate i zport, true)) else (some (0, [], false)))) (fun k => ?_) (Ev.bind (specBridgeOk_ev id _ (by simp; omega)) (ev_some fun k => ?_))
      · simp only [spec_BridgeNew.l0, l1Min_eq, Option.bind_some]
        rw [if_neg (by omega)]
      · have hz := zports_ok i
        simp only [bridgeOk, hz, Bool.true_and, List.length_replicate, bridgeNewM]
        by_cases a : 1 ≤ id ∧ id ≤ 9
        · by_cases b : 1 ≤ n ∧ n ≤ 4
          · have e : i = n.toNat := by omega
            have e1 : 1 ≤ i ∧ i ≤ 4 := by omega
            simp [a, b, e1, ← e]
          · have e1 : ¬ (1 ≤ i ∧ i ≤ 4) := by omega
            have e2 : ¬ (1 ≤ id ∧ id ≤ 9 ∧ 1 ≤ n ∧ n ≤ 4) := by omega
            simp [e1, e2]
        · have e2 : ¬ (1 ≤ id ∧ id ≤ 9 ∧ 1 ≤ n ∧ n ≤ 4) := by omega
          simp [a, e2]
    | succ d ih =>
      intro i hi
      refine Ev.step (fun k => ?_) (ih (i + 1) (by omega))
      simp only [spec_BridgeNew.l0, l1Min_eq, Option.bind_some]
      rw [if_pos (by omega), if_pos (by simp; omega), w64_succ (by omega), List.replicate_succ']
      rfl
  have := key (min n 5).toNat 0 (by omega)
  simpa [spec_BridgeNew.f] using this
theorem inRange_eq (x lo hi : Int) : impl_inRange.f x lo hi = some (decide (lo ≤ x ∧ x ≤ hi)) := by
  simp only [impl_inRange.f]
  by_cases h : lo ≤ x
  · rw [if_pos h]; simp [h]
  · rw [if_neg h]; simp [h]
theorem implBridgeNew_eq (id n : Int) : impl_BridgeNew.f id n = some (bridgeNewM id n) := by
  simp only [impl_BridgeNew.f, inRange_eq, Option.bind_some, bridgeNewM]
  by_cases a : 1 ≤ id ∧ id ≤ 9
  · by_cases b : 1 ≤ n ∧ n ≤ 4
    · simp only [a, b, and_self, decide_true, if_true]
      rw [if_pos (by omega), if_pos (by omega)]
      rfl
    · rw [if_neg (show ¬ (1 ≤ id ∧ id ≤ 9 ∧ 1 ≤ n ∧ n ≤ 4) by omega)]
      simp [a, b]
  · rw [if_neg (show ¬ (1 ≤ id ∧ id ≤ 9 ∧ 1 ≤ n ∧ n ≤ 4) by omega)]
    simp [a]
def pmk (_ : PB) (n : Int) : PB := ⟨Int.tmod n 3 == 0, Int.tmod (n + 1) 3 == 0, ⟨n + 1 + 1, n + 1 + 1 + 1, n + 1 + 1 + 1 + 1, n + 1 + 1 + 1 + 1 + 1⟩, n + 1 + 1 + 1 + 1 + 1 + 1, n + 1 + 1 + 1 + 1 + 1 + 1 + 1, n + 1 + 1 + 1 + 1 + 1 + 1 + 1 + 1, n + 1 + 1 + 1 + 1 + 1 + 1 + 1 + 1 + 1, Int.tmod (n + 1 + 1 + 1 + 1 + 1 + 1 + 1 + 1 + 1 + 1) 3 == 0⟩
theorem markPortS_ev (l : List PB) (h : l.length ≤ 4194304) (m : Int) (h0 : 0 ≤ m) (h1 : m ≤ 1125899906842624) : Ev (fun k => laws_markPortS.f k l m) (m + costs (fun _ => 11) l, upsG pmk (fun _ => 11) m l) := by
  refine ev_mark l pmk (fun _ => 11) (fun _ _ => by decide) (fun k acc n i => laws_markPortS.l0 k acc n i) (fun acc n ha => ?_) (fun i acc n x r ha hi _ hx hn hb ih => ?_) m h0 (by rw [costs_const]; omega)
  · refine ev_end fun k => ?_
    simp only [laws_markPortS.l0]
    rw [if_neg (by omega)]
  · refine Ev.step (fun k => ?_) ih
    have hs := fun v => rdPB_set (l := acc) (i := i) (by omega) v
    simp only [laws_markPortS.l0]
    rw [if_pos (by omega), if_pos (by omega), w64_succ (by omega)]
    simp (disch := omega) only [Option.bind_some, Int.toNat_natCast, hs, List.set_set, w64, pmk]
    have e : n + 11 = n + 1 + 1 + 1 + 1 + 1 + 1 + 1 + 1 + 1 + 1 + 1 := by omega
    rw [e]
theorem heldPortS_ev (l : List PB) (h : l.length ≤ 4194304) (m : Int) (h0 : 0 ≤ m) (h1 : m ≤ 1125899906842624) : Ev (fun k => laws_heldPortS.f k (upsG pmk (fun _ => 11) m l) m) (m + costs (fun _ => 11) l) := by
  refine ev_held l pmk (fun _ => 11) (fun _ _ => by decide) (fun k acc n i => laws_heldPortS.l0 k acc n i) (fun acc n ha => ?_) (fun i acc n x r ha hi _ hx hn hb ih => ?_) m h0 (by rw [costs_const]; omega)
  · refine ev_end fun k => ?_
    simp only [laws_heldPortS.l0]
    rw [if_neg (by omega)]
  · refine Ev.step (fun k => ?_) ih
    simp only [laws_heldPortS.l0]
    rw [if_pos (by omega), if_pos (by omega), w64_succ (by omega), rdPB hx]
    simp (disch := omega) only [w64, pmk, if_true, bne_self_eq_false, Bool.false_eq_true, if_false]
    have e : n + 11 = n + 1 + 1 + 1 + 1 + 1 + 1 + 1 + 1 + 1 + 1 + 1 := by omega
    rw [e]
theorem markBridge_ev (a : Int) (l : List PB) (h : l.length ≤ 4194304) (m : Int) (h0 : 0 ≤ m) (h1 : m ≤ 1125899906842624) : Ev (fun k => laws_markBridge.f k a l m) (m + costs (fun _ => 11) l, upsG pmk (fun _ => 11) m l) := by
  simp only [laws_markBridge.f]
  exact Ev.bind (markPortS_ev l h m h0 h1) (ev_some fun _ => rfl)
theorem heldBridge_ev (a : Int) (l : List PB) (h : l.length ≤ 4194304) (m : Int) (h0 : 0 ≤ m) (h1 : m ≤ 1125899906842624) : Ev (fun k => laws_heldBridge.f k a (upsG pmk (fun _ => 11) m l) m) (m + costs (fun _ => 11) l) := by
  simp only [laws_heldBridge.f]
  have c := costs_nonneg (fun _ : PB => 11) l (fun _ _ => by decide)
  exact Ev.bind (heldPortS_ev l h m h0 h1) (ev_some fun _ => by rw [if_neg (by omega)])
theorem eqPort_eq (a0 a1 : Bool) (a2 a3 a4 a5 a6 a7 a8 a9 : Int) (a10 : Bool) : laws_eqPort.f a0 a1 a2 a3 a4 a5 a6 a7 a8 a9 a10 a0 a1 a2 a3 a4 a5 a6 a7 a8 a9 a10 = some true := by
  simp [laws_eqPort.f, laws_eqVec.f]
theorem eqPortS_ev (l : List PB) (h : l.length ≤ 4194304) : Ev (fun k => laws_eqPortS.f k l l) true := by
  have h0 := ev_list0 l (fun k i => laws_eqPortS.l0 k l l i) (fun _ => true)
    (ev_end fun k => by simp only [laws_eqPortS.l0]; rw [if_neg (by omega)])
    (fun i x t hi _ hx ih => Ev.step (fun k => by
      simp only [laws_eqPortS.l0, eqPort_eq, Option.bind_some, if_true]
      rw [if_pos (by omega), if_pos (by omega), if_pos (by omega), w64_succ (by omega)]) ih)
  refine Ev.congr (fun k => ?_) h0
  simp [laws_eqPortS.f]
theorem eqBridge_ev (a : Int) (l : List PB) (h : l.length ≤ 4194304) : Ev (fun k => laws_eqBridge.f k a l a l) true := by
  simp only [laws_eqBridge.f, if_true]
  exact Ev.bind (eqPortS_ev l h) (ev_some fun _ => rfl)
theorem FnExactBridgeNew : FnExactBridgeNewPure := by
  intro id n _ _
  obtain ⟨K1, h1⟩ := specBridgeNew_ev id n
  have h2 := implBridgeNew_eq id n
  have hlen := bridgeNewM_length id n
  generalize bridgeNewM id n = r at h1 h2 hlen
  obtain ⟨a, l, b⟩ := r
  dsimp only at hlen
  obtain ⟨K3, h3⟩ := eqBridge_ev a l (by omega)
  obtain ⟨K4, h4⟩ := markBridge_ev a l (by omega) 1 (by omega) (by omega)
  obtain ⟨K5, h5⟩ := heldBridge_ev a l (by omega) 1 (by omega) (by omega)
  have c := costs_nonneg (fun _ : PB => 11) l (fun _ _ => by decide)
  have e : ¬ ((1 : Int) + costs (fun _ : PB => 11) l < 0) := by omega
  obtain ⟨S, hS⟩ : ∃ S, S = K1 + K3 + K4 + K5 := ⟨_, rfl⟩
  refine ⟨S + 2, ?_⟩
  have h1_0 := h1 S (by omega)
  have h1_1 := h1 (S + 1) (by omega)
  have h1_2 := h1 (S + 2) (by omega)
  have h3_0 := h3 S (by omega)
  have h3_1 := h3 (S + 1) (by omega)
  have h3_2 := h3 (S + 2) (by omega)
  have h4_0 := h4 S (by omega)
  have h4_1 := h4 (S + 1) (by omega)
  have h4_2 := h4 (S + 2) (by omega)
  have h5_0 := h5 S (by omega)
  have h5_1 := h5 (S + 1) (by omega)
  have h5_2 := h5 (S + 2) (by omega)
  clear h1 h3 h4 h5
  simp only [laws_FnExactBridgeNew.f, laws_FnExactBridgeNew.j0, laws_FnExactBridgeNew.j1, h2, h1_0, h1_1, h1_2, h3_0, h3_1, h3_2, h4_0, h4_1, h4_2, h5_0, h5_1, h5_2, e, Option.bind_some, if_true, if_false, bne_self_eq_false, Bool.false_eq_true]
end Go.Proofs.Ytfcibdonfjogoaa.Pure

/- Of the proof of laws.FnExactDecide: a part. No condition beyond what its theorems say. -/
/- The statement of laws.FnExactDecide over numbers and lists alone: at every input it answers true. No condition but that the numbers are those of their kinds and that no slice is longer than a Go slice can be. -/
import Derived.Test.YthmijfekdeagpaaVFnExactDecideT
import Derived.Test.YthmijfekdeagpaaVFnExactDecideBase
set_option linter.unusedVariables false
set_option linter.unusedSimpArgs false
namespace Go.Proofs.Ythmijfekdeagpaa.Pure
open Go.RowKit Go.Proofs.Ythmijfekdeagpaa.PFnExactDecide Go.Proofs.Ythmijfekdeagpaa.Base Go.Proofs.YthmijfekdeagpaaW.PrintWords Go.Proofs.YthmijfekdeagpaaW.PrintLast Go.Proofs.YthmijfekdeagpaaW.PrintMore
def FnExactDecidePure : Prop := ∀ (a0_0 : Int) (l0_1 : List (S160)), ((Lit.int .i64 a0_0).wf = true) → (l0_1.length ≤ maxLen ∧ ∀ x ∈ l0_1, (True) ∧ (True) ∧ (((Lit.int .i64 x.f2.f0).wf = true) ∧ ((Lit.int .i64 x.f2.f1).wf = true) ∧ ((Lit.int .i64 x.f2.f2).wf = true) ∧ ((Lit.int .i64 x.f2.f3).wf = true)) ∧ ((Lit.int .i64 x.f3).wf = true) ∧ ((Lit.int .i64 x.f4).wf = true) ∧ ((Lit.int .i64 x.f5).wf = true) ∧ ((Lit.int .i64 x.f6).wf = true) ∧ (True)) → ∃ k, laws_FnExactDecide.f k a0_0 l0_1 = some true
def vecOk (r c b p : Int) : Bool := decide (1 ≤ r ∧ r ≤ 9) && (decide (1 ≤ b ∧ b ≤ 9) && (decide (r ≤ b) && (decide (0 ≤ c ∧ c ≤ 20) && (((c == 0) == (r == b)) && decide (0 ≤ p ∧ p ≤ 3)))))
theorem vecOk_iff (r c b p : Int) : vecOk r c b p = true ↔ (1 ≤ r ∧ r ≤ 9) ∧ (1 ≤ b ∧ b ≤ 9) ∧ r ≤ b ∧ (0 ≤ c ∧ c ≤ 20) ∧ (c = 0 ↔ r = b) ∧ 0 ≤ p ∧ p ≤ 3 := by
  unfold vecOk
  have e1 : (c == 0) = decide (c = 0) := by by_cases h : c = 0 <;> simp [h]
  have e2 : (r == b) = decide (r = b) := by by_cases h : r = b <;> simp [h]
  rw [e1, e2]
  by_cases h1 : c = 0 <;> by_cases h2 : r = b <;> simp [h1, h2]
structure Prt where
  up : Bool
  has : Bool
  r : Int
  c : Int
  b : Int
  p : Int
  hops : Int
  left : Int
  role : Int
  wait : Int
  op : Bool
def Prt.tup (q : Prt) : Bool × Bool × Int × Int × Int × Int × Int × Int × Int × Int × Bool := (q.up, q.has, q.r, q.c, q.b, q.p, q.hops, q.left, q.role, q.wait, q.op)
def openBy (role wait : Int) : Bool := (role == 1 || role == 2) && wait == 0
def tailOk (up : Bool) (role wait : Int) (op : Bool) : Bool := decide (0 ≤ role ∧ role ≤ 3) && (((role == 0) == !up) && (decide (0 ≤ wait ∧ wait ≤ 4) && (op == openBy role wait)))
def headOk (q : Prt) : Bool :=
  if q.has then q.up && (vecOk q.r q.c q.b q.p && (decide (0 ≤ q.hops ∧ q.hops ≤ 8) && decide (1 ≤ q.left ∧ q.left ≤ 3)))
  else decide (q.r = 0) && (decide (q.c = 0) && (decide (q.b = 0) && (decide (q.p = 0) && (decide (q.hops = 0) && decide (q.left = 0)))))
def portOk (q : Prt) : Bool := headOk q && tailOk q.up q.role q.wait q.op
abbrev VB := S73
abbrev PB := S79
def pprt (x : PB) : Prt := ⟨x.f0, x.f1, x.f2.f0, x.f2.f1, x.f2.f2, x.f2.f3, x.f3, x.f4, x.f5, x.f6, x.f7⟩
theorem rdPB {l : List PB} {i : Nat} {x : PB} (h : l[i]? = some x) : rd_T79 l (i : Int) = x := getD_at h
theorem rdPB_set {l : List PB} {i : Nat} (h : i < l.length) (v : PB) : rd_T79 (l.set i v) (i : Int) = v := rdPB (by simp [h])
def portsOk : List PB → Bool
  | [] => true
  | x :: t => portOk (pprt x) && portsOk t
def bridgeOk (id : Int) (l : List PB) : Bool := portsOk l && (decide (1 ≤ id ∧ id ≤ 9) && decide (1 ≤ l.length ∧ l.length ≤ 4))
theorem portsOk_iff : ∀ l : List PB, portsOk l = true ↔ ∀ x ∈ l, portOk (pprt x) = true := by
  intro l
  induction l with
  | nil => simp [portsOk]
  | cons x t ih => simp [portsOk, ih]
/-- Which of two claims is the less. -/
def better (a b c d a' b' c' d' : Int) : Bool := decide (a < a' ∨ a = a' ∧ (b < b' ∨ b = b' ∧ (c < c' ∨ c = c' ∧ d < d')))
theorem Ev.stepUp {α : Type} {g : Nat → Option α} {r : α} (h : Ev (fun k => g (k + 1)) r) : Ev g r := Ev.step (fun _ => rfl) h
def skipP (id : Int) (x : PB) : Bool := !x.f1 || (decide (x.f2.f2 = id) || (decide (x.f2.f0 ≥ id) || (decide (x.f2.f1 ≥ 20) || decide (x.f3 ≥ 8))))
def stepR (id : Int) (l : List PB) (b i : Int) (x : PB) : Int :=
  if skipP id x = true then b else if b < 0 then i else if better x.f2.f0 x.f2.f1 x.f2.f2 x.f2.f3 (rd_T79 l b).f2.f0 (rd_T79 l b).f2.f1 (rd_T79 l b).f2.f2 (rd_T79 l b).f2.f3 = true then i else b
def rootM (id : Int) (l : List PB) : Int → List PB → Int
  | b, [] => b
  | b, x :: t => rootM id l (stepR id l b ((l.length - (t.length + 1) : Nat) : Int) x) t
theorem drop_at {α : Type} {l : List α} {i : Nat} {x : α} {t : List α} (h : l.drop i = x :: t) (hi : i < l.length) : l.length - (t.length + 1) = i := by
  have := congrArg List.length h
  simp at this
  omega
def BestOk (l : List PB) (b : Int) : Prop := b = -1 ∨ (0 ≤ b ∧ b < l.length)
theorem stepR_ok (id : Int) (l : List PB) (b : Int) (i : Nat) (x : PB) (hb : BestOk l b) (hi : i < l.length) : BestOk l (stepR id l b i x) := by
  have h1 : BestOk l (i : Int) := Or.inr ⟨by omega, by omega⟩
  unfold stepR
  (repeat' split) <;> assumption
theorem rootM_ok (id : Int) (l : List PB) : ∀ (t : List PB) (b : Int), BestOk l b → t.length ≤ l.length → BestOk l (rootM id l b t) := by
  intro t
  induction t with
  | nil => intro b hb _; exact hb
  | cons x t ih =>
    intro b hb ht
    simp only [List.length_cons] at ht
    exact ih _ (stepR_ok id l b _ x hb (by omega)) (by omega)
def hopsM (id : Int) (l : List PB) : Int := if rootM id l (-1) l ≥ 0 then wrap64 ((rd_T79 l (rootM id l (-1) l)).f3 + 1) else 0
theorem root_lt (id : Int) (l : List PB) (h : rootM id l (-1) l ≥ 0) : rootM id l (-1) l < (l.length : Int) := by
  have := rootM_ok id l l (-1) (Or.inl rfl) (Nat.le_refl _)
  rcases this with e | ⟨_, h1⟩
  · omega
  · exact h1
def ownM (id : Int) (l : List PB) (p : Int) : Int × Int × Int × Int := if rootM id l (-1) l ≥ 0 then ((rd_T79 l (rootM id l (-1) l)).f2.f0, wrap64 ((rd_T79 l (rootM id l (-1) l)).f2.f1 + 1), id, p) else (id, 0, id, p)
def ownX (id : Int) (l : List PB) (p : Int) : Int × Int × Int × Int := if bridgeOk id l = true ∧ (0 ≤ p ∧ p ≤ (l.length : Int) - 1) then ownM id l p else (0, 0, 0, 0)
def turnM (q : Prt) (role : Int) : Prt :=
  if (portOk q && (q.up && decide (1 ≤ role ∧ role ≤ 3))) = true then
    (if role = 3 then ⟨q.up, q.has, q.r, q.c, q.b, q.p, q.hops, q.left, role, 0, openBy role 0⟩
     else if q.role = 3 then ⟨q.up, q.has, q.r, q.c, q.b, q.p, q.hops, q.left, role, 4, openBy role 4⟩
     else ⟨q.up, q.has, q.r, q.c, q.b, q.p, q.hops, q.left, role, q.wait, openBy role q.wait⟩)
  else q
def ofP (q : Prt) : PB := ⟨q.up, q.has, ⟨q.r, q.c, q.b, q.p⟩, q.hops, q.left, q.role, q.wait, q.op⟩
theorem ofP_pprt (x : PB) : ofP (pprt x) = x := rfl
theorem pprt_ofP (q : Prt) : pprt (ofP q) = q := rfl
/-- What of a port a bridge chooses its root by. -/
def coreP (x : PB) : Bool × VB × Int := (x.f1, x.f2, x.f3)
theorem core_rd {l l' : List PB} (h : l.map coreP = l'.map coreP) (i : Int) : coreP (rd_T79 l i) = coreP (rd_T79 l' i) := by
  have e : ∀ m : List PB, coreP (rd_T79 m i) = (m.map coreP).getD i.toNat (coreP z79) := fun m => by
    show coreP (m.getD i.toNat _) = _
    simp only [List.getD_eq_getElem?_getD, List.getElem?_map]
    cases m[i.toNat]? <;> rfl
  rw [e, e, h]
theorem core_f1 {x y : PB} (h : coreP x = coreP y) : x.f1 = y.f1 := congrArg (·.1) h
theorem core_f2 {x y : PB} (h : coreP x = coreP y) : x.f2 = y.f2 := congrArg (·.2.1) h
theorem core_f3 {x y : PB} (h : coreP x = coreP y) : x.f3 = y.f3 := congrArg (·.2.2) h
theorem stepR_core (id : Int) {l l' : List PB} (h : l.map coreP = l'.map coreP) (b i : Int) {x y : PB} (hx : coreP x = coreP y) : stepR id l b i x = stepR id l' b i y := by
  have h1 := core_f1 hx
  have h2 := core_f2 hx
  have h3 := core_f3 hx
  obtain ⟨x0, x1, x2, x3, x4, x5, x6, x7⟩ := x
  obtain ⟨y0, y1, y2, y3, y4, y5, y6, y7⟩ := y
  dsimp only at h1 h2 h3
  subst h1 h2 h3
  unfold stepR skipP
  rw [core_f2 (core_rd h b)]
theorem rootM_core (id : Int) {l l' : List PB} (h : l.map coreP = l'.map coreP) : ∀ (t t' : List PB) (b : Int), t.map coreP = t'.map coreP → rootM id l b t = rootM id l' b t' := by
  have hl : l.length = l'.length := by simpa using congrArg List.length h
  intro t
  induction t with
  | nil =>
    intro t' b ht
    cases t' with
    | nil => rfl
    | cons y u => simp at ht
  | cons x t ih =>
    intro t' b ht
    cases t' with
    | nil => simp at ht
    | cons y u =>
      simp only [List.map_cons, List.cons.injEq] at ht
      have hn : t.length = u.length := by simpa using congrArg List.length ht.2
      simp only [rootM, hl, hn, stepR_core id h _ _ ht.1]
      exact ih u _ ht.2
theorem root_core (id : Int) {l l' : List PB} (h : l.map coreP = l'.map coreP) : rootM id l (-1) l = rootM id l' (-1) l' := rootM_core id h l l' (-1) h
theorem ownM_core (id : Int) {l l' : List PB} (h : l.map coreP = l'.map coreP) (p : Int) : ownM id l p = ownM id l' p := by
  unfold ownM
  rw [root_core id h, core_f2 (core_rd h _)]
theorem hopsM_core (id : Int) {l l' : List PB} (h : l.map coreP = l'.map coreP) : hopsM id l = hopsM id l' := by
  unfold hopsM
  rw [root_core id h, core_f3 (core_rd h _)]
def roleM (id : Int) (l : List PB) (i : Nat) (x : PB) : Int :=
  if (i : Int) = rootM id l (-1) l then 1 else if (x.f1 && better x.f2.f0 x.f2.f1 x.f2.f2 x.f2.f3 (ownM id l i).1 (ownM id l i).2.1 (ownM id l i).2.2.1 (ownM id l i).2.2.2) = true then 3 else 2
def decP (id : Int) (l : List PB) (i : Nat) (x : PB) : PB := if x.f0 = true then ofP (turnM (pprt x) (roleM id l i x)) else x
/-- What a bridge's ports are, once it has decided. -/
def decM (id : Int) (l : List PB) : List PB := l.mapIdx (decP id l)
theorem decM_length (id : Int) (l : List PB) : (decM id l).length = l.length := by simp [decM]
theorem decM_get {id : Int} {l : List PB} {i : Nat} {x : PB} (h : l[i]? = some x) : (decM id l)[i]? = some (decP id l i x) := by simp [decM, h]
theorem turnM_core (q : Prt) (ro : Int) : (turnM q ro).up = q.up ∧ (turnM q ro).has = q.has ∧ (turnM q ro).r = q.r ∧ (turnM q ro).c = q.c ∧ (turnM q ro).b = q.b ∧ (turnM q ro).p = q.p ∧ (turnM q ro).hops = q.hops ∧ (turnM q ro).left = q.left := by
  unfold turnM
  (repeat' split) <;> simp
theorem decP_core (id : Int) (l : List PB) (i : Nat) (x : PB) : coreP (decP id l i x) = coreP x := by
  unfold decP
  split
  · obtain ⟨_, h1, h2, h3, h4, h5, h6, _⟩ := turnM_core (pprt x) (roleM id l i x)
    simp only [coreP, ofP, h1, h2, h3, h4, h5, h6]
    rfl
  · rfl
theorem decM_core (id : Int) (l : List PB) : (decM id l).map coreP = l.map coreP := by
  apply List.ext_getElem?
  intro i
  simp only [decM, List.getElem?_map, List.getElem?_mapIdx, Option.map_map]
  cases l[i]? with
  | none => rfl
  | some x => simp [decP_core]
/-- A row that is turned from the front on: what stands at a round. -/
theorem turned_next {α : Type} {M L : List α} (hl : M.length = L.length) {i : Nat} {y : α} (hy : M[i]? = some y) : (M.take i ++ L.drop i).set i y = M.take (i + 1) ++ L.drop (i + 1) := by
  have hi : i < M.length := (List.getElem?_eq_some_iff.1 hy).1
  have ht : (M.take i).length = i := by simp; omega
  rw [List.set_append_right _ _ (by omega), ht, Nat.sub_self, List.drop_eq_getElem_cons (show i < L.length by omega), List.set_cons_zero, List.take_add_one, hy]
  simp
theorem turned_at {α : Type} {M L : List α} (hl : M.length = L.length) {i : Nat} {x : α} (hx : L[i]? = some x) : (M.take i ++ L.drop i)[i]? = some x := by
  have hi : i < L.length := (List.getElem?_eq_some_iff.1 hx).1
  rw [List.getElem?_append_right (by simp; omega)]
  simp only [List.length_take, List.getElem?_drop]
  rw [show i + (i - min i M.length) = i by omega]
  exact hx
theorem turned_length {α : Type} {M L : List α} (hl : M.length = L.length) {i : Nat} (hi : i ≤ L.length) : (M.take i ++ L.drop i).length = L.length := by
  simp; omega
theorem turned_core {M L : List PB} (h : M.map coreP = L.map coreP) (i : Nat) : (M.take i ++ L.drop i).map coreP = L.map coreP := by
  simp only [List.map_append, List.map_take, List.map_drop, h, List.take_append_drop]
theorem l1In_eq (x lo hi : Int) : spec_l1In.f x lo hi = some (decide (lo ≤ x ∧ x ≤ hi)) := by
  simp only [spec_l1In.f]
  by_cases h : lo ≤ x
  · rw [if_pos h]; simp [h]
  · rw [if_neg h]; simp [h]
theorem specVecOk_eq (r c b p : Int) : spec_VecOk.f r c b p = some (vecOk r c b p) := by
  simp only [spec_VecOk.f, l1In_eq, Option.bind_some, vecOk]
  by_cases h1 : 1 ≤ r ∧ r ≤ 9 <;> by_cases h2 : 1 ≤ b ∧ b ≤ 9 <;> by_cases h3 : r ≤ b <;> by_cases h4 : 0 ≤ c ∧ c ≤ 20 <;> by_cases h5 : 0 ≤ p ∧ p ≤ 3 <;> simp [h1, h2, h3, h4, h5]
  all_goals (first | (cases (c == 0) <;> cases (r == b) <;> rfl) | omega)
theorem specPortTail0 (k : Nat) (fl up has : Bool) (r c b p hops left role wait : Int) (op : Bool) : spec_PortOk.j0 (k + 1) fl up has r c b p hops left role wait op = some (!fl && tailOk up role wait op) := by
  simp only [spec_PortOk.j0, l1In_eq, Option.bind_some, tailOk, openBy]
  cases fl
  · by_cases h1 : role = 1
    · subst h1
      by_cases hw : 0 ≤ wait ∧ wait ≤ 4 <;> cases up <;> simp [hw]
    · by_cases h2 : role = 2
      · subst h2
        by_cases hw : 0 ≤ wait ∧ wait ≤ 4 <;> cases up <;> simp [hw]
      · by_cases hr : 0 ≤ role ∧ role ≤ 3 <;> by_cases hw : 0 ≤ wait ∧ wait ≤ 4 <;> by_cases h0 : role = 0 <;> cases up <;> cases op <;> simp [h1, h2, hr, hw, h0]
  · simp
theorem specPortTail1 (k : Nat) (fl up has : Bool) (r c b p hops left role wait : Int) (op : Bool) : spec_PortOk.j1 (k + 1) fl up has r c b p hops left role wait op = some (!fl && tailOk up role wait op) := by
  simp only [spec_PortOk.j1, l1In_eq, Option.bind_some, tailOk, openBy]
  cases fl
  · by_cases h1 : role = 1
    · subst h1
      by_cases hw : 0 ≤ wait ∧ wait ≤ 4 <;> cases up <;> simp [hw]
    · by_cases h2 : role = 2
      · subst h2
        by_cases hw : 0 ≤ wait ∧ wait ≤ 4 <;> cases up <;> simp [hw]
      · by_cases hr : 0 ≤ role ∧ role ≤ 3 <;> by_cases hw : 0 ≤ wait ∧ wait ≤ 4 <;> by_cases h0 : role = 0 <;> cases up <;> cases op <;> simp [h1, h2, hr, hw, h0]
  · simp
theorem specPortOk_ev (up has : Bool) (r c b p hops left role wait : Int) (op : Bool) : Ev (fun k => spec_PortOk.f k up has r c b p hops left role wait op) (portOk ⟨up, has, r, c, b, p, hops, left, role, wait, op⟩) := by
  refine ev_end fun k => ?_
  simp only [spec_PortOk.f, specVecOk_eq, l1In_eq, Option.bind_some, specPortTail0, specPortTail1, portOk, headOk]
  cases has
  · by_cases r0 : r = 0 <;> by_cases c0 : c = 0 <;> by_cases b0 : b = 0 <;> by_cases p0 : p = 0 <;> by_cases h0 : hops = 0 <;> by_cases l0 : left = 0 <;> simp [r0, c0, b0, p0, h0, l0]
  · cases up <;> cases vecOk r c b p <;> by_cases h0 : 0 ≤ hops ∧ hops ≤ 8 <;> by_cases l0 : 1 ≤ left ∧ left ≤ 3 <;> simp [h0, l0]
theorem l7Open_eq (up has : Bool) (r c b p hops left role wait : Int) (op : Bool) : spec_l7Open.f up has r c b p hops left role wait op = some (up, has, r, c, b, p, hops, left, role, wait, openBy role wait) := by
  simp only [spec_l7Open.f, openBy]
  by_cases h1 : role = 1 <;> by_cases h2 : role = 2 <;> simp [h1, h2]
theorem specTurn_ev (up has : Bool) (r c b p hops left role wait : Int) (op : Bool) (ro : Int) : Ev (fun k => spec_Turn.f k up has r c b p hops left role wait op ro) (turnM ⟨up, has, r, c, b, p, hops, left, role, wait, op⟩ ro).tup := by
  refine Ev.bind (specPortOk_ev up has r c b p hops left role wait op) ?_
  generalize hp : portOk ⟨up, has, r, c, b, p, hops, left, role, wait, op⟩ = po
  refine ⟨2, fun k hk => ?_⟩
  obtain ⟨j, rfl⟩ : ∃ j, k = j + 2 := ⟨k - 2, by omega⟩
  cases po
  · simp [spec_Turn.j0, turnM, hp, Prt.tup]
  · cases up
    · simp [spec_Turn.j0, turnM, hp, Prt.tup]
    · simp only [l1In_eq, Option.bind_some, if_true, spec_Turn.j0, spec_Turn.j1, l7Open_eq, turnM, hp, Prt.tup, Bool.true_and]
      by_cases hr : 1 ≤ ro ∧ ro ≤ 3
      · by_cases e3 : ro = 3
        · subst e3
          by_cases e : role = 3 <;> simp [e]
        · by_cases e : role = 3 <;> simp [hr, e3, e]
      · simp [hr]
theorem specBridgeOk_ev (id : Int) (l : List PB) (h : l.length ≤ 4194304) : Ev (fun k => spec_BridgeOk.f k id l) (bridgeOk id l) := by
  refine ev_list0 l (fun k i => spec_BridgeOk.l0 k i id l) (fun t => portsOk t && (decide (1 ≤ id ∧ id ≤ 9) && decide (1 ≤ l.length ∧ l.length ≤ 4)))
    (ev_end fun k => ?_)
    (fun i x t hi _ hx ih => ?_)
  · simp only [spec_BridgeOk.l0]
    rw [if_neg (by omega)]
    simp only [l1In_eq, Option.bind_some, portsOk, Bool.true_and]
    by_cases a : 1 ≤ id ∧ id ≤ 9
    · have e : decide (1 ≤ (l.length : Int) ∧ (l.length : Int) ≤ 4) = decide (1 ≤ l.length ∧ l.length ≤ 4) := by rw [decide_eq_decide]; omega
      simp only [a, and_self, decide_true, if_true, Bool.true_and, e]
    · simp [a]
  · refine Ev.step (f := fun k => (spec_PortOk.f k x.f0 x.f1 x.f2.f0 x.f2.f1 x.f2.f2 x.f2.f3 x.f3 x.f4 x.f5 x.f6 x.f7).bind fun t122 => (if t122 = true then (spec_BridgeOk.l0 k ((i + 1 : Nat) : Int) id l) else (some false))) (fun k => ?_) (Ev.bind (specPortOk_ev _ _ _ _ _ _ _ _ _ _ _) ?_)
    · simp only [spec_BridgeOk.l0]
      rw [if_pos (by omega), if_pos (by omega), rdPB hx, w64_succ (by omega)]
    · cases hp : portOk (pprt x) with
      | true =>
        have hp' := hp
        simp only [pprt] at hp'
        simp only [hp', if_true, portsOk, hp, Bool.true_and]
        exact ih
      | false =>
        have hp' := hp
        simp only [pprt] at hp'
        refine ev_some fun k => ?_
        simp [hp', portsOk, hp]
theorem specBetter_eq (a b c d a' b' c' d' : Int) : spec_Better.f a b c d a' b' c' d' = some (better a b c d a' b' c' d') := by
  simp only [spec_Better.f, better]
  by_cases h1 : a = a' <;> by_cases h2 : b = b' <;> by_cases h3 : c = c' <;> simp [h1, h2, h3] <;> omega
theorem specRootJ (id : Int) (l : List PB) (b : Int) (i : Nat) (x : PB) (hb : BestOk l b) (hi : i < l.length) (h : l.length ≤ 4194304) (r : Int × Bool)
    (hn : Ev (fun k => spec_RootPort.l0 k (stepR id l b i x) ((i + 1 : Nat) : Int) id l) r) :
    Ev (fun k => spec_RootPort.j2 k b (i : Int) (skipP id x) id l x.f0 x.f1 x.f2.f0 x.f2.f1 x.f2.f2 x.f2.f3 x.f3 x.f4 x.f5 x.f6 x.f7) r := by
  refine Ev.step (fun k => ?_) hn
  simp only [spec_RootPort.j2, stepR, w64_succ (show (i : Int) < 4611686018427387904 by omega)]
  cases skipP id x with
  | true => simp only [if_true]
  | false =>
    simp only [Bool.false_eq_true, if_false]
    rcases hb with rfl | ⟨h0, h1⟩
    · simp only [if_pos (show (-1 : Int) < 0 by omega)]
    · simp only [if_neg (show ¬ b < 0 by omega), if_pos h0, if_pos h1, specBetter_eq, Option.bind_some]
      split <;> rfl
theorem specRootPort_ev (id : Int) (l : List PB) (h : l.length ≤ 4194304) : Ev (fun k => spec_RootPort.f k id l) (if bridgeOk id l = true then (rootM id l (-1) l, decide (rootM id l (-1) l ≥ 0)) else (-1, false)) := by
  cases hok : bridgeOk id l with
  | false =>
    simp only [Bool.false_eq_true, if_false]
    have hj : Ev (fun k => spec_RootPort.j1 k (-1) 0 false id l) (-1, false) := ev_end fun k => by simp [spec_RootPort.j1]
    refine Ev.stepUp ?_
    simp only [spec_RootPort.f, spec_RootPort.l0]
    by_cases hl : (0 : Int) < (l.length : Int)
    · simp only [if_pos hl]
      have hB := specBridgeOk_ev id l h
      rw [hok] at hB
      exact Ev.bind hB hj
    · simp only [if_neg hl]
      exact hj
  | true =>
    simp only [if_true]
    refine ev_list l (fun k (b : Int) i => spec_RootPort.l0 k b i id l) (fun b t => (rootM id l b t, decide (rootM id l b t ≥ 0))) (fun _ b => BestOk l b)
      (fun b hb => ?_) (fun i b x t hb hi hd hx ih => ?_) (-1) (Or.inl rfl)
    · refine Ev.stepUp ?_
      simp only [spec_RootPort.l0, if_neg (show ¬ (l.length : Int) < (l.length : Int) by omega)]
      exact ev_end fun k => by simp [spec_RootPort.j1, rootM]
    · refine Ev.stepUp ?_
      simp only [spec_RootPort.l0, if_pos (show (i : Int) < (l.length : Int) by omega)]
      have hB := specBridgeOk_ev id l h
      rw [hok] at hB
      refine Ev.bind hB ?_
      have hn := ih _ (stepR_ok id l b i x hb hi)
      have e : rootM id l b (x :: t) = rootM id l (stepR id l b i x) t := by simp only [rootM, drop_at hd hi]
      rw [e]
      have hj := specRootJ id l b i x hb hi h _ hn
      refine Ev.step (fun k => ?_) hj
      simp only [spec_RootPort.j1, if_true, if_pos (show 0 ≤ (i : Int) by omega), if_pos (show (i : Int) < (l.length : Int) by omega), rdPB hx, skipP]
      cases x.f1 with
      | false => simp
      | true =>
        simp only [if_true, Bool.not_true, Bool.false_or]
        by_cases c1 : x.f2.f2 = id
        · simp [c1]
        · by_cases c2 : x.f2.f0 ≥ id
          · simp [c1, c2]
          · by_cases c3 : x.f2.f1 ≥ 20
            · simp [c1, c2, c3]
            · simp only [c1, c2, c3, if_false, decide_false, Bool.false_or]
theorem specOwn_ev (id : Int) (l : List PB) (p : Int) (h : l.length ≤ 4194304) : Ev (fun k => spec_Own.f k id l p) (ownX id l p) := by
  simp only [spec_Own.f]
  refine Ev.bind (specBridgeOk_ev id l h) ?_
  have jt : Ev (fun k => spec_Own.j0 k p true id l) (0, 0, 0, 0) := ev_end fun k => by simp [spec_Own.j0]
  unfold ownX
  cases hok : bridgeOk id l with
  | false => simp only [Bool.false_eq_true, if_false, false_and]; exact jt
  | true =>
    simp only [if_true, l1In_eq, Option.bind_some, true_and]
    rw [w64 (by omega) (by omega)]
    by_cases hp : 0 ≤ p ∧ p ≤ (l.length : Int) - 1
    · simp only [hp, and_self, decide_true, Bool.not_true, if_true]
      refine Ev.stepUp ?_
      simp only [spec_Own.j0, Bool.false_eq_true, if_false]
      have hR := specRootPort_ev id l h
      rw [hok] at hR
      simp only [if_true] at hR
      refine Ev.bind hR ?_
      unfold ownM
      by_cases h0 : rootM id l (-1) l ≥ 0
      · have h1 := root_lt id l h0
        simp only [h0, decide_true, if_true]
        simp only [if_pos (show 0 ≤ rootM id l (-1) l from h0), if_pos h1]
        exact ev_some fun _ => rfl
      · simp only [h0, decide_false, Bool.false_eq_true, if_false]
        exact ev_some fun _ => rfl
    · simp only [hp, decide_false, Bool.not_false, if_false]
      exact jt
theorem l8Copy_eq (id : Int) (l : List PB) (h : l.length ≤ 4194304) : spec_l8Copy.f id l = some (id, l) := by
  simp only [spec_l8Copy.f, Option.bind_some, List.length_nil, Nat.zero_add, List.nil_append]
  rw [if_pos (by omega)]
theorem ownX_in {id : Int} {l : List PB} (hok : bridgeOk id l = true) {i : Nat} (hi : i < l.length) : ownX id l i = ownM id l i := by
  unfold ownX
  rw [if_pos ⟨hok, by omega, by omega⟩]
theorem specDecide_ev (id : Int) (l : List PB) (h : l.length ≤ 4194304) : Ev (fun k => spec_Decide.f k id l) (id, if bridgeOk id l = true then decM id l else l) := by
  simp only [spec_Decide.f, l8Copy_eq id l h, Option.bind_some]
  refine Ev.bind (specBridgeOk_ev id l h) ?_
  have hR := specRootPort_ev id l h
  cases hok : bridgeOk id l with
  | false => simp only [Bool.false_eq_true, if_false]; exact ev_some fun _ => rfl
  | true =>
    rw [hok] at hR
    simp only [if_true] at hR ⊢
    refine Ev.bind hR ?_
    have hM := decM_length id l
    refine ev_list l (fun k (cur : List PB) i => spec_Decide.l0 k (rootM id l (-1) l) i id l id cur) (fun _ _ => (id, decM id l)) (fun i cur => cur = (decM id l).take i ++ l.drop i)
      (fun cur hc => ?_) (fun i cur x t hc hi hd hx ih => ?_) l (by simp)
    · subst hc
      refine ev_end fun k => ?_
      simp only [spec_Decide.l0, if_neg (show ¬ (l.length : Int) < (l.length : Int) by omega)]
      rw [← hM, List.take_length, hM, List.drop_length, List.append_nil]
    · subst hc
      have hln : ((decM id l).take i ++ l.drop i).length = l.length := turned_length hM (by omega)
      have hat := turned_at hM hx
      have hnx := turned_next hM (decM_get (id := id) hx)
      generalize (decM id l).take i ++ l.drop i = cur at hat hln hnx ⊢
      have hih := ih _ rfl
      have hrd := rdPB hx
      have hdn : x.f0 = false → Ev (fun k => spec_Decide.l0 k (rootM id l (-1) l) ((i + 1 : Nat) : Int) id l id cur) (id, decM id l) := by
        intro hu
        have e : decP id l i x = x := by simp [decP, hu]
        rw [e] at hnx
        have e2 : cur.set i x = cur := by
          apply List.ext_getElem?
          intro j
          by_cases hj : i = j
          · subst hj
            rw [List.getElem?_set_self (by omega), hat]
          · rw [List.getElem?_set_ne hj]
        rw [e2] at hnx
        rw [hnx]
        exact hih
      have jt : ∀ ro : Int, decP id l i x = ofP (turnM (pprt x) ro) → Ev (fun k => (spec_Turn.f k x.f0 x.f1 x.f2.f0 x.f2.f1 x.f2.f2 x.f2.f3 x.f3 x.f4 x.f5 x.f6 x.f7 ro).bind fun bt => spec_Decide.l0 k (rootM id l (-1) l) ((i + 1 : Nat) : Int) id l id (cur.set i (⟨bt.1, bt.2.1, ⟨bt.2.2.1, bt.2.2.2.1, bt.2.2.2.2.1, bt.2.2.2.2.2.1⟩, bt.2.2.2.2.2.2.1, bt.2.2.2.2.2.2.2.1, bt.2.2.2.2.2.2.2.2.1, bt.2.2.2.2.2.2.2.2.2.1, bt.2.2.2.2.2.2.2.2.2.2⟩ : PB))) (id, decM id l) := by
        intro ro hro
        refine Ev.bind (specTurn_ev _ _ _ _ _ _ _ _ _ _ _ _) ?_
        rw [hro] at hnx
        have e : (cur.set i (ofP (turnM (pprt x) ro))) = (decM id l).take (i + 1) ++ l.drop (i + 1) := hnx
        simp only [ofP, pprt] at e
        simp only [Prt.tup]
        rw [e]
        exact hih
      have hd1 : x.f0 = true → ∀ ro, roleM id l i x = ro → decP id l i x = ofP (turnM (pprt x) ro) := fun hu ro hro => by simp [decP, hu, hro]
      refine Ev.stepUp ?_
      simp only [spec_Decide.l0, if_pos (show (i : Int) < (l.length : Int) by omega), if_pos (show 0 ≤ (i : Int) by omega), hln, hrd, w64_succ (show (i : Int) < 4611686018427387904 by omega), Int.toNat_natCast]
      by_cases hr : (i : Int) = rootM id l (-1) l
      · simp only [if_pos hr]
        cases hu : x.f0 with
        | false => simp only [Bool.false_eq_true, if_false]; exact hdn hu
        | true =>
          simp only [if_true]
          have := jt 1 (hd1 hu 1 (by simp [roleM, hr]))
          rw [hu] at this
          exact this
      · simp only [if_neg hr]
        have j3 : ∀ (b : Bool), (x.f1 && better x.f2.f0 x.f2.f1 x.f2.f2 x.f2.f3 (ownM id l i).1 (ownM id l i).2.1 (ownM id l i).2.2.1 (ownM id l i).2.2.2) = b → Ev (fun k => spec_Decide.j1 k (rootM id l (-1) l) (i : Int) 2 b id l id cur x.f0 x.f1 x.f2.f0 x.f2.f1 x.f2.f2 x.f2.f3 x.f3 x.f4 x.f5 x.f6 x.f7) (id, decM id l) := by
          intro b hb
          refine Ev.stepUp ?_
          simp only [spec_Decide.j1, if_pos (show (i : Int) < (l.length : Int) by omega), if_pos (show 0 ≤ (i : Int) by omega), hln, w64_succ (show (i : Int) < 4611686018427387904 by omega), Int.toNat_natCast]
          cases hu : x.f0 with
          | false =>
            simp only [Bool.false_eq_true, if_false]
            split <;> exact hdn hu
          | true =>
            simp only [if_true]
            rw [hu] at jt
            cases b with
            | true =>
              simp only [if_true]
              exact jt 3 (hd1 hu 3 (by simp [roleM, hr, hb]))
            | false =>
              simp only [Bool.false_eq_true, if_false]
              exact jt 2 (hd1 hu 2 (by simp only [roleM, if_neg hr, hb]; rfl))
        cases hh : x.f1 with
        | false =>
          simp only [Bool.false_eq_true, if_false]
          have := j3 false (by simp [hh])
          rw [hh] at this
          exact this
        | true =>
          simp only [if_true]
          refine Ev.bind (specOwn_ev id l i h) ?_
          rw [ownX_in hok hi]
          simp only [specBetter_eq, Option.bind_some]
          have := j3 _ rfl
          rw [hh, Bool.true_and] at this
          exact this
theorem inRange_eq (x lo hi : Int) : impl_inRange.f x lo hi = some (decide (lo ≤ x ∧ x ≤ hi)) := by
  simp only [impl_inRange.f]
  by_cases h : lo ≤ x
  · rw [if_pos h]; simp [h]
  · rw [if_neg h]; simp [h]
theorem isPort_eq (x : Int) : impl_isPort.f x = some (decide (0 ≤ x ∧ x ≤ 3)) := by simp [impl_isPort.f, inRange_eq]
theorem implVecOk_eq (r c b p : Int) : impl_VecOk.f r c b p = some (vecOk r c b p) := by
  simp only [impl_VecOk.f, inRange_eq, isPort_eq, Option.bind_some, vecOk]
  by_cases h1 : 1 ≤ r ∧ r ≤ 9 <;> by_cases h2 : 1 ≤ b ∧ b ≤ 9 <;> by_cases h3 : r ≤ b <;> by_cases h4 : 0 ≤ c ∧ c ≤ 20 <;> by_cases h5 : 0 ≤ p ∧ p ≤ 3 <;> simp [h1, h2, h3, h4, h5]
  all_goals (first | (cases (c == 0) <;> cases (r == b) <;> rfl) | omega)
theorem isHops_eq (x : Int) : impl_isHops.f x = some (decide (0 ≤ x ∧ x ≤ 8)) := by simp [impl_isHops.f, inRange_eq]
theorem isOpenBy_eq (up has : Bool) (r c b p hops left role wait : Int) (op : Bool) : impl_Port_isOpenBy.f up has r c b p hops left role wait op = some (openBy role wait) := by
  simp only [impl_Port_isOpenBy.f, openBy]
  by_cases h1 : role = 1 <;> by_cases h2 : role = 2 <;> simp [h1, h2]
theorem implPortTail1 (k : Nat) (fl up has : Bool) (r c b p hops left role wait : Int) (op : Bool) : impl_PortOk.j1 (k + 1) fl up has r c b p hops left role wait op = some (!fl && tailOk up role wait op) := by
  simp only [impl_PortOk.j1, inRange_eq, isOpenBy_eq, Option.bind_some, tailOk]
  cases fl
  · by_cases hr : 0 ≤ role ∧ role ≤ 3 <;> by_cases hw : 0 ≤ wait ∧ wait ≤ 4 <;> by_cases h0 : role = 0 <;> cases up <;> simp [hr, hw, h0]
  · simp
theorem implPortOk_ev (up has : Bool) (r c b p hops left role wait : Int) (op : Bool) : Ev (fun k => impl_PortOk.f k up has r c b p hops left role wait op) (portOk ⟨up, has, r, c, b, p, hops, left, role, wait, op⟩) := by
  refine ⟨2, fun k hk => ?_⟩
  obtain ⟨j, rfl⟩ : ∃ j, k = j + 2 := ⟨k - 2, by omega⟩
  simp only [impl_PortOk.f, impl_PortOk.j0, implVecOk_eq, inRange_eq, isHops_eq, Option.bind_some, implPortTail1, portOk, headOk]
  cases has
  · by_cases r0 : r = 0 <;> by_cases c0 : c = 0 <;> by_cases b0 : b = 0 <;> by_cases p0 : p = 0 <;> by_cases h0 : hops = 0 <;> by_cases l0 : left = 0 <;> simp [r0, c0, b0, p0, h0, l0]
  · cases up <;> cases vecOk r c b p <;> by_cases h0 : 0 ≤ hops ∧ hops ≤ 8 <;> by_cases l0 : 1 ≤ left ∧ left ≤ 3 <;> simp [h0, l0]
theorem implTurn_ev (up has : Bool) (r c b p hops left role wait : Int) (op : Bool) (ro : Int) : Ev (fun k => impl_Turn.f k up has r c b p hops left role wait op ro) (turnM ⟨up, has, r, c, b, p, hops, left, role, wait, op⟩ ro).tup := by
  cases up
  · refine ev_end fun k => ?_
    simp [impl_Turn.f, impl_Turn.j0, turnM, Prt.tup]
  · simp only [impl_Turn.f, if_true, inRange_eq, Option.bind_some]
    by_cases hr : 1 ≤ ro ∧ ro ≤ 3
    · simp only [hr, and_self, decide_true, if_true]
      refine Ev.bind (implPortOk_ev true has r c b p hops left role wait op) ?_
      generalize hp : portOk ⟨true, has, r, c, b, p, hops, left, role, wait, op⟩ = po
      refine ev_end fun k => ?_
      cases po
      · simp [impl_Turn.j0, turnM, hp, Prt.tup]
      · simp only [impl_Turn.j0, isOpenBy_eq, Option.bind_some, turnM, hp, Prt.tup, Bool.true_and]
        by_cases e3 : ro = 3
        · subst e3
          simp
        · by_cases e : role = 3 <;> simp [hr, e3, e]
    · refine ev_end fun k => ?_
      simp [hr, impl_Turn.j0, turnM, Prt.tup]
theorem compare_eq (a b : Int) : cmp_Compare_int.f a b = some (if a < b then -1 else if a > b then 1 else 0) := by
  simp only [cmp_Compare_int.f, cmp_isNaN_int.f, Option.bind_some, bne_self_eq_false]
  simp only [Bool.false_eq_true, if_false]
  (repeat' split) <;> rfl
theorem or_ev (a b c d : Int) : Ev (fun k => cmp_Or_int.f k [a, b, c, d]) (if a ≠ 0 then a else if b ≠ 0 then b else if c ≠ 0 then c else if d ≠ 0 then d else 0) := by
  refine ⟨5, fun k hk => ?_⟩
  obtain ⟨j, rfl⟩ : ∃ j, k = j + 5 := ⟨k - 5, by omega⟩
  simp [cmp_Or_int.f, cmp_Or_int.l0, rd, wrap64]
  (repeat' split) <;> simp_all
theorem implBetter_ev (a b c d a' b' c' d' : Int) : Ev (fun k => impl_Better.f k a b c d a' b' c' d') (better a b c d a' b' c' d') := by
  simp only [impl_Better.f, compare_eq, Option.bind_some]
  refine Ev.bind (or_ev _ _ _ _) (ev_some fun _ => ?_)
  simp only [better]
  congr 1
  rw [decide_eq_decide]
  (repeat' split) <;> omega
theorem implRootJ (id : Int) (l : List PB) (b : Int) (i : Nat) (x : PB) (hb : BestOk l b) (hi : i < l.length) (h : l.length ≤ 4194304) (r : Int)
    (hn : Ev (fun k => impl_Bridge_rootPort.l0 k (stepR id l b i x) l (l.length : Int) ((i + 1 : Nat) : Int) id l) r) :
    Ev (fun k => impl_Bridge_rootPort.j1 k b (i : Int) l (l.length : Int) (i : Int) (skipP id x) id l x.f0 x.f1 x.f2.f0 x.f2.f1 x.f2.f2 x.f2.f3 x.f3 x.f4 x.f5 x.f6 x.f7) r := by
  refine Ev.stepUp ?_
  simp only [impl_Bridge_rootPort.j1, w64_succ (show (i : Int) < 4611686018427387904 by omega)]
  simp only [stepR] at hn
  cases hs : skipP id x with
  | true => simp only [hs, if_true] at hn ⊢; exact hn
  | false =>
    simp only [hs, Bool.false_eq_true, if_false] at hn ⊢
    rcases hb with rfl | ⟨h0, h1⟩
    · simp only [if_pos (show (-1 : Int) < 0 by omega)] at hn ⊢; exact hn
    · simp only [if_neg (show ¬ b < 0 by omega)] at hn
      simp only [if_neg (show ¬ b < 0 by omega), if_pos h0, if_pos h1]
      refine Ev.bind (implBetter_ev _ _ _ _ _ _ _ _) ?_
      split
      · rename_i hc; rw [if_pos hc] at hn; exact hn
      · rename_i hc; rw [if_neg hc] at hn; exact hn
theorem implRoot_ev (id : Int) (l : List PB) (h : l.length ≤ 4194304) : Ev (fun k => impl_Bridge_rootPort.f k id l) (rootM id l (-1) l) := by
  refine ev_list l (fun k (b : Int) i => impl_Bridge_rootPort.l0 k b l (l.length : Int) i id l) (fun b t => rootM id l b t) (fun _ b => BestOk l b)
    (fun b hb => ?_) (fun i b x t hb hi hd hx ih => ?_) (-1) (Or.inl rfl)
  · exact ev_end fun k => by simp [impl_Bridge_rootPort.l0, rootM]
  · have hn := ih _ (stepR_ok id l b i x hb hi)
    have e : rootM id l b (x :: t) = rootM id l (stepR id l b i x) t := by simp only [rootM, drop_at hd hi]
    rw [e]
    have hj := implRootJ id l b i x hb hi h _ hn
    refine Ev.step (fun k => ?_) hj
    simp only [impl_Bridge_rootPort.l0, if_pos (show 0 ≤ (i : Int) by omega), if_pos (show (i : Int) < (l.length : Int) by omega), rdPB hx, skipP]
    cases x.f1 with
    | false => simp
    | true =>
      simp only [if_true, Bool.not_true, Bool.false_or]
      by_cases c1 : x.f2.f2 = id
      · simp [c1]
      · by_cases c2 : x.f2.f0 ≥ id
        · simp [c1, c2]
        · by_cases c3 : x.f2.f1 ≥ 20
          · simp [c1, c2, c3]
          · simp only [c1, c2, c3, if_false, decide_false, Bool.false_or]
theorem implOwnB_ev (id : Int) (l : List PB) (p : Int) (h : l.length ≤ 4194304) : Ev (fun k => impl_Bridge_own.f k id l p) (ownM id l p) := by
  simp only [impl_Bridge_own.f]
  refine Ev.bind (implRoot_ev id l h) ?_
  unfold ownM
  by_cases h0 : rootM id l (-1) l ≥ 0
  · have h1 := root_lt id l h0
    simp only [if_pos h0, if_pos (show 0 ≤ rootM id l (-1) l from h0), if_pos h1]
    exact ev_some fun _ => rfl
  · simp only [if_neg h0]
    exact ev_some fun _ => rfl
theorem implDecide0_ev (id : Int) (l : List PB) (h : l.length ≤ 4194304) : Ev (fun k => impl_Bridge_decide.f k id l) (decM id l) := by
  simp only [impl_Bridge_decide.f]
  refine Ev.bind (implRoot_ev id l h) ?_
  have hM := decM_length id l
  refine ev_list l (fun k (cur : List PB) i => impl_Bridge_decide.l0 k (rootM id l (-1) l) (l.length : Int) i id cur) (fun _ _ => decM id l) (fun i cur => cur = (decM id l).take i ++ l.drop i)
    (fun cur hc => ?_) (fun i cur x t hc hi hd hx ih => ?_) l (by simp)
  · subst hc
    refine ev_end fun k => ?_
    simp only [impl_Bridge_decide.l0, if_neg (show ¬ (l.length : Int) < (l.length : Int) by omega)]
    rw [← hM, List.take_length, hM, List.drop_length, List.append_nil]
  · subst hc
    have hat := turned_at hM hx
    have hln : ((decM id l).take i ++ l.drop i).length = l.length := turned_length hM (by omega)
    have hcr := turned_core (decM_core id l) i
    have hnx := turned_next hM (decM_get (id := id) hx)
    generalize (decM id l).take i ++ l.drop i = cur at hat hln hcr hnx ⊢
    have hih := ih _ rfl
    have hrd := rdPB hat
    refine Ev.stepUp ?_
    simp only [impl_Bridge_decide.l0, if_pos (show (i : Int) < (l.length : Int) by omega), if_pos (show 0 ≤ (i : Int) by omega), hln, hrd, w64_succ (show (i : Int) < 4611686018427387904 by omega)]
    have jt : ∀ ro : Int, decP id l i x = ofP (turnM (pprt x) ro) → Ev (fun k => (impl_Turn.f k x.f0 x.f1 x.f2.f0 x.f2.f1 x.f2.f2 x.f2.f3 x.f3 x.f4 x.f5 x.f6 x.f7 ro).bind fun bt => impl_Bridge_decide.l0 k (rootM id l (-1) l) (l.length : Int) ((i + 1 : Nat) : Int) id (cur.set i (⟨bt.1, bt.2.1, ⟨bt.2.2.1, bt.2.2.2.1, bt.2.2.2.2.1, bt.2.2.2.2.2.1⟩, bt.2.2.2.2.2.2.1, bt.2.2.2.2.2.2.2.1, bt.2.2.2.2.2.2.2.2.1, bt.2.2.2.2.2.2.2.2.2.1, bt.2.2.2.2.2.2.2.2.2.2⟩ : PB))) (decM id l) := by
      intro ro hro
      refine Ev.bind (implTurn_ev _ _ _ _ _ _ _ _ _ _ _ _) ?_
      rw [hro] at hnx
      have e : (cur.set i (ofP (turnM (pprt x) ro))) = (decM id l).take (i + 1) ++ l.drop (i + 1) := hnx
      simp only [ofP, pprt] at e
      simp only [Prt.tup]
      rw [e]
      exact hih
    cases hu : x.f0 with
    | false =>
      simp only [Bool.false_eq_true, if_false]
      have e : decP id l i x = x := by simp [decP, hu]
      rw [e] at hnx
      have e2 : cur.set i x = cur := by
        apply List.ext_getElem?
        intro j
        by_cases hj : i = j
        · subst hj
          rw [List.getElem?_set_self (by omega), hat]
        · rw [List.getElem?_set_ne hj]
      rw [e2] at hnx
      rw [hnx]
      exact hih
    | true =>
      simp only [if_true]
      have hd1 : ∀ ro, roleM id l i x = ro → decP id l i x = ofP (turnM (pprt x) ro) := fun ro hro => by simp [decP, hu, hro]
      rw [hu] at jt
      by_cases hr : (i : Int) = rootM id l (-1) l
      · simp only [if_pos hr, Int.toNat_natCast]
        exact jt 1 (hd1 1 (by simp [roleM, hr]))
      · simp only [if_neg hr]
        have j3 : ∀ (b : Bool), (x.f1 && better x.f2.f0 x.f2.f1 x.f2.f2 x.f2.f3 (ownM id l i).1 (ownM id l i).2.1 (ownM id l i).2.2.1 (ownM id l i).2.2.2) = b → Ev (fun k => impl_Bridge_decide.j1 k (rootM id l (-1) l) (i : Int) (l.length : Int) (i : Int) b id cur true x.f1 x.f2.f0 x.f2.f1 x.f2.f2 x.f2.f3 x.f3 x.f4 x.f5 x.f6 x.f7) (decM id l) := by
          intro b hb
          refine Ev.stepUp ?_
          simp only [impl_Bridge_decide.j1, if_pos (show (i : Int) < (l.length : Int) by omega), if_pos (show 0 ≤ (i : Int) by omega), hln, w64_succ (show (i : Int) < 4611686018427387904 by omega), Int.toNat_natCast]
          cases b with
          | true =>
            simp only [if_true]
            exact jt 3 (hd1 3 (by simp [roleM, hr, hb]))
          | false =>
            simp only [Bool.false_eq_true, if_false]
            exact jt 2 (hd1 2 (by simp only [roleM, if_neg hr, hb]; rfl))
        cases hh : x.f1 with
        | false =>
          simp only [Bool.false_eq_true, if_false]
          have := j3 false (by simp [hh])
          rw [hh] at this
          exact this
        | true =>
          simp only [if_true]
          refine Ev.bind (implOwnB_ev id cur i (by omega)) ?_
          rw [ownM_core id hcr]
          refine Ev.bind (implBetter_ev _ _ _ _ _ _ _ _) ?_
          have := j3 _ rfl
          rw [hh, Bool.true_and] at this
          exact this
theorem implBridgeOk_ev (id : Int) (l : List PB) (h : l.length ≤ 4194304) : Ev (fun k => impl_BridgeOk.f k id l) (bridgeOk id l) := by
  refine ev_list0 l (fun k i => impl_BridgeOk.l0 k l (l.length : Int) i id l) (fun t => portsOk t && (decide (1 ≤ id ∧ id ≤ 9) && decide (1 ≤ l.length ∧ l.length ≤ 4)))
    (ev_end fun k => ?_)
    (fun i x t hi _ hx ih => ?_)
  · simp only [impl_BridgeOk.l0]
    rw [if_neg (by omega)]
    simp only [inRange_eq, Option.bind_some, portsOk, Bool.true_and]
    by_cases a : 1 ≤ id ∧ id ≤ 9
    · have e : decide (1 ≤ (l.length : Int) ∧ (l.length : Int) ≤ 4) = decide (1 ≤ l.length ∧ l.length ≤ 4) := by rw [decide_eq_decide]; omega
      simp only [a, and_self, decide_true, if_true, Bool.true_and, e]
    · simp [a]
  · refine Ev.step (f := fun k => (impl_PortOk.f k x.f0 x.f1 x.f2.f0 x.f2.f1 x.f2.f2 x.f2.f3 x.f3 x.f4 x.f5 x.f6 x.f7).bind fun t122 => (if t122 = true then (impl_BridgeOk.l0 k l (l.length : Int) ((i + 1 : Nat) : Int) id l) else (some false))) (fun k => ?_) (Ev.bind (implPortOk_ev _ _ _ _ _ _ _ _ _ _ _) ?_)
    · simp only [impl_BridgeOk.l0]
      rw [if_pos (by omega), if_pos (by omega), if_pos (by omega), rdPB hx, w64_succ (by omega)]
    · cases hp : portOk (pprt x) with
      | true =>
        have hp' := hp
        simp only [pprt] at hp'
        simp only [hp', if_true, portsOk, hp, Bool.true_and]
        exact ih
      | false =>
        have hp' := hp
        simp only [pprt] at hp'
        refine ev_some fun k => ?_
        simp [hp', portsOk, hp]
theorem copyBridge_eq (id : Int) (l : List PB) (h : l.length ≤ 4194304) : impl_copyBridge.f id l = some (id, l) := by
  simp only [impl_copyBridge.f, impl_Port.f, Option.bind_some, List.length_nil, Nat.zero_add, List.nil_append]
  rw [if_pos (by omega)]
  rfl
theorem implDecide_ev (id : Int) (l : List PB) (h : l.length ≤ 4194304) : Ev (fun k => impl_Decide.f k id l) (id, if bridgeOk id l = true then decM id l else l) := by
  simp only [impl_Decide.f, copyBridge_eq id l h, Option.bind_some]
  refine Ev.bind (implBridgeOk_ev id l h) ?_
  cases hok : bridgeOk id l with
  | false => simp only [Bool.false_eq_true, if_false]; exact ev_some fun _ => rfl
  | true =>
    simp only [if_true]
    exact Ev.bind (implDecide0_ev id l h) (ev_some fun _ => rfl)
abbrev PA := S160
def pcv (x : PA) : PB := ⟨x.f0, x.f1, ⟨x.f2.f0, x.f2.f1, x.f2.f2, x.f2.f3⟩, x.f3, x.f4, x.f5, x.f6, x.f7⟩
theorem rdPA {l : List PA} {i : Nat} {x : PA} (h : l[i]? = some x) : rd_T160 l (i : Int) = x := getD_at h
theorem szPortS_eq (l : List PA) (n : Int) (h : l.length ≤ maxLen) (h0 : 0 ≤ n) (h1 : n ≤ 1048576) : laws_szPortS.f l n = some (if (l.length : Int) ≤ n then n - l.length else -1) := by
  unfold maxLen at h
  simp only [laws_szPortS.f]
  rw [w64 (by omega) (by omega)]
  by_cases hl : (l.length : Int) ≤ n
  · rw [if_neg (by omega), if_pos hl]
  · rw [if_pos (by omega), if_neg hl]
theorem szBridge_eq (a : Int) (l : List PA) (n : Int) (h : l.length ≤ maxLen) (h0 : 0 ≤ n) (h1 : n ≤ 1048576) : laws_szBridge.f a l n = some (if (l.length : Int) ≤ n then n - l.length else -1) := by
  simp only [laws_szBridge.f, szPortS_eq l n h h0 h1, Option.bind_some]
  split
  · split <;> simp_all
    omega
  · simp
theorem toPortS_ev (l : List PA) (h : l.length ≤ 4194304) : Ev (fun k => laws_toPortS.f k l) (l.map pcv) := by
  have h0 := ev_copy l z79 pcv (fun k acc i => laws_toPortS.l0 k l acc i)
    (fun acc ha => ev_end fun k => by simp only [laws_toPortS.l0]; rw [if_neg (by omega)])
    (fun i acc x r ha hi hx ih => Ev.step (fun k => by
      simp only [laws_toPortS.l0, laws_toPort.f, laws_toVec.f, Option.bind_some]
      rw [if_pos (by omega), if_pos (by omega), if_pos (by omega), rdPA hx, w64_succ (by omega)]
      simp [pcv]) ih)
  refine Ev.congr (fun k => ?_) h0
  simp only [laws_toPortS.f]
  rw [if_pos (by omega), if_pos (by simp; omega)]
  simp
theorem toBridge_ev (a : Int) (l : List PA) (h : l.length ≤ 4194304) : Ev (fun k => laws_toBridge.f k a l) (a, l.map pcv) := by
  simp only [laws_toBridge.f]
  exact Ev.bind (toPortS_ev l h) (ev_some fun _ => rfl)
theorem eqPort_eq (a0 a1 : Bool) (a2 a3 a4 a5 a6 a7 a8 a9 : Int) (a10 : Bool) : laws_eqPort.f a0 a1 a2 a3 a4 a5 a6 a7 a8 a9 a10 a0 a1 a2 a3 a4 a5 a6 a7 a8 a9 a10 = some true := by
  simp [laws_eqPort.f, laws_eqVec.f]
theorem eqPortS_ev (l : List PB) (h : l.length ≤ 4194304) : Ev (fun k => laws_eqPortS.f k l l) true := by
  have h0 := ev_list0 l (fun k i => laws_eqPortS.l0 k l l i) (fun _ => true)
    (ev_end fun k => by simp only [laws_eqPortS.l0]; rw [if_neg (by omega)])
    (fun i x t hi _ hx ih => Ev.step (fun k => by
      simp only [laws_eqPortS.l0, eqPort_eq, Option.bind_some, if_true]
      rw [if_pos (by omega), if_pos (by omega), if_pos (by omega), w64_succ (by omega)]) ih)
  refine Ev.congr (fun k => ?_) h0
  simp [laws_eqPortS.f]
theorem eqBridge_ev (a : Int) (l : List PB) (h : l.length ≤ 4194304) : Ev (fun k => laws_eqBridge.f k a l a l) true := by
  simp only [laws_eqBridge.f, if_true]
  exact Ev.bind (eqPortS_ev l h) (ev_some fun _ => rfl)
def pmk (_ : PB) (n : Int) : PB := ⟨Int.tmod n 3 == 0, Int.tmod (n + 1) 3 == 0, ⟨n + 1 + 1, n + 1 + 1 + 1, n + 1 + 1 + 1 + 1, n + 1 + 1 + 1 + 1 + 1⟩, n + 1 + 1 + 1 + 1 + 1 + 1, n + 1 + 1 + 1 + 1 + 1 + 1 + 1, n + 1 + 1 + 1 + 1 + 1 + 1 + 1 + 1, n + 1 + 1 + 1 + 1 + 1 + 1 + 1 + 1 + 1, Int.tmod (n + 1 + 1 + 1 + 1 + 1 + 1 + 1 + 1 + 1 + 1) 3 == 0⟩
theorem markPortS_ev (l : List PB) (h : l.length ≤ 4194304) (m : Int) (h0 : 0 ≤ m) (h1 : m ≤ 1125899906842624) : Ev (fun k => laws_markPortS.f k l m) (m + costs (fun _ => 11) l, upsG pmk (fun _ => 11) m l) := by
  refine ev_mark l pmk (fun _ => 11) (fun _ _ => by decide) (fun k acc n i => laws_markPortS.l0 k acc n i) (fun acc n ha => ?_) (fun i acc n x r ha hi _ hx hn hb ih => ?_) m h0 (by rw [costs_const]; omega)
  · refine ev_end fun k => ?_
    simp only [laws_markPortS.l0]
    rw [if_neg (by omega)]
  · refine Ev.step (fun k => ?_) ih
    have hs := fun v => rdPB_set (l := acc) (i := i) (by omega) v
    simp only [laws_markPortS.l0]
    rw [if_pos (by omega), if_pos (by omega), w64_succ (by omega)]
    simp (disch := omega) only [Option.bind_some, Int.toNat_natCast, hs, List.set_set, w64, pmk]
    have e : n + 11 = n + 1 + 1 + 1 + 1 + 1 + 1 + 1 + 1 + 1 + 1 + 1 := by omega
    rw [e]
theorem heldPortS_ev (l : List PB) (h : l.length ≤ 4194304) (m : Int) (h0 : 0 ≤ m) (h1 : m ≤ 1125899906842624) : Ev (fun k => laws_heldPortS.f k (upsG pmk (fun _ => 11) m l) m) (m + costs (fun _ => 11) l) := by
  refine ev_held l pmk (fun _ => 11) (fun _ _ => by decide) (fun k acc n i => laws_heldPortS.l0 k acc n i) (fun acc n ha => ?_) (fun i acc n x r ha hi _ hx hn hb ih => ?_) m h0 (by rw [costs_const]; omega)
  · refine ev_end fun k => ?_
    simp only [laws_heldPortS.l0]
    rw [if_neg (by omega)]
  · refine Ev.step (fun k => ?_) ih
    simp only [laws_heldPortS.l0]
    rw [if_pos (by omega), if_pos (by omega), w64_succ (by omega), rdPB hx]
    simp (disch := omega) only [w64, pmk, if_true, bne_self_eq_false, Bool.false_eq_true, if_false]
    have e : n + 11 = n + 1 + 1 + 1 + 1 + 1 + 1 + 1 + 1 + 1 + 1 + 1 := by omega
    rw [e]
theorem markBridge_ev (a : Int) (l : List PB) (h : l.length ≤ 4194304) (m : Int) (h0 : 0 ≤ m) (h1 : m ≤ 1125899906842624) : Ev (fun k => laws_markBridge.f k a l m) (m + costs (fun _ => 11) l, upsG pmk (fun _ => 11) m l) := by
  simp only [laws_markBridge.f]
  exact Ev.bind (markPortS_ev l h m h0 h1) (ev_some fun _ => rfl)
theorem heldBridge_ev (a : Int) (l : List PB) (h : l.length ≤ 4194304) (m : Int) (h0 : 0 ≤ m) (h1 : m ≤ 1125899906842624) : Ev (fun k => laws_heldBridge.f k a (upsG pmk (fun _ => 11) m l) m) (m + costs (fun _ => 11) l) := by
  simp only [laws_heldBridge.f]
  have c := costs_nonneg (fun _ : PB => 11) l (fun _ _ => by decide)
  exact Ev.bind (heldPortS_ev l h m h0 h1) (ev_some fun _ => by rw [if_neg (by omega)])
theorem FnExactDecide : FnExactDecidePure := by
  intro a l _ hl
  have hsz := szBridge_eq a l 1048576 hl.1 (by omega) (by omega)
  refine Ev.rounds ?_
  simp only [laws_FnExactDecide.f, hsz, Option.bind_some]
  by_cases hbig : ¬ ((l.length : Int) ≤ 1048576)
  · exact ev_some fun _ => by simp [hbig]
  have hbig : (l.length : Int) ≤ 1048576 := by omega
  simp only [if_pos hbig, if_neg (show ¬ (1048576 : Int) - l.length < 0 by omega)]
  have hm : (l.map pcv).length ≤ 4194304 := by simp; omega
  have ht := toBridge_ev a l (by omega)
  refine Ev.bind ht ?_
  refine Ev.bind (specDecide_ev a (l.map pcv) hm) ?_
  refine Ev.bind ht ?_
  refine Ev.bind (implDecide_ev a (l.map pcv) hm) ?_
  have hd : Ev (fun k => impl_Decide.f k a (l.map pcv)) _ := implDecide_ev a (l.map pcv) hm
  have hr : (if bridgeOk a (l.map pcv) = true then decM a (l.map pcv) else l.map pcv).length ≤ 4194304 := by
    split
    · rw [decM_length]; exact hm
    · exact hm
  generalize (if bridgeOk a (l.map pcv) = true then decM a (l.map pcv) else l.map pcv) = r at hr hd ⊢
  dsimp only
  refine Ev.bind (eqBridge_ev a r hr) ?_
  simp only [if_true]
  refine Ev.bind ht ?_
  refine Ev.bind (eqBridge_ev a (l.map pcv) hm) ?_
  simp only [if_true]
  have c1 := costs_nonneg (fun _ : PB => 11) (l.map pcv) (fun _ _ => by decide)
  have c2 := costs_nonneg (fun _ : PB => 11) r (fun _ _ => by decide)
  refine Ev.bind (markBridge_ev a (l.map pcv) hm 1 (by omega) (by omega)) ?_
  simp only [if_neg (show ¬ 1 + costs (fun _ : PB => 11) (l.map pcv) < 0 by omega)]
  refine Ev.bind (eqBridge_ev a r hr) ?_
  simp only [Bool.not_true]
  refine Ev.stepUp ?_
  simp only [laws_FnExactDecide.j0, Bool.false_eq_true, if_false]
  refine Ev.bind (markBridge_ev a r hr 1 (by omega) (by omega)) ?_
  refine Ev.bind (heldBridge_ev a r hr 1 (by omega) (by omega)) ?_
  simp only [if_neg (show ¬ 1 + costs (fun _ : PB => 11) r < 0 by omega), if_true]
  refine Ev.bind ht ?_
  refine Ev.bind hd ?_
  dsimp only
  refine Ev.bind (eqBridge_ev a r hr) ?_
  simp only [if_true]
  refine Ev.bind (heldBridge_ev a r hr 1 (by omega) (by omega)) ?_
  simp only [if_neg (show ¬ 1 + costs (fun _ : PB => 11) r < 0 by omega), if_true]
  exact ev_some fun _ => rfl
end Go.Proofs.Ythmijfekdeagpaa.Pure

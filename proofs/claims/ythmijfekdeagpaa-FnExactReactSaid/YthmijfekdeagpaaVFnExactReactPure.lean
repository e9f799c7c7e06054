/- A part of the proof of laws.FnExactReact. No condition beyond what its theorems say. -/
/- The statement of laws.FnExactReact over numbers and lists alone: at every input it answers true. No condition but that the numbers are those of their kinds and that no slice is longer than a Go slice can be. -/
import Derived.Test.YthmijfekdeagpaaVFnExactReactT
import Derived.Test.YthmijfekdeagpaaVFnExactReactBase
import Derived.Laws.BitsLemmas
set_option linter.unusedVariables false
set_option linter.unusedSimpArgs false
namespace Go.Proofs.Ythmijfekdeagpaa.Pure
open Go.RowKit Go.Proofs.Ythmijfekdeagpaa.PFnExactReact Go.Proofs.Ythmijfekdeagpaa.Base Go.Proofs.YthmijfekdeagpaaW.PrintWords Go.Proofs.YthmijfekdeagpaaW.PrintLast Go.Proofs.YthmijfekdeagpaaW.PrintMore
def FnExactReactPure : Prop := ∀ (a0_0 : Int) (l0_1 : List (S160)) (a1_0 : Int) (a1_1 : Int) (a1_2 : Int) (a1_3 : Int) (a1_4 : Int) (a1_5 : Int) (a1_6 : Int) (a1_7 : Bool), ((Lit.int .i64 a0_0).wf = true) → (l0_1.length ≤ maxLen ∧ ∀ x ∈ l0_1, (True) ∧ (True) ∧ (((Lit.int .i64 x.f2.f0).wf = true) ∧ ((Lit.int .i64 x.f2.f1).wf = true) ∧ ((Lit.int .i64 x.f2.f2).wf = true) ∧ ((Lit.int .i64 x.f2.f3).wf = true)) ∧ ((Lit.int .i64 x.f3).wf = true) ∧ ((Lit.int .i64 x.f4).wf = true) ∧ ((Lit.int .i64 x.f5).wf = true) ∧ ((Lit.int .i64 x.f6).wf = true) ∧ (True)) → ((Lit.int .i64 a1_0).wf = true) → ((Lit.int .i64 a1_1).wf = true) → ((Lit.int .i64 a1_2).wf = true) → ((Lit.int .i64 a1_3).wf = true) → ((Lit.int .i64 a1_4).wf = true) → ((Lit.int .i64 a1_5).wf = true) → ((Lit.int .i64 a1_6).wf = true) → ∃ k, Z2.f k a0_0 l0_1 a1_0 a1_1 a1_2 a1_3 a1_4 a1_5 a1_6 a1_7 = some true
def vecOk (r c b p : Int) : Bool := decide (1 ≤ r ∧ r ≤ 9) && (decide (1 ≤ b ∧ b ≤ 9) && (decide (r ≤ b) && (decide (0 ≤ c ∧ c ≤ 20) && (((c == 0) == (r == b)) && decide (0 ≤ p ∧ p ≤ 3)))))
theorem vecOk_iff (r c b p : Int) : vecOk r c b p = true ↔ (1 ≤ r ∧ r ≤ 9) ∧ (1 ≤ b ∧ b ≤ 9) ∧ r ≤ b ∧ (0 ≤ c ∧ c ≤ 20) ∧ (c = 0 ↔ r = b) ∧ 0 ≤ p ∧ p ≤ 3 := by
 unfold vecOk
 have e1 : (c == 0) = decide (c = 0) := by by_cases h : c = 0 <;> simp [h]
 have e2 : (r == b) = decide (r = b) := by by_cases h : r = b <;> simp [h]
 rw [e1, e2]
 by_cases h1 : c = 0 <;> by_cases h2 : r = b <;> simp [h1, h2]
structure Prt where
 up : Bool
 has : Bool
 r : Int
 c : Int
 b : Int
 p : Int
 hops : Int
 left : Int
 role : Int
 wait : Int
 op : Bool
def Prt.tup (q : Prt) : Bool × Bool × Int × Int × Int × Int × Int × Int × Int × Int × Bool := (q.up, q.has, q.r, q.c, q.b, q.p, q.hops, q.left, q.role, q.wait, q.op)
def openBy (role wait : Int) : Bool := (role == 1 || role == 2) && wait == 0
def tailOk (up : Bool) (role wait : Int) (op : Bool) : Bool := decide (0 ≤ role ∧ role ≤ 3) && (((role == 0) == !up) && (decide (0 ≤ wait ∧ wait ≤ 4) && (op == openBy role wait)))
def headOk (q : Prt) : Bool :=
 if q.has then q.up && (vecOk q.r q.c q.b q.p && (decide (0 ≤ q.hops ∧ q.hops ≤ 8) && decide (1 ≤ q.left ∧ q.left ≤ 3)))
 else decide (q.r = 0) && (decide (q.c = 0) && (decide (q.b = 0) && (decide (q.p = 0) && (decide (q.hops = 0) && decide (q.left = 0)))))
def portOk (q : Prt) : Bool := headOk q && tailOk q.up q.role q.wait q.op
abbrev VB := S73
abbrev PB := S79
def pprt (x : PB) : Prt := ⟨x.f0, x.f1, x.f2.f0, x.f2.f1, x.f2.f2, x.f2.f3, x.f3, x.f4, x.f5, x.f6, x.f7⟩
theorem rdPB {l : List PB} {i : Nat} {x : PB} (h : l[i]? = some x) : rd_T79 l (i : Int) = x := getD_at h
theorem rdPB_set {l : List PB} {i : Nat} (h : i < l.length) (v : PB) : rd_T79 (l.set i v) (i : Int) = v := rdPB (by simp [h])
def portsOk : List PB → Bool
 | [] => true
 | x :: t => portOk (pprt x) && portsOk t
def bridgeOk (id : Int) (l : List PB) : Bool := portsOk l && (decide (1 ≤ id ∧ id ≤ 9) && decide (1 ≤ l.length ∧ l.length ≤ 4))
theorem portsOk_iff : ∀ l : List PB, portsOk l = true ↔ ∀ x ∈ l, portOk (pprt x) = true := by
 intro l
 induction l with
 | nil => simp [portsOk]
 | cons x t ih => simp [portsOk, ih]
def better (a b c d a' b' c' d' : Int) : Bool := decide (a < a' ∨ a = a' ∧ (b < b' ∨ b = b' ∧ (c < c' ∨ c = c' ∧ d < d')))
theorem Ev.stepUp {α : Type} {g : Nat → Option α} {r : α} (h : Ev (fun k => g (k + 1)) r) : Ev g r := Ev.step (fun _ => rfl) h
def skipP (id : Int) (x : PB) : Bool := !x.f1 || (decide (x.f2.f2 = id) || (decide (x.f2.f0 ≥ id) || (decide (x.f2.f1 ≥ 20) || decide (x.f3 ≥ 8))))
def stepR (id : Int) (l : List PB) (b i : Int) (x : PB) : Int :=
 if skipP id x = true then b else if b < 0 then i else if better x.f2.f0 x.f2.f1 x.f2.f2 x.f2.f3 (rd_T79 l b).f2.f0 (rd_T79 l b).f2.f1 (rd_T79 l b).f2.f2 (rd_T79 l b).f2.f3 = true then i else b
def rootM (id : Int) (l : List PB) : Int → List PB → Int
 | b, [] => b
 | b, x :: t => rootM id l (stepR id l b ((l.length - (t.length + 1) : Nat) : Int) x) t
theorem drop_at {α : Type} {l : List α} {i : Nat} {x : α} {t : List α} (h : l.drop i = x :: t) (hi : i < l.length) : l.length - (t.length + 1) = i := by
 have := congrArg List.length h
 simp at this
 omega
def BestOk (l : List PB) (b : Int) : Prop := b = -1 ∨ (0 ≤ b ∧ b < l.length)
theorem stepR_ok (id : Int) (l : List PB) (b : Int) (i : Nat) (x : PB) (hb : BestOk l b) (hi : i < l.length) : BestOk l (stepR id l b i x) := by
 have h1 : BestOk l (i : Int) := Or.inr ⟨by omega, by omega⟩
 unfold stepR
 (repeat' split) <;> assumption
theorem rootM_ok (id : Int) (l : List PB) : ∀ (t : List PB) (b : Int), BestOk l b → t.length ≤ l.length → BestOk l (rootM id l b t) := by
 intro t
 induction t with
 | nil => intro b hb _; exact hb
 | cons x t ih =>
  intro b hb ht
  simp only [List.length_cons] at ht
  exact ih _ (stepR_ok id l b _ x hb (by omega)) (by omega)
def hopsM (id : Int) (l : List PB) : Int := if rootM id l (-1) l ≥ 0 then wrap64 ((rd_T79 l (rootM id l (-1) l)).f3 + 1) else 0
theorem root_lt (id : Int) (l : List PB) (h : rootM id l (-1) l ≥ 0) : rootM id l (-1) l < (l.length : Int) := by
 have := rootM_ok id l l (-1) (Or.inl rfl) (Nat.le_refl _)
 rcases this with e | ⟨_, h1⟩
 ·omega
 ·exact h1
def ownM (id : Int) (l : List PB) (p : Int) : Int × Int × Int × Int := if rootM id l (-1) l ≥ 0 then ((rd_T79 l (rootM id l (-1) l)).f2.f0, wrap64 ((rd_T79 l (rootM id l (-1) l)).f2.f1 + 1), id, p) else (id, 0, id, p)
def ownX (id : Int) (l : List PB) (p : Int) : Int × Int × Int × Int := if bridgeOk id l = true ∧ (0 ≤ p ∧ p ≤ (l.length : Int) - 1) then ownM id l p else (0, 0, 0, 0)
def turnM (q : Prt) (role : Int) : Prt :=
 if (portOk q && (q.up && decide (1 ≤ role ∧ role ≤ 3))) = true then
  (if role = 3 then ⟨q.up, q.has, q.r, q.c, q.b, q.p, q.hops, q.left, role, 0, openBy role 0⟩
   else if q.role = 3 then ⟨q.up, q.has, q.r, q.c, q.b, q.p, q.hops, q.left, role, 4, openBy role 4⟩
   else ⟨q.up, q.has, q.r, q.c, q.b, q.p, q.hops, q.left, role, q.wait, openBy role q.wait⟩)
 else q
def ofP (q : Prt) : PB := ⟨q.up, q.has, ⟨q.r, q.c, q.b, q.p⟩, q.hops, q.left, q.role, q.wait, q.op⟩
theorem ofP_pprt (x : PB) : ofP (pprt x) = x := rfl
theorem pprt_ofP (q : Prt) : pprt (ofP q) = q := rfl
def coreP (x : PB) : Bool × VB × Int := (x.f1, x.f2, x.f3)
theorem core_rd {l l' : List PB} (h : l.map coreP = l'.map coreP) (i : Int) : coreP (rd_T79 l i) = coreP (rd_T79 l' i) := by
 have e : ∀ m : List PB, coreP (rd_T79 m i) = (m.map coreP).getD i.toNat (coreP z79) := fun m => by
  show coreP (m.getD i.toNat _) = _
  simp only [List.getD_eq_getElem?_getD, List.getElem?_map]
  cases m[i.toNat]? <;> rfl
 rw [e, e, h]
theorem core_f1 {x y : PB} (h : coreP x = coreP y) : x.f1 = y.f1 := congrArg (·.1) h
theorem core_f2 {x y : PB} (h : coreP x = coreP y) : x.f2 = y.f2 := congrArg (·.2.1) h
theorem core_f3 {x y : PB} (h : coreP x = coreP y) : x.f3 = y.f3 := congrArg (·.2.2) h
theorem stepR_core (id : Int) {l l' : List PB} (h : l.map coreP = l'.map coreP) (b i : Int) {x y : PB} (hx : coreP x = coreP y) : stepR id l b i x = stepR id l' b i y := by
 have h1 := core_f1 hx
 have h2 := core_f2 hx
 have h3 := core_f3 hx
 obtain ⟨x0, x1, x2, x3, x4, x5, x6, x7⟩ := x
 obtain ⟨y0, y1, y2, y3, y4, y5, y6, y7⟩ := y
 dsimp only at h1 h2 h3
 subst h1 h2 h3
 unfold stepR skipP
 rw [core_f2 (core_rd h b)]
theorem rootM_core (id : Int) {l l' : List PB} (h : l.map coreP = l'.map coreP) : ∀ (t t' : List PB) (b : Int), t.map coreP = t'.map coreP → rootM id l b t = rootM id l' b t' := by
 have hl : l.length = l'.length := by simpa using congrArg List.length h
 intro t
 induction t with
 | nil =>
  intro t' b ht
  cases t' with
  | nil => rfl
  | cons y u => simp at ht
 | cons x t ih =>
  intro t' b ht
  cases t' with
  | nil => simp at ht
  | cons y u =>
   simp only [List.map_cons, List.cons.injEq] at ht
   have hn : t.length = u.length := by simpa using congrArg List.length ht.2
   simp only [rootM, hl, hn, stepR_core id h _ _ ht.1]
   exact ih u _ ht.2
theorem root_core (id : Int) {l l' : List PB} (h : l.map coreP = l'.map coreP) : rootM id l (-1) l = rootM id l' (-1) l' := rootM_core id h l l' (-1) h
theorem ownM_core (id : Int) {l l' : List PB} (h : l.map coreP = l'.map coreP) (p : Int) : ownM id l p = ownM id l' p := by
 unfold ownM
 rw [root_core id h, core_f2 (core_rd h _)]
theorem hopsM_core (id : Int) {l l' : List PB} (h : l.map coreP = l'.map coreP) : hopsM id l = hopsM id l' := by
 unfold hopsM
 rw [root_core id h, core_f3 (core_rd h _)]
def roleM (id : Int) (l : List PB) (i : Nat) (x : PB) : Int :=
 if (i : Int) = rootM id l (-1) l then 1 else if (x.f1 && better x.f2.f0 x.f2.f1 x.f2.f2 x.f2.f3 (ownM id l i).1 (ownM id l i).2.1 (ownM id l i).2.2.1 (ownM id l i).2.2.2) = true then 3 else 2
def decP (id : Int) (l : List PB) (i : Nat) (x : PB) : PB := if x.f0 = true then ofP (turnM (pprt x) (roleM id l i x)) else x
def decM (id : Int) (l : List PB) : List PB := l.mapIdx (decP id l)
theorem decM_length (id : Int) (l : List PB) : (decM id l).length = l.length := by simp [decM]
theorem decM_get {id : Int} {l : List PB} {i : Nat} {x : PB} (h : l[i]? = some x) : (decM id l)[i]? = some (decP id l i x) := by simp [decM, h]
theorem turnM_core (q : Prt) (ro : Int) : (turnM q ro).up = q.up ∧ (turnM q ro).has = q.has ∧ (turnM q ro).r = q.r ∧ (turnM q ro).c = q.c ∧ (turnM q ro).b = q.b ∧ (turnM q ro).p = q.p ∧ (turnM q ro).hops = q.hops ∧ (turnM q ro).left = q.left := by
 unfold turnM
 (repeat' split) <;> simp
theorem decP_core (id : Int) (l : List PB) (i : Nat) (x : PB) : coreP (decP id l i x) = coreP x := by
 unfold decP
 split
 ·obtain ⟨_, h1, h2, h3, h4, h5, h6, _⟩ := turnM_core (pprt x) (roleM id l i x)
  simp only [coreP, ofP, h1, h2, h3, h4, h5, h6]
  rfl
 ·rfl
theorem decM_core (id : Int) (l : List PB) : (decM id l).map coreP = l.map coreP := by
 apply List.ext_getElem?
 intro i
 simp only [decM, List.getElem?_map, List.getElem?_mapIdx, Option.map_map]
 cases l[i]? with
 | none => rfl
 | some x => simp [decP_core]
theorem turned_next {α : Type} {M L : List α} (hl : M.length = L.length) {i : Nat} {y : α} (hy : M[i]? = some y) : (M.take i ++ L.drop i).set i y = M.take (i + 1) ++ L.drop (i + 1) := by
 have hi : i < M.length := (List.getElem?_eq_some_iff.1 hy).1
 have ht : (M.take i).length = i := by simp; omega
 rw [List.set_append_right _ _ (by omega), ht, Nat.sub_self, List.drop_eq_getElem_cons (show i < L.length by omega), List.set_cons_zero, List.take_add_one, hy]
 simp
theorem turned_at {α : Type} {M L : List α} (hl : M.length = L.length) {i : Nat} {x : α} (hx : L[i]? = some x) : (M.take i ++ L.drop i)[i]? = some x := by
 have hi : i < L.length := (List.getElem?_eq_some_iff.1 hx).1
 rw [List.getElem?_append_right (by simp; omega)]
 simp only [List.length_take, List.getElem?_drop]
 rw [show i + (i - min i M.length) = i by omega]
 exact hx
theorem turned_length {α : Type} {M L : List α} (hl : M.length = L.length) {i : Nat} (hi : i ≤ L.length) : (M.take i ++ L.drop i).length = L.length := by
 simp; omega
theorem turned_core {M L : List PB} (h : M.map coreP = L.map coreP) (i : Nat) : (M.take i ++ L.drop i).map coreP = L.map coreP := by
 simp only [List.map_append, List.map_take, List.map_drop, h, List.take_append_drop]
def fadeM (q : Prt) : Prt := if (q.has && portOk q) = true then (if q.left - 1 = 0 then ⟨q.up, false, 0, 0, 0, 0, 0, 0, q.role, q.wait, q.op⟩ else ⟨q.up, q.has, q.r, q.c, q.b, q.p, q.hops, q.left - 1, q.role, q.wait, q.op⟩) else q
theorem portOk_left (q : Prt) (h : portOk q = true) (hh : q.has = true) : 1 ≤ q.left ∧ q.left ≤ 3 := by
 simp [portOk, headOk, hh] at h
 omega
def tickM (q : Prt) : Prt :=
 if ((fadeM q).role = 1 ∨ (fadeM q).role = 2) ∧ (fadeM q).wait > 0 then
  ⟨(fadeM q).up, (fadeM q).has, (fadeM q).r, (fadeM q).c, (fadeM q).b, (fadeM q).p, (fadeM q).hops, (fadeM q).left, (fadeM q).role, wrap64 ((fadeM q).wait - 1), openBy (fadeM q).role (wrap64 ((fadeM q).wait - 1))⟩
 else
  ⟨(fadeM q).up, (fadeM q).has, (fadeM q).r, (fadeM q).c, (fadeM q).b, (fadeM q).p, (fadeM q).hops, (fadeM q).left, (fadeM q).role, (fadeM q).wait, openBy (fadeM q).role (fadeM q).wait⟩
def tickP (x : PB) : PB := ofP (tickM (pprt x))
theorem fadeM_ok (q : Prt) (h : portOk q = true) : portOk (fadeM q) = true := by
 unfold fadeM
 split
 ·rename_i h1
  simp only [Bool.and_eq_true] at h1
  have h2 := portOk_left q h h1.1
  simp only [portOk, Bool.and_eq_true] at h ⊢
  split
  ·exact ⟨by simp [headOk], h.2⟩
  ·refine ⟨?_, h.2⟩
   have h3 := h.1
   simp only [headOk, h1.1, if_true, Bool.and_eq_true, decide_eq_true_eq] at h3 ⊢
   exact ⟨h3.1, h3.2.1, h3.2.2.1, by omega, by omega⟩
 ·exact h
theorem fadeM_tail (q : Prt) : (fadeM q).up = q.up ∧ (fadeM q).role = q.role ∧ (fadeM q).wait = q.wait ∧ (fadeM q).op = q.op := by
 unfold fadeM
 (repeat' split) <;> simp
theorem portOk_tail {q : Prt} (h : portOk q = true) : (0 ≤ q.role ∧ q.role ≤ 3) ∧ ((q.role == 0) = !q.up) ∧ (0 ≤ q.wait ∧ q.wait ≤ 4) ∧ q.op = openBy q.role q.wait := by
 simp only [portOk, tailOk, Bool.and_eq_true, decide_eq_true_eq, beq_iff_eq] at h
 exact h.2
theorem tickM_ok (q : Prt) (h : portOk q = true) : portOk (tickM q) = true := by
 have hf := fadeM_ok q h
 have ht := portOk_tail hf
 unfold tickM
 generalize fadeM q = f at hf ht ⊢
 obtain ⟨f0, f1, f2, f3, f4, f5, f6, f7, f8, f9, f10⟩ := f
 simp only [portOk, Bool.and_eq_true] at hf
 dsimp only at ht hf ⊢
 obtain ⟨t1, t2, t3, t4⟩ := ht
 split
 ·rename_i hw
  rw [w64 (by omega) (by omega)]
  simp only [portOk, Bool.and_eq_true]
  refine ⟨hf.1, ?_⟩
  simp only [tailOk, Bool.and_eq_true, decide_eq_true_eq, beq_iff_eq]
  exact ⟨t1, t2, by omega, by first | rfl | trivial⟩
 ·simp only [portOk, Bool.and_eq_true]
  refine ⟨hf.1, ?_⟩
  simp only [tailOk, Bool.and_eq_true, decide_eq_true_eq, beq_iff_eq]
  exact ⟨t1, t2, t3, by first | rfl | trivial⟩
theorem tickM_tail (q : Prt) : (tickM q).up = q.up ∧ (tickM q).role = q.role := by
 have h := fadeM_tail q
 unfold tickM
 split <;> exact ⟨h.1, h.2.1⟩
theorem portsOk_set {l : List PB} (h : portsOk l = true) {i : Nat} {x : PB} (hx : portOk (pprt x) = true) : portsOk (l.set i x) = true := by
 rw [portsOk_iff] at h ⊢
 intro y hy
 rcases List.mem_or_eq_of_mem_set hy with hy | rfl
 ·exact h y hy
 ·exact hx
theorem bridgeOk_set {id : Int} {l : List PB} (h : bridgeOk id l = true) {i : Nat} {x : PB} (hx : portOk (pprt x) = true) : bridgeOk id (l.set i x) = true := by
 simp only [bridgeOk, Bool.and_eq_true, List.length_set] at h ⊢
 exact ⟨portsOk_set h.1 hx, h.2⟩
theorem bridgeOk_ports {id : Int} {l : List PB} (h : bridgeOk id l = true) {i : Nat} {x : PB} (hx : l[i]? = some x) : portOk (pprt x) = true := by
 simp only [bridgeOk, Bool.and_eq_true] at h
 exact (portsOk_iff l).1 h.1 x (List.mem_of_getElem? hx)
theorem bridgeOk_len {id : Int} {l : List PB} (h : bridgeOk id l = true) : 1 ≤ l.length ∧ l.length ≤ 4 ∧ 1 ≤ id ∧ id ≤ 9 := by
 simp only [bridgeOk, Bool.and_eq_true, decide_eq_true_eq] at h
 omega
theorem bridgeOk_map {id : Int} {l : List PB} (h : bridgeOk id l = true) {f : PB → PB} (hf : ∀ x, portOk (pprt x) = true → portOk (pprt (f x)) = true) : bridgeOk id (l.map f) = true := by
 simp only [bridgeOk, Bool.and_eq_true, List.length_map] at h ⊢
 refine ⟨?_, h.2⟩
 rw [portsOk_iff] at h ⊢
 intro y hy
 obtain ⟨x, hx, rfl⟩ := List.mem_map.1 hy
 exact hf x (h.1 x hx)
theorem turnM_ok' (q : Prt) (role : Int) (hq : portOk q = true) : portOk (turnM q role) = true := by
 unfold turnM
 split
 ·rename_i h1
  simp only [Bool.and_eq_true, decide_eq_true_eq] at h1
  obtain ⟨_, hu, hr⟩ := h1
  have h0 : ¬ role = 0 := by omega
  simp only [portOk, Bool.and_eq_true] at hq
  obtain ⟨hh, ht⟩ := hq
  simp only [tailOk, Bool.and_eq_true, decide_eq_true_eq] at ht
  obtain ⟨_, _, hw, _⟩ := ht
  have hh' : ∀ (ro wa : Int) (o : Bool), headOk ⟨q.up, q.has, q.r, q.c, q.b, q.p, q.hops, q.left, ro, wa, o⟩ = true := fun _ _ _ => hh
  rw [hu] at hh'
  have h3 : 0 ≤ role ∧ role ≤ 3 := by omega
  split
  ·simp [portOk, hh', tailOk, hu, h0, h3]
  ·split
   ·simp [portOk, hh', tailOk, hu, h0, h3]
   ·simp [portOk, hh', tailOk, hu, h0, h3, hw]
 ·exact hq
theorem decP_ok (id : Int) (l : List PB) (i : Nat) (x : PB) (h : portOk (pprt x) = true) : portOk (pprt (decP id l i x)) = true := by
 unfold decP
 split
 ·rw [pprt_ofP]; exact turnM_ok' _ _ h
 ·exact h
theorem decM_ok {id : Int} {l : List PB} (h : bridgeOk id l = true) : bridgeOk id (decM id l) = true := by
 have hl := decM_length id l
 simp only [bridgeOk, Bool.and_eq_true, hl] at h ⊢
 refine ⟨?_, h.2⟩
 rw [portsOk_iff] at h ⊢
 intro y hy
 obtain ⟨i, hi⟩ := List.getElem?_of_mem hy
 have hi' : i < l.length := by
  have := (List.getElem?_eq_some_iff.1 hi).1
  omega
 have hx := List.getElem?_eq_getElem hi'
 rw [decM_get (id := id) hx] at hi
 injection hi with hi
 subst hi
 exact decP_ok id l i _ (h.1 _ (List.mem_of_getElem? hx))
def claimM (q : Prt) (r c b p h : Int) : Prt :=
 if (portOk q && (q.up && (vecOk r c b p && decide (0 ≤ h ∧ h ≤ 8)))) = true then
  (if (q.has && (better q.r q.c q.b q.p r c b p && !(decide (q.b = b) && decide (q.p = p)))) = true then q else ⟨q.up, true, r, c, b, p, h, 3, q.role, q.wait, q.op⟩)
 else q
def inOk (k p r c b q h : Int) (u : Bool) : Bool :=
 if k = 1 then decide (0 ≤ p ∧ p ≤ 3) && vecOk r c b q && decide (0 ≤ h ∧ h ≤ 8) && !u
 else if k = 3 then decide (0 ≤ p ∧ p ≤ 3 ∧ r = 0 ∧ c = 0 ∧ b = 0 ∧ q = 0 ∧ h = 0)
 else decide (k = 2 ∧ p = 0 ∧ r = 0 ∧ c = 0 ∧ b = 0 ∧ q = 0 ∧ h = 0) && !u
abbrev OB := S151
def linkP (up : Bool) : PB := if up then ⟨true, false, ⟨0, 0, 0, 0⟩, 0, 0, 3, 0, false⟩ else ⟨false, false, ⟨0, 0, 0, 0⟩, 0, 0, 0, 0, false⟩
theorem linkP_ok (up : Bool) : portOk (pprt (linkP up)) = true := by cases up <;> decide
theorem claimM_ok' (q : Prt) (r c b p h : Int) (hq : portOk q = true) : portOk (claimM q r c b p h) = true := by
 unfold claimM
 split
 ·rename_i h1
  split
  ·exact hq
  ·simp only [Bool.and_eq_true, decide_eq_true_eq] at h1
   obtain ⟨_, hu, hv, hh⟩ := h1
   simp only [portOk, Bool.and_eq_true] at hq ⊢
   refine ⟨?_, hq.2⟩
   simp [headOk, hu, hv, hh]
 ·exact hq
def inM (id : Int) (l : List PB) (kind port r c b p h : Int) (up : Bool) : List PB :=
 if kind = 1 then decM id (l.set port.toNat (ofP (claimM (pprt (rd_T79 l port)) r c b p h)))
 else if kind = 2 then decM id (l.map tickP)
 else if (rd_T79 l port).f0 = up then l else decM id (l.set port.toNat (linkP up))
theorem inM_length (id : Int) (l : List PB) (kind port r c b p h : Int) (up : Bool) : (inM id l kind port r c b p h up).length = l.length := by
 unfold inM
 (repeat' split) <;> simp [decM_length]
theorem inOk_kind {kind p r c b q h : Int} {u : Bool} (hx : inOk kind p r c b q h u = true) : (kind = 1 ∨ kind = 2 ∨ kind = 3) ∧ 0 ≤ p := by
 unfold inOk at hx
 split at hx
 ·rename_i h1; simp only [Bool.and_eq_true, decide_eq_true_eq] at hx; exact ⟨Or.inl h1, hx.1.1.1.1⟩
 ·split at hx
  ·rename_i h3; simp only [decide_eq_true_eq] at hx; exact ⟨Or.inr (Or.inr h3), hx.1⟩
  ·simp only [Bool.and_eq_true, decide_eq_true_eq] at hx; exact ⟨Or.inr (Or.inl hx.1.1), by omega⟩
theorem inM_ok {id : Int} {l : List PB} (hok : bridgeOk id l = true) (kind port r c b p h : Int) (up : Bool) (h0 : 0 ≤ port) (h1 : port < (l.length : Int)) : bridgeOk id (inM id l kind port r c b p h up) = true := by
 have hx : l[port.toNat]? = some l[port.toNat] := List.getElem?_eq_getElem (by omega)
 have e : ((port.toNat : Nat) : Int) = port := by omega
 have hr := rdPB hx
 rw [e] at hr
 have hp := bridgeOk_ports hok hx
 unfold inM
 (repeat' split)
 ·rw [hr]
  exact decM_ok (bridgeOk_set hok (by rw [pprt_ofP]; exact claimM_ok' _ _ _ _ _ _ hp))
 ·exact decM_ok (bridgeOk_map hok fun x hx => by rw [tickP, pprt_ofP]; exact tickM_ok _ hx)
 ·exact hok
 ·exact decM_ok (bridgeOk_set hok (linkP_ok up))
def gateAcc (old : List PB) : List OB → Nat → List PB → List OB
 | acc, _, [] => acc
 | acc, i, x :: t => gateAcc old (if (x.f7 != (rd_T79 old (i : Int)).f7) = true then acc ++ [(⟨2, (i : Int), ⟨0, 0, 0, 0⟩, 0, x.f7⟩ : OB)] else acc) (i + 1) t
def sayAcc (id : Int) (l : List PB) : List OB → Nat → List PB → List OB
 | acc, _, [] => acc
 | acc, i, x :: t => sayAcc id l (if x.f5 = 2 then acc ++ [(⟨1, (i : Int), ⟨(ownM id l i).1, (ownM id l i).2.1, (ownM id l i).2.2.1, (ownM id l i).2.2.2⟩, hopsM id l, false⟩ : OB)] else acc) (i + 1) t
def outsM (id : Int) (old l : List PB) (kind : Int) : List OB := if kind = 2 then sayAcc id l (gateAcc old [] 0 l) 0 l else gateAcc old [] 0 l
def reactOk (id : Int) (l : List PB) (kind port r c b p h : Int) (up : Bool) : Bool := bridgeOk id l && (inOk kind port r c b p h up && decide (port < (l.length : Int)))
def reactM (id : Int) (l : List PB) (kind port r c b p h : Int) (up : Bool) : Int × List PB × List OB :=
 if reactOk id l kind port r c b p h up = true then (id, inM id l kind port r c b p h up, outsM id l (inM id l kind port r c b p h up) kind) else (id, l, [])
theorem reactM_length (id : Int) (l : List PB) (kind port r c b p h : Int) (up : Bool) : (reactM id l kind port r c b p h up).2.1.length = l.length := by
 unfold reactM
 split
 ·exact inM_length _ _ _ _ _ _ _ _ _ _
 ·rfl
theorem l1In_eq (x lo hi : Int) : Z3.f x lo hi = some (decide (lo ≤ x ∧ x ≤ hi)) := by
 simp only [Z3.f]
 by_cases h : lo ≤ x
 ·rw [if_pos h]; simp [h]
 ·rw [if_neg h]; simp [h]
theorem specVecOk_eq (r c b p : Int) : Z41.f r c b p = some (vecOk r c b p) := by
 simp only [Z41.f, l1In_eq, Option.bind_some, vecOk]
 by_cases h1 : 1 ≤ r ∧ r ≤ 9 <;> by_cases h2 : 1 ≤ b ∧ b ≤ 9 <;> by_cases h3 : r ≤ b <;> by_cases h4 : 0 ≤ c ∧ c ≤ 20 <;> by_cases h5 : 0 ≤ p ∧ p ≤ 3 <;> simp [h1, h2, h3, h4, h5]
 all_goals (first | (cases (c == 0) <;> cases (r == b) <;> rfl) | omega)
theorem specPortTail0 (k : Nat) (fl up has : Bool) (r c b p hops left role wait : Int) (op : Bool) : Z10.j0 (k + 1) fl up has r c b p hops left role wait op = some (!fl && tailOk up role wait op) := by
 simp only [Z10.j0, l1In_eq, Option.bind_some, tailOk, openBy]
 cases fl
 ·by_cases h1 : role = 1
  ·subst h1
   by_cases hw : 0 ≤ wait ∧ wait ≤ 4 <;> cases up <;> simp [hw]
  ·by_cases h2 : role = 2
   ·subst h2
    by_cases hw : 0 ≤ wait ∧ wait ≤ 4 <;> cases up <;> simp [hw]
   ·by_cases hr : 0 ≤ role ∧ role ≤ 3 <;> by_cases hw : 0 ≤ wait ∧ wait ≤ 4 <;> by_cases h0 : role = 0 <;> cases up <;> cases op <;> simp [h1, h2, hr, hw, h0]
 ·simp
theorem specPortTail1 (k : Nat) (fl up has : Bool) (r c b p hops left role wait : Int) (op : Bool) : Z10.j1 (k + 1) fl up has r c b p hops left role wait op = some (!fl && tailOk up role wait op) := by
 simp only [Z10.j1, l1In_eq, Option.bind_some, tailOk, openBy]
 cases fl
 ·by_cases h1 : role = 1
  ·subst h1
   by_cases hw : 0 ≤ wait ∧ wait ≤ 4 <;> cases up <;> simp [hw]
  ·by_cases h2 : role = 2
   ·subst h2
    by_cases hw : 0 ≤ wait ∧ wait ≤ 4 <;> cases up <;> simp [hw]
   ·by_cases hr : 0 ≤ role ∧ role ≤ 3 <;> by_cases hw : 0 ≤ wait ∧ wait ≤ 4 <;> by_cases h0 : role = 0 <;> cases up <;> cases op <;> simp [h1, h2, hr, hw, h0]
 ·simp
theorem specPortOk_ev (up has : Bool) (r c b p hops left role wait : Int) (op : Bool) : Ev (fun k => Z10.f k up has r c b p hops left role wait op) (portOk ⟨up, has, r, c, b, p, hops, left, role, wait, op⟩) := by
 refine ev_end fun k => ?_
 simp only [Z10.f, specVecOk_eq, l1In_eq, Option.bind_some, specPortTail0, specPortTail1, portOk, headOk]
 cases has
 ·by_cases r0 : r = 0 <;> by_cases c0 : c = 0 <;> by_cases b0 : b = 0 <;> by_cases p0 : p = 0 <;> by_cases h0 : hops = 0 <;> by_cases l0 : left = 0 <;> simp [r0, c0, b0, p0, h0, l0]
 ·cases up <;> cases vecOk r c b p <;> by_cases h0 : 0 ≤ hops ∧ hops ≤ 8 <;> by_cases l0 : 1 ≤ left ∧ left ≤ 3 <;> simp [h0, l0]
theorem l7Open_eq (up has : Bool) (r c b p hops left role wait : Int) (op : Bool) : Z51.f up has r c b p hops left role wait op = some (up, has, r, c, b, p, hops, left, role, wait, openBy role wait) := by
 simp only [Z51.f, openBy]
 by_cases h1 : role = 1 <;> by_cases h2 : role = 2 <;> simp [h1, h2]
theorem specTurn_ev (up has : Bool) (r c b p hops left role wait : Int) (op : Bool) (ro : Int) : Ev (fun k => Z16.f k up has r c b p hops left role wait op ro) (turnM ⟨up, has, r, c, b, p, hops, left, role, wait, op⟩ ro).tup := by
 refine Ev.bind (specPortOk_ev up has r c b p hops left role wait op) ?_
 generalize hp : portOk ⟨up, has, r, c, b, p, hops, left, role, wait, op⟩ = po
 refine ⟨2, fun k hk => ?_⟩
 obtain ⟨j, rfl⟩ : ∃ j, k = j + 2 := ⟨k - 2, by omega⟩
 cases po
 ·simp [Z16.j0, turnM, hp, Prt.tup]
 ·cases up
  ·simp [Z16.j0, turnM, hp, Prt.tup]
  ·simp only [l1In_eq, Option.bind_some, if_true, Z16.j0, Z16.j1, l7Open_eq, turnM, hp, Prt.tup, Bool.true_and]
   by_cases hr : 1 ≤ ro ∧ ro ≤ 3
   ·by_cases e3 : ro = 3
    ·subst e3
     by_cases e : role = 3 <;> simp [e]
    ·by_cases e : role = 3 <;> simp [hr, e3, e]
   ·simp [hr]
theorem specBridgeOk_ev (id : Int) (l : List PB) (h : l.length ≤ 4194304) : Ev (fun k => Z13.f k id l) (bridgeOk id l) := by
 refine ev_list0 l (fun k i => Z13.l0 k i id l) (fun t => portsOk t && (decide (1 ≤ id ∧ id ≤ 9) && decide (1 ≤ l.length ∧ l.length ≤ 4)))
  (ev_end fun k => ?_)
  (fun i x t hi _ hx ih => ?_)
 ·simp only [Z13.l0]
  rw [if_neg (by omega)]
  simp only [l1In_eq, Option.bind_some, portsOk, Bool.true_and]
  by_cases a : 1 ≤ id ∧ id ≤ 9
  ·have e : decide (1 ≤ (l.length : Int) ∧ (l.length : Int) ≤ 4) = decide (1 ≤ l.length ∧ l.length ≤ 4) := by rw [decide_eq_decide]; omega
   simp only [a, and_self, decide_true, if_true, Bool.true_and, e]
  ·simp [a]
 ·refine Ev.step (f := fun k => (Z10.f k x.f0 x.f1 x.f2.f0 x.f2.f1 x.f2.f2 x.f2.f3 x.f3 x.f4 x.f5 x.f6 x.f7).bind fun t122 => (if t122 = true then (Z13.l0 k ((i + 1 : Nat) : Int) id l) else (some false))) (fun k => ?_) (Ev.bind (specPortOk_ev _ _ _ _ _ _ _ _ _ _ _) ?_)
  ·simp only [Z13.l0]
   rw [if_pos (by omega), if_pos (by omega), rdPB hx, w64_succ (by omega)]
  ·cases hp : portOk (pprt x) with
   | true =>
    have hp' := hp
    simp only [pprt] at hp'
    simp only [hp', if_true, portsOk, hp, Bool.true_and]
    exact ih
   | false =>
    have hp' := hp
    simp only [pprt] at hp'
    refine ev_some fun k => ?_
    simp [hp', portsOk, hp]
theorem specBetter_eq (a b c d a' b' c' d' : Int) : Z49.f a b c d a' b' c' d' = some (better a b c d a' b' c' d') := by
 simp only [Z49.f, better]
 by_cases h1 : a = a' <;> by_cases h2 : b = b' <;> by_cases h3 : c = c' <;> simp [h1, h2, h3] <;> omega
theorem specRootJ (id : Int) (l : List PB) (b : Int) (i : Nat) (x : PB) (hb : BestOk l b) (hi : i < l.length) (h : l.length ≤ 4194304) (r : Int × Bool)
  (hn : Ev (fun k => Z6.l0 k (stepR id l b i x) ((i + 1 : Nat) : Int) id l) r) :
  Ev (fun k => Z6.j2 k b (i : Int) (skipP id x) id l x.f0 x.f1 x.f2.f0 x.f2.f1 x.f2.f2 x.f2.f3 x.f3 x.f4 x.f5 x.f6 x.f7) r := by
 refine Ev.step (fun k => ?_) hn
 simp only [Z6.j2, stepR, w64_succ (show (i : Int) < 4611686018427387904 by omega)]
 cases skipP id x with
 | true => simp only [if_true]
 | false =>
  simp only [Bool.false_eq_true, if_false]
  rcases hb with rfl | ⟨h0, h1⟩
  ·simp only [if_pos (show (-1 : Int) < 0 by omega)]
  ·simp only [if_neg (show ¬ b < 0 by omega), if_pos h0, if_pos h1, specBetter_eq, Option.bind_some]
   split <;> rfl
theorem specRootPort_ev (id : Int) (l : List PB) (h : l.length ≤ 4194304) : Ev (fun k => Z6.f k id l) (if bridgeOk id l = true then (rootM id l (-1) l, decide (rootM id l (-1) l ≥ 0)) else (-1, false)) := by
 cases hok : bridgeOk id l with
 | false =>
  simp only [Bool.false_eq_true, if_false]
  have hj : Ev (fun k => Z6.j1 k (-1) 0 false id l) (-1, false) := ev_end fun k => by simp [Z6.j1]
  refine Ev.stepUp ?_
  simp only [Z6.f, Z6.l0]
  by_cases hl : (0 : Int) < (l.length : Int)
  ·simp only [if_pos hl]
   have hB := specBridgeOk_ev id l h
   rw [hok] at hB
   exact Ev.bind hB hj
  ·simp only [if_neg hl]
   exact hj
 | true =>
  simp only [if_true]
  refine ev_list l (fun k (b : Int) i => Z6.l0 k b i id l) (fun b t => (rootM id l b t, decide (rootM id l b t ≥ 0))) (fun _ b => BestOk l b)
   (fun b hb => ?_) (fun i b x t hb hi hd hx ih => ?_) (-1) (Or.inl rfl)
  ·refine Ev.stepUp ?_
   simp only [Z6.l0, if_neg (show ¬ (l.length : Int) < (l.length : Int) by omega)]
   exact ev_end fun k => by simp [Z6.j1, rootM]
  ·refine Ev.stepUp ?_
   simp only [Z6.l0, if_pos (show (i : Int) < (l.length : Int) by omega)]
   have hB := specBridgeOk_ev id l h
   rw [hok] at hB
   refine Ev.bind hB ?_
   have hn := ih _ (stepR_ok id l b i x hb hi)
   have e : rootM id l b (x :: t) = rootM id l (stepR id l b i x) t := by simp only [rootM, drop_at hd hi]
   rw [e]
   have hj := specRootJ id l b i x hb hi h _ hn
   refine Ev.step (fun k => ?_) hj
   simp only [Z6.j1, if_true, if_pos (show 0 ≤ (i : Int) by omega), if_pos (show (i : Int) < (l.length : Int) by omega), rdPB hx, skipP]
   cases x.f1 with
   | false => simp
   | true =>
    simp only [if_true, Bool.not_true, Bool.false_or]
    by_cases c1 : x.f2.f2 = id
    ·simp [c1]
    ·by_cases c2 : x.f2.f0 ≥ id
     ·simp [c1, c2]
     ·by_cases c3 : x.f2.f1 ≥ 20
      ·simp [c1, c2, c3]
      ·simp only [c1, c2, c3, if_false, decide_false, Bool.false_or]
theorem specOwn_ev (id : Int) (l : List PB) (p : Int) (h : l.length ≤ 4194304) : Ev (fun k => Z22.f k id l p) (ownX id l p) := by
 simp only [Z22.f]
 refine Ev.bind (specBridgeOk_ev id l h) ?_
 have jt : Ev (fun k => Z22.j0 k p true id l) (0, 0, 0, 0) := ev_end fun k => by simp [Z22.j0]
 unfold ownX
 cases hok : bridgeOk id l with
 | false => simp only [Bool.false_eq_true, if_false, false_and]; exact jt
 | true =>
  simp only [if_true, l1In_eq, Option.bind_some, true_and]
  rw [w64 (by omega) (by omega)]
  by_cases hp : 0 ≤ p ∧ p ≤ (l.length : Int) - 1
  ·simp only [hp, and_self, decide_true, Bool.not_true, if_true]
   refine Ev.stepUp ?_
   simp only [Z22.j0, Bool.false_eq_true, if_false]
   have hR := specRootPort_ev id l h
   rw [hok] at hR
   simp only [if_true] at hR
   refine Ev.bind hR ?_
   unfold ownM
   by_cases h0 : rootM id l (-1) l ≥ 0
   ·have h1 := root_lt id l h0
    simp only [h0, decide_true, if_true]
    simp only [if_pos (show 0 ≤ rootM id l (-1) l from h0), if_pos h1]
    exact ev_some fun _ => rfl
   ·simp only [h0, decide_false, Bool.false_eq_true, if_false]
    exact ev_some fun _ => rfl
  ·simp only [hp, decide_false, Bool.not_false, if_false]
   exact jt
theorem l8Copy_eq (id : Int) (l : List PB) (h : l.length ≤ 4194304) : Z36.f id l = some (id, l) := by
 simp only [Z36.f, Option.bind_some, List.length_nil, Nat.zero_add, List.nil_append]
 rw [if_pos (by omega)]
theorem ownX_in {id : Int} {l : List PB} (hok : bridgeOk id l = true) {i : Nat} (hi : i < l.length) : ownX id l i = ownM id l i := by
 unfold ownX
 rw [if_pos ⟨hok, by omega, by omega⟩]
theorem specDecide_ev (id : Int) (l : List PB) (h : l.length ≤ 4194304) : Ev (fun k => Z8.f k id l) (id, if bridgeOk id l = true then decM id l else l) := by
 simp only [Z8.f, l8Copy_eq id l h, Option.bind_some]
 refine Ev.bind (specBridgeOk_ev id l h) ?_
 have hR := specRootPort_ev id l h
 cases hok : bridgeOk id l with
 | false => simp only [Bool.false_eq_true, if_false]; exact ev_some fun _ => rfl
 | true =>
  rw [hok] at hR
  simp only [if_true] at hR ⊢
  refine Ev.bind hR ?_
  have hM := decM_length id l
  refine ev_list l (fun k (cur : List PB) i => Z8.l0 k (rootM id l (-1) l) i id l id cur) (fun _ _ => (id, decM id l)) (fun i cur => cur = (decM id l).take i ++ l.drop i)
   (fun cur hc => ?_) (fun i cur x t hc hi hd hx ih => ?_) l (by simp)
  ·subst hc
   refine ev_end fun k => ?_
   simp only [Z8.l0, if_neg (show ¬ (l.length : Int) < (l.length : Int) by omega)]
   rw [← hM, List.take_length, hM, List.drop_length, List.append_nil]
  ·subst hc
   have hln : ((decM id l).take i ++ l.drop i).length = l.length := turned_length hM (by omega)
   have hat := turned_at hM hx
   have hnx := turned_next hM (decM_get (id := id) hx)
   generalize (decM id l).take i ++ l.drop i = cur at hat hln hnx ⊢
   have hih := ih _ rfl
   have hrd := rdPB hx
   have hdn : x.f0 = false → Ev (fun k => Z8.l0 k (rootM id l (-1) l) ((i + 1 : Nat) : Int) id l id cur) (id, decM id l) := by
    intro hu
    have e : decP id l i x = x := by simp [decP, hu]
    rw [e] at hnx
    have e2 : cur.set i x = cur := by
     apply List.ext_getElem?
     intro j
     by_cases hj : i = j
     ·subst hj
      rw [List.getElem?_set_self (by omega), hat]
     ·rw [List.getElem?_set_ne hj]
    rw [e2] at hnx
    rw [hnx]
    exact hih
   have jt : ∀ ro : Int, decP id l i x = ofP (turnM (pprt x) ro) → Ev (fun k => (Z16.f k x.f0 x.f1 x.f2.f0 x.f2.f1 x.f2.f2 x.f2.f3 x.f3 x.f4 x.f5 x.f6 x.f7 ro).bind fun bt => Z8.l0 k (rootM id l (-1) l) ((i + 1 : Nat) : Int) id l id (cur.set i (⟨bt.1, bt.2.1, ⟨bt.2.2.1, bt.2.2.2.1, bt.2.2.2.2.1, bt.2.2.2.2.2.1⟩, bt.2.2.2.2.2.2.1, bt.2.2.2.2.2.2.2.1, bt.2.2.2.2.2.2.2.2.1, bt.2.2.2.2.2.2.2.2.2.1, bt.2.2.2.2.2.2.2.2.2.2⟩ : PB))) (id, decM id l) := by
    intro ro hro
    refine Ev.bind (specTurn_ev _ _ _ _ _ _ _ _ _ _ _ _) ?_
    rw [hro] at hnx
    have e : (cur.set i (ofP (turnM (pprt x) ro))) = (decM id l).take (i + 1) ++ l.drop (i + 1) := hnx
    simp only [ofP, pprt] at e
    simp only [Prt.tup]
    rw [e]
    exact hih
   have hd1 : x.f0 = true → ∀ ro, roleM id l i x = ro → decP id l i x = ofP (turnM (pprt x) ro) := fun hu ro hro => by simp [decP, hu, hro]
   refine Ev.stepUp ?_
   simp only [Z8.l0, if_pos (show (i : Int) < (l.length : Int) by omega), if_pos (show 0 ≤ (i : Int) by omega), hln, hrd, w64_succ (show (i : Int) < 4611686018427387904 by omega), Int.toNat_natCast]
   by_cases hr : (i : Int) = rootM id l (-1) l
   ·simp only [if_pos hr]
    cases hu : x.f0 with
    | false => simp only [Bool.false_eq_true, if_false]; exact hdn hu
    | true =>
     simp only [if_true]
     have := jt 1 (hd1 hu 1 (by simp [roleM, hr]))
     rw [hu] at this
     exact this
   ·simp only [if_neg hr]
    have j3 : ∀ (b : Bool), (x.f1 && better x.f2.f0 x.f2.f1 x.f2.f2 x.f2.f3 (ownM id l i).1 (ownM id l i).2.1 (ownM id l i).2.2.1 (ownM id l i).2.2.2) = b → Ev (fun k => Z8.j1 k (rootM id l (-1) l) (i : Int) 2 b id l id cur x.f0 x.f1 x.f2.f0 x.f2.f1 x.f2.f2 x.f2.f3 x.f3 x.f4 x.f5 x.f6 x.f7) (id, decM id l) := by
     intro b hb
     refine Ev.stepUp ?_
     simp only [Z8.j1, if_pos (show (i : Int) < (l.length : Int) by omega), if_pos (show 0 ≤ (i : Int) by omega), hln, w64_succ (show (i : Int) < 4611686018427387904 by omega), Int.toNat_natCast]
     cases hu : x.f0 with
     | false =>
      simp only [Bool.false_eq_true, if_false]
      split <;> exact hdn hu
     | true =>
      simp only [if_true]
      rw [hu] at jt
      cases b with
      | true =>
       simp only [if_true]
       exact jt 3 (hd1 hu 3 (by simp [roleM, hr, hb]))
      | false =>
       simp only [Bool.false_eq_true, if_false]
       exact jt 2 (hd1 hu 2 (by simp only [roleM, if_neg hr, hb]; rfl))
    cases hh : x.f1 with
    | false =>
     simp only [Bool.false_eq_true, if_false]
     have := j3 false (by simp [hh])
     rw [hh] at this
     exact this
    | true =>
     simp only [if_true]
     refine Ev.bind (specOwn_ev id l i h) ?_
     rw [ownX_in hok hi]
     simp only [specBetter_eq, Option.bind_some]
     have := j3 _ rfl
     rw [hh, Bool.true_and] at this
     exact this
theorem specClaim_ev (up has : Bool) (r c b p hops left role wait : Int) (op : Bool) (r' c' b' p' h' : Int) : Ev (fun k => Z24.f k up has r c b p hops left role wait op r' c' b' p' h') (claimM ⟨up, has, r, c, b, p, hops, left, role, wait, op⟩ r' c' b' p' h').tup := by
 refine Ev.bind (specPortOk_ev up has r c b p hops left role wait op) ?_
 generalize hp : portOk ⟨up, has, r, c, b, p, hops, left, role, wait, op⟩ = po
 refine ev_end fun k => ?_
 simp only [Z24.j0, specVecOk_eq, l1In_eq, specBetter_eq, Option.bind_some, claimM, hp, Prt.tup]
 cases po
 ·simp
 ·cases up
  ·simp
  ·cases vecOk r' c' b' p'
   ·simp
   ·by_cases hh : 0 ≤ h' ∧ h' ≤ 8
    ·cases has
     ·simp [hh]
     ·cases better r c b p r' c' b' p'
      ·simp [hh]
      ·by_cases e1 : b = b' <;> by_cases e2 : p = p' <;> simp [hh, e1, e2]
    ·simp [hh]
theorem specFade_ev (up has : Bool) (r c b p hops left role wait : Int) (op : Bool) : Ev (fun k => Z27.f k up has r c b p hops left role wait op) (fadeM ⟨up, has, r, c, b, p, hops, left, role, wait, op⟩).tup := by
 refine Ev.bind (specPortOk_ev up has r c b p hops left role wait op) ?_
 generalize hp : portOk ⟨up, has, r, c, b, p, hops, left, role, wait, op⟩ = po
 refine ev_end fun k => ?_
 cases po
 ·simp [Z27.j0, fadeM, hp, Prt.tup]
 ·cases has
  ·simp [Z27.j0, fadeM, hp, Prt.tup]
  ·have := portOk_left _ hp rfl
   dsimp only at this
   simp only [Z27.j0, fadeM, hp, Prt.tup]
   rw [w64 (by omega) (by omega)]
   by_cases e : left - 1 = 0 <;> simp [e]
theorem specInOk_eq (k p r c b q h : Int) (u : Bool) : Z57.f k p r c b q h u = some (inOk k p r c b q h u) := by
 simp only [Z57.f, l1In_eq, specVecOk_eq, Option.bind_some, inOk]
 by_cases h1 : k = 1
 ·simp only [h1, if_true]
  by_cases a1 : 0 ≤ p ∧ p ≤ 3 <;> by_cases a3 : 0 ≤ h ∧ h ≤ 8 <;> cases vecOk r c b q <;> simp [a1, a3]
 ·by_cases h3 : k = 3
  ·by_cases a1 : 0 ≤ p <;> by_cases a2 : p ≤ 3 <;> by_cases r0 : r = 0 <;> by_cases c0 : c = 0 <;> by_cases b0 : b = 0 <;> by_cases q0 : q = 0 <;> by_cases hh : h = 0 <;> simp_all
   all_goals (first | (split <;> simp <;> omega) | omega)
  ·by_cases h2 : k = 2
   ·by_cases p0 : p = 0 <;> by_cases r0 : r = 0 <;> by_cases c0 : c = 0 <;> by_cases b0 : b = 0 <;> by_cases q0 : q = 0 <;> by_cases hh : h = 0 <;> cases u <;> simp_all
   ·simp [h1, h2, h3]
theorem specHops_ev (id : Int) (l : List PB) (h : l.length ≤ 4194304) : Ev (fun k => Z48.f k id l) (if bridgeOk id l = true then hopsM id l else 0) := by
 simp only [Z48.f]
 refine Ev.bind (specRootPort_ev id l h) ?_
 cases bridgeOk id l with
 | false => simp only [Bool.false_eq_true, if_false]; exact ev_some fun _ => rfl
 | true =>
  simp only [if_true]
  unfold hopsM
  by_cases h0 : rootM id l (-1) l ≥ 0
  ·simp only [h0, decide_true, if_true]
   have h1 := root_lt id l h0
   simp only [if_pos (show 0 ≤ rootM id l (-1) l from h0), if_pos h1]
   exact ev_some fun _ => rfl
  ·simp only [h0, decide_false, Bool.false_eq_true, if_false]
   exact ev_some fun _ => rfl
theorem and_range (x : Int) (m : Nat) (hm : m < 2 ^ 62) : 0 ≤ Go.bits .and .i64 x (m : Int) ∧ Go.bits .and .i64 x (m : Int) ≤ m := by
 have e : Go.bits .and .i64 x (m : Int) = IntKind.i64.wrap (((BitVec.ofInt 64 x) &&& (BitVec.ofInt 64 (m : Int))).toNat : Int) := rfl
 have h1 : ((BitVec.ofInt 64 x) &&& (BitVec.ofInt 64 (m : Int))).toNat ≤ m := by
  rw [BitVec.toNat_and, BitVec.ofInt_natCast, BitVec.toNat_ofNat, Nat.mod_eq_of_lt (by omega)]
  exact Nat.and_le_right
 rw [e, IntKind.wrap_i64]
 omega
theorem and_255_range (x : Int) : 0 ≤ Go.bits .and .i64 x 255 ∧ Go.bits .and .i64 x 255 ≤ 255 := and_range x 255 (by decide)
def CurOk (b : List Int) (i : Int) : Prop := 0 ≤ i ∧ i ≤ b.length ∧ b.length ≤ 4194304
def EvP {α : Type} (g : Nat → Option α) (P : α → Prop) : Prop := ∃ r, Ev g r ∧ P r
theorem EvP.bind {α β : Type} {c : Nat → Option α} {f : Nat → α → Option β} {Q : α → Prop} {P : β → Prop} (h : EvP c Q) (hf : ∀ a, Q a → EvP (fun k => f k a) P) : EvP (fun k => (c k).bind (f k)) P := by
 obtain ⟨a, ha, hq⟩ := h
 obtain ⟨r, hr, hp⟩ := hf a hq
 exact ⟨r, Ev.bind ha hr, hp⟩
theorem EvP.now {α : Type} {P : α → Prop} (r : α) (h : P r) : EvP (fun _ => some r) P := ⟨r, Ev.now r, h⟩
theorem EvP.of {α : Type} {g : Nat → Option α} {P : α → Prop} {r : α} (h : Ev g r) (hp : P r) : EvP g P := ⟨r, h, hp⟩
theorem EvP.imp {α : Type} {g : Nat → Option α} {P Q : α → Prop} (h : EvP g P) (hi : ∀ r, P r → Q r) : EvP g Q := by
 obtain ⟨r, hr, hp⟩ := h
 exact ⟨r, hr, hi r hp⟩
theorem Ev.succ {α : Type} {g : Nat → Option α} {r : α} (h : Ev (fun k => g (k + 1)) r) : Ev g r := Ev.step (fun _ => rfl) h
theorem EvP.succ {α : Type} {g : Nat → Option α} {P : α → Prop} (h : EvP (fun k => g (k + 1)) P) : EvP g P := by
 obtain ⟨r, hr, hp⟩ := h
 exact ⟨r, Ev.succ hr, hp⟩
theorem specTick_ev (q : Prt) : Ev (fun k => Z17.f k q.up q.has q.r q.c q.b q.p q.hops q.left q.role q.wait q.op) (tickM q).tup := by
 simp only [Z17.f]
 refine Ev.bind (specFade_ev _ _ _ _ _ _ _ _ _ _ _) ?_
 show Ev _ (tickM q).tup
 unfold tickM
 generalize fadeM q = f
 obtain ⟨f0, f1, f2, f3, f4, f5, f6, f7, f8, f9, f10⟩ := f
 have j1 : ∀ w : Int, Ev (fun k => Z17.j1 k f0 f1 f2 f3 f4 f5 f6 f7 f8 w f10) (f0, f1, f2, f3, f4, f5, f6, f7, f8, w, openBy f8 w) := fun w => ev_end fun k => by
  simp only [Z17.j1, l7Open_eq, Option.bind_some]
 have j0 : ∀ (w : Int) (b : Bool), Ev (fun k => Z17.j0 k b f0 f1 f2 f3 f4 f5 f6 f7 f8 w f10) (if b = true then (f0, f1, f2, f3, f4, f5, f6, f7, f8, wrap64 (w - 1), openBy f8 (wrap64 (w - 1))) else (f0, f1, f2, f3, f4, f5, f6, f7, f8, w, openBy f8 w)) := by
  intro w b
  refine Ev.stepUp ?_
  simp only [Z17.j0]
  cases b
  ·simp only [Bool.false_eq_true, if_false]; exact j1 w
  ·simp only [if_true]; exact j1 _
 simp only [Prt.tup]
 by_cases h1 : f8 = 1
 ·subst h1
  have := j0 f9 (decide (f9 > 0))
  by_cases h9 : f9 > 0 <;> simp [h9] at this ⊢ <;> exact this
 ·by_cases h2 : f8 = 2
  ·subst h2
   have := j0 f9 (decide (f9 > 0))
   by_cases h9 : f9 > 0 <;> simp [h9] at this ⊢ <;> exact this
  ·have := j0 f9 false
   simp [h1, h2] at this ⊢
   exact this
theorem specIn_ev (id : Int) (l : List PB) (kind port r c b p h : Int) (up : Bool) (hok : bridgeOk id l = true) (hx : inOk kind port r c b p h up = true) (hp : port < (l.length : Int)) : Ev (fun k => Z7.f k id l kind port r c b p h up) (id, inM id l kind port r c b p h up) := by
 obtain ⟨hk, h0⟩ := inOk_kind hx
 have hln := bridgeOk_len hok
 have hd : ∀ m : List PB, bridgeOk id m = true → Ev (fun k => Z7.j1 k id m) (id, decM id m) := by
  intro m hm
  refine Ev.stepUp ?_
  simp only [Z7.j1]
  have := specDecide_ev id m (by have := bridgeOk_len hm; omega)
  rw [hm] at this
  exact Ev.bind this (ev_some fun _ => rfl)
 have hxl : l[port.toNat]? = some l[port.toNat] := List.getElem?_eq_getElem (by omega)
 have e : ((port.toNat : Nat) : Int) = port := by omega
 have hr := rdPB hxl
 rw [e] at hr
 have hpt := bridgeOk_ports hok hxl
 simp only [Z7.f, if_pos h0, if_pos hp, hr]
 unfold inM
 rw [hr]
 by_cases k1 : kind = 1
 ·simp only [if_pos k1]
  refine Ev.bind (specClaim_ev _ _ _ _ _ _ _ _ _ _ _ _ _ _ _ _) ?_
  exact hd _ (bridgeOk_set hok (x := ofP (claimM (pprt l[port.toNat]) r c b p h)) (claimM_ok' _ _ _ _ _ _ hpt))
 simp only [if_neg k1]
 by_cases k2 : kind = 2
 ·simp only [if_pos k2]
  have hM : (l.map tickP).length = l.length := by simp
  refine ev_list l (fun k (cur : List PB) i => Z7.l0 k i id cur) (fun _ _ => (id, decM id (l.map tickP))) (fun i cur => cur = (l.map tickP).take i ++ l.drop i)
   (fun cur hc => ?_) (fun i cur x t hc hi hdr hxi ih => ?_) l (by simp)
  ·subst hc
   refine Ev.stepUp ?_
   rw [← hM, List.take_length, hM, List.drop_length, List.append_nil]
   simp only [Z7.l0, hM, if_neg (show ¬ (l.length : Int) < (l.length : Int) by omega)]
   exact hd _ (bridgeOk_map hok fun x hx => by rw [tickP, pprt_ofP]; exact tickM_ok _ hx)
  ·subst hc
   have hln2 := turned_length hM (Nat.le_of_lt hi)
   have hat := turned_at hM hxi
   have hnx := turned_next hM (show (l.map tickP)[i]? = some (tickP x) by simp [hxi])
   generalize (l.map tickP).take i ++ l.drop i = cur at hat hln2 hnx ⊢
   have hih := ih _ rfl
   refine Ev.stepUp ?_
   simp only [Z7.l0, hln2, if_pos (show (i : Int) < (l.length : Int) by omega), if_pos (show 0 ≤ (i : Int) by omega), rdPB hat, w64_succ (show (i : Int) < 4611686018427387904 by omega), Int.toNat_natCast]
   refine Ev.bind (specTick_ev (pprt x)) ?_
   rw [← hnx] at hih
   exact hih
 simp only [if_neg k2]
 have k3 : kind = 3 := by omega
 simp only [if_pos k3]
 by_cases hu : l[port.toNat].f0 = up
 ·simp only [hu, beq_self_eq_true, if_true]
  exact ev_some fun _ => rfl
 ·have hb : (l[port.toNat].f0 == up) = false := by simpa using hu
  simp only [hb, Bool.false_eq_true, if_false, if_neg hu, Option.bind_some]
  have hl := hd _ (bridgeOk_set (i := port.toNat) hok (linkP_ok up))
  cases up with
  | false =>
   simp only [Bool.false_eq_true, if_false]
   exact hl
  | true =>
   simp only [if_true, List.set_set]
   exact hl
theorem gateAcc_length (old : List PB) : ∀ (t : List PB) (acc : List OB) (i : Nat), (gateAcc old acc i t).length ≤ acc.length + t.length := by
 intro t
 induction t with
 | nil => intro acc i; simp [gateAcc]
 | cons x t ih =>
  intro acc i
  simp only [gateAcc, List.length_cons]
  refine Nat.le_trans (ih _ _) ?_
  split <;> simp <;> omega
theorem specReact_ev (id : Int) (l : List PB) (kind port r c b p h : Int) (up : Bool) (hl : l.length ≤ 4194304) : Ev (fun k => Z1.f k id l kind port r c b p h up) (reactM id l kind port r c b p h up) := by
 simp only [Z1.f, Option.bind_some, specInOk_eq]
 refine Ev.bind (specBridgeOk_ev id l hl) ?_
 have jno : reactOk id l kind port r c b p h up = false → Ev (fun k => Z1.j0 k [] true id l kind port r c b p h up) (reactM id l kind port r c b p h up) := by
  intro hno
  unfold reactM
  rw [hno]
  refine ev_end fun k => ?_
  simp only [Z1.j0, if_true, l8Copy_eq id l hl, Option.bind_some, Bool.false_eq_true, if_false]
 cases hok : bridgeOk id l with
 | false =>
  simp only [Bool.false_eq_true, if_false]
  exact jno (by simp [reactOk, hok])
 | true =>
 simp only [if_true]
 cases hx : inOk kind port r c b p h up with
 | false =>
  simp only [Bool.false_eq_true, if_false]
  exact jno (by simp [reactOk, hx])
 | true =>
 simp only [if_true]
 by_cases hp : port ≥ (l.length : Int)
 ·simp only [hp, decide_true]
  exact jno (by simp [reactOk, hp])
 simp only [hp, decide_false]
 have hp' : port < (l.length : Int) := by omega
 have hR : reactOk id l kind port r c b p h up = true := by simp [reactOk, hok, hx, hp']
 obtain ⟨hk, h0⟩ := inOk_kind hx
 have hln := bridgeOk_len hok
 unfold reactM
 simp only [if_pos hR]
 refine Ev.stepUp ?_
 simp only [Z1.j0, Bool.false_eq_true, if_false, l8Copy_eq id l hl, Option.bind_some]
 refine Ev.bind (specIn_ev id l kind port r c b p h up hok hx hp') ?_
 have hiok := inM_ok hok kind port r c b p h up h0 hp'
 have hil := inM_length id l kind port r c b p h up
 generalize inM id l kind port r c b p h up = m at hiok hil ⊢
 dsimp only
 obtain ⟨fin, hfin⟩ : ∃ fin : List OB → List OB, fin = fun g => if kind = 2 then sayAcc id m g 0 m else g := ⟨_, rfl⟩
 have l1 : ∀ acc : List OB, acc.length ≤ l.length → Ev (fun k => Z1.l1 k acc 0 kind port r c b p h up id m) (id, m, fin acc) := by
  intro acc hacc
  subst hfin
  by_cases k2 : kind = 2
  ·simp only [if_pos k2]
   rw [← Nat.sub_self m.length]
   refine ev_list m (fun k (a : List OB) i => Z1.l1 k a i kind port r c b p h up id m) (fun a t => (id, m, sayAcc id m a (m.length - t.length) t)) (fun i a => a.length ≤ l.length + i)
    (fun a ha => ?_) (fun i a x t ha hi hd hxi ih => ?_) acc (by omega)
   ·refine Ev.stepUp ?_
    simp only [Z1.l1, if_neg (show ¬ (m.length : Int) < (m.length : Int) by omega)]
    exact ev_end fun k => by simp [Z1.j3, sayAcc]
   ·have e1 : m.length - (x :: t).length = i := drop_at hd hi
    have e2 : m.length - t.length = i + 1 := by
     have := congrArg List.length hd
     simp at this
     omega
    simp only [e1, sayAcc]
    refine Ev.stepUp ?_
    simp only [Z1.l1, if_pos (show (i : Int) < (m.length : Int) by omega)]
    refine Ev.stepUp ?_
    simp only [Z1.j3, k2, beq_self_eq_true, if_true, if_pos (show (i : Int) < (m.length : Int) by omega), if_pos (show 0 ≤ (i : Int) by omega), rdPB hxi]
    by_cases h5 : x.f5 = 2
    ·simp only [if_pos h5]
     refine Ev.bind (specOwn_ev id m i (by omega)) ?_
     have hh := specHops_ev id m (by omega)
     rw [hiok] at hh
     refine Ev.bind hh ?_
     simp only [if_pos (show a.length < 2199023255552 by omega), w64_succ (show (i : Int) < 4611686018427387904 by omega), ownX_in hiok hi]
     have := ih (a ++ [(⟨1, (i : Int), ⟨(ownM id m i).1, (ownM id m i).2.1, (ownM id m i).2.2.1, (ownM id m i).2.2.2⟩, hopsM id m, false⟩ : OB)]) (by simp; omega)
     rw [e2, k2] at this
     exact this
    ·simp only [if_neg h5, w64_succ (show (i : Int) < 4611686018427387904 by omega)]
     have := ih a (by omega)
     rw [e2, k2] at this
     exact this
  ·simp only [if_neg k2]
   refine Ev.stepUp ?_
   have hk2 : (kind == 2) = false := by simpa using k2
   simp only [Z1.l1, if_pos (show (0 : Int) < (m.length : Int) by omega), hk2]
   exact ev_end fun k => by simp [Z1.j3]
 have efin : outsM id l m kind = fin (gateAcc l [] 0 m) := by subst hfin; rfl
 rw [efin]
 clear hfin efin
 rw [← Nat.sub_self m.length]
 refine ev_list m (fun k (a : List OB) i => Z1.l0 k a i id l kind port r c b p h up id m) (fun a t => (id, m, fin (gateAcc l a (m.length - t.length) t))) (fun i a => a.length ≤ i)
  (fun a ha => ?_) (fun i a x t ha hi hd hxi ih => ?_) [] (by simp)
 ·refine Ev.stepUp ?_
  simp only [Z1.l0, hil, if_neg (show ¬ (l.length : Int) < (l.length : Int) by omega)]
  exact l1 a (by omega)
 ·have e1 : m.length - (x :: t).length = i := drop_at hd hi
  have e2 : m.length - t.length = i + 1 := by
   have := congrArg List.length hd
   simp at this
   omega
  simp only [e1, gateAcc]
  refine Ev.stepUp ?_
  simp only [Z1.l0, if_pos (show (i : Int) < (l.length : Int) by omega), if_pos (show (i : Int) < (m.length : Int) by omega), if_pos (show 0 ≤ (i : Int) by omega), rdPB hxi]
  cases h7 : (x.f7 != (rd_T79 l (i : Int)).f7) with
  | true =>
   simp only [if_true, if_pos (show a.length < 2199023255552 by omega), w64_succ (show (i : Int) < 4611686018427387904 by omega)]
   have := ih (a ++ [(⟨2, (i : Int), ⟨0, 0, 0, 0⟩, 0, x.f7⟩ : OB)]) (by simp; omega)
   rw [e2] at this
   exact this
  | false =>
   simp only [Bool.false_eq_true, if_false, w64_succ (show (i : Int) < 4611686018427387904 by omega)]
   have := ih a (by omega)
   rw [e2] at this
   exact this
theorem inRange_eq (x lo hi : Int) : Z15.f x lo hi = some (decide (lo ≤ x ∧ x ≤ hi)) := by
 simp only [Z15.f]
 by_cases h : lo ≤ x
 ·rw [if_pos h]; simp [h]
 ·rw [if_neg h]; simp [h]
theorem isPort_eq (x : Int) : Z37.f x = some (decide (0 ≤ x ∧ x ≤ 3)) := by simp [Z37.f, inRange_eq]
theorem implVecOk_eq (r c b p : Int) : Z43.f r c b p = some (vecOk r c b p) := by
 simp only [Z43.f, inRange_eq, isPort_eq, Option.bind_some, vecOk]
 by_cases h1 : 1 ≤ r ∧ r ≤ 9 <;> by_cases h2 : 1 ≤ b ∧ b ≤ 9 <;> by_cases h3 : r ≤ b <;> by_cases h4 : 0 ≤ c ∧ c ≤ 20 <;> by_cases h5 : 0 ≤ p ∧ p ≤ 3 <;> simp [h1, h2, h3, h4, h5]
 all_goals (first | (cases (c == 0) <;> cases (r == b) <;> rfl) | omega)
theorem isHops_eq (x : Int) : Z45.f x = some (decide (0 ≤ x ∧ x ≤ 8)) := by simp [Z45.f, inRange_eq]
theorem isOpenBy_eq (up has : Bool) (r c b p hops left role wait : Int) (op : Bool) : Z46.f up has r c b p hops left role wait op = some (openBy role wait) := by
 simp only [Z46.f, openBy]
 by_cases h1 : role = 1 <;> by_cases h2 : role = 2 <;> simp [h1, h2]
theorem implPortTail1 (k : Nat) (fl up has : Bool) (r c b p hops left role wait : Int) (op : Bool) : Z11.j1 (k + 1) fl up has r c b p hops left role wait op = some (!fl && tailOk up role wait op) := by
 simp only [Z11.j1, inRange_eq, isOpenBy_eq, Option.bind_some, tailOk]
 cases fl
 ·by_cases hr : 0 ≤ role ∧ role ≤ 3 <;> by_cases hw : 0 ≤ wait ∧ wait ≤ 4 <;> by_cases h0 : role = 0 <;> cases up <;> simp [hr, hw, h0]
 ·simp
theorem implPortOk_ev (up has : Bool) (r c b p hops left role wait : Int) (op : Bool) : Ev (fun k => Z11.f k up has r c b p hops left role wait op) (portOk ⟨up, has, r, c, b, p, hops, left, role, wait, op⟩) := by
 refine ⟨2, fun k hk => ?_⟩
 obtain ⟨j, rfl⟩ : ∃ j, k = j + 2 := ⟨k - 2, by omega⟩
 simp only [Z11.f, Z11.j0, implVecOk_eq, inRange_eq, isHops_eq, Option.bind_some, implPortTail1, portOk, headOk]
 cases has
 ·by_cases r0 : r = 0 <;> by_cases c0 : c = 0 <;> by_cases b0 : b = 0 <;> by_cases p0 : p = 0 <;> by_cases h0 : hops = 0 <;> by_cases l0 : left = 0 <;> simp [r0, c0, b0, p0, h0, l0]
 ·cases up <;> cases vecOk r c b p <;> by_cases h0 : 0 ≤ hops ∧ hops ≤ 8 <;> by_cases l0 : 1 ≤ left ∧ left ≤ 3 <;> simp [h0, l0]
theorem implFade_ev (up has : Bool) (r c b p hops left role wait : Int) (op : Bool) : Ev (fun k => Z25.f k up has r c b p hops left role wait op) (fadeM ⟨up, has, r, c, b, p, hops, left, role, wait, op⟩).tup := by
 cases has
 ·refine ev_end fun k => ?_
  simp [Z25.f, Z25.j0, fadeM, Prt.tup]
 ·simp only [Z25.f, if_true]
  refine Ev.bind (implPortOk_ev up true r c b p hops left role wait op) ?_
  generalize hp : portOk ⟨up, true, r, c, b, p, hops, left, role, wait, op⟩ = po
  refine ev_end fun k => ?_
  cases po
  ·simp [Z25.j0, fadeM, hp, Prt.tup]
  ·have := portOk_left _ hp rfl
   dsimp only at this
   simp only [Z25.j0, fadeM, hp, Prt.tup]
   rw [w64 (by omega) (by omega)]
   by_cases e : left - 1 = 0 <;> simp [e]
theorem openBy_eq (x0 x1 : Bool) (x2 x3 x4 x5 x6 x7 x8 x9 : Int) (x10 : Bool) : Z46.f x0 x1 x2 x3 x4 x5 x6 x7 x8 x9 x10 = some (openBy x8 x9) := by
 simp only [Z46.f, openBy]
 by_cases h1 : x8 = 1 <;> by_cases h2 : x8 = 2 <;> simp [h1, h2]
theorem implTick_ev (id : Int) (l : List PB) (h : l.length ≤ 4194304) (hok : portsOk l = true) : Ev (fun k => Z12.f k id l) (l.map tickP) := by
 simp only [Z12.f]
 have hM : (l.map tickP).length = l.length := by simp
 refine ev_list l (fun k (cur : List PB) i => Z12.l0 k (l.length : Int) i id cur) (fun _ _ => l.map tickP) (fun i cur => cur = (l.map tickP).take i ++ l.drop i)
  (fun cur hc => ?_) (fun i cur x t hc hi hdr hxi ih => ?_) l (by simp)
 ·subst hc
  refine ev_end fun k => ?_
  rw [← hM, List.take_length, hM, List.drop_length, List.append_nil]
  simp only [Z12.l0, if_neg (show ¬ (l.length : Int) < (l.length : Int) by omega)]
 ·subst hc
  have hln2 := turned_length hM (Nat.le_of_lt hi)
  have hat := turned_at hM hxi
  have hnx := turned_next hM (show (l.map tickP)[i]? = some (tickP x) by simp [hxi])
  generalize (l.map tickP).take i ++ l.drop i = cur at hat hln2 hnx ⊢
  have hih := ih _ rfl
  rw [← hnx] at hih
  have hpx := (portsOk_iff l).1 hok x (List.mem_of_getElem? hxi)
  refine Ev.stepUp ?_
  simp only [Z12.l0, hln2, if_pos (show (i : Int) < (l.length : Int) by omega), if_pos (show 0 ≤ (i : Int) by omega), rdPB hat]
  have hF : Ev (fun k => Z25.f k x.f0 x.f1 x.f2.f0 x.f2.f1 x.f2.f2 x.f2.f3 x.f3 x.f4 x.f5 x.f6 x.f7) (fadeM (pprt x)).tup := implFade_ev _ _ _ _ _ _ _ _ _ _ _
  refine Ev.bind hF ?_
  clear hF
  have ht := portOk_tail (fadeM_ok _ hpx)
  have htk : tickP x = ofP (tickM (pprt x)) := rfl
  rw [htk] at hih
  unfold tickM at hih
  generalize fadeM (pprt x) = f at ht hih ⊢
  obtain ⟨f0, f1, f2, f3, f4, f5, f6, f7, f8, f9, f10⟩ := f
  dsimp only [Prt.tup] at ht hih ⊢
  obtain ⟨_, _, _, h10⟩ := ht
  subst h10
  have j1 : ∀ b : Bool, (b = true ↔ (f8 = 1 ∨ f8 = 2) ∧ f9 > 0) → Ev (fun k => Z12.j1 k (i : Int) (l.length : Int) (i : Int) b id cur f0 f1 f2 f3 f4 f5 f6 f7 f8 f9 (openBy f8 f9)) (l.map tickP) := by
   intro b hb
   refine Ev.stepUp ?_
   simp only [Z12.j1, openBy_eq, Option.bind_some, hln2, if_pos (show (i : Int) < (l.length : Int) by omega), if_pos (show 0 ≤ (i : Int) by omega), w64_succ (show (i : Int) < 4611686018427387904 by omega), Int.toNat_natCast]
   cases b with
   | true =>
    rw [if_pos (hb.1 rfl)] at hih
    simp only [if_true]
    exact hih
   | false =>
    rw [if_neg (fun hc => by have := hb.2 hc; cases this)] at hih
    simp only [Bool.false_eq_true, if_false]
    exact hih
  by_cases h1 : f8 = 1
  ·have := j1 (decide (f9 > 0)) (by simp [h1])
   simp only [h1, if_true] at this ⊢
   exact this
  ·by_cases h2 : f8 = 2
   ·have := j1 (decide (f9 > 0)) (by simp [h2])
    simp only [h1, if_false]
    simp only [h2, if_true] at this ⊢
    exact this
   ·have := j1 false (by simp [h1, h2])
    simp only [h1, h2, if_false]
    exact this
theorem implTurn_ev (up has : Bool) (r c b p hops left role wait : Int) (op : Bool) (ro : Int) : Ev (fun k => Z20.f k up has r c b p hops left role wait op ro) (turnM ⟨up, has, r, c, b, p, hops, left, role, wait, op⟩ ro).tup := by
 cases up
 ·refine ev_end fun k => ?_
  simp [Z20.f, Z20.j0, turnM, Prt.tup]
 ·simp only [Z20.f, if_true, inRange_eq, Option.bind_some]
  by_cases hr : 1 ≤ ro ∧ ro ≤ 3
  ·simp only [hr, and_self, decide_true, if_true]
   refine Ev.bind (implPortOk_ev true has r c b p hops left role wait op) ?_
   generalize hp : portOk ⟨true, has, r, c, b, p, hops, left, role, wait, op⟩ = po
   refine ev_end fun k => ?_
   cases po
   ·simp [Z20.j0, turnM, hp, Prt.tup]
   ·simp only [Z20.j0, isOpenBy_eq, Option.bind_some, turnM, hp, Prt.tup, Bool.true_and]
    by_cases e3 : ro = 3
    ·subst e3
     simp
    ·by_cases e : role = 3 <;> simp [hr, e3, e]
  ·refine ev_end fun k => ?_
   simp [hr, Z20.j0, turnM, Prt.tup]
theorem compare_eq (a b : Int) : Z47.f a b = some (if a < b then -1 else if a > b then 1 else 0) := by
 simp only [Z47.f, Z40.f, Option.bind_some, bne_self_eq_false]
 simp only [Bool.false_eq_true, if_false]
 (repeat' split) <;> rfl
theorem or_ev (a b c d : Int) : Ev (fun k => Z32.f k [a, b, c, d]) (if a ≠ 0 then a else if b ≠ 0 then b else if c ≠ 0 then c else if d ≠ 0 then d else 0) := by
 refine ⟨5, fun k hk => ?_⟩
 obtain ⟨j, rfl⟩ : ∃ j, k = j + 5 := ⟨k - 5, by omega⟩
 simp [Z32.f, Z32.l0, rd, wrap64]
 (repeat' split) <;> simp_all
theorem implBetter_ev (a b c d a' b' c' d' : Int) : Ev (fun k => Z21.f k a b c d a' b' c' d') (better a b c d a' b' c' d') := by
 simp only [Z21.f, compare_eq, Option.bind_some]
 refine Ev.bind (or_ev _ _ _ _) (ev_some fun _ => ?_)
 simp only [better]
 congr 1
 rw [decide_eq_decide]
 (repeat' split) <;> omega
theorem implRootJ (id : Int) (l : List PB) (b : Int) (i : Nat) (x : PB) (hb : BestOk l b) (hi : i < l.length) (h : l.length ≤ 4194304) (r : Int)
  (hn : Ev (fun k => Z5.l0 k (stepR id l b i x) l (l.length : Int) ((i + 1 : Nat) : Int) id l) r) :
  Ev (fun k => Z5.j1 k b (i : Int) l (l.length : Int) (i : Int) (skipP id x) id l x.f0 x.f1 x.f2.f0 x.f2.f1 x.f2.f2 x.f2.f3 x.f3 x.f4 x.f5 x.f6 x.f7) r := by
 refine Ev.stepUp ?_
 simp only [Z5.j1, w64_succ (show (i : Int) < 4611686018427387904 by omega)]
 simp only [stepR] at hn
 cases hs : skipP id x with
 | true => simp only [hs, if_true] at hn ⊢; exact hn
 | false =>
  simp only [hs, Bool.false_eq_true, if_false] at hn ⊢
  rcases hb with rfl | ⟨h0, h1⟩
  ·simp only [if_pos (show (-1 : Int) < 0 by omega)] at hn ⊢; exact hn
  ·simp only [if_neg (show ¬ b < 0 by omega)] at hn
   simp only [if_neg (show ¬ b < 0 by omega), if_pos h0, if_pos h1]
   refine Ev.bind (implBetter_ev _ _ _ _ _ _ _ _) ?_
   split
   ·rename_i hc; rw [if_pos hc] at hn; exact hn
   ·rename_i hc; rw [if_neg hc] at hn; exact hn
theorem implRoot_ev (id : Int) (l : List PB) (h : l.length ≤ 4194304) : Ev (fun k => Z5.f k id l) (rootM id l (-1) l) := by
 refine ev_list l (fun k (b : Int) i => Z5.l0 k b l (l.length : Int) i id l) (fun b t => rootM id l b t) (fun _ b => BestOk l b)
  (fun b hb => ?_) (fun i b x t hb hi hd hx ih => ?_) (-1) (Or.inl rfl)
 ·exact ev_end fun k => by simp [Z5.l0, rootM]
 ·have hn := ih _ (stepR_ok id l b i x hb hi)
  have e : rootM id l b (x :: t) = rootM id l (stepR id l b i x) t := by simp only [rootM, drop_at hd hi]
  rw [e]
  have hj := implRootJ id l b i x hb hi h _ hn
  refine Ev.step (fun k => ?_) hj
  simp only [Z5.l0, if_pos (show 0 ≤ (i : Int) by omega), if_pos (show (i : Int) < (l.length : Int) by omega), rdPB hx, skipP]
  cases x.f1 with
  | false => simp
  | true =>
   simp only [if_true, Bool.not_true, Bool.false_or]
   by_cases c1 : x.f2.f2 = id
   ·simp [c1]
   ·by_cases c2 : x.f2.f0 ≥ id
    ·simp [c1, c2]
    ·by_cases c3 : x.f2.f1 ≥ 20
     ·simp [c1, c2, c3]
     ·simp only [c1, c2, c3, if_false, decide_false, Bool.false_or]
theorem implOwnB_ev (id : Int) (l : List PB) (p : Int) (h : l.length ≤ 4194304) : Ev (fun k => Z18.f k id l p) (ownM id l p) := by
 simp only [Z18.f]
 refine Ev.bind (implRoot_ev id l h) ?_
 unfold ownM
 by_cases h0 : rootM id l (-1) l ≥ 0
 ·have h1 := root_lt id l h0
  simp only [if_pos h0, if_pos (show 0 ≤ rootM id l (-1) l from h0), if_pos h1]
  exact ev_some fun _ => rfl
 ·simp only [if_neg h0]
  exact ev_some fun _ => rfl
theorem implDecide0_ev (id : Int) (l : List PB) (h : l.length ≤ 4194304) : Ev (fun k => Z4.f k id l) (decM id l) := by
 simp only [Z4.f]
 refine Ev.bind (implRoot_ev id l h) ?_
 have hM := decM_length id l
 refine ev_list l (fun k (cur : List PB) i => Z4.l0 k (rootM id l (-1) l) (l.length : Int) i id cur) (fun _ _ => decM id l) (fun i cur => cur = (decM id l).take i ++ l.drop i)
  (fun cur hc => ?_) (fun i cur x t hc hi hd hx ih => ?_) l (by simp)
 ·subst hc
  refine ev_end fun k => ?_
  simp only [Z4.l0, if_neg (show ¬ (l.length : Int) < (l.length : Int) by omega)]
  rw [← hM, List.take_length, hM, List.drop_length, List.append_nil]
 ·subst hc
  have hat := turned_at hM hx
  have hln : ((decM id l).take i ++ l.drop i).length = l.length := turned_length hM (by omega)
  have hcr := turned_core (decM_core id l) i
  have hnx := turned_next hM (decM_get (id := id) hx)
  generalize (decM id l).take i ++ l.drop i = cur at hat hln hcr hnx ⊢
  have hih := ih _ rfl
  have hrd := rdPB hat
  refine Ev.stepUp ?_
  simp only [Z4.l0, if_pos (show (i : Int) < (l.length : Int) by omega), if_pos (show 0 ≤ (i : Int) by omega), hln, hrd, w64_succ (show (i : Int) < 4611686018427387904 by omega)]
  have jt : ∀ ro : Int, decP id l i x = ofP (turnM (pprt x) ro) → Ev (fun k => (Z20.f k x.f0 x.f1 x.f2.f0 x.f2.f1 x.f2.f2 x.f2.f3 x.f3 x.f4 x.f5 x.f6 x.f7 ro).bind fun bt => Z4.l0 k (rootM id l (-1) l) (l.length : Int) ((i + 1 : Nat) : Int) id (cur.set i (⟨bt.1, bt.2.1, ⟨bt.2.2.1, bt.2.2.2.1, bt.2.2.2.2.1, bt.2.2.2.2.2.1⟩, bt.2.2.2.2.2.2.1, bt.2.2.2.2.2.2.2.1, bt.2.2.2.2.2.2.2.2.1, bt.2.2.2.2.2.2.2.2.2.1, bt.2.2.2.2.2.2.2.2.2.2⟩ : PB))) (decM id l) := by
   intro ro hro
   refine Ev.bind (implTurn_ev _ _ _ _ _ _ _ _ _ _ _ _) ?_
   rw [hro] at hnx
   have e : (cur.set i (ofP (turnM (pprt x) ro))) = (decM id l).take (i + 1) ++ l.drop (i + 1) := hnx
   simp only [ofP, pprt] at e
   simp only [Prt.tup]
   rw [e]
   exact hih
  cases hu : x.f0 with
  | false =>
   simp only [Bool.false_eq_true, if_false]
   have e : decP id l i x = x := by simp [decP, hu]
   rw [e] at hnx
   have e2 : cur.set i x = cur := by
    apply List.ext_getElem?
    intro j
    by_cases hj : i = j
    ·subst hj
     rw [List.getElem?_set_self (by omega), hat]
    ·rw [List.getElem?_set_ne hj]
   rw [e2] at hnx
   rw [hnx]
   exact hih
  | true =>
   simp only [if_true]
   have hd1 : ∀ ro, roleM id l i x = ro → decP id l i x = ofP (turnM (pprt x) ro) := fun ro hro => by simp [decP, hu, hro]
   rw [hu] at jt
   by_cases hr : (i : Int) = rootM id l (-1) l
   ·simp only [if_pos hr, Int.toNat_natCast]
    exact jt 1 (hd1 1 (by simp [roleM, hr]))
   ·simp only [if_neg hr]
    have j3 : ∀ (b : Bool), (x.f1 && better x.f2.f0 x.f2.f1 x.f2.f2 x.f2.f3 (ownM id l i).1 (ownM id l i).2.1 (ownM id l i).2.2.1 (ownM id l i).2.2.2) = b → Ev (fun k => Z4.j1 k (rootM id l (-1) l) (i : Int) (l.length : Int) (i : Int) b id cur true x.f1 x.f2.f0 x.f2.f1 x.f2.f2 x.f2.f3 x.f3 x.f4 x.f5 x.f6 x.f7) (decM id l) := by
     intro b hb
     refine Ev.stepUp ?_
     simp only [Z4.j1, if_pos (show (i : Int) < (l.length : Int) by omega), if_pos (show 0 ≤ (i : Int) by omega), hln, w64_succ (show (i : Int) < 4611686018427387904 by omega), Int.toNat_natCast]
     cases b with
     | true =>
      simp only [if_true]
      exact jt 3 (hd1 3 (by simp [roleM, hr, hb]))
     | false =>
      simp only [Bool.false_eq_true, if_false]
      exact jt 2 (hd1 2 (by simp only [roleM, if_neg hr, hb]; rfl))
    cases hh : x.f1 with
    | false =>
     simp only [Bool.false_eq_true, if_false]
     have := j3 false (by simp [hh])
     rw [hh] at this
     exact this
    | true =>
     simp only [if_true]
     refine Ev.bind (implOwnB_ev id cur i (by omega)) ?_
     rw [ownM_core id hcr]
     refine Ev.bind (implBetter_ev _ _ _ _ _ _ _ _) ?_
     have := j3 _ rfl
     rw [hh, Bool.true_and] at this
     exact this
theorem claimJ_true (j : Nat) (up has : Bool) (r c b p hops left role wait : Int) (op : Bool) (r' c' b' p' h' : Int) : Z9.j0 (j + 1) h' true up has r c b p hops left role wait op r' c' b' p' = some (up, has, r, c, b, p, hops, left, role, wait, op) := by
 simp only [Z9.j0, if_true]
theorem implClaim_ev (up has : Bool) (r c b p hops left role wait : Int) (op : Bool) (r' c' b' p' h' : Int) : Ev (fun k => Z9.f k up has r c b p hops left role wait op r' c' b' p' h') (claimM ⟨up, has, r, c, b, p, hops, left, role, wait, op⟩ r' c' b' p' h').tup := by
 obtain ⟨K1, h1⟩ := implPortOk_ev up has r c b p hops left role wait op
 obtain ⟨K2, h2⟩ := implBetter_ev r c b p r' c' b' p'
 refine ⟨K1 + K2 + 2, fun k hk => ?_⟩
 obtain ⟨j, rfl⟩ : ∃ j, k = j + 2 := ⟨k - 2, by omega⟩
 have e1 := h1 (j + 2) (by omega)
 have e2 := h2 (j + 1) (by omega)
 simp only [Z9.f, implVecOk_eq, isHops_eq, e1, Option.bind_some, claimJ_true]
 cases up with
 | false =>
  simp only [Bool.false_eq_true, if_false, claimM, Bool.false_and, Bool.and_false, Prt.tup]
 | true =>
  simp only [if_true]
  by_cases hh : 0 ≤ h' ∧ h' ≤ 8
  ·simp only [hh, and_self, decide_true, if_true]
   cases hv : vecOk r' c' b' p' with
   | false => simp only [Bool.false_eq_true, if_false, claimM, hv, Bool.false_and, Bool.and_false, Prt.tup]
   | true =>
    simp only [if_true]
    cases hp : portOk ⟨true, has, r, c, b, p, hops, left, role, wait, op⟩ with
    | false => simp only [Bool.not_false, claimJ_true, claimM, hp, Bool.false_eq_true, if_false, Bool.false_and, Prt.tup]
    | true =>
     simp only [Bool.not_true, Z9.j0, Z9.j1, Z9.j2, Bool.not_false, Bool.false_eq_true, if_false, e2, Option.bind_some, claimM, hp, hv, hh, and_self, decide_true, Bool.and_self, if_true]
     cases has with
     | false =>
      simp only [Bool.false_eq_true, if_false, Bool.false_and, Prt.tup]
      split <;> rfl
     | true =>
      simp only [if_true, Bool.true_and]
      cases better r c b p r' c' b' p' with
      | false =>
       simp only [Bool.false_eq_true, if_false, Bool.false_and, Prt.tup]
       split <;> rfl
      | true =>
       simp only [if_true, Bool.true_and]
       by_cases e1 : b' = b
       ·subst e1
        by_cases e2 : p' = p
        ·subst e2
         simp [Prt.tup]
        ·have e2' : ¬ p = p' := fun h => e2 h.symm
         simp [Prt.tup, e2, e2']
       ·have e1' : ¬ b = b' := fun h => e1 h.symm
        simp [Prt.tup, e1, e1']
  ·simp only [hh, decide_false, Bool.false_eq_true, if_false, claimM, Bool.and_false, Prt.tup]
theorem gateAcc_at (old : List PB) : ∀ (t : List PB) (acc : List OB) (i : Nat), (∀ j x, t[j]? = some x → x.f7 = (rd_T79 old ((i + j : Nat) : Int)).f7) → gateAcc old acc i t = acc := by
 intro t
 induction t with
 | nil => intro acc i _; rfl
 | cons x t ih =>
  intro acc i h
  have h0 := h 0 x rfl
  rw [Nat.add_zero] at h0
  simp only [gateAcc, h0, bne_self_eq_false, Bool.false_eq_true, if_false]
  exact ih acc (i + 1) (fun j y hy => by
   have := h (j + 1) y (by simpa using hy)
   rw [show i + (j + 1) = i + 1 + j by omega] at this
   exact this)
theorem gateAcc_self (l : List PB) : gateAcc l [] 0 l = [] := gateAcc_at l l [] 0 (fun j x hx => by rw [Nat.zero_add, rdPB hx])
theorem portClone_eq (l : List PB) (h : l.length ≤ 4194304) : Z52.f l = some l := by
 simp only [Z52.f, Option.bind_some, List.length_nil, Nat.zero_add, List.nil_append]
 rw [if_pos (by omega)]
theorem implHopsB_ev (id : Int) (l : List PB) (h : l.length ≤ 4194304) : Ev (fun k => Z50.f k id l) (hopsM id l) := by
 simp only [Z50.f]
 refine Ev.bind (implRoot_ev id l h) ?_
 unfold hopsM
 by_cases h0 : rootM id l (-1) l ≥ 0
 ·have h1 := root_lt id l h0
  simp only [if_pos h0, if_pos (show 0 ≤ rootM id l (-1) l from h0), if_pos h1]
  exact ev_some fun _ => rfl
 ·simp only [if_neg h0]
  exact ev_some fun _ => rfl
theorem implReact0_ev (id : Int) (l : List PB) (kind port r c b p h : Int) (up : Bool) (hok : bridgeOk id l = true) (hx : inOk kind port r c b p h up = true) (hp : port < (l.length : Int)) : Ev (fun k => Z0.f k id l kind port r c b p h up) (outsM id l (inM id l kind port r c b p h up) kind, inM id l kind port r c b p h up) := by
 obtain ⟨hk, h0⟩ := inOk_kind hx
 have hln := bridgeOk_len hok
 have l1 : ∀ (m : List PB) (acc : List OB), bridgeOk id m = true → m.length = l.length → acc.length ≤ l.length → Ev (fun k => Z0.l1 k acc m (m.length : Int) 0 id m kind port r c b p h up) (if kind = 2 then sayAcc id m acc 0 m else acc, m) := by
  intro m acc hm hml hacc
  by_cases k2 : kind = 2
  ·simp only [if_pos k2]
   rw [← Nat.sub_self m.length]
   refine ev_list m (fun k (a : List OB) i => Z0.l1 k a m (m.length : Int) i id m kind port r c b p h up) (fun a t => (sayAcc id m a (m.length - t.length) t, m)) (fun i a => a.length ≤ l.length + i)
    (fun a ha => ?_) (fun i a x t ha hi hd hxi ih => ?_) acc (by omega)
   ·refine ev_end fun k => ?_
    simp only [Z0.l1, if_neg (show ¬ (m.length : Int) < (m.length : Int) by omega), sayAcc]
   ·have e1 : m.length - (x :: t).length = i := drop_at hd hi
    have e2 : m.length - t.length = i + 1 := by
     have := congrArg List.length hd
     simp at this
     omega
    simp only [e1, sayAcc]
    refine Ev.stepUp ?_
    simp only [Z0.l1, if_pos (show (i : Int) < (m.length : Int) by omega), if_pos (show 0 ≤ (i : Int) by omega), if_pos k2, rdPB hxi]
    refine Ev.stepUp ?_
    simp only [Z0.j3, w64_succ (show (i : Int) < 4611686018427387904 by omega), beq_iff_eq]
    by_cases h5 : x.f5 = 2
    ·simp only [if_pos h5]
     refine Ev.bind (implOwnB_ev id m i (by omega)) ?_
     refine Ev.bind (implHopsB_ev id m (by omega)) ?_
     simp only [if_pos (show a.length < 2199023255552 by omega)]
     have := ih (a ++ [(⟨1, (i : Int), ⟨(ownM id m i).1, (ownM id m i).2.1, (ownM id m i).2.2.1, (ownM id m i).2.2.2⟩, hopsM id m, false⟩ : OB)]) (by simp; omega)
     rw [e2] at this
     exact this
    ·simp only [if_neg h5]
     have := ih a (by omega)
     rw [e2] at this
     exact this
  ·simp only [if_neg k2]
   refine ev_list m (fun k (_ : Unit) i => Z0.l1 k acc m (m.length : Int) i id m kind port r c b p h up) (fun _ _ => (acc, m)) (fun _ _ => True)
    (fun _ _ => ?_) (fun i _ x t _ hi hd hxi ih => ?_) () trivial
   ·refine ev_end fun k => ?_
    simp only [Z0.l1, if_neg (show ¬ (m.length : Int) < (m.length : Int) by omega)]
   ·refine Ev.stepUp ?_
    simp only [Z0.l1, if_pos (show (i : Int) < (m.length : Int) by omega), if_pos (show 0 ≤ (i : Int) by omega), if_neg k2]
    refine Ev.stepUp ?_
    simp only [Z0.j3, w64_succ (show (i : Int) < 4611686018427387904 by omega), Bool.false_eq_true, if_false]
    exact ih () trivial
 have l0 : ∀ m : List PB, bridgeOk id m = true → m.length = l.length → Ev (fun k => Z0.l0 k l [] m (m.length : Int) 0 id m kind port r c b p h up) (outsM id l m kind, m) := by
  intro m hm hml
  obtain ⟨fin, hfin⟩ : ∃ fin : List OB → List OB, fin = fun g => if kind = 2 then sayAcc id m g 0 m else g := ⟨_, rfl⟩
  have hl1 := fun acc ha => l1 m acc hm hml ha
  have efin : outsM id l m kind = fin (gateAcc l [] 0 m) := by subst hfin; rfl
  have hf1 : ∀ acc : List OB, acc.length ≤ l.length → Ev (fun k => Z0.l1 k acc m (m.length : Int) 0 id m kind port r c b p h up) (fin acc, m) := by subst hfin; exact hl1
  rw [efin]
  clear hfin efin hl1
  rw [← Nat.sub_self m.length]
  refine ev_list m (fun k (a : List OB) i => Z0.l0 k l a m (m.length : Int) i id m kind port r c b p h up) (fun a t => (fin (gateAcc l a (m.length - t.length) t), m)) (fun i a => a.length ≤ i)
   (fun a ha => ?_) (fun i a x t ha hi hd hxi ih => ?_) [] (by simp)
  ·refine Ev.stepUp ?_
   simp only [Z0.l0, if_neg (show ¬ (m.length : Int) < (m.length : Int) by omega)]
   exact hf1 a (by omega)
  ·have e1 : m.length - (x :: t).length = i := drop_at hd hi
   have e2 : m.length - t.length = i + 1 := by
    have := congrArg List.length hd
    simp at this
    omega
   simp only [e1, gateAcc]
   refine Ev.stepUp ?_
   simp only [Z0.l0, if_pos (show (i : Int) < (l.length : Int) by omega), if_pos (show (i : Int) < (m.length : Int) by omega), if_pos (show 0 ≤ (i : Int) by omega), rdPB hxi, w64_succ (show (i : Int) < 4611686018427387904 by omega)]
   cases h7 : (x.f7 != (rd_T79 l (i : Int)).f7) with
   | true =>
    simp only [if_true, if_pos (show a.length < 2199023255552 by omega)]
    have := ih (a ++ [(⟨2, (i : Int), ⟨0, 0, 0, 0⟩, 0, x.f7⟩ : OB)]) (by simp; omega)
    rw [e2] at this
    exact this
   | false =>
    simp only [Bool.false_eq_true, if_false]
    have := ih a (by omega)
    rw [e2] at this
    exact this
 have j0 : ∀ m : List PB, bridgeOk id m = true → m.length = l.length → Ev (fun k => Z0.j0 k l id m kind port r c b p h up) (outsM id l (decM id m) kind, decM id m) := by
  intro m hm hml
  refine Ev.stepUp ?_
  simp only [Z0.j0]
  refine Ev.bind (implDecide0_ev id m (by omega)) ?_
  have := l0 (decM id m) (decM_ok hm) (by rw [decM_length]; exact hml)
  rw [decM_length] at this
  exact this
 have hxl : l[port.toNat]? = some l[port.toNat] := List.getElem?_eq_getElem (by omega)
 have e : ((port.toNat : Nat) : Int) = port := by omega
 have hr := rdPB hxl
 rw [e] at hr
 have hpt := bridgeOk_ports hok hxl
 simp only [Z0.f, portClone_eq l (by omega), Option.bind_some, if_pos h0, if_pos hp, hr]
 unfold inM
 rw [hr]
 by_cases k1 : kind = 1
 ·simp only [if_pos k1]
  refine Ev.bind (implClaim_ev _ _ _ _ _ _ _ _ _ _ _ _ _ _ _ _) ?_
  exact j0 _ (bridgeOk_set hok (x := ofP (claimM (pprt l[port.toNat]) r c b p h)) (claimM_ok' _ _ _ _ _ _ hpt)) (by simp)
 simp only [if_neg k1]
 by_cases k2 : kind = 2
 ·simp only [if_pos k2]
  have hpo : portsOk l = true := by
   simp only [bridgeOk, Bool.and_eq_true] at hok
   exact hok.1
  refine Ev.bind (implTick_ev id l (by omega) hpo) ?_
  exact j0 _ (bridgeOk_map hok fun x hx => by rw [tickP, pprt_ofP]; exact tickM_ok _ hx) (by simp)
 simp only [if_neg k2]
 have k3 : kind = 3 := by omega
 simp only [if_pos k3]
 by_cases hu : l[port.toNat].f0 = up
 ·simp only [hu, beq_self_eq_true, if_true]
  have e0 : outsM id l l kind = [] := by
   unfold outsM
   rw [if_neg k2]
   exact gateAcc_self l
  rw [e0]
  exact ev_some fun _ => rfl
 ·have hb : (l[port.toNat].f0 == up) = false := by simpa using hu
  simp only [hb, Bool.false_eq_true, if_false, if_neg hu]
  have hl := j0 _ (bridgeOk_set (i := port.toNat) hok (linkP_ok up)) (by simp)
  cases up with
  | false =>
   simp only [Bool.false_eq_true, if_false]
   exact hl
  | true =>
   simp only [if_true, List.set_set]
   exact hl
theorem copyBridge_eq (id : Int) (l : List PB) (h : l.length ≤ 4194304) : Z54.f id l = some (id, l) := by
 simp only [Z54.f, Z52.f, Option.bind_some, List.length_nil, Nat.zero_add, List.nil_append]
 rw [if_pos (by omega)]
 rfl
theorem implInOk_eq (k p r c b q h : Int) (u : Bool) : Z55.f k p r c b q h u = some (inOk k p r c b q h u) := by
 simp only [Z55.f, isPort_eq, isHops_eq, implVecOk_eq, Option.bind_some, inOk]
 by_cases h1 : k = 1
 ·simp only [h1, if_true]
  by_cases a1 : 0 ≤ p ∧ p ≤ 3 <;> by_cases a3 : 0 ≤ h ∧ h ≤ 8 <;> cases vecOk r c b q <;> simp [a1, a3]
 ·by_cases h3 : k = 3
  ·by_cases a1 : 0 ≤ p <;> by_cases a2 : p ≤ 3 <;> by_cases r0 : r = 0 <;> by_cases c0 : c = 0 <;> by_cases b0 : b = 0 <;> by_cases q0 : q = 0 <;> by_cases hh : h = 0 <;> simp_all
   all_goals (first | (split <;> simp <;> omega) | omega)
  ·by_cases h2 : k = 2
   ·by_cases p0 : p = 0 <;> by_cases r0 : r = 0 <;> by_cases c0 : c = 0 <;> by_cases b0 : b = 0 <;> by_cases q0 : q = 0 <;> by_cases hh : h = 0 <;> cases u <;> simp_all
   ·simp [h1, h2, h3]
theorem implBridgeOk_ev (id : Int) (l : List PB) (h : l.length ≤ 4194304) : Ev (fun k => Z29.f k id l) (bridgeOk id l) := by
 refine ev_list0 l (fun k i => Z29.l0 k l (l.length : Int) i id l) (fun t => portsOk t && (decide (1 ≤ id ∧ id ≤ 9) && decide (1 ≤ l.length ∧ l.length ≤ 4)))
  (ev_end fun k => ?_)
  (fun i x t hi _ hx ih => ?_)
 ·simp only [Z29.l0]
  rw [if_neg (by omega)]
  simp only [inRange_eq, Option.bind_some, portsOk, Bool.true_and]
  by_cases a : 1 ≤ id ∧ id ≤ 9
  ·have e : decide (1 ≤ (l.length : Int) ∧ (l.length : Int) ≤ 4) = decide (1 ≤ l.length ∧ l.length ≤ 4) := by rw [decide_eq_decide]; omega
   simp only [a, and_self, decide_true, if_true, Bool.true_and, e]
  ·simp [a]
 ·refine Ev.step (f := fun k => (Z11.f k x.f0 x.f1 x.f2.f0 x.f2.f1 x.f2.f2 x.f2.f3 x.f3 x.f4 x.f5 x.f6 x.f7).bind fun t122 => (if t122 = true then (Z29.l0 k l (l.length : Int) ((i + 1 : Nat) : Int) id l) else (some false))) (fun k => ?_) (Ev.bind (implPortOk_ev _ _ _ _ _ _ _ _ _ _ _) ?_)
  ·simp only [Z29.l0]
   rw [if_pos (by omega), if_pos (by omega), if_pos (by omega), rdPB hx, w64_succ (by omega)]
  ·cases hp : portOk (pprt x) with
   | true =>
    have hp' := hp
    simp only [pprt] at hp'
    simp only [hp', if_true, portsOk, hp, Bool.true_and]
    exact ih
   | false =>
    have hp' := hp
    simp only [pprt] at hp'
    refine ev_some fun k => ?_
    simp [hp', portsOk, hp]
theorem implReact_ev (id : Int) (l : List PB) (kind port r c b p h : Int) (up : Bool) (hl : l.length ≤ 4194304) : Ev (fun k => Z35.f k id l kind port r c b p h up) (reactM id l kind port r c b p h up) := by
 simp only [Z35.f, copyBridge_eq id l hl, Option.bind_some, implInOk_eq]
 have hno : reactOk id l kind port r c b p h up = false → reactM id l kind port r c b p h up = (id, l, []) := fun h => by
  unfold reactM
  rw [if_neg (by rw [h]; decide)]
 cases hx : inOk kind port r c b p h up with
 | false =>
  simp only [Bool.false_eq_true, if_false]
  rw [hno (by simp [reactOk, hx])]
  exact ev_some fun _ => rfl
 | true =>
 simp only [if_true]
 by_cases hp : port ≥ (l.length : Int)
 ·simp only [if_pos hp]
  rw [hno (by simp [reactOk]; intros; omega)]
  exact ev_some fun _ => rfl
 simp only [if_neg hp]
 refine Ev.bind (implBridgeOk_ev id l hl) ?_
 cases hok : bridgeOk id l with
 | false =>
  simp only [Bool.false_eq_true, if_false]
  rw [hno (by simp [reactOk, hok])]
  exact ev_some fun _ => rfl
 | true =>
  simp only [if_true]
  have hR : reactOk id l kind port r c b p h up = true := by simp [reactOk, hok, hx]; omega
  refine Ev.bind (implReact0_ev id l kind port r c b p h up hok hx (by omega)) ?_
  unfold reactM
  rw [if_pos hR]
  exact ev_some fun _ => rfl
theorem rdOB {l : List OB} {i : Nat} {x : OB} (h : l[i]? = some x) : rd_T151 l (i : Int) = x := getD_at h
theorem eqOutS_ev (l : List OB) (h : l.length ≤ 4194304) : Ev (fun k => Z14.f k l l) true := by
 have h0 := ev_list0 l (fun k i => Z14.l0 k l l i) (fun _ => true)
  (ev_end fun k => by simp only [Z14.l0]; rw [if_neg (by omega)])
  (fun i x t hi _ hx ih => Ev.step (fun k => by
   simp only [Z14.l0, Z60.f, Z38.f]
   rw [if_pos (by omega), if_pos (by omega), if_pos (by omega), w64_succ (by omega)]
   simp) ih)
 refine Ev.congr (fun k => ?_) h0
 simp [Z14.f]
def outmk (_ : OB) (n : Int) : OB := ⟨n, n + 1, ⟨n + 1 + 1, n + 1 + 1 + 1, n + 1 + 1 + 1 + 1, n + 1 + 1 + 1 + 1 + 1⟩, n + 1 + 1 + 1 + 1 + 1 + 1, (Int.tmod (n + 1 + 1 + 1 + 1 + 1 + 1 + 1) 3 == 0)⟩
theorem rdOB_set {l : List OB} {i : Nat} (h : i < l.length) (v : OB) : rd_T151 (l.set i v) (i : Int) = v := rdOB (by simp [h])
theorem markOutS_ev (l : List OB) (h : l.length ≤ 4194304) (m : Int) (h0 : 0 ≤ m) (h1 : m ≤ 1125899906842624) : Ev (fun k => Z26.f k l m) (m + costs (fun _ => 8) l, upsG outmk (fun _ => 8) m l) := by
 refine ev_mark l outmk (fun _ => 8) (fun _ _ => by decide) (fun k acc n i => Z26.l0 k acc n i) (fun acc n ha => ?_) (fun i acc n x r ha hi _ hx hn hb ih => ?_) m h0 (by rw [costs_const]; omega)
 ·refine ev_end fun k => ?_
  simp only [Z26.l0]
  rw [if_neg (by omega)]
 ·refine Ev.step (fun k => ?_) ih
  have hs := fun v => rdOB_set (l := acc) (i := i) (by omega) v
  simp only [Z26.l0]
  rw [if_pos (by omega), if_pos (by omega), w64_succ (by omega)]
  simp (disch := omega) only [Option.bind_some, Int.toNat_natCast, hs, List.set_set, w64, outmk]
  have e : n + 8 = n + 1 + 1 + 1 + 1 + 1 + 1 + 1 + 1 := by omega
  rw [e]
theorem heldOutS_ev (l : List OB) (h : l.length ≤ 4194304) (m : Int) (h0 : 0 ≤ m) (h1 : m ≤ 1125899906842624) : Ev (fun k => Z23.f k (upsG outmk (fun _ => 8) m l) m) (m + costs (fun _ => 8) l) := by
 refine ev_held l outmk (fun _ => 8) (fun _ _ => by decide) (fun k acc n i => Z23.l0 k acc n i) (fun acc n ha => ?_) (fun i acc n x r ha hi _ hx hn hb ih => ?_) m h0 (by rw [costs_const]; omega)
 ·refine ev_end fun k => ?_
  simp only [Z23.l0]
  rw [if_neg (by omega)]
 ·refine Ev.step (fun k => ?_) ih
  simp only [Z23.l0]
  rw [if_pos (by omega), if_pos (by omega), w64_succ (by omega)]
  simp (disch := omega) only [w64, rdOB hx, outmk, if_true, bne_self_eq_false, Bool.false_eq_true, if_false]
  have e : n + 8 = n + 1 + 1 + 1 + 1 + 1 + 1 + 1 + 1 := by omega
  rw [e]
abbrev PA := S160
def pcv (x : PA) : PB := ⟨x.f0, x.f1, ⟨x.f2.f0, x.f2.f1, x.f2.f2, x.f2.f3⟩, x.f3, x.f4, x.f5, x.f6, x.f7⟩
theorem rdPA {l : List PA} {i : Nat} {x : PA} (h : l[i]? = some x) : rd_T160 l (i : Int) = x := getD_at h
theorem szPortS_eq (l : List PA) (n : Int) (h : l.length ≤ maxLen) (h0 : 0 ≤ n) (h1 : n ≤ 1048576) : Z56.f l n = some (if (l.length : Int) ≤ n then n - l.length else -1) := by
 unfold maxLen at h
 simp only [Z56.f]
 rw [w64 (by omega) (by omega)]
 by_cases hl : (l.length : Int) ≤ n
 ·rw [if_neg (by omega), if_pos hl]
 ·rw [if_pos (by omega), if_neg hl]
theorem szBridge_eq (a : Int) (l : List PA) (n : Int) (h : l.length ≤ maxLen) (h0 : 0 ≤ n) (h1 : n ≤ 1048576) : Z58.f a l n = some (if (l.length : Int) ≤ n then n - l.length else -1) := by
 simp only [Z58.f, szPortS_eq l n h h0 h1, Option.bind_some]
 split
 ·split <;> simp_all
  omega
 ·simp
theorem toPortS_ev (l : List PA) (h : l.length ≤ 4194304) : Ev (fun k => Z28.f k l) (l.map pcv) := by
 have h0 := ev_copy l z79 pcv (fun k acc i => Z28.l0 k l acc i)
  (fun acc ha => ev_end fun k => by simp only [Z28.l0]; rw [if_neg (by omega)])
  (fun i acc x r ha hi hx ih => Ev.step (fun k => by
   simp only [Z28.l0, Z61.f, Z53.f, Option.bind_some]
   rw [if_pos (by omega), if_pos (by omega), if_pos (by omega), rdPA hx, w64_succ (by omega)]
   simp [pcv]) ih)
 refine Ev.congr (fun k => ?_) h0
 simp only [Z28.f]
 rw [if_pos (by omega), if_pos (by simp; omega)]
 simp
theorem toBridge_ev (a : Int) (l : List PA) (h : l.length ≤ 4194304) : Ev (fun k => Z33.f k a l) (a, l.map pcv) := by
 simp only [Z33.f]
 exact Ev.bind (toPortS_ev l h) (ev_some fun _ => rfl)
theorem eqPort_eq (a0 a1 : Bool) (a2 a3 a4 a5 a6 a7 a8 a9 : Int) (a10 : Bool) : Z59.f a0 a1 a2 a3 a4 a5 a6 a7 a8 a9 a10 a0 a1 a2 a3 a4 a5 a6 a7 a8 a9 a10 = some true := by
 simp [Z59.f, Z38.f]
theorem eqPortS_ev (l : List PB) (h : l.length ≤ 4194304) : Ev (fun k => Z19.f k l l) true := by
 have h0 := ev_list0 l (fun k i => Z19.l0 k l l i) (fun _ => true)
  (ev_end fun k => by simp only [Z19.l0]; rw [if_neg (by omega)])
  (fun i x t hi _ hx ih => Ev.step (fun k => by
   simp only [Z19.l0, eqPort_eq, Option.bind_some, if_true]
   rw [if_pos (by omega), if_pos (by omega), if_pos (by omega), w64_succ (by omega)]) ih)
 refine Ev.congr (fun k => ?_) h0
 simp [Z19.f]
theorem eqBridge_ev (a : Int) (l : List PB) (h : l.length ≤ 4194304) : Ev (fun k => Z34.f k a l a l) true := by
 simp only [Z34.f, if_true]
 exact Ev.bind (eqPortS_ev l h) (ev_some fun _ => rfl)
def pmk (_ : PB) (n : Int) : PB := ⟨Int.tmod n 3 == 0, Int.tmod (n + 1) 3 == 0, ⟨n + 1 + 1, n + 1 + 1 + 1, n + 1 + 1 + 1 + 1, n + 1 + 1 + 1 + 1 + 1⟩, n + 1 + 1 + 1 + 1 + 1 + 1, n + 1 + 1 + 1 + 1 + 1 + 1 + 1, n + 1 + 1 + 1 + 1 + 1 + 1 + 1 + 1, n + 1 + 1 + 1 + 1 + 1 + 1 + 1 + 1 + 1, Int.tmod (n + 1 + 1 + 1 + 1 + 1 + 1 + 1 + 1 + 1 + 1) 3 == 0⟩
theorem markPortS_ev (l : List PB) (h : l.length ≤ 4194304) (m : Int) (h0 : 0 ≤ m) (h1 : m ≤ 1125899906842624) : Ev (fun k => Z30.f k l m) (m + costs (fun _ => 11) l, upsG pmk (fun _ => 11) m l) := by
 refine ev_mark l pmk (fun _ => 11) (fun _ _ => by decide) (fun k acc n i => Z30.l0 k acc n i) (fun acc n ha => ?_) (fun i acc n x r ha hi _ hx hn hb ih => ?_) m h0 (by rw [costs_const]; omega)
 ·refine ev_end fun k => ?_
  simp only [Z30.l0]
  rw [if_neg (by omega)]
 ·refine Ev.step (fun k => ?_) ih
  have hs := fun v => rdPB_set (l := acc) (i := i) (by omega) v
  simp only [Z30.l0]
  rw [if_pos (by omega), if_pos (by omega), w64_succ (by omega)]
  simp (disch := omega) only [Option.bind_some, Int.toNat_natCast, hs, List.set_set, w64, pmk]
  have e : n + 11 = n + 1 + 1 + 1 + 1 + 1 + 1 + 1 + 1 + 1 + 1 + 1 := by omega
  rw [e]
theorem heldPortS_ev (l : List PB) (h : l.length ≤ 4194304) (m : Int) (h0 : 0 ≤ m) (h1 : m ≤ 1125899906842624) : Ev (fun k => Z31.f k (upsG pmk (fun _ => 11) m l) m) (m + costs (fun _ => 11) l) := by
 refine ev_held l pmk (fun _ => 11) (fun _ _ => by decide) (fun k acc n i => Z31.l0 k acc n i) (fun acc n ha => ?_) (fun i acc n x r ha hi _ hx hn hb ih => ?_) m h0 (by rw [costs_const]; omega)
 ·refine ev_end fun k => ?_
  simp only [Z31.l0]
  rw [if_neg (by omega)]
 ·refine Ev.step (fun k => ?_) ih
  simp only [Z31.l0]
  rw [if_pos (by omega), if_pos (by omega), w64_succ (by omega), rdPB hx]
  simp (disch := omega) only [w64, pmk, if_true, bne_self_eq_false, Bool.false_eq_true, if_false]
  have e : n + 11 = n + 1 + 1 + 1 + 1 + 1 + 1 + 1 + 1 + 1 + 1 + 1 := by omega
  rw [e]
theorem markBridge_ev (a : Int) (l : List PB) (h : l.length ≤ 4194304) (m : Int) (h0 : 0 ≤ m) (h1 : m ≤ 1125899906842624) : Ev (fun k => Z39.f k a l m) (m + costs (fun _ => 11) l, upsG pmk (fun _ => 11) m l) := by
 simp only [Z39.f]
 exact Ev.bind (markPortS_ev l h m h0 h1) (ev_some fun _ => rfl)
theorem heldBridge_ev (a : Int) (l : List PB) (h : l.length ≤ 4194304) (m : Int) (h0 : 0 ≤ m) (h1 : m ≤ 1125899906842624) : Ev (fun k => Z42.f k a (upsG pmk (fun _ => 11) m l) m) (m + costs (fun _ => 11) l) := by
 simp only [Z42.f]
 have c := costs_nonneg (fun _ : PB => 11) l (fun _ _ => by decide)
 exact Ev.bind (heldPortS_ev l h m h0 h1) (ev_some fun _ => by rw [if_neg (by omega)])
theorem sayAcc_length (id : Int) (l : List PB) : ∀ (t : List PB) (acc : List OB) (i : Nat), (sayAcc id l acc i t).length ≤ acc.length + t.length := by
 intro t
 induction t with
 | nil => intro acc i; simp [sayAcc]
 | cons x t ih =>
  intro acc i
  simp only [sayAcc, List.length_cons]
  refine Nat.le_trans (ih _ _) ?_
  split <;> simp <;> omega
theorem reactM_outs (id : Int) (l : List PB) (kind port r c b p h : Int) (up : Bool) : (reactM id l kind port r c b p h up).2.2.length ≤ 2 * l.length := by
 unfold reactM
 split
 ·have hl := inM_length id l kind port r c b p h up
  generalize inM id l kind port r c b p h up = m at hl ⊢
  have h1 := gateAcc_length l m [] 0
  have h2 := sayAcc_length id m m (gateAcc l [] 0 m) 0
  simp only [List.length_nil] at h1
  show (outsM id l m kind).length ≤ _
  unfold outsM
  split <;> omega
 ·simp
theorem FnExactReact : FnExactReactPure := by
 intro a l x0 x1 x2 x3 x4 x5 x6 x7 _ hl _ _ _ _ _ _ _
 have hsz := szBridge_eq a l 1048576 hl.1 (by omega) (by omega)
 refine Ev.rounds ?_
 simp only [Z2.f, hsz, Option.bind_some]
 by_cases hbig : ¬ ((l.length : Int) ≤ 1048576)
 ·exact ev_some fun _ => by simp [hbig]
 have hbig : (l.length : Int) ≤ 1048576 := by omega
 simp only [if_pos hbig, if_neg (show ¬ (1048576 : Int) - l.length < 0 by omega)]
 have hm : (l.map pcv).length ≤ 4194304 := by simp; omega
 have ht := toBridge_ev a l (by omega)
 refine Ev.bind ht ?_
 simp only [Z44.f, Z53.f, Option.bind_some]
 refine Ev.bind (specReact_ev a (l.map pcv) x0 x1 x2 x3 x4 x5 x6 x7 hm) ?_
 refine Ev.bind ht ?_
 have hd := implReact_ev a (l.map pcv) x0 x1 x2 x3 x4 x5 x6 x7 hm
 refine Ev.bind hd ?_
 have hr := reactM_length a (l.map pcv) x0 x1 x2 x3 x4 x5 x6 x7
 have ho := reactM_outs a (l.map pcv) x0 x1 x2 x3 x4 x5 x6 x7
 have hid : (reactM a (l.map pcv) x0 x1 x2 x3 x4 x5 x6 x7).1 = a := by unfold reactM; split <;> rfl
 generalize reactM a (l.map pcv) x0 x1 x2 x3 x4 x5 x6 x7 = R at hr ho hd hid ⊢
 obtain ⟨i, r, o⟩ := R
 dsimp only at hr ho hid hd ⊢
 subst hid
 have hr' : r.length ≤ 4194304 := by omega
 have ho' : o.length ≤ 4194304 := by simp at ho; omega
 refine Ev.bind (eqBridge_ev i r hr') ?_
 simp only [if_true]
 refine Ev.bind (eqOutS_ev o ho') ?_
 have c1 := costs_nonneg (fun _ : PB => 11) (l.map pcv) (fun _ _ => by decide)
 have c2 := costs_nonneg (fun _ : PB => 11) r (fun _ _ => by decide)
 have c3 := costs_nonneg (fun _ : OB => 8) o (fun _ _ => by decide)
 have b2 : 1 + costs (fun _ : PB => 11) r ≤ 1125899906842624 := by rw [costs_const]; omega
 refine Ev.stepUp ?_
 simp only [Z2.j0, Bool.not_true, Bool.false_eq_true, if_false]
 refine Ev.bind ht ?_
 refine Ev.bind (eqBridge_ev i (l.map pcv) hm) ?_
 simp only [if_true]
 refine Ev.bind (markBridge_ev i (l.map pcv) hm 1 (by omega) (by omega)) ?_
 simp only [if_neg (show ¬ 1 + costs (fun _ : PB => 11) (l.map pcv) < 0 by omega)]
 refine Ev.bind (eqBridge_ev i r hr') ?_
 simp only [if_true]
 refine Ev.bind (eqOutS_ev o ho') ?_
 refine Ev.stepUp ?_
 simp only [Z2.j1, Bool.not_true, Bool.false_eq_true, if_false]
 refine Ev.bind (markBridge_ev i r hr' 1 (by omega) (by omega)) ?_
 refine Ev.bind (markOutS_ev o ho' (1 + costs (fun _ : PB => 11) r) (by omega) b2) ?_
 refine Ev.bind (heldBridge_ev i r hr' 1 (by omega) (by omega)) ?_
 simp only [if_neg (show ¬ 1 + costs (fun _ : PB => 11) r < 0 by omega)]
 refine Ev.bind (heldOutS_ev o ho' (1 + costs (fun _ : PB => 11) r) (by omega) b2) ?_
 simp only [if_neg (show ¬ 1 + costs (fun _ : PB => 11) r + costs (fun _ : OB => 8) o < 0 by omega), if_true]
 refine Ev.bind ht ?_
 simp only [Z44.f, Z53.f, Option.bind_some]
 refine Ev.bind hd ?_
 refine Ev.bind (eqBridge_ev i r hr') ?_
 simp only [if_true]
 refine Ev.bind (eqOutS_ev o ho') ?_
 refine Ev.stepUp ?_
 simp only [Z2.j2, Bool.not_true, Bool.false_eq_true, if_false]
 refine Ev.bind (heldBridge_ev i r hr' 1 (by omega) (by omega)) ?_
 simp only [if_neg (show ¬ 1 + costs (fun _ : PB => 11) r < 0 by omega)]
 refine Ev.bind (heldOutS_ev o ho' (1 + costs (fun _ : PB => 11) r) (by omega) b2) ?_
 simp only [if_neg (show ¬ 1 + costs (fun _ : PB => 11) r + costs (fun _ : OB => 8) o < 0 by omega), if_true]
 exact ev_some fun _ => rfl
end Go.Proofs.Ythmijfekdeagpaa.Pure

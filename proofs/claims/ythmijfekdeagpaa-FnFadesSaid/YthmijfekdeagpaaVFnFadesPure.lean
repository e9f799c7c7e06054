/- A part of the proof of laws.FnFades. No condition beyond what its theorems say. -/
/- The statement of laws.FnFades over numbers and lists alone: at every input it answers true. No condition but that the numbers are those of their kinds and that no slice is longer than a Go slice can be. -/
import Derived.Test.YthmijfekdeagpaaVFnFadesPx31
import Derived.Test.YthmijfekdeagpaaVFnFadesBase
import Derived.Laws.BitsLemmas
set_option linter.unusedVariables false
set_option linter.unusedSimpArgs false
namespace Go.Proofs.Ythmijfekdeagpaa.Pure
open Go.RowKit Go.Proofs.Ythmijfekdeagpaa.PFnFades Go.Proofs.Ythmijfekdeagpaa.Base Go.Proofs.YthmijfekdeagpaaW.PrintWords Go.Proofs.YthmijfekdeagpaaW.PrintLast Go.Proofs.YthmijfekdeagpaaW.PrintMore
def FnFadesPure : Prop := ∀ (l0 : List (Int)), (l0.length ≤ maxLen ∧ ∀ x ∈ l0, (Lit.int .u8 x).wf = true) → ∃ k, laws_FnFades.f k l0 = some true
def vecOk (r c b p : Int) : Bool := decide (1 ≤ r ∧ r ≤ 9) && (decide (1 ≤ b ∧ b ≤ 9) && (decide (r ≤ b) && (decide (0 ≤ c ∧ c ≤ 20) && (((c == 0) == (r == b)) && decide (0 ≤ p ∧ p ≤ 3)))))
theorem vecOk_iff (r c b p : Int) : vecOk r c b p = true ↔ (1 ≤ r ∧ r ≤ 9) ∧ (1 ≤ b ∧ b ≤ 9) ∧ r ≤ b ∧ (0 ≤ c ∧ c ≤ 20) ∧ (c = 0 ↔ r = b) ∧ 0 ≤ p ∧ p ≤ 3 := by
 unfold vecOk
 have e1 : (c == 0) = decide (c = 0) := by by_cases h : c = 0 <;> simp [h]
 have e2 : (r == b) = decide (r = b) := by by_cases h : r = b <;> simp [h]
 rw [e1, e2]
 by_cases h1 : c = 0 <;> by_cases h2 : r = b <;> simp [h1, h2]
structure Prt where
 up : Bool
 has : Bool
 r : Int
 c : Int
 b : Int
 p : Int
 hops : Int
 left : Int
 role : Int
 wait : Int
 op : Bool
def Prt.tup (q : Prt) : Bool × Bool × Int × Int × Int × Int × Int × Int × Int × Int × Bool := (q.up, q.has, q.r, q.c, q.b, q.p, q.hops, q.left, q.role, q.wait, q.op)
def openBy (role wait : Int) : Bool := (role == 1 || role == 2) && wait == 0
def tailOk (up : Bool) (role wait : Int) (op : Bool) : Bool := decide (0 ≤ role ∧ role ≤ 3) && (((role == 0) == !up) && (decide (0 ≤ wait ∧ wait ≤ 4) && (op == openBy role wait)))
def headOk (q : Prt) : Bool :=
 if q.has then q.up && (vecOk q.r q.c q.b q.p && (decide (0 ≤ q.hops ∧ q.hops ≤ 8) && decide (1 ≤ q.left ∧ q.left ≤ 3)))
 else decide (q.r = 0) && (decide (q.c = 0) && (decide (q.b = 0) && (decide (q.p = 0) && (decide (q.hops = 0) && decide (q.left = 0)))))
def portOk (q : Prt) : Bool := headOk q && tailOk q.up q.role q.wait q.op
abbrev VB := S73
abbrev PB := S79
def pprt (x : PB) : Prt := ⟨x.f0, x.f1, x.f2.f0, x.f2.f1, x.f2.f2, x.f2.f3, x.f3, x.f4, x.f5, x.f6, x.f7⟩
theorem rdPB {l : List PB} {i : Nat} {x : PB} (h : l[i]? = some x) : rd_T79 l (i : Int) = x := getD_at h
theorem rdPB_set {l : List PB} {i : Nat} (h : i < l.length) (v : PB) : rd_T79 (l.set i v) (i : Int) = v := rdPB (by simp [h])
def portsOk : List PB → Bool
 | [] => true
 | x :: t => portOk (pprt x) && portsOk t
def bridgeOk (id : Int) (l : List PB) : Bool := portsOk l && (decide (1 ≤ id ∧ id ≤ 9) && decide (1 ≤ l.length ∧ l.length ≤ 4))
theorem portsOk_iff : ∀ l : List PB, portsOk l = true ↔ ∀ x ∈ l, portOk (pprt x) = true := by
 intro l
 induction l with
 | nil => simp [portsOk]
 | cons x t ih => simp [portsOk, ih]
def better (a b c d a' b' c' d' : Int) : Bool := decide (a < a' ∨ a = a' ∧ (b < b' ∨ b = b' ∧ (c < c' ∨ c = c' ∧ d < d')))
theorem Ev.stepUp {α : Type} {g : Nat → Option α} {r : α} (h : Ev (fun k => g (k + 1)) r) : Ev g r := Ev.step (fun _ => rfl) h
def skipP (id : Int) (x : PB) : Bool := !x.f1 || (decide (x.f2.f2 = id) || (decide (x.f2.f0 ≥ id) || (decide (x.f2.f1 ≥ 20) || decide (x.f3 ≥ 8))))
def stepR (id : Int) (l : List PB) (b i : Int) (x : PB) : Int :=
 if skipP id x = true then b else if b < 0 then i else if better x.f2.f0 x.f2.f1 x.f2.f2 x.f2.f3 (rd_T79 l b).f2.f0 (rd_T79 l b).f2.f1 (rd_T79 l b).f2.f2 (rd_T79 l b).f2.f3 = true then i else b
def rootM (id : Int) (l : List PB) : Int → List PB → Int
 | b, [] => b
 | b, x :: t => rootM id l (stepR id l b ((l.length - (t.length + 1) : Nat) : Int) x) t
theorem drop_at {α : Type} {l : List α} {i : Nat} {x : α} {t : List α} (h : l.drop i = x :: t) (hi : i < l.length) : l.length - (t.length + 1) = i := by
 have := congrArg List.length h
 simp at this
 omega
def BestOk (l : List PB) (b : Int) : Prop := b = -1 ∨ (0 ≤ b ∧ b < l.length)
theorem stepR_ok (id : Int) (l : List PB) (b : Int) (i : Nat) (x : PB) (hb : BestOk l b) (hi : i < l.length) : BestOk l (stepR id l b i x) := by
 have h1 : BestOk l (i : Int) := Or.inr ⟨by omega, by omega⟩
 unfold stepR
 (repeat' split) <;> assumption
theorem rootM_ok (id : Int) (l : List PB) : ∀ (t : List PB) (b : Int), BestOk l b → t.length ≤ l.length → BestOk l (rootM id l b t) := by
 intro t
 induction t with
 | nil => intro b hb _; exact hb
 | cons x t ih =>
  intro b hb ht
  simp only [List.length_cons] at ht
  exact ih _ (stepR_ok id l b _ x hb (by omega)) (by omega)
def hopsM (id : Int) (l : List PB) : Int := if rootM id l (-1) l ≥ 0 then wrap64 ((rd_T79 l (rootM id l (-1) l)).f3 + 1) else 0
theorem root_lt (id : Int) (l : List PB) (h : rootM id l (-1) l ≥ 0) : rootM id l (-1) l < (l.length : Int) := by
 have := rootM_ok id l l (-1) (Or.inl rfl) (Nat.le_refl _)
 rcases this with e | ⟨_, h1⟩
 ·omega
 ·exact h1
def ownM (id : Int) (l : List PB) (p : Int) : Int × Int × Int × Int := if rootM id l (-1) l ≥ 0 then ((rd_T79 l (rootM id l (-1) l)).f2.f0, wrap64 ((rd_T79 l (rootM id l (-1) l)).f2.f1 + 1), id, p) else (id, 0, id, p)
def ownX (id : Int) (l : List PB) (p : Int) : Int × Int × Int × Int := if bridgeOk id l = true ∧ (0 ≤ p ∧ p ≤ (l.length : Int) - 1) then ownM id l p else (0, 0, 0, 0)
def turnM (q : Prt) (role : Int) : Prt :=
 if (portOk q && (q.up && decide (1 ≤ role ∧ role ≤ 3))) = true then
  (if role = 3 then ⟨q.up, q.has, q.r, q.c, q.b, q.p, q.hops, q.left, role, 0, openBy role 0⟩
   else if q.role = 3 then ⟨q.up, q.has, q.r, q.c, q.b, q.p, q.hops, q.left, role, 4, openBy role 4⟩
   else ⟨q.up, q.has, q.r, q.c, q.b, q.p, q.hops, q.left, role, q.wait, openBy role q.wait⟩)
 else q
def ofP (q : Prt) : PB := ⟨q.up, q.has, ⟨q.r, q.c, q.b, q.p⟩, q.hops, q.left, q.role, q.wait, q.op⟩
theorem ofP_pprt (x : PB) : ofP (pprt x) = x := rfl
theorem pprt_ofP (q : Prt) : pprt (ofP q) = q := rfl
def coreP (x : PB) : Bool × VB × Int := (x.f1, x.f2, x.f3)
theorem core_rd {l l' : List PB} (h : l.map coreP = l'.map coreP) (i : Int) : coreP (rd_T79 l i) = coreP (rd_T79 l' i) := by
 have e : ∀ m : List PB, coreP (rd_T79 m i) = (m.map coreP).getD i.toNat (coreP z79) := fun m => by
  show coreP (m.getD i.toNat _) = _
  simp only [List.getD_eq_getElem?_getD, List.getElem?_map]
  cases m[i.toNat]? <;> rfl
 rw [e, e, h]
theorem core_f1 {x y : PB} (h : coreP x = coreP y) : x.f1 = y.f1 := congrArg (·.1) h
theorem core_f2 {x y : PB} (h : coreP x = coreP y) : x.f2 = y.f2 := congrArg (·.2.1) h
theorem core_f3 {x y : PB} (h : coreP x = coreP y) : x.f3 = y.f3 := congrArg (·.2.2) h
theorem stepR_core (id : Int) {l l' : List PB} (h : l.map coreP = l'.map coreP) (b i : Int) {x y : PB} (hx : coreP x = coreP y) : stepR id l b i x = stepR id l' b i y := by
 have h1 := core_f1 hx
 have h2 := core_f2 hx
 have h3 := core_f3 hx
 obtain ⟨x0, x1, x2, x3, x4, x5, x6, x7⟩ := x
 obtain ⟨y0, y1, y2, y3, y4, y5, y6, y7⟩ := y
 dsimp only at h1 h2 h3
 subst h1 h2 h3
 unfold stepR skipP
 rw [core_f2 (core_rd h b)]
theorem rootM_core (id : Int) {l l' : List PB} (h : l.map coreP = l'.map coreP) : ∀ (t t' : List PB) (b : Int), t.map coreP = t'.map coreP → rootM id l b t = rootM id l' b t' := by
 have hl : l.length = l'.length := by simpa using congrArg List.length h
 intro t
 induction t with
 | nil =>
  intro t' b ht
  cases t' with
  | nil => rfl
  | cons y u => simp at ht
 | cons x t ih =>
  intro t' b ht
  cases t' with
  | nil => simp at ht
  | cons y u =>
   simp only [List.map_cons, List.cons.injEq] at ht
   have hn : t.length = u.length := by simpa using congrArg List.length ht.2
   simp only [rootM, hl, hn, stepR_core id h _ _ ht.1]
   exact ih u _ ht.2
theorem root_core (id : Int) {l l' : List PB} (h : l.map coreP = l'.map coreP) : rootM id l (-1) l = rootM id l' (-1) l' := rootM_core id h l l' (-1) h
theorem ownM_core (id : Int) {l l' : List PB} (h : l.map coreP = l'.map coreP) (p : Int) : ownM id l p = ownM id l' p := by
 unfold ownM
 rw [root_core id h, core_f2 (core_rd h _)]
theorem hopsM_core (id : Int) {l l' : List PB} (h : l.map coreP = l'.map coreP) : hopsM id l = hopsM id l' := by
 unfold hopsM
 rw [root_core id h, core_f3 (core_rd h _)]
def roleM (id : Int) (l : List PB) (i : Nat) (x : PB) : Int :=
 if (i : Int) = rootM id l (-1) l then 1 else if (x.f1 && better x.f2.f0 x.f2.f1 x.f2.f2 x.f2.f3 (ownM id l i).1 (ownM id l i).2.1 (ownM id l i).2.2.1 (ownM id l i).2.2.2) = true then 3 else 2
def decP (id : Int) (l : List PB) (i : Nat) (x : PB) : PB := if x.f0 = true then ofP (turnM (pprt x) (roleM id l i x)) else x
def decM (id : Int) (l : List PB) : List PB := l.mapIdx (decP id l)
theorem decM_length (id : Int) (l : List PB) : (decM id l).length = l.length := by simp [decM]
theorem decM_get {id : Int} {l : List PB} {i : Nat} {x : PB} (h : l[i]? = some x) : (decM id l)[i]? = some (decP id l i x) := by simp [decM, h]
theorem turnM_core (q : Prt) (ro : Int) : (turnM q ro).up = q.up ∧ (turnM q ro).has = q.has ∧ (turnM q ro).r = q.r ∧ (turnM q ro).c = q.c ∧ (turnM q ro).b = q.b ∧ (turnM q ro).p = q.p ∧ (turnM q ro).hops = q.hops ∧ (turnM q ro).left = q.left := by
 unfold turnM
 (repeat' split) <;> simp
theorem decP_core (id : Int) (l : List PB) (i : Nat) (x : PB) : coreP (decP id l i x) = coreP x := by
 unfold decP
 split
 ·obtain ⟨_, h1, h2, h3, h4, h5, h6, _⟩ := turnM_core (pprt x) (roleM id l i x)
  simp only [coreP, ofP, h1, h2, h3, h4, h5, h6]
  rfl
 ·rfl
theorem decM_core (id : Int) (l : List PB) : (decM id l).map coreP = l.map coreP := by
 apply List.ext_getElem?
 intro i
 simp only [decM, List.getElem?_map, List.getElem?_mapIdx, Option.map_map]
 cases l[i]? with
 | none => rfl
 | some x => simp [decP_core]
theorem turned_next {α : Type} {M L : List α} (hl : M.length = L.length) {i : Nat} {y : α} (hy : M[i]? = some y) : (M.take i ++ L.drop i).set i y = M.take (i + 1) ++ L.drop (i + 1) := by
 have hi : i < M.length := (List.getElem?_eq_some_iff.1 hy).1
 have ht : (M.take i).length = i := by simp; omega
 rw [List.set_append_right _ _ (by omega), ht, Nat.sub_self, List.drop_eq_getElem_cons (show i < L.length by omega), List.set_cons_zero, List.take_add_one, hy]
 simp
theorem turned_at {α : Type} {M L : List α} (hl : M.length = L.length) {i : Nat} {x : α} (hx : L[i]? = some x) : (M.take i ++ L.drop i)[i]? = some x := by
 have hi : i < L.length := (List.getElem?_eq_some_iff.1 hx).1
 rw [List.getElem?_append_right (by simp; omega)]
 simp only [List.length_take, List.getElem?_drop]
 rw [show i + (i - min i M.length) = i by omega]
 exact hx
theorem turned_length {α : Type} {M L : List α} (hl : M.length = L.length) {i : Nat} (hi : i ≤ L.length) : (M.take i ++ L.drop i).length = L.length := by
 simp; omega
theorem turned_core {M L : List PB} (h : M.map coreP = L.map coreP) (i : Nat) : (M.take i ++ L.drop i).map coreP = L.map coreP := by
 simp only [List.map_append, List.map_take, List.map_drop, h, List.take_append_drop]
def fadeM (q : Prt) : Prt := if (q.has && portOk q) = true then (if q.left - 1 = 0 then ⟨q.up, false, 0, 0, 0, 0, 0, 0, q.role, q.wait, q.op⟩ else ⟨q.up, q.has, q.r, q.c, q.b, q.p, q.hops, q.left - 1, q.role, q.wait, q.op⟩) else q
theorem portOk_left (q : Prt) (h : portOk q = true) (hh : q.has = true) : 1 ≤ q.left ∧ q.left ≤ 3 := by
 simp [portOk, headOk, hh] at h
 omega
def tickM (q : Prt) : Prt :=
 if ((fadeM q).role = 1 ∨ (fadeM q).role = 2) ∧ (fadeM q).wait > 0 then
  ⟨(fadeM q).up, (fadeM q).has, (fadeM q).r, (fadeM q).c, (fadeM q).b, (fadeM q).p, (fadeM q).hops, (fadeM q).left, (fadeM q).role, wrap64 ((fadeM q).wait - 1), openBy (fadeM q).role (wrap64 ((fadeM q).wait - 1))⟩
 else
  ⟨(fadeM q).up, (fadeM q).has, (fadeM q).r, (fadeM q).c, (fadeM q).b, (fadeM q).p, (fadeM q).hops, (fadeM q).left, (fadeM q).role, (fadeM q).wait, openBy (fadeM q).role (fadeM q).wait⟩
def tickP (x : PB) : PB := ofP (tickM (pprt x))
theorem fadeM_ok (q : Prt) (h : portOk q = true) : portOk (fadeM q) = true := by
 unfold fadeM
 split
 ·rename_i h1
  simp only [Bool.and_eq_true] at h1
  have h2 := portOk_left q h h1.1
  simp only [portOk, Bool.and_eq_true] at h ⊢
  split
  ·exact ⟨by simp [headOk], h.2⟩
  ·refine ⟨?_, h.2⟩
   have h3 := h.1
   simp only [headOk, h1.1, if_true, Bool.and_eq_true, decide_eq_true_eq] at h3 ⊢
   exact ⟨h3.1, h3.2.1, h3.2.2.1, by omega, by omega⟩
 ·exact h
theorem fadeM_tail (q : Prt) : (fadeM q).up = q.up ∧ (fadeM q).role = q.role ∧ (fadeM q).wait = q.wait ∧ (fadeM q).op = q.op := by
 unfold fadeM
 (repeat' split) <;> simp
theorem portOk_tail {q : Prt} (h : portOk q = true) : (0 ≤ q.role ∧ q.role ≤ 3) ∧ ((q.role == 0) = !q.up) ∧ (0 ≤ q.wait ∧ q.wait ≤ 4) ∧ q.op = openBy q.role q.wait := by
 simp only [portOk, tailOk, Bool.and_eq_true, decide_eq_true_eq, beq_iff_eq] at h
 exact h.2
theorem tickM_ok (q : Prt) (h : portOk q = true) : portOk (tickM q) = true := by
 have hf := fadeM_ok q h
 have ht := portOk_tail hf
 unfold tickM
 generalize fadeM q = f at hf ht ⊢
 obtain ⟨f0, f1, f2, f3, f4, f5, f6, f7, f8, f9, f10⟩ := f
 simp only [portOk, Bool.and_eq_true] at hf
 dsimp only at ht hf ⊢
 obtain ⟨t1, t2, t3, t4⟩ := ht
 split
 ·rename_i hw
  rw [w64 (by omega) (by omega)]
  simp only [portOk, Bool.and_eq_true]
  refine ⟨hf.1, ?_⟩
  simp only [tailOk, Bool.and_eq_true, decide_eq_true_eq, beq_iff_eq]
  exact ⟨t1, t2, by omega, by first | rfl | trivial⟩
 ·simp only [portOk, Bool.and_eq_true]
  refine ⟨hf.1, ?_⟩
  simp only [tailOk, Bool.and_eq_true, decide_eq_true_eq, beq_iff_eq]
  exact ⟨t1, t2, t3, by first | rfl | trivial⟩
theorem tickM_tail (q : Prt) : (tickM q).up = q.up ∧ (tickM q).role = q.role := by
 have h := fadeM_tail q
 unfold tickM
 split <;> exact ⟨h.1, h.2.1⟩
theorem portsOk_set {l : List PB} (h : portsOk l = true) {i : Nat} {x : PB} (hx : portOk (pprt x) = true) : portsOk (l.set i x) = true := by
 rw [portsOk_iff] at h ⊢
 intro y hy
 rcases List.mem_or_eq_of_mem_set hy with hy | rfl
 ·exact h y hy
 ·exact hx
theorem bridgeOk_set {id : Int} {l : List PB} (h : bridgeOk id l = true) {i : Nat} {x : PB} (hx : portOk (pprt x) = true) : bridgeOk id (l.set i x) = true := by
 simp only [bridgeOk, Bool.and_eq_true, List.length_set] at h ⊢
 exact ⟨portsOk_set h.1 hx, h.2⟩
theorem bridgeOk_ports {id : Int} {l : List PB} (h : bridgeOk id l = true) {i : Nat} {x : PB} (hx : l[i]? = some x) : portOk (pprt x) = true := by
 simp only [bridgeOk, Bool.and_eq_true] at h
 exact (portsOk_iff l).1 h.1 x (List.mem_of_getElem? hx)
theorem bridgeOk_len {id : Int} {l : List PB} (h : bridgeOk id l = true) : 1 ≤ l.length ∧ l.length ≤ 4 ∧ 1 ≤ id ∧ id ≤ 9 := by
 simp only [bridgeOk, Bool.and_eq_true, decide_eq_true_eq] at h
 omega
theorem bridgeOk_map {id : Int} {l : List PB} (h : bridgeOk id l = true) {f : PB → PB} (hf : ∀ x, portOk (pprt x) = true → portOk (pprt (f x)) = true) : bridgeOk id (l.map f) = true := by
 simp only [bridgeOk, Bool.and_eq_true, List.length_map] at h ⊢
 refine ⟨?_, h.2⟩
 rw [portsOk_iff] at h ⊢
 intro y hy
 obtain ⟨x, hx, rfl⟩ := List.mem_map.1 hy
 exact hf x (h.1 x hx)
theorem turnM_ok' (q : Prt) (role : Int) (hq : portOk q = true) : portOk (turnM q role) = true := by
 unfold turnM
 split
 ·rename_i h1
  simp only [Bool.and_eq_true, decide_eq_true_eq] at h1
  obtain ⟨_, hu, hr⟩ := h1
  have h0 : ¬ role = 0 := by omega
  simp only [portOk, Bool.and_eq_true] at hq
  obtain ⟨hh, ht⟩ := hq
  simp only [tailOk, Bool.and_eq_true, decide_eq_true_eq] at ht
  obtain ⟨_, _, hw, _⟩ := ht
  have hh' : ∀ (ro wa : Int) (o : Bool), headOk ⟨q.up, q.has, q.r, q.c, q.b, q.p, q.hops, q.left, ro, wa, o⟩ = true := fun _ _ _ => hh
  rw [hu] at hh'
  have h3 : 0 ≤ role ∧ role ≤ 3 := by omega
  split
  ·simp [portOk, hh', tailOk, hu, h0, h3]
  ·split
   ·simp [portOk, hh', tailOk, hu, h0, h3]
   ·simp [portOk, hh', tailOk, hu, h0, h3, hw]
 ·exact hq
theorem decP_ok (id : Int) (l : List PB) (i : Nat) (x : PB) (h : portOk (pprt x) = true) : portOk (pprt (decP id l i x)) = true := by
 unfold decP
 split
 ·rw [pprt_ofP]; exact turnM_ok' _ _ h
 ·exact h
theorem decM_ok {id : Int} {l : List PB} (h : bridgeOk id l = true) : bridgeOk id (decM id l) = true := by
 have hl := decM_length id l
 simp only [bridgeOk, Bool.and_eq_true, hl] at h ⊢
 refine ⟨?_, h.2⟩
 rw [portsOk_iff] at h ⊢
 intro y hy
 obtain ⟨i, hi⟩ := List.getElem?_of_mem hy
 have hi' : i < l.length := by
  have := (List.getElem?_eq_some_iff.1 hi).1
  omega
 have hx := List.getElem?_eq_getElem hi'
 rw [decM_get (id := id) hx] at hi
 injection hi with hi
 subst hi
 exact decP_ok id l i _ (h.1 _ (List.mem_of_getElem? hx))
def claimM (q : Prt) (r c b p h : Int) : Prt :=
 if (portOk q && (q.up && (vecOk r c b p && decide (0 ≤ h ∧ h ≤ 8)))) = true then
  (if (q.has && (better q.r q.c q.b q.p r c b p && !(decide (q.b = b) && decide (q.p = p)))) = true then q else ⟨q.up, true, r, c, b, p, h, 3, q.role, q.wait, q.op⟩)
 else q
def inOk (k p r c b q h : Int) (u : Bool) : Bool :=
 if k = 1 then decide (0 ≤ p ∧ p ≤ 3) && vecOk r c b q && decide (0 ≤ h ∧ h ≤ 8) && !u
 else if k = 3 then decide (0 ≤ p ∧ p ≤ 3 ∧ r = 0 ∧ c = 0 ∧ b = 0 ∧ q = 0 ∧ h = 0)
 else decide (k = 2 ∧ p = 0 ∧ r = 0 ∧ c = 0 ∧ b = 0 ∧ q = 0 ∧ h = 0) && !u
abbrev OB := S151
def linkP (up : Bool) : PB := if up then ⟨true, false, ⟨0, 0, 0, 0⟩, 0, 0, 3, 0, false⟩ else ⟨false, false, ⟨0, 0, 0, 0⟩, 0, 0, 0, 0, false⟩
theorem linkP_ok (up : Bool) : portOk (pprt (linkP up)) = true := by cases up <;> decide
theorem claimM_ok' (q : Prt) (r c b p h : Int) (hq : portOk q = true) : portOk (claimM q r c b p h) = true := by
 unfold claimM
 split
 ·rename_i h1
  split
  ·exact hq
  ·simp only [Bool.and_eq_true, decide_eq_true_eq] at h1
   obtain ⟨_, hu, hv, hh⟩ := h1
   simp only [portOk, Bool.and_eq_true] at hq ⊢
   refine ⟨?_, hq.2⟩
   simp [headOk, hu, hv, hh]
 ·exact hq
def inM (id : Int) (l : List PB) (kind port r c b p h : Int) (up : Bool) : List PB :=
 if kind = 1 then decM id (l.set port.toNat (ofP (claimM (pprt (rd_T79 l port)) r c b p h)))
 else if kind = 2 then decM id (l.map tickP)
 else if (rd_T79 l port).f0 = up then l else decM id (l.set port.toNat (linkP up))
theorem inM_length (id : Int) (l : List PB) (kind port r c b p h : Int) (up : Bool) : (inM id l kind port r c b p h up).length = l.length := by
 unfold inM
 (repeat' split) <;> simp [decM_length]
theorem inOk_kind {kind p r c b q h : Int} {u : Bool} (hx : inOk kind p r c b q h u = true) : (kind = 1 ∨ kind = 2 ∨ kind = 3) ∧ 0 ≤ p := by
 unfold inOk at hx
 split at hx
 ·rename_i h1; simp only [Bool.and_eq_true, decide_eq_true_eq] at hx; exact ⟨Or.inl h1, hx.1.1.1.1⟩
 ·split at hx
  ·rename_i h3; simp only [decide_eq_true_eq] at hx; exact ⟨Or.inr (Or.inr h3), hx.1⟩
  ·simp only [Bool.and_eq_true, decide_eq_true_eq] at hx; exact ⟨Or.inr (Or.inl hx.1.1), by omega⟩
theorem inM_ok {id : Int} {l : List PB} (hok : bridgeOk id l = true) (kind port r c b p h : Int) (up : Bool) (h0 : 0 ≤ port) (h1 : port < (l.length : Int)) : bridgeOk id (inM id l kind port r c b p h up) = true := by
 have hx : l[port.toNat]? = some l[port.toNat] := List.getElem?_eq_getElem (by omega)
 have e : ((port.toNat : Nat) : Int) = port := by omega
 have hr := rdPB hx
 rw [e] at hr
 have hp := bridgeOk_ports hok hx
 unfold inM
 (repeat' split)
 ·rw [hr]
  exact decM_ok (bridgeOk_set hok (by rw [pprt_ofP]; exact claimM_ok' _ _ _ _ _ _ hp))
 ·exact decM_ok (bridgeOk_map hok fun x hx => by rw [tickP, pprt_ofP]; exact tickM_ok _ hx)
 ·exact hok
 ·exact decM_ok (bridgeOk_set hok (linkP_ok up))
def gateAcc (old : List PB) : List OB → Nat → List PB → List OB
 | acc, _, [] => acc
 | acc, i, x :: t => gateAcc old (if (x.f7 != (rd_T79 old (i : Int)).f7) = true then acc ++ [(⟨2, (i : Int), ⟨0, 0, 0, 0⟩, 0, x.f7⟩ : OB)] else acc) (i + 1) t
def sayAcc (id : Int) (l : List PB) : List OB → Nat → List PB → List OB
 | acc, _, [] => acc
 | acc, i, x :: t => sayAcc id l (if x.f5 = 2 then acc ++ [(⟨1, (i : Int), ⟨(ownM id l i).1, (ownM id l i).2.1, (ownM id l i).2.2.1, (ownM id l i).2.2.2⟩, hopsM id l, false⟩ : OB)] else acc) (i + 1) t
def outsM (id : Int) (old l : List PB) (kind : Int) : List OB := if kind = 2 then sayAcc id l (gateAcc old [] 0 l) 0 l else gateAcc old [] 0 l
def reactOk (id : Int) (l : List PB) (kind port r c b p h : Int) (up : Bool) : Bool := bridgeOk id l && (inOk kind port r c b p h up && decide (port < (l.length : Int)))
def reactM (id : Int) (l : List PB) (kind port r c b p h : Int) (up : Bool) : Int × List PB × List OB :=
 if reactOk id l kind port r c b p h up = true then (id, inM id l kind port r c b p h up, outsM id l (inM id l kind port r c b p h up) kind) else (id, l, [])
theorem reactM_length (id : Int) (l : List PB) (kind port r c b p h : Int) (up : Bool) : (reactM id l kind port r c b p h up).2.1.length = l.length := by
 unfold reactM
 split
 ·exact inM_length _ _ _ _ _ _ _ _ _ _
 ·rfl
theorem l1In_eq (x lo hi : Int) : spec_l1In.f x lo hi = some (decide (lo ≤ x ∧ x ≤ hi)) := by
 simp only [spec_l1In.f]
 by_cases h : lo ≤ x
 ·rw [if_pos h]; simp [h]
 ·rw [if_neg h]; simp [h]
theorem specVecOk_eq (r c b p : Int) : spec_VecOk.f r c b p = some (vecOk r c b p) := by
 simp only [spec_VecOk.f, l1In_eq, Option.bind_some, vecOk]
 by_cases h1 : 1 ≤ r ∧ r ≤ 9 <;> by_cases h2 : 1 ≤ b ∧ b ≤ 9 <;> by_cases h3 : r ≤ b <;> by_cases h4 : 0 ≤ c ∧ c ≤ 20 <;> by_cases h5 : 0 ≤ p ∧ p ≤ 3 <;> simp [h1, h2, h3, h4, h5]
 all_goals (first | (cases (c == 0) <;> cases (r == b) <;> rfl) | omega)
theorem specPortTail0 (k : Nat) (fl up has : Bool) (r c b p hops left role wait : Int) (op : Bool) : spec_PortOk.j0 (k + 1) fl up has r c b p hops left role wait op = some (!fl && tailOk up role wait op) := by
 simp only [spec_PortOk.j0, l1In_eq, Option.bind_some, tailOk, openBy]
 cases fl
 ·by_cases h1 : role = 1
  ·subst h1
   by_cases hw : 0 ≤ wait ∧ wait ≤ 4 <;> cases up <;> simp [hw]
  ·by_cases h2 : role = 2
   ·subst h2
    by_cases hw : 0 ≤ wait ∧ wait ≤ 4 <;> cases up <;> simp [hw]
   ·by_cases hr : 0 ≤ role ∧ role ≤ 3 <;> by_cases hw : 0 ≤ wait ∧ wait ≤ 4 <;> by_cases h0 : role = 0 <;> cases up <;> cases op <;> simp [h1, h2, hr, hw, h0]
 ·simp
theorem specPortTail1 (k : Nat) (fl up has : Bool) (r c b p hops left role wait : Int) (op : Bool) : spec_PortOk.j1 (k + 1) fl up has r c b p hops left role wait op = some (!fl && tailOk up role wait op) := by
 simp only [spec_PortOk.j1, l1In_eq, Option.bind_some, tailOk, openBy]
 cases fl
 ·by_cases h1 : role = 1
  ·subst h1
   by_cases hw : 0 ≤ wait ∧ wait ≤ 4 <;> cases up <;> simp [hw]
  ·by_cases h2 : role = 2
   ·subst h2
    by_cases hw : 0 ≤ wait ∧ wait ≤ 4 <;> cases up <;> simp [hw]
   ·by_cases hr : 0 ≤ role ∧ role ≤ 3 <;> by_cases hw : 0 ≤ wait ∧ wait ≤ 4 <;> by_cases h0 : role = 0 <;> cases up <;> cases op <;> simp [h1, h2, hr, hw, h0]
 ·simp
theorem specPortOk_ev (up has : Bool) (r c b p hops left role wait : Int) (op : Bool) : Ev (fun k => spec_PortOk.f k up has r c b p hops left role wait op) (portOk ⟨up, has, r, c, b, p, hops, left, role, wait, op⟩) := by
 refine ev_end fun k => ?_
 simp only [spec_PortOk.f, specVecOk_eq, l1In_eq, Option.bind_some, specPortTail0, specPortTail1, portOk, headOk]
 cases has
 ·by_cases r0 : r = 0 <;> by_cases c0 : c = 0 <;> by_cases b0 : b = 0 <;> by_cases p0 : p = 0 <;> by_cases h0 : hops = 0 <;> by_cases l0 : left = 0 <;> simp [r0, c0, b0, p0, h0, l0]
 ·cases up <;> cases vecOk r c b p <;> by_cases h0 : 0 ≤ hops ∧ hops ≤ 8 <;> by_cases l0 : 1 ≤ left ∧ left ≤ 3 <;> simp [h0, l0]
theorem l7Open_eq (up has : Bool) (r c b p hops left role wait : Int) (op : Bool) : spec_l7Open.f up has r c b p hops left role wait op = some (up, has, r, c, b, p, hops, left, role, wait, openBy role wait) := by
 simp only [spec_l7Open.f, openBy]
 by_cases h1 : role = 1 <;> by_cases h2 : role = 2 <;> simp [h1, h2]
theorem specTurn_ev (up has : Bool) (r c b p hops left role wait : Int) (op : Bool) (ro : Int) : Ev (fun k => spec_Turn.f k up has r c b p hops left role wait op ro) (turnM ⟨up, has, r, c, b, p, hops, left, role, wait, op⟩ ro).tup := by
 refine Ev.bind (specPortOk_ev up has r c b p hops left role wait op) ?_
 generalize hp : portOk ⟨up, has, r, c, b, p, hops, left, role, wait, op⟩ = po
 refine ⟨2, fun k hk => ?_⟩
 obtain ⟨j, rfl⟩ : ∃ j, k = j + 2 := ⟨k - 2, by omega⟩
 cases po
 ·simp [spec_Turn.j0, turnM, hp, Prt.tup]
 ·cases up
  ·simp [spec_Turn.j0, turnM, hp, Prt.tup]
  ·simp only [l1In_eq, Option.bind_some, if_true, spec_Turn.j0, spec_Turn.j1, l7Open_eq, turnM, hp, Prt.tup, Bool.true_and]
   by_cases hr : 1 ≤ ro ∧ ro ≤ 3
   ·by_cases e3 : ro = 3
    ·subst e3
     by_cases e : role = 3 <;> simp [e]
    ·by_cases e : role = 3 <;> simp [hr, e3, e]
   ·simp [hr]
theorem specBridgeOk_ev (id : Int) (l : List PB) (h : l.length ≤ 4194304) : Ev (fun k => spec_BridgeOk.f k id l) (bridgeOk id l) := by
 refine ev_list0 l (fun k i => spec_BridgeOk.l0 k i id l) (fun t => portsOk t && (decide (1 ≤ id ∧ id ≤ 9) && decide (1 ≤ l.length ∧ l.length ≤ 4)))
  (ev_end fun k => ?_)
  (fun i x t hi _ hx ih => ?_)
 ·simp only [spec_BridgeOk.l0]
  rw [if_neg (by omega)]
  simp only [l1In_eq, Option.bind_some, portsOk, Bool.true_and]
  by_cases a : 1 ≤ id ∧ id ≤ 9
  ·have e : decide (1 ≤ (l.length : Int) ∧ (l.length : Int) ≤ 4) = decide (1 ≤ l.length ∧ l.length ≤ 4) := by rw [decide_eq_decide]; omega
   simp only [a, and_self, decide_true, if_true, Bool.true_and, e]
  ·simp [a]
 ·refine Ev.step (f := fun k => (spec_PortOk.f k x.f0 x.f1 x.f2.f0 x.f2.f1 x.f2.f2 x.f2.f3 x.f3 x.f4 x.f5 x.f6 x.f7).bind fun t122 => (if t122 = true then (spec_BridgeOk.l0 k ((i + 1 : Nat) : Int) id l) else (some false))) (fun k => ?_) (Ev.bind (specPortOk_ev _ _ _ _ _ _ _ _ _ _ _) ?_)
  ·simp only [spec_BridgeOk.l0]
   rw [if_pos (by omega), if_pos (by omega), rdPB hx, w64_succ (by omega)]
  ·cases hp : portOk (pprt x) with
   | true =>
    have hp' := hp
    simp only [pprt] at hp'
    simp only [hp', if_true, portsOk, hp, Bool.true_and]
    exact ih
   | false =>
    have hp' := hp
    simp only [pprt] at hp'
    refine ev_some fun k => ?_
    simp [hp', portsOk, hp]
theorem specBetter_eq (a b c d a' b' c' d' : Int) : spec_Better.f a b c d a' b' c' d' = some (better a b c d a' b' c' d') := by
 simp only [spec_Better.f, better]
 by_cases h1 : a = a' <;> by_cases h2 : b = b' <;> by_cases h3 : c = c' <;> simp [h1, h2, h3] <;> omega
theorem specRootJ (id : Int) (l : List PB) (b : Int) (i : Nat) (x : PB) (hb : BestOk l b) (hi : i < l.length) (h : l.length ≤ 4194304) (r : Int × Bool)
  (hn : Ev (fun k => spec_RootPort.l0 k (stepR id l b i x) ((i + 1 : Nat) : Int) id l) r) :
  Ev (fun k => spec_RootPort.j2 k b (i : Int) (skipP id x) id l x.f0 x.f1 x.f2.f0 x.f2.f1 x.f2.f2 x.f2.f3 x.f3 x.f4 x.f5 x.f6 x.f7) r := by
 refine Ev.step (fun k => ?_) hn
 simp only [spec_RootPort.j2, stepR, w64_succ (show (i : Int) < 4611686018427387904 by omega)]
 cases skipP id x with
 | true => simp only [if_true]
 | false =>
  simp only [Bool.false_eq_true, if_false]
  rcases hb with rfl | ⟨h0, h1⟩
  ·simp only [if_pos (show (-1 : Int) < 0 by omega)]
  ·simp only [if_neg (show ¬ b < 0 by omega), if_pos h0, if_pos h1, specBetter_eq, Option.bind_some]
   split <;> rfl
theorem specRootPort_ev (id : Int) (l : List PB) (h : l.length ≤ 4194304) : Ev (fun k => spec_RootPort.f k id l) (if bridgeOk id l = true then (rootM id l (-1) l, decide (rootM id l (-1) l ≥ 0)) else (-1, false)) := by
 cases hok : bridgeOk id l with
 | false =>
  simp only [Bool.false_eq_true, if_false]
  have hj : Ev (fun k => spec_RootPort.j1 k (-1) 0 false id l) (-1, false) := ev_end fun k => by simp [spec_RootPort.j1]
  refine Ev.stepUp ?_
  simp only [spec_RootPort.f, spec_RootPort.l0]
  by_cases hl : (0 : Int) < (l.length : Int)
  ·simp only [if_pos hl]
   have hB := specBridgeOk_ev id l h
   rw [hok] at hB
   exact Ev.bind hB hj
  ·simp only [if_neg hl]
   exact hj
 | true =>
  simp only [if_true]
  refine ev_list l (fun k (b : Int) i => spec_RootPort.l0 k b i id l) (fun b t => (rootM id l b t, decide (rootM id l b t ≥ 0))) (fun _ b => BestOk l b)
   (fun b hb => ?_) (fun i b x t hb hi hd hx ih => ?_) (-1) (Or.inl rfl)
  ·refine Ev.stepUp ?_
   simp only [spec_RootPort.l0, if_neg (show ¬ (l.length : Int) < (l.length : Int) by omega)]
   exact ev_end fun k => by simp [spec_RootPort.j1, rootM]
  ·refine Ev.stepUp ?_
   simp only [spec_RootPort.l0, if_pos (show (i : Int) < (l.length : Int) by omega)]
   have hB := specBridgeOk_ev id l h
   rw [hok] at hB
   refine Ev.bind hB ?_
   have hn := ih _ (stepR_ok id l b i x hb hi)
   have e : rootM id l b (x :: t) = rootM id l (stepR id l b i x) t := by simp only [rootM, drop_at hd hi]
   rw [e]
   have hj := specRootJ id l b i x hb hi h _ hn
   refine Ev.step (fun k => ?_) hj
   simp only [spec_RootPort.j1, if_true, if_pos (show 0 ≤ (i : Int) by omega), if_pos (show (i : Int) < (l.length : Int) by omega), rdPB hx, skipP]
   cases x.f1 with
   | false => simp
   | true =>
    simp only [if_true, Bool.not_true, Bool.false_or]
    by_cases c1 : x.f2.f2 = id
    ·simp [c1]
    ·by_cases c2 : x.f2.f0 ≥ id
     ·simp [c1, c2]
     ·by_cases c3 : x.f2.f1 ≥ 20
      ·simp [c1, c2, c3]
      ·simp only [c1, c2, c3, if_false, decide_false, Bool.false_or]
theorem specOwn_ev (id : Int) (l : List PB) (p : Int) (h : l.length ≤ 4194304) : Ev (fun k => spec_Own.f k id l p) (ownX id l p) := by
 simp only [spec_Own.f]
 refine Ev.bind (specBridgeOk_ev id l h) ?_
 have jt : Ev (fun k => spec_Own.j0 k p true id l) (0, 0, 0, 0) := ev_end fun k => by simp [spec_Own.j0]
 unfold ownX
 cases hok : bridgeOk id l with
 | false => simp only [Bool.false_eq_true, if_false, false_and]; exact jt
 | true =>
  simp only [if_true, l1In_eq, Option.bind_some, true_and]
  rw [w64 (by omega) (by omega)]
  by_cases hp : 0 ≤ p ∧ p ≤ (l.length : Int) - 1
  ·simp only [hp, and_self, decide_true, Bool.not_true, if_true]
   refine Ev.stepUp ?_
   simp only [spec_Own.j0, Bool.false_eq_true, if_false]
   have hR := specRootPort_ev id l h
   rw [hok] at hR
   simp only [if_true] at hR
   refine Ev.bind hR ?_
   unfold ownM
   by_cases h0 : rootM id l (-1) l ≥ 0
   ·have h1 := root_lt id l h0
    simp only [h0, decide_true, if_true]
    simp only [if_pos (show 0 ≤ rootM id l (-1) l from h0), if_pos h1]
    exact ev_some fun _ => rfl
   ·simp only [h0, decide_false, Bool.false_eq_true, if_false]
    exact ev_some fun _ => rfl
  ·simp only [hp, decide_false, Bool.not_false, if_false]
   exact jt
theorem l8Copy_eq (id : Int) (l : List PB) (h : l.length ≤ 4194304) : spec_l8Copy.f id l = some (id, l) := by
 simp only [spec_l8Copy.f, Option.bind_some, List.length_nil, Nat.zero_add, List.nil_append]
 rw [if_pos (by omega)]
theorem ownX_in {id : Int} {l : List PB} (hok : bridgeOk id l = true) {i : Nat} (hi : i < l.length) : ownX id l i = ownM id l i := by
 unfold ownX
 rw [if_pos ⟨hok, by omega, by omega⟩]
theorem specDecide_ev (id : Int) (l : List PB) (h : l.length ≤ 4194304) : Ev (fun k => spec_Decide.f k id l) (id, if bridgeOk id l = true then decM id l else l) := by
 simp only [spec_Decide.f, l8Copy_eq id l h, Option.bind_some]
 refine Ev.bind (specBridgeOk_ev id l h) ?_
 have hR := specRootPort_ev id l h
 cases hok : bridgeOk id l with
 | false => simp only [Bool.false_eq_true, if_false]; exact ev_some fun _ => rfl
 | true =>
  rw [hok] at hR
  simp only [if_true] at hR ⊢
  refine Ev.bind hR ?_
  have hM := decM_length id l
  refine ev_list l (fun k (cur : List PB) i => spec_Decide.l0 k (rootM id l (-1) l) i id l id cur) (fun _ _ => (id, decM id l)) (fun i cur => cur = (decM id l).take i ++ l.drop i)
   (fun cur hc => ?_) (fun i cur x t hc hi hd hx ih => ?_) l (by simp)
  ·subst hc
   refine ev_end fun k => ?_
   simp only [spec_Decide.l0, if_neg (show ¬ (l.length : Int) < (l.length : Int) by omega)]
   rw [← hM, List.take_length, hM, List.drop_length, List.append_nil]
  ·subst hc
   have hln : ((decM id l).take i ++ l.drop i).length = l.length := turned_length hM (by omega)
   have hat := turned_at hM hx
   have hnx := turned_next hM (decM_get (id := id) hx)
   generalize (decM id l).take i ++ l.drop i = cur at hat hln hnx ⊢
   have hih := ih _ rfl
   have hrd := rdPB hx
   have hdn : x.f0 = false → Ev (fun k => spec_Decide.l0 k (rootM id l (-1) l) ((i + 1 : Nat) : Int) id l id cur) (id, decM id l) := by
    intro hu
    have e : decP id l i x = x := by simp [decP, hu]
    rw [e] at hnx
    have e2 : cur.set i x = cur := by
     apply List.ext_getElem?
     intro j
     by_cases hj : i = j
     ·subst hj
      rw [List.getElem?_set_self (by omega), hat]
     ·rw [List.getElem?_set_ne hj]
    rw [e2] at hnx
    rw [hnx]
    exact hih
   have jt : ∀ ro : Int, decP id l i x = ofP (turnM (pprt x) ro) → Ev (fun k => (spec_Turn.f k x.f0 x.f1 x.f2.f0 x.f2.f1 x.f2.f2 x.f2.f3 x.f3 x.f4 x.f5 x.f6 x.f7 ro).bind fun bt => spec_Decide.l0 k (rootM id l (-1) l) ((i + 1 : Nat) : Int) id l id (cur.set i (⟨bt.1, bt.2.1, ⟨bt.2.2.1, bt.2.2.2.1, bt.2.2.2.2.1, bt.2.2.2.2.2.1⟩, bt.2.2.2.2.2.2.1, bt.2.2.2.2.2.2.2.1, bt.2.2.2.2.2.2.2.2.1, bt.2.2.2.2.2.2.2.2.2.1, bt.2.2.2.2.2.2.2.2.2.2⟩ : PB))) (id, decM id l) := by
    intro ro hro
    refine Ev.bind (specTurn_ev _ _ _ _ _ _ _ _ _ _ _ _) ?_
    rw [hro] at hnx
    have e : (cur.set i (ofP (turnM (pprt x) ro))) = (decM id l).take (i + 1) ++ l.drop (i + 1) := hnx
    simp only [ofP, pprt] at e
    simp only [Prt.tup]
    rw [e]
    exact hih
   have hd1 : x.f0 = true → ∀ ro, roleM id l i x = ro → decP id l i x = ofP (turnM (pprt x) ro) := fun hu ro hro => by simp [decP, hu, hro]
   refine Ev.stepUp ?_
   simp only [spec_Decide.l0, if_pos (show (i : Int) < (l.length : Int) by omega), if_pos (show 0 ≤ (i : Int) by omega), hln, hrd, w64_succ (show (i : Int) < 4611686018427387904 by omega), Int.toNat_natCast]
   by_cases hr : (i : Int) = rootM id l (-1) l
   ·simp only [if_pos hr]
    cases hu : x.f0 with
    | false => simp only [Bool.false_eq_true, if_false]; exact hdn hu
    | true =>
     simp only [if_true]
     have := jt 1 (hd1 hu 1 (by simp [roleM, hr]))
     rw [hu] at this
     exact this
   ·simp only [if_neg hr]
    have j3 : ∀ (b : Bool), (x.f1 && better x.f2.f0 x.f2.f1 x.f2.f2 x.f2.f3 (ownM id l i).1 (ownM id l i).2.1 (ownM id l i).2.2.1 (ownM id l i).2.2.2) = b → Ev (fun k => spec_Decide.j1 k (rootM id l (-1) l) (i : Int) 2 b id l id cur x.f0 x.f1 x.f2.f0 x.f2.f1 x.f2.f2 x.f2.f3 x.f3 x.f4 x.f5 x.f6 x.f7) (id, decM id l) := by
     intro b hb
     refine Ev.stepUp ?_
     simp only [spec_Decide.j1, if_pos (show (i : Int) < (l.length : Int) by omega), if_pos (show 0 ≤ (i : Int) by omega), hln, w64_succ (show (i : Int) < 4611686018427387904 by omega), Int.toNat_natCast]
     cases hu : x.f0 with
     | false =>
      simp only [Bool.false_eq_true, if_false]
      split <;> exact hdn hu
     | true =>
      simp only [if_true]
      rw [hu] at jt
      cases b with
      | true =>
       simp only [if_true]
       exact jt 3 (hd1 hu 3 (by simp [roleM, hr, hb]))
      | false =>
       simp only [Bool.false_eq_true, if_false]
       exact jt 2 (hd1 hu 2 (by simp only [roleM, if_neg hr, hb]; rfl))
    cases hh : x.f1 with
    | false =>
     simp only [Bool.false_eq_true, if_false]
     have := j3 false (by simp [hh])
     rw [hh] at this
     exact this
    | true =>
     simp only [if_true]
     refine Ev.bind (specOwn_ev id l i h) ?_
     rw [ownX_in hok hi]
     simp only [specBetter_eq, Option.bind_some]
     have := j3 _ rfl
     rw [hh, Bool.true_and] at this
     exact this
theorem specClaim_ev (up has : Bool) (r c b p hops left role wait : Int) (op : Bool) (r' c' b' p' h' : Int) : Ev (fun k => spec_Claim.f k up has r c b p hops left role wait op r' c' b' p' h') (claimM ⟨up, has, r, c, b, p, hops, left, role, wait, op⟩ r' c' b' p' h').tup := by
 refine Ev.bind (specPortOk_ev up has r c b p hops left role wait op) ?_
 generalize hp : portOk ⟨up, has, r, c, b, p, hops, left, role, wait, op⟩ = po
 refine ev_end fun k => ?_
 simp only [spec_Claim.j0, specVecOk_eq, l1In_eq, specBetter_eq, Option.bind_some, claimM, hp, Prt.tup]
 cases po
 ·simp
 ·cases up
  ·simp
  ·cases vecOk r' c' b' p'
   ·simp
   ·by_cases hh : 0 ≤ h' ∧ h' ≤ 8
    ·cases has
     ·simp [hh]
     ·cases better r c b p r' c' b' p'
      ·simp [hh]
      ·by_cases e1 : b = b' <;> by_cases e2 : p = p' <;> simp [hh, e1, e2]
    ·simp [hh]
theorem specFade_ev (up has : Bool) (r c b p hops left role wait : Int) (op : Bool) : Ev (fun k => spec_Fade.f k up has r c b p hops left role wait op) (fadeM ⟨up, has, r, c, b, p, hops, left, role, wait, op⟩).tup := by
 refine Ev.bind (specPortOk_ev up has r c b p hops left role wait op) ?_
 generalize hp : portOk ⟨up, has, r, c, b, p, hops, left, role, wait, op⟩ = po
 refine ev_end fun k => ?_
 cases po
 ·simp [spec_Fade.j0, fadeM, hp, Prt.tup]
 ·cases has
  ·simp [spec_Fade.j0, fadeM, hp, Prt.tup]
  ·have := portOk_left _ hp rfl
   dsimp only at this
   simp only [spec_Fade.j0, fadeM, hp, Prt.tup]
   rw [w64 (by omega) (by omega)]
   by_cases e : left - 1 = 0 <;> simp [e]
theorem specInOk_eq (k p r c b q h : Int) (u : Bool) : spec_InOk.f k p r c b q h u = some (inOk k p r c b q h u) := by
 simp only [spec_InOk.f, l1In_eq, specVecOk_eq, Option.bind_some, inOk]
 by_cases h1 : k = 1
 ·simp only [h1, if_true]
  by_cases a1 : 0 ≤ p ∧ p ≤ 3 <;> by_cases a3 : 0 ≤ h ∧ h ≤ 8 <;> cases vecOk r c b q <;> simp [a1, a3]
 ·by_cases h3 : k = 3
  ·by_cases a1 : 0 ≤ p <;> by_cases a2 : p ≤ 3 <;> by_cases r0 : r = 0 <;> by_cases c0 : c = 0 <;> by_cases b0 : b = 0 <;> by_cases q0 : q = 0 <;> by_cases hh : h = 0 <;> simp_all
   all_goals (first | (split <;> simp <;> omega) | omega)
  ·by_cases h2 : k = 2
   ·by_cases p0 : p = 0 <;> by_cases r0 : r = 0 <;> by_cases c0 : c = 0 <;> by_cases b0 : b = 0 <;> by_cases q0 : q = 0 <;> by_cases hh : h = 0 <;> cases u <;> simp_all
   ·simp [h1, h2, h3]
theorem specHops_ev (id : Int) (l : List PB) (h : l.length ≤ 4194304) : Ev (fun k => spec_Hops.f k id l) (if bridgeOk id l = true then hopsM id l else 0) := by
 simp only [spec_Hops.f]
 refine Ev.bind (specRootPort_ev id l h) ?_
 cases bridgeOk id l with
 | false => simp only [Bool.false_eq_true, if_false]; exact ev_some fun _ => rfl
 | true =>
  simp only [if_true]
  unfold hopsM
  by_cases h0 : rootM id l (-1) l ≥ 0
  ·simp only [h0, decide_true, if_true]
   have h1 := root_lt id l h0
   simp only [if_pos (show 0 ≤ rootM id l (-1) l from h0), if_pos h1]
   exact ev_some fun _ => rfl
  ·simp only [h0, decide_false, Bool.false_eq_true, if_false]
   exact ev_some fun _ => rfl
theorem and_range (x : Int) (m : Nat) (hm : m < 2 ^ 62) : 0 ≤ Go.bits .and .i64 x (m : Int) ∧ Go.bits .and .i64 x (m : Int) ≤ m := by
 have e : Go.bits .and .i64 x (m : Int) = IntKind.i64.wrap (((BitVec.ofInt 64 x) &&& (BitVec.ofInt 64 (m : Int))).toNat : Int) := rfl
 have h1 : ((BitVec.ofInt 64 x) &&& (BitVec.ofInt 64 (m : Int))).toNat ≤ m := by
  rw [BitVec.toNat_and, BitVec.ofInt_natCast, BitVec.toNat_ofNat, Nat.mod_eq_of_lt (by omega)]
  exact Nat.and_le_right
 rw [e, IntKind.wrap_i64]
 omega
theorem and_255_range (x : Int) : 0 ≤ Go.bits .and .i64 x 255 ∧ Go.bits .and .i64 x 255 ≤ 255 := and_range x 255 (by decide)
def CurOk (b : List Int) (i : Int) : Prop := 0 ≤ i ∧ i ≤ b.length ∧ b.length ≤ 4194304
def EvP {α : Type} (g : Nat → Option α) (P : α → Prop) : Prop := ∃ r, Ev g r ∧ P r
theorem EvP.bind {α β : Type} {c : Nat → Option α} {f : Nat → α → Option β} {Q : α → Prop} {P : β → Prop} (h : EvP c Q) (hf : ∀ a, Q a → EvP (fun k => f k a) P) : EvP (fun k => (c k).bind (f k)) P := by
 obtain ⟨a, ha, hq⟩ := h
 obtain ⟨r, hr, hp⟩ := hf a hq
 exact ⟨r, Ev.bind ha hr, hp⟩
theorem EvP.now {α : Type} {P : α → Prop} (r : α) (h : P r) : EvP (fun _ => some r) P := ⟨r, Ev.now r, h⟩
theorem EvP.of {α : Type} {g : Nat → Option α} {P : α → Prop} {r : α} (h : Ev g r) (hp : P r) : EvP g P := ⟨r, h, hp⟩
theorem EvP.imp {α : Type} {g : Nat → Option α} {P Q : α → Prop} (h : EvP g P) (hi : ∀ r, P r → Q r) : EvP g Q := by
 obtain ⟨r, hr, hp⟩ := h
 exact ⟨r, hr, hi r hp⟩
theorem Ev.succ {α : Type} {g : Nat → Option α} {r : α} (h : Ev (fun k => g (k + 1)) r) : Ev g r := Ev.step (fun _ => rfl) h
theorem EvP.succ {α : Type} {g : Nat → Option α} {P : α → Prop} (h : EvP (fun k => g (k + 1)) P) : EvP g P := by
 obtain ⟨r, hr, hp⟩ := h
 exact ⟨r, Ev.succ hr, hp⟩
theorem specTick_ev (q : Prt) : Ev (fun k => spec_l8Tick.f k q.up q.has q.r q.c q.b q.p q.hops q.left q.role q.wait q.op) (tickM q).tup := by
 simp only [spec_l8Tick.f]
 refine Ev.bind (specFade_ev _ _ _ _ _ _ _ _ _ _ _) ?_
 show Ev _ (tickM q).tup
 unfold tickM
 generalize fadeM q = f
 obtain ⟨f0, f1, f2, f3, f4, f5, f6, f7, f8, f9, f10⟩ := f
 have j1 : ∀ w : Int, Ev (fun k => spec_l8Tick.j1 k f0 f1 f2 f3 f4 f5 f6 f7 f8 w f10) (f0, f1, f2, f3, f4, f5, f6, f7, f8, w, openBy f8 w) := fun w => ev_end fun k => by
  simp only [spec_l8Tick.j1, l7Open_eq, Option.bind_some]
 have j0 : ∀ (w : Int) (b : Bool), Ev (fun k => spec_l8Tick.j0 k b f0 f1 f2 f3 f4 f5 f6 f7 f8 w f10) (if b = true then (f0, f1, f2, f3, f4, f5, f6, f7, f8, wrap64 (w - 1), openBy f8 (wrap64 (w - 1))) else (f0, f1, f2, f3, f4, f5, f6, f7, f8, w, openBy f8 w)) := by
  intro w b
  refine Ev.stepUp ?_
  simp only [spec_l8Tick.j0]
  cases b
  ·simp only [Bool.false_eq_true, if_false]; exact j1 w
  ·simp only [if_true]; exact j1 _
 simp only [Prt.tup]
 by_cases h1 : f8 = 1
 ·subst h1
  have := j0 f9 (decide (f9 > 0))
  by_cases h9 : f9 > 0 <;> simp [h9] at this ⊢ <;> exact this
 ·by_cases h2 : f8 = 2
  ·subst h2
   have := j0 f9 (decide (f9 > 0))
   by_cases h9 : f9 > 0 <;> simp [h9] at this ⊢ <;> exact this
  ·have := j0 f9 false
   simp [h1, h2] at this ⊢
   exact this
theorem specIn_ev (id : Int) (l : List PB) (kind port r c b p h : Int) (up : Bool) (hok : bridgeOk id l = true) (hx : inOk kind port r c b p h up = true) (hp : port < (l.length : Int)) : Ev (fun k => spec_l8In.f k id l kind port r c b p h up) (id, inM id l kind port r c b p h up) := by
 obtain ⟨hk, h0⟩ := inOk_kind hx
 have hln := bridgeOk_len hok
 have hd : ∀ m : List PB, bridgeOk id m = true → Ev (fun k => spec_l8In.j1 k id m) (id, decM id m) := by
  intro m hm
  refine Ev.stepUp ?_
  simp only [spec_l8In.j1]
  have := specDecide_ev id m (by have := bridgeOk_len hm; omega)
  rw [hm] at this
  exact Ev.bind this (ev_some fun _ => rfl)
 have hxl : l[port.toNat]? = some l[port.toNat] := List.getElem?_eq_getElem (by omega)
 have e : ((port.toNat : Nat) : Int) = port := by omega
 have hr := rdPB hxl
 rw [e] at hr
 have hpt := bridgeOk_ports hok hxl
 simp only [spec_l8In.f, if_pos h0, if_pos hp, hr]
 unfold inM
 rw [hr]
 by_cases k1 : kind = 1
 ·simp only [if_pos k1]
  refine Ev.bind (specClaim_ev _ _ _ _ _ _ _ _ _ _ _ _ _ _ _ _) ?_
  exact hd _ (bridgeOk_set hok (x := ofP (claimM (pprt l[port.toNat]) r c b p h)) (claimM_ok' _ _ _ _ _ _ hpt))
 simp only [if_neg k1]
 by_cases k2 : kind = 2
 ·simp only [if_pos k2]
  have hM : (l.map tickP).length = l.length := by simp
  refine ev_list l (fun k (cur : List PB) i => spec_l8In.l0 k i id cur) (fun _ _ => (id, decM id (l.map tickP))) (fun i cur => cur = (l.map tickP).take i ++ l.drop i)
   (fun cur hc => ?_) (fun i cur x t hc hi hdr hxi ih => ?_) l (by simp)
  ·subst hc
   refine Ev.stepUp ?_
   rw [← hM, List.take_length, hM, List.drop_length, List.append_nil]
   simp only [spec_l8In.l0, hM, if_neg (show ¬ (l.length : Int) < (l.length : Int) by omega)]
   exact hd _ (bridgeOk_map hok fun x hx => by rw [tickP, pprt_ofP]; exact tickM_ok _ hx)
  ·subst hc
   have hln2 := turned_length hM (Nat.le_of_lt hi)
   have hat := turned_at hM hxi
   have hnx := turned_next hM (show (l.map tickP)[i]? = some (tickP x) by simp [hxi])
   generalize (l.map tickP).take i ++ l.drop i = cur at hat hln2 hnx ⊢
   have hih := ih _ rfl
   refine Ev.stepUp ?_
   simp only [spec_l8In.l0, hln2, if_pos (show (i : Int) < (l.length : Int) by omega), if_pos (show 0 ≤ (i : Int) by omega), rdPB hat, w64_succ (show (i : Int) < 4611686018427387904 by omega), Int.toNat_natCast]
   refine Ev.bind (specTick_ev (pprt x)) ?_
   rw [← hnx] at hih
   exact hih
 simp only [if_neg k2]
 have k3 : kind = 3 := by omega
 simp only [if_pos k3]
 by_cases hu : l[port.toNat].f0 = up
 ·simp only [hu, beq_self_eq_true, if_true]
  exact ev_some fun _ => rfl
 ·have hb : (l[port.toNat].f0 == up) = false := by simpa using hu
  simp only [hb, Bool.false_eq_true, if_false, if_neg hu, Option.bind_some]
  have hl := hd _ (bridgeOk_set (i := port.toNat) hok (linkP_ok up))
  cases up with
  | false =>
   simp only [Bool.false_eq_true, if_false]
   exact hl
  | true =>
   simp only [if_true, List.set_set]
   exact hl
theorem gateAcc_length (old : List PB) : ∀ (t : List PB) (acc : List OB) (i : Nat), (gateAcc old acc i t).length ≤ acc.length + t.length := by
 intro t
 induction t with
 | nil => intro acc i; simp [gateAcc]
 | cons x t ih =>
  intro acc i
  simp only [gateAcc, List.length_cons]
  refine Nat.le_trans (ih _ _) ?_
  split <;> simp <;> omega
theorem specReact_ev (id : Int) (l : List PB) (kind port r c b p h : Int) (up : Bool) (hl : l.length ≤ 4194304) : Ev (fun k => spec_React.f k id l kind port r c b p h up) (reactM id l kind port r c b p h up) := by
 simp only [spec_React.f, Option.bind_some, specInOk_eq]
 refine Ev.bind (specBridgeOk_ev id l hl) ?_
 have jno : reactOk id l kind port r c b p h up = false → Ev (fun k => spec_React.j0 k [] true id l kind port r c b p h up) (reactM id l kind port r c b p h up) := by
  intro hno
  unfold reactM
  rw [hno]
  refine ev_end fun k => ?_
  simp only [spec_React.j0, if_true, l8Copy_eq id l hl, Option.bind_some, Bool.false_eq_true, if_false]
 cases hok : bridgeOk id l with
 | false =>
  simp only [Bool.false_eq_true, if_false]
  exact jno (by simp [reactOk, hok])
 | true =>
 simp only [if_true]
 cases hx : inOk kind port r c b p h up with
 | false =>
  simp only [Bool.false_eq_true, if_false]
  exact jno (by simp [reactOk, hx])
 | true =>
 simp only [if_true]
 by_cases hp : port ≥ (l.length : Int)
 ·simp only [hp, decide_true]
  exact jno (by simp [reactOk, hp])
 simp only [hp, decide_false]
 have hp' : port < (l.length : Int) := by omega
 have hR : reactOk id l kind port r c b p h up = true := by simp [reactOk, hok, hx, hp']
 obtain ⟨hk, h0⟩ := inOk_kind hx
 have hln := bridgeOk_len hok
 unfold reactM
 simp only [if_pos hR]
 refine Ev.stepUp ?_
 simp only [spec_React.j0, Bool.false_eq_true, if_false, l8Copy_eq id l hl, Option.bind_some]
 refine Ev.bind (specIn_ev id l kind port r c b p h up hok hx hp') ?_
 have hiok := inM_ok hok kind port r c b p h up h0 hp'
 have hil := inM_length id l kind port r c b p h up
 generalize inM id l kind port r c b p h up = m at hiok hil ⊢
 dsimp only
 obtain ⟨fin, hfin⟩ : ∃ fin : List OB → List OB, fin = fun g => if kind = 2 then sayAcc id m g 0 m else g := ⟨_, rfl⟩
 have l1 : ∀ acc : List OB, acc.length ≤ l.length → Ev (fun k => spec_React.l1 k acc 0 kind port r c b p h up id m) (id, m, fin acc) := by
  intro acc hacc
  subst hfin
  by_cases k2 : kind = 2
  ·simp only [if_pos k2]
   rw [← Nat.sub_self m.length]
   refine ev_list m (fun k (a : List OB) i => spec_React.l1 k a i kind port r c b p h up id m) (fun a t => (id, m, sayAcc id m a (m.length - t.length) t)) (fun i a => a.length ≤ l.length + i)
    (fun a ha => ?_) (fun i a x t ha hi hd hxi ih => ?_) acc (by omega)
   ·refine Ev.stepUp ?_
    simp only [spec_React.l1, if_neg (show ¬ (m.length : Int) < (m.length : Int) by omega)]
    exact ev_end fun k => by simp [spec_React.j3, sayAcc]
   ·have e1 : m.length - (x :: t).length = i := drop_at hd hi
    have e2 : m.length - t.length = i + 1 := by
     have := congrArg List.length hd
     simp at this
     omega
    simp only [e1, sayAcc]
    refine Ev.stepUp ?_
    simp only [spec_React.l1, if_pos (show (i : Int) < (m.length : Int) by omega)]
    refine Ev.stepUp ?_
    simp only [spec_React.j3, k2, beq_self_eq_true, if_true, if_pos (show (i : Int) < (m.length : Int) by omega), if_pos (show 0 ≤ (i : Int) by omega), rdPB hxi]
    by_cases h5 : x.f5 = 2
    ·simp only [if_pos h5]
     refine Ev.bind (specOwn_ev id m i (by omega)) ?_
     have hh := specHops_ev id m (by omega)
     rw [hiok] at hh
     refine Ev.bind hh ?_
     simp only [if_pos (show a.length < 2199023255552 by omega), w64_succ (show (i : Int) < 4611686018427387904 by omega), ownX_in hiok hi]
     have := ih (a ++ [(⟨1, (i : Int), ⟨(ownM id m i).1, (ownM id m i).2.1, (ownM id m i).2.2.1, (ownM id m i).2.2.2⟩, hopsM id m, false⟩ : OB)]) (by simp; omega)
     rw [e2, k2] at this
     exact this
    ·simp only [if_neg h5, w64_succ (show (i : Int) < 4611686018427387904 by omega)]
     have := ih a (by omega)
     rw [e2, k2] at this
     exact this
  ·simp only [if_neg k2]
   refine Ev.stepUp ?_
   have hk2 : (kind == 2) = false := by simpa using k2
   simp only [spec_React.l1, if_pos (show (0 : Int) < (m.length : Int) by omega), hk2]
   exact ev_end fun k => by simp [spec_React.j3]
 have efin : outsM id l m kind = fin (gateAcc l [] 0 m) := by subst hfin; rfl
 rw [efin]
 clear hfin efin
 rw [← Nat.sub_self m.length]
 refine ev_list m (fun k (a : List OB) i => spec_React.l0 k a i id l kind port r c b p h up id m) (fun a t => (id, m, fin (gateAcc l a (m.length - t.length) t))) (fun i a => a.length ≤ i)
  (fun a ha => ?_) (fun i a x t ha hi hd hxi ih => ?_) [] (by simp)
 ·refine Ev.stepUp ?_
  simp only [spec_React.l0, hil, if_neg (show ¬ (l.length : Int) < (l.length : Int) by omega)]
  exact l1 a (by omega)
 ·have e1 : m.length - (x :: t).length = i := drop_at hd hi
  have e2 : m.length - t.length = i + 1 := by
   have := congrArg List.length hd
   simp at this
   omega
  simp only [e1, gateAcc]
  refine Ev.stepUp ?_
  simp only [spec_React.l0, if_pos (show (i : Int) < (l.length : Int) by omega), if_pos (show (i : Int) < (m.length : Int) by omega), if_pos (show 0 ≤ (i : Int) by omega), rdPB hxi]
  cases h7 : (x.f7 != (rd_T79 l (i : Int)).f7) with
  | true =>
   simp only [if_true, if_pos (show a.length < 2199023255552 by omega), w64_succ (show (i : Int) < 4611686018427387904 by omega)]
   have := ih (a ++ [(⟨2, (i : Int), ⟨0, 0, 0, 0⟩, 0, x.f7⟩ : OB)]) (by simp; omega)
   rw [e2] at this
   exact this
  | false =>
   simp only [Bool.false_eq_true, if_false, w64_succ (show (i : Int) < 4611686018427387904 by omega)]
   have := ih a (by omega)
   rw [e2] at this
   exact this
def zport : PB := ⟨false, false, ⟨0, 0, 0, 0⟩, 0, 0, 0, 0, false⟩
def bridgeNewM (id n : Int) : Int × List PB × Bool := if 1 ≤ id ∧ id ≤ 9 ∧ 1 ≤ n ∧ n ≤ 4 then (id, List.replicate n.toNat zport, true) else (0, [], false)
theorem bridgeNewM_length (id n : Int) : (bridgeNewM id n).2.1.length ≤ 4 := by
 unfold bridgeNewM
 split <;> simp
 omega
theorem zports_ok (n : Nat) : portsOk (List.replicate n zport) = true := by
 rw [portsOk_iff]
 intro x hx
 rw [List.eq_of_mem_replicate hx]
 decide
theorem l1Min_eq (a b : Int) : spec_l1Min.f a b = some (min a b) := by
 simp only [spec_l1Min.f]
 split <;> congr 1 <;> omega
theorem specBridgeNew_ev (id n : Int) : Ev (fun k => spec_BridgeNew.f k id n) (bridgeNewM id n) := by
 have key : ∀ (d i : Nat), i + d = (min n 5).toNat → Ev (fun k => spec_BridgeNew.l0 k n (i : Int) id (List.replicate i zport)) (bridgeNewM id n) := by
  intro d
  induction d with
  | zero =>
   intro i hi
   refine Ev.step (f := fun k => (spec_BridgeOk.f k id (List.replicate i zport)).bind fun t140 => (if t140 = true then (some (id, List.replicate i zport, true)) else (some (0, [], false)))) (fun k => ?_) (Ev.bind (specBridgeOk_ev id _ (by simp; omega)) (ev_some fun k => ?_))
   ·simp only [spec_BridgeNew.l0, l1Min_eq, Option.bind_some]
    rw [if_neg (by omega)]
   ·have hz := zports_ok i
    simp only [bridgeOk, hz, Bool.true_and, List.length_replicate, bridgeNewM]
    by_cases a : 1 ≤ id ∧ id ≤ 9
    ·by_cases b : 1 ≤ n ∧ n ≤ 4
     ·have e : i = n.toNat := by omega
      have e1 : 1 ≤ i ∧ i ≤ 4 := by omega
      simp [a, b, e1, ← e]
     ·have e1 : ¬ (1 ≤ i ∧ i ≤ 4) := by omega
      have e2 : ¬ (1 ≤ id ∧ id ≤ 9 ∧ 1 ≤ n ∧ n ≤ 4) := by omega
      simp [e1, e2]
    ·have e2 : ¬ (1 ≤ id ∧ id ≤ 9 ∧ 1 ≤ n ∧ n ≤ 4) := by omega
     simp [a, e2]
  | succ d ih =>
   intro i hi
   refine Ev.step (fun k => ?_) (ih (i + 1) (by omega))
   simp only [spec_BridgeNew.l0, l1Min_eq, Option.bind_some]
   rw [if_pos (by omega), if_pos (by simp; omega), w64_succ (by omega), List.replicate_succ']
   rfl
 have := key (min n 5).toNat 0 (by omega)
 simpa [spec_BridgeNew.f] using this
theorem l1Byte_some (b : List Int) (i q : Int) (h : CurOk b i) : ∃ r i' q', spec_l1Byte.f b i q = some (r, i', q') ∧ CurOk b i' ∧ 0 ≤ r ∧ r ≤ 255 := by
 obtain ⟨h0, h1, h2⟩ := h
 simp only [spec_l1Byte.f]
 by_cases hi : i < (b.length : Int)
 ·rw [if_pos hi, if_pos h0]
  refine ⟨_, _, _, rfl, ⟨?_, ?_, h2⟩, (and_255_range _).1, (and_255_range _).2⟩ <;> rw [w64 (by omega) (by omega)] <;> omega
 ·rw [if_neg hi]
  exact ⟨_, _, _, rfl, ⟨h0, h1, h2⟩, (and_255_range _).1, (and_255_range _).2⟩
theorem l1Below_some (b : List Int) (i q n : Int) (h : CurOk b i) : ∃ r i' q', spec_l1Below.f b i q n = some (r, i', q') ∧ CurOk b i' ∧ 0 ≤ r ∧ (0 < n → r < n) := by
 simp only [spec_l1Below.f]
 by_cases h0 : n ≤ 0
 ·rw [if_pos h0]
  exact ⟨_, _, _, rfl, h, by omega, by omega⟩
 ·rw [if_neg h0]
  obtain ⟨r1, i1, q1, e1, c1, a1, b1⟩ := l1Byte_some b i q h
  by_cases h2 : n ≤ 256
  ·rw [if_pos h2, e1]
   simp only [Option.bind_some]
   rw [if_neg (by omega), Int.tmod_eq_emod_of_nonneg a1]
   exact ⟨_, _, _, rfl, c1, Int.emod_nonneg _ (by omega), fun _ => Int.emod_lt_of_pos _ (by omega)⟩
  ·obtain ⟨r2, i2, q2, e2, c2, a2, b2⟩ := l1Byte_some b i1 q1 c1
   obtain ⟨r3, i3, q3, e3, c3, a3, b3⟩ := l1Byte_some b i2 q2 c2
   obtain ⟨r4, i4, q4, e4, c4, a4, b4⟩ := l1Byte_some b i3 q3 c3
   rw [if_neg h2, e1]
   simp only [Option.bind_some, e2, e3, e4]
   rw [if_neg (by omega), w64 (x := r1 * 16777216) (by omega) (by omega), w64 (x := r2 * 65536) (by omega) (by omega), w64 (x := r3 * 256) (by omega) (by omega), w64 (x := r1 * 16777216 + r2 * 65536) (by omega) (by omega), w64 (x := r1 * 16777216 + r2 * 65536 + r3 * 256) (by omega) (by omega), w64 (by omega) (by omega), Int.tmod_eq_emod_of_nonneg (by omega)]
   exact ⟨_, _, _, rfl, c4, Int.emod_nonneg _ (by omega), fun _ => Int.emod_lt_of_pos _ (by omega)⟩
theorem l1Below_evp (b : List Int) (i q n : Int) (h : CurOk b i) : EvP (fun _ => spec_l1Below.f b i q n) (fun r => CurOk b r.2.1 ∧ 0 ≤ r.1 ∧ (0 < n → r.1 < n)) := by
 obtain ⟨r, i', q', e, c, h0, h1⟩ := l1Below_some b i q n h
 exact ⟨(r, i', q'), ev_some fun _ => e, c, h0, h1⟩
theorem l1PickInt_some (b : List Int) (i q : Int) (l : List Int) (h : CurOk b i) (hl : 0 < l.length) : ∃ r i' q', spec_l1PickInt.f b i q l = some (r, i', q') ∧ CurOk b i' ∧ r ∈ l := by
 obtain ⟨r, i', q', e, c, h0, h1⟩ := l1Below_some b i q l.length h
 have h1 := h1 (by omega)
 obtain ⟨n, rfl⟩ := Int.eq_ofNat_of_zero_le h0
 refine ⟨l[n]'(by omega), i', q', ?_, c, List.getElem_mem _⟩
 simp only [spec_l1PickInt.f, e, Option.bind_some]
 rw [if_pos h0, if_pos h1, rd_at (List.getElem?_eq_getElem (by omega))]
theorem l1PickInt_evp (b : List Int) (i q : Int) (l : List Int) (h : CurOk b i) (hl : 0 < l.length) : EvP (fun _ => spec_l1PickInt.f b i q l) (fun r => CurOk b r.2.1 ∧ r.1 ∈ l) := by
 obtain ⟨r, i', q', e, c, hm⟩ := l1PickInt_some b i q l h hl
 exact ⟨(r, i', q'), ev_some fun _ => e, c, hm⟩
def Small (x : Int) : Prop := -100 ≤ x ∧ x ≤ 100
theorem l6DrawRight_some (b : List Int) (i q : Int) (h : CurOk b i) : ∃ v0 v1 v2 v3 i' q', spec_l6DrawRight.f b i q = some (v0, v1, v2, v3, i', q') ∧ CurOk b i' ∧ Small v0 ∧ Small v1 ∧ Small v2 ∧ Small v3 := by
 obtain ⟨r1, i1, q1, e1, c1, a1, b1⟩ := l1Below_some b i q 4 h
 obtain ⟨r2, i2, q2, e2, c2, a2, b2⟩ := l1Below_some b i1 q1 4 c1
 obtain ⟨r3, i3, q3, e3, c3, a3, b3⟩ := l1Below_some b i2 q2 3 c2
 obtain ⟨r4, i4, q4, e4, c4, a4, b4⟩ := l1Below_some b i3 q3 3 c3
 have b1 := b1 (by omega)
 have b2 := b2 (by omega)
 have b3 := b3 (by omega)
 have b4 := b4 (by omega)
 simp only [spec_l6DrawRight.f, e1, e2, e3, e4, Option.bind_some]
 rw [w64 (x := 1 + r1) (by omega) (by omega), w64 (x := 1 + r1 + r3) (by omega) (by omega), w64 (x := 1 + r4) (by omega) (by omega)]
 split
 ·exact ⟨_, _, _, _, _, _, rfl, c4, ⟨by omega, by omega⟩, ⟨by omega, by omega⟩, ⟨by omega, by omega⟩, ⟨by omega, by omega⟩⟩
 ·exact ⟨_, _, _, _, _, _, rfl, c3, ⟨by omega, by omega⟩, ⟨by omega, by omega⟩, ⟨by omega, by omega⟩, ⟨by omega, by omega⟩⟩
theorem small_mem {x : Int} {l : List Int} (h : x ∈ l) (hl : (l.all fun y => decide (-100 ≤ y ∧ y ≤ 100)) = true) : Small x := by
 have := List.all_eq_true.1 hl x h
 show -100 ≤ x ∧ x ≤ 100
 exact of_decide_eq_true (show decide (-100 ≤ x ∧ x ≤ 100) = true from this)
theorem l6Draw_some (b : List Int) (i q : Int) (h : CurOk b i) : ∃ v0 v1 v2 v3 i' q', spec_l6Draw.f b i q = some (v0, v1, v2, v3, i', q') ∧ CurOk b i' ∧ Small v0 ∧ Small v1 ∧ Small v2 ∧ Small v3 := by
 obtain ⟨v0, v1, v2, v3, i1, q1, e1, c1, s0, s1, s2, s3⟩ := l6DrawRight_some b i q h
 obtain ⟨r, i2, q2, e2, c2, a2, b2⟩ := l1Below_some b i1 q1 10 c1
 obtain ⟨x0, j0, p0, f0, d0, m0⟩ := l1PickInt_some b i2 q2 [0, 9, 10] c2 (by simp)
 obtain ⟨x1, j1, p1, f1, d1, m1⟩ := l1PickInt_some b i2 q2 [-1, 0, 20, 21] c2 (by simp)
 obtain ⟨x3, j3, p3, f3, d3, m3⟩ := l1PickInt_some b i2 q2 [-1, 3, 4] c2 (by simp)
 have n0 : Small x0 := small_mem m0 (by decide)
 have n1 : Small x1 := small_mem m1 (by decide)
 have n3 : Small x3 := small_mem m3 (by decide)
 simp only [spec_l6Draw.f, e1, e2, f0, f1, f3, Option.bind_some]
 split
 ·exact ⟨_, _, _, _, _, _, rfl, d0, n0, s1, s2, s3⟩
 split
 ·exact ⟨_, _, _, _, _, _, rfl, d1, s0, n1, s2, s3⟩
 split
 ·exact ⟨_, _, _, _, _, _, rfl, d0, s0, s1, n0, s3⟩
 split
 ·exact ⟨_, _, _, _, _, _, rfl, d3, s0, s1, s2, n3⟩
 ·exact ⟨_, _, _, _, _, _, rfl, c2, s0, s1, s2, s3⟩
theorem Small.in64 {x : Int} (h : Small x) : -9223372036854775808 ≤ x ∧ x ≤ 9223372036854775807 := ⟨by have := h.1; omega, by have := h.2; omega⟩
theorem l1Once_some (b : List Int) (i q n : Int) (h : CurOk b i) : ∃ r i' q', spec_l1Once.f b i q n = some (r, i', q') ∧ CurOk b i' := by
 obtain ⟨r, i', q', e, c, _⟩ := l1Below_some b i q n h
 exact ⟨r == 0, i', q', by simp [spec_l1Once.f, e], c⟩
theorem l1Once_evp (b : List Int) (i q n : Int) (h : CurOk b i) : EvP (fun _ => spec_l1Once.f b i q n) (fun r => CurOk b r.2.1) := by
 obtain ⟨r, i', q', e, c⟩ := l1Once_some b i q n h
 exact ⟨(r, i', q'), ev_some fun _ => e, c⟩
theorem l6DrawRight_evp (b : List Int) (i q : Int) (h : CurOk b i) : EvP (fun _ => spec_l6DrawRight.f b i q) (fun r => CurOk b r.2.2.2.2.1) := by
 obtain ⟨v0, v1, v2, v3, i1, q1, e1, c1, _⟩ := l6DrawRight_some b i q h
 exact ⟨_, ev_some fun _ => e1, c1⟩
theorem l6Draw_evp (b : List Int) (i q : Int) (h : CurOk b i) : EvP (fun _ => spec_l6Draw.f b i q) (fun r => CurOk b r.2.2.2.2.1) := by
 obtain ⟨v0, v1, v2, v3, i1, q1, e1, c1, _⟩ := l6Draw_some b i q h
 exact ⟨_, ev_some fun _ => e1, c1⟩
theorem EvP.told {α : Type} {g : Nat → Option α} {r : α} (h : Ev g r) : EvP g (fun _ => True) := ⟨r, h, trivial⟩
theorem l7Open_evp (up has : Bool) (r c b p hops left role wait : Int) (op : Bool) : EvP (fun _ => spec_l7Open.f up has r c b p hops left role wait op) (fun _ => True) := EvP.told (ev_some fun _ => l7Open_eq up has r c b p hops left role wait op)
def CurP (b : List Int) (r : Bool × Bool × Int × Int × Int × Int × Int × Int × Int × Int × Bool × Int × Int) : Prop := CurOk b r.2.2.2.2.2.2.2.2.2.2.2.1
theorem l7DrawJ_evp (b : List Int) (i q : Int) (h : CurOk b i) (x0 x1 : Bool) (x2 x3 x4 x5 x6 x7 x8 x9 : Int) (x10 : Bool) : EvP (fun k => spec_l7DrawRight.j0 k b i q x0 x1 x2 x3 x4 x5 x6 x7 x8 x9 x10) (CurP b) := by
 refine EvP.succ ?_
 simp only [spec_l7DrawRight.j0]
 refine EvP.bind (l7Open_evp _ _ _ _ _ _ _ _ _ _ _) (fun r9 _ => ?_)
 refine EvP.bind (l1Below_evp b _ _ 3 h) (fun r10 h10 => ?_)
 refine EvP.bind (EvP.told (specTurn_ev _ _ _ _ _ _ _ _ _ _ _ _)) (fun r11 _ => ?_)
 exact EvP.now _ h10.1
theorem l7DrawRight_evp (b : List Int) (i q : Int) (h : CurOk b i) : EvP (fun k => spec_l7DrawRight.f k b i q) (CurP b) := by
 simp only [spec_l7DrawRight.f]
 refine EvP.bind (l1Once_evp b i q 5 h) (fun r0 h0 => ?_)
 by_cases e0 : r0.1 = true
 ·simp only [if_pos e0]
  exact EvP.now _ h0
 simp only [if_neg e0]
 refine EvP.bind (l1PickInt_evp b _ _ _ h0 (by simp)) (fun r1 h1 => ?_)
 refine EvP.bind (l1Once_evp b _ _ 3 h1.1) (fun r2 h2 => ?_)
 by_cases e1 : r2.1 = true
 ·simp only [if_pos e1]
  exact l7DrawJ_evp b _ _ h2 _ _ _ _ _ _ _ _ _ _ _
 simp only [if_neg e1]
 refine EvP.bind (l7Open_evp _ _ _ _ _ _ _ _ _ _ _) (fun r3 _ => ?_)
 refine EvP.bind (l6DrawRight_evp b _ _ h2) (fun r4 h4 => ?_)
 refine EvP.bind (l1Below_evp b _ _ 4 h4) (fun r5 h5 => ?_)
 refine EvP.bind (EvP.told (specClaim_ev _ _ _ _ _ _ _ _ _ _ _ _ _ _ _ _)) (fun r6 _ => ?_)
 refine EvP.bind (l1Once_evp b _ _ 3 h5.1) (fun r7 h7 => ?_)
 by_cases e2 : r7.1 = true
 ·simp only [if_pos e2]
  refine EvP.bind (EvP.told (specFade_ev _ _ _ _ _ _ _ _ _ _ _)) (fun r8 _ => ?_)
  exact l7DrawJ_evp b _ _ h7 _ _ _ _ _ _ _ _ _ _ _
 ·simp only [if_neg e2]
  exact l7DrawJ_evp b _ _ h7 _ _ _ _ _ _ _ _ _ _ _
theorem l7Draw_evp (b : List Int) (i q : Int) (h : CurOk b i) : EvP (fun k => spec_l7Draw.f k b i q) (CurP b) := by
 simp only [spec_l7Draw.f]
 refine EvP.bind (l7DrawRight_evp b i q h) (fun r0 h0 => ?_)
 refine EvP.bind (l1Below_evp b _ _ 12 h0) (fun r1 h1 => ?_)
 by_cases e0 : r1.1 = 0
 ·simp only [if_pos e0]
  exact EvP.now _ h1.1
 simp only [if_neg e0]
 by_cases e1 : r1.1 = 1
 ·simp only [if_pos e1]
  refine EvP.bind (l6Draw_evp b _ _ h1.1) (fun r2 h2 => ?_)
  exact EvP.now _ h2
 simp only [if_neg e1]
 by_cases e2 : r1.1 = 2
 ·simp only [if_pos e2]
  refine EvP.bind (l1PickInt_evp b _ _ _ h1.1 (by simp)) (fun r2 h2 => ?_)
  exact EvP.now _ h2.1
 simp only [if_neg e2]
 by_cases e3 : r1.1 = 3
 ·simp only [if_pos e3]
  refine EvP.bind (l1Below_evp b _ _ 6 h1.1) (fun r2 h2 => ?_)
  exact EvP.now _ h2.1
 simp only [if_neg e3]
 by_cases e4 : r1.1 = 4
 ·simp only [if_pos e4]
  exact EvP.now _ h1.1
 simp only [if_neg e4]
 by_cases e5 : r1.1 = 5
 ·simp only [if_pos e5]
  refine EvP.bind (l1PickInt_evp b _ _ _ h1.1 (by simp)) (fun r2 h2 => ?_)
  exact EvP.now _ h2.1
 simp only [if_neg e5]
 exact EvP.now _ h1.1
theorem l1New_ev (l : List Int) (h : l.length ≤ 4194304) : ∃ q : Int, Ev (fun k => spec_l1New.f k l) (l, 0, q) := by
 have key : ∀ (d i : Nat) (q : Int), i + d = l.length → ∃ q' : Int, Ev (fun k => spec_l1New.l0 k l q (i : Int)) (l, 0, q') := by
  intro d
  induction d with
  | zero =>
   intro i q hi
   refine ⟨q, ev_end fun k => ?_⟩
   simp only [spec_l1New.l0]
   rw [if_neg (by omega)]
  | succ d ih =>
   intro i q hi
   by_cases h4 : (i : Int) < 4000
   ·obtain ⟨q', hq⟩ := ih (i + 1) (Go.bits .and .i64 (wrap64 ((wrap64 ((wrap64 (q * 131)) + (wrap64 (rd l (i : Int))))) + 7)) 1073741823) (by omega)
    refine ⟨q', Ev.step (fun k => ?_) hq⟩
    simp only [spec_l1New.l0]
    rw [if_pos (by omega), if_pos h4, if_pos (by omega), w64_succ (by omega)]
   ·refine ⟨q, ev_end fun k => ?_⟩
    simp only [spec_l1New.l0]
    rw [if_pos (by omega), if_neg h4]
 exact key l.length 0 _ (by omega)
theorem l8DrawIn_evp (b : List Int) (i q : Int) (h : CurOk b i) : EvP (fun _ => spec_l8DrawIn.f b i q) (fun r => CurOk b r.2.2.2.2.2.2.2.2.1) := by
 simp only [spec_l8DrawIn.f]
 refine EvP.bind (c := fun _ => spec_l1Below.f b i q 4) (l1Below_evp b i q 4 h) (fun r0 h0 => ?_)
 refine EvP.bind (c := fun _ => spec_l1Below.f b r0.2.1 r0.2.2 4) (l1Below_evp b _ _ 4 h0.1) (fun r1 h1 => ?_)
 by_cases e0 : r1.1 = 0
 ·simp only [if_pos e0]
  exact EvP.now _ h1.1
 simp only [if_neg e0]
 by_cases e1 : r1.1 = 1
 ·simp only [if_pos e1]
  refine EvP.bind (c := fun _ => spec_l1Once.f b r1.2.1 r1.2.2 3) (l1Once_evp b _ _ 3 h1.1) (fun r2 h2 => ?_)
  exact EvP.now _ h2
 simp only [if_neg e1]
 refine EvP.bind (c := fun _ => spec_l6DrawRight.f b r1.2.1 r1.2.2) (l6DrawRight_evp b _ _ h1.1) (fun r2 h2 => ?_)
 refine EvP.bind (c := fun _ => spec_l1Below.f b r2.2.2.2.2.1 r2.2.2.2.2.2 4) (l1Below_evp b _ _ 4 h2) (fun r3 h3 => ?_)
 exact EvP.now _ h3.1
theorem l8DrawRight_evp (b : List Int) (i q : Int) (h : CurOk b i) : EvP (fun k => spec_l8DrawRight.f k b i q) (fun r => CurOk b r.2.2.1 ∧ 1 ≤ r.2.1.length ∧ r.2.1.length ≤ 4) := by
 have k1 : ∀ (d n : Nat) (id : Int) (l : List PB) (i q : Int), n + d = 10 → CurOk b i → 1 ≤ l.length → l.length ≤ 4 → EvP (fun k => spec_l8DrawRight.l1 k (n : Int) b i q id l) (fun r => CurOk b r.2.2.1 ∧ 1 ≤ r.2.1.length ∧ r.2.1.length ≤ 4) := by
  intro d
  induction d with
  | zero =>
   intro n id l i q hn hc hl1 hl4
   refine EvP.succ ?_
   simp only [spec_l8DrawRight.l1]
   refine EvP.bind (l1Below_evp b i q 10 hc) (fun r hr => ?_)
   have := hr.2.2 (by omega)
   simp only [if_neg (show ¬ (n : Int) < r.1 by omega)]
   exact EvP.now _ ⟨hr.1, hl1, hl4⟩
  | succ d ih =>
   intro n id l i q hn hc hl1 hl4
   refine EvP.succ ?_
   simp only [spec_l8DrawRight.l1]
   refine EvP.bind (l1Below_evp b i q 10 hc) (fun r hr => ?_)
   by_cases hlt : (n : Int) < r.1
   ·simp only [if_pos hlt]
    refine EvP.bind (l8DrawIn_evp b _ _ hr.1) (fun r1 h1 => ?_)
    have hR := specReact_ev id l r1.1 r1.2.1 r1.2.2.1 r1.2.2.2.1 r1.2.2.2.2.1 r1.2.2.2.2.2.1 r1.2.2.2.2.2.2.1 r1.2.2.2.2.2.2.2.1 (by omega)
    have hRl := reactM_length id l r1.1 r1.2.1 r1.2.2.1 r1.2.2.2.1 r1.2.2.2.2.1 r1.2.2.2.2.2.1 r1.2.2.2.2.2.2.1 r1.2.2.2.2.2.2.2.1
    refine EvP.bind (EvP.of hR (P := fun r => r.2.1.length = l.length) hRl) (fun r2 h2 => ?_)
    simp only [w64_succ (show (n : Int) < 4611686018427387904 by omega)]
    exact ih (n + 1) _ _ _ _ (by omega) h1 (by omega) (by omega)
   ·simp only [if_neg hlt]
    exact EvP.now _ ⟨hr.1, hl1, hl4⟩
 have k0 : ∀ (L : Nat), 1 ≤ L → L ≤ 4 → ∀ (d n : Nat) (id : Int) (l : List PB) (i q : Int), n + d = L → CurOk b i → l.length = L → EvP (fun k => spec_l8DrawRight.l0 k (n : Int) b i q id l) (fun r => CurOk b r.2.2.1 ∧ 1 ≤ r.2.1.length ∧ r.2.1.length ≤ 4) := by
  intro L hL1 hL4 d
  induction d with
  | zero =>
   intro n id l i q hn hc hl
   refine EvP.succ ?_
   simp only [spec_l8DrawRight.l0, if_neg (show ¬ (n : Int) < (l.length : Int) by omega)]
   exact k1 10 0 id l i q (by omega) hc (by omega) (by omega)
  | succ d ih =>
   intro n id l i q hn hc hl
   refine EvP.succ ?_
   simp only [spec_l8DrawRight.l0, if_pos (show (n : Int) < (l.length : Int) by omega)]
   refine EvP.bind (l1Once_evp b i q 4 hc) (fun r hr => ?_)
   by_cases e : r.1 = true
   ·simp only [if_pos e, w64_succ (show (n : Int) < 4611686018427387904 by omega)]
    exact ih (n + 1) _ _ _ _ (by omega) hr hl
   ·simp only [if_neg e]
    have hR := specReact_ev id l 3 (n : Int) 0 0 0 0 0 true (by omega)
    have hRl := reactM_length id l 3 (n : Int) 0 0 0 0 0 true
    refine EvP.bind (EvP.of hR (P := fun r => r.2.1.length = l.length) hRl) (fun r2 h2 => ?_)
    simp only [w64_succ (show (n : Int) < 4611686018427387904 by omega)]
    exact ih (n + 1) _ _ _ _ (by omega) hr (by omega)
 simp only [spec_l8DrawRight.f]
 refine EvP.bind (l1Below_evp b i q 6 h) (fun r0 h0 => ?_)
 refine EvP.bind (l1Below_evp b _ _ 4 h0.1) (fun r1 h1 => ?_)
 have a0 := h0.2.2 (by omega)
 have a1 := h1.2.2 (by omega)
 have b0 := h0.2.1
 have b1 := h1.2.1
 rw [w64 (by omega) (by omega), w64 (by omega) (by omega)]
 have hN := specBridgeNew_ev (1 + r0.1) (1 + r1.1)
 have e : (bridgeNewM (1 + r0.1) (1 + r1.1)).2.1.length = (1 + r1.1).toNat := by
  unfold bridgeNewM
  rw [if_pos (by omega)]
  simp
 refine EvP.bind (EvP.of hN (P := fun r => r.2.1.length = (1 + r1.1).toNat) e) (fun r2 h2 => ?_)
 exact k0 (1 + r1.1).toNat (by omega) (by omega) (1 + r1.1).toNat 0 _ _ _ _ (by omega) h1.1 h2
theorem l8Draw_evp (b : List Int) (i q : Int) (h : CurOk b i) : EvP (fun k => spec_l8Draw.f k b i q) (fun r => CurOk b r.2.2.1 ∧ 1 ≤ r.2.1.length ∧ r.2.1.length ≤ 6) := by
 simp only [spec_l8Draw.f, Option.bind_some]
 refine EvP.bind (l8DrawRight_evp b i q h) (fun r hr => ?_)
 obtain ⟨hc, hl1, hl4⟩ := hr
 refine EvP.bind (l1Below_evp b _ _ 8 hc) (fun r1 h1 => ?_)
 by_cases e0 : r1.1 = 0
 ·simp only [if_pos e0]
  refine EvP.bind (l1PickInt_evp b _ _ [0, 9, 10] h1.1 (by simp)) (fun r2 h2 => ?_)
  exact EvP.now _ ⟨h2.1, hl1, by dsimp only; omega⟩
 simp only [if_neg e0]
 by_cases e1 : r1.1 = 1
 ·simp only [if_pos e1]
  refine EvP.bind (l7Draw_evp b _ _ h1.1) (fun r2 h2 => ?_)
  simp only [if_pos (show 0 < (r.2.1.length : Int) by omega)]
  exact EvP.now _ ⟨h2, by simp only [List.length_set]; omega, by simp only [List.length_set]; omega⟩
 simp only [if_neg e1]
 by_cases e2 : r1.1 = 2
 ·simp only [if_pos e2, List.length_cons, List.length_nil, if_pos (show r.2.1.length + (0 + 1 + 1) < 1759218604441 by omega)]
  exact EvP.now _ ⟨h1.1, by simp only [List.length_append, List.length_cons]; omega, by simp only [List.length_append, List.length_cons, List.length_nil]; omega⟩
 ·simp only [if_neg e2]
  exact EvP.now _ ⟨h1.1, hl1, by dsimp only; omega⟩
theorem inRange_eq (x lo hi : Int) : impl_inRange.f x lo hi = some (decide (lo ≤ x ∧ x ≤ hi)) := by
 simp only [impl_inRange.f]
 by_cases h : lo ≤ x
 ·rw [if_pos h]; simp [h]
 ·rw [if_neg h]; simp [h]
theorem isPort_eq (x : Int) : impl_isPort.f x = some (decide (0 ≤ x ∧ x ≤ 3)) := by simp [impl_isPort.f, inRange_eq]
theorem implVecOk_eq (r c b p : Int) : impl_VecOk.f r c b p = some (vecOk r c b p) := by
 simp only [impl_VecOk.f, inRange_eq, isPort_eq, Option.bind_some, vecOk]
 by_cases h1 : 1 ≤ r ∧ r ≤ 9 <;> by_cases h2 : 1 ≤ b ∧ b ≤ 9 <;> by_cases h3 : r ≤ b <;> by_cases h4 : 0 ≤ c ∧ c ≤ 20 <;> by_cases h5 : 0 ≤ p ∧ p ≤ 3 <;> simp [h1, h2, h3, h4, h5]
 all_goals (first | (cases (c == 0) <;> cases (r == b) <;> rfl) | omega)
theorem isHops_eq (x : Int) : impl_isHops.f x = some (decide (0 ≤ x ∧ x ≤ 8)) := by simp [impl_isHops.f, inRange_eq]
theorem isOpenBy_eq (up has : Bool) (r c b p hops left role wait : Int) (op : Bool) : impl_Port_isOpenBy.f up has r c b p hops left role wait op = some (openBy role wait) := by
 simp only [impl_Port_isOpenBy.f, openBy]
 by_cases h1 : role = 1 <;> by_cases h2 : role = 2 <;> simp [h1, h2]
theorem implPortTail1 (k : Nat) (fl up has : Bool) (r c b p hops left role wait : Int) (op : Bool) : impl_PortOk.j1 (k + 1) fl up has r c b p hops left role wait op = some (!fl && tailOk up role wait op) := by
 simp only [impl_PortOk.j1, inRange_eq, isOpenBy_eq, Option.bind_some, tailOk]
 cases fl
 ·by_cases hr : 0 ≤ role ∧ role ≤ 3 <;> by_cases hw : 0 ≤ wait ∧ wait ≤ 4 <;> by_cases h0 : role = 0 <;> cases up <;> simp [hr, hw, h0]
 ·simp
theorem implPortOk_ev (up has : Bool) (r c b p hops left role wait : Int) (op : Bool) : Ev (fun k => impl_PortOk.f k up has r c b p hops left role wait op) (portOk ⟨up, has, r, c, b, p, hops, left, role, wait, op⟩) := by
 refine ⟨2, fun k hk => ?_⟩
 obtain ⟨j, rfl⟩ : ∃ j, k = j + 2 := ⟨k - 2, by omega⟩
 simp only [impl_PortOk.f, impl_PortOk.j0, implVecOk_eq, inRange_eq, isHops_eq, Option.bind_some, implPortTail1, portOk, headOk]
 cases has
 ·by_cases r0 : r = 0 <;> by_cases c0 : c = 0 <;> by_cases b0 : b = 0 <;> by_cases p0 : p = 0 <;> by_cases h0 : hops = 0 <;> by_cases l0 : left = 0 <;> simp [r0, c0, b0, p0, h0, l0]
 ·cases up <;> cases vecOk r c b p <;> by_cases h0 : 0 ≤ hops ∧ hops ≤ 8 <;> by_cases l0 : 1 ≤ left ∧ left ≤ 3 <;> simp [h0, l0]
theorem implFade_ev (up has : Bool) (r c b p hops left role wait : Int) (op : Bool) : Ev (fun k => impl_Fade.f k up has r c b p hops left role wait op) (fadeM ⟨up, has, r, c, b, p, hops, left, role, wait, op⟩).tup := by
 cases has
 ·refine ev_end fun k => ?_
  simp [impl_Fade.f, impl_Fade.j0, fadeM, Prt.tup]
 ·simp only [impl_Fade.f, if_true]
  refine Ev.bind (implPortOk_ev up true r c b p hops left role wait op) ?_
  generalize hp : portOk ⟨up, true, r, c, b, p, hops, left, role, wait, op⟩ = po
  refine ev_end fun k => ?_
  cases po
  ·simp [impl_Fade.j0, fadeM, hp, Prt.tup]
  ·have := portOk_left _ hp rfl
   dsimp only at this
   simp only [impl_Fade.j0, fadeM, hp, Prt.tup]
   rw [w64 (by omega) (by omega)]
   by_cases e : left - 1 = 0 <;> simp [e]
theorem openBy_eq (x0 x1 : Bool) (x2 x3 x4 x5 x6 x7 x8 x9 : Int) (x10 : Bool) : impl_Port_isOpenBy.f x0 x1 x2 x3 x4 x5 x6 x7 x8 x9 x10 = some (openBy x8 x9) := by
 simp only [impl_Port_isOpenBy.f, openBy]
 by_cases h1 : x8 = 1 <;> by_cases h2 : x8 = 2 <;> simp [h1, h2]
theorem implTick_ev (id : Int) (l : List PB) (h : l.length ≤ 4194304) (hok : portsOk l = true) : Ev (fun k => impl_Bridge_tick.f k id l) (l.map tickP) := by
 simp only [impl_Bridge_tick.f]
 have hM : (l.map tickP).length = l.length := by simp
 refine ev_list l (fun k (cur : List PB) i => impl_Bridge_tick.l0 k (l.length : Int) i id cur) (fun _ _ => l.map tickP) (fun i cur => cur = (l.map tickP).take i ++ l.drop i)
  (fun cur hc => ?_) (fun i cur x t hc hi hdr hxi ih => ?_) l (by simp)
 ·subst hc
  refine ev_end fun k => ?_
  rw [← hM, List.take_length, hM, List.drop_length, List.append_nil]
  simp only [impl_Bridge_tick.l0, if_neg (show ¬ (l.length : Int) < (l.length : Int) by omega)]
 ·subst hc
  have hln2 := turned_length hM (Nat.le_of_lt hi)
  have hat := turned_at hM hxi
  have hnx := turned_next hM (show (l.map tickP)[i]? = some (tickP x) by simp [hxi])
  generalize (l.map tickP).take i ++ l.drop i = cur at hat hln2 hnx ⊢
  have hih := ih _ rfl
  rw [← hnx] at hih
  have hpx := (portsOk_iff l).1 hok x (List.mem_of_getElem? hxi)
  refine Ev.stepUp ?_
  simp only [impl_Bridge_tick.l0, hln2, if_pos (show (i : Int) < (l.length : Int) by omega), if_pos (show 0 ≤ (i : Int) by omega), rdPB hat]
  have hF : Ev (fun k => impl_Fade.f k x.f0 x.f1 x.f2.f0 x.f2.f1 x.f2.f2 x.f2.f3 x.f3 x.f4 x.f5 x.f6 x.f7) (fadeM (pprt x)).tup := implFade_ev _ _ _ _ _ _ _ _ _ _ _
  refine Ev.bind hF ?_
  clear hF
  have ht := portOk_tail (fadeM_ok _ hpx)
  have htk : tickP x = ofP (tickM (pprt x)) := rfl
  rw [htk] at hih
  unfold tickM at hih
  generalize fadeM (pprt x) = f at ht hih ⊢
  obtain ⟨f0, f1, f2, f3, f4, f5, f6, f7, f8, f9, f10⟩ := f
  dsimp only [Prt.tup] at ht hih ⊢
  obtain ⟨_, _, _, h10⟩ := ht
  subst h10
  have j1 : ∀ b : Bool, (b = true ↔ (f8 = 1 ∨ f8 = 2) ∧ f9 > 0) → Ev (fun k => impl_Bridge_tick.j1 k (i : Int) (l.length : Int) (i : Int) b id cur f0 f1 f2 f3 f4 f5 f6 f7 f8 f9 (openBy f8 f9)) (l.map tickP) := by
   intro b hb
   refine Ev.stepUp ?_
   simp only [impl_Bridge_tick.j1, openBy_eq, Option.bind_some, hln2, if_pos (show (i : Int) < (l.length : Int) by omega), if_pos (show 0 ≤ (i : Int) by omega), w64_succ (show (i : Int) < 4611686018427387904 by omega), Int.toNat_natCast]
   cases b with
   | true =>
    rw [if_pos (hb.1 rfl)] at hih
    simp only [if_true]
    exact hih
   | false =>
    rw [if_neg (fun hc => by have := hb.2 hc; cases this)] at hih
    simp only [Bool.false_eq_true, if_false]
    exact hih
  by_cases h1 : f8 = 1
  ·have := j1 (decide (f9 > 0)) (by simp [h1])
   simp only [h1, if_true] at this ⊢
   exact this
  ·by_cases h2 : f8 = 2
   ·have := j1 (decide (f9 > 0)) (by simp [h2])
    simp only [h1, if_false]
    simp only [h2, if_true] at this ⊢
    exact this
   ·have := j1 false (by simp [h1, h2])
    simp only [h1, h2, if_false]
    exact this
theorem implTurn_ev (up has : Bool) (r c b p hops left role wait : Int) (op : Bool) (ro : Int) : Ev (fun k => impl_Turn.f k up has r c b p hops left role wait op ro) (turnM ⟨up, has, r, c, b, p, hops, left, role, wait, op⟩ ro).tup := by
 cases up
 ·refine ev_end fun k => ?_
  simp [impl_Turn.f, impl_Turn.j0, turnM, Prt.tup]
 ·simp only [impl_Turn.f, if_true, inRange_eq, Option.bind_some]
  by_cases hr : 1 ≤ ro ∧ ro ≤ 3
  ·simp only [hr, and_self, decide_true, if_true]
   refine Ev.bind (implPortOk_ev true has r c b p hops left role wait op) ?_
   generalize hp : portOk ⟨true, has, r, c, b, p, hops, left, role, wait, op⟩ = po
   refine ev_end fun k => ?_
   cases po
   ·simp [impl_Turn.j0, turnM, hp, Prt.tup]
   ·simp only [impl_Turn.j0, isOpenBy_eq, Option.bind_some, turnM, hp, Prt.tup, Bool.true_and]
    by_cases e3 : ro = 3
    ·subst e3
     simp
    ·by_cases e : role = 3 <;> simp [hr, e3, e]
  ·refine ev_end fun k => ?_
   simp [hr, impl_Turn.j0, turnM, Prt.tup]
theorem compare_eq (a b : Int) : cmp_Compare_int.f a b = some (if a < b then -1 else if a > b then 1 else 0) := by
 simp only [cmp_Compare_int.f, cmp_isNaN_int.f, Option.bind_some, bne_self_eq_false]
 simp only [Bool.false_eq_true, if_false]
 (repeat' split) <;> rfl
theorem or_ev (a b c d : Int) : Ev (fun k => cmp_Or_int.f k [a, b, c, d]) (if a ≠ 0 then a else if b ≠ 0 then b else if c ≠ 0 then c else if d ≠ 0 then d else 0) := by
 refine ⟨5, fun k hk => ?_⟩
 obtain ⟨j, rfl⟩ : ∃ j, k = j + 5 := ⟨k - 5, by omega⟩
 simp [cmp_Or_int.f, cmp_Or_int.l0, rd, wrap64]
 (repeat' split) <;> simp_all
theorem implBetter_ev (a b c d a' b' c' d' : Int) : Ev (fun k => impl_Better.f k a b c d a' b' c' d') (better a b c d a' b' c' d') := by
 simp only [impl_Better.f, compare_eq, Option.bind_some]
 refine Ev.bind (or_ev _ _ _ _) (ev_some fun _ => ?_)
 simp only [better]
 congr 1
 rw [decide_eq_decide]
 (repeat' split) <;> omega
theorem implRootJ (id : Int) (l : List PB) (b : Int) (i : Nat) (x : PB) (hb : BestOk l b) (hi : i < l.length) (h : l.length ≤ 4194304) (r : Int)
  (hn : Ev (fun k => impl_Bridge_rootPort.l0 k (stepR id l b i x) l (l.length : Int) ((i + 1 : Nat) : Int) id l) r) :
  Ev (fun k => impl_Bridge_rootPort.j1 k b (i : Int) l (l.length : Int) (i : Int) (skipP id x) id l x.f0 x.f1 x.f2.f0 x.f2.f1 x.f2.f2 x.f2.f3 x.f3 x.f4 x.f5 x.f6 x.f7) r := by
 refine Ev.stepUp ?_
 simp only [impl_Bridge_rootPort.j1, w64_succ (show (i : Int) < 4611686018427387904 by omega)]
 simp only [stepR] at hn
 cases hs : skipP id x with
 | true => simp only [hs, if_true] at hn ⊢; exact hn
 | false =>
  simp only [hs, Bool.false_eq_true, if_false] at hn ⊢
  rcases hb with rfl | ⟨h0, h1⟩
  ·simp only [if_pos (show (-1 : Int) < 0 by omega)] at hn ⊢; exact hn
  ·simp only [if_neg (show ¬ b < 0 by omega)] at hn
   simp only [if_neg (show ¬ b < 0 by omega), if_pos h0, if_pos h1]
   refine Ev.bind (implBetter_ev _ _ _ _ _ _ _ _) ?_
   split
   ·rename_i hc; rw [if_pos hc] at hn; exact hn
   ·rename_i hc; rw [if_neg hc] at hn; exact hn
theorem implRoot_ev (id : Int) (l : List PB) (h : l.length ≤ 4194304) : Ev (fun k => impl_Bridge_rootPort.f k id l) (rootM id l (-1) l) := by
 refine ev_list l (fun k (b : Int) i => impl_Bridge_rootPort.l0 k b l (l.length : Int) i id l) (fun b t => rootM id l b t) (fun _ b => BestOk l b)
  (fun b hb => ?_) (fun i b x t hb hi hd hx ih => ?_) (-1) (Or.inl rfl)
 ·exact ev_end fun k => by simp [impl_Bridge_rootPort.l0, rootM]
 ·have hn := ih _ (stepR_ok id l b i x hb hi)
  have e : rootM id l b (x :: t) = rootM id l (stepR id l b i x) t := by simp only [rootM, drop_at hd hi]
  rw [e]
  have hj := implRootJ id l b i x hb hi h _ hn
  refine Ev.step (fun k => ?_) hj
  simp only [impl_Bridge_rootPort.l0, if_pos (show 0 ≤ (i : Int) by omega), if_pos (show (i : Int) < (l.length : Int) by omega), rdPB hx, skipP]
  cases x.f1 with
  | false => simp
  | true =>
   simp only [if_true, Bool.not_true, Bool.false_or]
   by_cases c1 : x.f2.f2 = id
   ·simp [c1]
   ·by_cases c2 : x.f2.f0 ≥ id
    ·simp [c1, c2]
    ·by_cases c3 : x.f2.f1 ≥ 20
     ·simp [c1, c2, c3]
     ·simp only [c1, c2, c3, if_false, decide_false, Bool.false_or]
theorem implOwnB_ev (id : Int) (l : List PB) (p : Int) (h : l.length ≤ 4194304) : Ev (fun k => impl_Bridge_own.f k id l p) (ownM id l p) := by
 simp only [impl_Bridge_own.f]
 refine Ev.bind (implRoot_ev id l h) ?_
 unfold ownM
 by_cases h0 : rootM id l (-1) l ≥ 0
 ·have h1 := root_lt id l h0
  simp only [if_pos h0, if_pos (show 0 ≤ rootM id l (-1) l from h0), if_pos h1]
  exact ev_some fun _ => rfl
 ·simp only [if_neg h0]
  exact ev_some fun _ => rfl
theorem implDecide0_ev (id : Int) (l : List PB) (h : l.length ≤ 4194304) : Ev (fun k => impl_Bridge_decide.f k id l) (decM id l) := by
 simp only [impl_Bridge_decide.f]
 refine Ev.bind (implRoot_ev id l h) ?_
 have hM := decM_length id l
 refine ev_list l (fun k (cur : List PB) i => impl_Bridge_decide.l0 k (rootM id l (-1) l) (l.length : Int) i id cur) (fun _ _ => decM id l) (fun i cur => cur = (decM id l).take i ++ l.drop i)
  (fun cur hc => ?_) (fun i cur x t hc hi hd hx ih => ?_) l (by simp)
 ·subst hc
  refine ev_end fun k => ?_
  simp only [impl_Bridge_decide.l0, if_neg (show ¬ (l.length : Int) < (l.length : Int) by omega)]
  rw [← hM, List.take_length, hM, List.drop_length, List.append_nil]
 ·subst hc
  have hat := turned_at hM hx
  have hln : ((decM id l).take i ++ l.drop i).length = l.length := turned_length hM (by omega)
  have hcr := turned_core (decM_core id l) i
  have hnx := turned_next hM (decM_get (id := id) hx)
  generalize (decM id l).take i ++ l.drop i = cur at hat hln hcr hnx ⊢
  have hih := ih _ rfl
  have hrd := rdPB hat
  refine Ev.stepUp ?_
  simp only [impl_Bridge_decide.l0, if_pos (show (i : Int) < (l.length : Int) by omega), if_pos (show 0 ≤ (i : Int) by omega), hln, hrd, w64_succ (show (i : Int) < 4611686018427387904 by omega)]
  have jt : ∀ ro : Int, decP id l i x = ofP (turnM (pprt x) ro) → Ev (fun k => (impl_Turn.f k x.f0 x.f1 x.f2.f0 x.f2.f1 x.f2.f2 x.f2.f3 x.f3 x.f4 x.f5 x.f6 x.f7 ro).bind fun bt => impl_Bridge_decide.l0 k (rootM id l (-1) l) (l.length : Int) ((i + 1 : Nat) : Int) id (cur.set i (⟨bt.1, bt.2.1, ⟨bt.2.2.1, bt.2.2.2.1, bt.2.2.2.2.1, bt.2.2.2.2.2.1⟩, bt.2.2.2.2.2.2.1, bt.2.2.2.2.2.2.2.1, bt.2.2.2.2.2.2.2.2.1, bt.2.2.2.2.2.2.2.2.2.1, bt.2.2.2.2.2.2.2.2.2.2⟩ : PB))) (decM id l) := by
   intro ro hro
   refine Ev.bind (implTurn_ev _ _ _ _ _ _ _ _ _ _ _ _) ?_
   rw [hro] at hnx
   have e : (cur.set i (ofP (turnM (pprt x) ro))) = (decM id l).take (i + 1) ++ l.drop (i + 1) := hnx
   simp only [ofP, pprt] at e
   simp only [Prt.tup]
   rw [e]
   exact hih
  cases hu : x.f0 with
  | false =>
   simp only [Bool.false_eq_true, if_false]
   have e : decP id l i x = x := by simp [decP, hu]
   rw [e] at hnx
   have e2 : cur.set i x = cur := by
    apply List.ext_getElem?
    intro j
    by_cases hj : i = j
    ·subst hj
     rw [List.getElem?_set_self (by omega), hat]
    ·rw [List.getElem?_set_ne hj]
   rw [e2] at hnx
   rw [hnx]
   exact hih
  | true =>
   simp only [if_true]
   have hd1 : ∀ ro, roleM id l i x = ro → decP id l i x = ofP (turnM (pprt x) ro) := fun ro hro => by simp [decP, hu, hro]
   rw [hu] at jt
   by_cases hr : (i : Int) = rootM id l (-1) l
   ·simp only [if_pos hr, Int.toNat_natCast]
    exact jt 1 (hd1 1 (by simp [roleM, hr]))
   ·simp only [if_neg hr]
    have j3 : ∀ (b : Bool), (x.f1 && better x.f2.f0 x.f2.f1 x.f2.f2 x.f2.f3 (ownM id l i).1 (ownM id l i).2.1 (ownM id l i).2.2.1 (ownM id l i).2.2.2) = b → Ev (fun k => impl_Bridge_decide.j1 k (rootM id l (-1) l) (i : Int) (l.length : Int) (i : Int) b id cur true x.f1 x.f2.f0 x.f2.f1 x.f2.f2 x.f2.f3 x.f3 x.f4 x.f5 x.f6 x.f7) (decM id l) := by
     intro b hb
     refine Ev.stepUp ?_
     simp only [impl_Bridge_decide.j1, if_pos (show (i : Int) < (l.length : Int) by omega), if_pos (show 0 ≤ (i : Int) by omega), hln, w64_succ (show (i : Int) < 4611686018427387904 by omega), Int.toNat_natCast]
     cases b with
     | true =>
      simp only [if_true]
      exact jt 3 (hd1 3 (by simp [roleM, hr, hb]))
     | false =>
      simp only [Bool.false_eq_true, if_false]
      exact jt 2 (hd1 2 (by simp only [roleM, if_neg hr, hb]; rfl))
    cases hh : x.f1 with
    | false =>
     simp only [Bool.false_eq_true, if_false]
     have := j3 false (by simp [hh])
     rw [hh] at this
     exact this
    | true =>
     simp only [if_true]
     refine Ev.bind (implOwnB_ev id cur i (by omega)) ?_
     rw [ownM_core id hcr]
     refine Ev.bind (implBetter_ev _ _ _ _ _ _ _ _) ?_
     have := j3 _ rfl
     rw [hh, Bool.true_and] at this
     exact this
theorem claimJ_true (j : Nat) (up has : Bool) (r c b p hops left role wait : Int) (op : Bool) (r' c' b' p' h' : Int) : impl_Claim.j0 (j + 1) h' true up has r c b p hops left role wait op r' c' b' p' = some (up, has, r, c, b, p, hops, left, role, wait, op) := by
 simp only [impl_Claim.j0, if_true]
theorem implClaim_ev (up has : Bool) (r c b p hops left role wait : Int) (op : Bool) (r' c' b' p' h' : Int) : Ev (fun k => impl_Claim.f k up has r c b p hops left role wait op r' c' b' p' h') (claimM ⟨up, has, r, c, b, p, hops, left, role, wait, op⟩ r' c' b' p' h').tup := by
 obtain ⟨K1, h1⟩ := implPortOk_ev up has r c b p hops left role wait op
 obtain ⟨K2, h2⟩ := implBetter_ev r c b p r' c' b' p'
 refine ⟨K1 + K2 + 2, fun k hk => ?_⟩
 obtain ⟨j, rfl⟩ : ∃ j, k = j + 2 := ⟨k - 2, by omega⟩
 have e1 := h1 (j + 2) (by omega)
 have e2 := h2 (j + 1) (by omega)
 simp only [impl_Claim.f, implVecOk_eq, isHops_eq, e1, Option.bind_some, claimJ_true]
 cases up with
 | false =>
  simp only [Bool.false_eq_true, if_false, claimM, Bool.false_and, Bool.and_false, Prt.tup]
 | true =>
  simp only [if_true]
  by_cases hh : 0 ≤ h' ∧ h' ≤ 8
  ·simp only [hh, and_self, decide_true, if_true]
   cases hv : vecOk r' c' b' p' with
   | false => simp only [Bool.false_eq_true, if_false, claimM, hv, Bool.false_and, Bool.and_false, Prt.tup]
   | true =>
    simp only [if_true]
    cases hp : portOk ⟨true, has, r, c, b, p, hops, left, role, wait, op⟩ with
    | false => simp only [Bool.not_false, claimJ_true, claimM, hp, Bool.false_eq_true, if_false, Bool.false_and, Prt.tup]
    | true =>
     simp only [Bool.not_true, impl_Claim.j0, impl_Claim.j1, impl_Claim.j2, Bool.not_false, Bool.false_eq_true, if_false, e2, Option.bind_some, claimM, hp, hv, hh, and_self, decide_true, Bool.and_self, if_true]
     cases has with
     | false =>
      simp only [Bool.false_eq_true, if_false, Bool.false_and, Prt.tup]
      split <;> rfl
     | true =>
      simp only [if_true, Bool.true_and]
      cases better r c b p r' c' b' p' with
      | false =>
       simp only [Bool.false_eq_true, if_false, Bool.false_and, Prt.tup]
       split <;> rfl
      | true =>
       simp only [if_true, Bool.true_and]
       by_cases e1 : b' = b
       ·subst e1
        by_cases e2 : p' = p
        ·subst e2
         simp [Prt.tup]
        ·have e2' : ¬ p = p' := fun h => e2 h.symm
         simp [Prt.tup, e2, e2']
       ·have e1' : ¬ b = b' := fun h => e1 h.symm
        simp [Prt.tup, e1, e1']
  ·simp only [hh, decide_false, Bool.false_eq_true, if_false, claimM, Bool.and_false, Prt.tup]
theorem gateAcc_at (old : List PB) : ∀ (t : List PB) (acc : List OB) (i : Nat), (∀ j x, t[j]? = some x → x.f7 = (rd_T79 old ((i + j : Nat) : Int)).f7) → gateAcc old acc i t = acc := by
 intro t
 induction t with
 | nil => intro acc i _; rfl
 | cons x t ih =>
  intro acc i h
  have h0 := h 0 x rfl
  rw [Nat.add_zero] at h0
  simp only [gateAcc, h0, bne_self_eq_false, Bool.false_eq_true, if_false]
  exact ih acc (i + 1) (fun j y hy => by
   have := h (j + 1) y (by simpa using hy)
   rw [show i + (j + 1) = i + 1 + j by omega] at this
   exact this)
theorem gateAcc_self (l : List PB) : gateAcc l [] 0 l = [] := gateAcc_at l l [] 0 (fun j x hx => by rw [Nat.zero_add, rdPB hx])
theorem portClone_eq (l : List PB) (h : l.length ≤ 4194304) : impl_Port.f l = some l := by
 simp only [impl_Port.f, Option.bind_some, List.length_nil, Nat.zero_add, List.nil_append]
 rw [if_pos (by omega)]
theorem implHopsB_ev (id : Int) (l : List PB) (h : l.length ≤ 4194304) : Ev (fun k => impl_Bridge_hops.f k id l) (hopsM id l) := by
 simp only [impl_Bridge_hops.f]
 refine Ev.bind (implRoot_ev id l h) ?_
 unfold hopsM
 by_cases h0 : rootM id l (-1) l ≥ 0
 ·have h1 := root_lt id l h0
  simp only [if_pos h0, if_pos (show 0 ≤ rootM id l (-1) l from h0), if_pos h1]
  exact ev_some fun _ => rfl
 ·simp only [if_neg h0]
  exact ev_some fun _ => rfl
theorem implReact0_ev (id : Int) (l : List PB) (kind port r c b p h : Int) (up : Bool) (hok : bridgeOk id l = true) (hx : inOk kind port r c b p h up = true) (hp : port < (l.length : Int)) : Ev (fun k => impl_Bridge_react.f k id l kind port r c b p h up) (outsM id l (inM id l kind port r c b p h up) kind, inM id l kind port r c b p h up) := by
 obtain ⟨hk, h0⟩ := inOk_kind hx
 have hln := bridgeOk_len hok
 have l1 : ∀ (m : List PB) (acc : List OB), bridgeOk id m = true → m.length = l.length → acc.length ≤ l.length → Ev (fun k => impl_Bridge_react.l1 k acc m (m.length : Int) 0 id m kind port r c b p h up) (if kind = 2 then sayAcc id m acc 0 m else acc, m) := by
  intro m acc hm hml hacc
  by_cases k2 : kind = 2
  ·simp only [if_pos k2]
   rw [← Nat.sub_self m.length]
   refine ev_list m (fun k (a : List OB) i => impl_Bridge_react.l1 k a m (m.length : Int) i id m kind port r c b p h up) (fun a t => (sayAcc id m a (m.length - t.length) t, m)) (fun i a => a.length ≤ l.length + i)
    (fun a ha => ?_) (fun i a x t ha hi hd hxi ih => ?_) acc (by omega)
   ·refine ev_end fun k => ?_
    simp only [impl_Bridge_react.l1, if_neg (show ¬ (m.length : Int) < (m.length : Int) by omega), sayAcc]
   ·have e1 : m.length - (x :: t).length = i := drop_at hd hi
    have e2 : m.length - t.length = i + 1 := by
     have := congrArg List.length hd
     simp at this
     omega
    simp only [e1, sayAcc]
    refine Ev.stepUp ?_
    simp only [impl_Bridge_react.l1, if_pos (show (i : Int) < (m.length : Int) by omega), if_pos (show 0 ≤ (i : Int) by omega), if_pos k2, rdPB hxi]
    refine Ev.stepUp ?_
    simp only [impl_Bridge_react.j3, w64_succ (show (i : Int) < 4611686018427387904 by omega), beq_iff_eq]
    by_cases h5 : x.f5 = 2
    ·simp only [if_pos h5]
     refine Ev.bind (implOwnB_ev id m i (by omega)) ?_
     refine Ev.bind (implHopsB_ev id m (by omega)) ?_
     simp only [if_pos (show a.length < 2199023255552 by omega)]
     have := ih (a ++ [(⟨1, (i : Int), ⟨(ownM id m i).1, (ownM id m i).2.1, (ownM id m i).2.2.1, (ownM id m i).2.2.2⟩, hopsM id m, false⟩ : OB)]) (by simp; omega)
     rw [e2] at this
     exact this
    ·simp only [if_neg h5]
     have := ih a (by omega)
     rw [e2] at this
     exact this
  ·simp only [if_neg k2]
   refine ev_list m (fun k (_ : Unit) i => impl_Bridge_react.l1 k acc m (m.length : Int) i id m kind port r c b p h up) (fun _ _ => (acc, m)) (fun _ _ => True)
    (fun _ _ => ?_) (fun i _ x t _ hi hd hxi ih => ?_) () trivial
   ·refine ev_end fun k => ?_
    simp only [impl_Bridge_react.l1, if_neg (show ¬ (m.length : Int) < (m.length : Int) by omega)]
   ·refine Ev.stepUp ?_
    simp only [impl_Bridge_react.l1, if_pos (show (i : Int) < (m.length : Int) by omega), if_pos (show 0 ≤ (i : Int) by omega), if_neg k2]
    refine Ev.stepUp ?_
    simp only [impl_Bridge_react.j3, w64_succ (show (i : Int) < 4611686018427387904 by omega), Bool.false_eq_true, if_false]
    exact ih () trivial
 have l0 : ∀ m : List PB, bridgeOk id m = true → m.length = l.length → Ev (fun k => impl_Bridge_react.l0 k l [] m (m.length : Int) 0 id m kind port r c b p h up) (outsM id l m kind, m) := by
  intro m hm hml
  obtain ⟨fin, hfin⟩ : ∃ fin : List OB → List OB, fin = fun g => if kind = 2 then sayAcc id m g 0 m else g := ⟨_, rfl⟩
  have hl1 := fun acc ha => l1 m acc hm hml ha
  have efin : outsM id l m kind = fin (gateAcc l [] 0 m) := by subst hfin; rfl
  have hf1 : ∀ acc : List OB, acc.length ≤ l.length → Ev (fun k => impl_Bridge_react.l1 k acc m (m.length : Int) 0 id m kind port r c b p h up) (fin acc, m) := by subst hfin; exact hl1
  rw [efin]
  clear hfin efin hl1
  rw [← Nat.sub_self m.length]
  refine ev_list m (fun k (a : List OB) i => impl_Bridge_react.l0 k l a m (m.length : Int) i id m kind port r c b p h up) (fun a t => (fin (gateAcc l a (m.length - t.length) t), m)) (fun i a => a.length ≤ i)
   (fun a ha => ?_) (fun i a x t ha hi hd hxi ih => ?_) [] (by simp)
  ·refine Ev.stepUp ?_
   simp only [impl_Bridge_react.l0, if_neg (show ¬ (m.length : Int) < (m.length : Int) by omega)]
   exact hf1 a (by omega)
  ·have e1 : m.length - (x :: t).length = i := drop_at hd hi
   have e2 : m.length - t.length = i + 1 := by
    have := congrArg List.length hd
    simp at this
    omega
   simp only [e1, gateAcc]
   refine Ev.stepUp ?_
   simp only [impl_Bridge_react.l0, if_pos (show (i : Int) < (l.length : Int) by omega), if_pos (show (i : Int) < (m.length : Int) by omega), if_pos (show 0 ≤ (i : Int) by omega), rdPB hxi, w64_succ (show (i : Int) < 4611686018427387904 by omega)]
   cases h7 : (x.f7 != (rd_T79 l (i : Int)).f7) with
   | true =>
    simp only [if_true, if_pos (show a.length < 2199023255552 by omega)]
    have := ih (a ++ [(⟨2, (i : Int), ⟨0, 0, 0, 0⟩, 0, x.f7⟩ : OB)]) (by simp; omega)
    rw [e2] at this
    exact this
   | false =>
    simp only [Bool.false_eq_true, if_false]
    have := ih a (by omega)
    rw [e2] at this
    exact this
 have j0 : ∀ m : List PB, bridgeOk id m = true → m.length = l.length → Ev (fun k => impl_Bridge_react.j0 k l id m kind port r c b p h up) (outsM id l (decM id m) kind, decM id m) := by
  intro m hm hml
  refine Ev.stepUp ?_
  simp only [impl_Bridge_react.j0]
  refine Ev.bind (implDecide0_ev id m (by omega)) ?_
  have := l0 (decM id m) (decM_ok hm) (by rw [decM_length]; exact hml)
  rw [decM_length] at this
  exact this
 have hxl : l[port.toNat]? = some l[port.toNat] := List.getElem?_eq_getElem (by omega)
 have e : ((port.toNat : Nat) : Int) = port := by omega
 have hr := rdPB hxl
 rw [e] at hr
 have hpt := bridgeOk_ports hok hxl
 simp only [impl_Bridge_react.f, portClone_eq l (by omega), Option.bind_some, if_pos h0, if_pos hp, hr]
 unfold inM
 rw [hr]
 by_cases k1 : kind = 1
 ·simp only [if_pos k1]
  refine Ev.bind (implClaim_ev _ _ _ _ _ _ _ _ _ _ _ _ _ _ _ _) ?_
  exact j0 _ (bridgeOk_set hok (x := ofP (claimM (pprt l[port.toNat]) r c b p h)) (claimM_ok' _ _ _ _ _ _ hpt)) (by simp)
 simp only [if_neg k1]
 by_cases k2 : kind = 2
 ·simp only [if_pos k2]
  have hpo : portsOk l = true := by
   simp only [bridgeOk, Bool.and_eq_true] at hok
   exact hok.1
  refine Ev.bind (implTick_ev id l (by omega) hpo) ?_
  exact j0 _ (bridgeOk_map hok fun x hx => by rw [tickP, pprt_ofP]; exact tickM_ok _ hx) (by simp)
 simp only [if_neg k2]
 have k3 : kind = 3 := by omega
 simp only [if_pos k3]
 by_cases hu : l[port.toNat].f0 = up
 ·simp only [hu, beq_self_eq_true, if_true]
  have e0 : outsM id l l kind = [] := by
   unfold outsM
   rw [if_neg k2]
   exact gateAcc_self l
  rw [e0]
  exact ev_some fun _ => rfl
 ·have hb : (l[port.toNat].f0 == up) = false := by simpa using hu
  simp only [hb, Bool.false_eq_true, if_false, if_neg hu]
  have hl := j0 _ (bridgeOk_set (i := port.toNat) hok (linkP_ok up)) (by simp)
  cases up with
  | false =>
   simp only [Bool.false_eq_true, if_false]
   exact hl
  | true =>
   simp only [if_true, List.set_set]
   exact hl
theorem copyBridge_eq (id : Int) (l : List PB) (h : l.length ≤ 4194304) : impl_copyBridge.f id l = some (id, l) := by
 simp only [impl_copyBridge.f, impl_Port.f, Option.bind_some, List.length_nil, Nat.zero_add, List.nil_append]
 rw [if_pos (by omega)]
 rfl
theorem implInOk_eq (k p r c b q h : Int) (u : Bool) : impl_InOk.f k p r c b q h u = some (inOk k p r c b q h u) := by
 simp only [impl_InOk.f, isPort_eq, isHops_eq, implVecOk_eq, Option.bind_some, inOk]
 by_cases h1 : k = 1
 ·simp only [h1, if_true]
  by_cases a1 : 0 ≤ p ∧ p ≤ 3 <;> by_cases a3 : 0 ≤ h ∧ h ≤ 8 <;> cases vecOk r c b q <;> simp [a1, a3]
 ·by_cases h3 : k = 3
  ·by_cases a1 : 0 ≤ p <;> by_cases a2 : p ≤ 3 <;> by_cases r0 : r = 0 <;> by_cases c0 : c = 0 <;> by_cases b0 : b = 0 <;> by_cases q0 : q = 0 <;> by_cases hh : h = 0 <;> simp_all
   all_goals (first | (split <;> simp <;> omega) | omega)
  ·by_cases h2 : k = 2
   ·by_cases p0 : p = 0 <;> by_cases r0 : r = 0 <;> by_cases c0 : c = 0 <;> by_cases b0 : b = 0 <;> by_cases q0 : q = 0 <;> by_cases hh : h = 0 <;> cases u <;> simp_all
   ·simp [h1, h2, h3]
theorem implBridgeOk_ev (id : Int) (l : List PB) (h : l.length ≤ 4194304) : Ev (fun k => impl_BridgeOk.f k id l) (bridgeOk id l) := by
 refine ev_list0 l (fun k i => impl_BridgeOk.l0 k l (l.length : Int) i id l) (fun t => portsOk t && (decide (1 ≤ id ∧ id ≤ 9) && decide (1 ≤ l.length ∧ l.length ≤ 4)))
  (ev_end fun k => ?_)
  (fun i x t hi _ hx ih => ?_)
 ·simp only [impl_BridgeOk.l0]
  rw [if_neg (by omega)]
  simp only [inRange_eq, Option.bind_some, portsOk, Bool.true_and]
  by_cases a : 1 ≤ id ∧ id ≤ 9
  ·have e : decide (1 ≤ (l.length : Int) ∧ (l.length : Int) ≤ 4) = decide (1 ≤ l.length ∧ l.length ≤ 4) := by rw [decide_eq_decide]; omega
   simp only [a, and_self, decide_true, if_true, Bool.true_and, e]
  ·simp [a]
 ·refine Ev.step (f := fun k => (impl_PortOk.f k x.f0 x.f1 x.f2.f0 x.f2.f1 x.f2.f2 x.f2.f3 x.f3 x.f4 x.f5 x.f6 x.f7).bind fun t122 => (if t122 = true then (impl_BridgeOk.l0 k l (l.length : Int) ((i + 1 : Nat) : Int) id l) else (some false))) (fun k => ?_) (Ev.bind (implPortOk_ev _ _ _ _ _ _ _ _ _ _ _) ?_)
  ·simp only [impl_BridgeOk.l0]
   rw [if_pos (by omega), if_pos (by omega), if_pos (by omega), rdPB hx, w64_succ (by omega)]
  ·cases hp : portOk (pprt x) with
   | true =>
    have hp' := hp
    simp only [pprt] at hp'
    simp only [hp', if_true, portsOk, hp, Bool.true_and]
    exact ih
   | false =>
    have hp' := hp
    simp only [pprt] at hp'
    refine ev_some fun k => ?_
    simp [hp', portsOk, hp]
theorem implReact_ev (id : Int) (l : List PB) (kind port r c b p h : Int) (up : Bool) (hl : l.length ≤ 4194304) : Ev (fun k => impl_React.f k id l kind port r c b p h up) (reactM id l kind port r c b p h up) := by
 simp only [impl_React.f, copyBridge_eq id l hl, Option.bind_some, implInOk_eq]
 have hno : reactOk id l kind port r c b p h up = false → reactM id l kind port r c b p h up = (id, l, []) := fun h => by
  unfold reactM
  rw [if_neg (by rw [h]; decide)]
 cases hx : inOk kind port r c b p h up with
 | false =>
  simp only [Bool.false_eq_true, if_false]
  rw [hno (by simp [reactOk, hx])]
  exact ev_some fun _ => rfl
 | true =>
 simp only [if_true]
 by_cases hp : port ≥ (l.length : Int)
 ·simp only [if_pos hp]
  rw [hno (by simp [reactOk]; intros; omega)]
  exact ev_some fun _ => rfl
 simp only [if_neg hp]
 refine Ev.bind (implBridgeOk_ev id l hl) ?_
 cases hok : bridgeOk id l with
 | false =>
  simp only [Bool.false_eq_true, if_false]
  rw [hno (by simp [reactOk, hok])]
  exact ev_some fun _ => rfl
 | true =>
  simp only [if_true]
  have hR : reactOk id l kind port r c b p h up = true := by simp [reactOk, hok, hx]; omega
  refine Ev.bind (implReact0_ev id l kind port r c b p h up hok hx (by omega)) ?_
  unfold reactM
  rw [if_pos hR]
  exact ev_some fun _ => rfl
theorem implRootPort_ev (id : Int) (l : List PB) (h : l.length ≤ 4194304) : Ev (fun k => impl_RootPort.f k id l) (if bridgeOk id l = true then (rootM id l (-1) l, decide (rootM id l (-1) l ≥ 0)) else (-1, false)) := by
 simp only [impl_RootPort.f]
 refine Ev.bind (implBridgeOk_ev id l h) ?_
 cases bridgeOk id l with
 | false => simp only [Bool.false_eq_true, if_false]; exact ev_some fun _ => rfl
 | true => simp only [if_true]; exact Ev.bind (implRoot_ev id l h) (ev_some fun _ => rfl)
theorem implOwn_ev (id : Int) (l : List PB) (p : Int) (h : l.length ≤ 4194304) : Ev (fun k => impl_Own.f k id l p) (ownX id l p) := by
 simp only [impl_Own.f, inRange_eq, Option.bind_some]
 rw [w64 (by omega) (by omega)]
 unfold ownX
 by_cases hp : 0 ≤ p ∧ p ≤ (l.length : Int) - 1
 ·simp only [hp, and_self, decide_true, if_true, and_true]
  refine Ev.bind (implBridgeOk_ev id l h) ?_
  cases hok : bridgeOk id l with
  | false => simp only [Bool.false_eq_true, if_false]; exact ev_some fun _ => rfl
  | true =>
   simp only [if_true]
   exact Ev.bind (implOwnB_ev id l p h) (ev_some fun _ => rfl)
 ·simp only [hp, decide_false, Bool.false_eq_true, if_false, and_false]
  exact ev_some fun _ => rfl
def tickB (id : Int) (l : List PB) : List PB := decM id (l.map tickP)
theorem tick_in : inOk 2 0 0 0 0 0 0 false = true := by decide
theorem reactM_tick {id : Int} {l : List PB} (hok : bridgeOk id l = true) : ∃ o, reactM id l 2 0 0 0 0 0 0 false = (id, tickB id l, o) := by
 have hln := bridgeOk_len hok
 have hR : reactOk id l 2 0 0 0 0 0 0 false = true := by simp [reactOk, hok, tick_in]; omega
 refine ⟨outsM id l (inM id l 2 0 0 0 0 0 0 false) 2, ?_⟩
 unfold reactM
 rw [if_pos hR]
 rfl
theorem tickB_ok {id : Int} {l : List PB} (hok : bridgeOk id l = true) : bridgeOk id (tickB id l) = true :=
 decM_ok (bridgeOk_map hok fun x hx => by rw [tickP, pprt_ofP]; exact tickM_ok _ hx)
theorem tickB_length (id : Int) (l : List PB) : (tickB id l).length = l.length := by simp [tickB, decM_length]
theorem tickB_get {id : Int} {l : List PB} {i : Nat} {x : PB} (h : l[i]? = some x) : (tickB id l)[i]? = some (decP id (l.map tickP) i (tickP x)) := decM_get (by simp [h])
theorem tick_left (q : Prt) (hq : portOk q = true) (h : (tickM q).has = true) : q.has = true ∧ (tickM q).left = q.left - 1 := by
 have e : (tickM q).has = (fadeM q).has ∧ (tickM q).left = (fadeM q).left := by
  unfold tickM
  split <;> exact ⟨rfl, rfl⟩
 rw [e.1] at h
 rw [e.2]
 unfold fadeM at h ⊢
 cases hh : q.has with
 | false =>
  rw [if_neg (by simp [hh])] at h
  rw [hh] at h
  cases h
 | true =>
  rw [if_pos (by simp [hh, hq])] at h ⊢
  split at h
  ·cases h
  ·rename_i h1
   rw [if_neg h1]
   exact ⟨rfl, rfl⟩
theorem decP_left (id : Int) (l : List PB) (i : Nat) (x : PB) : (decP id l i x).f1 = x.f1 ∧ (decP id l i x).f4 = x.f4 := by
 unfold decP
 split
 ·obtain ⟨_, h1, _, _, _, _, _, h4⟩ := turnM_core (pprt x) (roleM id l i x)
  exact ⟨h1, h4⟩
 ·exact ⟨rfl, rfl⟩
def HasLe (n : Int) (l : List PB) : Prop := ∀ x ∈ l, x.f1 = true → x.f4 ≤ n
theorem tickB_left {id : Int} {l : List PB} {n : Int} (hok : bridgeOk id l = true) (h : HasLe n l) : HasLe (n - 1) (tickB id l) := by
 intro y hy hf
 obtain ⟨i, hi⟩ := List.getElem?_of_mem hy
 have hil : i < l.length := by
  have := (List.getElem?_eq_some_iff.1 hi).1
  rw [tickB_length] at this
  exact this
 have hx := List.getElem?_eq_getElem hil
 rw [tickB_get hx] at hi
 injection hi with hi
 subst hi
 have hd := decP_left id (l.map tickP) i (tickP l[i])
 rw [hd.1] at hf
 rw [hd.2]
 have ht := tick_left (pprt l[i]) (bridgeOk_ports hok hx) hf
 have := h l[i] (List.mem_of_getElem? hx) ht.1
 have e : (tickP l[i]).f4 = l[i].f4 - 1 := ht.2
 omega
theorem hasLe_zero {id : Int} {l : List PB} (hok : bridgeOk id l = true) (h : HasLe 0 l) : ∀ x ∈ l, x.f1 = false := by
 intro x hx
 cases hf : x.f1 with
 | false => rfl
 | true =>
  obtain ⟨i, hi⟩ := List.getElem?_of_mem hx
  have h1 := portOk_left (pprt x) (bridgeOk_ports hok hi) hf
  have h2 := h x hx hf
  have e : (pprt x).left = x.f4 := rfl
  omega
theorem rootM_none (id : Int) (l : List PB) : ∀ (t : List PB) (b : Int), (∀ x ∈ t, x.f1 = false) → rootM id l b t = b := by
 intro t
 induction t with
 | nil => intro b _; rfl
 | cons x t ih =>
  intro b h
  have hx := h x (by simp)
  simp only [rootM]
  rw [ih _ (fun y hy => h y (by simp [hy]))]
  unfold stepR
  rw [if_pos (by simp [skipP, hx])]
theorem FnFades : FnFadesPure := by
 intro l hlw
 refine Ev.rounds ?_
 simp only [laws_FnFades.f, laws_big.f, Option.bind_some]
 by_cases hbig : (l.length : Int) > 1048576
 ·exact ev_some fun _ => by simp [hbig]
 simp only [hbig, decide_false, Bool.false_eq_true, if_false]
 obtain ⟨q, hq⟩ := l1New_ev l (by omega)
 have c0 : CurOk l 0 := ⟨by omega, by omega, by omega⟩
 obtain ⟨⟨id, m⟩, hd, hm1, hm2⟩ : EvP (fun k => spec_DrawHops.f k l) (fun r => 1 ≤ r.2.length ∧ r.2.length ≤ 6) := by
  simp only [spec_DrawHops.f]
  refine EvP.bind (EvP.of hq (P := fun r => r = (l, 0, q)) rfl) (fun r hr => ?_)
  subst hr
  exact EvP.bind (l8Draw_evp l 0 q c0) (fun r1 h1 => EvP.now _ h1.2)
 dsimp only at hm1 hm2
 refine Ev.bind hd ?_
 refine Ev.bind (implBridgeOk_ev id m (by omega)) ?_
 cases hok : bridgeOk id m with
 | false =>
  simp only [Bool.false_eq_true, if_false]
  have h1 := implBridgeOk_ev id m (by omega)
  have h2 := specBridgeOk_ev id m (by omega)
  rw [hok] at h1 h2
  refine Ev.bind h1 ?_
  exact Ev.bind h2 (ev_some fun _ => rfl)
 | true =>
  simp only [if_true]
  have step : ∀ (n : Nat) (r : List PB), (n : Int) < 3 → bridgeOk id r = true → Ev (fun k => laws_FnFades.l0 k ((n + 1 : Nat) : Int) id (tickB id r)) true → Ev (fun k => laws_FnFades.l0 k (n : Int) id r) true := by
   intro n r hn hr hnext
   refine Ev.stepUp ?_
   simp only [laws_FnFades.l0, if_pos hn]
   have hR := implReact_ev id r 2 0 0 0 0 0 0 false (by have := bridgeOk_len hr; omega)
   obtain ⟨o, ho⟩ := reactM_tick hr
   rw [ho] at hR
   refine Ev.bind hR ?_
   simp only [w64_succ (show (n : Int) < 4611686018427387904 by omega)]
   exact hnext
  have k0 : HasLe 3 m := by
   intro x hx hf
   obtain ⟨i, hi⟩ := List.getElem?_of_mem hx
   have h1 := portOk_left (pprt x) (bridgeOk_ports hok hi) hf
   exact h1.2
  have o1 := tickB_ok hok
  have o2 := tickB_ok o1
  have o3 := tickB_ok o2
  have k3 : HasLe 0 (tickB id (tickB id (tickB id m))) := tickB_left o2 (tickB_left o1 (tickB_left hok k0))
  have hz := hasLe_zero o3 k3
  refine step 0 m (by omega) hok (step 1 _ (by omega) o1 (step 2 _ (by omega) o2 ?_))
  generalize tickB id (tickB id (tickB id m)) = r at o3 hz ⊢
  have hrl := bridgeOk_len o3
  refine Ev.stepUp ?_
  simp only [laws_FnFades.l0, if_neg (show ¬ (((2 + 1 : Nat) : Int) < 3) by omega)]
  refine ev_list0 r (fun k i => laws_FnFades.l1 k i id r) (fun _ => true) ?_ (fun i x t hi _ hx ih => ?_)
  ·refine Ev.stepUp ?_
   simp only [laws_FnFades.l1, if_neg (show ¬ (r.length : Int) < (r.length : Int) by omega)]
   have hR := implRootPort_ev id r (by omega)
   have hn : rootM id r (-1) r = -1 := rootM_none id r r (-1) hz
   rw [o3, hn] at hR
   refine Ev.bind hR ?_
   simp only [if_true, show decide ((-1 : Int) ≥ 0) = false from rfl, Bool.false_eq_true, if_false]
   refine Ev.bind (implOwn_ev id r 0 (by omega)) ?_
   have e : ownX id r 0 = (id, 0, id, 0) := by
    unfold ownX ownM
    rw [if_pos ⟨o3, by omega, by omega⟩, hn, if_neg (by omega)]
   rw [e]
   exact ev_some fun _ => by simp
  ·refine Ev.stepUp ?_
   simp only [laws_FnFades.l1, if_pos (show (i : Int) < (r.length : Int) by omega), if_pos (show 0 ≤ (i : Int) by omega), rdPB hx, hz x (List.mem_of_getElem? hx), Bool.false_eq_true, if_false, w64_succ (show (i : Int) < 4611686018427387904 by omega)]
   exact ih
end Go.Proofs.Ythmijfekdeagpaa.Pure

/- Of the proof of laws.FnPorts: a part. No condition beyond what its theorems say. -/
/- The statement of laws.FnPorts over numbers and lists alone: at every input it answers true. No condition but that the numbers are those of their kinds and that no slice is longer than a Go slice can be. -/
import Derived.Test.YtaoipjdmmamkmaaVFnPortsT
import Derived.Test.YtaoipjdmmamkmaaVFnPortsBase
import Derived.Laws.BitsLemmas
set_option linter.unusedVariables false
set_option linter.unusedSimpArgs false
namespace Go.Proofs.Ytaoipjdmmamkmaa.Pure
open Go.RowKit Go.Proofs.Ytaoipjdmmamkmaa.PFnPorts Go.Proofs.Ytaoipjdmmamkmaa.Base Go.Proofs.YtaoipjdmmamkmaaW.PrintWords Go.Proofs.YtaoipjdmmamkmaaW.PrintLast Go.Proofs.YtaoipjdmmamkmaaW.PrintMore
def FnPortsPure : Prop := ∀ (l0 : List (Int)), (l0.length ≤ maxLen ∧ ∀ x ∈ l0, (Lit.int .u8 x).wf = true) → ∃ k, laws_FnPorts.f k l0 = some true
theorem and_range (x : Int) (m : Nat) (hm : m < 2 ^ 62) : 0 ≤ Go.bits .and .i64 x (m : Int) ∧ Go.bits .and .i64 x (m : Int) ≤ m := by
  have e : Go.bits .and .i64 x (m : Int) = IntKind.i64.wrap (((BitVec.ofInt 64 x) &&& (BitVec.ofInt 64 (m : Int))).toNat : Int) := rfl
  have h1 : ((BitVec.ofInt 64 x) &&& (BitVec.ofInt 64 (m : Int))).toNat ≤ m := by
    rw [BitVec.toNat_and, BitVec.ofInt_natCast, BitVec.toNat_ofNat, Nat.mod_eq_of_lt (by omega)]
    exact Nat.and_le_right
  rw [e, IntKind.wrap_i64]
  omega
theorem and_255_range (x : Int) : 0 ≤ Go.bits .and .i64 x 255 ∧ Go.bits .and .i64 x 255 ≤ 255 := and_range x 255 (by decide)
/-- The cursor's place lies in its bytes. -/
def CurOk (b : List Int) (i : Int) : Prop := 0 ≤ i ∧ i ≤ b.length ∧ b.length ≤ 4194304
/-- It comes to an answer, and P holds of it. -/
def EvP {α : Type} (g : Nat → Option α) (P : α → Prop) : Prop := ∃ r, Ev g r ∧ P r
theorem EvP.bind {α β : Type} {c : Nat → Option α} {f : Nat → α → Option β} {Q : α → Prop} {P : β → Prop} (h : EvP c Q) (hf : ∀ a, Q a → EvP (fun k => f k a) P) : EvP (fun k => (c k).bind (f k)) P := by
  obtain ⟨a, ha, hq⟩ := h
  obtain ⟨r, hr, hp⟩ := hf a hq
  exact ⟨r, Ev.bind ha hr, hp⟩
theorem EvP.now {α : Type} {P : α → Prop} (r : α) (h : P r) : EvP (fun _ => some r) P := ⟨r, Ev.now r, h⟩
theorem EvP.of {α : Type} {g : Nat → Option α} {P : α → Prop} {r : α} (h : Ev g r) (hp : P r) : EvP g P := ⟨r, h, hp⟩
theorem EvP.imp {α : Type} {g : Nat → Option α} {P Q : α → Prop} (h : EvP g P) (hi : ∀ r, P r → Q r) : EvP g Q := by
  obtain ⟨r, hr, hp⟩ := h
  exact ⟨r, hr, hi r hp⟩
theorem Ev.succ {α : Type} {g : Nat → Option α} {r : α} (h : Ev (fun k => g (k + 1)) r) : Ev g r := Ev.step (fun _ => rfl) h
theorem EvP.succ {α : Type} {g : Nat → Option α} {P : α → Prop} (h : EvP (fun k => g (k + 1)) P) : EvP g P := by
  obtain ⟨r, hr, hp⟩ := h
  exact ⟨r, Ev.succ hr, hp⟩
theorem l1Byte_some (b : List Int) (i q : Int) (h : CurOk b i) : ∃ r i' q', spec_l1Byte.f b i q = some (r, i', q') ∧ CurOk b i' ∧ 0 ≤ r ∧ r ≤ 255 := by
  obtain ⟨h0, h1, h2⟩ := h
  simp only [spec_l1Byte.f]
  by_cases hi : i < (b.length : Int)
  · rw [if_pos hi, if_pos h0]
    refine ⟨_, _, _, rfl, ⟨?_, ?_, h2⟩, (and_255_range _).1, (and_255_range _).2⟩ <;> rw [w64 (by omega) (by omega)] <;> omega
  · rw [if_neg hi]
    exact ⟨_, _, _, rfl, ⟨h0, h1, h2⟩, (and_255_range _).1, (and_255_range _).2⟩
theorem l1Below_some (b : List Int) (i q n : Int) (h : CurOk b i) : ∃ r i' q', spec_l1Below.f b i q n = some (r, i', q') ∧ CurOk b i' ∧ 0 ≤ r ∧ (0 < n → r < n) := by
  simp only [spec_l1Below.f]
  by_cases h0 : n ≤ 0
  · rw [if_pos h0]
    exact ⟨_, _, _, rfl, h, by omega, by omega⟩
  · rw [if_neg h0]
    obtain ⟨r1, i1, q1, e1, c1, a1, b1⟩ := l1Byte_some b i q h
    by_cases h2 : n ≤ 256
    · rw [if_pos h2, e1]
      simp only [Option.bind_some]
      rw [if_neg (by omega), Int.tmod_eq_emod_of_nonneg a1]
      exact ⟨_, _, _, rfl, c1, Int.emod_nonneg _ (by omega), fun _ => Int.emod_lt_of_pos _ (by omega)⟩
    · obtain ⟨r2, i2, q2, e2, c2, a2, b2⟩ := l1Byte_some b i1 q1 c1
      obtain ⟨r3, i3, q3, e3, c3, a3, b3⟩ := l1Byte_some b i2 q2 c2
      obtain ⟨r4, i4, q4, e4, c4, a4, b4⟩ := l1Byte_some b i3 q3 c3
      rw [if_neg h2, e1]
      simp only [Option.bind_some, e2, e3, e4]
      rw [if_neg (by omega), w64 (x := r1 * 16777216) (by omega) (by omega), w64 (x := r2 * 65536) (by omega) (by omega), w64 (x := r3 * 256) (by omega) (by omega), w64 (x := r1 * 16777216 + r2 * 65536) (by omega) (by omega), w64 (x := r1 * 16777216 + r2 * 65536 + r3 * 256) (by omega) (by omega), w64 (by omega) (by omega), Int.tmod_eq_emod_of_nonneg (by omega)]
      exact ⟨_, _, _, rfl, c4, Int.emod_nonneg _ (by omega), fun _ => Int.emod_lt_of_pos _ (by omega)⟩
theorem l1Below_evp (b : List Int) (i q n : Int) (h : CurOk b i) : EvP (fun _ => spec_l1Below.f b i q n) (fun r => CurOk b r.2.1 ∧ 0 ≤ r.1 ∧ (0 < n → r.1 < n)) := by
  obtain ⟨r, i', q', e, c, h0, h1⟩ := l1Below_some b i q n h
  exact ⟨(r, i', q'), ev_some fun _ => e, c, h0, h1⟩
theorem l1PickInt_some (b : List Int) (i q : Int) (l : List Int) (h : CurOk b i) (hl : 0 < l.length) : ∃ r i' q', spec_l1PickInt.f b i q l = some (r, i', q') ∧ CurOk b i' ∧ r ∈ l := by
  obtain ⟨r, i', q', e, c, h0, h1⟩ := l1Below_some b i q l.length h
  have h1 := h1 (by omega)
  obtain ⟨n, rfl⟩ := Int.eq_ofNat_of_zero_le h0
  refine ⟨l[n]'(by omega), i', q', ?_, c, List.getElem_mem _⟩
  simp only [spec_l1PickInt.f, e, Option.bind_some]
  rw [if_pos h0, if_pos h1, rd_at (List.getElem?_eq_getElem (by omega))]
theorem l1PickInt_evp (b : List Int) (i q : Int) (l : List Int) (h : CurOk b i) (hl : 0 < l.length) : EvP (fun _ => spec_l1PickInt.f b i q l) (fun r => CurOk b r.2.1 ∧ r.1 ∈ l) := by
  obtain ⟨r, i', q', e, c, hm⟩ := l1PickInt_some b i q l h hl
  exact ⟨(r, i', q'), ev_some fun _ => e, c, hm⟩
def Small (x : Int) : Prop := -100 ≤ x ∧ x ≤ 100
theorem l6DrawRight_some (b : List Int) (i q : Int) (h : CurOk b i) : ∃ v0 v1 v2 v3 i' q', spec_l6DrawRight.f b i q = some (v0, v1, v2, v3, i', q') ∧ CurOk b i' ∧ Small v0 ∧ Small v1 ∧ Small v2 ∧ Small v3 := by
  obtain ⟨r1, i1, q1, e1, c1, a1, b1⟩ := l1Below_some b i q 4 h
  obtain ⟨r2, i2, q2, e2, c2, a2, b2⟩ := l1Below_some b i1 q1 4 c1
  obtain ⟨r3, i3, q3, e3, c3, a3, b3⟩ := l1Below_some b i2 q2 3 c2
  obtain ⟨r4, i4, q4, e4, c4, a4, b4⟩ := l1Below_some b i3 q3 3 c3
  have b1 := b1 (by omega)
  have b2 := b2 (by omega)
  have b3 := b3 (by omega)
  have b4 := b4 (by omega)
  simp only [spec_l6DrawRight.f, e1, e2, e3, e4, Option.bind_some]
  rw [w64 (x := 1 + r1) (by omega) (by omega), w64 (x := 1 + r1 + r3) (by omega) (by omega), w64 (x := 1 + r4) (by omega) (by omega)]
  split
  · exact ⟨_, _, _, _, _, _, rfl, c4, ⟨by omega, by omega⟩, ⟨by omega, by omega⟩, ⟨by omega, by omega⟩, ⟨by omega, by omega⟩⟩
  · exact ⟨_, _, _, _, _, _, rfl, c3, ⟨by omega, by omega⟩, ⟨by omega, by omega⟩, ⟨by omega, by omega⟩, ⟨by omega, by omega⟩⟩
theorem small_mem {x : Int} {l : List Int} (h : x ∈ l) (hl : (l.all fun y => decide (-100 ≤ y ∧ y ≤ 100)) = true) : Small x := by
  have := List.all_eq_true.1 hl x h
  show -100 ≤ x ∧ x ≤ 100
  exact of_decide_eq_true (show decide (-100 ≤ x ∧ x ≤ 100) = true from this)
theorem l6Draw_some (b : List Int) (i q : Int) (h : CurOk b i) : ∃ v0 v1 v2 v3 i' q', spec_l6Draw.f b i q = some (v0, v1, v2, v3, i', q') ∧ CurOk b i' ∧ Small v0 ∧ Small v1 ∧ Small v2 ∧ Small v3 := by
  obtain ⟨v0, v1, v2, v3, i1, q1, e1, c1, s0, s1, s2, s3⟩ := l6DrawRight_some b i q h
  obtain ⟨r, i2, q2, e2, c2, a2, b2⟩ := l1Below_some b i1 q1 10 c1
  obtain ⟨x0, j0, p0, f0, d0, m0⟩ := l1PickInt_some b i2 q2 [0, 9, 10] c2 (by simp)
  obtain ⟨x1, j1, p1, f1, d1, m1⟩ := l1PickInt_some b i2 q2 [-1, 0, 20, 21] c2 (by simp)
  obtain ⟨x3, j3, p3, f3, d3, m3⟩ := l1PickInt_some b i2 q2 [-1, 3, 4] c2 (by simp)
  have n0 : Small x0 := small_mem m0 (by decide)
  have n1 : Small x1 := small_mem m1 (by decide)
  have n3 : Small x3 := small_mem m3 (by decide)
  simp only [spec_l6Draw.f, e1, e2, f0, f1, f3, Option.bind_some]
  split
  · exact ⟨_, _, _, _, _, _, rfl, d0, n0, s1, s2, s3⟩
  split
  · exact ⟨_, _, _, _, _, _, rfl, d1, s0, n1, s2, s3⟩
  split
  · exact ⟨_, _, _, _, _, _, rfl, d0, s0, s1, n0, s3⟩
  split
  · exact ⟨_, _, _, _, _, _, rfl, d3, s0, s1, s2, n3⟩
  · exact ⟨_, _, _, _, _, _, rfl, c2, s0, s1, s2, s3⟩
theorem Small.in64 {x : Int} (h : Small x) : -9223372036854775808 ≤ x ∧ x ≤ 9223372036854775807 := ⟨by have := h.1; omega, by have := h.2; omega⟩
theorem l1Once_some (b : List Int) (i q n : Int) (h : CurOk b i) : ∃ r i' q', spec_l1Once.f b i q n = some (r, i', q') ∧ CurOk b i' := by
  obtain ⟨r, i', q', e, c, _⟩ := l1Below_some b i q n h
  exact ⟨r == 0, i', q', by simp [spec_l1Once.f, e], c⟩
theorem l1Once_evp (b : List Int) (i q n : Int) (h : CurOk b i) : EvP (fun _ => spec_l1Once.f b i q n) (fun r => CurOk b r.2.1) := by
  obtain ⟨r, i', q', e, c⟩ := l1Once_some b i q n h
  exact ⟨(r, i', q'), ev_some fun _ => e, c⟩
def vecOk (r c b p : Int) : Bool := decide (1 ≤ r ∧ r ≤ 9) && (decide (1 ≤ b ∧ b ≤ 9) && (decide (r ≤ b) && (decide (0 ≤ c ∧ c ≤ 20) && (((c == 0) == (r == b)) && decide (0 ≤ p ∧ p ≤ 3)))))
theorem vecOk_iff (r c b p : Int) : vecOk r c b p = true ↔ (1 ≤ r ∧ r ≤ 9) ∧ (1 ≤ b ∧ b ≤ 9) ∧ r ≤ b ∧ (0 ≤ c ∧ c ≤ 20) ∧ (c = 0 ↔ r = b) ∧ 0 ≤ p ∧ p ≤ 3 := by
  unfold vecOk
  have e1 : (c == 0) = decide (c = 0) := by by_cases h : c = 0 <;> simp [h]
  have e2 : (r == b) = decide (r = b) := by by_cases h : r = b <;> simp [h]
  rw [e1, e2]
  by_cases h1 : c = 0 <;> by_cases h2 : r = b <;> simp [h1, h2]
structure Prt where
  up : Bool
  has : Bool
  r : Int
  c : Int
  b : Int
  p : Int
  hops : Int
  left : Int
  role : Int
  wait : Int
  op : Bool
def Prt.tup (q : Prt) : Bool × Bool × Int × Int × Int × Int × Int × Int × Int × Int × Bool := (q.up, q.has, q.r, q.c, q.b, q.p, q.hops, q.left, q.role, q.wait, q.op)
def openBy (role wait : Int) : Bool := (role == 1 || role == 2) && wait == 0
def tailOk (up : Bool) (role wait : Int) (op : Bool) : Bool := decide (0 ≤ role ∧ role ≤ 3) && (((role == 0) == !up) && (decide (0 ≤ wait ∧ wait ≤ 4) && (op == openBy role wait)))
def headOk (q : Prt) : Bool :=
  if q.has then q.up && (vecOk q.r q.c q.b q.p && (decide (0 ≤ q.hops ∧ q.hops ≤ 8) && decide (1 ≤ q.left ∧ q.left ≤ 3)))
  else decide (q.r = 0) && (decide (q.c = 0) && (decide (q.b = 0) && (decide (q.p = 0) && (decide (q.hops = 0) && decide (q.left = 0)))))
def portOk (q : Prt) : Bool := headOk q && tailOk q.up q.role q.wait q.op
theorem l7Open_eq (up has : Bool) (r c b p hops left role wait : Int) (op : Bool) : spec_l7Open.f up has r c b p hops left role wait op = some (up, has, r, c, b, p, hops, left, role, wait, openBy role wait) := by
  simp only [spec_l7Open.f, openBy]
  by_cases h1 : role = 1 <;> by_cases h2 : role = 2 <;> simp [h1, h2]
def turnM (q : Prt) (role : Int) : Prt :=
  if (portOk q && (q.up && decide (1 ≤ role ∧ role ≤ 3))) = true then
    (if role = 3 then ⟨q.up, q.has, q.r, q.c, q.b, q.p, q.hops, q.left, role, 0, openBy role 0⟩
     else if q.role = 3 then ⟨q.up, q.has, q.r, q.c, q.b, q.p, q.hops, q.left, role, 4, openBy role 4⟩
     else ⟨q.up, q.has, q.r, q.c, q.b, q.p, q.hops, q.left, role, q.wait, openBy role q.wait⟩)
  else q
theorem l1In_eq (x lo hi : Int) : spec_l1In.f x lo hi = some (decide (lo ≤ x ∧ x ≤ hi)) := by
  simp only [spec_l1In.f]
  by_cases h : lo ≤ x
  · rw [if_pos h]; simp [h]
  · rw [if_neg h]; simp [h]
theorem specVecOk_eq (r c b p : Int) : spec_VecOk.f r c b p = some (vecOk r c b p) := by
  simp only [spec_VecOk.f, l1In_eq, Option.bind_some, vecOk]
  by_cases h1 : 1 ≤ r ∧ r ≤ 9 <;> by_cases h2 : 1 ≤ b ∧ b ≤ 9 <;> by_cases h3 : r ≤ b <;> by_cases h4 : 0 ≤ c ∧ c ≤ 20 <;> by_cases h5 : 0 ≤ p ∧ p ≤ 3 <;> simp [h1, h2, h3, h4, h5]
  all_goals (first | (cases (c == 0) <;> cases (r == b) <;> rfl) | omega)
theorem specPortTail0 (k : Nat) (fl up has : Bool) (r c b p hops left role wait : Int) (op : Bool) : spec_PortOk.j0 (k + 1) fl up has r c b p hops left role wait op = some (!fl && tailOk up role wait op) := by
  simp only [spec_PortOk.j0, l1In_eq, Option.bind_some, tailOk, openBy]
  cases fl
  · by_cases h1 : role = 1
    · subst h1
      by_cases hw : 0 ≤ wait ∧ wait ≤ 4 <;> cases up <;> simp [hw]
    · by_cases h2 : role = 2
      · subst h2
        by_cases hw : 0 ≤ wait ∧ wait ≤ 4 <;> cases up <;> simp [hw]
      · by_cases hr : 0 ≤ role ∧ role ≤ 3 <;> by_cases hw : 0 ≤ wait ∧ wait ≤ 4 <;> by_cases h0 : role = 0 <;> cases up <;> cases op <;> simp [h1, h2, hr, hw, h0]
  · simp
theorem specPortTail1 (k : Nat) (fl up has : Bool) (r c b p hops left role wait : Int) (op : Bool) : spec_PortOk.j1 (k + 1) fl up has r c b p hops left role wait op = some (!fl && tailOk up role wait op) := by
  simp only [spec_PortOk.j1, l1In_eq, Option.bind_some, tailOk, openBy]
  cases fl
  · by_cases h1 : role = 1
    · subst h1
      by_cases hw : 0 ≤ wait ∧ wait ≤ 4 <;> cases up <;> simp [hw]
    · by_cases h2 : role = 2
      · subst h2
        by_cases hw : 0 ≤ wait ∧ wait ≤ 4 <;> cases up <;> simp [hw]
      · by_cases hr : 0 ≤ role ∧ role ≤ 3 <;> by_cases hw : 0 ≤ wait ∧ wait ≤ 4 <;> by_cases h0 : role = 0 <;> cases up <;> cases op <;> simp [h1, h2, hr, hw, h0]
  · simp
theorem specPortOk_ev (up has : Bool) (r c b p hops left role wait : Int) (op : Bool) : Ev (fun k => spec_PortOk.f k up has r c b p hops left role wait op) (portOk ⟨up, has, r, c, b, p, hops, left, role, wait, op⟩) := by
  refine ev_end fun k => ?_
  simp only [spec_PortOk.f, specVecOk_eq, l1In_eq, Option.bind_some, specPortTail0, specPortTail1, portOk, headOk]
  cases has
  · by_cases r0 : r = 0 <;> by_cases c0 : c = 0 <;> by_cases b0 : b = 0 <;> by_cases p0 : p = 0 <;> by_cases h0 : hops = 0 <;> by_cases l0 : left = 0 <;> simp [r0, c0, b0, p0, h0, l0]
  · cases up <;> cases vecOk r c b p <;> by_cases h0 : 0 ≤ hops ∧ hops ≤ 8 <;> by_cases l0 : 1 ≤ left ∧ left ≤ 3 <;> simp [h0, l0]
theorem specTurn_ev (up has : Bool) (r c b p hops left role wait : Int) (op : Bool) (ro : Int) : Ev (fun k => spec_Turn.f k up has r c b p hops left role wait op ro) (turnM ⟨up, has, r, c, b, p, hops, left, role, wait, op⟩ ro).tup := by
  refine Ev.bind (specPortOk_ev up has r c b p hops left role wait op) ?_
  generalize hp : portOk ⟨up, has, r, c, b, p, hops, left, role, wait, op⟩ = po
  refine ⟨2, fun k hk => ?_⟩
  obtain ⟨j, rfl⟩ : ∃ j, k = j + 2 := ⟨k - 2, by omega⟩
  cases po
  · simp [spec_Turn.j0, turnM, hp, Prt.tup]
  · cases up
    · simp [spec_Turn.j0, turnM, hp, Prt.tup]
    · simp only [l1In_eq, Option.bind_some, if_true, spec_Turn.j0, spec_Turn.j1, l7Open_eq, turnM, hp, Prt.tup, Bool.true_and]
      by_cases hr : 1 ≤ ro ∧ ro ≤ 3
      · by_cases e3 : ro = 3
        · subst e3
          by_cases e : role = 3 <;> simp [e]
        · by_cases e : role = 3 <;> simp [hr, e3, e]
      · simp [hr]
/-- Which of two claims is the less. -/
def better (a b c d a' b' c' d' : Int) : Bool := decide (a < a' ∨ a = a' ∧ (b < b' ∨ b = b' ∧ (c < c' ∨ c = c' ∧ d < d')))
def claimM (q : Prt) (r c b p h : Int) : Prt :=
  if (portOk q && (q.up && (vecOk r c b p && decide (0 ≤ h ∧ h ≤ 8)))) = true then
    (if (q.has && (better q.r q.c q.b q.p r c b p && !(decide (q.b = b) && decide (q.p = p)))) = true then q else ⟨q.up, true, r, c, b, p, h, 3, q.role, q.wait, q.op⟩)
  else q
theorem specBetter_eq (a b c d a' b' c' d' : Int) : spec_Better.f a b c d a' b' c' d' = some (better a b c d a' b' c' d') := by
  simp only [spec_Better.f, better]
  by_cases h1 : a = a' <;> by_cases h2 : b = b' <;> by_cases h3 : c = c' <;> simp [h1, h2, h3] <;> omega
theorem specClaim_ev (up has : Bool) (r c b p hops left role wait : Int) (op : Bool) (r' c' b' p' h' : Int) : Ev (fun k => spec_Claim.f k up has r c b p hops left role wait op r' c' b' p' h') (claimM ⟨up, has, r, c, b, p, hops, left, role, wait, op⟩ r' c' b' p' h').tup := by
  refine Ev.bind (specPortOk_ev up has r c b p hops left role wait op) ?_
  generalize hp : portOk ⟨up, has, r, c, b, p, hops, left, role, wait, op⟩ = po
  refine ev_end fun k => ?_
  simp only [spec_Claim.j0, specVecOk_eq, l1In_eq, specBetter_eq, Option.bind_some, claimM, hp, Prt.tup]
  cases po
  · simp
  · cases up
    · simp
    · cases vecOk r' c' b' p'
      · simp
      · by_cases hh : 0 ≤ h' ∧ h' ≤ 8
        · cases has
          · simp [hh]
          · cases better r c b p r' c' b' p'
            · simp [hh]
            · by_cases e1 : b = b' <;> by_cases e2 : p = p' <;> simp [hh, e1, e2]
        · simp [hh]
def fadeM (q : Prt) : Prt := if (q.has && portOk q) = true then (if q.left - 1 = 0 then ⟨q.up, false, 0, 0, 0, 0, 0, 0, q.role, q.wait, q.op⟩ else ⟨q.up, q.has, q.r, q.c, q.b, q.p, q.hops, q.left - 1, q.role, q.wait, q.op⟩) else q
theorem portOk_left (q : Prt) (h : portOk q = true) (hh : q.has = true) : 1 ≤ q.left ∧ q.left ≤ 3 := by
  simp [portOk, headOk, hh] at h
  omega
theorem specFade_ev (up has : Bool) (r c b p hops left role wait : Int) (op : Bool) : Ev (fun k => spec_Fade.f k up has r c b p hops left role wait op) (fadeM ⟨up, has, r, c, b, p, hops, left, role, wait, op⟩).tup := by
  refine Ev.bind (specPortOk_ev up has r c b p hops left role wait op) ?_
  generalize hp : portOk ⟨up, has, r, c, b, p, hops, left, role, wait, op⟩ = po
  refine ev_end fun k => ?_
  cases po
  · simp [spec_Fade.j0, fadeM, hp, Prt.tup]
  · cases has
    · simp [spec_Fade.j0, fadeM, hp, Prt.tup]
    · have := portOk_left _ hp rfl
      dsimp only at this
      simp only [spec_Fade.j0, fadeM, hp, Prt.tup]
      rw [w64 (by omega) (by omega)]
      by_cases e : left - 1 = 0 <;> simp [e]
theorem l6DrawRight_evp (b : List Int) (i q : Int) (h : CurOk b i) : EvP (fun _ => spec_l6DrawRight.f b i q) (fun r => CurOk b r.2.2.2.2.1) := by
  obtain ⟨v0, v1, v2, v3, i1, q1, e1, c1, _⟩ := l6DrawRight_some b i q h
  exact ⟨_, ev_some fun _ => e1, c1⟩
theorem l6Draw_evp (b : List Int) (i q : Int) (h : CurOk b i) : EvP (fun _ => spec_l6Draw.f b i q) (fun r => CurOk b r.2.2.2.2.1) := by
  obtain ⟨v0, v1, v2, v3, i1, q1, e1, c1, _⟩ := l6Draw_some b i q h
  exact ⟨_, ev_some fun _ => e1, c1⟩
theorem EvP.told {α : Type} {g : Nat → Option α} {r : α} (h : Ev g r) : EvP g (fun _ => True) := ⟨r, h, trivial⟩
theorem l7Open_evp (up has : Bool) (r c b p hops left role wait : Int) (op : Bool) : EvP (fun _ => spec_l7Open.f up has r c b p hops left role wait op) (fun _ => True) := EvP.told (ev_some fun _ => l7Open_eq up has r c b p hops left role wait op)
def CurP (b : List Int) (r : Bool × Bool × Int × Int × Int × Int × Int × Int × Int × Int × Bool × Int × Int) : Prop := CurOk b r.2.2.2.2.2.2.2.2.2.2.2.1
theorem l7DrawRight_evp (b : List Int) (i q : Int) (h : CurOk b i) : EvP (fun k => spec_l7DrawRight.f k b i q) (CurP b) := by
  simp only [spec_l7DrawRight.f]
  refine EvP.bind (l1Once_evp b i q 5 h) (fun r0 h0 => ?_)
  by_cases e0 : r0.1 = true
  · simp only [if_pos e0]
    exact EvP.now _ h0
  simp only [if_neg e0]
  refine EvP.bind (l1PickInt_evp b _ _ _ h0 (by simp)) (fun r1 h1 => ?_)
  refine EvP.bind (l1Once_evp b _ _ 3 h1.1) (fun r2 h2 => ?_)
  by_cases e1 : r2.1 = true
  · simp only [if_pos e1]
    refine EvP.bind (l7Open_evp _ _ _ _ _ _ _ _ _ _ _) (fun r3 _ => ?_)
    refine EvP.bind (l1Below_evp b _ _ 3 h2) (fun r4 h4 => ?_)
    refine EvP.bind (EvP.told (specTurn_ev _ _ _ _ _ _ _ _ _ _ _ _)) (fun r5 _ => ?_)
    exact EvP.now _ h4.1
  simp only [if_neg e1]
  refine EvP.bind (l7Open_evp _ _ _ _ _ _ _ _ _ _ _) (fun r3 _ => ?_)
  refine EvP.bind (l6DrawRight_evp b _ _ h2) (fun r4 h4 => ?_)
  refine EvP.bind (l1Below_evp b _ _ 4 h4) (fun r5 h5 => ?_)
  refine EvP.bind (EvP.told (specClaim_ev _ _ _ _ _ _ _ _ _ _ _ _ _ _ _ _)) (fun r6 _ => ?_)
  refine EvP.bind (l1Once_evp b _ _ 3 h5.1) (fun r7 h7 => ?_)
  by_cases e2 : r7.1 = true
  · simp only [if_pos e2]
    refine EvP.bind (EvP.told (specFade_ev _ _ _ _ _ _ _ _ _ _ _)) (fun r8 _ => ?_)
    refine EvP.bind (l7Open_evp _ _ _ _ _ _ _ _ _ _ _) (fun r9 _ => ?_)
    refine EvP.bind (l1Below_evp b _ _ 3 h7) (fun r10 h10 => ?_)
    refine EvP.bind (EvP.told (specTurn_ev _ _ _ _ _ _ _ _ _ _ _ _)) (fun r11 _ => ?_)
    exact EvP.now _ h10.1
  · simp only [if_neg e2]
    refine EvP.bind (l7Open_evp _ _ _ _ _ _ _ _ _ _ _) (fun r9 _ => ?_)
    refine EvP.bind (l1Below_evp b _ _ 3 h7) (fun r10 h10 => ?_)
    refine EvP.bind (EvP.told (specTurn_ev _ _ _ _ _ _ _ _ _ _ _ _)) (fun r11 _ => ?_)
    exact EvP.now _ h10.1
theorem l7Draw_evp (b : List Int) (i q : Int) (h : CurOk b i) : EvP (fun k => spec_l7Draw.f k b i q) (CurP b) := by
  simp only [spec_l7Draw.f]
  refine EvP.bind (l7DrawRight_evp b i q h) (fun r0 h0 => ?_)
  refine EvP.bind (l1Below_evp b _ _ 12 h0) (fun r1 h1 => ?_)
  by_cases e0 : r1.1 = 0
  · simp only [if_pos e0]
    exact EvP.now _ h1.1
  simp only [if_neg e0]
  by_cases e1 : r1.1 = 1
  · simp only [if_pos e1]
    refine EvP.bind (l6Draw_evp b _ _ h1.1) (fun r2 h2 => ?_)
    exact EvP.now _ h2
  simp only [if_neg e1]
  by_cases e2 : r1.1 = 2
  · simp only [if_pos e2]
    refine EvP.bind (l1PickInt_evp b _ _ _ h1.1 (by simp)) (fun r2 h2 => ?_)
    exact EvP.now _ h2.1
  simp only [if_neg e2]
  by_cases e3 : r1.1 = 3
  · simp only [if_pos e3]
    refine EvP.bind (l1Below_evp b _ _ 6 h1.1) (fun r2 h2 => ?_)
    exact EvP.now _ h2.1
  simp only [if_neg e3]
  by_cases e4 : r1.1 = 4
  · simp only [if_pos e4]
    exact EvP.now _ h1.1
  simp only [if_neg e4]
  by_cases e5 : r1.1 = 5
  · simp only [if_pos e5]
    refine EvP.bind (l1PickInt_evp b _ _ _ h1.1 (by simp)) (fun r2 h2 => ?_)
    exact EvP.now _ h2.1
  simp only [if_neg e5]
  exact EvP.now _ h1.1
theorem l1New_ev (l : List Int) (h : l.length ≤ 4194304) : ∃ q : Int, Ev (fun k => spec_l1New.f k l) (l, 0, q) := by
  have key : ∀ (d i : Nat) (q : Int), i + d = l.length → ∃ q' : Int, Ev (fun k => spec_l1New.l0 k l q (i : Int)) (l, 0, q') := by
    intro d
    induction d with
    | zero =>
      intro i q hi
      refine ⟨q, ev_end fun k => ?_⟩
      simp only [spec_l1New.l0]
      rw [if_neg (by omega)]
    | succ d ih =>
      intro i q hi
      by_cases h4 : (i : Int) < 4000
      · obtain ⟨q', hq⟩ := ih (i + 1) (Go.bits .and .i64 (wrap64 ((wrap64 ((wrap64 (q * 131)) + (wrap64 (rd l (i : Int))))) + 7)) 1073741823) (by omega)
        refine ⟨q', Ev.step (fun k => ?_) hq⟩
        simp only [spec_l1New.l0]
        rw [if_pos (by omega), if_pos h4, if_pos (by omega), w64_succ (by omega)]
      · refine ⟨q, ev_end fun k => ?_⟩
        simp only [spec_l1New.l0]
        rw [if_pos (by omega), if_neg h4]
  exact key l.length 0 _ (by omega)
theorem inRange_eq (x lo hi : Int) : impl_inRange.f x lo hi = some (decide (lo ≤ x ∧ x ≤ hi)) := by
  simp only [impl_inRange.f]
  by_cases h : lo ≤ x
  · rw [if_pos h]; simp [h]
  · rw [if_neg h]; simp [h]
theorem isPort_eq (x : Int) : impl_isPort.f x = some (decide (0 ≤ x ∧ x ≤ 3)) := by simp [impl_isPort.f, inRange_eq]
theorem implVecOk_eq (r c b p : Int) : impl_VecOk.f r c b p = some (vecOk r c b p) := by
  simp only [impl_VecOk.f, inRange_eq, isPort_eq, Option.bind_some, vecOk]
  by_cases h1 : 1 ≤ r ∧ r ≤ 9 <;> by_cases h2 : 1 ≤ b ∧ b ≤ 9 <;> by_cases h3 : r ≤ b <;> by_cases h4 : 0 ≤ c ∧ c ≤ 20 <;> by_cases h5 : 0 ≤ p ∧ p ≤ 3 <;> simp [h1, h2, h3, h4, h5]
  all_goals (first | (cases (c == 0) <;> cases (r == b) <;> rfl) | omega)
theorem isHops_eq (x : Int) : impl_isHops.f x = some (decide (0 ≤ x ∧ x ≤ 8)) := by simp [impl_isHops.f, inRange_eq]
theorem isOpenBy_eq (up has : Bool) (r c b p hops left role wait : Int) (op : Bool) : impl_Port_isOpenBy.f up has r c b p hops left role wait op = some (openBy role wait) := by
  simp only [impl_Port_isOpenBy.f, openBy]
  by_cases h1 : role = 1 <;> by_cases h2 : role = 2 <;> simp [h1, h2]
theorem implPortTail1 (k : Nat) (fl up has : Bool) (r c b p hops left role wait : Int) (op : Bool) : impl_PortOk.j1 (k + 1) fl up has r c b p hops left role wait op = some (!fl && tailOk up role wait op) := by
  simp only [impl_PortOk.j1, inRange_eq, isOpenBy_eq, Option.bind_some, tailOk]
  cases fl
  · by_cases hr : 0 ≤ role ∧ role ≤ 3 <;> by_cases hw : 0 ≤ wait ∧ wait ≤ 4 <;> by_cases h0 : role = 0 <;> cases up <;> simp [hr, hw, h0]
  · simp
theorem implPortOk_ev (up has : Bool) (r c b p hops left role wait : Int) (op : Bool) : Ev (fun k => impl_PortOk.f k up has r c b p hops left role wait op) (portOk ⟨up, has, r, c, b, p, hops, left, role, wait, op⟩) := by
  refine ⟨2, fun k hk => ?_⟩
  obtain ⟨j, rfl⟩ : ∃ j, k = j + 2 := ⟨k - 2, by omega⟩
  simp only [impl_PortOk.f, impl_PortOk.j0, implVecOk_eq, inRange_eq, isHops_eq, Option.bind_some, implPortTail1, portOk, headOk]
  cases has
  · by_cases r0 : r = 0 <;> by_cases c0 : c = 0 <;> by_cases b0 : b = 0 <;> by_cases p0 : p = 0 <;> by_cases h0 : hops = 0 <;> by_cases l0 : left = 0 <;> simp [r0, c0, b0, p0, h0, l0]
  · cases up <;> cases vecOk r c b p <;> by_cases h0 : 0 ≤ hops ∧ hops ≤ 8 <;> by_cases l0 : 1 ≤ left ∧ left ≤ 3 <;> simp [h0, l0]
theorem compare_eq (a b : Int) : cmp_Compare_int.f a b = some (if a < b then -1 else if a > b then 1 else 0) := by
  simp only [cmp_Compare_int.f, cmp_isNaN_int.f, Option.bind_some, bne_self_eq_false]
  simp only [Bool.false_eq_true, if_false]
  (repeat' split) <;> rfl
theorem or_ev (a b c d : Int) : Ev (fun k => cmp_Or_int.f k [a, b, c, d]) (if a ≠ 0 then a else if b ≠ 0 then b else if c ≠ 0 then c else if d ≠ 0 then d else 0) := by
  refine ⟨5, fun k hk => ?_⟩
  obtain ⟨j, rfl⟩ : ∃ j, k = j + 5 := ⟨k - 5, by omega⟩
  simp [cmp_Or_int.f, cmp_Or_int.l0, rd, wrap64]
  (repeat' split) <;> simp_all
theorem implBetter_ev (a b c d a' b' c' d' : Int) : Ev (fun k => impl_Better.f k a b c d a' b' c' d') (better a b c d a' b' c' d') := by
  simp only [impl_Better.f, compare_eq, Option.bind_some]
  refine Ev.bind (or_ev _ _ _ _) (ev_some fun _ => ?_)
  simp only [better]
  congr 1
  rw [decide_eq_decide]
  (repeat' split) <;> omega
theorem claimJ_true (j : Nat) (up has : Bool) (r c b p hops left role wait : Int) (op : Bool) (r' c' b' p' h' : Int) : impl_Claim.j0 (j + 1) h' true up has r c b p hops left role wait op r' c' b' p' = some (up, has, r, c, b, p, hops, left, role, wait, op) := by
  simp only [impl_Claim.j0, if_true]
theorem implClaim_ev (up has : Bool) (r c b p hops left role wait : Int) (op : Bool) (r' c' b' p' h' : Int) : Ev (fun k => impl_Claim.f k up has r c b p hops left role wait op r' c' b' p' h') (claimM ⟨up, has, r, c, b, p, hops, left, role, wait, op⟩ r' c' b' p' h').tup := by
  obtain ⟨K1, h1⟩ := implPortOk_ev up has r c b p hops left role wait op
  obtain ⟨K2, h2⟩ := implBetter_ev r c b p r' c' b' p'
  refine ⟨K1 + K2 + 2, fun k hk => ?_⟩
  obtain ⟨j, rfl⟩ : ∃ j, k = j + 2 := ⟨k - 2, by omega⟩
  have e1 := h1 (j + 2) (by omega)
  have e2 := h2 (j + 1) (by omega)
  simp only [impl_Claim.f, implVecOk_eq, isHops_eq, e1, Option.bind_some, claimJ_true]
  cases up with
  | false =>
    simp only [Bool.false_eq_true, if_false, claimM, Bool.false_and, Bool.and_false, Prt.tup]
  | true =>
    simp only [if_true]
    by_cases hh : 0 ≤ h' ∧ h' ≤ 8
    · simp only [hh, and_self, decide_true, if_true]
      cases hv : vecOk r' c' b' p' with
      | false => simp only [Bool.false_eq_true, if_false, claimM, hv, Bool.false_and, Bool.and_false, Prt.tup]
      | true =>
        simp only [if_true]
        cases hp : portOk ⟨true, has, r, c, b, p, hops, left, role, wait, op⟩ with
        | false => simp only [Bool.not_false, claimJ_true, claimM, hp, Bool.false_eq_true, if_false, Bool.false_and, Prt.tup]
        | true =>
          simp only [Bool.not_true, impl_Claim.j0, impl_Claim.j1, impl_Claim.j2, Bool.not_false, Bool.false_eq_true, if_false, e2, Option.bind_some, claimM, hp, hv, hh, and_self, decide_true, Bool.and_self, if_true]
          cases has with
          | false =>
            simp only [Bool.false_eq_true, if_false, Bool.false_and, Prt.tup]
            split <;> rfl
          | true =>
            simp only [if_true, Bool.true_and]
            cases better r c b p r' c' b' p' with
            | false =>
              simp only [Bool.false_eq_true, if_false, Bool.false_and, Prt.tup]
              split <;> rfl
            | true =>
              simp only [if_true, Bool.true_and]
              by_cases e1 : b' = b
              · subst e1
                by_cases e2 : p' = p
                · subst e2
                  simp [Prt.tup]
                · have e2' : ¬ p = p' := fun h => e2 h.symm
                  simp [Prt.tup, e2, e2']
              · have e1' : ¬ b = b' := fun h => e1 h.symm
                simp [Prt.tup, e1, e1']
    · simp only [hh, decide_false, Bool.false_eq_true, if_false, claimM, Bool.and_false, Prt.tup]
theorem implFade_ev (up has : Bool) (r c b p hops left role wait : Int) (op : Bool) : Ev (fun k => impl_Fade.f k up has r c b p hops left role wait op) (fadeM ⟨up, has, r, c, b, p, hops, left, role, wait, op⟩).tup := by
  cases has
  · refine ev_end fun k => ?_
    simp [impl_Fade.f, impl_Fade.j0, fadeM, Prt.tup]
  · simp only [impl_Fade.f, if_true]
    refine Ev.bind (implPortOk_ev up true r c b p hops left role wait op) ?_
    generalize hp : portOk ⟨up, true, r, c, b, p, hops, left, role, wait, op⟩ = po
    refine ev_end fun k => ?_
    cases po
    · simp [impl_Fade.j0, fadeM, hp, Prt.tup]
    · have := portOk_left _ hp rfl
      dsimp only at this
      simp only [impl_Fade.j0, fadeM, hp, Prt.tup]
      rw [w64 (by omega) (by omega)]
      by_cases e : left - 1 = 0 <;> simp [e]
theorem implTurn_ev (up has : Bool) (r c b p hops left role wait : Int) (op : Bool) (ro : Int) : Ev (fun k => impl_Turn.f k up has r c b p hops left role wait op ro) (turnM ⟨up, has, r, c, b, p, hops, left, role, wait, op⟩ ro).tup := by
  cases up
  · refine ev_end fun k => ?_
    simp [impl_Turn.f, impl_Turn.j0, turnM, Prt.tup]
  · simp only [impl_Turn.f, if_true, inRange_eq, Option.bind_some]
    by_cases hr : 1 ≤ ro ∧ ro ≤ 3
    · simp only [hr, and_self, decide_true, if_true]
      refine Ev.bind (implPortOk_ev true has r c b p hops left role wait op) ?_
      generalize hp : portOk ⟨true, has, r, c, b, p, hops, left, role, wait, op⟩ = po
      refine ev_end fun k => ?_
      cases po
      · simp [impl_Turn.j0, turnM, hp, Prt.tup]
      · simp only [impl_Turn.j0, isOpenBy_eq, Option.bind_some, turnM, hp, Prt.tup, Bool.true_and]
        by_cases e3 : ro = 3
        · subst e3
          simp
        · by_cases e : role = 3 <;> simp [hr, e3, e]
    · refine ev_end fun k => ?_
      simp [hr, impl_Turn.j0, turnM, Prt.tup]
theorem claimM_ok (q : Prt) (r c b p h : Int) (hq : portOk q = true) : portOk (claimM q r c b p h) = true ∧ (q.has = true → (claimM q r c b p h).has = true) := by
  unfold claimM
  split
  · rename_i h1
    split
    · exact ⟨hq, id⟩
    · simp only [Bool.and_eq_true, decide_eq_true_eq] at h1
      obtain ⟨_, hu, hv, hh⟩ := h1
      simp only [portOk, Bool.and_eq_true] at hq ⊢
      refine ⟨⟨?_, hq.2⟩, fun _ => (by trivial)⟩
      simp [headOk, hu, hv, hh]
  · exact ⟨hq, id⟩
theorem turnM_ok (q : Prt) (role : Int) (hq : portOk q = true) : portOk (turnM q role) = true := by
  unfold turnM
  split
  · rename_i h1
    simp only [Bool.and_eq_true, decide_eq_true_eq] at h1
    obtain ⟨_, hu, hr⟩ := h1
    have h0 : ¬ role = 0 := by omega
    simp only [portOk, Bool.and_eq_true] at hq
    obtain ⟨hh, ht⟩ := hq
    simp only [tailOk, Bool.and_eq_true, decide_eq_true_eq] at ht
    obtain ⟨_, _, hw, _⟩ := ht
    have hh' : ∀ (ro wa : Int) (o : Bool), headOk ⟨q.up, q.has, q.r, q.c, q.b, q.p, q.hops, q.left, ro, wa, o⟩ = true := fun _ _ _ => hh
    rw [hu] at hh'
    have h3 : 0 ≤ role ∧ role ≤ 3 := by omega
    split
    · simp [portOk, hh', tailOk, hu, h0, h3]
    · split
      · simp [portOk, hh', tailOk, hu, h0, h3]
      · simp [portOk, hh', tailOk, hu, h0, h3, hw]
  · exact hq
theorem fadeM_lt (q : Prt) (hq : portOk q = true) : (fadeM q).left < q.left ∨ fadeM q = q := by
  unfold fadeM
  split
  · rename_i h1
    simp only [Bool.and_eq_true] at h1
    have := portOk_left q hq h1.1
    split
    · exact Or.inl (by dsimp only; omega)
    · exact Or.inl (by dsimp only; omega)
  · exact Or.inr rfl
theorem FnPorts : FnPortsPure := by
  intro l hlw
  refine Ev.rounds ?_
  simp only [laws_FnPorts.f, laws_big.f, Option.bind_some]
  by_cases hbig : (l.length : Int) > 1048576
  · exact ev_some fun _ => by simp [hbig]
  simp only [hbig, decide_false, Bool.false_eq_true, if_false]
  obtain ⟨q, hq⟩ := l1New_ev l (by omega)
  have c0 : CurOk l 0 := ⟨by omega, by omega, by omega⟩
  obtain ⟨⟨p0, p1, p2, p3, p4, p5, p6, p7, p8, p9, p10, v0, v1, v2, v3, v4⟩, hc, _⟩ : EvP (fun k => spec_DrawClaim.f k l) (fun _ => True) := by
    simp only [spec_DrawClaim.f]
    refine EvP.bind (EvP.of hq (P := fun r => r = (l, 0, q)) rfl) (fun r hr => ?_)
    subst hr
    refine EvP.bind (l7Draw_evp l 0 q c0) (fun r1 h1 => ?_)
    refine EvP.bind (l6Draw_evp l _ _ h1) (fun r2 h2 => ?_)
    refine EvP.bind (l1Once_evp l _ _ 3 h2) (fun r3 h3 => ?_)
    by_cases e1 : r3.1 = true
    · simp only [if_pos e1]
      by_cases e2 : r1.2.1 = true
      · simp only [if_pos e2]
        exact EvP.bind (l1PickInt_evp l _ _ _ h3 (by simp)) (fun r4 h4 => EvP.now _ trivial)
      · simp only [if_neg e2]
        exact EvP.bind (l1PickInt_evp l _ _ _ h3 (by simp)) (fun r4 h4 => EvP.now _ trivial)
    · simp only [if_neg e1]
      exact EvP.bind (l1PickInt_evp l _ _ _ h3 (by simp)) (fun r4 h4 => EvP.now _ trivial)
  obtain ⟨⟨q0, q1, q2, q3, q4, q5, q6, q7, q8, q9, q10⟩, hf, _⟩ : EvP (fun k => spec_DrawFade.f k l) (fun _ => True) := by
    simp only [spec_DrawFade.f]
    refine EvP.bind (EvP.of hq (P := fun r => r = (l, 0, q)) rfl) (fun r hr => ?_)
    subst hr
    exact EvP.bind (l7Draw_evp l 0 q c0) (fun r1 h1 => EvP.now _ trivial)
  obtain ⟨⟨r0, r1, r2, r3, r4, r5, r6, r7, r8, r9, r10, ro⟩, ht, _⟩ : EvP (fun k => spec_DrawTurn.f k l) (fun _ => True) := by
    simp only [spec_DrawTurn.f]
    refine EvP.bind (EvP.of hq (P := fun r => r = (l, 0, q)) rfl) (fun r hr => ?_)
    subst hr
    refine EvP.bind (l7Draw_evp l 0 q c0) (fun r1 h1 => ?_)
    exact EvP.bind (l1Below_evp l _ _ 6 h1) (fun r2 h2 => EvP.now _ trivial)
  obtain ⟨⟨o0, o1, o2, o3, o4, o5, o6, o7, o8, o9, o10⟩, ho, _⟩ : EvP (fun k => spec_DrawPortOk.f k l) (fun _ => True) := by
    simp only [spec_DrawPortOk.f]
    refine EvP.bind (EvP.of hq (P := fun r => r = (l, 0, q)) rfl) (fun r hr => ?_)
    subst hr
    exact EvP.bind (l7Draw_evp l 0 q c0) (fun r1 h1 => EvP.now _ trivial)
  refine Ev.bind hc ?_
  refine Ev.bind (implClaim_ev p0 p1 p2 p3 p4 p5 p6 p7 p8 p9 p10 v0 v1 v2 v3 v4) ?_
  refine Ev.bind hf ?_
  refine Ev.bind (implFade_ev q0 q1 q2 q3 q4 q5 q6 q7 q8 q9 q10) ?_
  refine Ev.bind ht ?_
  refine Ev.bind (implTurn_ev r0 r1 r2 r3 r4 r5 r6 r7 r8 r9 r10 ro) ?_
  refine Ev.bind ho ?_
  refine Ev.bind (specClaim_ev p0 p1 p2 p3 p4 p5 p6 p7 p8 p9 p10 v0 v1 v2 v3 v4) ?_
  have hA := claimM_ok ⟨p0, p1, p2, p3, p4, p5, p6, p7, p8, p9, p10⟩ v0 v1 v2 v3 v4
  have hT := turnM_ok ⟨r0, r1, r2, r3, r4, r5, r6, r7, r8, r9, r10⟩ ro
  have hF := fadeM_lt ⟨q0, q1, q2, q3, q4, q5, q6, q7, q8, q9, q10⟩
  have sF := specFade_ev q0 q1 q2 q3 q4 q5 q6 q7 q8 q9 q10
  have sT := specTurn_ev r0 r1 r2 r3 r4 r5 r6 r7 r8 r9 r10 ro
  generalize claimM ⟨p0, p1, p2, p3, p4, p5, p6, p7, p8, p9, p10⟩ v0 v1 v2 v3 v4 = a at hA ⊢
  generalize turnM ⟨r0, r1, r2, r3, r4, r5, r6, r7, r8, r9, r10⟩ ro = t at hT sT ⊢
  generalize fadeM ⟨q0, q1, q2, q3, q4, q5, q6, q7, q8, q9, q10⟩ = b at hF sF ⊢
  obtain ⟨a0, a1, a2, a3, a4, a5, a6, a7, a8, a9, a10⟩ := a
  obtain ⟨b0, b1, b2, b3, b4, b5, b6, b7, b8, b9, b10⟩ := b
  obtain ⟨t0, t1, t2, t3, t4, t5, t6, t7, t8, t9, t10⟩ := t
  simp only [Prt.tup, beq_self_eq_true, Bool.not_true, Bool.or_self, Bool.false_eq_true, if_false] at sF sT ⊢
  refine Ev.bind sF ?_
  simp only [Prt.tup, beq_self_eq_true, Bool.not_true, Bool.or_self, Bool.false_eq_true, if_false]
  refine Ev.bind sT ?_
  simp only [Prt.tup, beq_self_eq_true, Bool.not_true, Bool.or_self, Bool.false_eq_true, if_false]
  refine Ev.bind (implPortOk_ev o0 o1 o2 o3 o4 o5 o6 o7 o8 o9 o10) ?_
  refine Ev.bind (specPortOk_ev o0 o1 o2 o3 o4 o5 o6 o7 o8 o9 o10) ?_
  simp only [bne_self_eq_false]
  refine Ev.succ ?_
  simp only [laws_FnPorts.j0, Bool.false_eq_true, if_false]
  have j1 : Ev (fun k => laws_FnPorts.j1 k false q0 q1 q2 q3 q4 q5 q6 q7 q8 q9 q10 b0 b1 b2 b3 b4 b5 b6 b7 b8 b9 b10) true := by
    refine Ev.succ ?_
    simp only [laws_FnPorts.j1, Bool.false_eq_true, if_false]
    refine Ev.bind (implPortOk_ev q0 q1 q2 q3 q4 q5 q6 q7 q8 q9 q10) ?_
    cases hq : portOk ⟨q0, q1, q2, q3, q4, q5, q6, q7, q8, q9, q10⟩ with
    | false => exact ev_some fun _ => rfl
    | true =>
      simp only [if_true]
      rcases hF hq with hlt | heq
      · simp only [show b7 < q7 from hlt, if_true]
        exact ev_some fun _ => rfl
      · injection heq with e0 e1 e2 e3 e4 e5 e6 e7 e8 e9 e10
        subst e0 e1 e2 e3 e4 e5 e6 e7 e8 e9 e10
        exact ev_some fun _ => by simp
  have jt : Ev (fun k => (impl_PortOk.f k r0 r1 r2 r3 r4 r5 r6 r7 r8 r9 r10).bind fun t709 => (if t709 = true then ((impl_PortOk.f k t0 t1 t2 t3 t4 t5 t6 t7 t8 t9 t10).bind fun t710 => (laws_FnPorts.j1 k (!t710) q0 q1 q2 q3 q4 q5 q6 q7 q8 q9 q10 b0 b1 b2 b3 b4 b5 b6 b7 b8 b9 b10)) else (laws_FnPorts.j1 k false q0 q1 q2 q3 q4 q5 q6 q7 q8 q9 q10 b0 b1 b2 b3 b4 b5 b6 b7 b8 b9 b10))) true := by
    refine Ev.bind (implPortOk_ev r0 r1 r2 r3 r4 r5 r6 r7 r8 r9 r10) ?_
    cases hr : portOk ⟨r0, r1, r2, r3, r4, r5, r6, r7, r8, r9, r10⟩ with
    | false => simp only [Bool.false_eq_true, if_false]; exact j1
    | true =>
      simp only [if_true]
      refine Ev.bind (implPortOk_ev t0 t1 t2 t3 t4 t5 t6 t7 t8 t9 t10) ?_
      rw [hT hr]
      exact j1
  refine Ev.bind (implPortOk_ev p0 p1 p2 p3 p4 p5 p6 p7 p8 p9 p10) ?_
  cases hp : portOk ⟨p0, p1, p2, p3, p4, p5, p6, p7, p8, p9, p10⟩ with
  | false => simp only [Bool.false_eq_true, if_false]; exact jt
  | true =>
    simp only [if_true]
    refine Ev.bind (implPortOk_ev a0 a1 a2 a3 a4 a5 a6 a7 a8 a9 a10) ?_
    rw [(hA hp).1]
    simp only [if_true]
    by_cases e1 : p1 = true
    · have := (hA hp).2 e1
      dsimp only at this
      simp only [if_pos e1, if_pos this]
      exact jt
    · simp only [if_neg e1]
      exact jt
end Go.Proofs.Ytaoipjdmmamkmaa.Pure

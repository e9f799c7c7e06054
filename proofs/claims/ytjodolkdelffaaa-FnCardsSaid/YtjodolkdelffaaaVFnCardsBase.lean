/- A part of the proof of laws.FnCards. No condition beyond what its theorems say. -/
/- Plain lemmas for the printed functions: numbers that do not wrap, lists read at an index, loops over a list. -/
import Derived.Test.YtjodolkdelffaaaVFnCardsWWords
import Derived.Test.YtjodolkdelffaaaVFnCardsWLast
namespace Go.Proofs.Ytjodolkdelffaaa.Base
open Go.RowKit Go.Proofs.YtjodolkdelffaaaW.PrintWords Go.Proofs.YtjodolkdelffaaaW.PrintLast

theorem w64 {x : Int} (h0 : -9223372036854775808 ≤ x) (h1 : x ≤ 9223372036854775807) : wrap64 x = x := by
 unfold wrap64
 omega
theorem w64_range (x : Int) : -9223372036854775808 ≤ wrap64 x ∧ wrap64 x ≤ 9223372036854775807 := by
 unfold wrap64
 omega
theorem w64_succ {i : Nat} (h : (i : Int) < 4611686018427387904) : wrap64 ((i : Int) + 1) = ((i + 1 : Nat) : Int) := by
 rw [w64 (by omega) (by omega)]
 omega
theorem wf64 {x : Int} (h : (Lit.int .i64 x).wf = true) : -9223372036854775808 ≤ x ∧ x ≤ 9223372036854775807 := by
 simp [Lit.wf, IntKind.min, IntKind.max, IntKind.signed, IntKind.bits] at h
 omega
theorem wf8 {x : Int} (h : (Lit.int .u8 x).wf = true) : 0 ≤ x ∧ x < 256 := by
 simp [Lit.wf, IntKind.min, IntKind.max, IntKind.signed, IntKind.bits] at h
 omega
theorem rd_at {l : List Int} {i : Nat} {x : Int} (h : l[i]? = some x) : rd l (i : Int) = x := by
 simp [rd, List.getD, h]
theorem getD_at {α : Type} {l : List α} {i : Nat} {x z : α} (h : l[i]? = some x) : l.getD ((i : Int).toNat) z = x := by
 simp [List.getD, h]

theorem ev_list {α σ ρ : Type} (l : List α) (F : Nat → σ → Int → Option ρ) (m : σ → List α → ρ) (I : Nat → σ → Prop)
  (hnil : ∀ s, I l.length s → Ev (fun k => F k s (l.length : Int)) (m s []))
  (hcons : ∀ (i : Nat) s x t, I i s → i < l.length → l.drop i = x :: t → l[i]? = some x → (∀ s', I (i + 1) s' → Ev (fun k => F k s' ((i + 1 : Nat) : Int)) (m s' t)) → Ev (fun k => F k s (i : Int)) (m s (x :: t)))
  (s : σ) (h : I 0 s) : Ev (fun k => F k s 0) (m s l) := by
 have key : ∀ (d i : Nat) s, i + d = l.length → I i s → Ev (fun k => F k s (i : Int)) (m s (l.drop i)) := by
  intro d
  induction d with
  | zero =>
   intro i s hi hI
   have e : i = l.length := by omega
   subst e
   rw [List.drop_length]
   exact hnil s hI
  | succ d ih =>
   intro i s hi hI
   have hlt : i < l.length := by omega
   have e : l.drop i = l[i] :: l.drop (i + 1) := List.drop_eq_getElem_cons hlt
   rw [e]
   exact hcons i s l[i] _ hI hlt e (List.getElem?_eq_getElem hlt) (fun s' hs' => ih (i + 1) s' (by omega) hs')
 exact key l.length 0 s (by omega) h
theorem ev_list0 {α ρ : Type} (l : List α) (F : Nat → Int → Option ρ) (m : List α → ρ)
  (hnil : Ev (fun k => F k (l.length : Int)) (m []))
  (hcons : ∀ (i : Nat) x t, i < l.length → l.drop i = x :: t → l[i]? = some x → Ev (fun k => F k ((i + 1 : Nat) : Int)) (m t) → Ev (fun k => F k (i : Int)) (m (x :: t))) :
  Ev (fun k => F k 0) (m l) :=
 ev_list l (fun k (_ : Unit) i => F k i) (fun _ t => m t) (fun _ _ => True) (fun _ _ => hnil) (fun i _ x t _ h1 h2 h3 h4 => hcons i x t h1 h2 h3 (h4 () trivial)) () trivial
theorem ev_end {α : Type} {g : Nat → Option α} {r : α} (h : ∀ k, g (k + 1) = some r) : Ev g r :=
 ⟨1, fun k hk => by obtain ⟨j, rfl⟩ : ∃ j, k = j + 1 := ⟨k - 1, by omega⟩; exact h j⟩
theorem ev_some {α : Type} {g : Nat → Option α} {r : α} (h : ∀ k, g k = some r) : Ev g r := ⟨0, fun k _ => h k⟩
theorem Ev.stepBind {α β : Type} {g : Nat → Option β} {c : Nat → Option α} {f : Nat → α → Option β} {a : α} {r : β} (hc : Ev c a) (h : ∀ k, g (k + 1) = (c k).bind (f k)) (hf : Ev (fun k => f k a) r) : Ev g r :=
 Ev.step h (Ev.bind hc hf)
def setAll {α β : Type} (f : α → β) : List β → Nat → List α → List β
 | acc, _, [] => acc
 | acc, i, x :: t => setAll f (acc.set i (f x)) (i + 1) t
theorem setAll_eq {α β : Type} (f : α → β) : ∀ (t : List α) (acc : List β) (i : Nat), i + t.length = acc.length → setAll f acc i t = acc.take i ++ t.map f := by
 intro t
 induction t with
 | nil =>
  intro acc i h
  simp at h
  simp [setAll, h]
 | cons x t ih =>
  intro acc i h
  simp at h
  rw [setAll, ih _ _ (by simp; omega)]
  have e : (acc.set i (f x)).take (i + 1) = acc.take i ++ [f x] := by
   rw [List.take_succ_eq_append_getElem (by simp; omega)]
   simp [List.take_set_of_le]
  rw [e]
  simp
theorem ev_copy {α β : Type} (l : List α) (z : β) (f : α → β) (F : Nat → List β → Int → Option (List β))
  (hnil : ∀ acc, acc.length = l.length → Ev (fun k => F k acc (l.length : Int)) acc)
  (hcons : ∀ (i : Nat) acc x r, acc.length = l.length → i < l.length → l[i]? = some x → Ev (fun k => F k (acc.set i (f x)) ((i + 1 : Nat) : Int)) r → Ev (fun k => F k acc (i : Int)) r) :
  Ev (fun k => F k (List.replicate l.length z) 0) (l.map f) := by
 have h := ev_list l (fun k (s : Nat × List β) i => F k s.2 i) (fun s t => setAll f s.2 s.1 t) (fun i s => s.1 = i ∧ s.2.length = l.length)
  (fun s hI => hnil s.2 hI.2)
  (fun i s x t hI hlt _ hx ih => by
   obtain ⟨h1, h2⟩ := hI
   obtain ⟨j, acc⟩ := s
   dsimp only at h1 h2 ⊢
   subst h1
   exact hcons j acc x _ h2 hlt hx (ih (j + 1, acc.set j (f x)) ⟨rfl, by simp [h2]⟩))
  (0, List.replicate l.length z) ⟨rfl, by simp⟩
 have e : setAll f (List.replicate l.length z) 0 l = l.map f := by
  rw [setAll_eq _ _ _ _ (by simp)]
  simp
 rw [← e]
 exact h
def upsG {β : Type} (mk : β → Int → β) (c : β → Int) : Int → List β → List β
 | _, [] => []
 | n, x :: t => mk x n :: upsG mk c (n + c x) t
def costs {β : Type} (c : β → Int) : List β → Int
 | [] => 0
 | x :: t => c x + costs c t
theorem upsG_length {β : Type} (mk : β → Int → β) (c : β → Int) : ∀ (l : List β) (n : Int), (upsG mk c n l).length = l.length := by
 intro l
 induction l with
 | nil => intro n; rfl
 | cons x t ih => intro n; simp [upsG, ih]
theorem costs_nonneg {β : Type} (c : β → Int) : ∀ (l : List β), (∀ x ∈ l, 0 ≤ c x) → 0 ≤ costs c l := by
 intro l
 induction l with
 | nil => intro _; simp [costs]
 | cons x t ih =>
  intro h
  have h1 := h x (by simp)
  have h2 := ih (fun y hy => h y (by simp [hy]))
  simp only [costs]
  omega
theorem costs_const {β : Type} (c : Int) : ∀ (l : List β), costs (fun _ => c) l = c * l.length := by
 intro l
 induction l with
 | nil => simp [costs]
 | cons x t ih =>
  simp only [costs, ih, List.length_cons]
  rw [Int.natCast_add, Int.mul_add]
  omega
theorem ev_mark {β : Type} (l : List β) (mk : β → Int → β) (c : β → Int) (hc : ∀ x ∈ l, 0 ≤ c x) (F : Nat → List β → Int → Int → Option (Int × List β))
  (hnil : ∀ acc n, acc.length = l.length → Ev (fun k => F k acc n (l.length : Int)) (n, acc))
  (hcons : ∀ (i : Nat) acc n x r, acc.length = l.length → i < l.length → x ∈ l → acc[i]? = some x → 0 ≤ n → n + c x ≤ 1152921504606846976 → Ev (fun k => F k (acc.set i (mk x n)) (n + c x) ((i + 1 : Nat) : Int)) r → Ev (fun k => F k acc n (i : Int)) r)
  (m : Int) (h0 : 0 ≤ m) (h1 : m + costs c l ≤ 1152921504606846976) : Ev (fun k => F k l m 0) (m + costs c l, upsG mk c m l) := by
 have key : ∀ (d i : Nat) (acc : List β) (n : Int), i + d = l.length → acc.length = l.length → acc.drop i = l.drop i → 0 ≤ n → n + costs c (l.drop i) ≤ 1152921504606846976 →
   Ev (fun k => F k acc n (i : Int)) (n + costs c (l.drop i), acc.take i ++ upsG mk c n (l.drop i)) := by
  intro d
  induction d with
  | zero =>
   intro i acc n hi ha hd _ _
   have e : i = l.length := by omega
   subst e
   rw [List.drop_length]
   have := hnil acc n ha
   simpa [costs, upsG, ← ha] using this
  | succ d ih =>
   intro i acc n hi ha hd hn hb
   have hlt : i < l.length := by omega
   have e : l.drop i = l[i] :: l.drop (i + 1) := List.drop_eq_getElem_cons hlt
   have e2 : acc.drop i = acc[i]'(by omega) :: acc.drop (i + 1) := List.drop_eq_getElem_cons (by omega)
   rw [e, e2] at hd
   injection hd with hd1 hd2
   have hmem : l[i] ∈ l := List.getElem_mem hlt
   have hcx := hc _ hmem
   have hcr := costs_nonneg c (l.drop (i + 1)) (fun y hy => hc y (List.mem_of_mem_drop hy))
   rw [e] at hb ⊢
   simp only [costs, upsG] at hb ⊢
   have hstep := ih (i + 1) (acc.set i (mk l[i] n)) (n + c l[i]) (by omega) (by simp [ha]) (by rw [List.drop_set_of_lt (by omega)]; exact hd2) (by omega) (by omega)
   have et : (acc.set i (mk l[i] n)).take (i + 1) = acc.take i ++ [mk l[i] n] := by
    rw [List.take_succ_eq_append_getElem (by simp; omega)]
    simp [List.take_set_of_le]
   rw [et] at hstep
   have := hcons i acc n l[i] _ ha hlt hmem (by rw [List.getElem?_eq_getElem (by omega), hd1]) hn (by omega) hstep
   simpa [Int.add_assoc] using this
 have := key l.length 0 l m (by omega) rfl rfl h0 (by simpa using h1)
 simpa using this
theorem ev_held {β : Type} (l : List β) (mk : β → Int → β) (c : β → Int) (hc : ∀ x ∈ l, 0 ≤ c x) (F : Nat → List β → Int → Int → Option Int)
  (hnil : ∀ acc n, acc.length = l.length → Ev (fun k => F k acc n (l.length : Int)) n)
  (hcons : ∀ (i : Nat) acc n x r, acc.length = l.length → i < l.length → x ∈ l → acc[i]? = some (mk x n) → 0 ≤ n → n + c x ≤ 1152921504606846976 → Ev (fun k => F k acc (n + c x) ((i + 1 : Nat) : Int)) r → Ev (fun k => F k acc n (i : Int)) r)
  (m : Int) (h0 : 0 ≤ m) (h1 : m + costs c l ≤ 1152921504606846976) : Ev (fun k => F k (upsG mk c m l) m 0) (m + costs c l) := by
 have key : ∀ (d i : Nat) (acc : List β) (n : Int), i + d = l.length → acc.length = l.length → acc.drop i = upsG mk c n (l.drop i) → 0 ≤ n → n + costs c (l.drop i) ≤ 1152921504606846976 →
   Ev (fun k => F k acc n (i : Int)) (n + costs c (l.drop i)) := by
  intro d
  induction d with
  | zero =>
   intro i acc n hi ha hd _ _
   have e : i = l.length := by omega
   subst e
   rw [List.drop_length]
   have := hnil acc n ha
   simpa [costs] using this
  | succ d ih =>
   intro i acc n hi ha hd hn hb
   have hlt : i < l.length := by omega
   have e : l.drop i = l[i] :: l.drop (i + 1) := List.drop_eq_getElem_cons hlt
   have e2 : acc.drop i = acc[i]'(by omega) :: acc.drop (i + 1) := List.drop_eq_getElem_cons (by omega)
   rw [e, e2, upsG] at hd
   injection hd with hd1 hd2
   have hmem : l[i] ∈ l := List.getElem_mem hlt
   have hcx := hc _ hmem
   have hcr := costs_nonneg c (l.drop (i + 1)) (fun y hy => hc y (List.mem_of_mem_drop hy))
   rw [e] at hb ⊢
   simp only [costs] at hb ⊢
   have hstep := ih (i + 1) acc (n + c l[i]) (by omega) ha hd2 (by omega) (by omega)
   have := hcons i acc n l[i] _ ha hlt hmem (by rw [List.getElem?_eq_getElem (by omega), hd1]) hn (by omega) hstep
   simpa [Int.add_assoc] using this
 exact key l.length 0 (upsG mk c m l) m (by omega) (upsG_length _ _ _ _) (by simp) h0 (by simpa using h1)
end Go.Proofs.Ytjodolkdelffaaa.Base

/- A part of the proof of laws.FnCards. No condition beyond what its theorems say. -/
/- How a law's arguments are read: a value that reads as data at a type is of the kind that the printed contracts speak of. -/
import Derived.Test.YtjodolkdelffaaaVFnCardsWWords
import Derived.OpenShut
import Derived.WideShapes
import Derived.ChangeArms
import Derived.ChangeSlices
namespace Go.Proofs.Ytjodolkdelffaaa.Open
open Go.ChangeShapes Go.WideShapes Go.Proofs.YtjodolkdelffaaaW.PrintWords

def Opens {α : Type} (P : Program) (t : TypeId) (K : Kd α) (Q : α → Prop) : Prop :=
 ∀ (H : Type) (enc : TypeId × Value → H) (w : World) (base : Nat) (sp : Nat → Bool) (hd : Bool) (fuel : Nat) (cs : List Value) (x : DataW H × List MemPlace),
  DataW.trod enc P w base sp hd fuel t cs = some x → ∃ a, K.K w a cs ∧ Q a
def OpensFs {α : Type} (P : Program) (fs : List Field) (off total : Nat) (K : Kd α) (Q : α → Prop) : Prop :=
 ∀ (H : Type) (enc : TypeId × Value → H) (w : World) (base : Nat) (sp : Nat → Bool) (hd : Bool) (fuel : Nat) (cs : List Value),
  cs.length = total → (∀ f, f ∈ fs → ∃ y, DataW.trod enc P w base sp hd fuel f.type ((cs.drop f.offset).take (P.cellsOf f.type)) = some y) → ∃ a, K.K w a (cs.drop off) ∧ Q a

section
variable {P : Program}
theorem opens_int {t : TypeId} {k : IntKind} (ht : P.underlying t = some (.int k)) : Opens P t (Kd.int k) (fun n => (Lit.int k n).wf = true) := by
 intro H enc w base sp hd fuel cs x h
 obtain ⟨n, rfl, _, hw⟩ := DataW.trod_int ht h
 exact ⟨n, rfl, hw⟩
theorem opens_bool {t : TypeId} (ht : P.underlying t = some .bool) : Opens P t Kd.bool (fun _ => True) := by
 intro H enc w base sp hd fuel cs x h
 obtain ⟨b, rfl, _⟩ := DataW.trod_bool ht h
 exact ⟨b, rfl, trivial⟩
theorem opens_string {t : TypeId} (ht : P.underlying t = some .string) : Opens P t Kd.string (fun s => s.size ≤ maxLen) := by
 intro H enc w base sp hd fuel cs x h
 obtain ⟨s, rfl, _, hs⟩ := DataW.trod_string ht h
 exact ⟨s, rfl, hs⟩
theorem exists_list {α : Type} (n : Nat) (R : Nat → α → Prop) (h : ∀ i, i < n → ∃ a, R i a) : ∃ l : List α, l.length = n ∧ ∀ i a, l[i]? = some a → R i a := by
 induction n with
 | zero => exact ⟨[], rfl, fun i a hi => by simp at hi⟩
 | succ n ih =>
  obtain ⟨l, hl, hr⟩ := ih (fun i hi => h i (by omega))
  obtain ⟨a, ha⟩ := h n (by omega)
  refine ⟨l ++ [a], by simp [hl], fun i b hi => ?_⟩
  by_cases hlt : i < l.length
  ·rw [List.getElem?_append_left hlt] at hi
   exact hr i b hi
  ·rw [List.getElem?_append_right (by omega)] at hi
   have h0 : i - l.length = 0 := by
    by_cases e : i - l.length = 0
    ·exact e
    ·rw [List.getElem?_eq_none (by simp; omega)] at hi
     cases hi
   rw [h0] at hi
   simp at hi
   subst hi
   have : i = n := by omega
   subst this
   exact ha
theorem opens_slice {α : Type} {t e : TypeId} {K : Kd α} {Q : α → Prop} (ht : P.underlying t = some (.slice e)) (hs : K.sz = P.cellsOf e) (he : Opens P e K Q) :
  Opens P t (Kd.slice e K) (fun l => l.length ≤ maxLen ∧ ∀ a ∈ l, Q a) := by
 intro H enc w base sp hd fuel cs x h
 rcases DataW.trod_slice ht h with ⟨rfl, rfl⟩ | ⟨a, len, cap, elems, rest, n, rfl, rfl, rfl, hb, hl, hm, hlen, hel, _, _⟩
 ·exact ⟨[], ⟨none, 0, rfl, Nat.le_refl _, rfl, by simp, fun h => absurd h (by simp)⟩, by simp⟩
 ·obtain ⟨l, hll, hR⟩ := exists_list len (fun i b => ∃ c, c.length = K.sz ∧ K.K w b c ∧ (∀ j u, c[j]? = some u → w.cell? (a.add (i * K.sz + j)) = some u) ∧ Q b) (by
   intro i hi
   have h1 := hel i hi
   have h2 : elems[i]? = some (elems[i]'(by omega)) := List.getElem?_eq_getElem (by omega)
   rw [h2, Option.bind_eq_some_iff] at h1
   obtain ⟨c, hc, hy⟩ := h1
   obtain ⟨b, hK, hQ⟩ := he H enc w base sp hd n c _ hy
   obtain ⟨_, hcl, hcc⟩ := World.cells?_some hc
   refine ⟨b, c, K.K_len hK, hK, fun j u hu => ?_, hQ⟩
   have hj := (List.getElem?_eq_some_iff.1 hu).1
   have := hcc j (by omega)
   rw [hs]
   rw [hu] at this
   rw [← this, Addr.add_add])
  subst hll
  unfold maxLen at hm
  refine ⟨l, ⟨some a, cap, rfl, hl, rfl, by omega, fun _ => ⟨a, rfl, fun j p hj => ?_⟩⟩, by unfold maxLen; omega, fun b hb' => ?_⟩
  ·obtain ⟨c, h1, h2, h3, _⟩ := hR j p hj
   exact ⟨c, h1, h2, h3⟩
  ·obtain ⟨i, hi⟩ := List.getElem?_of_mem hb'
   obtain ⟨c, _, _, _, h4⟩ := hR i b hi
   exact h4
theorem opens_last {α : Type} {f : Field} {off total : Nat} {K : Kd α} {Q : α → Prop} (ho : f.offset = off) (hs : off + P.cellsOf f.type = total) (h : Opens P f.type K Q) : OpensFs P [f] off total K Q := by
 intro H enc w base sp hd fuel cs hl hf
 obtain ⟨y, hy⟩ := hf f (by simp)
 have e : (cs.drop f.offset).take (P.cellsOf f.type) = cs.drop off := by
  rw [ho, List.take_of_length_le (by simp; omega)]
 rw [e] at hy
 exact h H enc w base sp hd fuel _ _ hy
theorem opens_cons {α β : Type} {f : Field} {fs : List Field} {off total : Nat} {K : Kd α} {L : Kd β} {Q : α → Prop} {R : β → Prop} (ho : f.offset = off) (h : Opens P f.type K Q) (hr : OpensFs P fs (off + P.cellsOf f.type) total L R) :
  OpensFs P (f :: fs) off total (Kd.pair K L) (fun x => Q x.1 ∧ R x.2) := by
 intro H enc w base sp hd fuel cs hl hf
 obtain ⟨y, hy⟩ := hf f (by simp)
 obtain ⟨a, hK, hQ⟩ := h H enc w base sp hd fuel _ _ hy
 obtain ⟨b, hL, hR⟩ := hr H enc w base sp hd fuel cs hl (fun g hg => hf g (by simp [hg]))
 refine ⟨(a, b), ⟨_, _, ?_, hK, hL⟩, hQ, hR⟩
 rw [ho, ← List.drop_drop, List.take_append_drop]
theorem opens_struct {α : Type} {t : TypeId} {fs : Array Field} {K : Kd α} {Q : α → Prop} (ht : P.underlying t = some (.struct fs)) (h : OpensFs P fs.toList 0 (P.cellsOf t) K Q) : Opens P t K Q := by
 intro H enc w base sp hd fuel cs x hx
 obtain ⟨xs, n, rfl, rfl, hl, hlen, hf⟩ := DataW.trod_struct ht hx
 obtain ⟨a, hK, hQ⟩ := h H enc w base sp hd n cs hl (fun f hf' => by
  obtain ⟨i, hi⟩ := List.getElem?_of_mem hf'
  have hi' : fs[i]? = some f := by simpa using hi
  have := hf i f hi'
  have hlt : i < xs.length := by
   have := (List.getElem?_eq_some_iff.1 hi).1
   simp at this
   omega
  rw [List.getElem?_eq_getElem hlt] at this
  exact ⟨_, this⟩)
 exact ⟨a, by simpa using hK, hQ⟩
theorem opens_iso {α β : Type} {t : TypeId} {K : Kd α} {Q : α → Prop} (f : β → α) (g : α → β) (hfg : ∀ a, f (g a) = a) (h : Opens P t K Q) : Opens P t (Kd.iso K f) (fun b => Q (f b)) := by
 intro H enc w base sp hd fuel cs x hx
 obtain ⟨a, hK, hQ⟩ := h H enc w base sp hd fuel cs x hx
 refine ⟨g a, ?_, ?_⟩
 ·show K.K w (f (g a)) cs
  rw [hfg]
  exact hK
 ·show Q (f (g a))
  rw [hfg]
  exact hQ
theorem opens_imp {α : Type} {t : TypeId} {K : Kd α} {Q R : α → Prop} (h : Opens P t K Q) (hi : ∀ a, Q a → R a) : Opens P t K R := by
 intro H enc w base sp hd fuel cs x hx
 obtain ⟨a, hK, hQ⟩ := h H enc w base sp hd fuel cs x hx
 exact ⟨a, hK, hi a hQ⟩
end
theorem opens_arg {α : Type} {P : Program} {t : TypeId} {K : Kd α} {Q : α → Prop} (h : Opens P t K Q) {H : Type} {enc : TypeId × Value → H} {w : World} {base : Nat} {sp : Nat → Bool} {hd : Bool} {v : Value} {d : DataW H} {p : List MemPlace}
  (hv : DataW.Trod enc P w base sp hd t v d p) : ∃ a, K.K w a v.cells.toList ∧ Q a := by
 obtain ⟨fuel, hf⟩ := hv
 exact h H enc w base sp hd fuel _ _ hf
end Go.Proofs.Ytjodolkdelffaaa.Open

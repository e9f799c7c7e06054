/- strconv.Itoa at this program, by the kit's contract; the table that it reads stays what it is while nothing old is written. Conditions: those that each theorem states. -/
import Derived.Test.YtljbdchibfjbdaaDoorShelf
import Derived.Lib.LaidTab
import Derived.Below
import Derived.Lib.ItoaMem
namespace Go.Proofs.YtljbdchibfjbdaaDoor.Tabs
open Go.RowKit Go.Sort
abbrev TabI (w : World) : Prop := Lib.TabIs Tryd.prog w "internal/strconv.uint64pow10" .u64 Lib.pow10Tab
theorem tabI_below {w w' : World} (h : TabI w) (hb : Below w.heap.size w w') : TabI w' := by
  have hg : ∃ g, Tryd.prog.globalNamed "internal/strconv.uint64pow10" = some g := by
    cases e : Tryd.prog.globalNamed "internal/strconv.uint64pow10" with
    | some g => exact ⟨g, rfl⟩
    | none => unfold TabI Lib.TabIs World.var? at h; rw [e] at h; cases h
  obtain ⟨g, hg⟩ := hg
  unfold TabI Lib.TabIs World.var? at h ⊢
  rw [hg] at h ⊢
  simp only [Option.bind_some] at h ⊢
  have hlt : g < w.heap.size := by
    rcases Nat.lt_or_ge g w.heap.size with h' | h'
    · exact h'
    · rw [Array.getElem?_eq_none h'] at h; cases h
  rw [hb.block g hlt]
  exact h
theorem below_grow {w : World} (k : Nat) (os : Array Obj) : Below w.heap.size w (grow (w.drewN k) os) :=
  ⟨rfl, rfl, rfl, by simp [grow], fun i hi => by
    show ((w.drewN k).heap ++ os)[i]? = _
    have : i < (w.drewN k).heap.size := hi
    rw [Array.getElem?_append_left this]
    rfl⟩
theorem itoa_below (n : Int) (h0 : -9223372036854775808 ≤ n) (h1 : n ≤ 9223372036854775807) (w : World) (hT : TabI w) :
    Calls Tryd.prog 73 #[.int .i64 n] w fun e w' => e = .returned (.string ⟨(Lib.itoa n).toArray⟩) ∧ Below w.heap.size w w' :=
  (Tryd.strconv_Itoa n h0 h1 w hT).mono fun _ _ ⟨he, k, os, hw⟩ => ⟨he, hw ▸ below_grow k os⟩
end Go.Proofs.YtljbdchibfjbdaaDoor.Tabs

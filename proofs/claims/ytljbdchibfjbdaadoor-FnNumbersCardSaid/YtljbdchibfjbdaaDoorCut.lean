/- impl.Split at this program, by the kit's contract of strings.Split: its result is a new row of the pieces. Conditions: those that each theorem states. -/
import Derived.Test.YtljbdchibfjbdaaDoorShelfS
import Derived.Test.YtljbdchibfjbdaaDoorWLast
import Derived.Test.YtljbdchibfjbdaaDoorWMore
import Derived.Below
namespace Go.Proofs.YtljbdchibfjbdaaDoor.Cuts
open Go.RowKit Go.Proofs.YtljbdchibfjbdaaDoorW.PrintWords Go.Proofs.YtljbdchibfjbdaaDoorW.PrintLast Go.Proofs.YtljbdchibfjbdaaDoorW.PrintMore
abbrev TabI (w : World) : Prop := ∃ m : Int, w.cell? ⟨1, 0, none⟩ = some (.int .i64 m)
theorem tabI_below {w w' : World} (h : TabI w) (hb : Below w.heap.size w w') : TabI w' := by
  obtain ⟨m, hc⟩ := h
  exact ⟨m, (hb.cell (World.block_lt_of_cell? w _ hc)).trans hc⟩
def pieces (s : ByteArray) (c : Int) : List ByteArray := Lib.splitB (strOfNums [c]) 0 (Lib.countB s (strOfNums [c])) s
theorem row_of_strings (w : World) (l : List ByteArray) (n : Nat) (hn : n = l.length) (hm : n ≤ 9223372036854775807) :
    Kd.R Kd.string 9 (w.alloc (.cells (l.map Value.string).toArray 9)) w.heap.size (fun _ => True) (.slice (some ⟨w.heap.size, 0, none⟩) n n) l := by
  subst hn
  refine ⟨fun _ _ => trivial, l.map Value.string, ?_, ?_⟩
  · have h := World.ownsRow_lit (base := w.heap.size) (e := 9) (size := 1) w (l.map Value.string).toArray l.length (Nat.le_refl _) (by simpa [maxLen] using hm) (by simp)
    show World.ownsRow _ _ 9 1 _ _ _
    simpa using h
  · refine ⟨by simp [Kd.string, Kd.scalar], fun j p hp => ?_⟩
    show ((l.map Value.string).drop (j * 1)).take 1 = [Value.string p]
    have hj := (List.getElem?_eq_some_iff.1 hp)
    obtain ⟨h1, h2⟩ := hj
    rw [Nat.mul_one, List.drop_eq_getElem_cons (by simpa using h1)]
    simp [h2]
theorem pieces_length (s : ByteArray) (c : Int) : (pieces s c).length = Lib.countB s (strOfNums [c]) + 1 :=
  Lib.splitB_all _ (by simp [strOfNums, ByteArray.size]) 0 _ s rfl
theorem count_small (s : ByteArray) (c : Int) : Lib.countB s (strOfNums [c]) ≤ s.size :=
  Lib.countB_le _ (by simp [strOfNums, ByteArray.size]) s.size s (Nat.le_refl _)
set_option maxHeartbeats 2000000 in
set_option maxRecDepth 100000 in
theorem split_calls (a0 : ByteArray) (a1 : Int) (w : World) (hT : TabI w) (hs : a0.size < 4294967281) :
    Calls Tryd.prog 42 #[.string a0, .int .u8 a1] w fun e w' => ∃ v0_ : Value, e = .returned (v0_) ∧ Kd.R Kd.string 9 w' w.heap.size (fun _ => True) v0_ (pieces a0 a1) ∧ Below w.heap.size w w' := by
  have HB := Aside0.mk (Below.refl w.heap.size w)
  go_enter Tryd.func42, Tryd.ntmps42
  have hcv : (convert 22 9 (.slice (some ⟨w.heap.size, 0, none⟩) 1 1)).run Tryd.prog (w.alloc (.cells #[.int .u8 a1] 5)) = .ok (.string (strOfNums [a1])) (w.alloc (.cells #[.int .u8 a1] 5)) := by
    have h := own_string (P := Tryd.prog) Tryd.underlying22 Tryd.underlying5 Tryd.underlying9 (own_lit w w.heap.size 5 .u8 [a1] (Nat.le_refl _) (by simp))
    simpa [nums] using h
  obtain ⟨m, hm⟩ := tabI_below hT ((Below.refl w.heap.size w).alloc (Nat.le_refl _) (.cells #[.int .u8 a1] 5))
  have hsp := Tryd.strings_Split a0 (strOfNums [a1]) m (w.alloc (.cells #[.int .u8 a1] 5)) hs hm (by simp [strOfNums, ByteArray.size])
  go_wp2_with (first | ((with_reducible refine gate_callee (f := 74) rfl ?_); refine goesL_ (some 9) rfl rfl Tryd.func74 (by kernel_rfl) rfl #[.string a0, .string (strOfNums [a1])] rfl (by (try simp only [List.map_toArray, List.map_cons, List.map_nil]); first | done | rfl) ?_; (refine hsp.mono ?_); rintro e w' ⟨rfl, rfl⟩; refine ⟨_, rfl, ?_⟩; clear hsp))
  go_ret
  have hc := count_small a0 a1
  have R := row_of_strings (w.alloc (.cells #[.int .u8 a1] 5)) (pieces a0 a1) _ (pieces_length a0 a1).symm (by omega)
  have hz : (w.alloc (.cells #[.int .u8 a1] 5)).heap.size = w.heap.size + 1 := by
    show (w.heap.push _).size = _
    rw [Array.size_push]
  rw [hz] at R
  refine ⟨.slice (some ⟨w.heap.size + 1, 0, none⟩) (Lib.countB a0 (strOfNums [a1]) + 1) (Lib.countB a0 (strOfNums [a1]) + 1), rfl, Kd.R_lower R (by omega), ?_⟩
  exact ((Below.refl w.heap.size w).alloc (Nat.le_refl _) _).alloc (by rw [hz]; omega) _
end Go.Proofs.YtljbdchibfjbdaaDoor.Cuts

/- strconv.Itoa and impl.Split in one walk: what both contracts ask of the world, together. Conditions: those that each theorem states. -/
import Derived.Test.YtljbdchibfjbdaaDoorItoa
import Derived.Test.YtljbdchibfjbdaaDoorCut
namespace Go.Proofs.YtljbdchibfjbdaaDoor.Both
open Go.RowKit Go.Proofs.YtljbdchibfjbdaaDoorW.PrintWords Go.Proofs.YtljbdchibfjbdaaDoorW.PrintLast Go.Proofs.YtljbdchibfjbdaaDoorW.PrintMore
abbrev TabI (w : World) : Prop := Tabs.TabI w ∧ Cuts.TabI w
theorem tabI_below {w w' : World} (h : TabI w) (hb : Below w.heap.size w w') : TabI w' := ⟨Tabs.tabI_below h.1 hb, Cuts.tabI_below h.2 hb⟩
abbrev pieces := Cuts.pieces
theorem itoa_below (n : Int) (h0 : -9223372036854775808 ≤ n) (h1 : n ≤ 9223372036854775807) (w : World) (hT : TabI w) :
    Calls Tryd.prog 73 #[.int .i64 n] w fun e w' => e = .returned (.string ⟨(Lib.itoa n).toArray⟩) ∧ Below w.heap.size w w' := Tabs.itoa_below n h0 h1 w hT.1
theorem split_calls (a0 : ByteArray) (a1 : Int) (w : World) (hT : TabI w) (hs : a0.size < 4294967281) :
    Calls Tryd.prog 42 #[.string a0, .int .u8 a1] w fun e w' => ∃ v0_ : Value, e = .returned (v0_) ∧ Kd.R Kd.string 9 w' w.heap.size (fun _ => True) v0_ (pieces a0 a1) ∧ Below w.heap.size w w' := Cuts.split_calls a0 a1 w hT.2 hs
end Go.Proofs.YtljbdchibfjbdaaDoor.Both

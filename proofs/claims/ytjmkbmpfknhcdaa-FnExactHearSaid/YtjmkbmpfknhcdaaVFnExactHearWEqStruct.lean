/- Of the proof of laws.FnExactHear: words of the print, cut to what the other texts name. No condition beyond what its theorems say. -/
import Derived.Test.YtjmkbmpfknhcdaaVFnExactHearWWords
import Derived.Laws.StructEq
namespace Go.Proofs.YtjmkbmpfknhcdaaW.PrintWords
open Go.RowKit
section
variable {P : Program} {d : Nat} {xs ys : Array Value} {f : Field} {fs : List Field} {a b : Value} {r s : Bool} {w : World}
end
end Go.Proofs.YtjmkbmpfknhcdaaW.PrintWords

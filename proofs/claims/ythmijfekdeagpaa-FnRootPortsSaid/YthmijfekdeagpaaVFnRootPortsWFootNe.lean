/- Of the proof of laws.FnRootPorts: words of the print, cut to what the other texts name. No condition beyond what its theorems say. -/
import Derived.Test.YthmijfekdeagpaaVFnRootPortsWN
namespace Go.Proofs.YthmijfekdeagpaaW.PrintWords
open Go.RowKit
namespace Kd
section
variable {α : Type} {d : Kd α} {W : World} {g n : Nat} {S ok : Nat → Prop} {A : Option Addr} {ad : Addr} {xs : List α}
end
end Kd
end Go.Proofs.YthmijfekdeagpaaW.PrintWords

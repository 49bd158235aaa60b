-- Of the words that the kit's print.sh prints, those declarations that this seat's claim names: a program of this session has left out the others; nothing else is turned.
import Derived.Test.YticfgecicmgpeaaWN
/-! ### 52. A row that stays read whatever happens to a block (a set of blocks) doesn't lie there -/
namespace Go.Proofs.YticfgecicmgpeaaW.PrintWords
open Go.RowKit
namespace Kd
section
variable {α : Type} {d : Kd α} {W : World} {g n : Nat} {S ok : Nat → Prop} {A : Option Addr} {ad : Addr} {xs : List α}
end
end Kd
end Go.Proofs.YticfgecicmgpeaaW.PrintWords

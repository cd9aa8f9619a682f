-- Words that print.sh laid for this claim, cut by this session's program trim.py to what the claim names: not as they were printed, so without the print's own head row.
import Derived.Test.YtgpbighdegdlfaaWN
/-! ### 52. A row that stays read whatever happens to a block (a set of blocks) doesn't lie there -/
namespace Go.Proofs.YtgpbighdegdlfaaW.PrintWords
open Go.RowKit
namespace Kd
section
variable {α : Type} {d : Kd α} {W : World} {g n : Nat} {S ok : Nat → Prop} {A : Option Addr} {ad : Addr} {xs : List α}
end
end Kd
end Go.Proofs.YtgpbighdegdlfaaW.PrintWords

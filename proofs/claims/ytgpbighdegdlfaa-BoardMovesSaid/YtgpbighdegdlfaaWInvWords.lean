-- Words that print.sh laid for this claim, cut by this session's program trim.py to what the claim names: not as they were printed, so without the print's own head row.
import Derived.Test.YtgpbighdegdlfaaWInv
import Derived.Test.YtgpbighdegdlfaaWFootNe
namespace Go.Proofs.YtgpbighdegdlfaaW.PrintWords
open Go.RowKit
end Go.Proofs.YtgpbighdegdlfaaW.PrintWords
namespace Go.Proofs.YtgpbighdegdlfaaW.PrintLast
section
variable {ops : Array Oper} {a : Act} {o og : Oper} {g : Nat} {t : Tmp} {u : Bool}
end
end Go.Proofs.YtgpbighdegdlfaaW.PrintLast

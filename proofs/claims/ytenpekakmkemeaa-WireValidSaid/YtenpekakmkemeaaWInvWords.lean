-- Words that print.sh laid for this claim, cut by this session's program trim.py to what the claim names: not as they were printed, so without the print's own head row.
import Derived.Test.YtenpekakmkemeaaWInv
import Derived.Test.YtenpekakmkemeaaWFootNe
namespace Go.Proofs.YtenpekakmkemeaaW.PrintWords
open Go.RowKit
end Go.Proofs.YtenpekakmkemeaaW.PrintWords
namespace Go.Proofs.YtenpekakmkemeaaW.PrintLast
section
variable {ops : Array Oper} {a : Act} {o og : Oper} {g : Nat} {t : Tmp} {u : Bool}
end
end Go.Proofs.YtenpekakmkemeaaW.PrintLast

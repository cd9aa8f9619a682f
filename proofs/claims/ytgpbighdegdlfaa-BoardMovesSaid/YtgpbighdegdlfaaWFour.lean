-- Words that print.sh laid for this claim, cut by this session's program trim.py to what the claim names: not as they were printed, so without the print's own head row.
import Derived.Test.YtgpbighdegdlfaaWTab
/-! ### 56. Four, five, six operations that may come up next, in any order -/
namespace Go.Proofs.YtgpbighdegdlfaaW.PrintLast
section
variable {P : Program} {ops : Array Oper} {Q : Exit → Act → World → Prop} {md : Region.Mode} {S : World → Prop} {ds : List Nat} {T : Bool × List (List Nat × List Nat)}
end
end Go.Proofs.YtgpbighdegdlfaaW.PrintLast

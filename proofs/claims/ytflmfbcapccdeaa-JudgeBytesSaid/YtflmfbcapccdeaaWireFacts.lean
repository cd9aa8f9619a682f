/- The plain laws of what wire's printed functions make: numbers as bytes, options, checks. -/
import Derived.Test.YtflmfbcapccdeaaWireGet
import Derived.Test.YtflmfbcapccdeaaPAx23
import Derived.Test.YtflmfbcapccdeaaPAx0
import Derived.Test.YtflmfbcapccdeaaPAx25
set_option linter.unusedVariables false
set_option linter.unusedSimpArgs false
set_option autoImplicit false
namespace Go.Proofs.Ytflmfbcapccdeaa.WireG
open Go.RowKit Go.Proofs.Ytflmfbcapccdeaa.PA Go.Proofs.YtflmfbcapccdeaaW.PrintWords Go.Proofs.YtflmfbcapccdeaaW.PrintMore
abbrev SG := S53
def be4 (a : Int) : List Int := [(a / 16777216) % 256, (a / 65536) % 256, (a / 256) % 256, a % 256]
/-! ### options -/
/-! ### checks -/
def w16 (n : Int) : Bool := decide (0 ≤ n) && decide (n ≤ 65535)
end Go.Proofs.Ytflmfbcapccdeaa.WireG

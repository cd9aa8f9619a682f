/- wire.Put, walked: the bytes of a segment. -/
import Derived.Test.YtflmfbcapccdeaaWireFacts
import Derived.Test.YtflmfbcapccdeaaWireGet
import Derived.Test.YtflmfbcapccdeaaPAx18
import Derived.Lib.Hide
import Derived.WalkKit
import Derived.Laws.Rows
set_option linter.unusedVariables false
set_option linter.unusedSimpArgs false
set_option autoImplicit false
namespace Go.Proofs.Ytflmfbcapccdeaa.WireG
open Go.RowKit Go.Proofs.Ytflmfbcapccdeaa.PA Go.Proofs.YtflmfbcapccdeaaW.PrintWords Go.Proofs.YtflmfbcapccdeaaW.PrintLast Go.Proofs.YtflmfbcapccdeaaW.PrintMore
def pseu (src dst n : Int) : List Int := four8 src ++ four8 dst ++ [0, 6, (n / 256) % 256, n % 256]
end Go.Proofs.Ytflmfbcapccdeaa.WireG

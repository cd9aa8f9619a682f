/- What is written is read as it was: in plain words. -/
import Derived.Test.YtflmfbcapccdeaaWireGet
import Derived.Test.YtflmfbcapccdeaaWirePut
import Derived.Test.YtflmfbcapccdeaaWireSum
set_option linter.unusedVariables false
set_option linter.unusedSimpArgs false
set_option autoImplicit false
namespace Go.Proofs.Ytflmfbcapccdeaa.WireG
open Go.RowKit Go.Proofs.Ytflmfbcapccdeaa.PA Go.Proofs.YtflmfbcapccdeaaW.PrintWords Go.Proofs.YtflmfbcapccdeaaW.PrintMore
/-- A number of four bytes. -/
def u32 (n : Int) : Prop := 0 ≤ n ∧ n ≤ 4294967295
structure WfS (s : SG) : Prop where
  h2 : u32 s.f2
  h3 : u32 s.f3
  h11 : u32 s.f11
  h12 : u32 s.f12
  h13 : ∀ x ∈ s.f13, u32 x.f0 ∧ u32 x.f1
  h14 : wgb s.f14
end Go.Proofs.Ytflmfbcapccdeaa.WireG

/- The oldest is as old, and as many have some bytes, as the document says. -/
import Derived.Test.YtpmiiokoialbmaaNetFacts
set_option linter.unusedVariables false
set_option linter.unusedSimpArgs false
set_option autoImplicit false
namespace Go.Proofs.Ytpmiiokoialbmaa.Pure
open Go.RowKit Go.Proofs.Ytpmiiokoialbmaa.PA Go.Proofs.YtpmiiokoialbmaaW.PrintWords Go.Proofs.Ytpmiiokoialbmaa.NetFacts
theorem NetCounts (l0 : List S26) (a1 : Int) (l2 : List Int) (w0 : Wf l0) (w1 : (Lit.int .i64 a1).wf = true) (w2 : (∀ x ∈ l2, (Lit.int .u8 x).wf = true) ∧ l2.length * 1 ≤ 140737488351232 ∧ l2.length ≤ 9223372036854775807) :
    ∃ k, tidewaylaw05_NetCounts.f k l0 a1 l2 = some true := by
  have hl := w0.2.2
  refine ⟨2 * l0.length + 10, ?_⟩
  rw [tidewaylaw05_NetCounts.f, oldest l0 a1 hl _ (by omega), refOldest l0 a1 hl _ (by omega), count l0 l2 hl _ (by omega), refCount l0 l2 hl _ (by omega), heads _ (by omega)]
  simp
end Go.Proofs.Ytpmiiokoialbmaa.Pure

/- Where parts end does not matter: of all bytes, two places: the row's way. -/
import Derived.Test.YtgmbmkfodinckaaSumPartsW
set_option linter.unusedVariables false
set_option linter.unusedSimpArgs false
namespace Go.Proofs.Ytgmbmkfodinckaa.Pure
open Go.RowKit Go.Proofs.Ytgmbmkfodinckaa.PA Go.Proofs.YtgmbmkfodinckaaW.PrintWords Go.Proofs.Ytgmbmkfodinckaa.SumPlain Go.Proofs.Ytgmbmkfodinckaa.SumFacts Go.Proofs.Ytgmbmkfodinckaa.Row8
theorem wf8 {c : Int} (h : (Lit.int .u8 c).wf = true) : 0 ≤ c ∧ c ≤ 255 := by simpa [Lit.wf, IntKind.min, IntKind.max, IntKind.signed, IntKind.bits] using h
theorem SumParts_calls (A0 : Option Addr) (c0 : Nat) (l0 : List Int) (a1 a2 : Int) (w : World) (hr0 : Kd.C B8 w A0 l0.length l0) (hc0 : l0.length ≤ c0) (hl : (∀ x ∈ l0, (Lit.int .u8 x).wf = true) ∧ l0.length * 1 ≤ 140737488351232 ∧ l0.length ≤ 9223372036854775807) (h1 : (Lit.int .i64 a1).wf = true) (h2 : (Lit.int .i64 a2).wf = true) :
    Calls Try.prog 7 #[.slice A0 l0.length c0, .int .i64 a1, .int .i64 a2] w fun e w' => e = .returned (.bool true) ∧ Below w.heap.size w w' := by
  by_cases h : a1 < 0 ∨ a2 < a1 ∨ (l0.length : Int) < a2
  · exact parts_out A0 c0 l0 a1 a2 h w hr0 hc0
  have e1 : a1 = (a1.toNat : Int) := by omega
  have e2 : a2 = (a2.toNat : Int) := by omega
  rw [e1, e2]
  exact parts_in A0 c0 l0 a1.toNat a2.toNat (by omega) (by omega) w hr0 hc0 (fun c hc => wf8 (hl.1 c hc))
end Go.Proofs.Ytgmbmkfodinckaa.Pure

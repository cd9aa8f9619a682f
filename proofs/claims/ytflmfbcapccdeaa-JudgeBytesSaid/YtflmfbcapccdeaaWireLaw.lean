/- What Put writes of a right segment: its checksum, that it is valid, that Get reads it back. -/
import Derived.Test.YtflmfbcapccdeaaWirePlain
import Derived.Test.YtflmfbcapccdeaaWireSum
set_option linter.unusedVariables false
set_option linter.unusedSimpArgs false
set_option autoImplicit false
namespace Go.Proofs.Ytflmfbcapccdeaa.WireG
open Go.RowKit Go.Proofs.Ytflmfbcapccdeaa.PA Go.Proofs.YtflmfbcapccdeaaW.PrintWords Go.Proofs.Ytflmfbcapccdeaa.SumPlain
theorem b_app {a b : List Int} (ha : byts a) (hb : byts b) : byts (a ++ b) := fun x hx => (List.mem_append.1 hx).elim (ha x) (hb x)
theorem b_be4 (a : Int) : byts (be4 a) := fun x hx => by
  simp only [be4, List.mem_cons, List.not_mem_nil, or_false] at hx; rcases hx with rfl | rfl | rfl | rfl <;> omega
theorem b_four8 (a : Int) : byts (four8 a) := b_be4 a
theorem b_two (a b : Int) (h : 0 ≤ a ∧ a ≤ 255) (k : 0 ≤ b ∧ b ≤ 255) : byts [a, b] := fun x hx => by
  simp only [List.mem_cons, List.not_mem_nil, or_false] at hx; rcases hx with rfl | rfl <;> assumption
theorem b_cons {a : Int} {l : List Int} (h : 0 ≤ a ∧ a ≤ 255) (hl : byts l) : byts (a :: l) := fun x hx => by
  rcases List.mem_cons.1 hx with rfl | hx
  · exact h
  · exact hl x hx
theorem b_pseu (a b n : Int) : byts (pseu a b n) := by
  unfold pseu
  exact b_app (b_app (b_four8 _) (b_four8 _)) (b_cons (by omega) (b_cons (by omega) (b_two _ _ (by omega) (by omega))))
theorem pseu_len (a b n : Int) : (pseu a b n).length = 12 := rfl
theorem wf8 {c : Int} (h : (Lit.int .u8 c).wf = true) : 0 ≤ c ∧ c ≤ 255 := by simpa [Lit.wf, IntKind.min, IntKind.max, IntKind.signed, IntKind.bits] using h
end Go.Proofs.Ytflmfbcapccdeaa.WireG

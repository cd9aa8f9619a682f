/- The program's checksum of parts of all lengths is the document's, a valid text is one whose sum is 0, and words are joined as the document says; of parts that hold together at most 1048576 values. -/
import Derived.Test.YtgmbmkfodinckaaSumFacts
set_option linter.unusedVariables false
set_option linter.unusedSimpArgs false
namespace Go.Proofs.Ytgmbmkfodinckaa.Pure
open Go.RowKit Go.Proofs.Ytgmbmkfodinckaa.PA Go.Proofs.YtgmbmkfodinckaaW.PrintWords Go.Proofs.Ytgmbmkfodinckaa.SumPlain Go.Proofs.Ytgmbmkfodinckaa.SumFacts
theorem wf8 {c : Int} (h : (Lit.int .u8 c).wf = true) : 0 ≤ c ∧ c ≤ 255 := by simpa [Lit.wf, IntKind.min, IntKind.max, IntKind.signed, IntKind.bits] using h
theorem wf16 {c : Int} (h : (Lit.int .u16 c).wf = true) : 0 ≤ c ∧ c ≤ 65535 := by simpa [Lit.wf, IntKind.min, IntKind.max, IntKind.signed, IntKind.bits] using h
theorem flat_le : ∀ (l : List (List Int)), l.flatten.length ≤ (l.map fun x => ((x.map fun _ => (1 : Nat)).sum + 1)).sum
  | [] => by simp
  | x :: r => by
    have := flat_le r
    have e : (x.map fun _ => (1 : Nat)).sum = x.length := by induction x <;> simp_all; omega
    simp only [List.flatten_cons, List.length_append, List.map_cons, List.sum_cons, e]; omega
theorem SumSums (l : List (List Int)) (a b : Int)
    (hl : (∀ x ∈ l, (∀ y ∈ x, (Lit.int .u8 y).wf = true) ∧ x.length * 1 ≤ 140737488351232 ∧ x.length ≤ 9223372036854775807) ∧ l.length * 24 ≤ 140737488351232 ∧ l.length ≤ 9223372036854775807)
    (ha : (Lit.int .u16 a).wf = true) (hb : (Lit.int .u16 b).wf = true) (hk : ((l.map fun x => ((x.map fun _ => (1 : Nat)).sum + 1)).sum + 1) ≤ 1048576) : ∃ k, tidewaylaw02_SumSums.f k l a b = some true := by
  have hby : byts l.flatten := fun c hc => by
    obtain ⟨p, hp, hcp⟩ := List.mem_flatten.1 hc
    exact wf8 ((hl.1 p hp).1 c hcp)
  have hf := flat_le l
  have ha := wf16 ha
  have hb := wf16 hb
  refine ⟨l.length + l.flatten.length + 1, ?_⟩
  unfold tidewaylaw02_SumSums.f
  rw [refAllF l (by omega) (by omega) _ (by omega)]
  simp only [Option.bind_some]
  rw [sumF l hby, refSumF _ hby (by omega) _ (by omega)]
  simp only [Option.bind_some]
  rw [validF l hby, joinF a b ha.1 ha.2 hb.1 hb.2, refJoinF a b ha.1 ha.2 hb.1 hb.2, headsF]
  have hn := norm_bd (wsum_nonneg true _ hby)
  have e : (decide (norm (wsum true l.flatten) = 65535) == (65535 - norm (wsum true l.flatten) == 0)) = true := by
    rw [beq_iff_eq, Bool.eq_iff_iff]; simp; omega
  simpa using e
end Go.Proofs.Ytgmbmkfodinckaa.Pure

/- What is taken was there, and one less is left; a place that is none takes nothing. -/
import Derived.Test.YtpmiiokoialbmaaNetFacts
set_option linter.unusedVariables false
set_option linter.unusedSimpArgs false
set_option autoImplicit false
namespace Go.Proofs.Ytpmiiokoialbmaa.Pure
open Go.RowKit Go.Proofs.Ytpmiiokoialbmaa.PA Go.Proofs.YtpmiiokoialbmaaW.PrintWords Go.Proofs.Ytpmiiokoialbmaa.NetFacts
theorem NetAdds (l0 : List S26) (a1 : Int) (l2 : List Int) (w0 : Wf l0) (w1 : (Lit.int .i64 a1).wf = true) (w2 : (∀ x ∈ l2, (Lit.int .u8 x).wf = true) ∧ l2.length * 1 ≤ 140737488351232 ∧ l2.length ≤ 9223372036854775807) :
    ∃ k, tidewaylaw05_NetAdds.f k l0 a1 l2 = some true := by
  have hl := w0.2.2
  refine ⟨l0.length + 10, ?_⟩
  rw [tidewaylaw05_NetAdds.f, heads _ (by omega)]
  by_cases hin : 0 ≤ a1 ∧ a1 < (l0.length : Int)
  · obtain ⟨i, rfl⟩ : ∃ i : Nat, a1 = i := ⟨a1.toNat, by omega⟩
    have hi : i < l0.length := by omega
    have he : (l0.eraseIdx i).length = l0.length - 1 := List.length_eraseIdx_of_lt hi
    rw [net_Take.f, if_pos hin, if_pos (lim w0), rd hi]
    simp only [Option.bind_some, Int.toNat_natCast, if_true]
    rw [count l0 l2 hl _ (by omega), count (l0.eraseIdx i) l2 (by omega) _ (by omega)]
    simp only [Option.bind_some, same_f]
    have hc := cnt_erase l2 l0 i hi
    have hb := cnt_le l2 l0
    have e2 : ((l0.eraseIdx i).length : Int) = wrap64 ((l0.length : Int) - 1) := by rw [he]; unfold wrap64; omega
    by_cases hs : same l0[i].f0 l2 = true
    · rw [if_pos hs] at hc
      rw [if_pos hs, if_pos (by omega), if_pos hin.2, if_pos (by unfold wrap64; omega), if_pos e2]
    · rw [if_neg hs] at hc
      rw [if_neg hs, if_pos (by omega), if_pos hin.2, if_pos (by omega), if_pos e2]
  · rw [net_Take.f, if_neg hin]
    simp only [Option.bind_some]
    rw [if_neg (by decide)]
    by_cases h0 : a1 < 0
    · rw [if_pos h0]; rfl
    · rw [if_neg h0, if_pos (by omega)]; rfl
end Go.Proofs.Ytpmiiokoialbmaa.Pure

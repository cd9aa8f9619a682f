/- With less on its way than should be, no more goes out than is missing, or one segment at first. -/
import Derived.Test.YtgjaajkbepabnaaPrrFacts
import Derived.Test.YtgjaajkbepabnaaPAx8
set_option linter.unusedVariables false
set_option linter.unusedSimpArgs false
set_option autoImplicit false
namespace Go.Proofs.Ytgjaajkbepabnaa.Pure
open Go.RowKit Go.Proofs.Ytgjaajkbepabnaa.PA Go.Proofs.YtgjaajkbepabnaaW.PrintWords Go.Proofs.YtgjaajkbepabnaaW.PrintMore Go.Proofs.Ytgjaajkbepabnaa.PrrFacts
theorem PrrFills (y : S23) (n pipe ss mss : Int) (w0 : ((Lit.int .i64 y.f0).wf = true) ∧ ((Lit.int .i64 y.f1).wf = true) ∧ (Lit.int .i64 y.f2).wf = true) (w1 : (Lit.int .i64 n).wf = true) (w2 : (Lit.int .i64 pipe).wf = true) (w3 : (Lit.int .i64 ss).wf = true) (w4 : (Lit.int .i64 mss).wf = true) :
    ∃ k, tidewaylaw14_PrrFills.f k y.f0 y.f1 y.f2 n pipe ss mss = some true := by
  refine ⟨20, ?_⟩
  rw [tidewaylaw14_PrrFills.f, heads 20 (by omega)]
  by_cases h : Ok y.f0 y.f1 y.f2
  · by_cases ha : Args n pipe ss mss
    · by_cases hp : pipe > ss
      · rw [given_more h 19 ha _ hp, given_more h 19 ha _ hp]
        simp only [Option.bind_some, if_true]
        rw [if_pos hp]
      · rw [given_less h 19 ha _ hp, given_less h 19 ha _ hp]
        simp only [Option.bind_some, if_true, topup, Bool.false_eq_true, if_false, Int.add_zero]
        rw [if_neg hp]
        obtain ⟨⟨a, b⟩, ⟨c, d⟩, e, q⟩ := h
        obtain ⟨⟨h1, h1'⟩, ⟨h2, h2'⟩, ⟨h3, h3'⟩, h4, h5⟩ := ha
        rw [w64 (n := ss - pipe) (by omega) (by omega)]
        obtain ⟨X, hX⟩ : ∃ X, mx n (mn 1125899906842624 (y.f0 + n) - y.f1) = X := ⟨_, rfl⟩
        rw [hX]
        have m1 := mns (X + mss) (ss - pipe)
        have m2 := mns X (ss - pipe)
        have m3 := mxs (mn (X + mss) (ss - pipe)) (least y.f1 mss)
        have m4 := mxs (mn X (ss - pipe)) (least y.f1 mss)
        have m5 := mxs (ss - pipe) mss
        have hX0 : 0 ≤ X := by have := mxs n (mn 1125899906842624 (y.f0 + n) - y.f1); omega
        by_cases ho : y.f1 = 0
        · have hl : least y.f1 mss = mss := by rw [least, if_pos ho]
          rw [hl] at m3 m4 ⊢
          rw [if_pos ho, if_pos (by omega), if_pos (by omega), if_pos (by omega)]
        · have hl : least y.f1 mss = 0 := by rw [least, if_neg ho]
          rw [hl] at m3 m4 ⊢
          rw [if_neg ho, if_pos (by omega), if_pos (by omega), if_pos (by omega)]
    · rw [given_arg h 19 ha, given_arg h 19 ha]
      simp
  · rw [given_state h, given_state h]
    simp
end Go.Proofs.Ytgjaajkbepabnaa.Pure

/- The more is given the more may go, and what went is not given again. -/
import Derived.Test.YtgjaajkbepabnaaPrrFacts
import Derived.Test.YtgjaajkbepabnaaPAx7
set_option linter.unusedVariables false
set_option linter.unusedSimpArgs false
set_option autoImplicit false
namespace Go.Proofs.Ytgjaajkbepabnaa.Pure
open Go.RowKit Go.Proofs.Ytgjaajkbepabnaa.PA Go.Proofs.YtgjaajkbepabnaaW.PrintWords Go.Proofs.YtgjaajkbepabnaaW.PrintMore Go.Proofs.Ytgjaajkbepabnaa.PrrFacts
theorem PrrRises (y : S23) (n more ss mss : Int) (w0 : ((Lit.int .i64 y.f0).wf = true) ∧ ((Lit.int .i64 y.f1).wf = true) ∧ (Lit.int .i64 y.f2).wf = true) (w1 : (Lit.int .i64 n).wf = true) (w2 : (Lit.int .i64 more).wf = true) (w3 : (Lit.int .i64 ss).wf = true) (w4 : (Lit.int .i64 mss).wf = true) :
    ∃ k, tidewaylaw14_PrrRises.f k y.f0 y.f1 y.f2 n more ss mss = some true := by
  refine ⟨20, ?_⟩
  have ht : tidewaylaw14_PrrRises.j0 20 n more ss mss true y.f0 y.f1 y.f2 = some true := by
    rw [tidewaylaw14_PrrRises.j0, if_pos rfl, heads _ (by omega)]; rfl
  rw [tidewaylaw14_PrrRises.f]
  by_cases c1 : more < 0
  · rw [if_pos c1, ht]
  by_cases c2 : n < 0
  · rw [if_neg c1, if_pos c2, ht]
  by_cases c3 : more > 536870912
  · rw [if_neg c1, if_neg c2, if_pos c3, ht]
  by_cases c4 : n > 536870912
  · rw [if_neg c1, if_neg c2, if_neg c3, if_pos c4, ht]
  by_cases c5 : ss < 0
  · rw [if_neg c1, if_neg c2, if_neg c3, if_neg c4, if_pos c5, ht]
  rw [if_neg c1, if_neg c2, if_neg c3, if_neg c4, if_neg c5]
  by_cases c6 : ss ≥ 536870912
  · rw [decide_eq_true c6, ht]
  rw [decide_eq_false c6, tidewaylaw14_PrrRises.j0, if_neg (by simp), w64 (n := ss + 1) (by omega) (by omega), w64 (n := n + more) (by omega) (by omega)]
  have hp : ss + 1 > ss := by omega
  by_cases h : Ok y.f0 y.f1 y.f2
  · by_cases hm : 1 ≤ mss ∧ mss ≤ 65000
    · have ha : Args n (ss + 1) ss mss := ⟨⟨by omega, by omega⟩, ⟨by omega, by omega⟩, ⟨by omega, by omega⟩, hm⟩
      have ha' : Args (n + more) (ss + 1) ss mss := ⟨⟨by omega, by omega⟩, ⟨by omega, by omega⟩, ⟨by omega, by omega⟩, hm⟩
      rw [given_more h 18 ha _ hp, given_more h 18 ha' _ hp]
      simp only [Option.bind_some, if_true, bne_self_eq_false]
      rw [tidewaylaw14_PrrRises.j1, if_neg (by simp), heads _ (by omega)]
      obtain ⟨⟨a, b⟩, ⟨c, d⟩, e, q⟩ := h
      have hg1 := mns 1125899906842624 (y.f0 + n)
      have hg2 := mns 1125899906842624 (y.f0 + (n + more))
      obtain ⟨G, hG⟩ : ∃ G, mn 1125899906842624 (y.f0 + n) = G := ⟨_, rfl⟩
      obtain ⟨G', hG'⟩ : ∃ G, mn 1125899906842624 (y.f0 + (n + more)) = G := ⟨_, rfl⟩
      rw [hG] at hg1 ⊢
      rw [hG'] at hg2 ⊢
      have hcm := cd_mono (a := G) (a' := G') (b := ss) (c := y.f2) (by omega) (by omega) (by omega)
      have m1 := mns (cd G ss y.f2) 9223372036854775807
      have m2 := mns (cd G' ss y.f2) 9223372036854775807
      obtain ⟨X, hX⟩ : ∃ X, mn (cd G ss y.f2) 9223372036854775807 = X := ⟨_, rfl⟩
      obtain ⟨X', hX'⟩ : ∃ X, mn (cd G' ss y.f2) 9223372036854775807 = X := ⟨_, rfl⟩
      rw [hX] at m1 ⊢
      rw [hX'] at m2 ⊢
      have m3 := mxs (X - y.f1) (least y.f1 mss)
      have m4 := mxs (X' - y.f1) (least y.f1 mss)
      obtain ⟨A, hA⟩ : ∃ A, mx (X - y.f1) (least y.f1 mss) = A := ⟨_, rfl⟩
      obtain ⟨B, hB⟩ : ∃ A, mx (X' - y.f1) (least y.f1 mss) = A := ⟨_, rfl⟩
      rw [hA] at m3 ⊢
      rw [hB] at m4 ⊢
      have hl : (y.f1 = 0 ∧ least y.f1 mss = mss) ∨ (y.f1 ≠ 0 ∧ least y.f1 mss = 0) := by unfold least; split <;> simp_all
      have m5 := mns A 536870912
      obtain ⟨q', hq'⟩ : ∃ q, mn A 536870912 = q := ⟨_, rfl⟩
      rw [hq'] at m5 ⊢
      rw [sent_ok ⟨⟨a, b⟩, ⟨c, d⟩, e, q⟩ ⟨by omega, by omega⟩]
      simp only [Option.bind_some, if_true]
      have m6 := mns 1125899906842624 (y.f1 + q')
      obtain ⟨o', ho'⟩ : ∃ q, mn 1125899906842624 (y.f1 + q') = q := ⟨_, rfl⟩
      rw [ho'] at m6 ⊢
      rw [w64 (n := ss + 1) (by omega) (by omega), given_more ⟨⟨a, b⟩, ⟨by omega, by omega⟩, e, q⟩ 17 ha _ hp]
      simp only [Option.bind_some, if_true]
      rw [hG, hX, if_pos (by omega)]
      have m7 := mxs (X - o') (least o' mss)
      have hl2 : least o' mss = 0 := by rw [least, if_neg (by omega)]
      rw [hl2] at m7 ⊢
      rw [if_pos (by omega)]
    · have ha : ¬ Args n (ss + 1) ss mss := fun ha => hm ha.2.2.2
      have ha' : ¬ Args (n + more) (ss + 1) ss mss := fun ha => hm ha.2.2.2
      rw [given_arg h 18 ha, given_arg h 18 ha']
      simp only [Option.bind_some]
      rw [if_neg (by decide), tidewaylaw14_PrrRises.j1, if_pos rfl, if_pos rfl, heads _ (by omega)]
      rfl
  · rw [given_state h, given_state h]
    simp only [Option.bind_some]
    rw [if_neg (by decide), tidewaylaw14_PrrRises.j1, if_pos rfl, if_pos rfl, heads _ (by omega)]
    rfl
end Go.Proofs.Ytgjaajkbepabnaa.Pure

/- Who keeps a pace keeps a faster one, with a greater burst, and without some of the entries. -/
import Derived.Test.YtflmfbcapccdeaaJudgeFacts
import Derived.Test.YtflmfbcapccdeaaPAx25
set_option linter.unusedVariables false
set_option linter.unusedSimpArgs false
set_option autoImplicit false
namespace Go.Proofs.Ytflmfbcapccdeaa.Pure
open Go.RowKit Go.Proofs.Ytflmfbcapccdeaa.PA Go.Proofs.YtflmfbcapccdeaaW.PrintWords Go.Proofs.YtflmfbcapccdeaaW.PrintMore Go.Proofs.Ytflmfbcapccdeaa.JudgeFacts
theorem JudgeFaster (l0 : List S62) (a1 a2 a3 a4 : Int) (w0 : (∀ x ∈ l0, ((Lit.int .i64 x.f0).wf = true) ∧ (Lit.int .i64 x.f1).wf = true) ∧ l0.length * 16 ≤ 140737488351232 ∧ l0.length ≤ 9223372036854775807) (w1 : (Lit.int .i64 a1).wf = true) (w2 : (Lit.int .i64 a2).wf = true) (w3 : (Lit.int .i64 a3).wf = true) (w4 : (Lit.int .i64 a4).wf = true) :
    ∃ k, tidewaylaw25_JudgeFaster.f k l0 a1 a2 a3 a4 = some true := by
  refine ⟨60, ?_⟩
  have hh : ∀ k, tidewaylaw25_heads.f (k + 40) = some true := fun k => heads _ (by omega)
  have h0 : tidewaylaw25_JudgeFaster.j0 60 l0 a1 a2 a3 a4 true = some true := by rw [tidewaylaw25_JudgeFaster.j0, if_pos rfl, hh 19]; rfl
  have h1 : tidewaylaw25_JudgeFaster.j1 59 l0 a1 a2 a3 a4 true = some true := by rw [tidewaylaw25_JudgeFaster.j1, if_pos rfl, hh 18]; rfl
  rw [tidewaylaw25_JudgeFaster.f]
  by_cases c0 : (l0.length : Int) > 200
  · rw [if_pos c0, h0]
  rw [if_neg c0, judge_Paced.f, Option.bind_some]
  cases hp : jp_paced l0 a1 a2 with
  | false => exact h0
  | true =>
  rw [Bool.not_true, tidewaylaw25_JudgeFaster.j0, if_neg (by decide)]
  by_cases c1 : a3 < 0
  · rw [if_pos c1, h1]
  rw [if_neg c1]
  by_cases c2 : a3 > 1048576
  · rw [if_pos c2, h1]
  rw [if_neg c2]
  by_cases c3 : a1 > 549755813888
  · rw [if_pos c3, h1]
  rw [if_neg c3]
  by_cases c4 : a2 > 536870912
  · rw [decide_eq_true c4, h1]
  rw [decide_eq_false c4, tidewaylaw25_JudgeFaster.j1, if_neg (by decide)]
  obtain ⟨⟨p1, p2, p3, p4, p5, p6⟩, p7⟩ := paced_parts hp
  have e1 : wrap64 (a1 + a3) = a1 + a3 := jp_w64 (by omega) (by omega)
  have e2 : wrap64 (a2 + a3) = a2 + a3 := jp_w64 (by omega) (by omega)
  have h3 : ∀ (k : Nat) (l' : List S62), l'.Sublist l0 → tidewaylaw25_JudgeFaster.j3 (k + 41) l0 a1 a2 a3 l' = some true := by
    intro k l' hs
    rw [tidewaylaw25_JudgeFaster.j3, e1, e2, judge_Paced.f, Option.bind_some, paced_more hp (List.Sublist.refl _) (by omega) (by omega) (Int.le_refl _) p4, if_pos rfl, judge_Paced.f, Option.bind_some, paced_more hp (List.Sublist.refl _) (Int.le_refl _) p2 (by omega) (by omega), if_pos rfl, judge_Paced.f, Option.bind_some, paced_more hp hs (Int.le_refl _) p2 (Int.le_refl _) p4, if_pos rfl, hh k]
    rfl
  have h2 : ∀ q : Nat, q ≤ l0.length → tidewaylaw25_JudgeFaster.j2 58 l0 a1 a2 a3 (q : Int) = some true := by
    intro q hq
    rw [tidewaylaw25_JudgeFaster.j2, Option.bind_some, if_pos (Int.natCast_nonneg q), if_pos (by omega), Option.bind_some, Int.toNat_natCast, if_pos (by rw [List.length_take, List.length_nil]; omega), Option.bind_some, List.nil_append]
    by_cases c5 : (q : Int) < (l0.length : Int)
    · have e3 : wrap64 ((q : Int) + 1) = ((q + 1 : Nat) : Int) := by rw [jp_w64 (by omega) (by omega)]; rfl
      rw [if_pos c5, e3, if_pos (Int.natCast_nonneg _), if_pos (by omega), Option.bind_some, Int.toNat_natCast, if_pos (by rw [List.length_take, List.length_drop]; omega)]
      refine h3 16 _ ?_
      have h4 : (l0.take q ++ l0.drop (q + 1)).Sublist (l0.take q ++ l0.drop q) := by
        refine List.Sublist.append (List.Sublist.refl _) ?_
        rw [← List.drop_drop]
        exact List.drop_sublist _ _
      rwa [List.take_append_drop] at h4
    · rw [if_neg c5]
      exact h3 16 _ (List.take_sublist _ _)
  by_cases c6 : (l0.length : Int) > 0
  · have e4 : IntKind.u64.wrap (l0.length : Int) = (l0.length : Int) := jp_u64 _ (by omega) (by omega)
    rw [if_pos c6, e4, if_neg (by omega)]
    have e5 : IntKind.u64.wrap a4 = a4 % 18446744073709551616 := by simp [IntKind.wrap, IntKind.bits, IntKind.signed]
    rw [e5, Int.tmod_eq_emod_of_nonneg (by omega)]
    have q0 : 0 ≤ a4 % 18446744073709551616 % (l0.length : Int) := Int.emod_nonneg _ (by omega)
    have q1 : a4 % 18446744073709551616 % (l0.length : Int) < (l0.length : Int) := Int.emod_lt_of_pos _ c6
    generalize a4 % 18446744073709551616 % (l0.length : Int) = q at q0 q1
    rw [jp_w64 (by omega) (by omega)]
    obtain ⟨q, rfl⟩ := Int.eq_ofNat_of_zero_le q0
    exact h2 q (by omega)
  · rw [if_neg c6]
    exact h2 0 (Nat.zero_le _)
end Go.Proofs.Ytflmfbcapccdeaa.Pure

/- Segments sent while the application has nothing more say so, and others not. -/
import Derived.Test.YtbdomghfgaceaaaRateFacts
import Derived.Test.YtbdomghfgaceaaaPAx11
set_option linter.unusedVariables false
set_option linter.unusedSimpArgs false
set_option autoImplicit false
namespace Go.Proofs.Ytbdomghfgaceaaa.Pure
open Go.RowKit Go.Proofs.Ytbdomghfgaceaaa.PA Go.Proofs.YtbdomghfgaceaaaW.PrintWords Go.Proofs.YtbdomghfgaceaaaW.PrintMore Go.Proofs.Ytbdomghfgaceaaa.RateFacts
theorem sent_ok (q : R) (x : X) (now : Int) (h : rt_chk q = 0) (hn : rt_tm now = true) (hx : rt_rec x = true) :
    rate_Sent.f 9 q.f0 q.f1 q.f2 q.f3 x.f0 x.f1 x.f2 x.f3 x.f4 x.f5 x.f6 x.f7 x.f8 x.f9 x.f10 x.f11 now false = some (q.f0, q.f1, q.f2, q.f3, x.f0, x.f1, x.f2, x.f3, x.f4, x.f5, x.f6, x.f7, q.f0, q.f1, q.f2, decide (q.f3 > 0), 0) := by
  rw [rate_Sent.f, rt_chk_f q, h]
  simp only [Option.bind_some, if_true]
  rw [rt_time_f [now] (by simp)]
  simp only [Option.bind_some, List.all_cons, List.all_nil, Bool.and_true, hn, if_true]
  rw [rt_rec_f x, hx]
  rfl
theorem sent_no (q : R) (x : X) (now : Int) (h : ¬ (rt_chk q = 0 ∧ rt_tm now = true ∧ rt_rec x = true)) : ∃ e, e ≠ 0 ∧
    rate_Sent.f 9 q.f0 q.f1 q.f2 q.f3 x.f0 x.f1 x.f2 x.f3 x.f4 x.f5 x.f6 x.f7 x.f8 x.f9 x.f10 x.f11 now false = some (0, 0, 0, 0, 0, 0, false, 0, 0, false, false, false, 0, 0, 0, false, e) := by
  rw [rate_Sent.f, rt_chk_f q]
  simp only [Option.bind_some]
  by_cases h1 : rt_chk q = 0
  · refine ⟨2, by decide, ?_⟩
    rw [if_pos h1, rt_time_f [now] (by simp)]
    simp only [Option.bind_some, List.all_cons, List.all_nil, Bool.and_true]
    by_cases h2 : rt_tm now = true
    · rw [if_pos h2, rt_rec_f x]
      have h3 : rt_rec x = false := by
        cases h4 : rt_rec x with
        | false => rfl
        | true => exact absurd ⟨h1, h2, h4⟩ h
      rw [h3]; rfl
    · rw [if_neg h2]; rfl
  · exact ⟨rt_chk q, h1, by rw [if_neg h1]⟩
theorem RateIdle (q : R) (x : X) (now pipe : Int) (w0 : WfK q) (w1 : WfX x) (w2 : (Lit.int .i64 now).wf = true) (w3 : (Lit.int .i64 pipe).wf = true) :
    ∃ k, tidewaylaw17_RateIdle.f k q.f0 q.f1 q.f2 q.f3 x.f0 x.f1 x.f2 x.f3 x.f4 x.f5 x.f6 x.f7 x.f8 x.f9 x.f10 x.f11 now pipe = some true := by
  refine ⟨9, ?_⟩
  have hbad : ∀ (i1 i2 i3 i4 e : Int), e ≠ 0 → rate_Idle.f 9 q.f0 q.f1 q.f2 q.f3 pipe = some (i1, i2, i3, i4, e) → tidewaylaw17_RateIdle.f 9 q.f0 q.f1 q.f2 q.f3 x.f0 x.f1 x.f2 x.f3 x.f4 x.f5 x.f6 x.f7 x.f8 x.f9 x.f10 x.f11 now pipe = some true := by
    intro i1 i2 i3 i4 e he h
    rw [tidewaylaw17_RateIdle.f, h]
    simp only [Option.bind_some]
    by_cases ha : rt_chk (⟨i1, i2, i3, i4⟩ : R) = 0 ∧ rt_tm now = true ∧ rt_rec x = true
    · rw [sent_ok (⟨i1, i2, i3, i4⟩ : R) x now ha.1 ha.2.1 ha.2.2]
      by_cases hb : rt_chk q = 0 ∧ rt_tm now = true ∧ rt_rec x = true
      · rw [sent_ok q x now hb.1 hb.2.1 hb.2.2]; simp [he, tidewaylaw17_RateIdle.j0, heads]
      · obtain ⟨e2, he2, h2⟩ := sent_no q x now hb
        rw [h2]; simp [he, tidewaylaw17_RateIdle.j0, heads]
    · obtain ⟨e1, he1, h1⟩ := sent_no (⟨i1, i2, i3, i4⟩ : R) x now ha
      rw [h1]
      by_cases hb : rt_chk q = 0 ∧ rt_tm now = true ∧ rt_rec x = true
      · rw [sent_ok q x now hb.1 hb.2.1 hb.2.2]; simp [he, tidewaylaw17_RateIdle.j0, heads]
      · obtain ⟨e2, he2, h2⟩ := sent_no q x now hb
        rw [h2]; simp [he, tidewaylaw17_RateIdle.j0, heads]
  by_cases h1 : rt_chk q = 0
  · have hq := (chk_iff q).1 h1
    by_cases h2 : pipe < 0
    · exact hbad 0 0 0 0 2 (by decide) (by rw [rate_Idle.f, rt_chk_f q, h1]; simp only [Option.bind_some, if_true]; rw [if_pos h2])
    · by_cases h3 : pipe > 1073741824
      · exact hbad 0 0 0 0 2 (by decide) (by rw [rate_Idle.f, rt_chk_f q, h1]; simp only [Option.bind_some, if_true]; rw [if_neg h2, if_pos h3])
      · have hM : M = 1125899906842624 := rfl
        have hi : rate_Idle.f 9 q.f0 q.f1 q.f2 q.f3 pipe = some (q.f0, q.f1, q.f2, mn 1125899906842624 (mx 1 (wrap64 (q.f0 + pipe))), 0) := by
          rw [rate_Idle.f, rt_chk_f q, h1]; simp only [Option.bind_some, if_true]; rw [if_neg h2, if_neg h3]; rfl
        rw [w64 (by omega) (by omega)] at hi
        have m1 := mxs 1 (q.f0 + pipe); have m2 := mns 1125899906842624 (mx 1 (q.f0 + pipe))
        generalize mn 1125899906842624 (mx 1 (q.f0 + pipe)) = i3 at hi m2
        have h4 : rt_chk (⟨q.f0, q.f1, q.f2, i3⟩ : R) = 0 := (chk_iff _).2 ⟨hq.1, hq.2.1, hq.2.2.1, by show 0 ≤ i3 ∧ i3 ≤ M; omega⟩
        rw [tidewaylaw17_RateIdle.f, hi]
        simp only [Option.bind_some]
        by_cases h5 : rt_tm now = true ∧ rt_rec x = true
        · rw [sent_ok (⟨q.f0, q.f1, q.f2, i3⟩ : R) x now h4 h5.1 h5.2, sent_ok q x now h1 h5.1 h5.2]
          have hp : 0 < i3 := by omega
          simp [tidewaylaw17_RateIdle.j0, heads, hp]
        · obtain ⟨e1, he1, g1⟩ := sent_no (⟨q.f0, q.f1, q.f2, i3⟩ : R) x now (fun h => h5 h.2)
          obtain ⟨e2, he2, g2⟩ := sent_no q x now (fun h => h5 h.2)
          rw [g1, g2]
          simp [tidewaylaw17_RateIdle.j0, heads, he1]
  · exact hbad 0 0 0 0 230 (by decide) (by rw [rate_Idle.f, rt_chk_f q]; simp only [Option.bind_some]; rw [if_neg h1])
end Go.Proofs.Ytbdomghfgaceaaa.Pure

/- A timer that is put off brings no other one sooner. -/
import Derived.Test.YtlkkgikjghkcmaaTimerFacts
import Derived.Test.YtlkkgikjghkcmaaPAx18
set_option linter.unusedVariables false
set_option linter.unusedSimpArgs false
set_option autoImplicit false
namespace Go.Proofs.Ytlkkgikjghkcmaa.Pure
open Go.RowKit Go.Proofs.Ytlkkgikjghkcmaa.PA Go.Proofs.YtlkkgikjghkcmaaW.PrintWords Go.Proofs.YtlkkgikjghkcmaaW.PrintMore Go.Proofs.Ytlkkgikjghkcmaa.TimerFacts
theorem TimerLater (l : List X) (k t : Int) (w0 : WfL l) (w1 : (Lit.int .i64 k).wf = true) (w2 : (Lit.int .i64 t).wf = true) : ∃ n, tidewaylaw04_TimerLater.f n l k t = some true := by
  refine ⟨199 + 1, ?_⟩
  have ht : ∀ m, tidewaylaw04_TimerLater.j0 (199 + 1) l m true = some true := fun m => by rw [tidewaylaw04_TimerLater.j0, if_pos rfl, heads_up _ (by omega), Option.bind_some]
  rw [tidewaylaw04_TimerLater.f]
  by_cases hc : tm_chk l = 0
  · obtain ⟨o, rfl, ho⟩ := canon hc
    by_cases hk : 1 ≤ k ∧ k ≤ 5
    · cases hw : o k with
      | none =>
        rw [when_none (fun _ _ => hw), Option.bind_some]
        unfold timer_Set.f
        rw [Option.bind_some, if_neg (by decide), ht]
      | some was =>
        rw [when_some ho hk.1 hk.2 hw, Option.bind_some]
        by_cases h : Tm t
        · rw [set_f ho hk.1 hk.2 h, Option.bind_some, if_pos rfl, if_pos rfl]
          show tidewaylaw04_TimerLater.j0 (199 + 1) (L o) (L (upd o k (some t))) (decide (t < was)) = some true
          by_cases hlt : t < was
          · rw [decide_eq_true hlt, ht]
          rw [decide_eq_false hlt, tidewaylaw04_TimerLater.j0, if_neg (by decide)]
          have o1 : Ok (upd o k (some t)) := Ok_upd ho (fun s hs => by cases hs; exact h)
          have hm : (⟨k, was⟩ : X) ∈ L o := memL.2 ⟨hk, hw⟩
          have hm1 : (⟨k, t⟩ : X) ∈ L (upd o k (some t)) := memL.2 ⟨hk, by unfold upd; rw [if_pos rfl]⟩
          obtain ⟨a, ha, _, ha2⟩ := next_f hc (List.ne_nil_of_mem hm) (k := 199) (by omega)
          obtain ⟨b, hb, hb1, _⟩ := next_f (chkL o1) (List.ne_nil_of_mem hm1) (k := 199) (by omega)
          have hge : b.f1 ≥ a.f1 := by
            have h1 := memL.1 hb1
            unfold upd at h1
            by_cases e : b.f0 = k
            · rw [if_pos e] at h1
              have h2 := ha2 _ hm
              have h3 : t = b.f1 := Option.some.inj h1.2
              unfold le at h2
              show a.f1 ≤ b.f1
              have h4 : a.f1 < was ∨ a.f1 = was ∧ a.f0 ≤ k := h2
              omega
            · rw [if_neg e] at h1
              have h2 := ha2 b (memL.2 h1)
              unfold le at h2
              omega
          have hlen : (L (upd o k (some t))).length = (L o).length := by
            have hk5 : k = 1 ∨ k = 2 ∨ k = 3 ∨ k = 4 ∨ k = 5 := by omega
            rw [lenL, lenL]
            unfold upd
            rcases hk5 with rfl | rfl | rfl | rfl | rfl <;> simp [hw]
          rw [ha, hb, Option.bind_some, Option.bind_some, if_pos rfl, if_pos rfl, if_pos hge, if_pos (by rw [hlen]), heads_up _ (by omega), Option.bind_some]
        · rw [set_no ho (fun hh => h hh.2.2), Option.bind_some, if_pos rfl, if_neg (by decide), ht]
    · rw [when_none (fun h1 h5 => absurd ⟨h1, h5⟩ hk), Option.bind_some]
      unfold timer_Set.f
      rw [Option.bind_some, if_neg (by decide), ht]
  · rw [when_bad hc, Option.bind_some, set_bad hc, Option.bind_some, if_neg (by decide), ht]
end Go.Proofs.Ytlkkgikjghkcmaa.Pure

/- The order in which two kinds of timers are set does not matter. -/
import Derived.Test.YtlkkgikjghkcmaaTimerFacts
import Derived.Test.YtlkkgikjghkcmaaPAx11
set_option linter.unusedVariables false
set_option linter.unusedSimpArgs false
set_option autoImplicit false
namespace Go.Proofs.Ytlkkgikjghkcmaa.Pure
open Go.RowKit Go.Proofs.Ytlkkgikjghkcmaa.PA Go.Proofs.YtlkkgikjghkcmaaW.PrintWords Go.Proofs.YtlkkgikjghkcmaaW.PrintMore Go.Proofs.Ytlkkgikjghkcmaa.TimerFacts
theorem TimerTwo (l : List X) (a b : Int) (w0 : WfL l) (w1 : (Lit.int .i64 a).wf = true) (w2 : (Lit.int .i64 b).wf = true) : ∃ k, tidewaylaw04_TimerTwo.f k l a b = some true := by
  have hl := w0.2.2
  refine ⟨(2 * l.length + 199) + 1, ?_⟩
  have ht : tidewaylaw04_TimerTwo.j0 ((2 * l.length + 199) + 1) l a b true = some true := by rw [tidewaylaw04_TimerTwo.j0, if_pos rfl, heads_up _ (by omega), Option.bind_some]
  rw [tidewaylaw04_TimerTwo.f, tm_chk_f l hl _ (by omega), Option.bind_some]
  by_cases hc : tm_chk l = 0
  · rw [if_pos hc]
    by_cases h1 : a < 0
    · rw [if_pos h1, ht]
    rw [if_neg h1]
    by_cases h2 : b < 0
    · rw [if_pos h2, ht]
    rw [if_neg h2]
    by_cases h3 : a > 1125899906842624
    · rw [if_pos h3, ht]
    rw [if_neg h3]
    by_cases h4 : b > 1125899906842624
    · rw [decide_eq_true h4, ht]
    rw [decide_eq_false h4, tidewaylaw04_TimerTwo.j0, if_neg (by decide)]
    obtain ⟨o, rfl, ho⟩ := canon hc
    have ta : Tm a := ⟨by omega, by omega⟩
    have tb : Tm b := ⟨by omega, by omega⟩
    have o1 : Ok (upd o 3 (some a)) := Ok_upd ho (fun t h => by cases h; exact ta)
    have o2 : Ok (upd o 5 (some b)) := Ok_upd ho (fun t h => by cases h; exact tb)
    rw [set_f ho (by omega) (by omega) ta, Option.bind_some, set_f o1 (by omega) (by omega) tb, Option.bind_some, set_f ho (by omega) (by omega) tb, Option.bind_some, set_f o2 (by omega) (by omega) ta, Option.bind_some]
    rw [upd_comm o (k := 5) (k' := 3) (by omega)]
    have h5 := len5 (upd (upd o 3 (some a)) 5 (some b))
    show ((tidewayref04_Same.f (2 * (L o).length + 199) (L (upd (upd o 3 (some a)) 5 (some b))) (L (upd (upd o 3 (some a)) 5 (some b)))).bind fun _ => _) = _
    rw [same_refl _ (by omega) (by omega), Option.bind_some, if_pos rfl]
    have h2 : ((L (upd (upd o 3 (some a)) 5 (some b))).length : Int) ≥ 2 := by
      rw [lenL]
      have e3 : upd (upd o 3 (some a)) 5 (some b) 3 = some a := rfl
      have e5 : upd (upd o 3 (some a)) 5 (some b) 5 = some b := rfl
      rw [e3, e5]
      simp only [Option.isSome_some, if_true]
      omega
    rw [if_pos h2, heads_up _ (by omega), Option.bind_some]
  · rw [if_neg hc, ht]
end Go.Proofs.Ytlkkgikjghkcmaa.Pure

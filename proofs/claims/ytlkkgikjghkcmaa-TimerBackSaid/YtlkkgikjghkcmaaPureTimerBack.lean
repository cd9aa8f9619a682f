/- A timer that is set goes off at its time, and others stay; stopped it is gone. -/
import Derived.Test.YtlkkgikjghkcmaaTimerFacts
import Derived.Test.YtlkkgikjghkcmaaPAx19
set_option linter.unusedVariables false
set_option linter.unusedSimpArgs false
set_option autoImplicit false
namespace Go.Proofs.Ytlkkgikjghkcmaa.Pure
open Go.RowKit Go.Proofs.Ytlkkgikjghkcmaa.PA Go.Proofs.YtlkkgikjghkcmaaW.PrintWords Go.Proofs.YtlkkgikjghkcmaaW.PrintMore Go.Proofs.Ytlkkgikjghkcmaa.TimerFacts
theorem TimerBack (l : List X) (k t : Int) (w0 : WfL l) (w1 : (Lit.int .i64 k).wf = true) (w2 : (Lit.int .i64 t).wf = true) : ∃ n, tidewaylaw04_TimerBack.f n l k t = some true := by
  refine ⟨199 + 1, ?_⟩
  rw [tidewaylaw04_TimerBack.f]
  by_cases hc : tm_chk l = 0
  · obtain ⟨o, rfl, ho⟩ := canon hc
    by_cases hk : 1 ≤ k ∧ k ≤ 5 ∧ Tm t
    · obtain ⟨h1, h5, h⟩ := hk
      have o1 : Ok (upd o k (some t)) := Ok_upd ho (fun s hs => by cases hs; exact h)
      have e1 : upd o k (some t) k = some t := by unfold upd; rw [if_pos rfl]
      have e2 : upd o k none k = none := by unfold upd; rw [if_pos rfl]
      have l1 := len5 (upd o k none)
      have l2 := len5 (upd o k (some t))
      rw [set_f ho h1 h5 h, Option.bind_some, if_pos rfl]
      show ((timer_When.f (L (upd o k (some t))) k).bind fun bt288 => _) = _
      rw [when_some o1 h1 h5 e1, Option.bind_some, stop_f o1 h1 h5, Option.bind_some, upd_upd, stop_f ho h1 h5, Option.bind_some]
      show ((timer_When.f (L (upd o k none)) k).bind fun bt288 => _) = _
      rw [when_none (fun _ _ => e2), Option.bind_some, set_f o1 h1 h5 h, Option.bind_some, upd_upd, if_pos rfl, if_pos rfl, if_pos rfl, if_pos rfl]
      show ((tidewayref04_Same.f (199 + 1) (L (upd o k none)) (L (upd o k none))).bind fun _ => _) = _
      rw [same_refl _ (by omega) (by omega), Option.bind_some, if_pos rfl, if_neg (by decide), if_pos rfl]
      show ((tidewayref04_Same.f (199 + 1) (L (upd o k (some t))) (L (upd o k (some t)))).bind fun _ => _) = _
      rw [same_refl _ (by omega) (by omega), Option.bind_some, if_pos rfl]
      show ((timer_Check.f (199 + 1) (L (upd o k (some t)))).bind fun _ => _) = _
      rw [tm_chk_f _ (by omega) _ (by omega), Option.bind_some, if_pos (chkL o1), heads_up _ (by omega), Option.bind_some]
    · rw [set_no ho hk, Option.bind_some, if_neg (by decide)]
      show (if (0 : Int) = 0 then _ else _) = _
      rw [if_pos rfl, heads_up _ (by omega), Option.bind_some]
  · rw [set_bad hc, Option.bind_some, if_neg (by decide)]
    show (if (0 : Int) = 0 then _ else _) = _
    rw [if_pos rfl, heads_up _ (by omega), Option.bind_some]
end Go.Proofs.Ytlkkgikjghkcmaa.Pure

/- What was sent behind all that was delivered is never lost, and what was delivered neither; nothing else is turned. -/
import Derived.Test.YtfckpjljpeaikaaRackFacts
import Derived.Test.YtfckpjljpeaikaaPAx15
set_option linter.unusedVariables false
set_option linter.unusedSimpArgs false
set_option autoImplicit false
namespace Go.Proofs.Ytfckpjljpeaikaa.Pure
open Go.RowKit Go.Proofs.Ytfckpjljpeaikaa.PA Go.Proofs.YtfckpjljpeaikaaW.PrintWords Go.Proofs.YtfckpjljpeaikaaW.PrintMore Go.Proofs.Ytfckpjljpeaikaa.RackFacts
theorem never_loop (y : R) (l : List X) (now wait : Int) (hlen : l.length ≤ 1759218604440) (ho : Ok y) (hn : 0 ≤ now ∧ now ≤ 1125899906842624) (hw : 0 ≤ wait ∧ wait ≤ 1125899906842624) (hr : ∀ x ∈ l, rm_rec x now = true) (d : Nat) :
    ∀ i : Nat, i + d = l.length → ∀ k, 4 * d + 1 ≤ k → tidewaylaw13_RackNever.l0 k l now wait (l.map (mk y now wait)) (i : Int) y.f0 y.f1 y.f2 y.f3 y.f4 y.f5 y.f6 y.f7 = some true := by
  induction d with
  | zero =>
    intro i hi k hk
    obtain ⟨k, rfl⟩ : ∃ m, k = m + 1 := ⟨k - 1, by omega⟩
    simp only [tidewaylaw13_RackNever.l0]
    rw [if_neg (by omega)]
    rfl
  | succ d ih =>
    intro i hi k hk
    obtain ⟨k, rfl⟩ : ∃ m, k = m + 4 := ⟨k - 4, by omega⟩
    have ih := ih (i + 1) (by omega) k (by omega)
    have hlt : i < l.length := by omega
    have e1 : rd_T25 l (i : Int) = l[i] := by rw [rd_T25, Int.toNat_natCast, List.getD_eq_getElem?_getD, List.getElem?_eq_getElem hlt]; rfl
    have e2 : rd_T25 (l.map (mk y now wait)) (i : Int) = mk y now wait l[i] := by rw [rd_T25, Int.toNat_natCast, List.getD_eq_getElem?_getD, List.getElem?_map, List.getElem?_eq_getElem hlt]; rfl
    have hx := hr l[i] (List.getElem_mem _)
    have hle := left_eq ho (now := now) (wait := wait) ⟨hn.1, by omega⟩ ⟨hw.1, by omega⟩ hx
    obtain ⟨_, _, hx3, _⟩ := (rec_iff _ _).1 hx
    have hw1 : wrap64 ((i : Int) + 1) = ((i + 1 : Nat) : Int) := by rw [w64 (by omega) (by omega)]; rfl
    have c1 : (i : Int) < (l.length : Int) := by omega
    have c2 : (0 : Int) ≤ (i : Int) := Int.natCast_nonneg i
    have c3 : (i : Int) < ((l.map (mk y now wait)).length : Int) := by rw [List.length_map]; omega
    simp only [tidewaylaw13_RackNever.l0]
    rw [if_pos c1, if_pos c2, if_pos c3, e1, e2]
    generalize hx0 : l[i] = x at *
    by_cases ha : rm_asks y x = true ∧ ¬ rm_left y now wait x > 0
    · have em : mk y now wait x = (⟨x.f0, x.f1, x.f2, x.f3, x.f4, x.f5, true, false, x.f8, x.f9, x.f10, x.f11⟩ : X) := by unfold mk; rw [if_pos ha]
      obtain ⟨h5, h3, h67⟩ := ahead_le ha.1
      obtain ⟨_, _, hk2, _⟩ := ho
      have ew : wrap64 (wrap64 (x.f3 + y.f2) + wait) = x.f3 + y.f2 + wait := by rw [w64 (n := x.f3 + y.f2) (by omega) (by omega), w64 (by omega) (by omega)]
      have hno : ¬ x.f3 + y.f2 + wait > now := by have := ha.2; rw [hle] at this; omega
      have hno3 : ¬ x.f3 > y.f0 := by omega
      have hj : tidewaylaw13_RackNever.j1 (k + 3) l now wait (l.map (mk y now wait)) (i : Int) true y.f0 y.f1 y.f2 y.f3 y.f4 y.f5 y.f6 y.f7 = some true := by
        rw [tidewaylaw13_RackNever.j1, if_pos rfl, if_pos c2, if_pos c1, e1, h5, if_neg (by decide), if_neg hno3, ew, decide_eq_false hno]
        rw [tidewaylaw13_RackNever.j2, if_neg (by decide), if_pos rfl, tidewaylaw13_RackNever.j3, if_neg (by decide), hw1]
        exact ih
      rw [em]
      simp only [Bool.false_eq_true, if_false, if_true]
      by_cases h6 : x.f6 = true
      · rw [if_pos h6, h67.resolve_right (by rw [h6]; decide)]; exact hj
      · rw [if_neg h6]; exact hj
    · have em : mk y now wait x = x := by unfold mk; rw [if_neg ha]
      have hj : tidewaylaw13_RackNever.j1 (k + 3) l now wait (l.map (mk y now wait)) (i : Int) false y.f0 y.f1 y.f2 y.f3 y.f4 y.f5 y.f6 y.f7 = some true := by
        rw [tidewaylaw13_RackNever.j1, if_neg (by decide), tidewaylaw13_RackNever.j2, if_neg (by decide), if_neg (by decide), if_pos c2, if_pos c3, if_pos c1, e1, e2, em]
        simp only [beq_self_eq_true, Bool.not_true, Bool.or_false]
        rw [tidewaylaw13_RackNever.j3, if_neg (by decide), hw1]
        exact ih
      rw [em]
      by_cases h6 : x.f6 = true
      · rw [if_pos h6]
        by_cases h7 : x.f7 = true
        · rw [if_pos h7]; exact hj
        · rw [if_neg h7, if_pos h6, Bool.eq_false_iff.mpr h7]; exact hj
      · rw [if_neg h6]; exact hj
theorem RackNever (y : R) (l : List X) (now wait : Int) (w0 : WfK y) (w1 : WfL l) (w2 : (Lit.int .i64 now).wf = true) (w3 : (Lit.int .i64 wait).wf = true) :
    ∃ k, tidewaylaw13_RackNever.f k y.f0 y.f1 y.f2 y.f3 y.f4 y.f5 y.f6 y.f7 l now wait = some true := by
  have hlen : l.length ≤ 1759218604440 := by have := w1.2.1; omega
  refine ⟨4 * l.length + 1, ?_⟩
  rw [tidewaylaw13_RackNever.f, rmark_f y l now wait (by omega)]
  simp only [Option.bind_some]
  unfold rmark
  by_cases h1 : rm_chk y = 0
  · rw [if_pos h1]
    by_cases h2 : rm_within 1125899906842624 [now, wait] = true
    · rw [if_pos h2]
      by_cases h3 : l.any (rm_bad now) = true
      · rw [if_pos h3]; rfl
      · rw [if_neg h3]
        have hnw := (rwithin_iff _ _).1 h2
        simp only [List.mem_cons, List.not_mem_nil, or_false, forall_eq_or_imp, forall_eq] at hnw
        have hr : ∀ x ∈ l, rm_rec x now = true := Classical.not_not.1 (fun h => h3 ((bad_iff l now).2 h))
        show (if (0 : Int) = 0 then (if ((l.map (mk y now wait)).length : Int) = (l.length : Int) then _ else _) else _) = _
        rw [if_pos rfl, if_pos (by rw [List.length_map])]
        exact never_loop y l now wait hlen (chk_ok h1) hnw.1 hnw.2 hr l.length 0 (by omega) _ (by omega)
    · rw [if_neg h2]; rfl
  · rw [if_neg h1, (chk_no h1).1]; rfl
end Go.Proofs.Ytfckpjljpeaikaa.Pure

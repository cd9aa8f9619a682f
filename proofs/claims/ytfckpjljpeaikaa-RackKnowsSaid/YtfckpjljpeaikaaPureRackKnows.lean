/- What is known behind a segment that was delivered is what the document says. -/
import Derived.Test.YtfckpjljpeaikaaRackGiven
import Derived.Test.YtfckpjljpeaikaaRackRef
import Derived.Test.YtfckpjljpeaikaaPAx14
import Derived.Test.YtfckpjljpeaikaaPAx16
set_option linter.unusedVariables false
set_option linter.unusedSimpArgs false
set_option autoImplicit false
namespace Go.Proofs.Ytfckpjljpeaikaa.Pure
open Go.RowKit Go.Proofs.Ytfckpjljpeaikaa.PA Go.Proofs.YtfckpjljpeaikaaW.PrintWords Go.Proofs.YtfckpjljpeaikaaW.PrintMore Go.Proofs.Ytfckpjljpeaikaa.RackFacts
theorem r4 (k : Nat) (now : Int) (b s : Bool) (f : Int) (y : R) (x : X) : tidewayref13_Given.j4 (k + 1) now b y.f0 y.f1 y.f2 s f y.f5 y.f6 y.f7 x.f0 x.f1 x.f2 x.f3 x.f4 x.f5 x.f6 x.f7 x.f8 x.f9 x.f10 x.f11 = some (fin y x (wrap64 (now - x.f3)) b s f) := by cases b <;> rfl
theorem r3 (k : Nat) (now : Int) (b s : Bool) (f : Int) (y : R) (x : X) : tidewayref13_Given.j3 (k + 2) now b y.f0 y.f1 y.f2 s f y.f5 y.f6 y.f7 x.f0 x.f1 x.f2 x.f3 x.f4 x.f5 x.f6 x.f7 x.f8 x.f9 x.f10 x.f11 = some (fin y x (wrap64 (now - x.f3)) (!b && (decide (x.f3 > y.f0) || (decide (x.f3 = y.f0) && decide (x.f1 > y.f1)))) s f) := by
  rw [tidewayref13_Given.j3]
  simp only [r4]
  cases b
  · rw [if_neg (by decide)]
    by_cases h : x.f3 > y.f0
    · rw [if_pos h, decide_eq_true h]; rfl
    · rw [if_neg h, decide_eq_false h]
      by_cases h2 : x.f3 = y.f0
      · rw [if_pos h2, decide_eq_true h2]; rfl
      · rw [if_neg h2, decide_eq_false h2]; rfl
  · rfl
theorem r2 (k : Nat) (now low : Int) (s : Bool) (y : R) (x : X) : tidewayref13_Given.j2 (k + 3) now low y.f0 y.f1 y.f2 s y.f4 y.f5 y.f6 y.f7 x.f0 x.f1 x.f2 x.f3 x.f4 x.f5 x.f6 x.f7 x.f8 x.f9 x.f10 x.f11 = some (fin y x (wrap64 (now - x.f3)) (tn y x (wrap64 (now - x.f3)) low) s (mx y.f4 x.f1)) := by
  rw [tidewayref13_Given.j2]
  simp only [r3]
  unfold tn
  by_cases h : x.f4 > 1
  · rw [if_pos h, decide_eq_true h, Bool.true_and]
  · rw [if_neg h, decide_eq_false h, Bool.false_and]
theorem r1 (k : Nat) (now low : Int) (b : Bool) (y : R) (x : X) : tidewayref13_Given.j1 (k + 4) now low b y.f0 y.f1 y.f2 y.f3 y.f4 y.f5 y.f6 y.f7 x.f0 x.f1 x.f2 x.f3 x.f4 x.f5 x.f6 x.f7 x.f8 x.f9 x.f10 x.f11 = some (fin y x (wrap64 (now - x.f3)) (tn y x (wrap64 (now - x.f3)) low) (b || y.f3) (mx y.f4 x.f1)) := by
  rw [tidewayref13_Given.j1]
  simp only [r2]
  cases b <;> rfl
theorem rgiv_f (y : R) (x : X) (now low : Int) (k : Nat) : tidewayref13_Given.f (k + 5) y.f0 y.f1 y.f2 y.f3 y.f4 y.f5 y.f6 y.f7 x.f0 x.f1 x.f2 x.f3 x.f4 x.f5 x.f6 x.f7 x.f8 x.f9 x.f10 x.f11 now low = some (giv y x now low) := by
  rw [tidewayref13_Given.f, rcheck_f, time_f, time_f, rrec_f]
  simp only [Option.bind_some, decide_eq_true_eq]
  unfold giv
  rw [within_time]
  by_cases h1 : rm_chk y = 0
  · rw [if_pos h1, if_pos h1]
    by_cases h2 : 0 ≤ now ∧ now ≤ 1125899906842624
    · rw [if_pos h2]
      by_cases h3 : 0 ≤ low ∧ low ≤ 1125899906842624
      · rw [if_pos h3, decide_eq_true h2, decide_eq_true h3, if_pos (show (true && true) = true from rfl)]
        by_cases h4 : rm_rec x now = true
        · rw [if_pos h4, h4, tidewayref13_Given.j0, if_neg (by decide)]
          unfold sn
          by_cases h5 : x.f4 = 1
          · rw [if_pos h5, r1, decide_eq_true h5, Bool.true_and, Bool.or_comm]
          · rw [if_neg h5, r1, decide_eq_false h5, Bool.false_and, Bool.or_comm]
        · rw [if_neg h4, Bool.eq_false_iff.mpr h4, tidewayref13_Given.j0, if_pos (by rfl)]
      · rw [if_neg h3, decide_eq_false h3, Bool.and_false, if_neg (by decide), tidewayref13_Given.j0, if_pos rfl]
    · rw [if_neg h2, decide_eq_false h2, Bool.false_and, if_neg (by decide), tidewayref13_Given.j0, if_pos rfl]
  · rw [if_neg h1, if_neg h1, (chk_no h1).1]
theorem RackKnows (y : R) (x : X) (now low : Int) (w0 : WfK y) (w1 : WfX x) (w2 : (Lit.int .i64 now).wf = true) (w3 : (Lit.int .i64 low).wf = true) :
    ∃ k, tidewaylaw13_RackKnows.f k y.f0 y.f1 y.f2 y.f3 y.f4 y.f5 y.f6 y.f7 x.f0 x.f1 x.f2 x.f3 x.f4 x.f5 x.f6 x.f7 x.f8 x.f9 x.f10 x.f11 now low = some true := by
  refine ⟨5, ?_⟩
  rw [tidewaylaw13_RackKnows.f, giv_f y x now low 1, rgiv_f y x now low 0, chk9 y 4, rcheck_f y 4]
  simp only [Option.bind_some, beq_self_eq_true, Bool.and_self, if_true]
  rfl
end Go.Proofs.Ytfckpjljpeaikaa.Pure

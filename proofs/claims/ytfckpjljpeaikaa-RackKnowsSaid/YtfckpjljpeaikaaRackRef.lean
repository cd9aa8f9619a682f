/- The document's tests of a state, a time and a record, in plain words. -/
import Derived.Test.YtfckpjljpeaikaaRackFacts
import Derived.Test.YtfckpjljpeaikaaPAx13
set_option linter.unusedVariables false
set_option linter.unusedSimpArgs false
set_option autoImplicit false
namespace Go.Proofs.Ytfckpjljpeaikaa.RackFacts
open Go.RowKit Go.Proofs.Ytfckpjljpeaikaa.PA Go.Proofs.YtfckpjljpeaikaaW.PrintWords Go.Proofs.YtfckpjljpeaikaaW.PrintMore
theorem off_f (a : Int) : tidewayref13_off.f a = some (decide (0 ≤ a ∧ a ≤ 2251799813685248)) := by
  unfold tidewayref13_off.f
  by_cases h : a ≥ 0
  · rw [if_pos h]; congr 1; exact decide_eq_decide.2 ⟨fun h' => ⟨h, h'⟩, fun h' => h'.2⟩
  · rw [if_neg h, decide_eq_false (fun h' => h h'.1)]
theorem time_f (a : Int) : tidewayref13_time.f a = some (decide (0 ≤ a ∧ a ≤ 1125899906842624)) := by
  unfold tidewayref13_time.f
  by_cases h : a ≥ 0
  · rw [if_pos h]; congr 1; exact decide_eq_decide.2 ⟨fun h' => ⟨h, h'⟩, fun h' => h'.2⟩
  · rw [if_neg h, decide_eq_false (fun h' => h h'.1)]
theorem rrec_f (x : X) (now : Int) : tidewayref13_rec.f x.f0 x.f1 x.f2 x.f3 x.f4 x.f5 x.f6 x.f7 x.f8 x.f9 x.f10 x.f11 now = some (rm_rec x now) := by
  rw [tidewayref13_rec.f, off_f, off_f]
  simp only [Option.bind_some, decide_eq_true_eq]
  by_cases h : rm_rec x now = true
  · obtain ⟨h0, h1, h2, h3⟩ := (rec_iff x now).1 h
    rw [if_pos h0, if_pos h1, if_pos h2.1, if_pos h2.2, decide_eq_true h3, h]
  · have hn := fun a b c d => h ((rec_iff x now).2 ⟨a, b, c, d⟩)
    have h' := Bool.eq_false_iff.mpr h
    rw [h']
    by_cases h0 : 0 ≤ x.f0 ∧ x.f0 ≤ 2251799813685248
    · rw [if_pos h0]
      by_cases h1 : 0 ≤ x.f1 ∧ x.f1 ≤ 2251799813685248
      · rw [if_pos h1]
        by_cases h2 : x.f3 ≥ 0
        · rw [if_pos h2]
          by_cases h3 : x.f3 ≤ now
          · rw [if_pos h3, decide_eq_false (fun h4 => hn h0 h1 ⟨h2, h3⟩ h4)]
          · rw [if_neg h3]
        · rw [if_neg h2]
      · rw [if_neg h1]
    · rw [if_neg h0]
theorem rcheck_f (y : R) (k : Nat) : tidewayref13_Check.f (k + 1) y.f0 y.f1 y.f2 y.f3 y.f4 y.f5 y.f6 y.f7 = some (rm_chk y) := by
  have hj : ∀ b, tidewayref13_Check.j0 (k + 1) b = some (if b = true then 230 else 0) := by intro b; cases b <;> rfl
  have no : ¬ Ok y → some (if true = true then (230 : Int) else 0) = some (rm_chk y) := fun h => by
    by_cases hc : rm_chk y = 0
    · exact absurd (chk_ok hc) h
    · rw [(chk_no hc).1]; rfl
  rw [tidewayref13_Check.f]
  simp only [off_f, hj, Option.bind_some, decide_eq_true_eq]
  by_cases h0 : 0 ≤ y.f0 ∧ y.f0 ≤ 2251799813685248
  · rw [if_pos h0]
    by_cases h1 : 0 ≤ y.f1 ∧ y.f1 ≤ 2251799813685248
    · rw [if_pos h1]
      by_cases h2 : 0 ≤ y.f2 ∧ y.f2 ≤ 2251799813685248
      · rw [if_pos h2]
        by_cases h4 : 0 ≤ y.f4 ∧ y.f4 ≤ 2251799813685248
        · rw [if_pos h4]
          by_cases h7 : 0 ≤ y.f7 ∧ y.f7 ≤ 2251799813685248
          · rw [if_pos h7]
            by_cases h5 : y.f5 < 1
            · rw [if_pos h5]; exact no (fun ho => by have := ho.2.2.2.2.2.1.1; omega)
            · rw [if_neg h5]
              by_cases h5' : y.f5 > 255
              · rw [if_pos h5']; exact no (fun ho => by have := ho.2.2.2.2.2.1.2; omega)
              · rw [if_neg h5']
                by_cases h6 : y.f6 < 0
                · rw [if_pos h6]; exact no (fun ho => by have := ho.2.2.2.2.2.2.1; omega)
                · rw [if_neg h6]
                  by_cases h6' : y.f6 > 16
                  · rw [if_pos h6']; exact no (fun ho => by have := ho.2.2.2.2.2.2.2; omega)
                  · rw [if_neg h6']
                    have ho : Ok y := ⟨h0, h1, h2, h4, h7, ⟨by omega, by omega⟩, by omega, by omega⟩
                    congr 1
                    by_cases hc : rm_chk y = 0
                    · exact hc.symm
                    · exact absurd ho (chk_no hc).2
          · rw [if_neg h7]; exact no (fun ho => h7 ho.2.2.2.2.1)
        · rw [if_neg h4]; exact no (fun ho => h4 ho.2.2.2.1)
      · rw [if_neg h2]; exact no (fun ho => h2 ho.2.2.1)
    · rw [if_neg h1]; exact no (fun ho => h1 ho.2.1)
  · rw [if_neg h0]; exact no (fun ho => h0 ho.1)
theorem within_time (a b : Int) : rm_within 1125899906842624 [a, b] = (decide (0 ≤ a ∧ a ≤ 1125899906842624) && decide (0 ≤ b ∧ b ≤ 1125899906842624)) := by
  rw [Bool.eq_iff_iff, rwithin_iff]
  simp
end Go.Proofs.Ytfckpjljpeaikaa.RackFacts

/- What rack.Given knows behind a segment that was delivered, in plain words. -/
import Derived.Test.YtfckpjljpeaikaaRackFacts
import Derived.Test.YtfckpjljpeaikaaPAx5
set_option linter.unusedVariables false
set_option linter.unusedSimpArgs false
set_option autoImplicit false
namespace Go.Proofs.Ytfckpjljpeaikaa.RackFacts
open Go.RowKit Go.Proofs.Ytfckpjljpeaikaa.PA Go.Proofs.YtfckpjljpeaikaaW.PrintWords Go.Proofs.YtfckpjljpeaikaaW.PrintMore
abbrev Ans := Int × Int × Int × Bool × Int × Int × Int × Int × Int
def sn (y : R) (x : X) : Bool := y.f3 || (decide (x.f4 = 1) && decide (x.f1 < y.f4))
def tn (y : R) (x : X) (t low : Int) : Bool := !(decide (x.f4 > 1) && decide (t < low)) && (decide (x.f3 > y.f0) || (decide (x.f3 = y.f0) && decide (x.f1 > y.f1)))
def fin (y : R) (x : X) (t : Int) (b s : Bool) (f : Int) : Ans := if b = true then (x.f3, x.f1, t, s, f, y.f5, y.f6, y.f7, 0) else (y.f0, y.f1, y.f2, s, f, y.f5, y.f6, y.f7, 0)
def giv (y : R) (x : X) (now low : Int) : Ans :=
  if rm_chk y = 0 then (if rm_within 1125899906842624 [now, low] = true then (if rm_rec x now = true then fin y x (wrap64 (now - x.f3)) (tn y x (wrap64 (now - x.f3)) low) (sn y x) (mx y.f4 x.f1) else (0, 0, 0, false, 0, 0, 0, 0, 2)) else (0, 0, 0, false, 0, 0, 0, 0, 2)) else (0, 0, 0, false, 0, 0, 0, 0, rm_chk y)
theorem g3 (k : Nat) (t : Int) (b s : Bool) (f : Int) (y : R) (x : X) : rack_Given.j3 (k + 1) t b y.f0 y.f1 y.f2 s f y.f5 y.f6 y.f7 x.f0 x.f1 x.f2 x.f3 x.f4 x.f5 x.f6 x.f7 x.f8 x.f9 x.f10 x.f11 = some (fin y x t b s f) := by
  cases b <;> rfl
theorem ahead9 (y : R) (x : X) (s : Bool) (f : Int) : rack_ahead.f y.f0 y.f1 y.f2 s f y.f5 y.f6 y.f7 x.f0 x.f1 x.f2 x.f3 x.f4 x.f5 x.f6 x.f7 x.f8 x.f9 x.f10 x.f11 = some (rm_ahead y x) := by
  unfold rack_ahead.f rm_ahead
  by_cases h : x.f3 < y.f0
  · simp [h]
  · by_cases h2 : x.f3 = y.f0
    · simp [h2]
    · simp [h, h2]
theorem same_ahead (y : R) (x : X) : (!(decide (x.f3 = y.f0) && decide (x.f1 = y.f1)) && !rm_ahead y x) = (decide (x.f3 > y.f0) || (decide (x.f3 = y.f0) && decide (x.f1 > y.f1))) := by
  unfold rm_ahead
  rw [Bool.eq_iff_iff]
  simp only [Bool.and_eq_true, Bool.or_eq_true, Bool.not_eq_true', Bool.and_eq_false_iff, Bool.or_eq_false_iff, decide_eq_true_eq, decide_eq_false_iff_not]
  omega
theorem g2 (k : Nat) (t low : Int) (s : Bool) (f : Int) (y : R) (x : X) : rack_Given.j2 (k + 2) low t (decide (x.f3 = y.f0) && decide (x.f1 = y.f1)) y.f0 y.f1 y.f2 s f y.f5 y.f6 y.f7 x.f0 x.f1 x.f2 x.f3 x.f4 x.f5 x.f6 x.f7 x.f8 x.f9 x.f10 x.f11 = some (fin y x t (tn y x t low) s f) := by
  have hsa := same_ahead y x
  unfold tn
  rw [← hsa, rack_Given.j2, ahead9]
  simp only [Option.bind_some, g3]
  by_cases h1 : x.f4 > 1
  · rw [if_pos h1, decide_eq_true h1]
    by_cases h2 : t < low
    · rw [if_pos h2, decide_eq_true h2]; rfl
    · rw [if_neg h2, decide_eq_false h2]
      cases (decide (x.f3 = y.f0) && decide (x.f1 = y.f1)) <;> simp
  · rw [if_neg h1, decide_eq_false h1]
    cases (decide (x.f3 = y.f0) && decide (x.f1 = y.f1)) <;> simp
theorem g1 (k : Nat) (now low : Int) (s : Bool) (y : R) (x : X) : rack_Given.j1 (k + 3) now low y.f0 y.f1 y.f2 s y.f4 y.f5 y.f6 y.f7 x.f0 x.f1 x.f2 x.f3 x.f4 x.f5 x.f6 x.f7 x.f8 x.f9 x.f10 x.f11 = some (fin y x (wrap64 (now - x.f3)) (tn y x (wrap64 (now - x.f3)) low) s (mx y.f4 x.f1)) := by
  rw [rack_Given.j1, ← g2 k]
  by_cases h : x.f3 = y.f0
  · rw [if_pos h, decide_eq_true h, Bool.true_and, Bool.beq_eq_decide_eq]
  · rw [if_neg h, decide_eq_false h, Bool.false_and]
theorem chk9 (y : R) (k : Nat) : rack_Check.f (k + 1) y.f0 y.f1 y.f2 y.f3 y.f4 y.f5 y.f6 y.f7 = some (rm_chk y) := up_ (f := fun k => rack_Check.f (k + 1) y.f0 y.f1 y.f2 y.f3 y.f4 y.f5 y.f6 y.f7) (fun k => rack_Check.mono _ _ _ _ _ _ _ _ (k + 1)) (k0 := 0) (by
  have h1 : ∀ b, rack_Check.j0 1 b = some (if b = true then 230 else 0) := by intro b; cases b <;> rfl
  have h2 : ∀ b, rack_Check.j0 2 b = some (if b = true then 230 else 0) := by intro b; cases b <;> rfl
  have h := rm_chk_f y
  unfold rack_Check.f at h ⊢
  simp only [h2] at h
  simp only [h1]
  exact h) k (Nat.zero_le _)
theorem giv_f (y : R) (x : X) (now low : Int) (k : Nat) : rack_Given.f (k + 4) y.f0 y.f1 y.f2 y.f3 y.f4 y.f5 y.f6 y.f7 x.f0 x.f1 x.f2 x.f3 x.f4 x.f5 x.f6 x.f7 x.f8 x.f9 x.f10 x.f11 now low = some (giv y x now low) := by
  rw [rack_Given.f, chk9]
  simp only [Option.bind_some]
  unfold giv
  by_cases h1 : rm_chk y = 0
  · rw [if_pos h1, if_pos h1]
    rw [show rack_within.f 1125899906842624 [now, low] = some (rm_within 1125899906842624 [now, low]) from rfl, rm_rec_f]
    simp only [Option.bind_some]
    by_cases h2 : rm_within 1125899906842624 [now, low] = true
    · rw [if_pos h2, if_pos h2]
      by_cases h3 : rm_rec x now = true
      · rw [if_pos h3, h3, rack_Given.j0, if_neg (by decide)]
        unfold sn
        by_cases h4 : y.f3 = true
        · rw [if_pos h4, g1, h4]; rfl
        · rw [if_neg h4, Bool.eq_false_iff.mpr h4, Bool.false_or]
          by_cases h5 : x.f4 = 1
          · rw [if_pos h5, g1, decide_eq_true h5, Bool.true_and]
          · rw [if_neg h5, g1, decide_eq_false h5, Bool.false_and]
      · rw [if_neg h3, Bool.eq_false_iff.mpr h3, rack_Given.j0, if_pos (by rfl)]
    · rw [if_neg h2, if_neg h2, rack_Given.j0, if_pos rfl]
  · rw [if_neg h1, if_neg h1]
end Go.Proofs.Ytfckpjljpeaikaa.RackFacts

/- board's records, in plain words. -/
import Derived.Test.YtgpbighdegdlfaaPAx9
import Derived.Test.YtgpbighdegdlfaaPAx6
import Derived.Test.YtgpbighdegdlfaaPAx10
import Derived.Test.YtgpbighdegdlfaaPAx15
import Derived.Test.YtgpbighdegdlfaaPAx18
set_option linter.unusedVariables false
set_option linter.unusedSimpArgs false
set_option autoImplicit false
namespace Go.Proofs.Ytgpbighdegdlfaa.BoardFacts
open Go.RowKit Go.Proofs.Ytgpbighdegdlfaa.PA Go.Proofs.YtgpbighdegdlfaaW.PrintWords Go.Proofs.YtgpbighdegdlfaaW.PrintMore
abbrev X := S38
abbrev Sp := S56
def WfX (x : X) : Prop := ((Lit.int .i64 x.f0).wf = true) ∧ ((Lit.int .i64 x.f1).wf = true) ∧ (True) ∧ ((Lit.int .i64 x.f3).wf = true) ∧ ((Lit.int .i64 x.f4).wf = true) ∧ (True) ∧ (True) ∧ (True) ∧ ((Lit.int .i64 x.f8).wf = true) ∧ ((Lit.int .i64 x.f9).wf = true) ∧ ((Lit.int .i64 x.f10).wf = true) ∧ (True)
def WfL (l : List X) : Prop := (∀ x ∈ l, WfX x) ∧ l.length * 80 ≤ 140737488351232 ∧ l.length ≤ 9223372036854775807
theorem w64 {n : Int} (h0 : -9223372036854775808 ≤ n) (h1 : n ≤ 9223372036854775807) : wrap64 n = n := by unfold wrap64; omega
def g (l : List X) (i : Nat) : X := l.getD i z38
theorem rd_g (l : List X) (i : Nat) : rd_T38 l (i : Int) = g l i := by rw [rd_T38, Int.toNat_natCast]; rfl
theorem g_get {l : List X} {i : Nat} (h : i < l.length) : g l i = l[i] := by rw [g, List.getD_eq_getElem?_getD, List.getElem?_eq_getElem h]; rfl
/- the check -/
theorem chk_iff (l : List X) : bd_chk l = 0 ↔ l.length ≤ 65536 ∧ ∀ i, i < l.length → bd_ok l i = true := by
  unfold bd_chk
  by_cases h : (l.length : Int) > 65536
  · rw [if_pos h]; constructor
    · intro h; exact absurd h (by decide)
    · intro hh; omega
  · rw [if_neg h]
    by_cases h2 : (List.range l.length).all (bd_ok l) = true
    · rw [if_pos h2]; exact ⟨fun _ => ⟨by omega, fun i hi => List.all_eq_true.1 h2 i (List.mem_range.2 hi)⟩, fun _ => rfl⟩
    · rw [if_neg h2]; constructor
      · intro h; exact absurd h (by decide)
      · intro hh; exact absurd (List.all_eq_true.2 fun i hi => hh.2 i (List.mem_range.1 hi)) h2
theorem chk_no {l : List X} (h : bd_chk l ≠ 0) : bd_chk l = 100 := by
  unfold bd_chk at h ⊢
  split
  · rfl
  · split
    · rename_i h1 h2; rw [if_neg h1, if_pos h2] at h; exact absurd rfl h
    · rfl
def Tm (t : Int) : Prop := 0 ≤ t ∧ t ≤ 1125899906842624
instance : DecidablePred Tm := fun t => by unfold Tm; infer_instance
theorem may_iff (x : X) : bd_may x = true ↔ 0 ≤ x.f0 ∧ x.f0 < x.f1 ∧ x.f1 ≤ 1125899906842625 ∧ 1 ≤ x.f4 ∧ (x.f7 = true → x.f6 = true) ∧ ¬ (x.f5 = true ∧ x.f6 = true) ∧ Tm x.f3 ∧ Tm x.f8 ∧ Tm x.f9 ∧ Tm x.f10 := by
  unfold bd_may
  have ht : (!([x.f3, x.f8, x.f9, x.f10].any bt_out)) = true ↔ Tm x.f3 ∧ Tm x.f8 ∧ Tm x.f9 ∧ Tm x.f10 := by
    simp only [List.any_cons, List.any_nil, bt_out, Tm, Bool.not_eq_true', Bool.or_eq_false_iff, decide_eq_false_iff_not, Bool.or_false]
    omega
  simp only [Bool.and_eq_true, decide_eq_true_eq, ht]
  have h1 : (x.f6 || !x.f7) = true ↔ (x.f7 = true → x.f6 = true) := by cases x.f6 <;> cases x.f7 <;> simp
  have h2 : (!(x.f5 && x.f6)) = true ↔ ¬ (x.f5 = true ∧ x.f6 = true) := by cases x.f5 <;> cases x.f6 <;> simp
  rw [h1, h2]
theorem ok_iff (l : List X) (i : Nat) : bd_ok l i = true ↔ bd_may (g l i) = true ∧ (i = 0 ∨ (g l (i - 1)).f1 = (g l i).f0 ∧ (g l (i - 1)).f2 = false) := by
  unfold bd_ok g
  simp only [Bool.and_eq_true, Bool.or_eq_true, decide_eq_true_eq, Bool.not_eq_true']
theorem g_set {l : List X} {i : Nat} (h : i < l.length) (x : X) (j : Nat) : g (l.set i x) j = if j = i then x else g l j := by
  unfold g
  rw [List.getD_eq_getElem?_getD, List.getD_eq_getElem?_getD, List.getElem?_set]
  by_cases e : i = j
  · subst e; rw [if_pos rfl, if_pos h, if_pos rfl]; rfl
  · rw [if_neg e, if_neg (fun h => e h.symm)]
/- sums -/
def wp (x : X) : Int := if bd_out x = true then x.f1 - x.f0 else 0
theorem up_ {α : Type} {f : Nat → Option α} (hm : ∀ k, LeO (f k) (f (k + 1))) {k0 : Nat} {r : α} (h : f k0 = some r) : ∀ k, k0 ≤ k → f k = some r := by
  intro k hk
  induction k with
  | zero => rw [← h]; congr 1; omega
  | succ k ih =>
    by_cases e : k0 = k + 1
    · rw [← e]; exact h
    · exact hm k r (ih (by omega))
theorem heads_up (k : Nat) (hk : 20 ≤ k) : tidewaylaw10_heads.f k = some true := by
  have h : tidewaylaw10_heads.f 20 = some true := by kernel_rfl
  exact up_ (f := fun k => tidewaylaw10_heads.f k) tidewaylaw10_heads.mono h k hk
end Go.Proofs.Ytgpbighdegdlfaa.BoardFacts

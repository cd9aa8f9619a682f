/- The same records: a row is the same as itself. -/
import Derived.Test.YtfckpjljpeaikaaRackFacts
import Derived.Test.YtfckpjljpeaikaaPAx11
set_option linter.unusedVariables false
set_option linter.unusedSimpArgs false
set_option autoImplicit false
namespace Go.Proofs.Ytfckpjljpeaikaa.RackFacts
open Go.RowKit Go.Proofs.Ytfckpjljpeaikaa.PA Go.Proofs.YtfckpjljpeaikaaW.PrintWords Go.Proofs.YtfckpjljpeaikaaW.PrintMore
theorem same_loop (l : List X) (hlen : l.length ≤ 1759218604440) (d : Nat) : ∀ i : Nat, i + d = l.length → ∀ k, d + 1 ≤ k → tidewayref10_Same.l0 k l l (i : Int) = some true := by
  induction d with
  | zero =>
    intro i hi k hk
    obtain ⟨k, rfl⟩ : ∃ m, k = m + 1 := ⟨k - 1, by omega⟩
    rw [tidewayref10_Same.l0, if_neg (by omega)]
  | succ d ih =>
    intro i hi k hk
    obtain ⟨k, rfl⟩ : ∃ m, k = m + 1 := ⟨k - 1, by omega⟩
    have hlt : i < l.length := by omega
    have c1 : (i : Int) < (l.length : Int) := Int.ofNat_lt.2 hlt
    have hw1 : wrap64 ((i : Int) + 1) = ((i + 1 : Nat) : Int) := by rw [w64 (by omega) (by omega)]; rfl
    rw [tidewayref10_Same.l0, if_pos c1, if_pos (Int.natCast_nonneg i), if_pos c1]
    simp only [beq_self_eq_true, Bool.not_true, Bool.or_false, Bool.false_eq_true, if_false]
    rw [hw1]
    exact ih (i + 1) (by omega) k (by omega)
theorem same_refl (l : List X) (hlen : l.length ≤ 1759218604440) (k : Nat) (hk : l.length + 1 ≤ k) : tidewayref10_Same.f k l l = some true := by
  rw [tidewayref10_Same.f, if_pos rfl]
  exact same_loop l hlen l.length 0 (by omega) k hk
end Go.Proofs.Ytfckpjljpeaikaa.RackFacts

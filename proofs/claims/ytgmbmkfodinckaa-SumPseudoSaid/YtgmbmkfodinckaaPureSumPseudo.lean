/- The bytes that stand ahead are the document's: of all numbers. -/
import Derived.Test.YtgmbmkfodinckaaSumFacts
set_option linter.unusedVariables false
set_option linter.unusedSimpArgs false
namespace Go.Proofs.Ytgmbmkfodinckaa.Pure
open Go.RowKit Go.Proofs.Ytgmbmkfodinckaa.PA Go.Proofs.YtgmbmkfodinckaaW.PrintWords Go.Proofs.Ytgmbmkfodinckaa.SumPlain Go.Proofs.Ytgmbmkfodinckaa.SumFacts
theorem wf64 {c : Int} (h : (Lit.int .i64 c).wf = true) : -9223372036854775808 ≤ c ∧ c ≤ 9223372036854775807 := by simpa [Lit.wf, IntKind.min, IntKind.max, IntKind.signed, IntKind.bits] using h
theorem tmod_cases (a : Int) (h0 : -9223372036854775808 ≤ a) (h1 : a ≤ 9223372036854775807) : (Int.tmod a 65536 < 0 → Int.tmod a 65536 + 65536 = a % 65536) ∧ (¬ Int.tmod a 65536 < 0 → Int.tmod a 65536 = a % 65536) := by
  rcases Int.le_total 0 a with h | h
  · rw [Int.tmod_eq_emod_of_nonneg h]; omega
  · obtain ⟨b, rfl⟩ : ∃ b, a = -b := ⟨-a, by omega⟩
    rw [Int.neg_tmod, Int.tmod_eq_emod_of_nonneg (by omega)]; omega
theorem sameF (l : List Int) : tidewayref02_Same.f l l = some true := by simp [tidewayref02_Same.f]
theorem refPseudo (a b n : Int) (h0 : -9223372036854775808 ≤ n) (h1 : n ≤ 9223372036854775807) : tidewayref02_Pseudo.f a b n = sum_Pseudo.f a b n := by
  have ht := tmod_cases n h0 h1
  have key : ∀ m : Int, m = n % 65536 → ([0, 6, (wrap64 (Int.tdiv m 256)) % 256, (Int.tmod m 256) % 256] : List Int) = [0, 6, (n / 256) % 256, n % 256] := by
    intro m hm
    have h2 : 0 ≤ m := by omega
    rw [Int.tdiv_eq_ediv_of_nonneg h2, Int.tmod_eq_emod_of_nonneg h2]
    have e1 : (wrap64 (m / 256)) % 256 = (n / 256) % 256 := by unfold wrap64; omega
    have e2 : (m % 256) % 256 = n % 256 := by omega
    rw [e1, e2]
  unfold tidewayref02_Pseudo.f sum_Pseudo.f tidewayref02_four.f
  by_cases h : Int.tmod n 65536 < 0
  · rw [if_pos h]
    have e := ht.1 h
    have e2 : wrap64 (Int.tmod n 65536 + 65536) = Int.tmod n 65536 + 65536 := by unfold wrap64; omega
    rw [e2, key _ e]
    simp [four8]
  · rw [if_neg h]
    rw [key _ (ht.2 h)]
    simp [four8]
theorem SumPseudo : tidewaylaw02_SumPseudo.Pure := by
  intro a b n ha hb hn
  have hn := wf64 hn
  unfold tidewaylaw02_SumPseudo.f
  rw [refPseudo a b n hn.1 hn.2, headsF]
  obtain ⟨r, hr⟩ : ∃ r, sum_Pseudo.f a b n = some r := ⟨_, rfl⟩
  rw [hr]
  simp [sameF]
end Go.Proofs.Ytgmbmkfodinckaa.Pure

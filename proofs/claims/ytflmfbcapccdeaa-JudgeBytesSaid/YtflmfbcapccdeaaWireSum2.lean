/- The document's checksum, at bytes that a law puts right. -/
import Derived.Test.YtflmfbcapccdeaaWireLaw
import Derived.Test.YtflmfbcapccdeaaPAx22
set_option linter.unusedVariables false
set_option linter.unusedSimpArgs false
namespace Go.Proofs.Ytflmfbcapccdeaa.WireSum
open Go.RowKit Go.Proofs.Ytflmfbcapccdeaa.PA Go.Proofs.YtflmfbcapccdeaaW.PrintWords Go.Proofs.Ytflmfbcapccdeaa.SumPlain Go.Proofs.Ytflmfbcapccdeaa.WireG
theorem refJoinF (a b : Int) (h0 : 0 ≤ a) (h1 : a ≤ 65535) (h2 : 0 ≤ b) (h3 : b ≤ 65535) : tidewayref02_Join.f a b = some (joinN a b) := by
  unfold tidewayref02_Join.f joinN
  have e1 : wrap64 ((wrap64 a) + (wrap64 b)) = a + b := by unfold wrap64; omega
  rw [e1, w16, w16]
  by_cases h : a + b > 65535
  · rw [if_pos h, if_pos h]; congr 1; unfold wrap64; omega
  · rw [if_neg h, if_neg h]; congr 1; omega
theorem wsum_two (l : List Int) (i : Nat) (h : i + 1 < l.length) : wsum true (l.drop i) = l.getD i 0 * 256 + l.getD (i + 1) 0 + wsum true (l.drop (i + 2)) := by
  rw [List.drop_eq_getElem_cons (show i < l.length by omega), List.drop_eq_getElem_cons h, wsum, wsum]
  simp [List.getD_eq_getElem?_getD, List.getElem?_eq_getElem h, List.getElem?_eq_getElem (show i < l.length by omega), Int.add_assoc]
theorem refSum_loop (l : List Int) (hl : byts l) (hm : l.length ≤ 140737488355328) : ∀ (d k : Nat) (i : Nat) (n : Int), l.length - i ≤ d → d < k → 0 ≤ n → i ≤ l.length + 1 →
    tidewayref02_Sum.l0 k l (norm n) i = some (65535 - norm (n + wsum true (l.drop i))) := by
  intro d
  induction d using Nat.strongRecOn with
  | ind d ih =>
    intro k i n hd hk hn hi
    obtain ⟨k, rfl⟩ : ∃ m, k = m + 1 := ⟨k - 1, by omega⟩
    have hb := norm_bd hn
    simp only [tidewayref02_Sum.l0]
    have hr : ∀ j : Nat, j < l.length → 0 ≤ l.getD j 0 ∧ l.getD j 0 ≤ 255 := fun j hj => by
      rw [List.getD_eq_getElem?_getD, List.getElem?_eq_getElem hj]; exact hl _ (List.getElem_mem _)
    by_cases h1 : (i : Int) < (l.length : Int)
    · rw [if_pos h1, if_pos (by omega)]
      have e1 : wrap64 ((i : Int) + 1) = ((i + 1 : Nat) : Int) := by unfold wrap64; omega
      have e2 : wrap64 ((i : Int) + 2) = ((i + 2 : Nat) : Int) := by unfold wrap64; omega
      rw [e1, e2]
      have ra : rd l (i : Int) = l.getD i 0 := by simp [rd]
      have rb : rd l ((i + 1 : Nat) : Int) = l.getD (i + 1) 0 := by simp only [rd, Int.toNat_natCast]
      have h3 := hr i (by omega)
      by_cases h2 : ((i + 1 : Nat) : Int) < (l.length : Int)
      · rw [if_pos h2, if_pos (by omega), ra, rb]
        have h4 := hr (i + 1) (by omega)
        have e3 : IntKind.u16.wrap (wrap64 ((wrap64 ((wrap64 (l.getD i 0)) * 256)) + (wrap64 (l.getD (i + 1) 0)))) = l.getD i 0 * 256 + l.getD (i + 1) 0 := by rw [w16]; unfold wrap64; omega
        rw [e3, refJoinF _ _ hb.1 hb.2 (by omega) (by omega), join_norm hn (by omega) (by omega)]
        simp only [Option.bind_some]
        rw [ih (d - 2) (by omega) k (i + 2) _ (by omega) (by omega) (by omega) (by omega), wsum_two l i (by omega)]
        congr 3; omega
      · rw [if_neg h2, ra]
        have e3 : IntKind.u16.wrap (wrap64 ((wrap64 (l.getD i 0)) * 256)) = l.getD i 0 * 256 := by rw [w16]; unfold wrap64; omega
        rw [e3, refJoinF _ _ hb.1 hb.2 (by omega) (by omega), join_norm hn (by omega) (by omega)]
        simp only [Option.bind_some]
        rw [ih (d - 1) (by omega) k (i + 2) _ (by omega) (by omega) (by omega) (by omega)]
        have e4 : l.drop i = [l.getD i 0] := by
          rw [List.drop_eq_getElem_cons (show i < l.length by omega), List.drop_eq_nil_of_le (by omega)]
          simp [List.getD_eq_getElem?_getD, List.getElem?_eq_getElem (show i < l.length by omega)]
        rw [List.drop_eq_nil_of_le (show l.length ≤ i + 2 by omega), e4]
        simp [wsum]
    · rw [if_neg h1, List.drop_eq_nil_of_le (by omega), w16]
      simp only [wsum, Int.add_zero]
      congr 1; omega
theorem refSumF (l : List Int) (hl : byts l) (hm : l.length ≤ 140737488355328) (k : Nat) (hk : l.length < k) : tidewayref02_Sum.f k l = some (65535 - norm (wsum true l)) := by
  have := refSum_loop l hl hm l.length k 0 0 (by omega) hk (by omega) (by omega)
  simpa [tidewayref02_Sum.f, show norm 0 = 0 from rfl] using this

theorem refPseudo (a b n : Int) (k : Nat) (h0 : 0 ≤ n) : tidewayref02_Pseudo.f (k + 1) a b n = some (pseu a b n) := by
  have ht : Int.tmod n 65536 = n % 65536 := Int.tmod_eq_emod_of_nonneg h0
  unfold tidewayref02_Pseudo.f
  rw [ht, if_neg (by omega), tidewayref02_Pseudo.j0]
  have e0 : Int.tdiv (n % 65536) 256 = n % 65536 / 256 := Int.tdiv_eq_ediv_of_nonneg (by omega)
  have e1 : Int.tmod (n % 65536) 256 = n % 65536 % 256 := Int.tmod_eq_emod_of_nonneg (by omega)
  have e2 : wrap64 (n % 65536 / 256) % 256 = n / 256 % 256 := by unfold wrap64; omega
  have e3 : n % 65536 % 256 % 256 = n % 256 := by omega
  rw [e0, e1, e2, e3]
  rfl
end Go.Proofs.Ytflmfbcapccdeaa.WireSum

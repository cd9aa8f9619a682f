/- The plain laws of the checksum's functions, as the print tells them. -/
import Derived.Test.YtgmbmkfodinckaaSumPlain
import Derived.Test.YtgmbmkfodinckaaPAx
import Derived.Laws.BitsAllLaws
set_option linter.unusedVariables false
set_option linter.unusedSimpArgs false
namespace Go.Proofs.Ytgmbmkfodinckaa.SumFacts
open Go.RowKit Go.Proofs.Ytgmbmkfodinckaa.PA Go.Proofs.YtgmbmkfodinckaaW.PrintWords Go.Proofs.Ytgmbmkfodinckaa.SumPlain
theorem w16 (n : Int) : IntKind.u16.wrap n = n % 65536 := by simp [IntKind.wrap, IntKind.bits, IntKind.signed]
theorem joinF (a b : Int) (h0 : 0 ≤ a) (h1 : a ≤ 65535) (h2 : 0 ≤ b) (h3 : b ≤ 65535) : sum_Join.f a b = some (joinN a b) := by
  unfold sum_Join.f joinN
  rw [w16, w16]
  split <;> (congr 1; omega)
theorem refJoinF (a b : Int) (h0 : 0 ≤ a) (h1 : a ≤ 65535) (h2 : 0 ≤ b) (h3 : b ≤ 65535) : tidewayref02_Join.f a b = some (joinN a b) := by
  unfold tidewayref02_Join.f joinN
  have e1 : wrap64 ((wrap64 a) + (wrap64 b)) = a + b := by unfold wrap64; omega
  rw [e1, w16, w16]
  by_cases h : a + b > 65535
  · rw [if_pos h, if_pos h]; congr 1; unfold wrap64; omega
  · rw [if_neg h, if_neg h]; congr 1; omega
theorem xor16 (n : Int) (h0 : 0 ≤ n) (h1 : n ≤ 65535) : bits .xor .u16 IntKind.u16.max n = 65535 - n := by
  have hm : IntKind.u16.max = 65535 := by decide
  rw [hm, u16_xor 65535 n (by omega) (by omega) h0 (by omega)]
  obtain ⟨m, rfl⟩ := Int.eq_ofNat_of_zero_le h0
  have e : (65535 : Nat) ^^^ m = 65535 - m := by
    apply Nat.eq_of_testBit_eq
    intro i
    rw [Nat.testBit_xor, show (65535 : Nat) = 2 ^ 16 - 1 from rfl, show 2 ^ 16 - 1 - m = 2 ^ 16 - (m + 1) by omega, Nat.testBit_two_pow_sub_one, Nat.testBit_two_pow_sub_succ (by omega)]
    by_cases hi : i < 16
    · simp [hi]
    · have : m.testBit i = false := Nat.testBit_lt_two_pow (Nat.lt_of_lt_of_le (show m < 2 ^ 16 by omega) (Nat.pow_le_pow_right (by decide) (by omega)))
      simp [hi, this]
  rw [show (65535 : Int).toNat = 65535 from rfl, Int.toNat_natCast, e]
  omega
theorem bytesIn_iff (l : List (List Int)) (h : byts l.flatten) : bytesIn l = true := by
  unfold bytesIn
  rw [List.all_eq_true]; intro p hp
  rw [List.all_eq_true]; intro c hc
  have := h c (List.mem_flatten.2 ⟨p, hp, hc⟩)
  simp; omega
theorem sumF (l : List (List Int)) (h : byts l.flatten) : sum_Sum.f l = some (65535 - norm (wsum true l.flatten)) := by
  have hb := norm_bd (wsum_nonneg true _ h)
  unfold sum_Sum.f
  rw [if_pos (bytesIn_iff l h), show sum_Sum.g l = some (norm (wsum true l.flatten)) from foldM_words _ (fun a b h0 h1 h2 h3 => joinF a b h0 h1 h2 h3) _ h]
  simp only [Option.bind_some]
  rw [xor16 _ hb.1 hb.2]
theorem validF (l : List (List Int)) (h : byts l.flatten) : sum_Valid.f l = some (decide (norm (wsum true l.flatten) = 65535)) := by
  unfold sum_Valid.f
  rw [sumF l h]
  simp only [Option.bind_some]
  have hb := norm_bd (wsum_nonneg true _ h)
  congr 1
  rw [Bool.eq_iff_iff]; simp; omega
theorem headsF : tidewaylaw02_heads.f = some true := by decide +kernel
theorem wsum_two (l : List Int) (i : Nat) (h : i + 1 < l.length) : wsum true (l.drop i) = l.getD i 0 * 256 + l.getD (i + 1) 0 + wsum true (l.drop (i + 2)) := by
  rw [List.drop_eq_getElem_cons (show i < l.length by omega), List.drop_eq_getElem_cons h, wsum, wsum]
  simp [List.getD_eq_getElem?_getD, List.getElem?_eq_getElem h, List.getElem?_eq_getElem (show i < l.length by omega), Int.add_assoc]
theorem refSum_loop (l : List Int) (hl : byts l) (hm : l.length ≤ 140737488351232) : ∀ (d k : Nat) (i : Nat) (n : Int), l.length - i ≤ d → d < k → 0 ≤ n → i ≤ l.length + 1 →
    tidewayref02_Sum.l0 k l (norm n) i = some (65535 - norm (n + wsum true (l.drop i))) := by
  intro d
  induction d using Nat.strongRecOn with
  | ind d ih =>
    intro k i n hd hk hn hi
    obtain ⟨k, rfl⟩ : ∃ m, k = m + 1 := ⟨k - 1, by omega⟩
    have hb := norm_bd hn
    simp only [tidewayref02_Sum.l0]
    have hr : ∀ j : Nat, j < l.length → 0 ≤ l.getD j 0 ∧ l.getD j 0 ≤ 255 := fun j hj => by
      rw [List.getD_eq_getElem?_getD, List.getElem?_eq_getElem hj]; exact hl _ (List.getElem_mem _)
    by_cases h1 : (i : Int) < (l.length : Int)
    · rw [if_pos h1, if_pos (by omega)]
      have e1 : wrap64 ((i : Int) + 1) = ((i + 1 : Nat) : Int) := by unfold wrap64; omega
      have e2 : wrap64 ((i : Int) + 2) = ((i + 2 : Nat) : Int) := by unfold wrap64; omega
      rw [e1, e2]
      have ra : rd l (i : Int) = l.getD i 0 := by simp [rd]
      have rb : rd l ((i + 1 : Nat) : Int) = l.getD (i + 1) 0 := by simp only [rd, Int.toNat_natCast]
      have h3 := hr i (by omega)
      by_cases h2 : ((i + 1 : Nat) : Int) < (l.length : Int)
      · rw [if_pos h2, if_pos (by omega), ra, rb]
        have h4 := hr (i + 1) (by omega)
        have e3 : IntKind.u16.wrap (wrap64 ((wrap64 ((wrap64 (l.getD i 0)) * 256)) + (wrap64 (l.getD (i + 1) 0)))) = l.getD i 0 * 256 + l.getD (i + 1) 0 := by rw [w16]; unfold wrap64; omega
        rw [e3, refJoinF _ _ hb.1 hb.2 (by omega) (by omega), join_norm hn (by omega) (by omega)]
        simp only [Option.bind_some]
        rw [ih (d - 2) (by omega) k (i + 2) _ (by omega) (by omega) (by omega) (by omega), wsum_two l i (by omega)]
        congr 3; omega
      · rw [if_neg h2, ra]
        have e3 : IntKind.u16.wrap (wrap64 ((wrap64 (l.getD i 0)) * 256)) = l.getD i 0 * 256 := by rw [w16]; unfold wrap64; omega
        rw [e3, refJoinF _ _ hb.1 hb.2 (by omega) (by omega), join_norm hn (by omega) (by omega)]
        simp only [Option.bind_some]
        rw [ih (d - 1) (by omega) k (i + 2) _ (by omega) (by omega) (by omega) (by omega)]
        have e4 : l.drop i = [l.getD i 0] := by
          rw [List.drop_eq_getElem_cons (show i < l.length by omega), List.drop_eq_nil_of_le (by omega)]
          simp [List.getD_eq_getElem?_getD, List.getElem?_eq_getElem (show i < l.length by omega)]
        rw [List.drop_eq_nil_of_le (show l.length ≤ i + 2 by omega), e4]
        simp [wsum]
    · rw [if_neg h1, List.drop_eq_nil_of_le (by omega), w16]
      simp only [wsum, Int.add_zero]
      congr 1; omega
theorem refSumF (l : List Int) (hl : byts l) (hm : l.length ≤ 140737488351232) (k : Nat) (hk : l.length < k) : tidewayref02_Sum.f k l = some (65535 - norm (wsum true l)) := by
  have := refSum_loop l hl hm l.length k 0 0 (by omega) hk (by omega) (by omega)
  simpa [tidewayref02_Sum.f, show norm 0 = 0 from rfl] using this
theorem refAll_loop (l : List (List Int)) (hm : l.flatten.length ≤ 140737488351232) (hn : l.length ≤ 9223372036854775806) : ∀ (d k i : Nat) (acc : List Int), l.length - i = d → d < k → acc = (l.take i).flatten → i ≤ l.length →
    tidewayref02_All.l0 k l acc i = some l.flatten := by
  intro d
  induction d with
  | zero =>
    intro k i acc hd hk ha hi
    obtain ⟨k, rfl⟩ : ∃ m, k = m + 1 := ⟨k - 1, by omega⟩
    simp only [tidewayref02_All.l0]
    rw [if_neg (by omega), ha, List.take_of_length_le (by omega)]
  | succ d ih =>
    intro k i acc hd hk ha hi
    obtain ⟨k, rfl⟩ : ∃ m, k = m + 1 := ⟨k - 1, by omega⟩
    have hlt : i < l.length := by omega
    have e : rd_L1 l (i : Int) = l[i] := by simp [rd_L1, List.getD_eq_getElem?_getD, List.getElem?_eq_getElem hlt]
    have e1 : wrap64 ((i : Int) + 1) = ((i + 1 : Nat) : Int) := by unfold wrap64; omega
    have e2 : (l.take (i + 1)).flatten = acc ++ l[i] := by rw [List.take_succ_eq_append_getElem hlt, List.flatten_append, ha]; simp
    have e3 : (acc ++ l[i]).length ≤ l.flatten.length := by
      rw [← e2]
      conv => rhs; rw [← List.take_append_drop (i + 1) l, List.flatten_append, List.length_append]
      omega
    simp only [tidewayref02_All.l0]
    rw [List.length_append] at e3
    rw [if_pos (by omega), if_pos (by omega), e, if_pos (by omega), e1]
    exact ih k (i + 1) _ (by omega) (by omega) e2.symm (by omega)
theorem refAllF (l : List (List Int)) (hm : l.flatten.length ≤ 140737488351232) (hn : l.length ≤ 9223372036854775806) (k : Nat) (hk : l.length < k) : tidewayref02_All.f k l = some l.flatten :=
  refAll_loop l hm hn l.length k 0 [] (by omega) hk (by simp) (by omega)
end Go.Proofs.Ytgmbmkfodinckaa.SumFacts

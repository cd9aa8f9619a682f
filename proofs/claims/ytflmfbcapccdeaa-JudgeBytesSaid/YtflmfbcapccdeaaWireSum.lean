/- The checksum's plain laws, at the parts that wire sums. -/
import Derived.Test.YtflmfbcapccdeaaSumPlain
import Derived.Test.YtflmfbcapccdeaaPAx18
import Derived.Test.YtflmfbcapccdeaaPAx19
import Derived.Laws.BitsAllLaws
set_option linter.unusedVariables false
set_option linter.unusedSimpArgs false
namespace Go.Proofs.Ytflmfbcapccdeaa.WireSum
open Go.RowKit Go.Proofs.Ytflmfbcapccdeaa.PA Go.Proofs.YtflmfbcapccdeaaW.PrintWords Go.Proofs.Ytflmfbcapccdeaa.SumPlain
theorem w16 (n : Int) : IntKind.u16.wrap n = n % 65536 := by simp [IntKind.wrap, IntKind.bits, IntKind.signed]
theorem joinF (a b : Int) (h0 : 0 ≤ a) (h1 : a ≤ 65535) (h2 : 0 ≤ b) (h3 : b ≤ 65535) : sum_Join.f a b = some (joinN a b) := by
  unfold sum_Join.f joinN
  rw [w16, w16]
  split <;> (congr 1; omega)
theorem xor16 (n : Int) (h0 : 0 ≤ n) (h1 : n ≤ 65535) : bits .xor .u16 IntKind.u16.max n = 65535 - n := by
  have hm : IntKind.u16.max = 65535 := by decide
  rw [hm, u16_xor 65535 n (by omega) (by omega) h0 (by omega)]
  obtain ⟨m, rfl⟩ := Int.eq_ofNat_of_zero_le h0
  have e : (65535 : Nat) ^^^ m = 65535 - m := by
    apply Nat.eq_of_testBit_eq
    intro i
    rw [Nat.testBit_xor, show (65535 : Nat) = 2 ^ 16 - 1 from rfl, show 2 ^ 16 - 1 - m = 2 ^ 16 - (m + 1) by omega, Nat.testBit_two_pow_sub_one, Nat.testBit_two_pow_sub_succ (by omega)]
    by_cases hi : i < 16
    · simp [hi]
    · have : m.testBit i = false := Nat.testBit_lt_two_pow (Nat.lt_of_lt_of_le (show m < 2 ^ 16 by omega) (Nat.pow_le_pow_right (by decide) (by omega)))
      simp [hi, this]
  rw [show (65535 : Int).toNat = 65535 from rfl, Int.toNat_natCast, e]
  omega
theorem bytesIn_iff (l : List (List Int)) (h : byts l.flatten) : bytesIn l = true := by
  unfold bytesIn
  rw [List.all_eq_true]; intro p hp
  rw [List.all_eq_true]; intro c hc
  have := h c (List.mem_flatten.2 ⟨p, hp, hc⟩)
  simp; omega
theorem sumF (l : List (List Int)) (h : byts l.flatten) : sum_Sum.f l = some (65535 - norm (wsum true l.flatten)) := by
  have hb := norm_bd (wsum_nonneg true _ h)
  unfold sum_Sum.f
  rw [if_pos (bytesIn_iff l h), show sum_Sum.g l = some (norm (wsum true l.flatten)) from foldM_words _ (fun a b h0 h1 h2 h3 => joinF a b h0 h1 h2 h3) _ h]
  simp only [Option.bind_some]
  rw [xor16 _ hb.1 hb.2]
theorem validF (l : List (List Int)) (h : byts l.flatten) : sum_Valid.f l = some (decide (norm (wsum true l.flatten) = 65535)) := by
  unfold sum_Valid.f
  rw [sumF l h]
  simp only [Option.bind_some]
  have hb := norm_bd (wsum_nonneg true _ h)
  congr 1
  rw [Bool.eq_iff_iff]; simp; omega
theorem valid_two (ps b : List Int) (h : byts (ps ++ b)) : sum_Valid.f [ps, b] = sum_Valid.f [ps ++ b] := by
  rw [validF [ps, b] (by simpa using h), validF [ps ++ b] (by simpa using h)]; simp
end Go.Proofs.Ytflmfbcapccdeaa.WireSum

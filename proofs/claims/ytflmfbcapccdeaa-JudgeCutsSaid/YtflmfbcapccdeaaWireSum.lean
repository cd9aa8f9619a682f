/- The checksum's plain laws, at the parts that wire sums. -/
import Derived.Test.YtflmfbcapccdeaaSumPlain
import Derived.Test.YtflmfbcapccdeaaPAx18
import Derived.Test.YtflmfbcapccdeaaPAx19
import Derived.Laws.BitsAllLaws
set_option linter.unusedVariables false
set_option linter.unusedSimpArgs false
namespace Go.Proofs.Ytflmfbcapccdeaa.WireSum
open Go.RowKit Go.Proofs.Ytflmfbcapccdeaa.PA Go.Proofs.YtflmfbcapccdeaaW.PrintWords Go.Proofs.Ytflmfbcapccdeaa.SumPlain
theorem w16 (n : Int) : IntKind.u16.wrap n = n % 65536 := by simp [IntKind.wrap, IntKind.bits, IntKind.signed]
theorem joinF (a b : Int) (h0 : 0 ≤ a) (h1 : a ≤ 65535) (h2 : 0 ≤ b) (h3 : b ≤ 65535) : sum_Join.f a b = some (joinN a b) := by
  unfold sum_Join.f joinN
  rw [w16, w16]
  split <;> (congr 1; omega)
theorem xor16 (n : Int) (h0 : 0 ≤ n) (h1 : n ≤ 65535) : bits .xor .u16 IntKind.u16.max n = 65535 - n := by
  have hm : IntKind.u16.max = 65535 := by decide
  rw [hm, u16_xor 65535 n (by omega) (by omega) h0 (by omega)]
  obtain ⟨m, rfl⟩ := Int.eq_ofNat_of_zero_le h0
  have e : (65535 : Nat) ^^^ m = 65535 - m := by
    apply Nat.eq_of_testBit_eq
    intro i
    rw [Nat.testBit_xor, show (65535 : Nat) = 2 ^ 16 - 1 from rfl, show 2 ^ 16 - 1 - m = 2 ^ 16 - (m + 1) by omega, Nat.testBit_two_pow_sub_one, Nat.testBit_two_pow_sub_succ (by omega)]
    by_cases hi : i < 16
    · simp [hi]
    · have : m.testBit i = false := Nat.testBit_lt_two_pow (Nat.lt_of_lt_of_le (show m < 2 ^ 16 by omega) (Nat.pow_le_pow_right (by decide) (by omega)))
      simp [hi, this]
  rw [show (65535 : Int).toNat = 65535 from rfl, Int.toNat_natCast, e]
  omega
theorem bytesIn_iff (l : List (List Int)) (h : byts l.flatten) : bytesIn l = true := by
  unfold bytesIn
  rw [List.all_eq_true]; intro p hp
  rw [List.all_eq_true]; intro c hc
  have := h c (List.mem_flatten.2 ⟨p, hp, hc⟩)
  simp; omega
theorem sumF (l : List (List Int)) (h : byts l.flatten) : sum_Sum.f l = some (65535 - norm (wsum true l.flatten)) := by
  have hb := norm_bd (wsum_nonneg true _ h)
  unfold sum_Sum.f
  rw [if_pos (bytesIn_iff l h), show sum_Sum.g l = some (norm (wsum true l.flatten)) from foldM_words _ (fun a b h0 h1 h2 h3 => joinF a b h0 h1 h2 h3) _ h]
  simp only [Option.bind_some]
  rw [xor16 _ hb.1 hb.2]
theorem validF (l : List (List Int)) (h : byts l.flatten) : sum_Valid.f l = some (decide (norm (wsum true l.flatten) = 65535)) := by
  unfold sum_Valid.f
  rw [sumF l h]
  simp only [Option.bind_some]
  have hb := norm_bd (wsum_nonneg true _ h)
  congr 1
  rw [Bool.eq_iff_iff]; simp; omega
theorem byts_set {l : List Int} {k : Nat} {x : Int} (h : byts l) (h0 : 0 ≤ x) (h1 : x ≤ 255) : byts (l.set k x) := fun c hc => by
  rcases List.mem_or_eq_of_mem_set hc with hc | rfl
  · exact h c hc
  · exact ⟨h0, h1⟩
theorem fits_plain (l : List Int) (k : Nat) (h2 : k % 2 = 0) (hk : k + 1 < l.length) (hb : byts l) (g0 : l.getD k 0 = 0) (g1 : l.getD (k + 1) 0 = 0) :
    sum_Valid.f [(l.set k (((65535 - norm (wsum true l)) / 256) % 256)).set (k + 1) ((65535 - norm (wsum true l)) % 256)] = some true := by
  have hn := norm_bd (wsum_nonneg true _ hb)
  have h0 := wsum_nonneg true _ hb
  have hb2 : byts ((l.set k (((65535 - norm (wsum true l)) / 256) % 256)).set (k + 1) ((65535 - norm (wsum true l)) % 256)) := byts_set (byts_set hb (by omega) (by omega)) (by omega) (by omega)
  rw [validF _ (by simpa using hb2)]
  have p0 : par true k = true := by simp [par, h2]
  have p1 : par true (k + 1) = false := by have : ¬ (k + 1) % 2 = 0 := by omega
                                           simp [par, this]
  have e : wsum true ([(l.set k (((65535 - norm (wsum true l)) / 256) % 256)).set (k + 1) ((65535 - norm (wsum true l)) % 256)] : List (List Int)).flatten = wsum true l + (65535 - norm (wsum true l)) := by
    rw [List.flatten_cons, List.flatten_nil, List.append_nil, wsum_set true _ (k + 1) _ (by simp; omega), wsum_set true l k _ (by omega), p0, p1, g0]
    have : (l.set k (((65535 - norm (wsum true l)) / 256) % 256)).getD (k + 1) 0 = 0 := by
      rw [List.getD_eq_getElem?_getD, List.getElem?_set_ne (by omega), ← List.getD_eq_getElem?_getD, g1]
    rw [this]; simp only [if_true, Bool.false_eq_true, if_false]; omega
  rw [e]
  congr 1
  rw [decide_eq_true_eq]
  generalize wsum true l = S at *
  unfold norm at *
  (repeat' split) <;> omega
theorem sum_two (ps b : List Int) (h : byts (ps ++ b)) : sum_Sum.f [ps, b] = sum_Sum.f [ps ++ b] := by
  rw [sumF [ps, b] (by simpa using h), sumF [ps ++ b] (by simpa using h)]; simp
theorem valid_two (ps b : List Int) (h : byts (ps ++ b)) : sum_Valid.f [ps, b] = sum_Valid.f [ps ++ b] := by
  rw [validF [ps, b] (by simpa using h), validF [ps ++ b] (by simpa using h)]; simp
/-- The checksum laid at an even place makes the text valid. -/
theorem fits_two (ps b : List Int) (k : Nat) (hp : ps.length % 2 = 0) (h2 : k % 2 = 0) (hk : k + 1 < b.length) (hb : byts (ps ++ b)) (g0 : b.getD k 0 = 0) (g1 : b.getD (k + 1) 0 = 0) (c : Int) (hc : sum_Sum.f [ps, b] = some c) :
    sum_Valid.f [ps, (b.set k (c / 256 % 256)).set (k + 1) (c % 256)] = some true ∧ 0 ≤ c ∧ c ≤ 65535 := by
  rw [sum_two ps b hb, sumF [ps ++ b] (by simpa using hb)] at hc
  have hn := norm_bd (wsum_nonneg true _ hb)
  have ec : 65535 - norm (wsum true (ps ++ b)) = c := by simpa using Option.some.inj hc
  have hf := fits_plain (ps ++ b) (ps.length + k) (by omega) (by rw [List.length_append]; omega) hb
    (by rw [List.getD_eq_getElem?_getD, List.getElem?_append_right (by omega), Nat.add_sub_cancel_left, ← List.getD_eq_getElem?_getD, g0])
    (by rw [show ps.length + k + 1 = ps.length + (k + 1) by omega, List.getD_eq_getElem?_getD, List.getElem?_append_right (by omega), Nat.add_sub_cancel_left, ← List.getD_eq_getElem?_getD, g1])
  rw [ec] at hf
  rw [List.set_append_right _ _ (by omega), Nat.add_sub_cancel_left, show ps.length + k + 1 = ps.length + (k + 1) by omega, List.set_append_right _ _ (by omega), Nat.add_sub_cancel_left] at hf
  refine ⟨?_, by omega, by omega⟩
  rw [valid_two]
  · exact hf
  · intro x hx
    rcases List.mem_append.1 hx with hx | hx
    · exact hb x (List.mem_append_left _ hx)
    · exact byts_set (byts_set (fun y hy => hb y (List.mem_append_right _ hy)) (by omega) (by omega)) (by omega) (by omega) x hx
end Go.Proofs.Ytflmfbcapccdeaa.WireSum

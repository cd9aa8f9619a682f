/- Whether a pace was kept is told as the document tells it, and whether bytes are a beginning. -/
import Derived.Test.YtflmfbcapccdeaaPAx21
import Derived.Test.YtflmfbcapccdeaaPAx14
import Derived.Test.YtflmfbcapccdeaaPAx24
import Derived.Laws.BitsLemmas
import Derived.Test.YtflmfbcapccdeaaPAx26
set_option linter.unusedVariables false
set_option linter.unusedSimpArgs false
set_option autoImplicit false
namespace Go.Proofs.Ytflmfbcapccdeaa.JudgeFacts
open Go.RowKit Go.Proofs.Ytflmfbcapccdeaa.PA Go.Proofs.YtflmfbcapccdeaaW.PrintWords Go.Proofs.YtflmfbcapccdeaaW.PrintMore
abbrev E := S62
theorem heads (k : Nat) (hk : 40 ≤ k) : tidewaylaw25_heads.f k = some true := by
  obtain ⟨d, rfl⟩ : ∃ d, k = 40 + d := ⟨k - 40, by omega⟩
  exact more_rounds tidewaylaw25_heads.mono 40 d _ (by kernel_rfl)
theorem e_parts {last : Int} {x : E} (h : jp_e last x = true) : 0 ≤ x.f1 ∧ x.f1 ≤ 1073741824 ∧ last ≤ x.f0 ∧ x.f0 ≤ 35184372088832 := by
  unfold jp_e at h
  simp only [Bool.and_eq_true, decide_eq_true_eq] at h
  exact h
theorem e_mk {last : Int} {x : E} (h : 0 ≤ x.f1 ∧ x.f1 ≤ 1073741824 ∧ last ≤ x.f0 ∧ x.f0 ≤ 35184372088832) : jp_e last x = true := by
  unfold jp_e
  simp only [Bool.and_eq_true, decide_eq_true_eq]
  exact h
theorem may_parts {l : List E} {r b : Int} (h : jp_may l r b = true) : 0 ≤ r ∧ r ≤ 1099511627776 ∧ 0 ≤ b ∧ b ≤ 1073741824 ∧ l.length ≤ 100000 ∧ jp_es 0 l = true := by
  unfold jp_may at h
  simp only [Bool.and_eq_true, decide_eq_true_eq] at h
  exact h
theorem may_mk {l : List E} {r b : Int} (h : 0 ≤ r ∧ r ≤ 1099511627776 ∧ 0 ≤ b ∧ b ≤ 1073741824 ∧ l.length ≤ 100000 ∧ jp_es 0 l = true) : jp_may l r b = true := by
  unfold jp_may
  simp only [Bool.and_eq_true, decide_eq_true_eq]
  exact h
end Go.Proofs.Ytflmfbcapccdeaa.JudgeFacts
set_option linter.unusedVariables false
set_option linter.unusedSimpArgs false
set_option autoImplicit false
namespace Go.Proofs.Ytflmfbcapccdeaa.JudgePace
open Go.RowKit Go.Proofs.Ytflmfbcapccdeaa.PA Go.Proofs.YtflmfbcapccdeaaW.PrintWords Go.Proofs.YtflmfbcapccdeaaW.PrintMore Go.Proofs.Ytflmfbcapccdeaa.JudgeFacts
theorem and1 (n : Int) : Go.bits .and .i64 n 1 = n % 2 := by
  have h1 : (BitVec.ofInt 64 1).toNat = 2 ^ 1 - 1 := by decide
  have key : (BitVec.ofInt 64 n &&& BitVec.ofInt 64 1).toNat = (n % ((2 ^ 64 : Nat) : Int)).toNat % 2 ^ 1 := by
    rw [BitVec.toNat_and, BitVec.toNat_ofInt, h1, Nat.and_two_pow_sub_one_eq_mod]
  show IntKind.i64.wrap ((BitVec.ofInt 64 n &&& BitVec.ofInt 64 1).toNat : Nat) = n % 2
  rw [key, IntKind.wrap_i64]
  omega
theorem u64w (n : Int) : IntKind.u64.wrap n = n % 18446744073709551616 := by simp [IntKind.wrap, IntKind.bits, IntKind.signed]
theorem md_over (k : Nat) (a c q r bq br i : Int) : tidewayref01_MulDiv.j2 (k + 3) a c q r true bq br i = some (9223372036854775807, 0) := by
  have h4 : ∀ q r, tidewayref01_MulDiv.j4 (k + 1) a c q r true bq br i = some (9223372036854775807, 0) := fun q r => by rw [tidewayref01_MulDiv.j4, if_pos rfl]
  have h0 : 0 ≤ IntKind.u64.wrap i := by rw [u64w]; omega
  have h3 : ∀ q r, tidewayref01_MulDiv.j3 (k + 2) a c q r true bq br i = some (9223372036854775807, 0) := fun q r => by
    rw [tidewayref01_MulDiv.j3, if_pos h0]
    split
    · rw [if_pos rfl]
      split <;> exact h4 _ _
    · exact h4 _ _
  rw [tidewayref01_MulDiv.j2]
  split <;> exact h3 _ _
/-- The greatest answer. -/
theorem most_of {a b c X : Int} (hc : 1 ≤ c) (h : c * 9223372036854775808 ≤ X) (hx : X ≤ a * b) : (some (9223372036854775807, 0) : Option (Int × Int)) = some (mn (a * b / c) 9223372036854775807, 0) := by
  have h1 : 9223372036854775807 ≤ a * b / c := by
    refine (Int.le_ediv_iff_mul_le (by omega)).2 ?_
    omega
  have := jp_mns (a * b / c) 9223372036854775807
  rw [show mn (a * b / c) 9223372036854775807 = 9223372036854775807 by omega]
theorem md_loop (a b c bq br : Int) (ha : 0 ≤ a) (ha' : a ≤ 9223372036854775807) (hb : 0 ≤ b) (hb' : b ≤ 9223372036854775807) (hc : 1 ≤ c) (hc' : c ≤ 4611686018427387904) (hbq : b = c * bq + br) (hbr : 0 ≤ br ∧ br < c) (hq0 : 0 ≤ bq) : ∀ d : Nat, d ≤ 63 → ∀ k, 4 * d + 1 ≤ k → ∀ q r : Int, (a / 2 ^ d) * b = c * q + r → 0 ≤ r → r < c → 0 ≤ q → q ≤ 9223372036854775807 →
    tidewayref01_MulDiv.l0 k a c q r false bq br ((d : Int) - 1) = some (mn (a * b / c) 9223372036854775807, 0) := by
  have hbb : bq ≤ b := by
    have h1 : 1 * bq ≤ c * bq := Int.mul_le_mul_of_nonneg_right hc hq0
    omega
  intro d
  induction d with
  | zero =>
    intro _ k hk q r h hr hrc hq hqm
    obtain ⟨k, rfl⟩ : ∃ m, k = m + 1 := ⟨k - 1, by omega⟩
    rw [tidewayref01_MulDiv.l0, if_neg (by omega), jp_w64 (by omega) (by omega)]
    have e : a * b / c = q := by
      have h2 : a * b = r + c * q := by simp only [Int.pow_zero, Int.ediv_one] at h; omega
      rw [h2, Int.add_mul_ediv_left _ _ (by omega), Int.ediv_eq_zero_of_lt hr hrc]
      omega
    have := jp_mns (a * b / c) 9223372036854775807
    rw [e] at this ⊢
    rw [show mn q 9223372036854775807 = q by omega]
  | succ d ih =>
    intro hd k hk q r h hr hrc hq hqm
    obtain ⟨k, rfl⟩ : ∃ m, k = m + 4 := ⟨k - 4, by omega⟩
    have ih := ih (by omega) k (by omega)
    -- the next head of a
    obtain ⟨n, hn⟩ : ∃ n, a / 2 ^ (d + 1) = n := ⟨_, rfl⟩
    obtain ⟨m, hm⟩ : ∃ m, a / 2 ^ d = m := ⟨_, rfl⟩
    have hnm : n = m / 2 := by rw [← hn, ← hm, Int.pow_succ, Int.ediv_ediv_of_nonneg (Int.pow_nonneg (by decide))]
    have hm0 : 0 ≤ m := by rw [← hm]; exact Int.ediv_nonneg ha (Int.pow_nonneg (by decide))
    have hma : m ≤ a := by rw [← hm]; exact Int.ediv_le_self _ ha
    have hmab : m * b ≤ a * b := Int.mul_le_mul_of_nonneg_right hma hb
    rw [hn] at h
    rw [hm] at ih
    have hd1 : ((d + 1 : Nat) : Int) - 1 = (d : Int) := by omega
    have hmb : m * b = 2 * (n * b) + (if m % 2 = 1 then b else 0) := by
      have e1 : m = 2 * n + m % 2 := by omega
      have e2 : m * b = (2 * n + m % 2) * b := congrArg (· * b) e1
      rw [e2, Int.add_mul, Int.mul_assoc]
      by_cases hb1 : m % 2 = 1
      · rw [if_pos hb1, hb1, Int.one_mul]
      · rw [if_neg hb1, show m % 2 = 0 by omega, Int.zero_mul]
    rw [hd1, tidewayref01_MulDiv.l0, if_pos (by omega), if_neg (by decide)]
    by_cases o1 : q ≥ 4611686018427387904
    · rw [decide_eq_true o1, md_over k]
      have h1 : c * 4611686018427387904 ≤ c * q := Int.mul_le_mul_of_nonneg_left o1 (by omega)
      refine most_of hc (X := m * b) ?_ hmab
      split at hmb <;> omega
    · rw [decide_eq_false o1, tidewayref01_MulDiv.j2]
      have w1 : IntKind.u64.wrap (2 * r) = 2 * r := by rw [u64w]; omega
      have w2 : IntKind.u64.wrap c = c := by rw [u64w]; omega
      have w3 : IntKind.u64.wrap (2 * q) = 2 * q := by rw [u64w]; omega
      have hwi : IntKind.u64.wrap (d : Int) = (d : Int) := by rw [u64w]; omega
      have hbit : Go.bits .and .i64 (shr .i64 a (d : Int)) 1 = m % 2 := by
        rw [and1, shr, Int.toNat_natCast, show min d IntKind.i64.bits = d from Nat.min_eq_left (by show d ≤ 64; omega), hm]
      -- behind the doubling
      have step : ∀ q1 r1 : Int, 2 * (n * b) = c * q1 + r1 → 0 ≤ r1 → r1 < c → 0 ≤ q1 → q1 ≤ 9223372036854775807 → tidewayref01_MulDiv.j3 (k + 2) a c q1 r1 false bq br (d : Int) = some (mn (a * b / c) 9223372036854775807, 0) := by
        intro q1 r1 h1 hr1 hrc1 hq1 hqm1
        have hj4 : ∀ q2 r2 : Int, m * b = c * q2 + r2 → 0 ≤ r2 → r2 < c → 0 ≤ q2 → tidewayref01_MulDiv.j4 (k + 1) a c q2 r2 false bq br (d : Int) = some (mn (a * b / c) 9223372036854775807, 0) := by
          intro q2 r2 h2 hr2 hrc2 hq2
          rw [tidewayref01_MulDiv.j4, if_neg (by decide)]
          by_cases o2 : q2 > 9223372036854775807
          · rw [if_pos o2]
            have h3 : c * 9223372036854775808 ≤ c * q2 := Int.mul_le_mul_of_nonneg_left (by omega) (by omega)
            exact most_of hc (X := m * b) (by omega) hmab
          · rw [if_neg o2, jp_w64 (by omega) (by omega)]
            exact ih q2 r2 h2 hr2 hrc2 hq2 (by omega)
        rw [tidewayref01_MulDiv.j3, hwi, if_pos (by omega), hbit]
        by_cases hb1 : m % 2 = 1
        · rw [if_pos hb1, if_neg (by decide)]
          rw [if_pos hb1] at hmb
          have w4 : IntKind.u64.wrap (9223372036854775807 - bq) = 9223372036854775807 - bq := by rw [u64w]; omega
          have w5 : IntKind.u64.wrap (r1 + br) = r1 + br := by rw [u64w]; omega
          have e1 : c * (q1 + bq) = c * q1 + c * bq := Int.mul_add _ _ _
          have e2 : c * (q1 + bq + 1) = c * q1 + c * bq + c := by rw [Int.mul_add, Int.mul_add, Int.mul_one]
          rw [w4, w5, w2]
          by_cases o2 : q1 > 9223372036854775807 - bq
          · rw [decide_eq_true o2]
            have h4 : ∀ q r, tidewayref01_MulDiv.j4 (k + 1) a c q r true bq br (d : Int) = some (9223372036854775807, 0) := fun q r => by rw [tidewayref01_MulDiv.j4, if_pos rfl]
            rw [h4, h4]
            have h3 : c * 9223372036854775808 ≤ c * (q1 + bq) := Int.mul_le_mul_of_nonneg_left (by omega) (by omega)
            split <;> exact most_of hc (X := m * b) (by omega) hmab
          · rw [decide_eq_false o2]
            have w6 : IntKind.u64.wrap (q1 + bq) = q1 + bq := by rw [u64w]; omega
            have w7 : IntKind.u64.wrap (q1 + bq + 1) = q1 + bq + 1 := by rw [u64w]; omega
            rw [w6, w7]
            by_cases o3 : r1 + br ≥ c
            · have w8 : IntKind.u64.wrap (r1 + br - c) = r1 + br - c := by rw [u64w]; omega
              rw [if_pos o3, w8]
              exact hj4 _ _ (by omega) (by omega) (by omega) (by omega)
            · rw [if_neg o3]
              exact hj4 _ _ (by omega) (by omega) (by omega) (by omega)
        · rw [if_neg hb1]
          rw [if_neg hb1] at hmb
          exact hj4 _ _ (by omega) hr1 hrc1 hq1
      rw [w1, w2, w3]
      have e3 : c * (2 * q) = 2 * (c * q) := by rw [Int.mul_left_comm]
      have e4 : c * (2 * q + 1) = 2 * (c * q) + c := by rw [Int.mul_add, e3, Int.mul_one]
      by_cases o3 : 2 * r ≥ c
      · have w9 : IntKind.u64.wrap (2 * q + 1) = 2 * q + 1 := by rw [u64w]; omega
        have w10 : IntKind.u64.wrap (2 * r - c) = 2 * r - c := by rw [u64w]; omega
        rw [if_pos o3, w9, w10]
        exact step _ _ (by omega) (by omega) (by omega) (by omega) (by omega)
      · rw [if_neg o3]
        exact step _ _ (by omega) (by omega) (by omega) (by omega) (by omega)
theorem md (k : Nat) (hk : 260 ≤ k) (a b c : Int) (ha : 0 ≤ a) (ha' : a ≤ 9223372036854775807) (hb : 0 ≤ b) (hb' : b ≤ 9223372036854775807) (hc : 1 ≤ c) (hc' : c ≤ 4611686018427387904) : tidewayref01_MulDiv.f k a b c = some (mn (a * b / c) 9223372036854775807, 0) := by
  obtain ⟨k, rfl⟩ : ∃ m, k = m + 1 := ⟨k - 1, by omega⟩
  have w1 : IntKind.u64.wrap b = b := by rw [u64w]; omega
  have w2 : IntKind.u64.wrap c = c := by rw [u64w]; omega
  rw [tidewayref01_MulDiv.f, if_neg (by omega), if_neg (by omega), decide_eq_false (by omega : ¬ c ≤ 0), tidewayref01_MulDiv.j0, if_neg (by decide), w2, if_neg (by omega), w1, Int.tdiv_eq_ediv_of_nonneg hb, Int.tmod_eq_emod_of_nonneg hb]
  have h0 : 0 ≤ b / c := Int.ediv_nonneg hb (by omega)
  have h1 : b / c ≤ b := Int.ediv_le_self _ hb
  have h2 := Int.emod_nonneg b (show c ≠ 0 by omega)
  have h3 := Int.emod_lt_of_pos b (show 0 < c by omega)
  have w3 : IntKind.u64.wrap (b / c) = b / c := by rw [u64w]; omega
  rw [w3]
  refine md_loop a b c (b / c) (b % c) ha ha' hb hb' hc hc' (by have := Int.mul_ediv_add_emod b c; omega) ⟨h2, h3⟩ h0 63 (Nat.le_refl _) k (by omega) 0 0 ?_ (Int.le_refl _) (by omega) (Int.le_refl _) (by omega)
  rw [show a / 2 ^ 63 = 0 from Int.ediv_eq_zero_of_lt ha (by omega)]
  omega
theorem rd_at (l : List E) (i : Nat) (h : i < l.length) : rd_T62 l (i : Int) = l[i] := by
  rw [rd_T62, Int.toNat_natCast, List.getD_eq_getElem?_getD, List.getElem?_eq_getElem h]; rfl
theorem valid_loop (l : List E) (hl : l.length ≤ 100000) (a1 a2 : Int) (d : Nat) : ∀ (i : Nat) (hi : i + d = l.length) (last : Int), 0 ≤ last → (∀ h : 0 < i, (l[i - 1]'(by omega)).f0 = last) → (i = 0 → last = 0) → ∀ k, tidewayref25_Paced.l0 (k + (2 * d + 1)) l a1 a2 (i : Int) = if jp_es last (l.drop i) = true then tidewayref25_Paced.l1 k l a1 a2 0 else some false := by
  induction d with
  | zero =>
    intro i hi last _ _ _ k
    rw [show k + (2 * 0 + 1) = k + 1 from rfl, tidewayref25_Paced.l0, if_neg (by omega), List.drop_eq_nil_of_le (by omega), jp_es, if_pos rfl]
  | succ d ih =>
    intro i hi last h0 hlast hz k
    have hlt : i < l.length := by omega
    have hw1 : wrap64 ((i : Int) + 1) = ((i + 1 : Nat) : Int) := by rw [jp_w64 (by omega) (by omega)]; rfl
    rw [show k + (2 * (d + 1) + 1) = (k + (2 * d + 1)) + 1 + 1 by omega, tidewayref25_Paced.l0, if_pos (by omega), if_pos (Int.natCast_nonneg i), rd_at l i hlt, List.drop_eq_getElem_cons hlt, jp_es]
    have hno : tidewayref25_Paced.j2 (k + (2 * d + 1) + 1) l a1 a2 (i : Int) true = some false := by rw [tidewayref25_Paced.j2, if_pos rfl]
    have ih := ih (i + 1) (by omega)
    generalize hx : l[i] = x
    have hyes : jp_e last x = true → tidewayref25_Paced.j2 (k + (2 * d + 1) + 1) l a1 a2 (i : Int) false = if jp_es x.f0 (l.drop (i + 1)) = true then tidewayref25_Paced.l1 k l a1 a2 0 else some false := by
      intro he
      have := e_parts he
      rw [tidewayref25_Paced.j2, if_neg (by decide), hw1]
      exact ih x.f0 (by omega) (fun _ => by simp only [Nat.add_sub_cancel]; rw [hx]) (fun h => by omega) k
    by_cases he : jp_e last x = true
    · have hp := e_parts he
      rw [he, Bool.true_and, if_neg (by omega), if_neg (by omega), if_neg (by omega), if_neg (by omega), ← hyes he]
      by_cases hi0 : i = 0
      · rw [if_neg (by omega)]
      · have hw2 : wrap64 ((i : Int) - 1) = ((i - 1 : Nat) : Int) := by rw [jp_w64 (by omega) (by omega)]; omega
        rw [if_pos (by omega), hw2, if_pos (Int.natCast_nonneg _), if_pos (by omega), rd_at l (i - 1) (by omega), hlast (by omega), decide_eq_false (by omega)]
    · have hf : jp_e last x = false := Bool.eq_false_iff.mpr he
      rw [hf, Bool.false_and, if_neg (show ¬ (false = true) by decide)]
      by_cases c1 : x.f1 < 0
      · rw [if_pos c1, hno]
      by_cases c2 : x.f1 > 1073741824
      · rw [if_neg c1, if_pos c2, hno]
      by_cases c3 : x.f0 < 0
      · rw [if_neg c1, if_neg c2, if_pos c3, hno]
      by_cases c4 : x.f0 > 35184372088832
      · rw [if_neg c1, if_neg c2, if_neg c3, if_pos c4, hno]
      have c5 : ¬ last ≤ x.f0 := fun h => he (e_mk ⟨by omega, by omega, h, by omega⟩)
      have hi0 : i ≠ 0 := fun h => by have := hz h; omega
      have hw2 : wrap64 ((i : Int) - 1) = ((i - 1 : Nat) : Int) := by rw [jp_w64 (by omega) (by omega)]; omega
      rw [if_neg c1, if_neg c2, if_neg c3, if_neg c4, if_pos (by omega), hw2, if_pos (Int.natCast_nonneg _), if_pos (by omega), rd_at l (i - 1) (by omega), hlast (by omega), decide_eq_true (by omega), hno]
theorem within_f (k : Nat) (hk : 260 ≤ k) (n r t : Int) (hr : 0 ≤ r) (hr' : r ≤ 1099511627776) (ht : 0 ≤ t) (ht' : t ≤ 35184372088832) : tidewayref25_within.f k n r t = some (decide (n ≤ jp_most r t) || decide (n ≤ 0)) := by
  rw [tidewayref25_within.f]
  by_cases h : n ≤ 0
  · rw [if_pos h, decide_eq_true h, Bool.or_true]
  · rw [if_neg h, md k hk r t 1000000 hr (by omega) ht (by omega) (by decide) (by decide), Option.bind_some, decide_eq_false h, Bool.or_false, jp_most, Int.mul_comm]
def G (n d : Nat) : Nat := d * (n + 2) + 300
theorem pace_loop (l : List E) (hl : l.length ≤ 100000) (a1 a2 : Int) (h1 : 0 ≤ a1) (h1' : a1 ≤ 1099511627776) (h2 : 0 ≤ a2) (h2' : a2 ≤ 1073741824) (hes : jp_es 0 l = true) (d : Nat) : ∀ i : Nat, i + d = l.length → ∀ k, G l.length d ≤ k → tidewayref25_Paced.l1 k l a1 a2 (i : Int) = some (jp_out a1 a2 (l.drop i)) := by
  induction d with
  | zero =>
    intro i hi k hk
    obtain ⟨k, rfl⟩ : ∃ m, k = m + 1 := ⟨k - 1, by unfold G at hk; omega⟩
    rw [tidewayref25_Paced.l1, if_neg (by omega), List.drop_eq_nil_of_le (by omega), jp_out]
  | succ d ih =>
    intro i hi k hk
    have hG : G l.length (d + 1) = G l.length d + l.length + 2 := by unfold G; rw [Nat.add_mul]; omega
    have hG3 : 300 ≤ G l.length d := by unfold G; omega
    obtain ⟨k, rfl⟩ : ∃ m, k = m + 1 := ⟨k - 1, by omega⟩
    have hlt : i < l.length := by omega
    have hw1 : wrap64 ((i : Int) + 1) = ((i + 1 : Nat) : Int) := by rw [jp_w64 (by omega) (by omega)]; rfl
    have ih := ih (i + 1) (by omega)
    rw [tidewayref25_Paced.l1, if_pos (by omega)]
    -- the sums from here
    have inner : ∀ e j : Nat, j + e = l.length → i ≤ j → ∀ s : Int, 0 ≤ s → s ≤ (j : Int) * 1073741824 → ∀ k, e + 1 + G l.length d ≤ k → tidewayref25_Paced.l2 k l a1 a2 (i : Int) s (j : Int) = some (jp_in a1 l[i].f0 (s - a2) (l.drop j) && jp_out a1 a2 (l.drop (i + 1))) := by
      intro e
      induction e with
      | zero =>
        intro j hj hij s hs hs' k hk
        obtain ⟨k, rfl⟩ : ∃ m, k = m + 1 := ⟨k - 1, by omega⟩
        rw [tidewayref25_Paced.l2, if_neg (by omega), hw1, ih k (by omega), List.drop_eq_nil_of_le (show l.length ≤ j by omega), jp_in, Bool.true_and]
      | succ e ihe =>
        intro j hj hij s hs hs' k hk
        obtain ⟨k, rfl⟩ : ∃ m, k = m + 1 := ⟨k - 1, by omega⟩
        have hjl : j < l.length := by omega
        have hx := jp_es_mem l 0 hes l[j] (List.getElem_mem hjl)
        have hxi := jp_es_mem l 0 hes l[i] (List.getElem_mem hlt)
        have hij2 := jp_es_drop l 0 i hlt hes l[j] (by rw [List.mem_drop_iff_getElem]; exact ⟨j - i, by omega, by simp only [show i + (j - i) = j by omega]⟩)
        rw [tidewayref25_Paced.l2, if_pos (by omega), if_pos (Int.natCast_nonneg j), if_pos (Int.natCast_nonneg i), if_pos (by omega), rd_at l j hjl, rd_at l i hlt, List.drop_eq_getElem_cons hjl, jp_in]
        generalize l[j] = x at hx hij2 ⊢
        generalize l[i] = y at hxi hij2 ihe ⊢
        have q1 : 0 ≤ s + x.f1 := by omega
        have q2 : s + x.f1 ≤ ((j + 1 : Nat) : Int) * 1073741824 := by rw [Int.natCast_add, Int.add_mul]; omega
        have q3 : e + 1 + G l.length d ≤ k := by omega
        have q4 : 260 ≤ k := by omega
        have q5 : (j + 1) + e = l.length := by omega
        have q6 : i ≤ j + 1 := by omega
        have q7 : 0 ≤ x.f0 - y.f0 := by omega
        have q8 : x.f0 - y.f0 ≤ 35184372088832 := by omega
        have q9 : s + x.f1 - a2 = s - a2 + x.f1 := by omega
        have hw2 : wrap64 (s + x.f1) = s + x.f1 := jp_w64 (by omega) (by omega)
        have hw3 : wrap64 (s + x.f1 - a2) = s - a2 + x.f1 := by rw [jp_w64 (by omega) (by omega)]; omega
        have hw4 : wrap64 (x.f0 - y.f0) = x.f0 - y.f0 := jp_w64 (by omega) (by omega)
        have hw5 : wrap64 ((j : Int) + 1) = ((j + 1 : Nat) : Int) := by rw [jp_w64 (by omega) (by omega)]; rfl
        rw [hw2, hw3, hw4, hw5, within_f k q4 _ _ _ h1 h1' q7 q8, Option.bind_some]
        cases hb : (decide (s - a2 + x.f1 ≤ jp_most a1 (x.f0 - y.f0)) || decide (s - a2 + x.f1 ≤ 0)) with
        | false => rw [if_neg (by decide), Bool.false_and, Bool.false_and]
        | true => rw [if_pos rfl, Bool.true_and, ihe (j + 1) q5 q6 _ q1 q2 k q3, q9]
    rw [inner (l.length - i) i (by omega) (Nat.le_refl _) 0 (Int.le_refl _) (Int.mul_nonneg (Int.natCast_nonneg i) (by decide)) k (by omega)]
    rw [List.drop_eq_getElem_cons hlt, jp_out, Int.zero_sub]
theorem ref_paced (l : List E) (a1 a2 : Int) (k : Nat) (hk : l.length * (l.length + 4) + 400 ≤ k) : tidewayref25_Paced.f k l a1 a2 = some (jp_paced l a1 a2) := by
  have hno : tidewayref25_Paced.j0 k l a1 a2 true = some false := by
    obtain ⟨k, rfl⟩ : ∃ m, k = m + 1 := ⟨k - 1, by omega⟩
    rw [tidewayref25_Paced.j0, if_pos rfl]
  have hbad : jp_may l a1 a2 = false → some false = some (jp_paced l a1 a2) := fun h => by rw [jp_paced, h, Bool.false_and]
  have hneg : ∀ {p : Prop}, ¬ p → (jp_may l a1 a2 = true → p) → jp_may l a1 a2 = false := fun hn h => Bool.eq_false_iff.mpr (fun e => hn (h e))
  rw [tidewayref25_Paced.f]
  by_cases c1 : a1 < 0
  · rw [if_pos c1, hno]; exact hbad (hneg (p := 0 ≤ a1) (by omega) (fun h => (may_parts h).1))
  by_cases c2 : a1 > 1099511627776
  · rw [if_neg c1, if_pos c2, hno]; exact hbad (hneg (p := a1 ≤ 1099511627776) (by omega) (fun h => (may_parts h).2.1))
  by_cases c3 : a2 < 0
  · rw [if_neg c1, if_neg c2, if_pos c3, hno]; exact hbad (hneg (p := 0 ≤ a2) (by omega) (fun h => (may_parts h).2.2.1))
  by_cases c4 : a2 > 1073741824
  · rw [if_neg c1, if_neg c2, if_neg c3, if_pos c4, hno]; exact hbad (hneg (p := a2 ≤ 1073741824) (by omega) (fun h => (may_parts h).2.2.2.1))
  rw [if_neg c1, if_neg c2, if_neg c3, if_neg c4]
  by_cases c5 : (l.length : Int) > 100000
  · rw [decide_eq_true c5, hno]; exact hbad (hneg (p := l.length ≤ 100000) (by omega) (fun h => (may_parts h).2.2.2.2.1))
  rw [decide_eq_false c5]
  have hsq : l.length * (l.length + 4) = l.length * (l.length + 2) + 2 * l.length := by rw [Nat.mul_add, Nat.mul_add]; omega
  obtain ⟨k, rfl⟩ : ∃ m, k = m + (2 * l.length + 1) + 1 := ⟨k - (2 * l.length + 1) - 1, by omega⟩
  rw [tidewayref25_Paced.j0, if_neg (by decide)]
  have hv := valid_loop l (by omega) a1 a2 l.length 0 (by omega) 0 (Int.le_refl _) (fun h => absurd h (Nat.lt_irrefl _)) (fun _ => rfl) k
  rw [show ((0 : Nat) : Int) = 0 from rfl, List.drop_zero] at hv
  rw [hv]
  by_cases hes : jp_es 0 l = true
  · rw [if_pos hes]
    have hp := pace_loop l (by omega) a1 a2 (by omega) (by omega) (by omega) (by omega) hes l.length 0 (by omega) k (by unfold G; omega)
    rw [show ((0 : Nat) : Int) = 0 from rfl, List.drop_zero] at hp
    rw [hp, jp_paced, may_mk ⟨by omega, by omega, by omega, by omega, by omega, hes⟩, Bool.true_and]
  · rw [if_neg hes]
    exact hbad (hneg hes (fun h => (may_parts h).2.2.2.2.2))
end Go.Proofs.Ytflmfbcapccdeaa.JudgePace
set_option linter.unusedVariables false
set_option linter.unusedSimpArgs false
set_option autoImplicit false
namespace Go.Proofs.Ytflmfbcapccdeaa.Pure
open Go.RowKit Go.Proofs.Ytflmfbcapccdeaa.PA Go.Proofs.YtflmfbcapccdeaaW.PrintWords Go.Proofs.YtflmfbcapccdeaaW.PrintMore Go.Proofs.Ytflmfbcapccdeaa.JudgeFacts Go.Proofs.Ytflmfbcapccdeaa.JudgePace
theorem jprefix (a b : List Int) : judge_Prefix.f a b = tidewayref25_Prefix.f a b := by
  rw [judge_Prefix.f, bytes_HasPrefix.f, tidewayref25_Prefix.f]
  by_cases h : (b.length : Int) ≤ (a.length : Int)
  · have hz : (0 : Int) ≤ (b.length : Int) := Int.natCast_nonneg _
    simp only [show (a.length : Int) ≥ (b.length : Int) from h, hz, h, if_true]
    rfl
  · simp only [show ¬ (a.length : Int) ≥ (b.length : Int) from h, h, if_false]
    rfl
theorem JudgePaces (l0 : List S62) (a1 a2 : Int) (l3 : List Int) (w0 : (∀ x ∈ l0, ((Lit.int .i64 x.f0).wf = true) ∧ (Lit.int .i64 x.f1).wf = true) ∧ l0.length * 16 ≤ 140737488351232 ∧ l0.length ≤ 9223372036854775807) (w1 : (Lit.int .i64 a1).wf = true) (w2 : (Lit.int .i64 a2).wf = true) (w3 : (∀ x ∈ l3, (Lit.int .u8 x).wf = true) ∧ l3.length * 1 ≤ 140737488351232 ∧ l3.length ≤ 9223372036854775807) :
    ∃ k, tidewaylaw25_JudgePaces.f k l0 a1 a2 l3 = some true := by
  refine ⟨l0.length * (l0.length + 4) + 400, ?_⟩
  rw [tidewaylaw25_JudgePaces.f, heads _ (by omega)]
  by_cases c0 : (l0.length : Int) > 300
  · rw [if_pos c0]; rfl
  rw [if_neg c0, judge_Paced.f, Option.bind_some, ref_paced l0 a1 a2 _ (Nat.le_refl _), Option.bind_some, beq_self_eq_true, if_pos rfl]
  have e1 : wrap64 ((l3.length : Int) / 2) = ((l3.length / 2 : Nat) : Int) := by rw [jp_w64 (by omega) (by omega)]; rfl
  rw [e1, if_pos (Int.natCast_nonneg _), if_pos (by omega), Int.toNat_natCast, jprefix, jprefix]
  have hpf : ∀ b, ∃ v, tidewayref25_Prefix.f l3 b = some v := fun b => by
    rw [tidewayref25_Prefix.f]
    by_cases h : (b.length : Int) ≤ (l3.length : Int)
    · rw [if_pos h, if_pos (by omega)]; exact ⟨_, rfl⟩
    · rw [if_neg h]; exact ⟨_, rfl⟩
  obtain ⟨v, hv⟩ := hpf (l3.drop (l3.length / 2))
  rw [hv, Option.bind_some, Option.bind_some, beq_self_eq_true, if_pos rfl]
  have ht : tidewayref25_Prefix.f l3 (l3.take (l3.length / 2)) = some true := by
    have hl : (l3.take (l3.length / 2)).length = l3.length / 2 := by rw [List.length_take]; omega
    rw [tidewayref25_Prefix.f, hl, if_pos (by omega), if_pos (Int.natCast_nonneg _), Int.toNat_natCast, tidewayref02_Same.f, Option.bind_some, beq_self_eq_true]
  rw [ht, Option.bind_some, if_pos rfl]
  rfl
end Go.Proofs.Ytflmfbcapccdeaa.Pure

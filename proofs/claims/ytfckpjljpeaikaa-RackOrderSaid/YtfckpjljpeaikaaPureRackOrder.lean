/- Segments that are delivered in the order in which they were sent are never taken for reordered. -/
import Derived.Test.YtfckpjljpeaikaaRackGiven
import Derived.Test.YtfckpjljpeaikaaPAx16
set_option linter.unusedVariables false
set_option linter.unusedSimpArgs false
set_option autoImplicit false
namespace Go.Proofs.Ytfckpjljpeaikaa.Pure
open Go.RowKit Go.Proofs.Ytfckpjljpeaikaa.PA Go.Proofs.YtfckpjljpeaikaaW.PrintWords Go.Proofs.YtfckpjljpeaikaaW.PrintMore Go.Proofs.Ytfckpjljpeaikaa.RackFacts
theorem giv_next (at_ now s0 s2 n gap : Int) (h1 : 0 ≤ at_ ∧ at_ ≤ 200000) (h2 : 0 ≤ s0 ∧ s0 ≤ now ∧ now ≤ 200000000) (h3 : 0 ≤ s2 ∧ s2 ≤ 1000000) (h4 : 1 ≤ n ∧ n ≤ 1000) (h5 : 0 ≤ gap ∧ gap ≤ 1000000) :
    giv (⟨s0, at_, s2, false, at_, 1, 0, 0⟩ : R) (⟨at_, at_ + n, false, now, 1, false, false, false, 0, 0, 0, false⟩ : X) (now + gap) 0 = (now, at_ + n, gap, false, at_ + n, 1, 0, 0, 0) := by
  have c : rm_chk (⟨s0, at_, s2, false, at_, 1, 0, 0⟩ : R) = 0 := by
    by_cases hc : rm_chk (⟨s0, at_, s2, false, at_, 1, 0, 0⟩ : R) = 0
    · exact hc
    · exact absurd (show Ok _ from ⟨⟨by simp; omega, by simp; omega⟩, ⟨by simp; omega, by simp; omega⟩, ⟨by simp; omega, by simp; omega⟩, ⟨by simp; omega, by simp; omega⟩, ⟨by simp, by simp⟩, ⟨by simp, by simp⟩, by simp, by simp⟩) (chk_no hc).2
  unfold giv
  rw [if_pos c, if_pos ((rwithin_iff _ _).2 (by simp; omega)), if_pos ((rec_iff _ _).2 (by simp; omega))]
  have e1 : wrap64 (now + gap - now) = gap := by rw [w64 (by omega) (by omega)]; omega
  have e2 : mx at_ (at_ + n) = at_ + n := by unfold mx; split <;> omega
  have e3 : tn (⟨s0, at_, s2, false, at_, 1, 0, 0⟩ : R) (⟨at_, at_ + n, false, now, 1, false, false, false, 0, 0, 0, false⟩ : X) gap 0 = true := by
    unfold tn
    rw [Bool.and_eq_true]
    refine ⟨by simp, ?_⟩
    simp only [Bool.or_eq_true, Bool.and_eq_true, decide_eq_true_eq]
    omega
  have e4 : sn (⟨s0, at_, s2, false, at_, 1, 0, 0⟩ : R) (⟨at_, at_ + n, false, now, 1, false, false, false, 0, 0, 0, false⟩ : X) = false := by
    unfold sn
    simp only [Bool.false_or, Bool.and_eq_false_iff, decide_eq_false_iff_not]
    omega
  show fin _ _ (wrap64 (now + gap - now)) (tn _ _ (wrap64 (now + gap - now)) 0) (sn _ _) (mx at_ (at_ + n)) = _
  rw [e1, e2, e3, e4]
  rfl
theorem len_eq (v : Int) : 1 ≤ wrap64 ((wrap64 (Int.tmod (IntKind.u64.wrap v) 1000)) + 1) ∧ wrap64 ((wrap64 (Int.tmod (IntKind.u64.wrap v) 1000)) + 1) ≤ 1000 := by
  have h0 : 0 ≤ IntKind.u64.wrap v := by
    have : IntKind.u64.wrap v = v % 18446744073709551616 := by simp [IntKind.wrap, IntKind.bits, IntKind.signed]
    rw [this]; omega
  have h1 : Int.tmod (IntKind.u64.wrap v) 1000 = IntKind.u64.wrap v % 1000 := Int.tmod_eq_emod_of_nonneg h0
  rw [h1, w64 (n := IntKind.u64.wrap v % 1000) (by omega) (by omega), w64 (by omega) (by omega)]
  omega
theorem order_loop (l : List Int) (gap : Int) (hg : 0 ≤ gap ∧ gap ≤ 1000000) (hl : l.length ≤ 200) (d : Nat) : ∀ (i : Nat) (at_ now s0 s2 : Int), i + d = l.length → 0 ≤ at_ ∧ at_ ≤ 1000 * i → 0 ≤ s0 ∧ s0 ≤ now ∧ now ≤ 1000000 * i → 0 ≤ s2 ∧ s2 ≤ 1000000 → ∀ k, 2 * d + 6 ≤ k →
    tidewaylaw13_RackOrder.l0 k l gap at_ now (i : Int) s0 at_ s2 false at_ 1 0 0 = some true := by
  induction d with
  | zero =>
    intro i at_ now s0 s2 hi h1 h2 h3 k hk
    obtain ⟨k, rfl⟩ : ∃ m, k = m + 1 := ⟨k - 1, by omega⟩
    rw [tidewaylaw13_RackOrder.l0, if_neg (by omega)]
    rfl
  | succ d ih =>
    intro i at_ now s0 s2 hi h1 h2 h3 k hk
    obtain ⟨k, rfl⟩ : ∃ m, k = m + 6 := ⟨k - 6, by omega⟩
    obtain ⟨n, hn⟩ : ∃ n, wrap64 ((wrap64 (Int.tmod (IntKind.u64.wrap (rd l (i : Int))) 1000)) + 1) = n := ⟨_, rfl⟩
    have hb := len_eq (rd l (i : Int))
    rw [hn] at hb
    have hlt : i < l.length := by omega
    have HN := Lib.hid hn
    clear hn
    have p1 : 0 ≤ at_ ∧ at_ ≤ 200000 := by omega
    have p2 : 0 ≤ s0 ∧ s0 ≤ now ∧ now ≤ 200000000 := by omega
    have b1 : -9223372036854775808 ≤ at_ + n ∧ at_ + n ≤ 9223372036854775807 := by omega
    have b2 : -9223372036854775808 ≤ now + gap ∧ now + gap ≤ 9223372036854775807 := by omega
    have b3 : -9223372036854775808 ≤ (i : Int) + 1 ∧ (i : Int) + 1 ≤ 9223372036854775807 := by omega
    have q1 : i + 1 + d = l.length := by omega
    have q2 : 0 ≤ at_ + n ∧ at_ + n ≤ 1000 * ((i + 1 : Nat) : Int) := by omega
    have q3 : 0 ≤ now ∧ now ≤ now + gap ∧ now + gap ≤ 1000000 * ((i + 1 : Nat) : Int) := by omega
    have q4 : 0 ≤ gap ∧ gap ≤ 1000000 := hg
    have q5 : 2 * d + 6 ≤ k + 4 := by omega
    have c1 : (i : Int) < (l.length : Int) := by omega
    have e1 : wrap64 (at_ + n) = at_ + n := w64 b1.1 b1.2
    have e2 : wrap64 (now + gap) = now + gap := w64 b2.1 b2.2
    have e3 : wrap64 ((i : Int) + 1) = ((i + 1 : Nat) : Int) := by rw [w64 b3.1 b3.2]; rfl
    have hgv := giv_f (⟨s0, at_, s2, false, at_, 1, 0, 0⟩ : R) (⟨at_, at_ + n, false, now, 1, false, false, false, 0, 0, 0, false⟩ : X) (now + gap) 0 (k + 1)
    rw [giv_next at_ now s0 s2 n gap p1 p2 h3 hb hg] at hgv
    rw [tidewaylaw13_RackOrder.l0, if_pos (Int.ofNat_lt.2 hlt), if_pos (Int.natCast_nonneg i)]
    simp only [HN.out, e1, e2]
    rw [show rack_Given.f (k + 5) s0 at_ s2 false at_ 1 0 0 at_ (at_ + n) false now 1 false false false 0 0 0 false (now + gap) 0 = some (now, at_ + n, gap, false, at_ + n, 1, 0, 0, 0) from hgv]
    simp only [Option.bind_some, if_true, Bool.false_eq_true, if_false]
    rw [show (gap != gap) = false from by simp, tidewaylaw13_RackOrder.j2, if_neg (by decide), e2, e3]
    exact ih (i + 1) (at_ + n) (now + gap) now gap q1 q2 q3 q4 (k + 4) q5
theorem RackOrder (l : List Int) (gap : Int) (w0 : (∀ x ∈ l, (Lit.int .i64 x).wf = true) ∧ l.length * 8 ≤ 140737488351232 ∧ l.length ≤ 9223372036854775807) (w1 : (Lit.int .i64 gap).wf = true) : ∃ k, tidewaylaw13_RackOrder.f k l gap = some true := by
  refine ⟨2 * l.length + 10, ?_⟩
  have hb : ∀ k, tidewaylaw13_RackOrder.j0 (k + 1) l gap true = some true := fun k => by rw [tidewaylaw13_RackOrder.j0, if_pos rfl]; rfl
  rw [tidewaylaw13_RackOrder.f]
  by_cases g1 : (l.length : Int) > 200
  · rw [if_pos g1]; exact hb _
  rw [if_neg g1]
  by_cases g2 : gap < 0
  · rw [if_pos g2]; exact hb _
  rw [if_neg g2]
  by_cases g3 : gap > 1000000
  · rw [decide_eq_true g3]; exact hb _
  rw [decide_eq_false g3, tidewaylaw13_RackOrder.j0, if_neg (by decide)]
  exact order_loop l gap (by omega) (by omega) l.length 0 0 0 0 0 (by omega) (by omega) (by omega) (by omega) _ (by omega)
end Go.Proofs.Ytfckpjljpeaikaa.Pure

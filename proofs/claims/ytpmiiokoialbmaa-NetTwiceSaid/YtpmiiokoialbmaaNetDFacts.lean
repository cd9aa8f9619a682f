/- What the calls on datagrams and the document's ones make: the same. -/
import Derived.Test.YtpmiiokoialbmaaPDx8
import Derived.Test.YtpmiiokoialbmaaPDx9
import Derived.Test.YtpmiiokoialbmaaPDx10
import Derived.Test.YtpmiiokoialbmaaPDx11
import Derived.Test.YtpmiiokoialbmaaPDx12
import Derived.Test.YtpmiiokoialbmaaPDx13
set_option linter.unusedVariables false
set_option linter.unusedSimpArgs false
set_option autoImplicit false
namespace Go.Proofs.Ytpmiiokoialbmaa.NetDFacts
open Go.RowKit Go.Proofs.Ytpmiiokoialbmaa.PD Go.Proofs.YtpmiiokoialbmaaW.PrintWords Go.Proofs.YtpmiiokoialbmaaW.PrintMore
abbrev D := S26
def Wf (l : List D) : Prop := (∀ x ∈ l, ((∀ y ∈ x.f0, (Lit.int .u8 y).wf = true) ∧ x.f0.length * 1 ≤ 140737488351232 ∧ x.f0.length ≤ 9223372036854775807) ∧ (Lit.int .i64 x.f1).wf = true) ∧ l.length * 32 ≤ 140737488351232 ∧ l.length ≤ 9223372036854775807
theorem wf64 {c : Int} (h : (Lit.int .i64 c).wf = true) : -9223372036854775808 ≤ c ∧ c ≤ 9223372036854775807 := by simpa [Lit.wf, IntKind.min, IntKind.max, IntKind.signed, IntKind.bits] using h
theorem lim {l : List D} (h : Wf l) : net_lim l = true := by
  simp only [net_lim, Bool.and_eq_true, decide_eq_true_eq, List.all_eq_true]
  refine ⟨by have := h.2.1; omega, fun x hx => ?_⟩
  have := (h.1 x hx).1.2.1
  omega
theorem up_ {α : Type} {f : Nat → Option α} (hm : ∀ k, LeO (f k) (f (k + 1))) {k0 : Nat} {r : α} (h : f k0 = some r) : ∀ k, k0 ≤ k → f k = some r := by
  intro k hk
  induction k with
  | zero => rw [← h]; congr 1; omega
  | succ k ih =>
    by_cases e : k0 = k + 1
    · rw [← e]; exact h
    · exact hm k r (ih (by omega))
theorem heads (k : Nat) (hk : 10 ≤ k) : tidewaylaw05_heads.f k = some true := by
  refine up_ (f := fun k => tidewaylaw05_heads.f k) tidewaylaw05_heads.mono (k0 := 10) ?_ k hk
  kernel_rfl
theorem rd_ {l : List D} {i : Nat} (h : i < l.length) : rd_T26 l (i : Int) = l[i] := by simp [rd_T26, List.getD_eq_getElem?_getD, List.getElem?_eq_getElem h]
theorem w64s {i : Nat} (h : i < 9223372036854775807) : wrap64 ((i : Int) + 1) = ((i + 1 : Nat) : Int) := by unfold wrap64; omega
theorem same_self (a : List Int) : tidewayref02_Same.f a a = some true := by simp [tidewayref02_Same.f]
theorem same_loop (l : List D) (hl : l.length < 9223372036854775807) : ∀ (d i k : Nat), l.length - i = d → i ≤ l.length → d < k → tidewayref05_Same.l0 k l l i = some true := by
  intro d
  induction d with
  | zero =>
    intro i k hd hi hk
    obtain ⟨k, rfl⟩ : ∃ m, k = m + 1 := ⟨k - 1, by omega⟩
    rw [tidewayref05_Same.l0, if_neg (by omega)]
  | succ d ih =>
    intro i k hd hi hk
    obtain ⟨k, rfl⟩ : ∃ m, k = m + 1 := ⟨k - 1, by omega⟩
    rw [tidewayref05_Same.l0, if_pos (by omega), if_pos (by omega), if_pos (by omega), if_pos rfl, same_self, Option.bind_some, if_pos rfl, w64s (by omega)]
    exact ih (i + 1) k (by omega) (by omega) (by omega)
theorem same (l : List D) (hl : l.length < 9223372036854775807) (k : Nat) (hk : l.length < k) : tidewayref05_Same.f k l l = some true := by
  rw [tidewayref05_Same.f, if_pos rfl]
  exact same_loop l hl l.length 0 k (by omega) (by omega) hk
/-- sending -/
theorem send (l : List D) (data : List Int) (at_ : Int) (hl : net_lim l = true) (hd : data.length < 140737488355328) : ∃ r e, net_Send.f l data at_ = some (r, e) ∧ tidewayref05_Send.f (l.length + 20) l data at_ = some (r, e) ∧ r.length ≤ l.length + 1 := by
  have hlim := hl
  simp only [net_lim, Bool.and_eq_true, decide_eq_true_eq] at hlim
  by_cases h : (l.length : Int) ≥ 65536
  · exact ⟨[], 70, by rw [net_Send.f, if_pos h], by rw [tidewayref05_Send.f, if_pos h], by simp⟩
  · refine ⟨l ++ [⟨data, at_⟩], 0, by rw [net_Send.f, if_neg h, if_pos hl, if_pos hd], ?_, by simp⟩
    rw [tidewayref05_Send.f, if_neg h, rcopy l hl _ (by omega)]
    simp only [Option.bind_some, List.nil_append]
    rw [if_pos (by simpa using hd), if_pos (by omega)]
theorem take (l : List D) (a : Int) (hl : net_lim l = true) : ∃ r1 r2 r3 r4, net_Take.f l a = some (r1, r2, r3, r4) ∧ tidewayref05_Take.f l a = some (r1, r2, r3, r4) ∧ r3.length ≤ l.length := by
  unfold tidewayref05_Take.f
  rw [if_pos hl]
  unfold net_Take.f
  by_cases h : 0 ≤ a ∧ a < (l.length : Int)
  · rw [if_pos h, if_pos hl]
    exact ⟨_, _, _, _, rfl, rfl, List.length_eraseIdx_le _ _⟩
  · rw [if_neg h]
    exact ⟨_, _, _, _, rfl, rfl, by simp⟩
theorem lim_at {l : List D} (hl : net_lim l = true) {i : Nat} (h : i < l.length) : l[i].f0.length < 140737488355328 := by
  simp only [net_lim, Bool.and_eq_true, decide_eq_true_eq, List.all_eq_true] at hl
  exact hl.2 _ (List.getElem_mem _)
theorem lim_one {l : List D} (hl : net_lim l = true) {i : Nat} (h : i < l.length) : net_lim [l[i]] = true := by
  have := lim_at hl h
  simp [net_lim, this]
/-- doubling -/
theorem double (l : List D) (a : Int) (hl : net_lim l = true) : ∃ r e, net_Double.f l a = some (r, e) ∧ tidewayref05_Double.f (l.length + 20) l a = some (r, e) ∧ r.length ≤ l.length + 1 := by
  have hlim := hl
  simp only [net_lim, Bool.and_eq_true, decide_eq_true_eq] at hlim
  by_cases h : 0 ≤ a ∧ a < (l.length : Int)
  · obtain ⟨i, rfl⟩ : ∃ i : Nat, a = i := ⟨a.toNat, by omega⟩
    have hi : i < l.length := by omega
    have hth : net_there.f l (i : Int) = some true := by rw [net_there.is3, decide_eq_true h]
    have hj : tidewayref05_Double.f (l.length + 20) l (i : Int) = tidewayref05_Double.j0 (l.length + 20) l (i : Int) false := by
      rw [tidewayref05_Double.f, if_neg (by omega), decide_eq_false (by omega)]
    by_cases hf : (l.length : Int) ≥ 65536
    · refine ⟨[], 70, ?_, ?_, by simp⟩
      · rw [net_Double.f, hth, Option.bind_some, if_pos rfl, if_pos h.1, if_pos h.2, net_Send.f, if_pos hf]; rfl
      · rw [hj, tidewayref05_Double.j0, if_neg (by simp), if_pos hf]
    · have e1 : (l.take ((i + 1 : Nat) : Int).toNat).drop (i : Int).toNat = [l[i]] := by
        rw [Int.toNat_natCast, Int.toNat_natCast, List.take_succ_eq_append_getElem hi, List.drop_append_of_le_length (by rw [List.length_take]; omega), List.drop_take]
        simp
      refine ⟨l ++ [l[i]], 0, ?_, ?_, by simp⟩
      · rw [net_Double.f, hth, Option.bind_some, if_pos rfl, if_pos h.1, if_pos h.2, rd_ hi, net_Send.f, if_neg hf, if_pos hl, if_pos (lim_at hl hi)]; rfl
      · rw [hj, tidewayref05_Double.j0, if_neg (by simp), if_neg hf, rcopy l hl _ (by omega), Option.bind_some, if_pos h.1, w64s (by omega), if_pos (by omega), if_pos (by omega), e1, rcopy _ (lim_one hl hi) _ (by first | (simp; done) | (simp; omega)), Option.bind_some, if_pos (by first | (simp; done) | (simp; omega))]
  · have hth : net_there.f l a = some false := by rw [net_there.is3, decide_eq_false h]
    refine ⟨[], 50, ?_, ?_, by simp⟩
    · rw [net_Double.f, hth]; rfl
    · have hj : tidewayref05_Double.f (l.length + 20) l a = tidewayref05_Double.j0 (l.length + 20) l a true := by
        rw [tidewayref05_Double.f]
        by_cases h0 : a < 0
        · rw [if_pos h0]
        · rw [if_neg h0, decide_eq_true (by omega)]
      rw [hj, tidewayref05_Double.j0, if_pos rfl]
/-- a bit turned -/
theorem spoil (l : List D) (a b : Int) (hl : net_lim l = true) (hb : -9223372036854775808 ≤ b ∧ b ≤ 9223372036854775807) : ∃ r e, net_Spoil.f l a b = some (r, e) ∧ tidewayref05_Spoil.f (l.length + 20) l a b = some (r, e) ∧ r.length ≤ l.length + 1 := by
  have hlim := hl
  simp only [net_lim, Bool.and_eq_true, decide_eq_true_eq] at hlim
  rw [net_Spoil.f, if_pos hl]
  by_cases h : 0 ≤ a ∧ a < (l.length : Int)
  · obtain ⟨i, rfl⟩ : ∃ i : Nat, a = i := ⟨a.toNat, by omega⟩
    have hi : i < l.length := by omega
    have hj : tidewayref05_Spoil.f (l.length + 20) l (i : Int) b = tidewayref05_Spoil.j0 (l.length + 20) l (i : Int) b false := by
      rw [tidewayref05_Spoil.f, if_neg (by omega), decide_eq_false (by omega)]
    have hx := lim_at hl hi
    have hw : wrap64 (8 * (l[i].f0.length : Int)) = 8 * (l[i].f0.length : Int) := by unfold wrap64; omega
    by_cases h0 : 0 ≤ b
    · by_cases h1 : b < 8 * (l[i].f0.length : Int)
      · have e1 : Int.tdiv b 8 = b / 8 := Int.tdiv_eq_ediv_of_nonneg h0
        have e2 : Int.tmod b 8 = b % 8 := Int.tmod_eq_emod_of_nonneg h0
        have e3 : wrap64 (b / 8) = b / 8 := by unfold wrap64; omega
        have e4 : IntKind.u64.wrap (b % 8) = b % 8 := by simp [IntKind.wrap, IntKind.bits, IntKind.signed]; omega
        refine ⟨l.set i ⟨l[i].f0.set (b / 8).toNat (Go.bits .xor .u8 (rd l[i].f0 (b / 8)) (shl .u8 1 (b % 8))), l[i].f1⟩, 0, ?_, ?_, by simp⟩
        · rw [if_pos h, rd_ hi, if_pos ⟨h0, h1⟩, Int.toNat_natCast]
        · rw [hj, tidewayref05_Spoil.j0, if_neg (by simp), if_neg (by omega), if_pos h.1, if_pos h.2, rd_ hi, hw, if_neg (by omega), rcopy l hl _ (by omega), Option.bind_some, if_pos h.2, rd_ hi, e1, e2, e3, e4, if_pos (by omega), if_pos (by omega), if_pos (by omega), Int.toNat_natCast]
      · refine ⟨[], 2, ?_, ?_, by simp⟩
        · rw [if_pos h, rd_ hi, if_neg (by omega)]
        · rw [hj, tidewayref05_Spoil.j0, if_neg (by simp), if_neg (by omega), if_pos h.1, if_pos h.2, rd_ hi, hw, if_pos (by omega)]
    · refine ⟨[], 2, ?_, ?_, by simp⟩
      · rw [if_pos h, if_neg (by omega)]
      · rw [hj, tidewayref05_Spoil.j0, if_neg (by simp), if_pos (by omega)]
  · refine ⟨[], 50, by rw [if_neg h], ?_, by simp⟩
    have hj : tidewayref05_Spoil.f (l.length + 20) l a b = tidewayref05_Spoil.j0 (l.length + 20) l a b true := by
      rw [tidewayref05_Spoil.f]
      by_cases h0 : a < 0
      · rw [if_pos h0]
      · rw [if_neg h0, decide_eq_true (by omega)]
    rw [hj, tidewayref05_Spoil.j0, if_pos rfl]
end Go.Proofs.Ytpmiiokoialbmaa.NetDFacts

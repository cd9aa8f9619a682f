/- What the calls on datagrams make, in plain words. -/
import Derived.Test.YtpmiiokoialbmaaPAx8
import Derived.Test.YtpmiiokoialbmaaPAx9
import Derived.Test.YtpmiiokoialbmaaPAx10
set_option linter.unusedVariables false
set_option linter.unusedSimpArgs false
set_option autoImplicit false
namespace Go.Proofs.Ytpmiiokoialbmaa.NetFacts
open Go.RowKit Go.Proofs.Ytpmiiokoialbmaa.PA Go.Proofs.YtpmiiokoialbmaaW.PrintWords
abbrev D := S26
/-- What a datagram's row is, as it comes. -/
def Wf (l : List D) : Prop := (∀ x ∈ l, ((∀ y ∈ x.f0, (Lit.int .u8 y).wf = true) ∧ x.f0.length * 1 ≤ 140737488351232 ∧ x.f0.length ≤ 9223372036854775807) ∧ (Lit.int .i64 x.f1).wf = true) ∧ l.length * 32 ≤ 140737488351232 ∧ l.length ≤ 9223372036854775807
theorem wf64 {c : Int} (h : (Lit.int .i64 c).wf = true) : -9223372036854775808 ≤ c ∧ c ≤ 9223372036854775807 := by simpa [Lit.wf, IntKind.min, IntKind.max, IntKind.signed, IntKind.bits] using h
theorem lim {l : List D} (h : Wf l) : net_lim l = true := by
  simp only [net_lim, Bool.and_eq_true, decide_eq_true_eq, List.all_eq_true]
  refine ⟨by have := h.2.1; omega, fun x hx => ?_⟩
  have := (h.1 x hx).1.2.1
  omega
theorem up_ {α : Type} {f : Nat → Option α} (hm : ∀ k, LeO (f k) (f (k + 1))) {k0 : Nat} {r : α} (h : f k0 = some r) : ∀ k, k0 ≤ k → f k = some r := by
  intro k hk
  induction k with
  | zero => rw [← h]; congr 1; omega
  | succ k ih =>
    by_cases e : k0 = k + 1
    · rw [← e]; exact h
    · exact hm k r (ih (by omega))
theorem heads (k : Nat) (hk : 10 ≤ k) : tidewaylaw05_heads.f k = some true := by
  refine up_ (f := fun k => tidewaylaw05_heads.f k) tidewaylaw05_heads.mono (k0 := 10) ?_ k hk
  kernel_rfl
theorem rd {l : List D} {i : Nat} (h : i < l.length) : rd_T26 l (i : Int) = l[i] := by simp [rd_T26, List.getD_eq_getElem?_getD, List.getElem?_eq_getElem h]
theorem w64s {i : Nat} (h : i < 9223372036854775807) : wrap64 ((i : Int) + 1) = ((i + 1 : Nat) : Int) := by unfold wrap64; omega
/-! the oldest -/
def ostep (now : Int) (acc : Int) (x : D) : Int := if x.f1 < now then mx acc (if wrap64 (now - x.f1) < 0 then 9223372036854775807 else wrap64 (now - x.f1)) else acc
theorem oldest_loop (l : List D) (now : Int) (hl : l.length ≤ 9223372036854775807) : ∀ (d i k : Nat) (acc : Int), l.length - i = d → i ≤ l.length → 2 * d < k → net_Oldest.l0 k now acc l (l.length : Int) i = some ((l.drop i).foldl (ostep now) acc) := by
  intro d
  induction d with
  | zero =>
    intro i k acc hd hi hk
    obtain ⟨k, rfl⟩ : ∃ m, k = m + 1 := ⟨k - 1, by omega⟩
    rw [net_Oldest.l0, if_neg (by omega), List.drop_of_length_le (by omega)]
    rfl
  | succ d ih =>
    intro i k acc hd hi hk
    obtain ⟨k, rfl⟩ : ∃ m, k = m + 2 := ⟨k - 2, by omega⟩
    have hlt : i < l.length := by omega
    rw [net_Oldest.l0, if_pos (by omega), if_pos (by omega), if_pos (by omega), rd hlt, List.drop_eq_getElem_cons hlt, List.foldl_cons]
    by_cases h1 : l[i].f1 < now
    · rw [if_pos h1, net_Oldest.j1]
      by_cases h2 : wrap64 (now - l[i].f1) < 0
      · rw [if_pos (decide_eq_true h2), if_pos h1, w64s (by omega), ih (i + 1) k _ (by omega) (by omega) (by omega)]
        simp only [ostep, if_pos h1, if_pos h2]
      · rw [if_neg (by simp only [decide_eq_true_eq]; exact h2), if_pos h1, w64s (by omega), ih (i + 1) k _ (by omega) (by omega) (by omega)]
        simp only [ostep, if_pos h1, if_neg h2]
    · rw [if_neg h1, net_Oldest.j1, if_neg (by simp), if_neg h1, w64s (by omega), ih (i + 1) k _ (by omega) (by omega) (by omega)]
      simp only [ostep, if_neg h1]
theorem oldest (l : List D) (now : Int) (hl : l.length ≤ 9223372036854775807) (k : Nat) (hk : 2 * l.length < k) : net_Oldest.f k l now = some (l.foldl (ostep now) 0) := by
  rw [net_Oldest.f]
  have := oldest_loop l now hl l.length 0 k 0 (by omega) (by omega) hk
  simpa using this
theorem refOldest_loop (l : List D) (now : Int) (hl : l.length ≤ 9223372036854775807) : ∀ (d i k : Nat) (acc : Int), l.length - i = d → i ≤ l.length → d < k → tidewayref05_Oldest.l0 k l now acc i = some ((l.drop i).foldl (ostep now) acc) := by
  intro d
  induction d with
  | zero =>
    intro i k acc hd hi hk
    obtain ⟨k, rfl⟩ : ∃ m, k = m + 1 := ⟨k - 1, by omega⟩
    rw [tidewayref05_Oldest.l0, if_neg (by omega), List.drop_of_length_le (by omega)]
    rfl
  | succ d ih =>
    intro i k acc hd hi hk
    obtain ⟨k, rfl⟩ : ∃ m, k = m + 1 := ⟨k - 1, by omega⟩
    have hlt : i < l.length := by omega
    rw [tidewayref05_Oldest.l0, if_pos (by omega), if_pos (by omega), rd hlt, List.drop_eq_getElem_cons hlt, List.foldl_cons]
    by_cases h1 : l[i].f1 < now
    · rw [if_pos h1]
      by_cases h2 : wrap64 (now - l[i].f1) < 0
      · rw [if_pos h2, w64s (by omega), ih (i + 1) k _ (by omega) (by omega) (by omega)]
        simp only [ostep, if_pos h1, if_pos h2]
      · rw [if_neg h2, w64s (by omega), ih (i + 1) k _ (by omega) (by omega) (by omega)]
        simp only [ostep, if_pos h1, if_neg h2]
    · rw [if_neg h1, w64s (by omega), ih (i + 1) k _ (by omega) (by omega) (by omega)]
      simp only [ostep, if_neg h1]
theorem refOldest (l : List D) (now : Int) (hl : l.length ≤ 9223372036854775807) (k : Nat) (hk : l.length < k) : tidewayref05_Oldest.f k l now = some (l.foldl (ostep now) 0) := by
  rw [tidewayref05_Oldest.f]
  have := refOldest_loop l now hl l.length 0 k 0 (by omega) (by omega) hk
  simpa using this
/-! how many have some bytes -/
def same (a b : List Int) : Bool := (strOfNums a).toList == (strOfNums b).toList
theorem same_f (a b : List Int) : tidewayref02_Same.f a b = some (same a b) := rfl
theorem equal_f (a b : List Int) : bytes_Equal.f a b = some (same a b) := rfl
theorem same_self (a : List Int) : same a a = true := by simp [same]
def cnt (data : List Int) (l : List D) : Nat := l.countP fun x => same x.f0 data
theorem cnt_le (data : List Int) (l : List D) : cnt data l ≤ l.length := List.countP_le_length
theorem cnt_take (data : List Int) (l : List D) (i : Nat) (h : i < l.length) : cnt data (l.take (i + 1)) = cnt data (l.take i) + if same l[i].f0 data = true then 1 else 0 := by
  rw [List.take_succ_eq_append_getElem h, cnt, List.countP_append]
  simp [cnt, List.countP_cons]
theorem count_loop (l : List D) (data : List Int) (hl : l.length ≤ 9223372036854775807) : ∀ (d i k : Nat), l.length - i = d → i ≤ l.length → d < k → net_Count.l0 k data (cnt data (l.take i)) l (l.length : Int) i = some (cnt data l : Int) := by
  intro d
  induction d with
  | zero =>
    intro i k hd hi hk
    obtain ⟨k, rfl⟩ : ∃ m, k = m + 1 := ⟨k - 1, by omega⟩
    rw [net_Count.l0, if_neg (by omega), List.take_of_length_le (by omega)]
  | succ d ih =>
    intro i k hd hi hk
    obtain ⟨k, rfl⟩ : ∃ m, k = m + 1 := ⟨k - 1, by omega⟩
    have hlt : i < l.length := by omega
    have hc := cnt_take data l i hlt
    have hb := cnt_le data (l.take (i + 1))
    rw [List.length_take] at hb
    have := ih (i + 1) k (by omega) (by omega) (by omega)
    rw [net_Count.l0, if_pos (by omega), if_pos (by omega), if_pos (by omega), rd hlt, equal_f, Option.bind_some, w64s (i := i) (by omega)]
    by_cases h1 : same l[i].f0 data = true
    · rw [if_pos h1]
      rw [if_pos h1] at hc
      rw [w64s (by omega), ← hc]
      exact this
    · rw [if_neg h1]
      rw [if_neg h1] at hc
      rw [show cnt data (l.take i) = cnt data (l.take (i + 1)) by omega]
      exact this
theorem count (l : List D) (data : List Int) (hl : l.length ≤ 9223372036854775807) (k : Nat) (hk : l.length < k) : net_Count.f k l data = some (cnt data l : Int) := by
  rw [net_Count.f]
  have := count_loop l data hl l.length 0 k (by omega) (by omega) hk
  simpa [cnt] using this
theorem refCount_loop (l : List D) (data : List Int) (hl : l.length ≤ 9223372036854775807) : ∀ (d i k : Nat), l.length - i = d → i ≤ l.length → d < k → tidewayref05_Count.l0 k l data (cnt data (l.take i)) i = some (cnt data l : Int) := by
  intro d
  induction d with
  | zero =>
    intro i k hd hi hk
    obtain ⟨k, rfl⟩ : ∃ m, k = m + 1 := ⟨k - 1, by omega⟩
    rw [tidewayref05_Count.l0, if_neg (by omega), List.take_of_length_le (by omega)]
  | succ d ih =>
    intro i k hd hi hk
    obtain ⟨k, rfl⟩ : ∃ m, k = m + 1 := ⟨k - 1, by omega⟩
    have hlt : i < l.length := by omega
    have hc := cnt_take data l i hlt
    have hb := cnt_le data (l.take (i + 1))
    rw [List.length_take] at hb
    have := ih (i + 1) k (by omega) (by omega) (by omega)
    rw [tidewayref05_Count.l0, if_pos (by omega), if_pos (by omega), rd hlt, same_f, Option.bind_some, w64s (i := i) (by omega)]
    by_cases h1 : same l[i].f0 data = true
    · rw [if_pos h1]
      rw [if_pos h1] at hc
      rw [w64s (by omega), ← hc]
      exact this
    · rw [if_neg h1]
      rw [if_neg h1] at hc
      rw [show cnt data (l.take i) = cnt data (l.take (i + 1)) by omega]
      exact this
theorem refCount (l : List D) (data : List Int) (hl : l.length ≤ 9223372036854775807) (k : Nat) (hk : l.length < k) : tidewayref05_Count.f k l data = some (cnt data l : Int) := by
  rw [tidewayref05_Count.f]
  have := refCount_loop l data hl l.length 0 k (by omega) (by omega) hk
  simpa [cnt] using this
theorem cnt_erase (data : List Int) (l : List D) (i : Nat) (h : i < l.length) : cnt data l = cnt data (l.eraseIdx i) + if same l[i].f0 data = true then 1 else 0 := by
  have e : l = l.take i ++ l[i] :: l.drop (i + 1) := by rw [← List.drop_eq_getElem_cons h, List.take_append_drop]
  rw [List.eraseIdx_eq_take_drop_succ]
  conv => lhs; rw [e]
  simp only [cnt, List.countP_append, List.countP_cons]
  omega
end Go.Proofs.Ytpmiiokoialbmaa.NetFacts

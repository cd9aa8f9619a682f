/- What is taken always first comes in the order in which it was sent. -/
import Derived.Test.YtpmiiokoialbmaaNetFacts
set_option linter.unusedVariables false
set_option linter.unusedSimpArgs false
set_option autoImplicit false
namespace Go.Proofs.Ytpmiiokoialbmaa.Pure
open Go.RowKit Go.Proofs.Ytpmiiokoialbmaa.PA Go.Proofs.YtpmiiokoialbmaaW.PrintWords Go.Proofs.Ytpmiiokoialbmaa.NetFacts
/-- The datagrams of rows of bytes, sent at 0, 1, 2, .. -/
def fl : Nat → List (List Int) → List D
  | _, [] => []
  | n, d :: l => ⟨d, (n : Int)⟩ :: fl (n + 1) l
theorem fl_len : ∀ (l : List (List Int)) (n : Nat), (fl n l).length = l.length
  | [], _ => rfl
  | d :: l, n => by simp [fl, fl_len l (n + 1)]
theorem fl_at : ∀ (l : List (List Int)) (n i : Nat) (h : i < l.length) (h' : i < (fl n l).length), (fl n l)[i] = ⟨l[i], ((n + i : Nat) : Int)⟩
  | [], _, _, h, _ => by simp at h
  | d :: l, n, 0, _, _ => by simp [fl]
  | d :: l, n, i + 1, h, _ => by
    simp only [fl, List.getElem_cons_succ]
    rw [fl_at l (n + 1) i (by simpa using h)]
    congr 2
    omega
theorem fl_lim (l : List (List Int)) (h300 : l.length ≤ 300) (hb : ∀ d ∈ l, d.length < 140737488355328) (L : List D) (hL : ∀ x ∈ L, x ∈ fl 0 l) (hn : L.length ≤ 300) : net_lim L = true := by
  simp only [net_lim, Bool.and_eq_true, decide_eq_true_eq, List.all_eq_true]
  refine ⟨by omega, fun x hx => ?_⟩
  obtain ⟨i, hi, rfl⟩ := List.mem_iff_getElem.1 (hL x hx)
  have hi' : i < l.length := by rw [fl_len] at hi; exact hi
  rw [fl_at l 0 i hi']
  exact hb _ (List.getElem_mem _)
theorem rdL {l : List (List Int)} {i : Nat} (h : i < l.length) : rd_L1 l (i : Int) = l[i] := by simp [rd_L1, List.getD_eq_getElem?_getD, List.getElem?_eq_getElem h]
theorem takes (l : List (List Int)) (h300 : l.length ≤ 300) (hb : ∀ d ∈ l, d.length < 140737488355328) : ∀ (d i k : Nat), l.length - i = d → i ≤ l.length → d + 20 < k → tidewaylaw05_NetOrder.l1 k l ((fl 0 l).drop i) i = some true := by
  intro d
  induction d with
  | zero =>
    intro i k hd hi hk
    obtain ⟨k, rfl⟩ : ∃ m, k = m + 1 := ⟨k - 1, by omega⟩
    have e := fl_len l 0
    rw [tidewaylaw05_NetOrder.l1, if_neg (by omega), if_pos (by rw [List.length_drop]; omega), heads _ (by omega)]
    rfl
  | succ d ih =>
    intro i k hd hi hk
    obtain ⟨k, rfl⟩ : ∃ m, k = m + 1 := ⟨k - 1, by omega⟩
    have e := fl_len l 0
    have hlt : i < l.length := by omega
    have hlt' : i < (fl 0 l).length := by omega
    have hpos : 0 < ((fl 0 l).drop i).length := by rw [List.length_drop]; omega
    have hlim : net_lim ((fl 0 l).drop i) = true := fl_lim l h300 hb _ (fun x hx => List.mem_of_mem_drop hx) (by rw [List.length_drop]; omega)
    have hr : rd_T26 ((fl 0 l).drop i) 0 = ⟨l[i], (i : Int)⟩ := by
      have h1 := rd (l := (fl 0 l).drop i) (i := 0) hpos
      rw [show ((0 : Nat) : Int) = 0 from rfl] at h1
      rw [h1, List.getElem_drop]
      simp only [Nat.add_zero]
      rw [fl_at l 0 i hlt, Nat.zero_add]
    have hd2 : ((fl 0 l).drop i).eraseIdx 0 = (fl 0 l).drop (i + 1) := by rw [List.eraseIdx_zero, List.tail_drop]
    rw [tidewaylaw05_NetOrder.l1, if_pos (by omega), net_Take.f, if_pos ⟨Int.le_refl _, by omega⟩, if_pos hlim, hr]
    simp only [Option.bind_some, Int.toNat_zero, if_true]
    rw [hd2, if_pos (by omega), rdL hlt, same_f, same_self]
    simp only [Option.bind_some, if_true]
    rw [w64s (by omega)]
    exact ih (i + 1) k (by omega) (by omega) (by omega)
theorem sends (l : List (List Int)) (h300 : l.length ≤ 300) (hb : ∀ d ∈ l, d.length < 140737488355328) : ∀ (d i k : Nat), l.length - i = d → i ≤ l.length → d + l.length + 30 < k → tidewaylaw05_NetOrder.l0 k l ((fl 0 l).take i) i = some true := by
  intro d
  induction d with
  | zero =>
    intro i k hd hi hk
    obtain ⟨k, rfl⟩ : ∃ m, k = m + 1 := ⟨k - 1, by omega⟩
    have e := fl_len l 0
    rw [tidewaylaw05_NetOrder.l0, if_neg (by omega), List.take_of_length_le (by omega)]
    have := takes l h300 hb l.length 0 k (by omega) (by omega) (by omega)
    simpa using this
  | succ d ih =>
    intro i k hd hi hk
    obtain ⟨k, rfl⟩ : ∃ m, k = m + 1 := ⟨k - 1, by omega⟩
    have e := fl_len l 0
    have hlt : i < l.length := by omega
    have hlt' : i < (fl 0 l).length := by omega
    have hlen : ((fl 0 l).take i).length = i := by rw [List.length_take]; omega
    have hlim : net_lim ((fl 0 l).take i) = true := fl_lim l h300 hb _ (fun x hx => List.mem_of_mem_take hx) (by omega)
    have hnext : (fl 0 l).take i ++ [⟨l[i], (i : Int)⟩] = (fl 0 l).take (i + 1) := by
      rw [List.take_succ_eq_append_getElem hlt', fl_at l 0 i hlt, Nat.zero_add]
    rw [tidewaylaw05_NetOrder.l0, if_pos (by omega), if_pos (by omega), rdL hlt, net_Send.f, if_neg (by omega), if_pos hlim, if_pos (hb _ (List.getElem_mem _)), hnext]
    simp only [Option.bind_some, if_true]
    rw [w64s (by omega)]
    exact ih (i + 1) k (by omega) (by omega) (by omega)
theorem NetOrder (l0 : List (List Int)) (w0 : (∀ y ∈ l0, (∀ x ∈ y, (Lit.int .u8 x).wf = true) ∧ y.length * 1 ≤ 140737488351232 ∧ y.length ≤ 9223372036854775807) ∧ l0.length * 24 ≤ 140737488351232 ∧ l0.length ≤ 9223372036854775807) : ∃ k, tidewaylaw05_NetOrder.f k l0 = some true := by
  refine ⟨2 * l0.length + 40, ?_⟩
  rw [tidewaylaw05_NetOrder.f]
  by_cases h : (l0.length : Int) > 300
  · rw [if_pos h, heads _ (by omega)]; rfl
  · rw [if_neg h]
    have hb : ∀ d ∈ l0, d.length < 140737488355328 := fun d hd => by have := (w0.1 d hd).2.1; omega
    have := sends l0 (by omega) hb l0.length 0 (2 * l0.length + 40) (by omega) (by omega) (by omega)
    simpa using this
end Go.Proofs.Ytpmiiokoialbmaa.Pure

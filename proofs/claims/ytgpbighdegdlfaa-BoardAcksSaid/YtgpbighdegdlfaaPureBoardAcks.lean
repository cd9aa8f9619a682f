/- What acknowledgements make of records. -/
import Derived.Test.YtgpbighdegdlfaaBoardFacts
import Derived.Test.YtgpbighdegdlfaaBoardSack
import Derived.Test.YtgpbighdegdlfaaBoardAckF
import Derived.Test.YtgpbighdegdlfaaPAx28
set_option linter.unusedVariables false
set_option linter.unusedSimpArgs false
set_option autoImplicit false
namespace Go.Proofs.Ytgpbighdegdlfaa.Pure
open Go.RowKit Go.Proofs.Ytgpbighdegdlfaa.PA Go.Proofs.YtgpbighdegdlfaaW.PrintWords Go.Proofs.YtgpbighdegdlfaaW.PrintMore Go.Proofs.Ytgpbighdegdlfaa.BoardFacts
theorem same_loop (l : List X) (hlen : l.length ≤ 1759218604440) (d : Nat) : ∀ i : Nat, i + d = l.length → ∀ k, d + 1 ≤ k → tidewayref10_Same.l0 k l l (i : Int) = some true := by
  induction d with
  | zero =>
    intro i hi k hk
    obtain ⟨k, rfl⟩ : ∃ m, k = m + 1 := ⟨k - 1, by omega⟩
    rw [tidewayref10_Same.l0, if_neg (by omega)]
  | succ d ih =>
    intro i hi k hk
    obtain ⟨k, rfl⟩ : ∃ m, k = m + 1 := ⟨k - 1, by omega⟩
    have hlt : i < l.length := by omega
    have c1 : (i : Int) < (l.length : Int) := Int.ofNat_lt.2 hlt
    have hw1 : wrap64 ((i : Int) + 1) = ((i + 1 : Nat) : Int) := by rw [w64 (by omega) (by omega)]; rfl
    rw [tidewayref10_Same.l0, if_pos c1, if_pos (Int.natCast_nonneg i), if_pos c1]
    simp only [beq_self_eq_true, Bool.not_true, Bool.or_false, Bool.false_eq_true, if_false]
    rw [hw1]
    exact ih (i + 1) (by omega) k (by omega)
theorem same_refl (l : List X) (hlen : l.length ≤ 1759218604440) (k : Nat) (hk : l.length + 1 ≤ k) : tidewayref10_Same.f k l l = some true := by
  rw [tidewayref10_Same.f, if_pos rfl]
  exact same_loop l hlen l.length 0 (by omega) k hk
theorem rpipe_loop (l : List X) (hc : bd_chk l = 0) (d : Nat) : ∀ i : Nat, i + d = l.length → ∀ k, 3 * d + 3 ≤ k → tidewayref10_Pipe.l0 k l (Pipe_fold l (bd_pick bd_out l i)) (i : Int) = some (Pipe_fold l (bd_pick bd_out l l.length)) := by
  have hl2 := ((chk_iff l).1 hc).1
  induction d with
  | zero =>
    intro i hi k hk
    obtain ⟨k, rfl⟩ : ∃ m, k = m + 2 := ⟨k - 2, by omega⟩
    obtain rfl : i = l.length := by omega
    rw [tidewayref10_Pipe.l0, if_neg (by omega), tidewayref10_Pipe.j1, if_neg (by decide)]
  | succ d ih =>
    intro i hi k hk
    obtain ⟨k, rfl⟩ : ∃ m, k = m + 3 := ⟨k - 3, by omega⟩
    have hlt : i < l.length := by omega
    have ih := ih (i + 1) (by omega)
    have hw1 : wrap64 ((i : Int) + 1) = ((i + 1 : Nat) : Int) := by rw [w64 (by omega) (by omega)]; rfl
    rw [bd_pick_succ _ l i hlt] at ih
    rw [tidewayref10_Pipe.l0, if_pos (by omega), tidewayref10_Check.f, hc, Option.bind_some, tidewayref10_Pipe.j1, if_pos (by decide), if_pos (by omega), if_pos (by omega), rd_g, g_get hlt]
    have hj : ∀ b, bd_out l[i] = b → tidewayref10_Pipe.j2 (k + 1) l (Pipe_fold l (bd_pick bd_out l i)) (i : Int) b = some (Pipe_fold l (bd_pick bd_out l l.length)) := by
      intro b hb
      rw [tidewayref10_Pipe.j2, hw1]
      cases b with
      | true =>
        rw [hb, if_pos rfl, Pipe_fold_snoc] at ih
        rw [if_pos rfl, if_pos (by omega), if_pos (by omega), rd_g, g_get hlt]
        have e : ∀ p a b : Int, wrap64 (wrap64 (p + b) - a) = wrap64 (p + wrap64 (b - a)) := by intro p a b; unfold wrap64; omega
        rw [e]
        exact ih k (by omega)
      | false =>
        rw [hb, if_neg (by decide), List.append_nil] at ih
        rw [if_neg (by decide)]
        exact ih k (by omega)
    cases h5 : l[i].f5 with
    | true => rw [if_pos rfl]; exact hj false (by unfold bd_out; rw [h5]; rfl)
    | false =>
      rw [if_neg (by decide)]
      cases h6 : l[i].f6 with
      | true => rw [if_pos rfl]; exact hj _ (by unfold bd_out; rw [h5, h6]; simp)
      | false => rw [if_neg (by decide)]; exact hj true (by unfold bd_out; rw [h5, h6]; simp)
theorem rhigh_loop (l : List X) (hc : bd_chk l = 0) (d : Nat) : ∀ i : Nat, i + d = l.length → ∀ k, 3 * d + 3 ≤ k → tidewayref10_High.l0 k l (High_fold l (bd_pick bd_sacked l i)) (i : Int) = some (High_fold l (bd_pick bd_sacked l l.length)) := by
  have hl2 := ((chk_iff l).1 hc).1
  induction d with
  | zero =>
    intro i hi k hk
    obtain ⟨k, rfl⟩ : ∃ m, k = m + 2 := ⟨k - 2, by omega⟩
    obtain rfl : i = l.length := by omega
    rw [tidewayref10_High.l0, if_neg (by omega), tidewayref10_High.j1, if_neg (by decide)]
  | succ d ih =>
    intro i hi k hk
    obtain ⟨k, rfl⟩ : ∃ m, k = m + 3 := ⟨k - 3, by omega⟩
    have hlt : i < l.length := by omega
    have ih := ih (i + 1) (by omega)
    have hw1 : wrap64 ((i : Int) + 1) = ((i + 1 : Nat) : Int) := by rw [w64 (by omega) (by omega)]; rfl
    rw [bd_pick_succ _ l i hlt] at ih
    rw [tidewayref10_High.l0, if_pos (by omega), tidewayref10_Check.f, hc, Option.bind_some, tidewayref10_High.j1, if_pos (by decide), if_pos (by omega), if_pos (by omega), rd_g, hw1, g_get hlt]
    cases h5 : l[i].f5 with
    | true =>
      have hb : bd_sacked l[i] = true := h5
      rw [hb, if_pos rfl] at ih
      rw [if_pos rfl]
      have e := ih (k + 1) (by omega)
      rw [show High_fold l (bd_pick bd_sacked l i ++ [⟨i, hlt⟩]) = l[i].f1 from by simp [High_fold]] at e
      exact e
    | false =>
      have hb : bd_sacked l[i] = false := h5
      rw [hb, if_neg (by decide), List.append_nil] at ih
      rw [if_neg (by decide)]
      exact ih (k + 1) (by omega)
theorem rsacked_loop (l : List X) (hc : bd_chk l = 0) (d : Nat) : ∀ i : Nat, i + d = l.length → ∀ k, 3 * d + 3 ≤ k → tidewayref10_Sacked.l0 k l (Sacked_fold l (bd_pick bd_sacked l i)) (i : Int) = some (Sacked_fold l (bd_pick bd_sacked l l.length)) := by
  have hl2 := ((chk_iff l).1 hc).1
  induction d with
  | zero =>
    intro i hi k hk
    obtain ⟨k, rfl⟩ : ∃ m, k = m + 2 := ⟨k - 2, by omega⟩
    obtain rfl : i = l.length := by omega
    rw [tidewayref10_Sacked.l0, if_neg (by omega), tidewayref10_Sacked.j1, if_neg (by decide)]
  | succ d ih =>
    intro i hi k hk
    obtain ⟨k, rfl⟩ : ∃ m, k = m + 3 := ⟨k - 3, by omega⟩
    have hlt : i < l.length := by omega
    have ih := ih (i + 1) (by omega)
    have hw1 : wrap64 ((i : Int) + 1) = ((i + 1 : Nat) : Int) := by rw [w64 (by omega) (by omega)]; rfl
    rw [bd_pick_succ _ l i hlt] at ih
    rw [tidewayref10_Sacked.l0, if_pos (by omega), tidewayref10_Check.f, hc, Option.bind_some, tidewayref10_Sacked.j1, if_pos (by decide), if_pos (by omega), if_pos (by omega), rd_g, hw1, g_get hlt]
    cases h5 : l[i].f5 with
    | true =>
      have hb : bd_sacked l[i] = true := h5
      rw [hb, if_pos rfl] at ih
      rw [if_pos rfl]
      have e := ih (k + 1) (by omega)
      rw [show Sacked_fold l (bd_pick bd_sacked l i ++ [⟨i, hlt⟩]) = wrap64 (Sacked_fold l (bd_pick bd_sacked l i) + 1) from by simp [Sacked_fold]] at e
      exact e
    | false =>
      have hb : bd_sacked l[i] = false := h5
      rw [hb, if_neg (by decide), List.append_nil] at ih
      rw [if_neg (by decide)]
      exact ih (k + 1) (by omega)
theorem rpipe_f (l : List X) (k : Nat) (hk : 200000 ≤ k) : tidewayref10_Pipe.f k l = board_Pipe.f l := by
  rw [tidewayref10_Pipe.f, board_Pipe.f]
  unfold Pipe_g bd_all
  by_cases hc : bd_chk l = 0
  · have hl2 := ((chk_iff l).1 hc).1
    rw [if_pos hc]
    exact rpipe_loop l hc l.length 0 (by omega) k (by omega)
  · rw [if_neg hc]
    obtain ⟨k, rfl⟩ : ∃ m, k = m + 2 := ⟨k - 2, by omega⟩
    rw [tidewayref10_Pipe.l0]
    by_cases h0 : (0 : Int) < (l.length : Int)
    · rw [if_pos h0, tidewayref10_Check.f, Option.bind_some, chk_no hc, tidewayref10_Pipe.j1, if_neg (by decide)]; rfl
    · rw [if_neg h0, tidewayref10_Pipe.j1, if_neg (by decide)]; rfl
theorem rhigh_f (l : List X) (k : Nat) (hk : 200000 ≤ k) : tidewayref10_High.f k l = board_High.f l := by
  rw [tidewayref10_High.f, board_High.f]
  unfold High_g bd_all
  by_cases hc : bd_chk l = 0
  · have hl2 := ((chk_iff l).1 hc).1
    rw [if_pos hc]
    exact rhigh_loop l hc l.length 0 (by omega) k (by omega)
  · rw [if_neg hc]
    obtain ⟨k, rfl⟩ : ∃ m, k = m + 2 := ⟨k - 2, by omega⟩
    rw [tidewayref10_High.l0]
    by_cases h0 : (0 : Int) < (l.length : Int)
    · rw [if_pos h0, tidewayref10_Check.f, Option.bind_some, chk_no hc, tidewayref10_High.j1, if_neg (by decide)]; rfl
    · rw [if_neg h0, tidewayref10_High.j1, if_neg (by decide)]; rfl
theorem rsacked_f (l : List X) (k : Nat) (hk : 200000 ≤ k) : tidewayref10_Sacked.f k l = board_Sacked.f l := by
  rw [tidewayref10_Sacked.f, board_Sacked.f]
  unfold Sacked_g bd_all
  by_cases hc : bd_chk l = 0
  · have hl2 := ((chk_iff l).1 hc).1
    rw [if_pos hc]
    exact rsacked_loop l hc l.length 0 (by omega) k (by omega)
  · rw [if_neg hc]
    obtain ⟨k, rfl⟩ : ∃ m, k = m + 2 := ⟨k - 2, by omega⟩
    rw [tidewayref10_Sacked.l0]
    by_cases h0 : (0 : Int) < (l.length : Int)
    · rw [if_pos h0, tidewayref10_Check.f, Option.bind_some, chk_no hc, tidewayref10_Sacked.j1, if_neg (by decide)]; rfl
    · rw [if_neg h0, tidewayref10_Sacked.j1, if_neg (by decide)]; rfl
theorem rlost_loop (l : List X) (hc : bd_chk l = 0) (d : Nat) : ∀ i : Nat, i + d = l.length → bd_pick bd_lost l i = [] → ∀ k, 3 * d + 3 ≤ k → tidewayref10_Lost.l0 k l (i : Int) = some (match bd_pick bd_lost l l.length with | [] => -1 | j :: _ => (j.val : Int)) := by
  have hl2 := ((chk_iff l).1 hc).1
  induction d with
  | zero =>
    intro i hi hp k hk
    obtain ⟨k, rfl⟩ : ∃ m, k = m + 2 := ⟨k - 2, by omega⟩
    obtain rfl : i = l.length := by omega
    rw [tidewayref10_Lost.l0, if_neg (by omega), tidewayref10_Lost.j1, if_neg (by decide), hp]
  | succ d ih =>
    intro i hi hp k hk
    obtain ⟨k, rfl⟩ : ∃ m, k = m + 3 := ⟨k - 3, by omega⟩
    have hlt : i < l.length := by omega
    have ih := ih (i + 1) (by omega)
    have hw1 : wrap64 ((i : Int) + 1) = ((i + 1 : Nat) : Int) := by rw [w64 (by omega) (by omega)]; rfl
    have hs := bd_pick_succ bd_lost l i hlt
    rw [hp, List.nil_append] at hs
    rw [tidewayref10_Lost.l0, if_pos (by omega), tidewayref10_Check.f, hc, Option.bind_some, tidewayref10_Lost.j1, if_pos (by decide), if_pos (by omega), if_pos (by omega), rd_g, hw1, g_get hlt]
    by_cases hb : bd_lost l[i] = true
    · have h67 := hb
      unfold bd_lost at h67
      simp only [Bool.and_eq_true, Bool.not_eq_true'] at h67
      rw [if_pos h67.1, if_neg (by rw [h67.2]; decide)]
      rw [if_pos hb] at hs
      obtain ⟨t, ht⟩ := bd_pick_prefix bd_lost l (i + 1)
      rw [hs] at ht
      rw [← ht]
      rfl
    · rw [if_neg hb] at hs
      have hn := ih hs
      unfold bd_lost at hb
      cases h6 : l[i].f6 with
      | false => rw [if_neg (by decide)]; exact hn (k + 1) (by omega)
      | true =>
        cases h7 : l[i].f7 with
        | false => rw [h6, h7] at hb; exact absurd rfl hb
        | true => rw [if_pos rfl, if_pos rfl]; exact hn (k + 1) (by omega)
theorem rlost_f (l : List X) (k : Nat) (hk : 200000 ≤ k) : tidewayref10_Lost.f k l = board_Lost.f l := by
  rw [tidewayref10_Lost.f, board_Lost.f]
  unfold Lost_g bd_all
  by_cases hc : bd_chk l = 0
  · have hl2 := ((chk_iff l).1 hc).1
    rw [if_pos hc]
    exact rlost_loop l hc l.length 0 (by omega) rfl k (by omega)
  · rw [if_neg hc]
    obtain ⟨k, rfl⟩ : ∃ m, k = m + 2 := ⟨k - 2, by omega⟩
    rw [tidewayref10_Lost.l0]
    by_cases h0 : (0 : Int) < (l.length : Int)
    · rw [if_pos h0, tidewayref10_Check.f, Option.bind_some, chk_no hc, tidewayref10_Lost.j1, if_neg (by decide)]
    · rw [if_neg h0, tidewayref10_Lost.j1, if_neg (by decide)]
theorem rack_loop (una : Int) (l : List X) (hl : l.length ≤ 65536) (d : Nat) : ∀ i : Nat, i + d = l.length → ∀ k, d + 1 ≤ k → ∀ lf gn : List X, lf.length + d ≤ 65536 → gn.length + d ≤ 65536 →
    tidewayref10_Ack.l0 k l una lf gn (i : Int) = some (lf ++ ((l.drop i).filter (nd una)).map (fst_ una), gn ++ (l.drop i).filter (dn una), 0) := by
  induction d with
  | zero =>
    intro i hi k hk lf gn h1 h2
    obtain ⟨k, rfl⟩ : ∃ m, k = m + 1 := ⟨k - 1, by omega⟩
    rw [tidewayref10_Ack.l0, if_neg (by omega), List.drop_eq_nil_of_le (by omega)]; simp
  | succ d ih =>
    intro i hi k hk lf gn h1 h2
    obtain ⟨k, rfl⟩ : ∃ m, k = m + 1 := ⟨k - 1, by omega⟩
    have hlt : i < l.length := by omega
    have hw1 : wrap64 ((i : Int) + 1) = ((i + 1 : Nat) : Int) := by rw [w64 (by omega) (by omega)]; rfl
    rw [tidewayref10_Ack.l0, if_pos (by omega), if_pos (by omega), rd_g, hw1, g_get hlt, List.drop_eq_getElem_cons hlt]
    generalize l[i] = x
    by_cases hx : x.f1 ≤ una
    · have e1 : dn una x = true := decide_eq_true hx
      have e2 : nd una x = false := by unfold nd; rw [decide_eq_true hx]; rfl
      rw [if_pos hx, if_pos (by omega), ih (i + 1) (by omega) k (by omega) _ _ (by omega) (by rw [List.length_append, List.length_singleton]; omega)]
      rw [List.filter_cons, List.filter_cons, e1, e2]
      simp
    · have e1 : dn una x = false := decide_eq_false hx
      have e2 : nd una x = true := by unfold nd; rw [decide_eq_false hx]; rfl
      rw [if_neg hx, if_pos (by omega), ih (i + 1) (by omega) k (by omega) _ _ (by rw [List.length_append, List.length_singleton]; omega) (by omega)]
      rw [List.filter_cons, List.filter_cons, e1, e2]
      simp [fst_]
theorem lft_map (una : Int) {l : List X} (hc : bd_chk l = 0) : (l.filter (nd una)).map (fst_ una) = lft una l := by
  obtain ⟨c, hcl, _, hn⟩ := cut hc una
  unfold lft
  cases hf : l.filter (nd una) with
  | nil => rfl
  | cons y t =>
    show fst_ una y :: t.map (fst_ una) = fst_ una y :: t
    congr 1
    have hall : ∀ z ∈ t, fst_ una z = z := by
      intro z hz
      obtain ⟨j, hj, rfl⟩ := List.mem_iff_getElem.1 hz
      have hd : l.drop c = y :: t := by rw [← hn, hf]
      have hlen : l.length - c = t.length + 1 := by have := congrArg List.length hd; simpa using this
      have hi : c + 1 + j < l.length := by omega
      have hgz : g l (c + 1 + j) = t[j] := by
        rw [g_get hi]
        have h1 : (l.drop c)[j + 1]? = some t[j] := by rw [hd, List.getElem?_cons_succ, List.getElem?_eq_getElem hj]
        rw [List.getElem?_drop, List.getElem?_eq_getElem (by omega)] at h1
        have h2 := Option.some.inj h1
        have e : c + (j + 1) = c + 1 + j := by omega
        simp only [e] at h2
        exact h2
      have hok := ((ok_iff l _).1 (((chk_iff l).1 hc).2 (c + 1 + j) hi)).2
      have hprev : (g l (c + j)).f1 = (g l (c + 1 + j)).f0 := by
        rcases hok with h | h
        · omega
        · rw [show c + 1 + j - 1 = c + j by omega] at h; exact h.1
      have hmem : g l (c + j) ∈ l.filter (nd una) := by
        rw [hn, g_get (by omega)]
        have : l[c + j] = (l.drop c)[j]'(by rw [List.length_drop]; omega) := by rw [List.getElem_drop]
        rw [this]
        exact List.getElem_mem _
      have hgt := (List.mem_filter.1 hmem).2
      unfold nd at hgt
      simp only [Bool.not_eq_true', decide_eq_false_iff_not] at hgt
      rw [hgz] at hprev
      unfold fst_
      have hm : mx t[j].f0 una = t[j].f0 := by unfold mx; split <;> omega
      rw [hm]
    exact (List.map_congr_left hall).trans (List.map_id' t)
theorem rack_f (una : Int) (l : List X) (hl : l.length ≤ 1759218604440) (k : Nat) (hk : 131076 ≤ k) : tidewayref10_Ack.f k l una = board_Ack.f k l una := by
  rw [ack_f una l k hk, tidewayref10_Ack.f, tidewayref10_Check.f, Option.bind_some]
  by_cases h : bd_chk l = 0
  · rw [if_pos h, if_pos h]
    have h2 := ((chk_iff l).1 h).1
    obtain ⟨k, rfl⟩ : ∃ m, k = m + 1 := ⟨k - 1, by omega⟩
    have hj : ∀ b, tidewayref10_Ack.j0 (k + 1) l una b = some (if b = true then ([], [], 2) else (lft una l, l.filter (dn una), 0)) := fun b => by
      rw [tidewayref10_Ack.j0]
      cases b with
      | true => rw [if_pos rfl, if_pos rfl]
      | false =>
        rw [if_neg (by decide), if_neg (by decide)]
        have := rack_loop una l h2 l.length 0 (by omega) k (by omega) [] [] (by simpa using h2) (by simpa using h2)
        rw [List.drop_zero, List.nil_append, List.nil_append, lft_map una h] at this
        exact this
    by_cases h0 : (l.length : Int) > 0
    · have hw : wrap64 ((l.length : Int) - 1) = ((l.length - 1 : Nat) : Int) := by rw [w64 (by omega) (by omega)]; omega
      rw [if_pos h0, hw, if_pos (by omega), if_pos (by omega), rd_g, hj]
      unfold past
      rw [decide_eq_true (show 0 < l.length by omega), Bool.true_and]
    · rw [if_neg h0, hj]
      unfold past
      rw [decide_eq_false (show ¬ 0 < l.length by omega), Bool.false_and]
  · rw [if_neg h, if_neg h]
theorem st (a b : List X) (x y : X) : (a ++ x :: b).set a.length y = a ++ y :: b := by simp
theorem gt (a b : List X) (x : X) : g (a ++ x :: b) a.length = x := by simp [g]
theorem rs_next (l : List X) (s : List Sp) (m fr' : List X) (i j : Nat) (hi : i < m.length) (hm : m.length ≤ 65536) (hf : (g m i).f5 = true ∨ s.length ≤ j) (K : Nat) (r : Option (List X × List X × Int))
    (h : ∀ k, K ≤ k → tidewayref10_Sack.l0 k l s m fr' ((i + 1 : Nat) : Int) = r) : ∀ k, K + 2 ≤ k → tidewayref10_Sack.l1 k l s m fr' (i : Int) (j : Int) = r := by
  intro k hk
  obtain ⟨k, rfl⟩ : ∃ n, k = n + 2 := ⟨k - 2, by omega⟩
  have hw1 : wrap64 ((i : Int) + 1) = ((i + 1 : Nat) : Int) := by rw [w64 (by omega) (by omega)]; rfl
  have hj : tidewayref10_Sack.j2 (k + 1) l s m fr' (i : Int) (j : Int) false = r := by rw [tidewayref10_Sack.j2, if_neg (by decide), hw1]; exact h k (by omega)
  rw [tidewayref10_Sack.l1]
  by_cases hjl : (j : Int) < (s.length : Int)
  · have h5 : (g m i).f5 = true := by rcases hf with hf | hf; · exact hf
                                      · omega
    rw [if_pos hjl, if_pos (by omega), if_pos (by omega), rd_g, h5]
    exact hj
  · rw [if_neg hjl]; exact hj
theorem rd_sp (s : List Sp) (pre : List Sp) (p : Sp) (t : List Sp) (h : s = pre ++ p :: t) : rd_T56 s (pre.length : Int) = p := by
  subst h; rw [rd_T56, Int.toNat_natCast]; simp
theorem rs_inner (s : List Sp) (a b la lb : List X) (x : X) (hla : la.length = a.length) (hx : x.f5 = false) (hm : (a ++ x :: b).length ≤ 65536) (hs : s.length ≤ 9223372036854775807) (fr' : List X) (hfr : fr'.length ≤ 65536) (K : Nat) (r : Option (List X × List X × Int)) (t : List Sp) :
    ∀ pre : List Sp, s = pre ++ t →
    (∀ k, K ≤ k → tidewayref10_Sack.l0 k (la ++ x :: lb) s (a ++ (if t.any (bs_in x.f0 x.f1) = true then (⟨x.f0, x.f1, x.f2, x.f3, x.f4, true, false, false, x.f8, x.f9, x.f10, x.f11⟩ : X) else x) :: b) (if t.any (bs_in x.f0 x.f1) = true then fr' ++ [x] else fr') ((a.length + 1 : Nat) : Int) = r) →
    ∀ k, K + 2 * t.length + 2 ≤ k → tidewayref10_Sack.l1 k (la ++ x :: lb) s (a ++ x :: b) fr' (a.length : Int) (pre.length : Int) = r := by
  have hal : (a ++ x :: b).length = a.length + (b.length + 1) := by simp
  have hll : (la ++ x :: lb).length = a.length + (lb.length + 1) := by simp [hla]
  induction t with
  | nil =>
    intro pre hp h k hk
    have h' : ∀ k, K ≤ k → tidewayref10_Sack.l0 k (la ++ x :: lb) s (a ++ x :: b) fr' ((a.length + 1 : Nat) : Int) = r := h
    exact rs_next _ _ _ _ _ _ (by omega) hm (.inr (by rw [hp]; simp)) K r h' k (by simpa using hk)
  | cons p t ih =>
    intro pre hp h k hk
    rw [List.length_cons] at hk
    obtain ⟨k, rfl⟩ : ∃ n, k = n + 2 := ⟨k - 2, by omega⟩
    have hpl : pre.length < s.length := by rw [hp]; simp
    have hw1 : wrap64 ((pre.length : Int) + 1) = (((pre ++ [p]).length : Nat) : Int) := by rw [w64 (by omega) (by omega)]; simp
    have hsp := rd_sp s pre p t hp
    have hp2 : s = (pre ++ [p]) ++ t := by rw [hp]; simp
    rw [List.any_cons] at h
    rw [tidewayref10_Sack.l1, if_pos (by omega), if_pos (by omega), if_pos (by omega), rd_g, gt, hx, tidewayref10_Sack.j2, if_pos (by decide), if_pos (by omega), if_pos (by omega), if_pos (by omega), if_pos (by omega), hsp, rd_g, gt, hw1]
    have hin : bs_in x.f0 x.f1 p = (decide (p.f0 ≤ x.f0) && decide (x.f1 ≤ p.f1)) := rfl
    by_cases h1 : p.f0 ≤ x.f0
    · by_cases h2 : x.f1 ≤ p.f1
      · have hb : bs_in x.f0 x.f1 p = true := by rw [hin, decide_eq_true h1, decide_eq_true h2]; rfl
        rw [hb, Bool.true_or, if_pos rfl, if_pos rfl] at h
        rw [if_pos h1, if_pos h2, if_pos (by omega), if_pos (by omega)]
        have hg2 : g (la ++ x :: lb) a.length = x := by rw [← hla]; exact gt la lb x
        simp only [rd_g, gt, st, hg2, Int.toNat_natCast, Option.bind_some]
        exact rs_next _ _ (a ++ (⟨x.f0, x.f1, x.f2, x.f3, x.f4, true, false, false, x.f8, x.f9, x.f10, x.f11⟩ : X) :: b) _ a.length (pre ++ [p]).length (by simp) (by simpa using hm) (.inl (by rw [gt])) K r h k (by omega)
      · have hb : bs_in x.f0 x.f1 p = false := by rw [hin, decide_eq_false h2, Bool.and_false]
        rw [hb, Bool.false_or] at h
        rw [if_pos h1, if_neg h2]
        exact ih (pre ++ [p]) hp2 h k (by omega)
    · have hb : bs_in x.f0 x.f1 p = false := by rw [hin, decide_eq_false h1, Bool.false_and]
      rw [hb, Bool.false_or] at h
      rw [if_neg h1]
      exact ih (pre ++ [p]) hp2 h k (by omega)
theorem rs_outer (s : List Sp) (hs : s.length ≤ 9223372036854775807) (b : List X) : ∀ (a la fr' : List X), la.length = a.length → (a ++ b).length ≤ 65536 → fr'.length ≤ a.length →
    ∀ k, b.length * (2 * s.length + 5) + 2 ≤ k → tidewayref10_Sack.l0 k (la ++ b) s (a ++ b) fr' (a.length : Int) = some (a ++ b.map (sk s), fr' ++ b.filter (fr s), 0) := by
  induction b with
  | nil =>
    intro a la fr' h1 h2 h3 k hk
    obtain ⟨k, rfl⟩ : ∃ m, k = m + 1 := ⟨k - 1, by omega⟩
    rw [tidewayref10_Sack.l0, if_neg (by simp)]; simp
  | cons x b ih =>
    intro a la fr' h1 h2 h3 k hk
    have hal : (a ++ x :: b).length = a.length + (b.length + 1) := by simp
    have hk2 : (b.length + 1) * (2 * s.length + 5) = b.length * (2 * s.length + 5) + (2 * s.length + 5) := by rw [Nat.add_mul, Nat.one_mul]
    rw [List.length_cons, hk2] at hk
    obtain ⟨k, rfl⟩ : ∃ m, k = m + 1 := ⟨k - 1, by omega⟩
    have ih2 : ∀ y : X, ∀ fr2 : List X, fr2.length ≤ a.length + 1 → ∀ k, b.length * (2 * s.length + 5) + 2 ≤ k → tidewayref10_Sack.l0 k (la ++ x :: b) s (a ++ y :: b) fr2 ((a.length + 1 : Nat) : Int) = some (a ++ y :: b.map (sk s), fr2 ++ b.filter (fr s), 0) := by
      intro y fr2 hf k hk
      have := ih (a ++ [y]) (la ++ [x]) fr2 (by simp [h1]) (by simpa using h2) (by simpa using hf) k hk
      simpa using this
    rw [tidewayref10_Sack.l0, if_pos (by omega)]
    cases hx : x.f5 with
    | true =>
      have e1 : sk s x = x := by unfold sk fr; rw [hx]; rfl
      have e2 : fr s x = false := by unfold fr; rw [hx]; rfl
      have := rs_next (la ++ x :: b) s (a ++ x :: b) fr' a.length 0 (by omega) h2 (.inl (by rw [gt, hx])) _ _ (ih2 x fr' (by omega)) k (by omega)
      rw [show ((0 : Nat) : Int) = 0 from rfl] at this
      rw [this, List.map_cons, e1, List.filter_cons, e2]
      rfl
    | false =>
      have hin := rs_inner s a b la b x h1 hx h2 hs fr' (by omega) (b.length * (2 * s.length + 5) + 2) (some (a ++ (x :: b).map (sk s), fr' ++ (x :: b).filter (fr s), 0)) s [] rfl
      refine hin (fun k hk => ?_) k (by omega)
      by_cases ha : s.any (bs_in x.f0 x.f1) = true
      · have e2 : fr s x = true := by unfold fr; rw [hx, ha]; rfl
        rw [if_pos ha, if_pos ha, ih2 _ _ (by simp; omega) k hk, List.map_cons, List.filter_cons, e2]
        unfold sk
        rw [e2]
        simp
      · have ha' := Bool.eq_false_iff.mpr ha
        have e2 : fr s x = false := by unfold fr; rw [hx, ha']; rfl
        rw [if_neg ha, if_neg ha, ih2 _ _ (by omega) k hk, List.map_cons, List.filter_cons, e2]
        unfold sk
        rw [e2]
        simp
theorem rsack_f (s : List Sp) (l : List X) (hl : l.length ≤ 1759218604440) (hs : s.length ≤ 9223372036854775807) (k : Nat) (hk : 131075 ≤ k) (hk2 : 65536 * (2 * s.length + 5) + 2 ≤ k) : tidewayref10_Sack.f k l s = board_Sack.f k l s := by
  rw [sack_f s l k hk hl, tidewayref10_Sack.f, tidewayref10_Check.f, Option.bind_some]
  by_cases h : bd_chk l = 0
  · have h2 := ((chk_iff l).1 h).1
    rw [if_pos h, if_pos h, tidewayref10_Copy.f, Option.bind_some, if_pos (by rw [List.length_nil]; omega), List.nil_append, Option.bind_some]
    have hmul : l.length * (2 * s.length + 5) ≤ 65536 * (2 * s.length + 5) := Nat.mul_le_mul_right _ h2
    exact rs_outer s hs l [] [] [] rfl (by simpa using h2) (by simp) k (by omega)
  · rw [if_neg h, if_neg h]
theorem ack_len (una : Int) (l : List X) (k : Nat) (hk : 131076 ≤ k) : ∃ a b e, board_Ack.f k l una = some (a, b, e) ∧ a.length ≤ l.length ∧ b.length ≤ l.length := by
  rw [ack_f una l k hk]
  by_cases h : bd_chk l = 0
  · rw [if_pos h]
    by_cases hp : past una l = true
    · rw [if_pos hp]; exact ⟨_, _, _, rfl, by simp, by simp⟩
    · rw [if_neg hp]
      refine ⟨_, _, _, rfl, ?_, List.length_filter_le _ _⟩
      rw [← lft_map una h, List.length_map]; exact List.length_filter_le _ _
  · rw [if_neg h]; exact ⟨_, _, _, rfl, by simp, by simp⟩
theorem sack_len (s : List Sp) (l : List X) (k : Nat) (hk : 131075 ≤ k) (hl : l.length ≤ 1759218604440) : ∃ a b e, board_Sack.f k l s = some (a, b, e) ∧ a.length ≤ l.length ∧ b.length ≤ l.length := by
  rw [sack_f s l k hk hl]
  by_cases h : bd_chk l = 0
  · rw [if_pos h]; exact ⟨_, _, _, rfl, by simp, List.length_filter_le _ _⟩
  · rw [if_neg h]; exact ⟨_, _, _, rfl, by simp, by simp⟩
def WfS (s : List Sp) : Prop := (∀ x ∈ s, ((Lit.int .i64 x.f0).wf = true) ∧ ((Lit.int .i64 x.f1).wf = true)) ∧ s.length * 16 ≤ 140737488351232 ∧ s.length ≤ 9223372036854775807
theorem BoardAcks (l : List X) (una : Int) (s : List Sp) (w0 : WfL l) (w1 : (Lit.int .i64 una).wf = true) (w2 : WfS s) : ∃ k, tidewaylaw10_BoardAcks.f k l una s = some true := by
  have hlen : l.length ≤ 1759218604400 := by have := w0.2.1; omega
  obtain ⟨K, hK⟩ : ∃ K, K = l.length + 300000 + 65536 * (2 * s.length + 5) := ⟨_, rfl⟩
  refine ⟨K + 1, ?_⟩
  obtain ⟨a, b, e, h1, ha, hb⟩ := ack_len una l (K + 1) (by omega)
  obtain ⟨c, d, f, h2, hc, hd⟩ := sack_len s l (K + 1) (by omega) (by omega)
  have hcp : tidewayref10_Copy.f l = some l := by rw [tidewayref10_Copy.f, Option.bind_some, if_pos (by rw [List.length_nil]; omega), List.nil_append]
  rw [tidewaylaw10_BoardAcks.f, hcp, Option.bind_some, h1, Option.bind_some, rack_f una l (by omega) _ (by omega), h1, Option.bind_some, h2, Option.bind_some, rsack_f s l (by omega) w2.2.2 _ (by omega) (by omega), h2, Option.bind_some]
  show ((tidewayref10_Same.f (K + 1) a a).bind fun _ => _) = _
  rw [same_refl _ (by omega) _ (by omega), Option.bind_some, if_pos rfl]
  show ((tidewayref10_Same.f (K + 1) b b).bind fun _ => _) = _
  rw [same_refl _ (by omega) _ (by omega), Option.bind_some, if_pos rfl, if_pos rfl]
  show ((tidewayref10_Same.f (K + 1) c c).bind fun _ => _) = _
  rw [same_refl _ (by omega) _ (by omega), Option.bind_some, if_pos rfl]
  show ((tidewayref10_Same.f (K + 1) d d).bind fun _ => _) = _
  rw [same_refl _ (by omega) _ (by omega), Option.bind_some, if_pos rfl, if_pos rfl, same_refl _ (by omega) _ (by omega), Option.bind_some]
  rw [tidewaylaw10_BoardAcks.j0, if_neg (by decide), rpipe_f l K (by omega), rlost_f l K (by omega), rhigh_f l K (by omega), rsacked_f l K (by omega)]
  unfold board_Pipe.f board_Lost.f board_High.f board_Sacked.f
  rw [Option.bind_some, Option.bind_some, if_pos rfl, Option.bind_some, Option.bind_some, if_pos rfl, Option.bind_some, Option.bind_some, if_pos rfl, Option.bind_some, Option.bind_some, if_pos rfl, heads_up _ (by omega), Option.bind_some]
end Go.Proofs.Ytgpbighdegdlfaa.Pure

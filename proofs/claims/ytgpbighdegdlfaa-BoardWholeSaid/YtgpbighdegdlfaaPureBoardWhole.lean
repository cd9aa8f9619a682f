/- What goes and what is left makes the whole, side by side. -/
import Derived.Test.YtgpbighdegdlfaaBoardAckF
import Derived.Test.YtgpbighdegdlfaaPAx19
set_option linter.unusedVariables false
set_option linter.unusedSimpArgs false
set_option autoImplicit false
namespace Go.Proofs.Ytgpbighdegdlfaa.Pure
open Go.RowKit Go.Proofs.Ytgpbighdegdlfaa.PA Go.Proofs.YtgpbighdegdlfaaW.PrintWords Go.Proofs.YtgpbighdegdlfaaW.PrintMore Go.Proofs.Ytgpbighdegdlfaa.BoardFacts
theorem g_take (l : List X) {c i : Nat} (h : i < c) (hc : c ≤ l.length) : g (l.take c) i = g l i := by
  rw [g_get (by rw [List.length_take]; omega), g_get (by omega), List.getElem_take]
theorem g_drop (l : List X) {c i : Nat} (h : c + i < l.length) : g (l.drop c) i = g l (c + i) := by
  rw [g_get (by rw [List.length_drop]; omega), g_get h, List.getElem_drop]
theorem lft_g (una : Int) (l : List X) (c : Nat) (h : l.filter (nd una) = l.drop c) : (lft una l).length = l.length - c ∧ ∀ i, c + i < l.length → g (lft una l) i = if i = 0 then fst_ una (g l c) else g l (c + i) := by
  unfold lft
  have hd : ∀ i, c + i < l.length → g (l.drop c) i = g l (c + i) := fun i hi => g_drop l hi
  have hn : (l.drop c).length = l.length - c := List.length_drop
  rw [h]
  generalize l.drop c = m at hd hn
  cases m with
  | nil => exact ⟨hn, fun i hi => by have : ([] : List X).length = 0 := rfl; omega⟩
  | cons y t =>
    refine ⟨hn, fun i hi => ?_⟩
    cases i with
    | zero => rw [if_pos rfl, ← show g (y :: t) 0 = g l c from hd 0 hi]; rfl
    | succ i => rw [if_neg (by omega), ← hd (i + 1) hi]; rfl
theorem nd_of {una : Int} {l : List X} {c : Nat} (h : l.filter (nd una) = l.drop c) {i : Nat} (hi : c + i < l.length) : una < (g l (c + i)).f1 := by
  have hm : g l (c + i) ∈ l.filter (nd una) := by
    rw [h, g_get hi, ← List.getElem_drop (h := by rw [List.length_drop]; omega)]
    exact List.getElem_mem _
  have := (List.mem_filter.1 hm).2
  unfold nd at this
  simp only [Bool.not_eq_true', decide_eq_false_iff_not] at this
  omega
theorem dn_of {una : Int} {l : List X} {c : Nat} (hc : c ≤ l.length) (h : l.filter (dn una) = l.take c) {i : Nat} (hi : i < c) : (g l i).f1 ≤ una := by
  have hm : g l i ∈ l.filter (dn una) := by
    rw [h, ← g_take l hi hc, g_get (by rw [List.length_take]; omega)]
    exact List.getElem_mem _
  exact of_decide_eq_true (List.mem_filter.1 hm).2
theorem mx_ (a b : Int) : mx a b = if a < b then b else a := rfl
theorem chk_take {l : List X} (hc : bd_chk l = 0) {c : Nat} (h : c ≤ l.length) : bd_chk (l.take c) = 0 := by
  obtain ⟨h1, h2⟩ := (chk_iff l).1 hc
  refine (chk_iff _).2 ⟨by rw [List.length_take]; omega, fun i hi => ?_⟩
  rw [List.length_take] at hi
  have hi : i < c := by omega
  rw [ok_iff, g_take l hi h, g_take l (show i - 1 < c by omega) h]
  exact (ok_iff l i).1 (h2 i (by omega))
theorem may_fst {x : X} {una : Int} (h : bd_may x = true) (hu : una < x.f1) : bd_may (fst_ una x) = true := by
  obtain ⟨h1, h2, h3, h4, h5, h6, h7, h8, h9, h10⟩ := (may_iff x).1 h
  refine (may_iff _).2 ⟨?_, ?_, h3, h4, h5, h6, h7, h8, h9, h10⟩
  · show 0 ≤ mx x.f0 una; rw [mx_]; split <;> omega
  · show mx x.f0 una < x.f1; rw [mx_]; split <;> omega
theorem prev_f1 {l : List X} (hc : bd_chk l = 0) {i : Nat} (h0 : i ≠ 0) (hi : i < l.length) : (g l (i - 1)).f1 = (g l i).f0 ∧ (g l (i - 1)).f2 = false := by
  rcases ((ok_iff l i).1 (((chk_iff l).1 hc).2 i hi)).2 with h | h
  · exact absurd h h0
  · exact h
theorem chk_lft {l : List X} (hc : bd_chk l = 0) {una : Int} {c : Nat} (h : l.filter (nd una) = l.drop c) : bd_chk (lft una l) = 0 := by
  obtain ⟨hn, hg⟩ := lft_g una l c h
  have h1 := ((chk_iff l).1 hc).1
  refine (chk_iff _).2 ⟨by omega, fun i hi => ?_⟩
  have hi : c + i < l.length := by omega
  refine (ok_iff _ _).2 ⟨?_, ?_⟩
  · rw [hg i hi]
    by_cases e : i = 0
    · rw [if_pos e]; subst e; exact may_fst (may_of hc hi) (nd_of h hi)
    · rw [if_neg e]; exact may_of hc hi
  · by_cases e : i = 0
    · exact .inl e
    · right
      rw [hg i hi, if_neg e, hg (i - 1) (by omega)]
      have hp := prev_f1 hc (show c + i ≠ 0 by omega) hi
      rw [show c + i - 1 = c + (i - 1) by omega] at hp
      by_cases e2 : i - 1 = 0
      · rw [if_pos e2]; rw [e2] at hp; exact hp
      · rw [if_neg e2]; exact hp
theorem gone_loop (l left gone : List X) (una : Int) (c : Nat) (hlen : l.length ≤ 65536) (hgl : gone.length = c) (hcl : c ≤ l.length) (hg : ∀ i, i < c → g gone i = g l i) (hd : ∀ i, i < c → (g l i).f1 ≤ una)
    (K : Nat) (hend : ∀ k, K ≤ k → tidewaylaw10_BoardWhole.l1 (k + 1) l una left gone 0 = some true) (d : Nat) :
    ∀ i : Nat, i + d = c → ∀ k, d + K ≤ k → tidewaylaw10_BoardWhole.l0 (k + 2) l una left gone (i : Int) = some true := by
  induction d with
  | zero =>
    intro i hi k hk
    rw [tidewaylaw10_BoardWhole.l0, if_neg (by omega)]
    exact hend k (by omega)
  | succ d ih =>
    intro i hi k hk
    obtain ⟨k, rfl⟩ : ∃ m, k = m + 1 := ⟨k - 1, by omega⟩
    have ih := ih (i + 1) (by omega) k (by omega)
    have hw1 : wrap64 ((i : Int) + 1) = ((i + 1 : Nat) : Int) := by rw [w64 (by omega) (by omega)]; rfl
    rw [tidewaylaw10_BoardWhole.l0, if_pos (by omega), if_pos (by omega), if_pos (by omega), rd_g, rd_g, hg i (by omega)]
    simp only [beq_self_eq_true, Bool.not_true, Bool.or_false, Bool.false_eq_true, if_false]
    have := hd i (by omega)
    rw [if_neg (by omega), hw1]
    exact ih
theorem left_loop (l left gone : List X) (una : Int) (c : Nat) (hlen : l.length ≤ 65536) (hgl : gone.length = c) (hcl : c ≤ l.length) (hll : left.length = l.length - c) (h1 : ∀ i, c + i < l.length → (g left i).f1 = (g l (c + i)).f1 ∧ (g left i).f0 = mx (g l (c + i)).f0 una ∧ una < (g l (c + i)).f1)
    (K : Nat) (hend : ∀ k, K ≤ k → tidewaylaw10_heads.f k = some true) (d : Nat) :
    ∀ i : Nat, i + d = left.length → ∀ k, 2 * d + K ≤ k → tidewaylaw10_BoardWhole.l1 (k + 1) l una left gone (i : Int) = some true := by
  induction d with
  | zero =>
    intro i hi k hk
    rw [tidewaylaw10_BoardWhole.l1, if_neg (by omega), hend k (by omega)]
    rfl
  | succ d ih =>
    intro i hi k hk
    obtain ⟨k, rfl⟩ : ∃ m, k = m + 2 := ⟨k - 2, by omega⟩
    have ih := ih (i + 1) (by omega) k (by omega)
    have hi1 : c + i < l.length := by omega
    have hi2 : (i : Int) < (left.length : Int) := by omega
    have hi3 : (0 : Int) ≤ ((c + i : Nat) : Int) := by omega
    have hi4 : ((c + i : Nat) : Int) < (l.length : Int) := by omega
    have hi5 : (0 : Int) ≤ (i : Int) := by omega
    obtain ⟨e1, e2, e3⟩ := h1 i hi1
    have hi6 : ¬ (g left i).f1 ≤ una := by omega
    have hi7 : (gone.length : Int) + (i : Int) = ((c + i : Nat) : Int) := by omega
    have hi8 : (i : Int) + 1 = ((i + 1 : Nat) : Int) := by omega
    have hb1 : ((c + i : Nat) : Int) ≤ 9223372036854775807 := by omega
    have hb2 : ((i + 1 : Nat) : Int) ≤ 9223372036854775807 := by omega
    have hb3 : -9223372036854775808 ≤ ((c + i : Nat) : Int) := by omega
    have hb4 : -9223372036854775808 ≤ ((i + 1 : Nat) : Int) := by omega
    have hw1 : wrap64 ((i : Int) + 1) = ((i + 1 : Nat) : Int) := by rw [hi8]; exact w64 hb4 hb2
    have hw2 : wrap64 ((gone.length : Int) + (i : Int)) = ((c + i : Nat) : Int) := by rw [hi7]; exact w64 hb3 hb1
    rw [tidewaylaw10_BoardWhole.l1, if_pos hi2, hw2, if_pos hi3, if_pos hi4, if_pos hi5, rd_g, rd_g, if_pos e1, if_pos e2, decide_eq_false hi6, tidewaylaw10_BoardWhole.j4, if_neg (by decide), hw1]
    exact ih
theorem BoardWhole (l : List X) (una : Int) (w0 : WfL l) (w1 : (Lit.int .i64 una).wf = true) : ∃ k, tidewaylaw10_BoardWhole.f k l una = some true := by
  refine ⟨400000, ?_⟩
  have hbad : tidewaylaw10_BoardWhole.j0 400000 l una [] [] true = some true := by
    rw [show (400000 : Nat) = 399999 + 1 from rfl, tidewaylaw10_BoardWhole.j0, if_pos rfl, if_pos (show wrap64 ((([] : List X).length : Int) + (([] : List X).length : Int)) = 0 from w64 (by decide) (by decide)), heads_up _ (by omega)]
    rfl
  rw [tidewaylaw10_BoardWhole.f, ack_f una l _ (by omega), bd_chk_f l _ (by omega)]
  simp only [Option.bind_some]
  by_cases hc : bd_chk l = 0
  · rw [if_pos hc, if_pos hc]
    by_cases hp : past una l = true
    · rw [if_pos hp]; exact hbad
    · rw [if_neg hp]
      obtain ⟨c, hcl, h1, h2⟩ := cut hc una
      have hl2 := ((chk_iff l).1 hc).1
      obtain ⟨hn, hg⟩ := lft_g una l c h2
      have hcg := chk_take hc hcl
      have hcf := chk_lft hc h2
      have hgg : ∀ i, i < c → g (l.take c) i = g l i := fun i hi => g_take l hi hcl
      have hgn : (l.take c).length = c := by rw [List.length_take]; omega
      have hdd : ∀ i, i < c → (g l i).f1 ≤ una := fun i hi => dn_of hcl h1 hi
      have hll : ∀ i, c + i < l.length → (g (lft una l) i).f1 = (g l (c + i)).f1 ∧ (g (lft una l) i).f0 = mx (g l (c + i)).f0 una ∧ una < (g l (c + i)).f1 := fun i hi => by
        refine ⟨?_, ?_, nd_of h2 hi⟩
        · rw [hg i hi]; split
          · rename_i e; subst e; rfl
          · rfl
        · rw [hg i hi]; split
          · rename_i e; subst e; rfl
          · rename_i e
            have q := (prev_f1 hc (show c + i ≠ 0 by omega) hi).1
            have q2 := nd_of h2 (show c + (i - 1) < l.length by omega)
            rw [show c + (i - 1) = c + i - 1 by omega] at q2
            rw [mx_, if_neg (by omega)]
      rw [h1]
      generalize lft una l = left at *
      generalize l.take c = gone at *
      dsimp only
      rw [bne_self_eq_false, show (400000 : Nat) = 399999 + 1 from rfl, tidewaylaw10_BoardWhole.j0, if_neg (by decide), if_pos (by rw [w64 (by omega) (by omega)]; omega), bd_chk_f _ _ (by omega), hcf]
      simp only [Option.bind_some, if_true]
      rw [bd_chk_f _ _ (by omega), hcg]
      simp only [Option.bind_some, if_true]
      rw [bne_self_eq_false, show (399999 : Nat) = 399998 + 1 from rfl, tidewaylaw10_BoardWhole.j1, if_neg (by decide)]
      refine gone_loop l left gone una c hl2 hgn hcl hgg hdd 200000 (fun k hk => ?_) c 0 (by omega) 399996 (by omega)
      exact left_loop l left gone una c hl2 hgn hcl hn hll 20 (fun k hk => heads_up k hk) left.length 0 (by omega) k (by omega)
  · rw [if_neg hc, if_neg hc]; exact hbad
end Go.Proofs.Ytgpbighdegdlfaa.Pure

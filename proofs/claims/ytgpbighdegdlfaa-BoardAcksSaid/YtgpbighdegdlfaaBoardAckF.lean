/- What an acknowledgement makes of records, in plain words. -/
import Derived.Test.YtgpbighdegdlfaaBoardFacts
import Derived.Test.YtgpbighdegdlfaaPAx6
set_option linter.unusedVariables false
set_option linter.unusedSimpArgs false
set_option autoImplicit false
namespace Go.Proofs.Ytgpbighdegdlfaa.BoardFacts
open Go.RowKit Go.Proofs.Ytgpbighdegdlfaa.PA Go.Proofs.YtgpbighdegdlfaaW.PrintWords Go.Proofs.YtgpbighdegdlfaaW.PrintMore
def dn (una : Int) (x : X) : Bool := decide (x.f1 ≤ una)
def nd (una : Int) (x : X) : Bool := !decide (x.f1 ≤ una)
def fst_ (una : Int) (y : X) : X := ⟨mx y.f0 una, y.f1, y.f2, y.f3, y.f4, y.f5, y.f6, y.f7, y.f8, y.f9, y.f10, y.f11⟩
def lft (una : Int) (l : List X) : List X := match l.filter (nd una) with | [] => [] | y :: t => fst_ una y :: t
theorem parted_loop (una : Int) (l : List X) (hl : l.length ≤ 65536) (d : Nat) : ∀ i : Nat, i + d = l.length → ∀ k, d ≤ k →
    api_Rec_31.l0 (k + 1) una ((l.take i).filter (dn una)) ((l.take i).filter (nd una)) l (l.length : Int) (i : Int) = some (l.filter (dn una), l.filter (nd una)) := by
  induction d with
  | zero =>
    intro i hi k hk
    obtain rfl : i = l.length := by omega
    rw [api_Rec_31.l0, if_neg (by omega), List.take_length]
  | succ d ih =>
    intro i hi k hk
    obtain ⟨k, rfl⟩ : ∃ m, k = m + 1 := ⟨k - 1, by omega⟩
    have hlt : i < l.length := by omega
    have ih := ih (i + 1) (by omega) k (by omega)
    have hw1 : wrap64 ((i : Int) + 1) = ((i + 1 : Nat) : Int) := by rw [w64 (by omega) (by omega)]; rfl
    have hgl : rd_T38 l (i : Int) = l[i] := by rw [rd_g, g_get hlt]
    have h4 : ((l.take i).filter (dn una)).length < 1759218604441 := by
      have := List.length_filter_le (dn una) (l.take i)
      rw [List.length_take] at this; omega
    have h5 : ((l.take i).filter (nd una)).length < 1759218604441 := by
      have := List.length_filter_le (nd una) (l.take i)
      rw [List.length_take] at this; omega
    rw [List.take_succ_eq_append_getElem hlt, List.filter_append, List.filter_append, List.filter_cons, List.filter_cons, List.filter_nil, List.filter_nil] at ih
    rw [api_Rec_31.l0, if_pos (by omega), if_pos (by omega), if_pos (by omega), hgl, board_Ack_1.f, Option.bind_some, hw1]
    generalize l[i] = x at ih ⊢
    by_cases h : x.f1 ≤ una
    · have e1 : dn una x = true := decide_eq_true h
      have e2 : nd una x = false := by unfold nd; rw [decide_eq_true h]; rfl
      rw [if_pos (decide_eq_true h), if_pos h4]
      rw [e1, e2, if_pos rfl, if_neg (by decide), List.append_nil] at ih
      exact ih
    · have e1 : dn una x = false := decide_eq_false h
      have e2 : nd una x = true := by unfold nd; rw [decide_eq_false h]; rfl
      rw [if_neg (by rw [decide_eq_false h]; decide), if_pos h5]
      rw [e1, e2, if_neg (by decide), if_pos rfl, List.append_nil] at ih
      exact ih
def past (una : Int) (l : List X) : Bool := decide (0 < l.length) && decide ((g l (l.length - 1)).f1 < una)
theorem ack_f (una : Int) (l : List X) (k : Nat) (hk : 131076 ≤ k) :
    board_Ack.f k l una = some (if bd_chk l = 0 then (if past una l = true then ([], [], 2) else (lft una l, l.filter (dn una), 0)) else ([], [], 100)) := by
  rw [board_Ack.f, bd_chk_f l _ (by omega)]
  simp only [Option.bind_some]
  by_cases h : bd_chk l = 0
  · rw [if_pos h, if_pos h]
    have h2 := ((chk_iff l).1 h).1
    obtain ⟨k, rfl⟩ : ∃ m, k = m + 1 := ⟨k - 1, by omega⟩
    have hj : ∀ b, board_Ack.j0 (k + 1) l una b = some (if b = true then ([], [], 2) else (lft una l, l.filter (dn una), 0)) := fun b => by
      rw [board_Ack.j0]
      cases b with
      | true => rw [if_pos rfl, if_pos rfl]
      | false =>
        rw [if_neg (by decide), if_neg (by decide), api_Rec_31.f]
        obtain ⟨k, rfl⟩ : ∃ m, k = m + 1 := ⟨k - 1, by omega⟩
        have hp := parted_loop una l h2 l.length 0 (by omega) k (by omega)
        rw [List.take_zero, List.filter_nil, List.filter_nil] at hp
        have hp : api_Rec_31.l0 (k + 1) una [] [] l (l.length : Int) 0 = some (l.filter (dn una), l.filter (nd una)) := hp
        rw [hp, Option.bind_some]
        dsimp only
        unfold lft
        cases hn : l.filter (nd una) with
        | nil => rw [if_neg (by decide)]
        | cons y t =>
          rw [if_pos (by simp only [List.length_cons]; omega), if_pos (by simp only [List.length_cons]; omega)]
          rfl
    by_cases h0 : (l.length : Int) > 0
    · have hw : wrap64 ((l.length : Int) - 1) = ((l.length - 1 : Nat) : Int) := by rw [w64 (by omega) (by omega)]; omega
      rw [if_pos h0, hw, if_pos (by omega), if_pos (by omega), rd_g, hj]
      unfold past
      rw [decide_eq_true (show 0 < l.length by omega), Bool.true_and]
    · rw [if_neg h0, hj]
      unfold past
      rw [decide_eq_false (show ¬ 0 < l.length by omega), Bool.false_and]
  · rw [if_neg h, if_neg h, chk_no h]
theorem f1_le {l : List X} (hc : bd_chk l = 0) (i : Nat) : ∀ d, i + d < l.length → (g l i).f1 + d ≤ (g l (i + d)).f1 := by
  intro d
  induction d with
  | zero => intro h; rw [Nat.add_zero]; omega
  | succ d ih =>
    intro h
    have ih := ih (by omega)
    have h2 := (ok_iff l (i + (d + 1))).1 (((chk_iff l).1 hc).2 (i + (d + 1)) h)
    have hm := ((may_iff _).1 h2.1).2.1
    rcases h2.2 with h3 | ⟨h3, _⟩
    · omega
    · have e : i + (d + 1) - 1 = i + d := by omega
      rw [e] at h3; omega
theorem cut_ (una : Int) : ∀ l : List X, l.Pairwise (fun a b => a.f1 ≤ b.f1) → ∃ c, c ≤ l.length ∧ l.filter (dn una) = l.take c ∧ l.filter (nd una) = l.drop c
  | [], _ => ⟨0, Nat.le_refl _, rfl, rfl⟩
  | x :: l, hp => by
    obtain ⟨h1, h2⟩ := List.pairwise_cons.1 hp
    obtain ⟨c, hc, e1, e2⟩ := cut_ una l h2
    by_cases h : x.f1 ≤ una
    · refine ⟨c + 1, by simp; omega, ?_, ?_⟩
      · rw [List.filter_cons, if_pos (show dn una x = true from decide_eq_true h), e1]; rfl
      · rw [List.filter_cons, if_neg (by unfold nd; rw [decide_eq_true h]; decide), e2]; rfl
    · refine ⟨0, Nat.zero_le _, ?_, ?_⟩
      · rw [List.take_zero, List.filter_eq_nil_iff]
        intro y hy hd
        have hd : y.f1 ≤ una := of_decide_eq_true hd
        rcases List.mem_cons.1 hy with rfl | hy
        · exact h hd
        · have := h1 y hy; omega
      · rw [List.drop_zero, List.filter_eq_self]
        intro y hy
        have : ¬ y.f1 ≤ una := by
          rcases List.mem_cons.1 hy with rfl | hy
          · exact h
          · have := h1 y hy; omega
        unfold nd; rw [decide_eq_false this]; rfl
theorem cut {l : List X} (hc : bd_chk l = 0) (una : Int) : ∃ c, c ≤ l.length ∧ l.filter (dn una) = l.take c ∧ l.filter (nd una) = l.drop c := by
  refine cut_ una l (List.pairwise_iff_getElem.2 fun i j hi hj hij => ?_)
  have := f1_le hc i (j - i) (by omega)
  rw [show i + (j - i) = j by omega, g_get hi, g_get hj] at this
  omega
end Go.Proofs.Ytgpbighdegdlfaa.BoardFacts

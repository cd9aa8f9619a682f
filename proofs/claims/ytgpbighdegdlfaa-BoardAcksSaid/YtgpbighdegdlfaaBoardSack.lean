/- What a sack makes of records, in plain words. -/
import Derived.Test.YtgpbighdegdlfaaBoardFacts
import Derived.Test.YtgpbighdegdlfaaPAx9
set_option linter.unusedVariables false
set_option linter.unusedSimpArgs false
set_option autoImplicit false
namespace Go.Proofs.Ytgpbighdegdlfaa.BoardFacts
open Go.RowKit Go.Proofs.Ytgpbighdegdlfaa.PA Go.Proofs.YtgpbighdegdlfaaW.PrintWords Go.Proofs.YtgpbighdegdlfaaW.PrintMore
def fr (s : List Sp) (x : X) : Bool := !x.f5 && s.any (bs_in x.f0 x.f1)
def sk (s : List Sp) (x : X) : X := if fr s x = true then ⟨x.f0, x.f1, x.f2, x.f3, x.f4, true, false, false, x.f8, x.f9, x.f10, x.f11⟩ else x
theorem bind_gen {α β : Type} {a : α} {f : α → Option β} {r : Option β} (h : ∀ y, y = a → f y = r) : (some a).bind f = r := h a rfl
theorem sack_loop (s : List Sp) (l : List X) (hl : l.length ≤ 65536) (d : Nat) : ∀ i : Nat, i + d = l.length → ∀ k, d ≤ k →
    board_Sack.l0 (k + 1) s ((l.take i).filter (fr s)) ((l.take i).map (sk s) ++ l.drop i) l (l.length : Int) (i : Int) = some (l.map (sk s), l.filter (fr s), 0) := by
  induction d with
  | zero =>
    intro i hi k hk
    obtain rfl : i = l.length := by omega
    rw [board_Sack.l0, if_neg (by omega), List.take_length, List.drop_length, List.append_nil]
  | succ d ih =>
    intro i hi k hk
    obtain ⟨k, rfl⟩ : ∃ m, k = m + 1 := ⟨k - 1, by omega⟩
    have hlt : i < l.length := by omega
    have ih := ih (i + 1) (by omega) k (by omega)
    have hw1 : wrap64 ((i : Int) + 1) = ((i + 1 : Nat) : Int) := by rw [w64 (by omega) (by omega)]; rfl
    have e3 : l.drop i = l[i] :: l.drop (i + 1) := List.drop_eq_getElem_cons hlt
    have e4 : ((l.take i).map (sk s)).length = i := by rw [List.length_map, List.length_take]; omega
    have hML : ((l.take i).map (sk s) ++ l.drop i).length = l.length := by rw [List.length_append, e4, List.length_drop]; omega
    have hMg : g ((l.take i).map (sk s) ++ l.drop i) i = l[i] := by
      rw [g, List.getD_eq_getElem?_getD, e3, List.getElem?_append_right (by omega), e4, Nat.sub_self]
      rfl
    have hMs : ∀ y, ((l.take i).map (sk s) ++ l.drop i).set i y = (l.take i).map (sk s) ++ y :: l.drop (i + 1) := fun y => by
      rw [e3, List.set_append_right _ _ (by omega), e4, Nat.sub_self, List.set_cons_zero]
    rw [List.take_succ_eq_append_getElem hlt, List.filter_append, List.map_append] at ih
    have hgl : rd_T38 l (i : Int) = l[i] := by rw [rd_g, g_get hlt]
    have hlen8 : ((l.take i).filter (fr s)).length < 1759218604441 := by
      have := List.length_filter_le (fr s) (l.take i)
      rw [List.length_take] at this; omega
    rw [board_Sack.l0, if_pos (by omega), if_pos (by omega), if_pos (by omega), hgl]
    by_cases e5 : l[i].f5 = true
    · have hf : fr s l[i] = false := by unfold fr; rw [e5]; rfl
      have hk : sk s l[i] = l[i] := by unfold sk; rw [if_neg (by rw [hf]; simp)]
      rw [if_pos e5, hw1]
      simp only [List.filter_cons, List.filter_nil, hf, List.map_cons, List.map_nil, hk, Bool.false_eq_true, if_false, List.append_nil] at ih
      rw [List.append_assoc, List.singleton_append, ← e3] at ih
      exact ih
    · rw [if_neg e5, api_Span.f, Option.bind_some]
      by_cases ha : s.any (bs_in l[i].f0 l[i].f1) = true
      · have hf : fr s l[i] = true := by unfold fr; rw [ha, Bool.eq_false_iff.mpr e5]; rfl
        have hk : sk s l[i] = ⟨l[i].f0, l[i].f1, l[i].f2, l[i].f3, l[i].f4, true, false, false, l[i].f8, l[i].f9, l[i].f10, l[i].f11⟩ := by unfold sk; rw [if_pos hf]
        rw [if_pos ha, if_pos hlen8, if_pos (by omega)]
        simp only [List.filter_cons, List.filter_nil, hf, List.map_cons, List.map_nil, hk, if_true] at ih
        rw [List.append_assoc, List.singleton_append, ← hMs] at ih
        generalize (l.take i).map (sk s) ++ l.drop i = M at hML hMg hMs ih ⊢
        generalize (l.take i).filter (fr s) = F at ih ⊢
        have hiM : i < M.length := by omega
        generalize l[i] = x at hMg ih ⊢
        refine bind_gen fun y1 h1 => ?_
        rw [rd_g, Int.toNat_natCast, hMg] at h1
        have g1 : g y1 i = ⟨x.f0, x.f1, x.f2, x.f3, x.f4, true, x.f6, x.f7, x.f8, x.f9, x.f10, x.f11⟩ := by rw [h1, g_set hiM, if_pos rfl]
        refine bind_gen fun y2 h2 => ?_
        rw [rd_g, Int.toNat_natCast, g1] at h2
        have g2 : g y2 i = ⟨x.f0, x.f1, x.f2, x.f3, x.f4, true, false, x.f7, x.f8, x.f9, x.f10, x.f11⟩ := by rw [h2, g_set (by rw [h1, List.length_set]; exact hiM), if_pos rfl]
        rw [rd_g, Int.toNat_natCast, g2, hw1, h2, h1, List.set_set, List.set_set]
        exact ih
      · have hf : fr s l[i] = false := by unfold fr; rw [Bool.eq_false_iff.mpr ha, Bool.and_false]
        have hk : sk s l[i] = l[i] := by unfold sk; rw [if_neg (by rw [hf]; simp)]
        rw [if_neg ha, hw1]
        simp only [List.filter_cons, List.filter_nil, hf, List.map_cons, List.map_nil, hk, Bool.false_eq_true, if_false, List.append_nil] at ih
        rw [List.append_assoc, List.singleton_append, ← e3] at ih
        exact ih
theorem sack_f (s : List Sp) (l : List X) (k : Nat) (hk : 131075 ≤ k) (hl : l.length ≤ 1759218604440) :
    board_Sack.f k l s = some (if bd_chk l = 0 then (l.map (sk s), l.filter (fr s), 0) else ([], [], 100)) := by
  rw [board_Sack.f, bd_chk_f l _ (by omega)]
  simp only [Option.bind_some]
  by_cases h : bd_chk l = 0
  · rw [if_pos h, if_pos h, api_Rec_33.f, if_pos (by omega)]
    simp only [Option.bind_some]
    have h2 := ((chk_iff l).1 h).1
    obtain ⟨k, rfl⟩ : ∃ m, k = m + 1 := ⟨k - 1, by omega⟩
    exact sack_loop s l h2 l.length 0 (by omega) k (by omega)
  · rw [if_neg h, if_neg h, chk_no h]
end Go.Proofs.Ytgpbighdegdlfaa.BoardFacts

/- What sending, sending again, and losing all make of records. -/
import Derived.Test.YtgpbighdegdlfaaBoardFacts
import Derived.Test.YtgpbighdegdlfaaPAx29
import Derived.Test.YtgpbighdegdlfaaPAx33
set_option linter.unusedVariables false
set_option linter.unusedSimpArgs false
set_option autoImplicit false
namespace Go.Proofs.Ytgpbighdegdlfaa.Pure
open Go.RowKit Go.Proofs.Ytgpbighdegdlfaa.PA Go.Proofs.YtgpbighdegdlfaaW.PrintWords Go.Proofs.YtgpbighdegdlfaaW.PrintMore Go.Proofs.Ytgpbighdegdlfaa.BoardFacts
def ag (now : Int) (x : X) : X := ⟨x.f0, x.f1, x.f2, now, if x.f4 < 1000000 then x.f4 + 1 else 1000000, x.f5, x.f6, x.f6, x.f8, x.f9, x.f10, x.f11⟩
theorem again_f (l : List X) (at_ now : Int) (k : Nat) (hk : 131075 ≤ k) (hl : l.length ≤ 1759218604440) :
    board_Again.f k l at_ now = some (if bd_chk l = 0 then (if 0 ≤ at_ ∧ at_ < l.length ∧ Tm now then (l.set at_.toNat (ag now (g l at_.toNat)), 0) else ([], 2)) else ([], 100)) := by
  obtain ⟨k, rfl⟩ : ∃ m, k = m + 1 := ⟨k - 1, by omega⟩
  rw [board_Again.f, bd_chk_f l _ (by omega)]
  simp only [Option.bind_some]
  by_cases h : bd_chk l = 0
  · rw [if_pos h, if_pos h]
    by_cases h1 : at_ < 0
    · rw [if_pos h1, if_neg (fun h => by have := h.1; omega), board_Again.j0, if_pos rfl]
    · rw [if_neg h1]
      by_cases h2 : at_ ≥ (l.length : Int)
      · rw [if_pos h2, if_neg (fun h => by have := h.2.1; omega), board_Again.j0, if_pos rfl]
      · rw [if_neg h2, board_time.f]
        have ht : (!!([now].any bt_out)) = true ↔ ¬ Tm now := by
          simp only [List.any_cons, List.any_nil, bt_out, Tm, Bool.not_not, Bool.or_false, Bool.or_eq_true, decide_eq_true_eq]; omega
        simp only [Option.bind_some]
        rw [board_Again.j0]
        by_cases h3 : Tm now
        · rw [if_neg (fun h => ht.1 h h3), if_pos ⟨by omega, by omega, h3⟩]
          obtain ⟨i, rfl⟩ : ∃ i : Nat, at_ = (i : Int) := ⟨at_.toNat, by omega⟩
          have hi : i < l.length := by omega
          have hx4 : 1 ≤ (g l i).f4 := ((may_iff _).1 ((ok_iff l i).1 (((chk_iff l).1 h).2 i hi)).1).2.2.2.1
          have e1 : api_Rec_33.f l = some l := by rw [api_Rec_33.f, if_pos (by omega)]
          rw [e1]
          simp only [Option.bind_some, Int.toNat_natCast]
          rw [if_pos (by omega), if_pos (by omega)]
          simp only [rd_g, g_set hi, List.length_set, if_true, List.set_set]
          generalize hx : g l i = x at hx4
          unfold ag
          by_cases h4 : x.f4 < 1000000
          · rw [if_pos h4, if_pos h4, w64 (by omega) (by omega)]
          · rw [if_neg h4, if_neg h4]
        · rw [if_pos (ht.2 h3), if_neg (fun h => h3 h.2.2)]
  · rw [if_neg h, if_neg h, chk_no h]
theorem same_loop (l : List X) (hlen : l.length ≤ 1759218604440) (d : Nat) : ∀ i : Nat, i + d = l.length → ∀ k, d + 1 ≤ k → tidewayref10_Same.l0 k l l (i : Int) = some true := by
  induction d with
  | zero =>
    intro i hi k hk
    obtain ⟨k, rfl⟩ : ∃ m, k = m + 1 := ⟨k - 1, by omega⟩
    rw [tidewayref10_Same.l0, if_neg (by omega)]
  | succ d ih =>
    intro i hi k hk
    obtain ⟨k, rfl⟩ : ∃ m, k = m + 1 := ⟨k - 1, by omega⟩
    have hlt : i < l.length := by omega
    have c1 : (i : Int) < (l.length : Int) := Int.ofNat_lt.2 hlt
    have hw1 : wrap64 ((i : Int) + 1) = ((i + 1 : Nat) : Int) := by rw [w64 (by omega) (by omega)]; rfl
    rw [tidewayref10_Same.l0, if_pos c1, if_pos (Int.natCast_nonneg i), if_pos c1]
    simp only [beq_self_eq_true, Bool.not_true, Bool.or_false, Bool.false_eq_true, if_false]
    rw [hw1]
    exact ih (i + 1) (by omega) k (by omega)
theorem same_refl (l : List X) (hlen : l.length ≤ 1759218604440) (k : Nat) (hk : l.length + 1 ≤ k) : tidewayref10_Same.f k l l = some true := by
  rw [tidewayref10_Same.f, if_pos rfl]
  exact same_loop l hlen l.length 0 (by omega) k hk
def dr (x : X) : X := ⟨x.f0, x.f1, x.f2, x.f3, x.f4, false, true, false, x.f8, x.f9, x.f10, x.f11⟩
theorem st (a b : List X) (x y : X) : (a ++ x :: b).set a.length y = a ++ y :: b := by simp
theorem gt (a b : List X) (x : X) : g (a ++ x :: b) a.length = x := by simp [g]
theorem board_Drop_loop (b : List X) : ∀ (a : List X), (a ++ b).length ≤ 1759218604440 → ∀ k, b.length + 1 ≤ k → board_Drop.l0 k (a ++ b) ((a ++ b).length : Int) (a.length : Int) = some (a ++ b.map dr, 0) := by
  induction b with
  | nil =>
    intro a hl k hk
    obtain ⟨k, rfl⟩ : ∃ m, k = m + 1 := ⟨k - 1, by omega⟩
    rw [board_Drop.l0, if_neg (by simp)]; simp
  | cons x b ih =>
    intro a hl k hk
    obtain ⟨k, rfl⟩ : ∃ m, k = m + 1 := ⟨k - 1, by omega⟩
    have hlen : (a ++ x :: b).length = a.length + (b.length + 1) := by simp
    have hl2 : (a ++ [dr x] ++ b).length = a.length + (b.length + 1) := by simp
    have hw1 : wrap64 ((a.length : Int) + 1) = (((a ++ [dr x]).length : Nat) : Int) := by rw [w64 (by omega) (by omega)]; simp
    have ih := ih (a ++ [dr x]) (by rw [hl2]; omega) k (by rw [List.length_cons] at hk; omega)
    rw [hl2] at ih
    rw [board_Drop.l0, if_pos (by omega), if_pos (by omega), if_pos (by omega)]
    simp only [rd_g, gt, st, Int.toNat_natCast, Option.bind_some]
    rw [hw1, hlen]
    have e : a ++ (⟨x.f0, x.f1, x.f2, x.f3, x.f4, false, true, false, x.f8, x.f9, x.f10, x.f11⟩ : X) :: b = a ++ [dr x] ++ b := by simp [dr]
    rw [e, ih]
    simp
theorem tidewayref10_Drop_loop (b : List X) : ∀ (a : List X), (a ++ b).length ≤ 1759218604440 → ∀ k, b.length + 1 ≤ k → tidewayref10_Drop.l0 k (a ++ b) (a.length : Int) = some (a ++ b.map dr, 0) := by
  induction b with
  | nil =>
    intro a hl k hk
    obtain ⟨k, rfl⟩ : ∃ m, k = m + 1 := ⟨k - 1, by omega⟩
    rw [tidewayref10_Drop.l0, if_neg (by simp)]; simp
  | cons x b ih =>
    intro a hl k hk
    obtain ⟨k, rfl⟩ : ∃ m, k = m + 1 := ⟨k - 1, by omega⟩
    have hlen : (a ++ x :: b).length = a.length + (b.length + 1) := by simp
    have hl2 : (a ++ [dr x] ++ b).length = a.length + (b.length + 1) := by simp
    have hw1 : wrap64 ((a.length : Int) + 1) = (((a ++ [dr x]).length : Nat) : Int) := by rw [w64 (by omega) (by omega)]; simp
    have ih := ih (a ++ [dr x]) (by rw [hl2]; omega) k (by rw [List.length_cons] at hk; omega)
    rw [tidewayref10_Drop.l0, if_pos (by omega), if_pos (by omega)]
    simp only [rd_g, gt, st, Int.toNat_natCast, Option.bind_some]
    rw [hw1]
    have e : a ++ (⟨x.f0, x.f1, x.f2, x.f3, x.f4, false, true, false, x.f8, x.f9, x.f10, x.f11⟩ : X) :: b = a ++ [dr x] ++ b := by simp [dr]
    rw [e, ih]
    simp
theorem drop_f (l : List X) (hl : l.length ≤ 1759218604440) (k : Nat) (hk : 131074 ≤ k) : board_Drop.f k l = some (if bd_chk l = 0 then (l.map dr, 0) else ([], 100)) := by
  rw [board_Drop.f, bd_chk_f l k hk, Option.bind_some]
  by_cases h : bd_chk l = 0
  · have h2 := ((chk_iff l).1 h).1
    rw [if_pos h, if_pos h, api_Rec_33.f, if_pos (by omega), Option.bind_some]
    exact board_Drop_loop l [] (by simpa using hl) k (by omega)
  · rw [if_neg h, if_neg h, chk_no h]
theorem copy_f (l : List X) (hl : l.length ≤ 1759218604440) : tidewayref10_Copy.f l = some l := by
  rw [tidewayref10_Copy.f, Option.bind_some, if_pos (by rw [List.length_nil]; omega), List.nil_append]
theorem rdrop_f (l : List X) (hl : l.length ≤ 1759218604440) (k : Nat) (hk : 131074 ≤ k) : tidewayref10_Drop.f k l = board_Drop.f k l := by
  rw [drop_f l hl k hk, tidewayref10_Drop.f, tidewayref10_Check.f, Option.bind_some]
  by_cases h : bd_chk l = 0
  · have h2 := ((chk_iff l).1 h).1
    rw [if_pos h, if_pos h, copy_f l hl, Option.bind_some]
    exact tidewayref10_Drop_loop l [] (by simpa using hl) k (by omega)
  · rw [if_neg h, if_neg h]
theorem rtime (t : Int) : tidewayref10_time.f t = some (decide (Tm t)) := by
  rw [rc_time_f]
  congr 1
  unfold rc_time Tm
  by_cases h : 0 ≤ t <;> by_cases h2 : t ≤ 1125899906842624 <;> simp [h, h2]
theorem ragain_f (l : List X) (at_ now : Int) (hl : l.length ≤ 1759218604440) (k : Nat) (hk : 131075 ≤ k) : tidewayref10_Again.f k l at_ now = board_Again.f k l at_ now := by
  obtain ⟨k, rfl⟩ : ∃ m, k = m + 1 := ⟨k - 1, by omega⟩
  rw [again_f l at_ now _ hk hl, tidewayref10_Again.f, tidewayref10_Check.f, Option.bind_some]
  by_cases h : bd_chk l = 0
  · rw [if_pos h, if_pos h]
    by_cases h1 : at_ < 0
    · rw [if_pos h1, if_neg (fun h => by have := h.1; omega), tidewayref10_Again.j0, if_pos rfl]
    · rw [if_neg h1]
      by_cases h2 : at_ ≥ (l.length : Int)
      · rw [if_pos h2, if_neg (fun h => by have := h.2.1; omega), tidewayref10_Again.j0, if_pos rfl]
      · rw [if_neg h2, rtime, Option.bind_some, tidewayref10_Again.j0]
        by_cases h3 : Tm now
        · rw [decide_eq_true h3, if_neg (by decide), if_pos ⟨by omega, by omega, h3⟩]
          obtain ⟨i, rfl⟩ : ∃ i : Nat, at_ = (i : Int) := ⟨at_.toNat, by omega⟩
          have hi : i < l.length := by omega
          have hx4 : 1 ≤ (g l i).f4 := ((may_iff _).1 ((ok_iff l i).1 (((chk_iff l).1 h).2 i hi)).1).2.2.2.1
          rw [copy_f l hl, Option.bind_some, if_pos (by omega), if_pos (by omega)]
          simp only [Option.bind_some, Int.toNat_natCast, rd_g, g_set hi, List.length_set, if_true, List.set_set]
          generalize hx : g l i = x at hx4
          unfold ag
          have e : wrap64 (mn x.f4 999999 + 1) = if x.f4 < 1000000 then x.f4 + 1 else 1000000 := by
            have hm : mn x.f4 999999 = if 999999 < x.f4 then 999999 else x.f4 := rfl
            rw [hm]
            by_cases h5 : 999999 < x.f4
            · rw [if_pos h5, if_neg (by omega), w64 (by omega) (by omega)]; rfl
            · rw [if_neg h5, if_pos (by omega), w64 (by omega) (by omega)]
          rw [e]
        · rw [decide_eq_false h3, if_pos (by decide), if_neg (fun h => h3 h.2.2)]
  · rw [if_neg h, if_neg h]
theorem BoardMoves (l : List X) (x : X) (at_ now : Int) (w0 : WfL l) (wx : WfX x) (w1 : (Lit.int .i64 at_).wf = true) (w2 : (Lit.int .i64 now).wf = true) : ∃ k, tidewaylaw10_BoardMoves.f k l x.f0 x.f1 x.f2 x.f3 x.f4 x.f5 x.f6 x.f7 x.f8 x.f9 x.f10 x.f11 at_ now = some true := by
  have hlen : l.length ≤ 1759218604400 := by have := w0.2.1; omega
  refine ⟨l.length + 300000, ?_⟩
  have hs : tidewayref10_Send.f l x.f0 x.f1 x.f2 x.f3 x.f4 x.f5 x.f6 x.f7 x.f8 x.f9 x.f10 x.f11 = some (board_Send.g l x) := by
    rw [tidewayref10_Send.f, copy_f l (by omega), Option.bind_some, Option.bind_some, if_pos (by simp; omega), Option.bind_some, tidewayref10_Check.f, tidewayref10_Check.f, Option.bind_some, Option.bind_some]
    unfold board_Send.g
    by_cases h1 : bd_chk l = 0
    · by_cases h2 : bd_chk (l ++ [x]) = 0
      · rw [if_pos h1, if_pos h2, if_pos ⟨h1, h2⟩]
      · rw [if_pos h1, if_neg h2, if_neg (fun h => h2 h.2)]
    · rw [if_neg h1, if_neg (fun h => h1 h.1)]
  have hs2 : board_Send.f l x.f0 x.f1 x.f2 x.f3 x.f4 x.f5 x.f6 x.f7 x.f8 x.f9 x.f10 x.f11 = some (board_Send.g l x) := by
    rw [board_Send.f, if_pos (by omega)]
  have hsl : (board_Send.g l x).1.length ≤ l.length + 1 := by unfold board_Send.g; split <;> simp
  obtain ⟨p, e, hp, hpl⟩ : ∃ p e, board_Again.f (l.length + 300000) l at_ now = some (p, e) ∧ p.length ≤ l.length := by
    rw [again_f l at_ now _ (by omega) (by omega)]
    by_cases hc : bd_chk l = 0
    · rw [if_pos hc]
      by_cases hv : 0 ≤ at_ ∧ at_ < (l.length : Int) ∧ Tm now
      · rw [if_pos hv]; exact ⟨_, _, rfl, by simp⟩
      · rw [if_neg hv]; exact ⟨_, _, rfl, by simp⟩
    · rw [if_neg hc]; exact ⟨_, _, rfl, by simp⟩
  obtain ⟨q, f, hq, hql⟩ : ∃ q f, board_Drop.f (l.length + 300000) l = some (q, f) ∧ q.length ≤ l.length := by
    rw [drop_f l (by omega) _ (by omega)]
    by_cases hc : bd_chk l = 0
    · rw [if_pos hc]; exact ⟨_, _, rfl, by simp⟩
    · rw [if_neg hc]; exact ⟨_, _, rfl, by simp⟩
  rw [tidewaylaw10_BoardMoves.f, copy_f l (by omega), Option.bind_some, hs2, Option.bind_some, hs, Option.bind_some, hp, Option.bind_some, ragain_f l at_ now (by omega) _ (by omega), hp, Option.bind_some, hq, Option.bind_some, rdrop_f l (by omega) _ (by omega), hq, Option.bind_some]
  rw [same_refl _ (by omega) _ (by omega), Option.bind_some, if_pos rfl, if_pos rfl]
  show ((tidewayref10_Same.f (l.length + 300000) p p).bind fun _ => _) = _
  rw [same_refl _ (by omega) _ (by omega), Option.bind_some, if_pos rfl, if_pos rfl]
  show ((tidewayref10_Same.f (l.length + 300000) q q).bind fun _ => _) = _
  rw [same_refl _ (by omega) _ (by omega), Option.bind_some, if_pos rfl, if_pos rfl, bd_chk_f l _ (by omega), Option.bind_some, tidewayref10_Check.f, Option.bind_some, if_pos rfl, same_refl _ (by omega) _ (by omega), Option.bind_some, if_pos rfl, heads_up _ (by omega), Option.bind_some]
end Go.Proofs.Ytgpbighdegdlfaa.Pure

/- What is sent again changes nothing but that record. -/
import Derived.Test.YtgpbighdegdlfaaBoardFacts
import Derived.Test.YtgpbighdegdlfaaPAx29
import Derived.Test.YtgpbighdegdlfaaPAx30
set_option linter.unusedVariables false
set_option linter.unusedSimpArgs false
set_option autoImplicit false
namespace Go.Proofs.Ytgpbighdegdlfaa.Pure
open Go.RowKit Go.Proofs.Ytgpbighdegdlfaa.PA Go.Proofs.YtgpbighdegdlfaaW.PrintWords Go.Proofs.YtgpbighdegdlfaaW.PrintMore Go.Proofs.Ytgpbighdegdlfaa.BoardFacts
def ag (now : Int) (x : X) : X := ⟨x.f0, x.f1, x.f2, now, if x.f4 < 1000000 then x.f4 + 1 else 1000000, x.f5, x.f6, x.f6, x.f8, x.f9, x.f10, x.f11⟩
theorem again_f (l : List X) (at_ now : Int) (k : Nat) (hk : 131075 ≤ k) (hl : l.length ≤ 1759218604440) :
    board_Again.f k l at_ now = some (if bd_chk l = 0 then (if 0 ≤ at_ ∧ at_ < l.length ∧ Tm now then (l.set at_.toNat (ag now (g l at_.toNat)), 0) else ([], 2)) else ([], 100)) := by
  obtain ⟨k, rfl⟩ : ∃ m, k = m + 1 := ⟨k - 1, by omega⟩
  rw [board_Again.f, bd_chk_f l _ (by omega)]
  simp only [Option.bind_some]
  by_cases h : bd_chk l = 0
  · rw [if_pos h, if_pos h]
    by_cases h1 : at_ < 0
    · rw [if_pos h1, if_neg (fun h => by have := h.1; omega), board_Again.j0, if_pos rfl]
    · rw [if_neg h1]
      by_cases h2 : at_ ≥ (l.length : Int)
      · rw [if_pos h2, if_neg (fun h => by have := h.2.1; omega), board_Again.j0, if_pos rfl]
      · rw [if_neg h2, board_time.f]
        have ht : (!!([now].any bt_out)) = true ↔ ¬ Tm now := by
          simp only [List.any_cons, List.any_nil, bt_out, Tm, Bool.not_not, Bool.or_false, Bool.or_eq_true, decide_eq_true_eq]; omega
        simp only [Option.bind_some]
        rw [board_Again.j0]
        by_cases h3 : Tm now
        · rw [if_neg (fun h => ht.1 h h3), if_pos ⟨by omega, by omega, h3⟩]
          obtain ⟨i, rfl⟩ : ∃ i : Nat, at_ = (i : Int) := ⟨at_.toNat, by omega⟩
          have hi : i < l.length := by omega
          have hx4 : 1 ≤ (g l i).f4 := ((may_iff _).1 ((ok_iff l i).1 (((chk_iff l).1 h).2 i hi)).1).2.2.2.1
          have e1 : api_Rec_33.f l = some l := by rw [api_Rec_33.f, if_pos (by omega)]
          rw [e1]
          simp only [Option.bind_some, Int.toNat_natCast]
          rw [if_pos (by omega), if_pos (by omega)]
          simp only [rd_g, g_set hi, List.length_set, if_true, List.set_set]
          generalize hx : g l i = x at hx4
          unfold ag
          by_cases h4 : x.f4 < 1000000
          · rw [if_pos h4, if_pos h4, w64 (by omega) (by omega)]
          · rw [if_neg h4, if_neg h4]
        · rw [if_pos (ht.2 h3), if_neg (fun h => h3 h.2.2)]
  · rw [if_neg h, if_neg h, chk_no h]
theorem may_ag {x : X} {now : Int} (h : bd_may x = true) (ht : Tm now) : bd_may (ag now x) = true := by
  obtain ⟨h1, h2, h3, h4, h5, h6, h7, h8, h9, h10⟩ := (may_iff x).1 h
  refine (may_iff _).2 ⟨h1, h2, h3, ?_, fun h => h, h6, ht, h8, h9, h10⟩
  show 1 ≤ (if x.f4 < 1000000 then x.f4 + 1 else 1000000)
  split <;> omega
theorem chk_ag {l : List X} {i : Nat} {now : Int} (hc : bd_chk l = 0) (hi : i < l.length) (ht : Tm now) : bd_chk (l.set i (ag now (g l i))) = 0 := by
  refine chk_pt (by rw [List.length_set]) (fun j hj => ?_) hc
  rw [g_set hi]
  by_cases e : j = i
  · subst e; rw [if_pos rfl]; exact ⟨fun h => may_ag h ht, rfl, rfl, rfl⟩
  · rw [if_neg e]; exact ⟨fun h => h, rfl, rfl, rfl⟩
theorem pipe_ag {x : X} {now : Int} (h : bd_may x = true) : wp (ag now x) - wp x = if x.f6 = true ∧ x.f7 = false then x.f1 - x.f0 else 0 := by
  obtain ⟨_, _, _, _, h5, h6, _⟩ := (may_iff x).1 h
  unfold wp bd_out ag
  cases e5 : x.f5 <;> cases e6 : x.f6 <;> cases e7 : x.f7 <;> simp_all
theorem again_loop (l m : List X) (now : Int) (a : Nat) (hn : m.length = l.length) (hlen : l.length ≤ 65536) (he : ∀ j, j ≠ a → g m j = g l j)
    (K : Nat) (hend : ∀ k, K ≤ k → tidewaylaw10_BoardAgain.l0 (k + 1) l (a : Int) now m (l.length : Int) = some true) (d : Nat) :
    ∀ i : Nat, i + d = l.length → ∀ k, d + K ≤ k → tidewaylaw10_BoardAgain.l0 (k + 1) l (a : Int) now m (i : Int) = some true := by
  induction d with
  | zero =>
    intro i hi k hk
    obtain rfl : i = l.length := by omega
    exact hend k (by omega)
  | succ d ih =>
    intro i hi k hk
    obtain ⟨k, rfl⟩ : ∃ m, k = m + 1 := ⟨k - 1, by omega⟩
    have ih := ih (i + 1) (by omega) k (by omega)
    have hw1 : wrap64 ((i : Int) + 1) = ((i + 1 : Nat) : Int) := by rw [w64 (by omega) (by omega)]; rfl
    rw [tidewaylaw10_BoardAgain.l0, if_pos (by omega)]
    by_cases e : i = a
    · rw [if_pos (by omega), hw1]; exact ih
    · rw [if_neg (by omega), if_pos (by omega), if_pos (by omega), rd_g, rd_g, he i e]
      simp only [beq_self_eq_true, Bool.not_true, Bool.or_false, Bool.false_eq_true, if_false]
      rw [hw1]; exact ih
theorem mn_le (a b : Int) : mn a b ≤ a ∧ mn a b ≤ b := by unfold mn; split <;> omega
theorem BoardAgain (l : List X) (at_ now : Int) (w0 : WfL l) (w1 : (Lit.int .i64 at_).wf = true) (w2 : (Lit.int .i64 now).wf = true) : ∃ k, tidewaylaw10_BoardAgain.f k l at_ now = some true := by
  have hlen : l.length ≤ 1759218604440 := by have := w0.2.1; omega
  refine ⟨300000, ?_⟩
  rw [tidewaylaw10_BoardAgain.f, again_f l at_ now _ (by omega) hlen]
  simp only [Option.bind_some]
  by_cases hc : bd_chk l = 0
  · rw [if_pos hc]
    by_cases hv : 0 ≤ at_ ∧ at_ < l.length ∧ Tm now
    · rw [if_pos hv]
      obtain ⟨h1, h2, h3⟩ := hv
      obtain ⟨i, rfl⟩ : ∃ i : Nat, at_ = (i : Int) := ⟨at_.toNat, by omega⟩
      have hi : i < l.length := by omega
      have hl2 := ((chk_iff l).1 hc).1
      have hcm := chk_ag (now := now) hc hi h3
      have hm := may_of hc hi
      have hp : Pipe_g (l.set i (ag now (g l i))) = wrap64 (Pipe_g l + (if (g l i).f6 = true ∧ (g l i).f7 = false then (g l i).f1 - (g l i).f0 else 0)) := by
        rw [pipe_tot, pipe_tot, if_pos hc, if_pos hcm, ww1, tot_set _ _ _ _ hi, ← pipe_ag (now := now) hm]
        congr 1; omega
      have hgi : g (l.set i (ag now (g l i))) i = ag now (g l i) := by rw [g_set hi, if_pos rfl]
      have hlm : (l.set i (ag now (g l i))).length = l.length := List.length_set
      have he : ∀ j, j ≠ i → g (l.set i (ag now (g l i))) j = g l j := fun j hj => by rw [g_set hi, if_neg hj]
      simp only [Int.toNat_natCast]
      rw [if_pos trivial, if_pos (by rw [hlm]), if_neg (by omega), decide_eq_false (by omega)]
      generalize l.set i (ag now (g l i)) = m at hcm hp hgi hlm he ⊢
      generalize hx : g l i = x at hm hp hgi ⊢
      rw [show (300000 : Nat) = 299999 + 1 from rfl, tidewaylaw10_BoardAgain.j0, if_neg (by decide)]
      refine again_loop l m now i hlm hl2 he 140000 (fun k hk => ?_) l.length 0 (by omega) 299998 (by omega)
      obtain ⟨k, rfl⟩ : ∃ m, k = m + 2 := ⟨k - 2, by omega⟩
      have hxm : rd_T38 m (i : Int) = ag now x := by rw [rd_g, hgi]
      have hxl : rd_T38 l (i : Int) = x := by rw [rd_g, hx]
      have hj3 : ∀ more, (more = if x.f6 = true ∧ x.f7 = false then wrap64 (x.f1 - x.f0) else 0) → tidewaylaw10_BoardAgain.j3 (k + 1) l now m more x.f0 x.f1 x.f2 x.f3 x.f4 x.f5 x.f6 x.f7 x.f8 x.f9 x.f10 x.f11 (ag now x).f0 (ag now x).f1 (ag now x).f2 (ag now x).f3 (ag now x).f4 (ag now x).f5 (ag now x).f6 (ag now x).f7 (ag now x).f8 (ag now x).f9 (ag now x).f10 (ag now x).f11 = some true := by
        intro more hmore
        rw [tidewaylaw10_BoardAgain.j3, if_pos (by rw [hlm]), if_pos (show (ag now x).f0 = x.f0 from rfl), if_pos (show (ag now x).f1 = x.f1 from rfl), if_pos (show (ag now x).f3 = now from rfl), if_pos (by show (x.f6 == x.f6) = true; simp)]
        have h4 : (ag now x).f4 ≥ mn x.f4 1000000 := by
          have := mn_le x.f4 1000000
          show (if x.f4 < 1000000 then x.f4 + 1 else 1000000) ≥ _
          split <;> omega
        rw [if_pos h4, board_Pipe.f, board_Pipe.f]
        simp only [Option.bind_some]
        have e1 : Pipe_g m = wrap64 (Pipe_g l + more) := by
          rw [hp, hmore]
          split
          · unfold wrap64; omega
          · rfl
        rw [if_pos e1, bd_chk_f m _ (by omega), hcm]
        simp only [Option.bind_some, if_true]
        rw [heads_up _ (by omega)]
        rfl
      rw [tidewaylaw10_BoardAgain.l0, if_neg (by omega), if_pos (by omega), if_pos (by omega), if_pos (by omega), hxm, hxl]
      cases e6 : x.f6 with
      | true =>
        rw [if_pos rfl, tidewaylaw10_BoardAgain.j2]
        cases e7 : x.f7 with
        | true =>
          rw [if_neg (by decide)]
          have := hj3 0 (by rw [e7]; simp)
          rw [e6, e7] at this; exact this
        | false =>
          rw [if_pos (by decide)]
          have := hj3 (wrap64 (x.f1 - x.f0)) (by rw [e6, e7]; simp)
          rw [e6, e7] at this; exact this
      | false =>
        rw [if_neg (by decide), tidewaylaw10_BoardAgain.j2, if_neg (by decide)]
        have := hj3 0 (by rw [e6]; simp)
        rw [e6] at this; exact this
    · rw [if_neg hv]
      show (if (2 : Int) = 0 then _ else _) = _
      rw [if_neg (by decide)]
      show (if (0 : Int) = 0 then _ else _) = _
      rw [if_pos rfl, heads_up _ (by omega)]
      rfl
  · rw [if_neg hc]
    show (if (100 : Int) = 0 then _ else _) = _
    rw [if_neg (by decide)]
    show (if (0 : Int) = 0 then _ else _) = _
    rw [if_pos rfl, heads_up _ (by omega)]
    rfl
end Go.Proofs.Ytgpbighdegdlfaa.Pure

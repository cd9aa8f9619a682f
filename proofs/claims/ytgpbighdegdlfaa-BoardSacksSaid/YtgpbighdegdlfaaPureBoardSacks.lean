/- A sack marks what it covers, takes just that out of the pipe, and does nothing twice. -/
import Derived.Test.YtgpbighdegdlfaaBoardSack
import Derived.Test.YtgpbighdegdlfaaPAx21
set_option linter.unusedVariables false
set_option linter.unusedSimpArgs false
set_option autoImplicit false
namespace Go.Proofs.Ytgpbighdegdlfaa.Pure
open Go.RowKit Go.Proofs.Ytgpbighdegdlfaa.PA Go.Proofs.YtgpbighdegdlfaaW.PrintWords Go.Proofs.YtgpbighdegdlfaaW.PrintMore Go.Proofs.Ytgpbighdegdlfaa.BoardFacts
def WfS (s : List Sp) : Prop := (∀ x ∈ s, ((Lit.int .i64 x.f0).wf = true) ∧ ((Lit.int .i64 x.f1).wf = true)) ∧ s.length * 16 ≤ 140737488351232 ∧ s.length ≤ 9223372036854775807
theorem same_loop (l : List X) (hlen : l.length ≤ 1759218604440) (d : Nat) : ∀ i : Nat, i + d = l.length → ∀ k, d + 1 ≤ k → tidewayref10_Same.l0 k l l (i : Int) = some true := by
  induction d with
  | zero =>
    intro i hi k hk
    obtain ⟨k, rfl⟩ : ∃ m, k = m + 1 := ⟨k - 1, by omega⟩
    rw [tidewayref10_Same.l0, if_neg (by omega)]
  | succ d ih =>
    intro i hi k hk
    obtain ⟨k, rfl⟩ : ∃ m, k = m + 1 := ⟨k - 1, by omega⟩
    have hlt : i < l.length := by omega
    have c1 : (i : Int) < (l.length : Int) := Int.ofNat_lt.2 hlt
    have hw1 : wrap64 ((i : Int) + 1) = ((i + 1 : Nat) : Int) := by rw [w64 (by omega) (by omega)]; rfl
    rw [tidewayref10_Same.l0, if_pos c1, if_pos (Int.natCast_nonneg i), if_pos c1]
    simp only [beq_self_eq_true, Bool.not_true, Bool.or_false, Bool.false_eq_true, if_false]
    rw [hw1]
    exact ih (i + 1) (by omega) k (by omega)
theorem same_refl (l : List X) (hlen : l.length ≤ 1759218604440) (k : Nat) (hk : l.length + 1 ≤ k) : tidewayref10_Same.f k l l = some true := by
  rw [tidewayref10_Same.f, if_pos rfl]
  exact same_loop l hlen l.length 0 (by omega) k hk
def wl (x : X) : Int := if x.f6 = true ∧ x.f7 = false then 0 else x.f1 - x.f0
theorem tot_pipe (s : List Sp) (l : List X) : tot wp (l.map (sk s)) = tot wp l - tot wl (l.filter (fr s)) := by
  induction l with
  | nil => rfl
  | cons x l ih =>
    rw [List.map_cons, tot_cons, tot_cons, List.filter_cons, ih]
    by_cases h : fr s x = true
    · have h5 : x.f5 = false := by unfold fr at h; cases e : x.f5 <;> simp_all
      have e1 : wp (sk s x) = 0 := by unfold sk; rw [if_pos h]; rfl
      have e2 : wp x = wl x := by unfold wp wl bd_out; cases e6 : x.f6 <;> cases e7 : x.f7 <;> simp [h5]
      rw [if_pos h, tot_cons, e1, e2]; omega
    · have e1 : sk s x = x := by unfold sk; rw [if_neg h]
      rw [if_neg h, e1]; omega
theorem tot_sacked (s : List Sp) (l : List X) : tot ws (l.map (sk s)) = tot ws l + ((l.filter (fr s)).length : Int) := by
  induction l with
  | nil => rfl
  | cons x l ih =>
    rw [List.map_cons, tot_cons, tot_cons, List.filter_cons, ih]
    by_cases h : fr s x = true
    · have h5 : x.f5 = false := by unfold fr at h; cases e : x.f5 <;> simp_all
      have e1 : ws (sk s x) = 1 := by unfold sk; rw [if_pos h]; rfl
      have e2 : ws x = 0 := by unfold ws; rw [if_neg (by rw [h5]; simp)]
      rw [if_pos h, List.length_cons, e1, e2]; omega
    · have e1 : sk s x = x := by unfold sk; rw [if_neg h]
      rw [if_neg h, e1]; omega
theorem fresh_loop (l m fs : List X) (hlen : fs.length ≤ 65536) (hf : ∀ x ∈ fs, x.f5 = false) (K : Nat) (hend : ∀ k, K ≤ k → tidewaylaw10_BoardSacks.l1 (k + 1) l m fs (wrap64 (tot wl fs)) 0 = some true) (d : Nat) :
    ∀ i : Nat, i + d = fs.length → ∀ k, d + K ≤ k → tidewaylaw10_BoardSacks.l0 (k + 2) l m fs (wrap64 (tot wl (fs.take i))) (i : Int) = some true := by
  induction d with
  | zero =>
    intro i hi k hk
    obtain rfl : i = fs.length := by omega
    rw [tidewaylaw10_BoardSacks.l0, if_neg (by omega), List.take_length]
    exact hend k (by omega)
  | succ d ih =>
    intro i hi k hk
    obtain ⟨k, rfl⟩ : ∃ m, k = m + 1 := ⟨k - 1, by omega⟩
    have hlt : i < fs.length := by omega
    have ih := ih (i + 1) (by omega) k (by omega)
    have hw1 : wrap64 ((i : Int) + 1) = ((i + 1 : Nat) : Int) := by rw [w64 (by omega) (by omega)]; rfl
    have hgl : rd_T38 fs (i : Int) = fs[i] := by rw [rd_g, g_get hlt]
    have h5 := hf fs[i] (List.getElem_mem _)
    rw [List.take_succ_eq_append_getElem hlt, tot_append, tot_cons] at ih
    have h0 : tot wl [] = 0 := rfl
    rw [h0, Int.add_zero] at ih
    rw [tidewaylaw10_BoardSacks.l0, if_pos (by omega), if_pos (by omega), hgl, if_neg (by rw [h5]; simp), hw1]
    have hadd : ∀ a b c : Int, wrap64 (wrap64 (wrap64 a + b) - c) = wrap64 (a + (b - c)) := fun a b c => by unfold wrap64; omega
    have hwl : wl fs[i] = if fs[i].f6 = true ∧ fs[i].f7 = false then 0 else fs[i].f1 - fs[i].f0 := rfl
    generalize fs[i] = x at hwl ih ⊢
    by_cases h6 : x.f6 = true
    · rw [if_pos h6]
      by_cases h7 : x.f7 = true
      · rw [if_pos h7, hadd]
        rw [if_neg (by rw [h7]; simp)] at hwl
        rw [hwl] at ih; exact ih
      · rw [if_neg h7]
        rw [if_pos ⟨h6, Bool.eq_false_iff.mpr h7⟩] at hwl
        rw [hwl, Int.add_zero] at ih; exact ih
    · rw [if_neg h6, hadd]
      rw [if_neg (fun h => h6 h.1)] at hwl
      rw [hwl] at ih; exact ih
theorem sacked_loop (l m fs : List X) (n : Int) (hlen : l.length ≤ 65536) (hm : m.length = l.length) (hf : ∀ i, i < l.length → (g l i).f5 = true → (g m i).f5 = true) (K : Nat) (hend : ∀ k, K ≤ k → tidewaylaw10_BoardSacks.l1 (k + 1) l m fs n (l.length : Int) = some true) (d : Nat) :
    ∀ i : Nat, i + d = l.length → ∀ k, d + K ≤ k → tidewaylaw10_BoardSacks.l1 (k + 1) l m fs n (i : Int) = some true := by
  induction d with
  | zero =>
    intro i hi k hk
    obtain rfl : i = l.length := by omega
    exact hend k (by omega)
  | succ d ih =>
    intro i hi k hk
    obtain ⟨k, rfl⟩ : ∃ m, k = m + 1 := ⟨k - 1, by omega⟩
    have hlt : i < l.length := by omega
    have ih := ih (i + 1) (by omega) k (by omega)
    have hw1 : wrap64 ((i : Int) + 1) = ((i + 1 : Nat) : Int) := by rw [w64 (by omega) (by omega)]; rfl
    rw [tidewaylaw10_BoardSacks.l1, if_pos (by omega), if_pos (by omega), rd_g, rd_g, hw1]
    by_cases h5 : (g l i).f5 = true
    · rw [if_pos h5, if_pos (by omega), if_pos (hf i hlt h5)]; exact ih
    · rw [if_neg h5]; exact ih
theorem BoardSacks (l : List X) (s : List Sp) (w0 : WfL l) (w1 : WfS s) : ∃ k, tidewaylaw10_BoardSacks.f k l s = some true := by
  have hlen : l.length ≤ 1759218604440 := by have := w0.2.1; omega
  refine ⟨400000, ?_⟩
  rw [tidewaylaw10_BoardSacks.f, sack_f s l _ (by omega) hlen]
  simp only [Option.bind_some]
  by_cases hc : bd_chk l = 0
  · rw [if_pos hc]
    have hl2 := ((chk_iff l).1 hc).1
    have hcm := chk_sk (s := s) hc
    have hnn : (l.map (sk s)).map (sk s) = l.map (sk s) := by rw [List.map_map]; exact List.map_congr_left (fun x _ => sk_sk s x)
    have hnf : (l.map (sk s)).filter (fr s) = [] := by
      rw [List.filter_eq_nil_iff]; intro x hx
      obtain ⟨y, _, rfl⟩ := List.mem_map.1 hx
      rw [fr_sk]; decide
    have hml : (l.map (sk s)).length = l.length := List.length_map _
    show (if (0 : Int) = 0 then _ else _) = _
    rw [if_pos rfl]
    dsimp only
    rw [sack_f s (l.map (sk s)) _ (by omega) (by omega), if_pos hcm]
    simp only [Option.bind_some, if_true]
    rw [hnf, if_pos (by rfl), hnn, same_refl _ (by omega) _ (by omega)]
    simp only [Option.bind_some, if_true]
    rw [bd_chk_f _ _ (by omega), hcm]
    simp only [Option.bind_some, if_true]
    rw [hml, bne_self_eq_false, show (400000 : Nat) = 399999 + 1 from rfl, tidewaylaw10_BoardSacks.j0, if_neg (by decide)]
    have hfl : (l.filter (fr s)).length ≤ l.length := List.length_filter_le _ _
    have hp : Pipe_g (l.map (sk s)) = wrap64 (Pipe_g l - wrap64 (tot wl (l.filter (fr s)))) := by
      rw [pipe_tot, pipe_tot, if_pos hc, if_pos hcm, tot_pipe, ww3]
    have hs : Sacked_g (l.map (sk s)) = wrap64 (Sacked_g l + ((l.filter (fr s)).length : Int)) := by
      rw [sacked_tot, sacked_tot, if_pos hc, if_pos hcm, tot_sacked, ww1]
    have hf5 : ∀ x ∈ l.filter (fr s), x.f5 = false := fun x hx => by
      have h := (List.mem_filter.1 hx).2
      unfold fr at h; cases e : x.f5 <;> simp_all
    have hfm : ∀ i, i < l.length → (g l i).f5 = true → (g (l.map (sk s)) i).f5 = true := fun i hi h => by
      rw [g_map _ hi]; unfold sk; split
      · rfl
      · exact h
    generalize l.map (sk s) = m at *
    generalize l.filter (fr s) = fs at *
    have hend : ∀ k, 200000 ≤ k → tidewaylaw10_BoardSacks.l1 (k + 1) l m fs (wrap64 (tot wl fs)) 0 = some true := fun k hk => by
      refine sacked_loop l m fs _ hl2 hml hfm 131080 (fun k hk => ?_) l.length 0 (by omega) k (by omega)
      rw [tidewaylaw10_BoardSacks.l1, if_neg (by omega), board_Pipe.f, board_Pipe.f, board_Sacked.f, board_Sacked.f]
      simp only [Option.bind_some]
      rw [if_pos hp, if_pos hs, heads_up _ (by omega)]
      rfl
    have h0 : wrap64 (tot wl (fs.take 0)) = 0 := w64 (n := 0) (by decide) (by decide)
    have key := fresh_loop l m fs (by omega) hf5 200000 hend fs.length 0 (by omega) 399997 (by omega)
    rw [h0] at key
    exact key
  · rw [if_neg hc]
    show (if (100 : Int) = 0 then _ else _) = _
    rw [if_neg (by decide), if_pos (show wrap64 ((([] : List X).length : Int) + (([] : List X).length : Int)) = 0 from w64 (by decide) (by decide)), heads_up _ (by omega)]
    rfl
end Go.Proofs.Ytgpbighdegdlfaa.Pure

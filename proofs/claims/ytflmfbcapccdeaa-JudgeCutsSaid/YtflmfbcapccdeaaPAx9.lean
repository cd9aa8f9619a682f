-- Written for the seat Ytflmfbcapccdeaa by this session's program hyb.py (the print's functions, with externals typed by hand).
import Derived.Lib.Hide
import Derived.LoopIn
import Derived.LoopNIn
import Derived.OwnWalkIn
import Derived.RangeFuncBound
import Derived.RangeFuncBox
import Derived.RangeFuncCalls
import Derived.RangeFuncLeaves
import Derived.RangeFuncNested
import Derived.Shelf.Abstract
import Derived.Shelf.AbstractIn
import Derived.Shelf.RegionOpen
import Derived.TacticsInMore
import Derived.WalkKit
import Derived.Test.YtflmfbcapccdeaaPAx0
import Derived.Test.YtflmfbcapccdeaaPAx4
import Derived.Test.YtflmfbcapccdeaaPAx7
import Derived.Test.YtflmfbcapccdeaaPAx8
namespace Go.Proofs.Ytflmfbcapccdeaa.PA
open Go.RowKit Go.Proofs.YtflmfbcapccdeaaW.PrintWords Go.Proofs.YtflmfbcapccdeaaW.PrintLast Go.Proofs.YtflmfbcapccdeaaW.PrintMore
attribute [local go_sem] max2_int min2_int max_two min_two max_three min_three max_four min_four   -- for this text's walks alone
set_option linter.unusedVariables false
set_option linter.unusedSimpArgs false

/-! ### judge_Fresh: function 9 (typed by hand) -/
section
open Go.Shelf
attribute [local go_sem] Oper.semAt_some
def frs (K : Nat) (l : List S39) : Nat → Option (List S57 × List Int)
 | 0 => some ([], [])
 | n + 1 => (frs K l n).bind fun q => (span_Gaps.f q.1 (l.getD n z39).f2 (l.getD n z39).f3).bind fun g => (span_Add.f K q.1 (l.getD n z39).f2 (l.getD n z39).f3).map fun r => (if r.2 = 0 then r.1 else q.1, if 0 < g.length then q.2 ++ [(n : Int)] else q.2)
def judge_Fresh.f (l0 : List S39) : Option (List Int) := if l0.length < 4398046511104 then (frs (cv_K l0) l0 l0.length).map (fun q => q.2) else none
/-- Which were new. -/
def Frs (l : List S39) (cov : Nat → List S57) (out : Nat → List Int) : Prop := out 0 = [] ∧ ∀ k (h : k < l.length), ∃ g, span_Gaps.f (cov k) l[k].f2 l[k].f3 = some g ∧ (out k).length ≤ k ∧ out (k + 1) = if 0 < g.length then out k ++ [(k : Int)] else out k
theorem frs_some {K : Nat} {l : List S39} : ∀ n {r : List S57 × List Int}, frs K l n = some r → ∀ m, m ≤ n → ∃ x, frs K l m = some x
 | 0, r, h, m, hm => ⟨([], []), by rw [show m = 0 by omega]; rfl⟩
 | n + 1, r, h, m, hm => by
  rcases Nat.lt_or_ge m (n + 1) with h1 | h1
  ·cases hc : frs K l n with
   | none => rw [frs, hc] at h; cases h
   | some x => exact frs_some n hc m (by omega)
  ·obtain rfl : m = n + 1 := by omega
   exact ⟨_, h⟩
theorem frs_step {K : Nat} {l : List S39} {k : Nat} {x y : List S57 × List Int} (hx : frs K l k = some x) (hy : frs K l (k + 1) = some y) : ∃ g q, span_Gaps.f x.1 (l.getD k z39).f2 (l.getD k z39).f3 = some g ∧ span_Add.f K x.1 (l.getD k z39).f2 (l.getD k z39).f3 = some q ∧ y = (if q.2 = 0 then q.1 else x.1, if 0 < g.length then x.2 ++ [(k : Int)] else x.2) := by
 rw [frs, hx, Option.bind_some] at hy
 cases hg : span_Gaps.f x.1 (l.getD k z39).f2 (l.getD k z39).f3 with
 | none => rw [hg] at hy; cases hy
 | some g =>
  rw [hg, Option.bind_some] at hy
  cases ha : span_Add.f K x.1 (l.getD k z39).f2 (l.getD k z39).f3 with
  | none => rw [ha] at hy; cases hy
  | some q => rw [ha] at hy; exact ⟨g, q, rfl, rfl, (Option.some.inj hy).symm⟩
theorem frs_len {K : Nat} {l : List S39} : ∀ k {x : List S57 × List Int}, frs K l k = some x → x.2.length ≤ k
 | 0, x, h => by cases h; exact Nat.le_refl _
 | k + 1, y, h => by
  obtain ⟨x, hx⟩ := frs_some _ h k (by omega)
  obtain ⟨g, q, _, _, e⟩ := frs_step hx h
  have := frs_len k hx
  rw [e]
  dsimp only
  split
  ·rw [List.length_append, List.length_singleton]; omega
  ·omega
theorem frs_cov {K : Nat} {l : List S39} {r : List S57 × List Int} (h : frs K l l.length = some r) : Cov l (fun n => ((frs K l n).getD ([], [])).1) ∧ Frs l (fun n => ((frs K l n).getD ([], [])).1) (fun n => ((frs K l n).getD ([], [])).2) ∧ ((frs K l l.length).getD ([], [])).2 = r.2 := by
 refine ⟨⟨rfl, fun k hk => ?_⟩, ⟨rfl, fun k hk => ?_⟩, by rw [h]; rfl⟩ <;>
 ·obtain ⟨x, hx⟩ := frs_some _ h k (by omega)
  obtain ⟨y, hy⟩ := frs_some _ h (k + 1) (by omega)
  have hg : l.getD k z39 = l[k] := by rw [List.getD_eq_getElem?_getD, List.getElem?_eq_getElem hk]; rfl
  obtain ⟨g, q, h1, h2, e⟩ := frs_step hx hy
  have hl := frs_len k hx
  rw [hg] at h1 h2
  dsimp only
  rw [hx, hy]
  dsimp only [Option.getD_some]
  first
   | exact ⟨K, q.1, q.2, h2, by rw [e]⟩
   | exact ⟨g, h1, hl, by rw [e]⟩
def FrI (w : World) (l0 : List S39) (A0 : Option Addr) (c0 : Nat) (out : Nat → List Int) (pre : List (Value × Value)) (W : World) : Prop :=
 ∃ v, W.heap[w.heap.size]? = some (.cells #[.slice A0 l0.length c0] 22 (0, 0)) ∧ W.heap[w.heap.size + 1]? = some (.cells #[v] 23 (0, 0)) ∧ W.heap[w.heap.size + 1 + 1]? = some (.cells #[.int .i64 (pre.length : Int)] 3 (0, 0)) ∧
  Kd.R (Kd.int .i64) 3 W w.heap.size (fun k => w.heap.size + 1 + 1 + 1 + 1 ≤ k) v (out pre.length) ∧ Below w.heap.size w W ∧ w.heap.size + 1 + 1 + 1 + 1 ≤ W.heap.size
theorem FrI.grown {w W W' : World} {l0 : List S39} {A0 : Option Addr} {c0 : Nat} {out : Nat → List Int} {pre : List (Value × Value)} {row : Option Nat} (h : FrI w l0 A0 c0 out pre W) (hg : W.grownBy W' row) (hr : ∀ r, row = some r → w.heap.size ≤ r ∧ ∃ o : Obj, W.heap[r]? = some o ∧ o.isCells = false) : FrI w l0 A0 c0 out pre W' := by
 obtain ⟨v, h0, h1, h2, h3, h4, h5⟩ := h
 exact ⟨v, blk_own h0 hg (fun r e => (hr r e).2), blk_own h1 hg (fun r e => (hr r e).2), blk_own h2 hg (fun r e => (hr r e).2), R_own' h3 hg (fun r e => (hr r e).2), h4.grown hg h4.size (fun r e => (hr r e).1), Nat.le_trans h5 hg.size⟩
theorem kpt_set {base b : Nat} {W : World} {v u : Value} {t : TypeId} (h : W.heap[b]? = some (.cells #[v] t (0, 0))) (hb : base ≤ b) (h1 : t ≠ 57) (h2 : t ≠ 22) : KpT base W (W.setCell ⟨b, 0, none⟩ u) :=
 ⟨(Below.refl _ W).setCell (p := ⟨b, 0, none⟩) hb _, fun c cs t' ht ho => heap_set ho (fun e => by
  have e : c = b := e
  rw [e, h] at ho
  injection ho with ho
  injection ho with _ ho
  rcases ht with rfl | rfl
  ·exact h1 ho
  ·exact h2 ho)⟩
theorem fr_stay {w W w9 : World} {v : Value} {o : List Int} {j : Int} (h1 : W.heap[w.heap.size + 1]? = some (.cells #[v] 23 (0, 0))) (h2 : W.heap[w.heap.size + 1 + 1]? = some (.cells #[.int .i64 j] 3 (0, 0))) (h3 : Kd.R (Kd.int .i64) 3 W w.heap.size (fun k => w.heap.size + 1 + 1 + 1 + 1 ≤ k) v o) (h5 : w.heap.size + 1 + 1 + 1 + 1 ≤ W.heap.size) (hg : W.grownBy w9 v.ownBlock) :
  w9.heap[w.heap.size + 1]? = some (.cells #[v] 23 (0, 0)) ∧ w9.heap[w.heap.size + 1 + 1]? = some (.cells #[.int .i64 j] 3 (0, 0)) := by
 have hne : ∀ j, j < w.heap.size + 1 + 1 + 1 + 1 → some j ≠ v.ownBlock := by
  intro j hj e
  have := h3.1 _ e.symm
  dsimp only at this
  omega
 exact ⟨(hg.block _ (by omega) (hne _ (by omega))).trans h1, (hg.block _ (by omega) (hne _ (by omega))).trans h2⟩
theorem fr_at {w W w9 : World} {v v1 : Value} {o : List Int} {j : Int} (h1 : W.heap[w.heap.size + 1]? = some (.cells #[v] 23 (0, 0))) (h2 : W.heap[w.heap.size + 1 + 1]? = some (.cells #[.int .i64 j] 3 (0, 0))) (h3 : Kd.R (Kd.int .i64) 3 W w.heap.size (fun k => w.heap.size + 1 + 1 + 1 + 1 ≤ k) v o) (h5 : w.heap.size + 1 + 1 + 1 + 1 ≤ W.heap.size) (hg : W.grownBy w9 v.ownBlock) :
  w9.cell? ⟨w.heap.size + 1, 0, none⟩ = some v ∧ w9.frozen? ⟨w.heap.size + 1, 0, none⟩ = false ∧ (w9.setCell ⟨w.heap.size + 1, 0, none⟩ v1).cell? ⟨w.heap.size + 1 + 1, 0, none⟩ = some (.int .i64 j) ∧ (w9.setCell ⟨w.heap.size + 1, 0, none⟩ v1).frozen? ⟨w.heap.size + 1 + 1, 0, none⟩ = false := by
 obtain ⟨q1, q2⟩ := fr_stay h1 h2 h3 h5 hg
 have q3 : (w9.setCell ⟨w.heap.size + 1, 0, none⟩ v1).heap[w.heap.size + 1 + 1]? = some (.cells #[.int .i64 j] 3 (0, 0)) := heap_set q2 (by show w.heap.size + 1 + 1 ≠ w.heap.size + 1; omega)
 exact ⟨(blk_cell q1 0).trans rfl, blk_frozen q1 0, (blk_cell q3 0).trans rfl, blk_frozen q3 0⟩
theorem fr_move {w W : World} {l0 : List S39} {A0 : Option Addr} {c0 : Nat} {out : Nat → List Int} {j y : Int} {C : Nat} {pre : List (Value × Value)} {x : Value × Value} {v : Value} {o : List Int} (h0 : W.heap[w.heap.size]? = some (.cells #[.slice A0 l0.length c0] 22 (0, 0))) (h1 : W.heap[w.heap.size + 1]? = some (.cells #[v] 23 (0, 0))) (h2 : W.heap[w.heap.size + 1 + 1]? = some (.cells #[.int .i64 j] 3 (0, 0))) (h3 : Kd.R (Kd.int .i64) 3 W w.heap.size (fun k => w.heap.size + 1 + 1 + 1 + 1 ≤ k) v o) (h4 : Below w.heap.size w W) (h5 : w.heap.size + 1 + 1 + 1 + 1 ≤ W.heap.size)
  (hy : ((pre ++ [x]).length : Int) = y) (ho : out (pre ++ [x]).length = o) :
  KeepsFrom C W (W.setCell ⟨w.heap.size + 1 + 1, 0, none⟩ (.int .i64 y)) ∧ KpT w.heap.size W (W.setCell ⟨w.heap.size + 1 + 1, 0, none⟩ (.int .i64 y)) ∧ FrI w l0 A0 c0 out (pre ++ [x]) (W.setCell ⟨w.heap.size + 1 + 1, 0, none⟩ (.int .i64 y)) := by
 refine ⟨(KeepsOthers.setCell _ _ _).from _, kpt_set h2 (by omega) (by decide) (by decide), v, heap_set h0 (by show w.heap.size ≠ w.heap.size + 1 + 1; omega), heap_set h1 (by show w.heap.size + 1 ≠ w.heap.size + 1 + 1; omega), ?_, ?_, h4.setCell (p := ⟨w.heap.size + 1 + 1, 0, none⟩) (by show w.heap.size ≤ w.heap.size + 1 + 1; omega) _, Nat.le_trans h5 (((Below.refl _ W).setCell (p := ⟨w.heap.size + 1 + 1, 0, none⟩) (Nat.le_refl _) _ : Below (w.heap.size + 1 + 1) W _).size)⟩
 ·rw [hy]; exact gp_put1 h2
 ·rw [ho]; exact Kd.R_far h3 (fun k hk => by show k ≠ w.heap.size + 1 + 1; omega) _
theorem fr_snoc {w W w9 : World} {l0 : List S39} {A0 : Option Addr} {c0 : Nat} {out : Nat → List Int} {j y z : Int} {C : Nat} {pre : List (Value × Value)} {x : Value × Value} {v v1 : Value} {o : List Int} (h0 : W.heap[w.heap.size]? = some (.cells #[.slice A0 l0.length c0] 22 (0, 0))) (h1 : W.heap[w.heap.size + 1]? = some (.cells #[v] 23 (0, 0))) (h2 : W.heap[w.heap.size + 1 + 1]? = some (.cells #[.int .i64 j] 3 (0, 0))) (h3 : Kd.R (Kd.int .i64) 3 W w.heap.size (fun k => w.heap.size + 1 + 1 + 1 + 1 ≤ k) v o) (h4 : Below w.heap.size w W) (h5 : w.heap.size + 1 + 1 + 1 + 1 ≤ W.heap.size)
  (hg : W.grownBy w9 v.ownBlock) (hb9 : Below w.heap.size w w9) (hr : Kd.R (Kd.int .i64) 3 w9 w.heap.size (fun k => w.heap.size + 1 + 1 + 1 + 1 ≤ k) v1 (o ++ [z])) (hy : ((pre ++ [x]).length : Int) = y) (ho : out (pre ++ [x]).length = o ++ [z]) :
  KeepsFrom C W ((w9.setCell ⟨w.heap.size + 1, 0, none⟩ v1).setCell ⟨w.heap.size + 1 + 1, 0, none⟩ (.int .i64 y)) ∧ KpT w.heap.size W ((w9.setCell ⟨w.heap.size + 1, 0, none⟩ v1).setCell ⟨w.heap.size + 1 + 1, 0, none⟩ (.int .i64 y)) ∧ FrI w l0 A0 c0 out (pre ++ [x]) ((w9.setCell ⟨w.heap.size + 1, 0, none⟩ v1).setCell ⟨w.heap.size + 1 + 1, 0, none⟩ (.int .i64 y)) := by
 obtain ⟨q1, q2⟩ := fr_stay h1 h2 h3 h5 hg
 have hne : ∀ j, some j = v.ownBlock → w.heap.size + 1 + 1 + 1 + 1 ≤ j := fun j e => h3.1 _ e.symm
 obtain ⟨inner, how⟩ := Kd.R_own h3
 have hko : KeepsOthers W w9 := ⟨hg.size, fun k o hk ho => (hg.block k (Array.getElem?_eq_some_iff.1 hk).1 (fun e => by
  obtain ⟨cells, hc⟩ := own_typed how k e.symm
  rw [hc] at hk
  obtain rfl := Option.some.inj hk
  cases ho)).trans hk⟩
 have hkp : KpT w.heap.size W w9 := ⟨Below.grown (Below.refl _ W) hg (by omega) (fun r e => by have := hne r e.symm; omega), fun b cs t ht hb => (hg.block b (Array.getElem?_eq_some_iff.1 hb).1 (fun e => by
  obtain ⟨cells, hc⟩ := own_typed how b e.symm
  rw [hc] at hb
  injection hb with hb
  injection hb with _ hb
  rcases ht with rfl | rfl <;> cases hb)).trans hb⟩
 have q0 : w9.heap[w.heap.size]? = some (.cells #[.slice A0 l0.length c0] 22 (0, 0)) := hkp.2 _ _ _ (.inr rfl) h0
 have p1 := gp_put1 (u := v1) q1
 obtain ⟨r1, r2, r3⟩ := fr_move (C := C) (heap_set (p := ⟨w.heap.size + 1, 0, none⟩) (u := v1) q0 (by show w.heap.size ≠ w.heap.size + 1; omega)) p1 (heap_set (p := ⟨w.heap.size + 1, 0, none⟩) (u := v1) q2 (by show w.heap.size + 1 + 1 ≠ w.heap.size + 1; omega))
  (Kd.R_far (p := ⟨w.heap.size + 1, 0, none⟩) hr (fun k hk => by show k ≠ w.heap.size + 1; omega) v1) (hb9.setCell (p := ⟨w.heap.size + 1, 0, none⟩) (by show w.heap.size ≤ w.heap.size + 1; omega) v1) (Nat.le_trans (Nat.le_trans h5 hg.size) (((Below.refl _ w9).setCell (p := ⟨w.heap.size + 1, 0, none⟩) (Nat.le_refl _) _ : Below (w.heap.size + 1) w9 _).size)) hy ho
 exact ⟨((hko.trans (KeepsOthers.setCell _ _ _)).from _).trans r1, (hkp.trans (kpt_set q1 (by omega) (by decide) (by decide))).trans r2, r3⟩
theorem fr_back {w W W7 Wf : World} {C : Nat} {p : Prop} (h4 : Below w.heap.size w W) (hb : Below W.heap.size W W7) (h : KeepsFrom C W7 Wf ∧ KpT w.heap.size W7 Wf ∧ p) : KeepsFrom C W Wf ∧ KpT w.heap.size W Wf ∧ p :=
 ⟨KeepsFrom.trans ⟨hb.size, fun k o _ hk _ => (hb.block k (Array.getElem?_eq_some_iff.1 hk).1).trans hk⟩ h.1, (KpT.of_below hb h4.size).trans h.2.1, h.2.2⟩
set_option maxRecDepth 100000 in
set_option maxHeartbeats 8000000 in
theorem judge_Fresh.calls (A0 : Option Addr) (c0 : Nat) (l0 : List S39) (r : List Int) (w : World) (hr0 : Kd.C k39 w A0 l0.length l0) (hc0 : l0.length ≤ c0) (h : judge_Fresh.f l0 = some r) :
  Calls Try.prog 9 #[.slice A0 l0.length c0] w fun e w' => ∃ v0_ : Value, e = .returned v0_ ∧ Kd.R (Kd.int .i64) 3 w' w.heap.size (fun _ => True) v0_ r ∧ Below w.heap.size w w' := by
 unfold judge_Fresh.f at h
 by_cases hl : l0.length < 4398046511104
 case neg => rw [if_neg hl] at h; cases h
 rw [if_pos hl] at h
 obtain ⟨q, hq, rfl⟩ := Option.map_eq_some_iff.1 h
 obtain ⟨hcov, hfr, hr⟩ := frs_cov hq
 obtain ⟨cov, hcv⟩ : ∃ cov : Nat → List S57, (fun n => ((frs (cv_K l0) l0 n).getD ([], [])).1) = cov := ⟨_, rfl⟩
 obtain ⟨out, hout⟩ : ∃ out : Nat → List Int, (fun n => ((frs (cv_K l0) l0 n).getD ([], [])).2) = out := ⟨_, rfl⟩
 rw [hcv] at hcov hfr
 rw [hout] at hfr
 have hr : out l0.length = q.2 := by rw [← hout]; exact hr
 rw [← hr]
 have HCV := Lib.hid hcov; have HFR := Lib.hid hfr; have HL := Lib.hid hl
 have HC := Lib.hid hr0
 clear h hcv hout hcov hr0 hr hq hfr hl
 refine callsIn_wide (n := 9).1 ?_
 refine callsIn_of_wp_marks Try.func9 rfl trivial ?_ rfl
 refine wpIn_wide.2 ?_
 simp only [Try.ntmps9, List.size_toArray, List.length_cons, List.length_nil, Nat.reduceAdd, Nat.reduceSub, Array.replicate_succ, Array.replicate_zero, List.push_toArray, List.append_toArray, List.nil_append, List.cons_append]
 go_wp2_with ((go_at_call 27; refine (cv_call _ _ rfl).mono ?_; rintro e w3 ⟨rfl, hw'⟩))
 have h5 := gp_four w (.cells #[.slice A0 l0.length c0] 22) (.cells #[.slice none 0 0] 23) (.cells #[.int .i64 0] 3) (.cells #[.slice A0 l0.length c0] 22)
 try simp only [World.size_alloc]
 obtain ⟨W0, hW0⟩ : ∃ W0, ((((w.alloc (.cells #[.slice A0 l0.length c0] 22)).alloc (.cells #[.slice none 0 0] 23)).alloc (.cells #[.int .i64 0] 3)).alloc (.cells #[.slice A0 l0.length c0] 22)) = W0 := ⟨_, rfl⟩
 rw [hW0] at hw'
 subst hw'
 simp only [hW0] at h5
 have HF := Lib.hid h5
 have HI0 := Lib.hid (show FrI w l0 A0 c0 out [] W0 from ⟨_, HF.out.1, HF.out.2.1, HF.out.2.2.1, by rw [show out ([] : List (Value × Value)).length = [] from HFR.out.1]; exact Kd.R_nil _ _ _ _ _, HF.out.2.2.2.2.2, Nat.le_of_eq HF.out.2.2.2.2.1.symm⟩)
 clear hW0 h5
 refine wpIn_wide (n := 9).1 ?_
 refine range_tells (α := Value × Value) (encs := fun x => #[x.1, x.2]) (Kp := KpT w.heap.size) (G := fun pre x W => pre.length < l0.length ∧ Kd.R k57 57 W w.heap.size (fun _ => True) x.1 (cov pre.length) ∧ Kd.R k57 57 W w.heap.size (fun _ => True) x.2 (cov (pre.length + 1))) (S := fun ys => ys.length = l0.length)
  (by omega) (gf := 47) (lb := #[.pointer (some ⟨w.heap.size + 1 + 1 + 1, 0, none⟩)]) rfl (enters_of Try.func47 (by kernel_rfl) rfl)
  (cv_tells 8 (by omega) (w.heap.size + 1 + 1 + 1) A0 c0 l0 cov HCV.out w W0 HF.out.2.2.2.1 HC.out HF.out.2.2.2.2.2)
  KpT.trans (KpT.put HF.out.2.2.2.2.2.size) (fun _ => rfl)
  (fun pre W => FrI w l0 A0 c0 out pre W) (fun s A B row hs hg hr => hs.grown hg (fun r e => ⟨Nat.le_trans HF.out.2.2.2.2.2.size (hr r e).1, (hr r e).2⟩)) HI0.out
  (fun pre x a' W => a' = { tmps := #[.slice A0 l0.length c0, .pointer (some ⟨w.heap.size, 0, none⟩), .slice none 0 0, .pointer (some ⟨w.heap.size + 1, 0, none⟩), .pointer (some ⟨w.heap.size + 1 + 1, 0, none⟩), x.1, .slice A0 l0.length c0, .func (.func 47) #[] #[.pointer (some ⟨w.heap.size + 1 + 1 + 1, 0, none⟩)], x.1, x.2, undef, undef, undef, undef, undef, undef, undef, undef, undef, undef, undef, undef, undef, undef, undef, undef, undef, undef, undef, undef, undef, undef], defers := [] } ∧ pre.length < l0.length ∧ Kd.R k57 57 W w.heap.size (fun _ => True) x.1 (cov pre.length))
  (fun pre x a' s A B row hs hg hr => ⟨hs.1, hs.2.1, R_own' hs.2.2 hg (fun r e => (hr r e).2)⟩) ?assign ?body ?done
 case assign =>
  intro l pre x W K hI hG hK
  gi_wp2
  exact hK _ _ (KeepsFrom.refl _ _) (KpT.refl _ _) hI ⟨rfl, hG.1, hG.2.1⟩
 case body =>
  rintro l pre ⟨x1, x2⟩ a' W ⟨v, h0, h1, h2, h3, h4, h5⟩ ⟨rfl, hlt, hx⟩
  dsimp only at hx
  obtain ⟨k, hkk⟩ : ∃ k, pre.length = k := ⟨_, rfl⟩
  rw [hkk] at hlt hx h2 h3
  obtain ⟨ad, A1, c1, had, hx0, hx1, hx2, hx3, hx4, hx5, hx6, _⟩ := at_T39 HC.out (k : Int) (by omega) (by omega)
  obtain rfl := had
  have hg : l0.getD k z39 = l0[k] := by rw [List.getD_eq_getElem?_getD, List.getElem?_eq_getElem hlt]; rfl
  have hrd : rd_T39 l0 (k : Int) = l0[k] := by rw [← hg]; rfl
  replace hx2 := (h4.cell (World.block_lt_of_cell? w _ hx2)).trans hx2
  replace hx3 := (h4.cell (World.block_lt_of_cell? w _ hx3)).trans hx3
  simp only [Int.toNat_natCast, hrd] at hx2 hx3
  obtain ⟨g, hgp, hle, hnext⟩ := HFR.out.2 k hlt
  obtain ⟨x, hxx⟩ : ∃ x, l0[k] = x := ⟨_, rfl⟩
  rw [hxx] at hx2 hx3 hgp
  obtain ⟨cv, hcv⟩ : ∃ cv, cov k = cv := ⟨_, rfl⟩
  rw [hcv] at hx hgp
  obtain ⟨o, ho⟩ : ∃ o, out k = o := ⟨_, rfl⟩
  rw [ho] at hle hnext h3
  obtain ⟨Aa, ca, rfl, hca, hCa⟩ := Kd.R_reads hx
  have k0 := (blk_cell h0 0).trans rfl
  have k1 := (blk_cell h1 0).trans rfl
  have kf1 := blk_frozen h1 0
  have k2 := (blk_cell h2 0).trans rfl
  have kf2 := blk_frozen h2 0
  have H0 := Lib.hid h0; have H1 := Lib.hid h1; have H2 := Lib.hid h2; have H3 := Lib.hid h3; have H4 := Lib.hid h4; have H5 := Lib.hid h5; have HKK := Lib.hid hkk
  have HX := Lib.hid hx; have HGP := Lib.hid hgp; have HOL := Lib.hid hle; have HNE := Lib.hid hnext; have HLE := Lib.hid hca; have HCA := Lib.hid hCa; have HLT := Lib.hid hlt
  have hlt' : (k : Int) < l0.length := by omega
  clear h0 h1 h2 h3 h4 h5 hkk hx hgp hle hnext hca hCa hx0 hx1 hx4 hx5 hx6 hg hrd hxx hcv ho
  refine wpIn_block ?_
  refine wpIn_seq ?_
  refine wpIn_seq ?_
  by_cases hq : 0 < g.length
  ·have hqi : (g.length : Int) > 0 := by omega
   refine start_r (m := 15) (S := fun w' => w'.cell? ⟨w.heap.size, 0, none⟩ = some (.slice (some ad) l0.length c0) ∧ w'.cell? ⟨w.heap.size + 1 + 1, 0, none⟩ = some (.int .i64 (k : Int)) ∧ w'.cell? ⟨(ad.add (k * 7)).block, (ad.add (k * 7)).off + 2, none⟩ = some (.int .i64 x.f2) ∧ w'.cell? ⟨(ad.add (k * 7)).block, (ad.add (k * 7)).off + 3, none⟩ = some (.int .i64 x.f3)) (ds := [12]) #[O,O,O,O,O,O,O,O,O,O,O,O,O,O,O] (by rintro ⟨_, _, h⟩; exact h) (by rfl) (by kernel_rfl) rfl rfl ⟨k0, k2, hx2, hx3⟩ (fun hHeld => ?_)
   refine pure_ (i := 0) (N := some 10) (v := ?_) (a' := ?_) #[I,O,O,O,O,O,O,O,O,O,O,O,O,O,O] rfl rfl (by kernel_rfl) (fun _ _ _ h => h) (Or.inl ⟨by rfl, ?_⟩) ?_ ?_
   rotate_left
   ·intro w'
    go_simp
    with_reducible rfl
   rotate_left
   ·simp only [Act.put, sA_, sZ_, sS_, i64_w, i32_w]
    rfl
   refine take_ (i := 1) (N := some 11) (v := ?_) (a' := ?_) #[I,I,O,O,O,O,O,O,O,O,O,O,O,O,O] rfl rfl (by kernel_rfl) (fun _ _ _ h => h) (Or.inl ⟨by rfl, ?_⟩) hHeld ?_ ?_
   rotate_left
   ·rintro w' ⟨s0, s1, s2, s3⟩
    go_simp
    with_reducible rfl
   rotate_left
   ·simp only [Act.put, sA_, sZ_, sS_, i64_w, i32_w]
    rfl
   refine take_ (i := 2) (N := some 12) (v := ?_) (a' := ?_) #[I,I,I,O,O,O,O,O,O,O,O,O,O,O,O] rfl rfl (by kernel_rfl) (fun _ _ _ h => h) (Or.inl ⟨by rfl, ?_⟩) hHeld ?_ ?_
   rotate_left
   ·rintro w' ⟨s0, s1, s2, s3⟩
    go_simp
    with_reducible rfl
   rotate_left
   ·simp only [Act.put, sA_, sZ_, sS_, i64_w, i32_w]
    rfl
   refine pure_ (i := 3) (N := some 13) (v := ?_) (a' := ?_) #[I,I,I,I,O,O,O,O,O,O,O,O,O,O,O] rfl rfl (by kernel_rfl) (fun _ _ _ h => h) (Or.inl ⟨by rfl, ?_⟩) ?_ ?_
   rotate_left
   ·intro w'
    go_simp
    with_reducible rfl
   rotate_left
   ·simp only [Act.put, sA_, sZ_, sS_, i64_w, i32_w]
    rfl
   refine pure_ (i := 4) (N := some 14) (v := ?_) (a' := ?_) #[I,I,I,I,I,O,O,O,O,O,O,O,O,O,O] rfl rfl (by kernel_rfl) (fun _ _ _ h => h) (Or.inl ⟨by rfl, ?_⟩) ?_ ?_
   rotate_left
   ·intro w'
    go_simp
    with_reducible rfl
   rotate_left
   ·simp only [Act.put, sA_, sZ_, sS_, i64_w, i32_w]
    rfl
   refine take_ (i := 5) (N := some 15) (v := ?_) (a' := ?_) #[I,I,I,I,I,I,O,O,O,O,O,O,O,O,O] rfl rfl (by kernel_rfl) (fun _ _ _ h => h) (Or.inl ⟨by rfl, ?_⟩) hHeld ?_ ?_
   rotate_left
   ·rintro w' ⟨s0, s1, s2, s3⟩
    go_simp
    with_reducible rfl
   rotate_left
   ·simp only [Act.put, sA_, sZ_, sS_, i64_w, i32_w]
    rfl
   refine take_ (i := 6) (N := some 16) (v := ?_) (a' := ?_) #[I,I,I,I,I,I,I,O,O,O,O,O,O,O,O] rfl rfl (by kernel_rfl) (fun _ _ _ h => h) (Or.inl ⟨by rfl, ?_⟩) hHeld ?_ ?_
   rotate_left
   ·rintro w' ⟨s0, s1, s2, s3⟩
    go_simp
    with_reducible rfl
   rotate_left
   ·simp only [Act.put, sA_, sZ_, sS_, i64_w, i32_w]
    rfl
   refine take_ (i := 7) (N := some 17) (v := ?_) (a' := ?_) #[I,I,I,I,I,I,I,I,O,O,O,O,O,O,O] rfl rfl (by kernel_rfl) (fun _ _ _ h => h) (Or.inl ⟨by rfl, ?_⟩) hHeld ?_ ?_
   rotate_left
   ·rintro w' ⟨s0, s1, s2, s3⟩
    go_simp
    with_reducible rfl
   rotate_left
   ·simp only [Act.put, sA_, sZ_, sS_, i64_w, i32_w]
    rfl
   refine pure_ (i := 8) (N := some 18) (v := ?_) (a' := ?_) #[I,I,I,I,I,I,I,I,I,O,O,O,O,O,O] rfl rfl (by kernel_rfl) (fun _ _ _ h => h) (Or.inl ⟨by rfl, ?_⟩) ?_ ?_
   rotate_left
   ·intro w'
    go_simp
    with_reducible rfl
   rotate_left
   ·simp only [Act.put, sA_, sZ_, sS_, i64_w, i32_w]
    rfl
   refine pure_ (i := 9) (N := some 19) (v := ?_) (a' := ?_) #[I,I,I,I,I,I,I,I,I,I,O,O,O,O,O] rfl rfl (by kernel_rfl) (fun _ _ _ h => h) (Or.inl ⟨by rfl, ?_⟩) ?_ ?_
   rotate_left
   ·intro w'
    go_simp
    with_reducible rfl
   rotate_left
   ·simp only [Act.put, sA_, sZ_, sS_, i64_w, i32_w]
    rfl
   refine take_ (i := 10) (N := some 20) (v := ?_) (a' := ?_) #[I,I,I,I,I,I,I,I,I,I,I,O,O,O,O] rfl rfl (by kernel_rfl) (fun _ _ _ h => h) (Or.inl ⟨by rfl, ?_⟩) hHeld ?_ ?_
   rotate_left
   ·rintro w' ⟨s0, s1, s2, s3⟩
    go_simp
    with_reducible rfl
   rotate_left
   ·simp only [Act.put, sA_, sZ_, sS_, i64_w, i32_w]
    rfl
   refine pure_ (i := 11) (N := some 21) (v := ?_) (a' := ?_) #[I,I,I,I,I,I,I,I,I,I,I,I,O,O,O] rfl rfl (by kernel_rfl) (fun _ _ _ h => h) (Or.inl ⟨by rfl, ?_⟩) ?_ ?_
   rotate_left
   ·intro w'
    go_simp
    with_reducible rfl
   rotate_left
   ·simp only [Act.put, sA_, sZ_, sS_, i64_w, i32_w]
    rfl
   refine last_ (i := 12) (N := some 22) #[I,I,I,I,I,I,I,I,I,I,I,I,I,O,O] rfl rfl (by kernel_rfl) (by decide) (fun K hK => ?_)
   refine goes_ Try.func28 (by kernel_rfl) rfl #[.slice Aa cv.length ca, .agg #[.int .i64 x.f2, .int .i64 x.f3]] (by rfl) rfl rfl (by simp only [List.map_toArray, List.map_cons, List.map_nil]; rfl) ?_
   with_reducible refine (span_Gaps.calls Aa ca cv x.f2 x.f3 g _ (Kd.C_below HCA.out (below_drew1 (Below.refl _ _))) HLE.out HGP.out).mono ?_
   rintro e W7 ⟨v7, rfl, hR7, hb7⟩
   obtain ⟨A7, c7, rfl⟩ := Kd.R_slice hR7
   have HB7 := Lib.hid ((below_drew1 (Below.refl W.heap.size W)).trans hb7)
   clear hR7 hb7
   refine ⟨_, rfl, ?_⟩
   refine hK.out _ _ ?_
   clear hK K
   refine norm_ (a' := ?_) ?_ ?_
   rotate_left
   ·show Act.put _ (some 22) _ = _
    simp only [Act.put, sA_, sZ_, sS_, i64_w, i32_w]
    rfl
   refine pure_ (i := 13) (N := some 23) (v := ?_) (a' := ?_) #[I,I,I,I,I,I,I,I,I,I,I,I,I,I,O] rfl rfl (by kernel_rfl) (fun _ _ _ h => h) (Or.inl ⟨by rfl, ?_⟩) ?_ ?_
   rotate_left
   ·intro w'
    go_simp
    with_reducible rfl
   rotate_left
   ·simp only [Act.put, sA_, sZ_, sS_, i64_w, i32_w]
    rfl
   refine pure_ (i := 14) (N := some 24) (v := ?_) (a' := ?_) #[I,I,I,I,I,I,I,I,I,I,I,I,I,I,I] rfl rfl (by kernel_rfl) (fun _ _ _ h => h) (Or.inl ⟨by rfl, ?_⟩) ?_ ?_
   rotate_left
   ·intro w'
    go_simp
    with_reducible rfl
   rotate_left
   ·simp only [Act.put, sA_, sZ_, sS_, i64_w, i32_w]
    rfl
   refine done_ (by kernel_rfl) ?_
   have hw1 : wrap64 ((k : Int) + 1) = ((k + 1 : Nat) : Int) := by have := HL.out; rw [sp_wrap (by omega) (by omega)]; rfl
   simp only [Exit.then]
   have H17 := Lib.hid (sp_hb HB7.out H1.out); have H27 := Lib.hid (sp_hb HB7.out H2.out); have H07 := Lib.hid (sp_hb HB7.out H0.out); have H37 := Lib.hid (Kd.R_below H3.out HB7.out)
   have HB4 := Lib.hid (H4.out.trans (HB7.out.mono H4.out.size)); have H57 := Lib.hid (Nat.le_trans H5.out HB7.out.size)
   have k17 := (blk_cell H17.out 0).trans rfl
   have kf17 := blk_frozen H17.out 0
   have k27 := (blk_cell H27.out 0).trans rfl
   have kf27 := blk_frozen H27.out 0
   have HW := Lib.hid hw1
   clear k0 k1 kf1 k2 kf2 hx2 hx3 hHeld hw1
   refine wpIn_cond_true (by first | rfl | simp [go_sem, hq]) ?_
   refine list_r (by rintro ⟨_, _, h⟩; exact h) (by rfl) ?_
   go_wp2_with ((with_reducible refine gate_builtin (b := .append) (xs := #[.tmp 25, .tmp 27]) rfl ?_); at_builtin; refine Kd.R_append (Kd.int .i64) (w0 := w) w.heap.size rfl (.tmp 25) (.tmp 27) 23 3 (.int .i64 0) 8 rfl Try.underlying23 info3 rfl (by decide) (by omega) v o (k : Int) [.int .i64 (k : Int)] (fun k => w.heap.size + 1 + 1 + 1 + 1 ≤ k) (fun _ => False) rfl rfl ?aP (fun _ hk => hk.elim) ?aF ?aO ?aB ?aS ?aL ?_; (case aP => exact rfl); (case aB => exact HB4.out); (case aF => exact (fun k hk => Nat.le_trans H57.out hk)); (case aO => exact H37.out); (case aS => exact HB4.out.size); (case aL => have q1 := HL.out; have q2 := HOL.out; have q3 := HLT.out; omega); intro v1 w9 ho hb9 hg hat; obtain ⟨A8, c8, rfl⟩ := Kd.R_slice ho; have HO := Lib.hid ho; have HB9 := Lib.hid hb9; have HG := Lib.hid hg; obtain ⟨k8, kf8, k9, kf9⟩ := fr_at (v1 := .slice A8 (o.length + 1) c8) H17.out H27.out H37.out H57.out HG.out; clear ho hb9 hg hat)
   refine list_r (by rintro ⟨_, _, h⟩; exact h) (by rfl) ?_
   go_wp2
   have HQ := Lib.hid hq
   simp only [HW.out]
   exact fr_back H4.out HB7.out (fr_snoc H07.out H17.out H27.out H37.out HB4.out H57.out HG.out HB9.out (by have := HO.out; rwa [List.length_append, List.length_singleton] at this) (by rw [List.length_append, HKK.out]; rfl) (by rw [List.length_append, HKK.out]; exact HNE.out.trans (if_pos HQ.out)))
  ·have hqi : ¬ (g.length : Int) > 0 := by omega
   refine start_r (m := 15) (S := fun w' => w'.cell? ⟨w.heap.size, 0, none⟩ = some (.slice (some ad) l0.length c0) ∧ w'.cell? ⟨w.heap.size + 1 + 1, 0, none⟩ = some (.int .i64 (k : Int)) ∧ w'.cell? ⟨(ad.add (k * 7)).block, (ad.add (k * 7)).off + 2, none⟩ = some (.int .i64 x.f2) ∧ w'.cell? ⟨(ad.add (k * 7)).block, (ad.add (k * 7)).off + 3, none⟩ = some (.int .i64 x.f3)) (ds := [12]) #[O,O,O,O,O,O,O,O,O,O,O,O,O,O,O] (by rintro ⟨_, _, h⟩; exact h) (by rfl) (by kernel_rfl) rfl rfl ⟨k0, k2, hx2, hx3⟩ (fun hHeld => ?_)
   refine pure_ (i := 0) (N := some 10) (v := ?_) (a' := ?_) #[I,O,O,O,O,O,O,O,O,O,O,O,O,O,O] rfl rfl (by kernel_rfl) (fun _ _ _ h => h) (Or.inl ⟨by rfl, ?_⟩) ?_ ?_
   rotate_left
   ·intro w'
    go_simp
    with_reducible rfl
   rotate_left
   ·simp only [Act.put, sA_, sZ_, sS_, i64_w, i32_w]
    rfl
   refine take_ (i := 1) (N := some 11) (v := ?_) (a' := ?_) #[I,I,O,O,O,O,O,O,O,O,O,O,O,O,O] rfl rfl (by kernel_rfl) (fun _ _ _ h => h) (Or.inl ⟨by rfl, ?_⟩) hHeld ?_ ?_
   rotate_left
   ·rintro w' ⟨s0, s1, s2, s3⟩
    go_simp
    with_reducible rfl
   rotate_left
   ·simp only [Act.put, sA_, sZ_, sS_, i64_w, i32_w]
    rfl
   refine take_ (i := 2) (N := some 12) (v := ?_) (a' := ?_) #[I,I,I,O,O,O,O,O,O,O,O,O,O,O,O] rfl rfl (by kernel_rfl) (fun _ _ _ h => h) (Or.inl ⟨by rfl, ?_⟩) hHeld ?_ ?_
   rotate_left
   ·rintro w' ⟨s0, s1, s2, s3⟩
    go_simp
    with_reducible rfl
   rotate_left
   ·simp only [Act.put, sA_, sZ_, sS_, i64_w, i32_w]
    rfl
   refine pure_ (i := 3) (N := some 13) (v := ?_) (a' := ?_) #[I,I,I,I,O,O,O,O,O,O,O,O,O,O,O] rfl rfl (by kernel_rfl) (fun _ _ _ h => h) (Or.inl ⟨by rfl, ?_⟩) ?_ ?_
   rotate_left
   ·intro w'
    go_simp
    with_reducible rfl
   rotate_left
   ·simp only [Act.put, sA_, sZ_, sS_, i64_w, i32_w]
    rfl
   refine pure_ (i := 4) (N := some 14) (v := ?_) (a' := ?_) #[I,I,I,I,I,O,O,O,O,O,O,O,O,O,O] rfl rfl (by kernel_rfl) (fun _ _ _ h => h) (Or.inl ⟨by rfl, ?_⟩) ?_ ?_
   rotate_left
   ·intro w'
    go_simp
    with_reducible rfl
   rotate_left
   ·simp only [Act.put, sA_, sZ_, sS_, i64_w, i32_w]
    rfl
   refine take_ (i := 5) (N := some 15) (v := ?_) (a' := ?_) #[I,I,I,I,I,I,O,O,O,O,O,O,O,O,O] rfl rfl (by kernel_rfl) (fun _ _ _ h => h) (Or.inl ⟨by rfl, ?_⟩) hHeld ?_ ?_
   rotate_left
   ·rintro w' ⟨s0, s1, s2, s3⟩
    go_simp
    with_reducible rfl
   rotate_left
   ·simp only [Act.put, sA_, sZ_, sS_, i64_w, i32_w]
    rfl
   refine take_ (i := 6) (N := some 16) (v := ?_) (a' := ?_) #[I,I,I,I,I,I,I,O,O,O,O,O,O,O,O] rfl rfl (by kernel_rfl) (fun _ _ _ h => h) (Or.inl ⟨by rfl, ?_⟩) hHeld ?_ ?_
   rotate_left
   ·rintro w' ⟨s0, s1, s2, s3⟩
    go_simp
    with_reducible rfl
   rotate_left
   ·simp only [Act.put, sA_, sZ_, sS_, i64_w, i32_w]
    rfl
   refine take_ (i := 7) (N := some 17) (v := ?_) (a' := ?_) #[I,I,I,I,I,I,I,I,O,O,O,O,O,O,O] rfl rfl (by kernel_rfl) (fun _ _ _ h => h) (Or.inl ⟨by rfl, ?_⟩) hHeld ?_ ?_
   rotate_left
   ·rintro w' ⟨s0, s1, s2, s3⟩
    go_simp
    with_reducible rfl
   rotate_left
   ·simp only [Act.put, sA_, sZ_, sS_, i64_w, i32_w]
    rfl
   refine pure_ (i := 8) (N := some 18) (v := ?_) (a' := ?_) #[I,I,I,I,I,I,I,I,I,O,O,O,O,O,O] rfl rfl (by kernel_rfl) (fun _ _ _ h => h) (Or.inl ⟨by rfl, ?_⟩) ?_ ?_
   rotate_left
   ·intro w'
    go_simp
    with_reducible rfl
   rotate_left
   ·simp only [Act.put, sA_, sZ_, sS_, i64_w, i32_w]
    rfl
   refine pure_ (i := 9) (N := some 19) (v := ?_) (a' := ?_) #[I,I,I,I,I,I,I,I,I,I,O,O,O,O,O] rfl rfl (by kernel_rfl) (fun _ _ _ h => h) (Or.inl ⟨by rfl, ?_⟩) ?_ ?_
   rotate_left
   ·intro w'
    go_simp
    with_reducible rfl
   rotate_left
   ·simp only [Act.put, sA_, sZ_, sS_, i64_w, i32_w]
    rfl
   refine take_ (i := 10) (N := some 20) (v := ?_) (a' := ?_) #[I,I,I,I,I,I,I,I,I,I,I,O,O,O,O] rfl rfl (by kernel_rfl) (fun _ _ _ h => h) (Or.inl ⟨by rfl, ?_⟩) hHeld ?_ ?_
   rotate_left
   ·rintro w' ⟨s0, s1, s2, s3⟩
    go_simp
    with_reducible rfl
   rotate_left
   ·simp only [Act.put, sA_, sZ_, sS_, i64_w, i32_w]
    rfl
   refine pure_ (i := 11) (N := some 21) (v := ?_) (a' := ?_) #[I,I,I,I,I,I,I,I,I,I,I,I,O,O,O] rfl rfl (by kernel_rfl) (fun _ _ _ h => h) (Or.inl ⟨by rfl, ?_⟩) ?_ ?_
   rotate_left
   ·intro w'
    go_simp
    with_reducible rfl
   rotate_left
   ·simp only [Act.put, sA_, sZ_, sS_, i64_w, i32_w]
    rfl
   refine last_ (i := 12) (N := some 22) #[I,I,I,I,I,I,I,I,I,I,I,I,I,O,O] rfl rfl (by kernel_rfl) (by decide) (fun K hK => ?_)
   refine goes_ Try.func28 (by kernel_rfl) rfl #[.slice Aa cv.length ca, .agg #[.int .i64 x.f2, .int .i64 x.f3]] (by rfl) rfl rfl (by simp only [List.map_toArray, List.map_cons, List.map_nil]; rfl) ?_
   with_reducible refine (span_Gaps.calls Aa ca cv x.f2 x.f3 g _ (Kd.C_below HCA.out (below_drew1 (Below.refl _ _))) HLE.out HGP.out).mono ?_
   rintro e W7 ⟨v7, rfl, hR7, hb7⟩
   obtain ⟨A7, c7, rfl⟩ := Kd.R_slice hR7
   have HB7 := Lib.hid ((below_drew1 (Below.refl W.heap.size W)).trans hb7)
   clear hR7 hb7
   refine ⟨_, rfl, ?_⟩
   refine hK.out _ _ ?_
   clear hK K
   refine norm_ (a' := ?_) ?_ ?_
   rotate_left
   ·show Act.put _ (some 22) _ = _
    simp only [Act.put, sA_, sZ_, sS_, i64_w, i32_w]
    rfl
   refine pure_ (i := 13) (N := some 23) (v := ?_) (a' := ?_) #[I,I,I,I,I,I,I,I,I,I,I,I,I,I,O] rfl rfl (by kernel_rfl) (fun _ _ _ h => h) (Or.inl ⟨by rfl, ?_⟩) ?_ ?_
   rotate_left
   ·intro w'
    go_simp
    with_reducible rfl
   rotate_left
   ·simp only [Act.put, sA_, sZ_, sS_, i64_w, i32_w]
    rfl
   refine pure_ (i := 14) (N := some 24) (v := ?_) (a' := ?_) #[I,I,I,I,I,I,I,I,I,I,I,I,I,I,I] rfl rfl (by kernel_rfl) (fun _ _ _ h => h) (Or.inl ⟨by rfl, ?_⟩) ?_ ?_
   rotate_left
   ·intro w'
    go_simp
    with_reducible rfl
   rotate_left
   ·simp only [Act.put, sA_, sZ_, sS_, i64_w, i32_w]
    rfl
   refine done_ (by kernel_rfl) ?_
   have hw1 : wrap64 ((k : Int) + 1) = ((k + 1 : Nat) : Int) := by have := HL.out; rw [sp_wrap (by omega) (by omega)]; rfl
   simp only [Exit.then]
   have H17 := Lib.hid (sp_hb HB7.out H1.out); have H27 := Lib.hid (sp_hb HB7.out H2.out); have H07 := Lib.hid (sp_hb HB7.out H0.out); have H37 := Lib.hid (Kd.R_below H3.out HB7.out)
   have HB4 := Lib.hid (H4.out.trans (HB7.out.mono H4.out.size)); have H57 := Lib.hid (Nat.le_trans H5.out HB7.out.size)
   have k17 := (blk_cell H17.out 0).trans rfl
   have kf17 := blk_frozen H17.out 0
   have k27 := (blk_cell H27.out 0).trans rfl
   have kf27 := blk_frozen H27.out 0
   have HW := Lib.hid hw1
   clear k0 k1 kf1 k2 kf2 hx2 hx3 hHeld hw1
   refine wpIn_cond_false (by first | rfl | simp [go_sem, hq]) ?_
   refine wpIn_skip ?_
   refine list_r (by rintro ⟨_, _, h⟩; exact h) (by rfl) ?_
   go_wp2
   have HQ := Lib.hid hq
   simp only [HW.out]
   exact fr_back H4.out HB7.out (fr_move H07.out H17.out H27.out H37.out HB4.out H57.out (by rw [List.length_append, HKK.out]; rfl) (by rw [List.length_append, HKK.out]; exact HNE.out.trans (if_neg (show ¬ 0 < g.length by have := HQ.out; omega))))
 case done =>
  rintro D ys W hD hys hI hK
  have HI := Lib.hid hI; have HK := Lib.hid hK
  obtain ⟨v, h0, h1, h2, h3, h4, h5⟩ := hI
  rw [hys] at h3
  have k0 := (blk_cell h1 0).trans rfl
  have H3 := Lib.hid h3; have H4 := Lib.hid h4
  clear h0 h1 h2 h3 h4 h5 hK hys
  simp only [Exit.inBlock, Exit.then]
  go_wp2
  refine ⟨by simp, .inl ⟨_, _, rfl, run_takeDeferred HK.out, ?_⟩⟩
  exact ⟨_, results_tmp rfl _ _ _, _, rfl, Kd.R_mono (R_own' H3.out (grownBy_putObj' W D (.deferred none)) (fun r e => by cases e; exact ⟨_, HK.out, rfl⟩)) (fun _ _ => trivial), H4.out.grown (grownBy_putObj' W D (.deferred none)) H4.out.size (fun r e => by cases e; exact Nat.le_trans HF.out.2.2.2.2.2.size hD)⟩
end

end Go.Proofs.Ytflmfbcapccdeaa.PA

/- board's records, in plain words. -/
import Derived.Test.YtgpbighdegdlfaaPAx9
import Derived.Test.YtgpbighdegdlfaaPAx6
import Derived.Test.YtgpbighdegdlfaaPAx10
import Derived.Test.YtgpbighdegdlfaaPAx15
import Derived.Test.YtgpbighdegdlfaaPAx18
set_option linter.unusedVariables false
set_option linter.unusedSimpArgs false
set_option autoImplicit false
namespace Go.Proofs.Ytgpbighdegdlfaa.BoardFacts
open Go.RowKit Go.Proofs.Ytgpbighdegdlfaa.PA Go.Proofs.YtgpbighdegdlfaaW.PrintWords Go.Proofs.YtgpbighdegdlfaaW.PrintMore
abbrev X := S38
abbrev Sp := S56
def WfX (x : X) : Prop := ((Lit.int .i64 x.f0).wf = true) ∧ ((Lit.int .i64 x.f1).wf = true) ∧ (True) ∧ ((Lit.int .i64 x.f3).wf = true) ∧ ((Lit.int .i64 x.f4).wf = true) ∧ (True) ∧ (True) ∧ (True) ∧ ((Lit.int .i64 x.f8).wf = true) ∧ ((Lit.int .i64 x.f9).wf = true) ∧ ((Lit.int .i64 x.f10).wf = true) ∧ (True)
def WfL (l : List X) : Prop := (∀ x ∈ l, WfX x) ∧ l.length * 80 ≤ 140737488351232 ∧ l.length ≤ 9223372036854775807
theorem wf64 {c : Int} (h : (Lit.int .i64 c).wf = true) : -9223372036854775808 ≤ c ∧ c ≤ 9223372036854775807 := by simpa [Lit.wf, IntKind.min, IntKind.max, IntKind.signed, IntKind.bits] using h
theorem w64 {n : Int} (h0 : -9223372036854775808 ≤ n) (h1 : n ≤ 9223372036854775807) : wrap64 n = n := by unfold wrap64; omega
theorem ww (a b : Int) : wrap64 (wrap64 a + wrap64 b) = wrap64 (a + b) := by unfold wrap64; omega
theorem ww1 (a b : Int) : wrap64 (wrap64 a + b) = wrap64 (a + b) := by unfold wrap64; omega
theorem ww2 (a b : Int) : wrap64 (wrap64 a - b) = wrap64 (a - b) := by unfold wrap64; omega
theorem ww3 (a b : Int) : wrap64 (wrap64 a - wrap64 b) = wrap64 (a - b) := by unfold wrap64; omega
def g (l : List X) (i : Nat) : X := l.getD i z38
theorem rd_g (l : List X) (i : Nat) : rd_T38 l (i : Int) = g l i := by rw [rd_T38, Int.toNat_natCast]; rfl
theorem g_get {l : List X} {i : Nat} (h : i < l.length) : g l i = l[i] := by rw [g, List.getD_eq_getElem?_getD, List.getElem?_eq_getElem h]; rfl
theorem g_map {l : List X} (f : X → X) {i : Nat} (h : i < l.length) : g (l.map f) i = f (g l i) := by rw [g_get (by rw [List.length_map]; exact h), g_get h, List.getElem_map]
/- the check -/
theorem chk_iff (l : List X) : bd_chk l = 0 ↔ l.length ≤ 65536 ∧ ∀ i, i < l.length → bd_ok l i = true := by
  unfold bd_chk
  by_cases h : (l.length : Int) > 65536
  · rw [if_pos h]; constructor
    · intro h; exact absurd h (by decide)
    · intro hh; omega
  · rw [if_neg h]
    by_cases h2 : (List.range l.length).all (bd_ok l) = true
    · rw [if_pos h2]; exact ⟨fun _ => ⟨by omega, fun i hi => List.all_eq_true.1 h2 i (List.mem_range.2 hi)⟩, fun _ => rfl⟩
    · rw [if_neg h2]; constructor
      · intro h; exact absurd h (by decide)
      · intro hh; exact absurd (List.all_eq_true.2 fun i hi => hh.2 i (List.mem_range.1 hi)) h2
theorem chk_no {l : List X} (h : bd_chk l ≠ 0) : bd_chk l = 100 := by
  unfold bd_chk at h ⊢
  split
  · rfl
  · split
    · rename_i h1 h2; rw [if_neg h1, if_pos h2] at h; exact absurd rfl h
    · rfl
def Tm (t : Int) : Prop := 0 ≤ t ∧ t ≤ 1125899906842624
instance : DecidablePred Tm := fun t => by unfold Tm; infer_instance
theorem may_iff (x : X) : bd_may x = true ↔ 0 ≤ x.f0 ∧ x.f0 < x.f1 ∧ x.f1 ≤ 1125899906842625 ∧ 1 ≤ x.f4 ∧ (x.f7 = true → x.f6 = true) ∧ ¬ (x.f5 = true ∧ x.f6 = true) ∧ Tm x.f3 ∧ Tm x.f8 ∧ Tm x.f9 ∧ Tm x.f10 := by
  unfold bd_may
  have ht : (!([x.f3, x.f8, x.f9, x.f10].any bt_out)) = true ↔ Tm x.f3 ∧ Tm x.f8 ∧ Tm x.f9 ∧ Tm x.f10 := by
    simp only [List.any_cons, List.any_nil, bt_out, Tm, Bool.not_eq_true', Bool.or_eq_false_iff, decide_eq_false_iff_not, Bool.or_false]
    omega
  simp only [Bool.and_eq_true, decide_eq_true_eq, ht]
  have h1 : (x.f6 || !x.f7) = true ↔ (x.f7 = true → x.f6 = true) := by cases x.f6 <;> cases x.f7 <;> simp
  have h2 : (!(x.f5 && x.f6)) = true ↔ ¬ (x.f5 = true ∧ x.f6 = true) := by cases x.f5 <;> cases x.f6 <;> simp
  rw [h1, h2]
theorem ok_iff (l : List X) (i : Nat) : bd_ok l i = true ↔ bd_may (g l i) = true ∧ (i = 0 ∨ (g l (i - 1)).f1 = (g l i).f0 ∧ (g l (i - 1)).f2 = false) := by
  unfold bd_ok g
  simp only [Bool.and_eq_true, Bool.or_eq_true, decide_eq_true_eq, Bool.not_eq_true']
theorem chk_pt {l m : List X} (hn : m.length = l.length) (h : ∀ j, j < l.length → (bd_may (g l j) = true → bd_may (g m j) = true) ∧ (g m j).f0 = (g l j).f0 ∧ (g m j).f1 = (g l j).f1 ∧ (g m j).f2 = (g l j).f2) (hc : bd_chk l = 0) : bd_chk m = 0 := by
  obtain ⟨h1, h2⟩ := (chk_iff l).1 hc
  refine (chk_iff m).2 ⟨by omega, fun i hi => ?_⟩
  have hi : i < l.length := by omega
  obtain ⟨a, b⟩ := (ok_iff l i).1 (h2 i hi)
  obtain ⟨c1, c2, c3, c4⟩ := h i hi
  refine (ok_iff m i).2 ⟨c1 a, ?_⟩
  rcases b with b | ⟨b1, b2⟩
  · exact .inl b
  · obtain ⟨_, _, d3, d4⟩ := h (i - 1) (by omega)
    exact .inr ⟨by rw [d3, c2]; exact b1, by rw [d4]; exact b2⟩
theorem may_of {l : List X} (h : bd_chk l = 0) {i : Nat} (hi : i < l.length) : bd_may (g l i) = true := ((ok_iff l i).1 (((chk_iff l).1 h).2 i hi)).1
theorem g_set {l : List X} {i : Nat} (h : i < l.length) (x : X) (j : Nat) : g (l.set i x) j = if j = i then x else g l j := by
  unfold g
  rw [List.getD_eq_getElem?_getD, List.getD_eq_getElem?_getD, List.getElem?_set]
  by_cases e : i = j
  · subst e; rw [if_pos rfl, if_pos h, if_pos rfl]; rfl
  · rw [if_neg e, if_neg (fun h => e h.symm)]
/- sums -/
def tot (w : X → Int) (l : List X) : Int := l.foldr (fun x s => w x + s) 0
theorem tot_cons (w : X → Int) (x : X) (l : List X) : tot w (x :: l) = w x + tot w l := rfl
theorem tot_append (w : X → Int) (a b : List X) : tot w (a ++ b) = tot w a + tot w b := by
  induction a with
  | nil => rw [List.nil_append]; show _ = 0 + _; omega
  | cons x a ih => rw [List.cons_append, tot_cons, tot_cons, ih]; omega
theorem tot_set (w : X → Int) (y : X) : ∀ (l : List X) (i : Nat), i < l.length → tot w (l.set i y) = tot w l - w (g l i) + w y
  | [], i, h => by simp at h
  | x :: l, 0, h => by rw [List.set_cons_zero, tot_cons, tot_cons]; show _ = _ - w x + _; omega
  | x :: l, i + 1, h => by
    rw [List.set_cons_succ, tot_cons, tot_cons, tot_set w y l i (by simpa using h)]
    show _ = _ - w (g l i) + _
    omega
theorem fold_tot (p : X → Bool) (w : X → Int) (l : List X) (k : Nat) (hk : k ≤ l.length) :
    (bd_pick p l k).foldl (fun n i => wrap64 (n + wrap64 (w l[i]))) 0 = wrap64 (tot (fun x => if p x = true then w x else 0) (l.take k)) := by
  induction k with
  | zero => simp only [bd_pick, List.take_zero, List.filter_nil, List.foldl_nil, tot, List.foldr_nil]; exact (w64 (by decide) (by decide)).symm
  | succ k ih =>
    have hlt : k < l.length := hk
    rw [bd_pick_succ p l k hlt, List.take_succ_eq_append_getElem hlt, tot_append, List.foldl_append, ih (by omega)]
    by_cases h : p l[k] = true
    · rw [if_pos h]
      show wrap64 (wrap64 _ + wrap64 (w l[k])) = _
      rw [ww, tot_cons, if_pos h]
      show _ = wrap64 (_ + (w l[k] + 0))
      rw [Int.add_zero]
    · rw [if_neg h, tot_cons, if_neg h]
      show wrap64 _ = wrap64 (_ + (0 + 0))
      rw [Int.add_zero, Int.add_zero]
def wp (x : X) : Int := if bd_out x = true then x.f1 - x.f0 else 0
def ws (x : X) : Int := if x.f5 = true then 1 else 0
theorem pipe_tot (l : List X) : Pipe_g l = if bd_chk l = 0 then wrap64 (tot wp l) else 0 := by
  unfold Pipe_g bd_all Pipe_fold
  split
  · have := fold_tot bd_out (fun x => x.f1 - x.f0) l l.length (Nat.le_refl _)
    rw [List.take_length] at this
    exact this
  · rfl
theorem one_w : wrap64 1 = 1 := w64 (by decide) (by decide)
theorem sacked_tot (l : List X) : Sacked_g l = if bd_chk l = 0 then wrap64 (tot ws l) else 0 := by
  unfold Sacked_g bd_all Sacked_fold
  split
  · have := fold_tot bd_sacked (fun _ => 1) l l.length (Nat.le_refl _)
    rw [List.take_length] at this
    simp only [one_w] at this
    exact this
  · rfl
theorem up_ {α : Type} {f : Nat → Option α} (hm : ∀ k, LeO (f k) (f (k + 1))) {k0 : Nat} {r : α} (h : f k0 = some r) : ∀ k, k0 ≤ k → f k = some r := by
  intro k hk
  induction k with
  | zero => rw [← h]; congr 1; omega
  | succ k ih =>
    by_cases e : k0 = k + 1
    · rw [← e]; exact h
    · exact hm k r (ih (by omega))
theorem heads_up (k : Nat) (hk : 20 ≤ k) : tidewaylaw10_heads.f k = some true := by
  have h : tidewaylaw10_heads.f 20 = some true := by kernel_rfl
  exact up_ (f := fun k => tidewaylaw10_heads.f k) tidewaylaw10_heads.mono h k hk
end Go.Proofs.Ytgpbighdegdlfaa.BoardFacts

/- Timers, in plain words. -/
import Derived.Test.YtlkkgikjghkcmaaPAx6
import Derived.Test.YtlkkgikjghkcmaaPAx10
import Derived.Test.YtlkkgikjghkcmaaPAx7
import Derived.Test.YtlkkgikjghkcmaaPAx3
import Derived.Test.YtlkkgikjghkcmaaPAx4
import Derived.Test.YtlkkgikjghkcmaaPAx9
set_option linter.unusedVariables false
set_option linter.unusedSimpArgs false
set_option autoImplicit false
namespace Go.Proofs.Ytlkkgikjghkcmaa.TimerFacts
open Go.RowKit Go.Proofs.Ytlkkgikjghkcmaa.PA Go.Proofs.YtlkkgikjghkcmaaW.PrintWords Go.Proofs.YtlkkgikjghkcmaaW.PrintMore
abbrev X := S38
def WfX (x : X) : Prop := ((Lit.int .i64 x.f0).wf = true) ∧ ((Lit.int .i64 x.f1).wf = true)
def WfL (l : List X) : Prop := (∀ x ∈ l, WfX x) ∧ l.length * 16 ≤ 140737488351232 ∧ l.length ≤ 9223372036854775807
abbrev O := Int → Option Int
def c (k : Int) (o : Option Int) : List X := match o with | none => [] | some t => [⟨k, t⟩]
def L (o : O) : List X := c 1 (o 1) ++ (c 2 (o 2) ++ (c 3 (o 3) ++ (c 4 (o 4) ++ c 5 (o 5))))
def Tm (t : Int) : Prop := 0 ≤ t ∧ t ≤ 1125899906842624
instance : DecidablePred Tm := fun t => by unfold Tm; infer_instance
def Ok (o : O) : Prop := ∀ k t, 1 ≤ k → k ≤ 5 → o k = some t → Tm t
def upd (o : O) (k : Int) (v : Option Int) : O := fun j => if j = k then v else o j
theorem may_iff (x : X) : tm_may x = true ↔ 1 ≤ x.f0 ∧ x.f0 ≤ 5 ∧ Tm x.f1 := by
  unfold tm_may Tm
  simp only [Bool.and_eq_true, decide_eq_true_eq]
/- the check, by recursion -/
def R : Int → List X → Prop
  | _, [] => True
  | a, x :: l => tm_may x = true ∧ a < x.f0 ∧ R x.f0 l
theorem R_of (l : List X) : ∀ (a : Int), (∀ i, i < l.length → tm_may (l.getD i z38) = true ∧ (i = 0 → a < (l.getD i z38).f0) ∧ (0 < i → (l.getD (i - 1) z38).f0 < (l.getD i z38).f0)) → R a l := by
  induction l with
  | nil => intro a _; trivial
  | cons x l ih =>
    intro a h
    have h0 := h 0 (by simp)
    refine ⟨h0.1, h0.2.1 rfl, ih x.f0 fun i hi => ?_⟩
    have h1 := h (i + 1) (by simpa using hi)
    refine ⟨h1.1, fun e => ?_, fun e => ?_⟩
    · subst e; exact h1.2.2 (by omega)
    · have h2 := h1.2.2 (by omega)
      obtain ⟨j, rfl⟩ : ∃ j, i = j + 1 := ⟨i - 1, by omega⟩
      exact h2
theorem of_R (l : List X) : ∀ (a : Int), R a l → ∀ i, i < l.length → tm_may (l.getD i z38) = true ∧ (0 < i → (l.getD (i - 1) z38).f0 < (l.getD i z38).f0) := by
  induction l with
  | nil => intro a _ i hi; exact absurd hi (by simp)
  | cons x l ih =>
    intro a h i hi
    obtain ⟨h1, h2, h3⟩ := h
    cases i with
    | zero => exact ⟨h1, fun h => absurd h (by omega)⟩
    | succ i =>
      have h4 := ih x.f0 h3 i (by simpa using hi)
      refine ⟨h4.1, fun _ => ?_⟩
      cases i with
      | zero =>
        cases l with
        | nil => exact absurd hi (by simp)
        | cons y l => exact h3.2.1
      | succ i => exact h4.2 (by omega)
theorem ok_iff (l : List X) (i : Nat) : tm_ok l i = true ↔ tm_may (l.getD i z38) = true ∧ (0 < i → (l.getD (i - 1) z38).f0 < (l.getD i z38).f0) := by
  unfold tm_ok
  simp only [Bool.and_eq_true, Bool.or_eq_true, decide_eq_true_eq]
  constructor
  · rintro ⟨h1, h2⟩
    refine ⟨h1, fun h => ?_⟩
    rcases h2 with h2 | h2
    · omega
    · exact h2
  · rintro ⟨h1, h2⟩
    refine ⟨h1, ?_⟩
    by_cases h : i = 0
    · exact .inl h
    · exact .inr (h2 (by omega))
theorem chk_iff (l : List X) : tm_chk l = 0 ↔ R 0 l := by
  constructor
  · intro h
    refine R_of l 0 fun i hi => ?_
    have h1 := (ok_iff l i).1 (tm_ok_lt l h i hi)
    exact ⟨h1.1, fun _ => by have := ((may_iff _).1 h1.1).1; omega, h1.2⟩
  · intro h
    unfold tm_chk
    rw [if_pos (List.all_eq_true.2 fun i hi => (ok_iff l i).2 (of_R l 0 h i (List.mem_range.1 hi)))]
theorem chk_no {l : List X} (h : tm_chk l ≠ 0) : tm_chk l = 40 := by
  unfold tm_chk at h ⊢
  split
  · rename_i h1; rw [if_pos h1] at h; exact absurd rfl h
  · rfl
theorem peel (a : Int) (l : List X) (h : R a l) : ∃ o l', l = c (a + 1) o ++ l' ∧ R (a + 1) l' ∧ ∀ t, o = some t → Tm t := by
  cases l with
  | nil => exact ⟨none, [], rfl, trivial, fun t h => by cases h⟩
  | cons x l =>
    obtain ⟨h1, h2, h3⟩ := h
    by_cases e : x.f0 = a + 1
    · refine ⟨some x.f1, l, ?_, by rw [← e]; exact h3, fun t ht => by cases ht; exact ((may_iff x).1 h1).2.2⟩
      show _ = [(⟨a + 1, x.f1⟩ : X)] ++ l
      rw [← e]; rfl
    · exact ⟨none, x :: l, rfl, ⟨h1, by omega, h3⟩, fun t h => by cases h⟩
theorem R_le {l : List X} {a b : Int} (h : R b l) (hab : a ≤ b) : R a l := by
  cases l with
  | nil => trivial
  | cons x l => exact ⟨h.1, by have := h.2.1; omega, h.2.2⟩
theorem R_c {a : Int} {o : Option Int} {l : List X} (h : R (a + 1) l) (h0 : 0 ≤ a) (h5 : a < 5) (ho : ∀ t, o = some t → Tm t) : R a (c (a + 1) o ++ l) := by
  cases o with
  | none => exact R_le h (by omega)
  | some t => exact ⟨(may_iff _).2 ⟨show 1 ≤ a + 1 by omega, show a + 1 ≤ 5 by omega, ho t rfl⟩, show a < a + 1 by omega, h⟩
theorem canon {l : List X} (h : tm_chk l = 0) : ∃ o, l = L o ∧ Ok o := by
  obtain ⟨o1, l1, rfl, h1, k1⟩ := peel 0 l ((chk_iff l).1 h)
  obtain ⟨o2, l2, rfl, h2, k2⟩ := peel _ l1 h1
  obtain ⟨o3, l3, rfl, h3, k3⟩ := peel _ l2 h2
  obtain ⟨o4, l4, rfl, h4, k4⟩ := peel _ l3 h3
  obtain ⟨o5, l5, rfl, h5, k5⟩ := peel _ l4 h4
  have h6 : l5 = [] := by
    cases l5 with
    | nil => rfl
    | cons x l => exact absurd ((may_iff x).1 h5.1).2.1 (by have := h5.2.1; omega)
  subst h6
  refine ⟨fun k => if k = 1 then o1 else if k = 2 then o2 else if k = 3 then o3 else if k = 4 then o4 else o5, ?_, ?_⟩
  · unfold L
    simp
  · intro k t hk1 hk5 hk
    have : k = 1 ∨ k = 2 ∨ k = 3 ∨ k = 4 ∨ k = 5 := by omega
    rcases this with rfl | rfl | rfl | rfl | rfl <;> simp at hk
    · exact k1 t hk
    · exact k2 t hk
    · exact k3 t hk
    · exact k4 t hk
    · exact k5 t hk
theorem chkL {o : O} (h : Ok o) : tm_chk (L o) = 0 := by
  refine (chk_iff _).2 ?_
  unfold L
  have h5 : R 4 (c 5 (o 5)) := by have := R_c (a := 4) (o := o 5) (l := []) trivial (by omega) (by omega) (fun t ht => h 5 t (by omega) (by omega) ht); rwa [List.append_nil] at this
  exact R_c (a := 0) (R_c (a := 1) (R_c (a := 2) (R_c (a := 3) h5 (by omega) (by omega) (fun t ht => h 4 t (by omega) (by omega) ht)) (by omega) (by omega) (fun t ht => h 3 t (by omega) (by omega) ht)) (by omega) (by omega) (fun t ht => h 2 t (by omega) (by omega) ht)) (by omega) (by omega) (fun t ht => h 1 t (by omega) (by omega) ht)
theorem Ok_upd {o : O} {k : Int} {v : Option Int} (h : Ok o) (hv : ∀ t, v = some t → Tm t) : Ok (upd o k v) := by
  intro j t h1 h5 hj
  unfold upd at hj
  by_cases e : j = k
  · rw [if_pos e] at hj; exact hv t hj
  · rw [if_neg e] at hj; exact h j t h1 h5 hj
theorem mem_c {k : Int} {o : Option Int} {x : X} : x ∈ c k o ↔ x.f0 = k ∧ o = some x.f1 := by
  cases o with
  | none => simp [c]
  | some t =>
    simp only [c, List.mem_singleton]
    constructor
    · rintro rfl; exact ⟨rfl, rfl⟩
    · rintro ⟨h1, h2⟩; cases x; simp only [Option.some.injEq] at h2; subst h1; subst h2; rfl
theorem memL {o : O} {x : X} : x ∈ L o ↔ (1 ≤ x.f0 ∧ x.f0 ≤ 5) ∧ o x.f0 = some x.f1 := by
  unfold L
  simp only [List.mem_append, mem_c]
  constructor
  · rintro (⟨h, h'⟩ | ⟨h, h'⟩ | ⟨h, h'⟩ | ⟨h, h'⟩ | ⟨h, h'⟩) <;> rw [h] <;> exact ⟨by omega, h'⟩
  · rintro ⟨h, h'⟩
    have : x.f0 = 1 ∨ x.f0 = 2 ∨ x.f0 = 3 ∨ x.f0 = 4 ∨ x.f0 = 5 := by omega
    rcases this with e | e | e | e | e <;> rw [e] at h' ⊢ <;> simp [h']
/- stop -/
theorem filter_c (k j : Int) (o : Option Int) : (c j o).filter (tm_not k) = c j (if j = k then none else o) := by
  cases o with
  | none => split <;> rfl
  | some t =>
    by_cases e : j = k
    · rw [if_pos e]; simp [c, tm_not, e]
    · rw [if_neg e]; simp [c, tm_not, e]
theorem filterL (o : O) (k : Int) : (L o).filter (tm_not k) = L (upd o k none) := by
  unfold L upd
  simp only [List.filter_append, filter_c]
theorem stop_f {o : O} (h : Ok o) {k : Int} (h1 : 1 ≤ k) (h5 : k ≤ 5) : timer_Stop.f (L o) k = some (L (upd o k none), 0) := by
  unfold timer_Stop.f tm_stop
  rw [if_neg (by rw [chkL h]; simp), if_pos ⟨h1, h5⟩, filterL]
theorem lenc (k : Int) (o : Option Int) : (c k o).length = if o.isSome then 1 else 0 := by cases o <;> rfl
theorem lenL (o : O) : (L o).length = (if (o 1).isSome then 1 else 0) + ((if (o 2).isSome then 1 else 0) + ((if (o 3).isSome then 1 else 0) + ((if (o 4).isSome then 1 else 0) + (if (o 5).isSome then 1 else 0)))) := by
  unfold L
  simp only [List.length_append, lenc]
/- set -/
set_option maxHeartbeats 4000000 in
theorem sortedL (o : O) (k t : Int) (h1 : 1 ≤ k) (h5 : k ≤ 5) : tm_sorted ((⟨k, t⟩ : X) :: L (upd o k none)) = L (upd o k (some t)) := by
  have : k = 1 ∨ k = 2 ∨ k = 3 ∨ k = 4 ∨ k = 5 := by omega
  unfold L upd
  generalize o 1 = a; generalize o 2 = b; generalize o 3 = d; generalize o 4 = e; generalize o 5 = f
  rcases this with rfl | rfl | rfl | rfl | rfl
  · cases b <;> cases d <;> cases e <;> cases f <;> (show _ = _; kernel_rfl)
  · cases a <;> cases d <;> cases e <;> cases f <;> (show _ = _; kernel_rfl)
  · cases a <;> cases b <;> cases e <;> cases f <;> (show _ = _; kernel_rfl)
  · cases a <;> cases b <;> cases d <;> cases f <;> (show _ = _; kernel_rfl)
  · cases a <;> cases b <;> cases d <;> cases e <;> (show _ = _; kernel_rfl)
theorem set_f {o : O} (h : Ok o) {k t : Int} (h1 : 1 ≤ k) (h5 : k ≤ 5) (ht : Tm t) : timer_Set.f (L o) k t = some (L (upd o k (some t)), 0) := by
  unfold timer_Set.f tm_set
  rw [if_neg (by rw [chkL h]; simp), if_pos ((may_iff _).2 ⟨h1, h5, ht⟩), filterL, sortedL o k t h1 h5]
theorem set_no {o : O} (h : Ok o) {k t : Int} (hn : ¬ (1 ≤ k ∧ k ≤ 5 ∧ Tm t)) : timer_Set.f (L o) k t = some ([], 2) := by
  unfold timer_Set.f tm_set
  rw [if_neg (by rw [chkL h]; simp), if_neg (fun hm => hn ((may_iff _).1 hm))]
theorem set_bad {l : List X} (h : tm_chk l ≠ 0) (k t : Int) : timer_Set.f l k t = some ([], 40) := by
  unfold timer_Set.f tm_set
  rw [if_pos h, chk_no h]
theorem upd_upd (o : O) (k : Int) (v v' : Option Int) : upd (upd o k v) k v' = upd o k v' := by funext j; unfold upd; by_cases e : j = k <;> simp [e]
theorem upd_comm (o : O) {k k' : Int} (h : k ≠ k') (v v' : Option Int) : upd (upd o k v) k' v' = upd (upd o k' v') k v := by
  funext j; unfold upd
  by_cases e : j = k
  · rw [if_neg (by omega), if_pos e, if_pos e]
  · by_cases e' : j = k'
    · rw [if_pos e', if_neg e, if_pos e']
    · rw [if_neg e', if_neg e, if_neg e, if_neg e']
/- when -/
theorem when_some {o : O} (h : Ok o) {k t : Int} (h1 : 1 ≤ k) (h5 : k ≤ 5) (ho : o k = some t) : timer_When.f (L o) k = some (t, true) := by
  have hm : (⟨k, t⟩ : X) ∈ L o := memL.2 ⟨⟨h1, h5⟩, ho⟩
  unfold timer_When.f tm_when
  cases hi : (L o).findIdx? (tm_is k) with
  | none => have := List.findIdx?_eq_none_iff.1 hi _ hm; simp [tm_is] at this
  | some i =>
    obtain ⟨hlt, hp, _⟩ := List.findIdx?_eq_some_iff_getElem.1 hi
    have hx : tm_idx (tm_is k) (L o) = (i : Int) := by unfold tm_idx; rw [hi]
    have hk : (L o)[i].f0 = k := by simpa [tm_is] using hp
    have ht := (memL.1 (List.getElem_mem hlt)).2
    rw [hk, ho] at ht
    rw [hx, if_neg (by rw [chkL h]; omega), Int.toNat_natCast, List.getD_eq_getElem?_getD, List.getElem?_eq_getElem hlt, Option.getD_some, ← Option.some.inj ht]
theorem when_none {o : O} {k : Int} (ho : 1 ≤ k → k ≤ 5 → o k = none) : timer_When.f (L o) k = some (0, false) := by
  unfold timer_When.f tm_when
  have hi : (L o).findIdx? (tm_is k) = none := List.findIdx?_eq_none_iff.2 fun x hx => by
    have h1 := memL.1 hx
    unfold tm_is
    refine decide_eq_false fun e => ?_
    rw [← e] at ho
    rw [ho h1.1.1 h1.1.2] at h1
    cases h1.2
  have hx : tm_idx (tm_is k) (L o) = -1 := by unfold tm_idx; rw [hi]
  rw [hx, if_pos (.inl (by omega))]
theorem when_bad {l : List X} (h : tm_chk l ≠ 0) (k : Int) : timer_When.f l k = some (0, false) := by
  unfold timer_When.f tm_when
  rw [if_pos (.inr h)]
/- next -/
def le (x y : X) : Prop := x.f1 < y.f1 ∨ x.f1 = y.f1 ∧ x.f0 ≤ y.f0
theorem w64 {n : Int} (h0 : -9223372036854775808 ≤ n) (h1 : n ≤ 9223372036854775807) : wrap64 n = n := by unfold wrap64; omega
theorem cmp_f (k : Nat) (hk : 9 ≤ k) (a b d e : Int) : ∃ r, timer_Next_1.f k a b d e = some r ∧ (r < 0 ↔ b < e ∨ b = e ∧ a < d) := by
  obtain ⟨k, rfl⟩ : ∃ m, k = m + 9 := ⟨k - 9, by omega⟩
  have h0 : ∀ x y : Int, cmp_Or_int.f (k + 9) [x, y] = some (if x = 0 then (if y = 0 then 0 else y) else x) := by
    intro x y
    unfold cmp_Or_int.f
    have e0 : rd [x, y] 0 = x := rfl
    have e1 : rd [x, y] 1 = y := rfl
    have ew : wrap64 ((0 : Int) + 1) = 1 := by unfold wrap64; omega
    have ew2 : wrap64 ((1 : Int) + 1) = 2 := by unfold wrap64; omega
    have l2 : ([x, y].length : Int) = 2 := rfl
    rw [l2, cmp_Or_int.l0, l2, if_pos (by decide), if_pos (by decide), if_pos (by decide), e0, ew]
    by_cases hx : x = 0
    · rw [if_pos hx, if_pos hx, cmp_Or_int.l0, l2, if_pos (by decide), if_pos (by decide), if_pos (by decide), e1, ew2]
      by_cases hy : y = 0
      · rw [if_pos hy, if_pos hy, cmp_Or_int.l0, if_neg (by decide)]
      · rw [if_neg hy, if_neg hy]
    · rw [if_neg hx, if_neg hx]
  have h1 : ∀ x y : Int, cmp_Compare_int.f x y = some (tm_c x y) := by
    intro x y; unfold cmp_Compare_int.f cmp_isNaN_int.f tm_c; by_cases h1 : x < y <;> by_cases h2 : x > y <;> simp [h1, h2]
  have h2 : ∀ x y : Int, api_TimerKind_23.f x y = some (tm_c x y) := by
    intro x y; unfold api_TimerKind_23.f api_TimerKind_36.f tm_c; by_cases h1 : x < y <;> by_cases h2 : x > y <;> simp [h1, h2]
  refine ⟨_, by rw [timer_Next_1.f, h1, h2, Option.bind_some, Option.bind_some, h0, Option.bind_some], ?_⟩
  unfold tm_c
  by_cases q1 : b < e
  · simp [q1]
  · by_cases q2 : b > e
    · have : ¬ b = e := by omega
      simp [q1, q2, this]
    · have q3 : b = e := by omega
      by_cases q4 : a < d
      · simp [q3, q4]
      · by_cases q5 : a > d
        · simp [q3, q4, q5]
        · simp [q3, q4, q5]
theorem min_loop (l : List X) (hl : l.length ≤ 1000) (d : Nat) : ∀ (i : Nat) (m : X), i + d = l.length → ∀ k, d + 10 ≤ k → (m ∈ l) → (∀ j, j < i → le m (l.getD j z38)) →
    ∃ m' : X, api_Timer.l0 k l (i : Int) m.f0 m.f1 = some (m'.f0, m'.f1) ∧ m' ∈ l ∧ ∀ x ∈ l, le m' x := by
  induction d with
  | zero =>
    intro i m hi k hk hm hle
    obtain ⟨k, rfl⟩ : ∃ m, k = m + 1 := ⟨k - 1, by omega⟩
    refine ⟨m, by rw [api_Timer.l0, if_neg (by omega)], hm, fun x hx => ?_⟩
    obtain ⟨j, hj, rfl⟩ := List.mem_iff_getElem.1 hx
    have := hle j (by omega)
    rwa [List.getD_eq_getElem?_getD, List.getElem?_eq_getElem hj, Option.getD_some] at this
  | succ d ih =>
    intro i m hi k hk hm hle
    obtain ⟨k, rfl⟩ : ∃ m, k = m + 1 := ⟨k - 1, by omega⟩
    have hlt : i < l.length := by omega
    have e1 : rd_T38 l (i : Int) = l.getD i z38 := by rw [rd_T38, Int.toNat_natCast]
    have hw1 : wrap64 ((i : Int) + 1) = ((i + 1 : Nat) : Int) := by rw [w64 (by omega) (by omega)]; rfl
    have hx : l.getD i z38 ∈ l := by rw [List.getD_eq_getElem?_getD, List.getElem?_eq_getElem hlt]; exact List.getElem_mem hlt
    rw [api_Timer.l0, if_pos (by omega), if_pos (by omega), e1, hw1]
    generalize hxe : l.getD i z38 = x at hx
    obtain ⟨r, hr, hiff⟩ := cmp_f k (by omega) x.f0 x.f1 m.f0 m.f1
    rw [hr, Option.bind_some]
    by_cases hneg : r < 0
    · rw [if_pos hneg]
      refine ih (i + 1) x (by omega) k (by omega) hx fun j hj => ?_
      have hc := hiff.1 hneg
      by_cases e : j = i
      · subst e; rw [hxe]; exact .inr ⟨rfl, by omega⟩
      · have := hle j (by omega)
        unfold le at this ⊢; omega
    · rw [if_neg hneg]
      refine ih (i + 1) m (by omega) k (by omega) hm fun j hj => ?_
      by_cases e : j = i
      · subst e
        have hc := fun h => hneg (hiff.2 h)
        rw [hxe]; unfold le; omega
      · exact hle j (by omega)
theorem next_f {l : List X} (h : tm_chk l = 0) (hne : l ≠ []) {k : Nat} (hk : 100 ≤ k) : ∃ m : X, timer_Next.f k l = some (m.f0, m.f1, true) ∧ m ∈ l ∧ ∀ x ∈ l, le m x := by
  have hlen := tm_len l h
  have h0 : 0 < l.length := List.length_pos_iff.2 hne
  have hz : l.getD 0 z38 ∈ l := by rw [List.getD_eq_getElem?_getD, List.getElem?_eq_getElem h0]; exact List.getElem_mem h0
  obtain ⟨m, hm, h1, h2⟩ := min_loop l (by omega) (l.length - 1) 1 (l.getD 0 z38) (by omega) k (by omega) hz (fun j hj => by rw [show j = 0 by omega]; exact .inr ⟨rfl, by omega⟩)
  refine ⟨m, ?_, h1, h2⟩
  rw [timer_Next.f, if_neg (by omega), tm_chk_f l (by omega) k (by omega), Option.bind_some, if_pos h, api_Timer.f, if_pos (by omega)]
  have e1 : rd_T38 l 0 = l.getD 0 z38 := rfl
  rw [e1]
  have := hm
  rw [show ((1 : Nat) : Int) = 1 from rfl] at this
  rw [this, Option.bind_some]
theorem next_nil (k : Nat) : timer_Next.f k [] = some (0, 0, false) := by rw [timer_Next.f]; rfl
theorem next_bad {l : List X} (h : tm_chk l ≠ 0) (hl : l.length ≤ 9223372036854775807) {k : Nat} (hk : 2 * l.length + 1 ≤ k) : timer_Next.f k l = some (0, 0, false) := by
  rw [timer_Next.f]
  by_cases h0 : (l.length : Int) = 0
  · rw [if_pos h0]
  · rw [if_neg h0, tm_chk_f l hl k hk, Option.bind_some, if_neg h]
/- the law's own equality -/
theorem same_loop (l : List X) (hl : l.length ≤ 9223372036854775807) (d : Nat) : ∀ i : Nat, i + d = l.length → ∀ k, d + 1 ≤ k → tidewayref04_Same.l0 k l l (i : Int) = some true := by
  induction d with
  | zero =>
    intro i hi k hk
    obtain ⟨k, rfl⟩ : ∃ m, k = m + 1 := ⟨k - 1, by omega⟩
    rw [tidewayref04_Same.l0, if_neg (by omega)]
  | succ d ih =>
    intro i hi k hk
    obtain ⟨k, rfl⟩ : ∃ m, k = m + 1 := ⟨k - 1, by omega⟩
    have ih := ih (i + 1) (by omega) k (by omega)
    have hw1 : wrap64 ((i : Int) + 1) = ((i + 1 : Nat) : Int) := by rw [w64 (by omega) (by omega)]; rfl
    rw [tidewayref04_Same.l0, if_pos (by omega), if_pos (by omega), if_pos (by omega)]
    simp only [beq_self_eq_true, Bool.not_true, Bool.or_false, Bool.false_eq_true, if_false]
    rw [hw1]; exact ih
theorem same_refl (l : List X) (hl : l.length ≤ 9223372036854775807) {k : Nat} (hk : l.length + 1 ≤ k) : tidewayref04_Same.f k l l = some true := by
  rw [tidewayref04_Same.f, if_pos rfl]
  exact same_loop l hl l.length 0 (by omega) k hk
theorem len5 (o : O) : (L o).length ≤ 5 := by rw [lenL]; split <;> split <;> split <;> split <;> split <;> omega
theorem heads_up (k : Nat) (hk : 40 ≤ k) : tidewaylaw04_heads.f k = some true := by
  obtain ⟨d, rfl⟩ := Nat.le.dest hk
  have h : ∀ d, tidewaylaw04_heads.f (40 + d) = some true := by
    intro d
    induction d with
    | zero => kernel_rfl
    | succ d ih => exact tidewaylaw04_heads.mono (40 + d) true ih
  exact h d
end Go.Proofs.Ytlkkgikjghkcmaa.TimerFacts

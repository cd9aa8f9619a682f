/- Which timers run behind a set or a stop. -/
import Derived.Test.YtlkkgikjghkcmaaTimerFacts
import Derived.Test.YtlkkgikjghkcmaaPAx17
set_option linter.unusedVariables false
set_option linter.unusedSimpArgs false
set_option autoImplicit false
namespace Go.Proofs.Ytlkkgikjghkcmaa.Pure
open Go.RowKit Go.Proofs.Ytlkkgikjghkcmaa.PA Go.Proofs.YtlkkgikjghkcmaaW.PrintWords Go.Proofs.YtlkkgikjghkcmaaW.PrintMore Go.Proofs.Ytlkkgikjghkcmaa.TimerFacts
theorem rkind (k : Int) : tidewayref04_kind.f k = some (decide (1 ≤ k ∧ k ≤ 5)) := by
  unfold tidewayref04_kind.f
  by_cases h1 : k ≥ 1 <;> by_cases h2 : k ≤ 5 <;> simp [h1, h2] <;> omega
theorem rtime (t : Int) : tidewayref04_time.f t = some (decide (Tm t)) := by
  unfold tidewayref04_time.f Tm
  by_cases h1 : t ≥ 0 <;> by_cases h2 : t ≤ 1125899906842624 <;> simp [h1, h2] <;> omega
theorem rchk_loop (l : List X) (hl : l.length ≤ 9223372036854775807) (d : Nat) : ∀ i : Nat, i + d = l.length → ∀ k, 2 * d + 1 ≤ k → tidewayref04_Check.l0 k l (i : Int) = some (if (List.range' i d).all (tm_ok l) = true then 0 else 40) := by
  induction d with
  | zero =>
    intro i hi k hk
    obtain ⟨k, rfl⟩ : ∃ m, k = m + 1 := ⟨k - 1, by omega⟩
    rw [tidewayref04_Check.l0, if_neg (by omega)]; rfl
  | succ d ih =>
    intro i hi k hk
    obtain ⟨k, rfl⟩ : ∃ m, k = m + 2 := ⟨k - 2, by omega⟩
    have hlt : i < l.length := by omega
    have c1 : (i : Int) < (l.length : Int) := Int.ofNat_lt.2 hlt
    have e1 : rd_T38 l (i : Int) = l.getD i z38 := by rw [rd_T38, Int.toNat_natCast]
    have hw1 : wrap64 ((i : Int) + 1) = ((i + 1 : Nat) : Int) := by rw [w64 (by omega) (by omega)]; rfl
    have ih := ih (i + 1) (by omega) k (by omega)
    have hno : tidewayref04_Check.j1 (k + 1) l (i : Int) true = some 40 := by rw [tidewayref04_Check.j1, if_pos rfl]
    have hyes : tidewayref04_Check.j1 (k + 1) l (i : Int) false = some (if (List.range' (i + 1) d).all (tm_ok l) = true then 0 else 40) := by rw [tidewayref04_Check.j1, if_neg (by decide), hw1, ih]
    rw [tidewayref04_Check.l0, if_pos c1, if_pos (Int.natCast_nonneg i), e1, rkind, Option.bind_some, rtime, Option.bind_some, List.range'_succ, List.all_cons]
    generalize hx : l.getD i z38 = x
    have hok : tm_ok l i = (tm_may x && (decide (i = 0) || decide ((l.getD (i - 1) z38).f0 < x.f0))) := by rw [tm_ok, hx]
    rw [hok]
    by_cases hk1 : 1 ≤ x.f0 ∧ x.f0 ≤ 5
    · rw [decide_eq_true hk1, if_pos rfl]
      by_cases ht : Tm x.f1
      · rw [decide_eq_true ht, if_pos rfl, (may_iff x).2 ⟨hk1.1, hk1.2, ht⟩, Bool.true_and]
        by_cases h0 : i = 0
        · rw [decide_eq_true h0, Bool.true_or, Bool.true_and, if_neg (by omega), hyes]
        · have hw2 : wrap64 ((i : Int) - 1) = ((i - 1 : Nat) : Int) := by rw [w64 (by omega) (by omega)]; omega
          have e2 : rd_T38 l ((i - 1 : Nat) : Int) = l.getD (i - 1) z38 := by rw [rd_T38, Int.toNat_natCast]
          rw [hw2, e2, decide_eq_false h0, Bool.false_or]
          generalize l.getD (i - 1) z38 = y
          rw [if_pos (by omega), if_pos (by omega), if_pos (by omega)]
          by_cases h1 : y.f0 < x.f0
          · rw [decide_eq_true h1, Bool.true_and, decide_eq_false (by omega), hyes]
          · rw [decide_eq_false h1, decide_eq_true (by omega), hno]; rfl
      · have hm : tm_may x = false := Bool.eq_false_iff.mpr fun h => ht ((may_iff x).1 h).2.2
        rw [decide_eq_false ht, if_neg (by decide), hm, hno]; rfl
    · have hm : tm_may x = false := Bool.eq_false_iff.mpr fun h => hk1 ⟨((may_iff x).1 h).1, ((may_iff x).1 h).2.1⟩
      rw [decide_eq_false hk1, if_neg (by decide), hm, hno]; rfl
theorem rchk_f (l : List X) (hl : l.length ≤ 9223372036854775807) (k : Nat) (hk : 2 * l.length + 1 ≤ k) : tidewayref04_Check.f k l = some (tm_chk l) := by
  rw [tidewayref04_Check.f, tm_chk]
  have := rchk_loop l hl l.length 0 (by omega) k (by omega)
  rw [← List.range_eq_range'] at this
  exact this
theorem up {α : Type} {f : Nat → Option α} (h : ∀ k r, f k = some r → f (k + 1) = some r) {k : Nat} {r : α} (h0 : f k = some r) : ∀ d, f (k + d) = some r
  | 0 => h0
  | d + 1 => h _ _ (up h h0 d)
set_option maxHeartbeats 4000000 in
theorem rwithout (o : O) (k : Int) (h1 : 1 ≤ k) (h5 : k ≤ 5) (n : Nat) (hn : 20 ≤ n) : tidewayref04_without.f n (L o) k = some (L (upd o k none)) := by
  have h0 : tidewayref04_without.f 20 (L o) k = some (L (upd o k none)) := by
    have : k = 1 ∨ k = 2 ∨ k = 3 ∨ k = 4 ∨ k = 5 := by omega
    unfold L upd
    generalize o 1 = a; generalize o 2 = b; generalize o 3 = d; generalize o 4 = e; generalize o 5 = f
    rcases this with rfl | rfl | rfl | rfl | rfl <;> cases a <;> cases b <;> cases d <;> cases e <;> cases f <;> (show _ = _; kernel_rfl)
  obtain ⟨d, rfl⟩ := Nat.le.dest hn
  exact up (f := fun n => tidewayref04_without.f n (L o) k) (fun n r h => tidewayref04_without.mono _ _ n r h) h0 d
set_option maxHeartbeats 4000000 in
theorem rset (o : O) (k t : Int) (h1 : 1 ≤ k) (h5 : k ≤ 5) (n : Nat) (hn : 20 ≤ n) : tidewayref04_Set.l0 n k t (L (upd o k none)) 0 = some (L (upd o k (some t)), 0) := by
  have h0 : tidewayref04_Set.l0 20 k t (L (upd o k none)) 0 = some (L (upd o k (some t)), 0) := by
    have : k = 1 ∨ k = 2 ∨ k = 3 ∨ k = 4 ∨ k = 5 := by omega
    unfold L upd
    generalize o 1 = a; generalize o 2 = b; generalize o 3 = d; generalize o 4 = e; generalize o 5 = f
    rcases this with rfl | rfl | rfl | rfl | rfl
    · cases b <;> cases d <;> cases e <;> cases f <;> (show _ = _; kernel_rfl)
    · cases a <;> cases d <;> cases e <;> cases f <;> (show _ = _; kernel_rfl)
    · cases a <;> cases b <;> cases e <;> cases f <;> (show _ = _; kernel_rfl)
    · cases a <;> cases b <;> cases d <;> cases f <;> (show _ = _; kernel_rfl)
    · cases a <;> cases b <;> cases d <;> cases e <;> (show _ = _; kernel_rfl)
  obtain ⟨d, rfl⟩ := Nat.le.dest hn
  exact up (f := fun n => tidewayref04_Set.l0 n k t (L (upd o k none)) 0) (fun n r h => (tidewayref04_Set.mono_l n).2 _ _ _ _ r h) h0 d
theorem rset_f (l : List X) (hl : l.length ≤ 9223372036854775807) (k t : Int) (n : Nat) (hn : 2 * l.length + 50 ≤ n) : tidewayref04_Set.f n l k t = timer_Set.f l k t := by
  obtain ⟨n, rfl⟩ : ∃ m, n = m + 1 := ⟨n - 1, by omega⟩
  rw [tidewayref04_Set.f, rchk_f l hl _ (by omega), Option.bind_some]
  by_cases hc : tm_chk l = 0
  · obtain ⟨o, rfl, ho⟩ := canon hc
    rw [if_pos hc, rkind, Option.bind_some]
    by_cases hk : 1 ≤ k ∧ k ≤ 5
    · rw [decide_eq_true hk, if_pos rfl, rtime, Option.bind_some, tidewayref04_Set.j0]
      by_cases ht : Tm t
      · rw [decide_eq_true ht, if_neg (by decide), rwithout o k hk.1 hk.2 _ (by omega), Option.bind_some, rset o k t hk.1 hk.2 _ (by omega), set_f ho hk.1 hk.2 ht]
      · rw [decide_eq_false ht, if_pos (by decide), set_no ho (fun h => ht h.2.2)]
    · rw [decide_eq_false hk, if_neg (by decide), tidewayref04_Set.j0, if_pos rfl, set_no ho (fun h => hk ⟨h.1, h.2.1⟩)]
  · rw [if_neg hc, set_bad hc]
theorem rstop_f (l : List X) (hl : l.length ≤ 9223372036854775807) (k : Int) (n : Nat) (hn : 2 * l.length + 50 ≤ n) : tidewayref04_Stop.f n l k = timer_Stop.f l k := by
  rw [tidewayref04_Stop.f, rchk_f l hl _ (by omega), Option.bind_some]
  unfold timer_Stop.f tm_stop
  by_cases hc : tm_chk l = 0
  · obtain ⟨o, rfl, ho⟩ := canon hc
    rw [if_pos hc, rkind, Option.bind_some, if_neg (show ¬ (tm_chk (L o) ≠ 0) from fun h => h hc)]
    by_cases hk : 1 ≤ k ∧ k ≤ 5
    · rw [decide_eq_true hk, if_pos rfl, rwithout o k hk.1 hk.2 _ (by omega), Option.bind_some, if_pos hk, filterL]
    · rw [decide_eq_false hk, if_neg (by decide), if_neg hk]
  · rw [if_neg hc, if_pos hc, chk_no hc]
theorem set_len (l : List X) (k t : Int) : ∃ m e, timer_Set.f l k t = some (m, e) ∧ m.length ≤ 6 := by
  refine ⟨(tm_set l k t).1, (tm_set l k t).2, rfl, ?_⟩
  unfold tm_set
  by_cases hc : tm_chk l = 0
  · rw [if_neg (fun h => h hc)]
    split
    · rw [tm_sorted_len, List.length_cons]
      have := tm_len l hc
      have := List.length_filter_le (tm_not k) l
      omega
    · simp
  · rw [if_pos hc]; simp
theorem stop_len (l : List X) (k : Int) : ∃ m e, timer_Stop.f l k = some (m, e) ∧ m.length ≤ 6 := by
  refine ⟨(tm_stop l k).1, (tm_stop l k).2, rfl, ?_⟩
  unfold tm_stop
  by_cases hc : tm_chk l = 0
  · rw [if_neg (fun h => h hc)]
    split
    · have := tm_len l hc
      have := List.length_filter_le (tm_not k) l
      show (l.filter (tm_not k)).length ≤ 6
      omega
    · simp
  · rw [if_pos hc]; simp
theorem TimerSets (l : List X) (k t : Int) (w0 : WfL l) (w1 : (Lit.int .i64 k).wf = true) (w2 : (Lit.int .i64 t).wf = true) : ∃ n, tidewaylaw04_TimerSets.f n l k t = some true := by
  have hl := w0.2.2
  have hl2 : l.length < 8796093022208 := by have := w0.2.1; omega
  refine ⟨2 * l.length + 200, ?_⟩
  obtain ⟨m, e, hm, hml⟩ := set_len l k t
  obtain ⟨m', e', hm', hml'⟩ := stop_len l k
  rw [tidewaylaw04_TimerSets.f, Option.bind_some, if_pos (by rw [List.length_nil]; omega), Option.bind_some, List.nil_append, rset_f l hl k t _ (by omega), rstop_f l hl k _ (by omega), hm, hm']
  simp only [Option.bind_some]
  rw [same_refl m (by omega) (by omega), Option.bind_some, if_pos rfl, if_pos trivial, same_refl m' (by omega) (by omega), Option.bind_some, if_pos rfl, if_pos trivial, tm_chk_f l hl _ (by omega), Option.bind_some, rchk_f l hl _ (by omega), Option.bind_some, if_pos rfl, same_refl l hl (by omega), Option.bind_some, if_pos rfl, heads_up _ (by omega), Option.bind_some]
end Go.Proofs.Ytlkkgikjghkcmaa.Pure

/- Which segments are lost, and how long others have to go, is what the document says. -/
import Derived.Test.YtfckpjljpeaikaaRackRef
import Derived.Test.YtfckpjljpeaikaaRackSame
import Derived.Test.YtfckpjljpeaikaaPAx13
set_option linter.unusedVariables false
set_option linter.unusedSimpArgs false
set_option autoImplicit false
namespace Go.Proofs.Ytfckpjljpeaikaa.Pure
open Go.RowKit Go.Proofs.Ytfckpjljpeaikaa.PA Go.Proofs.YtfckpjljpeaikaaW.PrintWords Go.Proofs.YtfckpjljpeaikaaW.PrintMore Go.Proofs.Ytfckpjljpeaikaa.RackFacts
theorem rahead_f (y : R) (x : X) : tidewayref13_Ahead.f y.f0 y.f1 y.f2 y.f3 y.f4 y.f5 y.f6 y.f7 x.f0 x.f1 x.f2 x.f3 x.f4 x.f5 x.f6 x.f7 x.f8 x.f9 x.f10 x.f11 = some (rm_ahead y x) := by
  unfold tidewayref13_Ahead.f rm_ahead
  by_cases h : x.f3 < y.f0
  · simp [h]
  · by_cases h2 : x.f3 = y.f0
    · simp [h2]
    · simp [h, h2]
theorem ref_l1 (y : R) (l : List X) (now wait : Int) (hlen : l.length ≤ 1759218604440) (ho : Ok y) (hn : 0 ≤ now ∧ now ≤ 1125899906842624) (hw : 0 ≤ wait ∧ wait ≤ 1125899906842624) (hr : ∀ x ∈ l, rm_rec x now = true) (d : Nat) :
    ∀ i : Nat, i + d = l.length → ∀ k, 2 * d + 1 ≤ k → tidewayref13_Mark.l1 k now wait ((l.take i).map (mk y now wait) ++ l.drop i) ((l.take i).foldl (lg y now wait) 0) (i : Int) y.f0 y.f1 y.f2 y.f3 y.f4 y.f5 y.f6 y.f7 = some ((ms y l now wait).1, (ms y l now wait).2, 0) := by
  induction d with
  | zero =>
    intro i hi k hk
    obtain ⟨k, rfl⟩ : ∃ m, k = m + 1 := ⟨k - 1, by omega⟩
    obtain rfl : i = l.length := by omega
    rw [tidewayref13_Mark.l1, if_neg (by simp)]
    simp [ms]
  | succ d ih =>
    intro i hi k hk
    obtain ⟨k, rfl⟩ : ∃ m, k = m + 2 := ⟨k - 2, by omega⟩
    have ih := ih (i + 1) (by omega) k (by omega)
    have hlt : i < l.length := by omega
    have e3 : l.drop i = l[i] :: l.drop (i + 1) := List.drop_eq_getElem_cons hlt
    have e4 : ((l.take i).map (mk y now wait)).length = i := by rw [List.length_map, List.length_take]; omega
    have e5 : rd_T25 ((l.take i).map (mk y now wait) ++ l.drop i) (i : Int) = l[i] := by
      rw [rd_T25, Int.toNat_natCast, List.getD_eq_getElem?_getD, e3, List.getElem?_append_right (by omega), e4, Nat.sub_self]
      rfl
    have hln : (((l.take i).map (mk y now wait) ++ l.drop i).length : Int) = (l.length : Int) := by rw [List.length_append, e4, List.length_drop]; congr 1; omega
    have c1 : (i : Int) < (((l.take i).map (mk y now wait) ++ l.drop i).length : Int) := by rw [hln]; exact Int.ofNat_lt.2 hlt
    have c2 : (0 : Int) ≤ (i : Int) := Int.natCast_nonneg i
    have hw1 : wrap64 ((i : Int) + 1) = ((i + 1 : Nat) : Int) := by rw [w64 (by omega) (by omega)]; rfl
    have hx := hr l[i] (List.getElem_mem _)
    have hle := left_eq ho (now := now) (wait := wait) ⟨hn.1, by omega⟩ ⟨hw.1, by omega⟩ hx
    obtain ⟨_, _, hx3, _⟩ := (rec_iff _ _).1 hx
    obtain ⟨_, _, hk2, _⟩ := ho
    have ew : wrap64 (wrap64 (l[i].f3 + y.f2) + wait) = l[i].f3 + y.f2 + wait := by rw [w64 (n := l[i].f3 + y.f2) (by omega) (by omega), w64 (by omega) (by omega)]
    rw [List.take_succ_eq_append_getElem hlt, List.map_append, List.foldl_append] at ih
    simp only [List.map_cons, List.map_nil, List.foldl_cons, List.foldl_nil] at ih
    -- not asked
    have hno : rm_asks y l[i] = false → tidewayref13_Mark.j3 (k + 1) now wait ((l.take i).map (mk y now wait) ++ l.drop i) ((l.take i).foldl (lg y now wait) 0) (i : Int) true y.f0 y.f1 y.f2 y.f3 y.f4 y.f5 y.f6 y.f7 = some ((ms y l now wait).1, (ms y l now wait).2, 0) := by
      intro ha
      have m1 : mk y now wait l[i] = l[i] := by unfold mk; rw [if_neg (by rw [ha]; simp)]
      have m2 : ∀ n, lg y now wait n l[i] = n := fun n => by unfold lg; rw [if_neg (by rw [ha]; simp)]
      rw [m1, m2, List.append_assoc, List.singleton_append, ← e3] at ih
      rw [tidewayref13_Mark.j3, if_pos rfl, hw1]
      exact ih
    have hyes : rm_asks y l[i] = true → tidewayref13_Mark.j3 (k + 1) now wait ((l.take i).map (mk y now wait) ++ l.drop i) ((l.take i).foldl (lg y now wait) 0) (i : Int) false y.f0 y.f1 y.f2 y.f3 y.f4 y.f5 y.f6 y.f7 = some ((ms y l now wait).1, (ms y l now wait).2, 0) := by
      intro ha
      rw [tidewayref13_Mark.j3, if_neg (by decide), if_pos c2, if_pos c1, e5, ew]
      by_cases hq : l[i].f3 + y.f2 + wait ≤ now
      · have hl : ¬ rm_left y now wait l[i] > 0 := by rw [hle]; omega
        have m1 : mk y now wait l[i] = (⟨l[i].f0, l[i].f1, l[i].f2, l[i].f3, l[i].f4, l[i].f5, true, false, l[i].f8, l[i].f9, l[i].f10, l[i].f11⟩ : X) := by unfold mk; rw [if_pos ⟨ha, hl⟩]
        have m2 : ∀ n, lg y now wait n l[i] = n := fun n => by unfold lg; rw [if_neg (fun h => hl h.2)]
        rw [m1, m2] at ih
        rw [if_pos hq]
        simp only [Option.bind_some, Int.toNat_natCast]
        have s1 : ∀ v : X, ((l.take i).map (mk y now wait) ++ l.drop i).set i v = (l.take i).map (mk y now wait) ++ v :: l.drop (i + 1) := fun v => by rw [e3, List.set_append_right _ _ (by omega), e4, Nat.sub_self, List.set_cons_zero]
        have s2 : ∀ v v' : X, ((l.take i).map (mk y now wait) ++ v :: l.drop (i + 1)).set i v' = (l.take i).map (mk y now wait) ++ v' :: l.drop (i + 1) := fun v v' => by rw [List.set_append_right _ _ (by omega), e4, Nat.sub_self, List.set_cons_zero]
        have s3 : ∀ v : X, rd_T25 ((l.take i).map (mk y now wait) ++ v :: l.drop (i + 1)) (i : Int) = v := fun v => by
          rw [rd_T25, Int.toNat_natCast, List.getD_eq_getElem?_getD, List.getElem?_append_right (by omega), e4, Nat.sub_self]
          rfl
        rw [s1, s2, s3, hw1]
        rw [List.append_assoc, List.singleton_append] at ih
        exact ih
      · have hl : rm_left y now wait l[i] > 0 := by rw [hle]; omega
        have m1 : mk y now wait l[i] = l[i] := by unfold mk; rw [if_neg (fun h => h.2 hl)]
        have m2 : ∀ n, lg y now wait n l[i] = mx n (rm_left y now wait l[i]) := fun n => by unfold lg; rw [if_pos ⟨ha, hl⟩]
        rw [m1, m2, List.append_assoc, List.singleton_append, ← e3, hle] at ih
        rw [if_neg hq, w64 (n := l[i].f3 + y.f2 + wait - now) (by omega) (by omega), hw1]
        exact ih
    rw [tidewayref13_Mark.l1, if_pos c1, if_pos c2, e5, rahead_f]
    simp only [Option.bind_some]
    unfold rm_asks at hno hyes
    cases h5 : l[i].f5 <;> cases h6 : l[i].f6 <;> cases h7 : l[i].f7 <;> cases hA : rm_ahead y l[i] <;> simp only [h5, h6, h7, hA, Bool.not_true, Bool.not_false, Bool.and_true, Bool.and_false, Bool.true_and, Bool.false_and, Bool.or_true, Bool.or_false, Bool.true_or, Bool.false_or, if_true, if_false, Bool.false_eq_true, forall_const, Bool.true_eq_false, false_implies] at hno hyes ⊢ <;> first | exact hno | exact hyes
theorem ref_l0 (y : R) (l : List X) (now wait : Int) (hlen : l.length ≤ 1759218604440) (ho : Ok y) (hn : 0 ≤ now ∧ now ≤ 1125899906842624) (hw : 0 ≤ wait ∧ wait ≤ 1125899906842624) (d : Nat) :
    ∀ i : Nat, i + d = l.length → (∀ j (hj : j < l.length), j < i → rm_rec l[j] now = true) → ∀ k, d + 2 * l.length + 2 ≤ k → tidewayref13_Mark.l0 k l now wait (i : Int) y.f0 y.f1 y.f2 y.f3 y.f4 y.f5 y.f6 y.f7 = some (if l.any (rm_bad now) = true then ([], 0, 2) else ((ms y l now wait).1, (ms y l now wait).2, 0)) := by
  induction d with
  | zero =>
    intro i hi hd k hk
    obtain ⟨k, rfl⟩ : ∃ m, k = m + 1 := ⟨k - 1, by omega⟩
    have hr : ∀ x ∈ l, rm_rec x now = true := fun x hx => by obtain ⟨j, hj, rfl⟩ := List.mem_iff_getElem.1 hx; exact hd j hj (by omega)
    rw [tidewayref13_Mark.l0, if_neg (by omega), if_neg (fun h => ((bad_iff l now).1 h) hr)]
    simp only [Option.bind_some, List.length_nil, Nat.zero_add, List.nil_append]
    rw [if_pos (by omega)]
    exact ref_l1 y l now wait hlen ho hn hw hr l.length 0 (by omega) k (by omega)
  | succ d ih =>
    intro i hi hd k hk
    obtain ⟨k, rfl⟩ : ∃ m, k = m + 1 := ⟨k - 1, by omega⟩
    have hlt : i < l.length := by omega
    have e1 : rd_T25 l (i : Int) = l[i] := by rw [rd_T25, Int.toNat_natCast, List.getD_eq_getElem?_getD, List.getElem?_eq_getElem hlt]; rfl
    have hw1 : wrap64 ((i : Int) + 1) = ((i + 1 : Nat) : Int) := by rw [w64 (by omega) (by omega)]; rfl
    rw [tidewayref13_Mark.l0, if_pos (Int.ofNat_lt.2 hlt), if_pos (Int.natCast_nonneg i), e1, rrec_f]
    simp only [Option.bind_some]
    by_cases h : rm_rec l[i] now = true
    · rw [if_pos h, hw1]
      exact ih (i + 1) (by omega) (fun j hj hji => by
        by_cases hj2 : j < i
        · exact hd j hj hj2
        · obtain rfl : j = i := by omega
          exact h) k (by omega)
    · rw [if_neg h, if_pos ((bad_iff l now).2 (fun hh => h (hh _ (List.getElem_mem _))))]
theorem ref_f (y : R) (l : List X) (now wait : Int) (hlen : l.length ≤ 1759218604440) (k : Nat) (hk : 3 * l.length + 5 ≤ k) : tidewayref13_Mark.f k y.f0 y.f1 y.f2 y.f3 y.f4 y.f5 y.f6 y.f7 l now wait = some (rmark y l now wait) := by
  obtain ⟨k, rfl⟩ : ∃ m, k = m + 1 := ⟨k - 1, by omega⟩
  rw [tidewayref13_Mark.f, rcheck_f, time_f, time_f]
  simp only [Option.bind_some, decide_eq_true_eq]
  unfold rmark
  rw [within_time]
  by_cases h1 : rm_chk y = 0
  · rw [if_pos h1, if_pos h1]
    by_cases h2 : 0 ≤ now ∧ now ≤ 1125899906842624
    · rw [if_pos h2]
      by_cases h3 : 0 ≤ wait ∧ wait ≤ 1125899906842624
      · rw [decide_eq_true h2, decide_eq_true h3, if_pos (by rfl)]
        rw [tidewayref13_Mark.j0, if_neg (by decide)]
        exact ref_l0 y l now wait hlen (chk_ok h1) h2 h3 l.length 0 (by omega) (fun j _ hj => absurd hj (by omega)) k (by omega)
      · rw [decide_eq_false h3, Bool.and_false, if_neg (by decide), tidewayref13_Mark.j0, if_pos (by rfl)]
    · rw [if_neg h2, decide_eq_false h2, Bool.false_and, if_neg (by decide), tidewayref13_Mark.j0, if_pos rfl]
  · rw [if_neg h1, if_neg h1, (chk_no h1).1]
theorem RackMarks (y : R) (l : List X) (now wait : Int) (w0 : WfK y) (w1 : WfL l) (w2 : (Lit.int .i64 now).wf = true) (w3 : (Lit.int .i64 wait).wf = true) :
    ∃ k, tidewaylaw13_RackMarks.f k y.f0 y.f1 y.f2 y.f3 y.f4 y.f5 y.f6 y.f7 l now wait = some true := by
  have hlen : l.length ≤ 1759218604440 := by have := w1.2.1; omega
  refine ⟨3 * l.length + 5, ?_⟩
  have hc : tidewayref10_Copy.f l = some l := by
    unfold tidewayref10_Copy.f
    simp only [Option.bind_some, List.length_nil, Nat.zero_add, List.nil_append]
    rw [if_pos (by omega)]
  have hs : (rmark y l now wait).1.length ≤ l.length := by
    unfold rmark
    split
    · split
      · split
        · exact Nat.zero_le _
        · simp [ms]
      · exact Nat.zero_le _
    · exact Nat.zero_le _
  rw [tidewaylaw13_RackMarks.f, hc]
  simp only [Option.bind_some]
  rw [rmark_f y l now wait (by omega), ref_f y l now wait hlen _ (Nat.le_refl _)]
  simp only [Option.bind_some]
  rw [same_refl _ (by omega) _ (by omega)]
  simp only [Option.bind_some, if_true]
  rw [same_refl _ hlen _ (by omega)]
  rfl
end Go.Proofs.Ytfckpjljpeaikaa.Pure

/- With more to wait fewer are lost, later all, and nothing is marked twice. -/
import Derived.Test.YtfckpjljpeaikaaRackFacts
import Derived.Test.YtfckpjljpeaikaaRackSame
import Derived.Test.YtfckpjljpeaikaaPAx12
set_option linter.unusedVariables false
set_option linter.unusedSimpArgs false
set_option autoImplicit false
namespace Go.Proofs.Ytfckpjljpeaikaa.Pure
open Go.RowKit Go.Proofs.Ytfckpjljpeaikaa.PA Go.Proofs.YtfckpjljpeaikaaW.PrintWords Go.Proofs.YtfckpjljpeaikaaW.PrintMore Go.Proofs.Ytfckpjljpeaikaa.RackFacts
theorem mk_cases (y : R) (now wait : Int) (x : X) : (rm_asks y x = true ∧ ¬ rm_left y now wait x > 0 ∧ mk y now wait x = (⟨x.f0, x.f1, x.f2, x.f3, x.f4, x.f5, true, false, x.f8, x.f9, x.f10, x.f11⟩ : X)) ∨ (¬ (rm_asks y x = true ∧ ¬ rm_left y now wait x > 0) ∧ mk y now wait x = x) := by
  unfold mk
  by_cases h : rm_asks y x = true ∧ ¬ rm_left y now wait x > 0
  · rw [if_pos h]; exact .inl ⟨h.1, h.2, rfl⟩
  · rw [if_neg h]; exact .inr ⟨h, rfl⟩
theorem asks_not (y : R) (x : X) (h6 : x.f6 = true) (h7 : x.f7 = false) : rm_asks y x = false := by unfold rm_asks; rw [h6, h7]; simp
theorem rec_mk (y : R) (now wait : Int) (x : X) (n : Int) : rm_rec (mk y now wait x) n = rm_rec x n := by
  rcases mk_cases y now wait x with ⟨_, _, e⟩ | ⟨_, e⟩ <;> rw [e] <;> rfl
theorem mk_mk (y : R) (now wait : Int) (x : X) : mk y now wait (mk y now wait x) = mk y now wait x := by
  rcases mk_cases y now wait x with ⟨_, _, e⟩ | ⟨_, e⟩
  · rw [e]
    have h := asks_not y (⟨x.f0, x.f1, x.f2, x.f3, x.f4, x.f5, true, false, x.f8, x.f9, x.f10, x.f11⟩ : X) rfl rfl
    unfold mk
    rw [if_neg (by rw [h]; simp)]
  · rw [e, e]
theorem lg_mk (y : R) (now wait : Int) (n : Int) (x : X) : lg y now wait n (mk y now wait x) = lg y now wait n x := by
  rcases mk_cases y now wait x with ⟨h1, h2, e⟩ | ⟨_, e⟩
  · rw [e]
    have h := asks_not y (⟨x.f0, x.f1, x.f2, x.f3, x.f4, x.f5, true, false, x.f8, x.f9, x.f10, x.f11⟩ : X) rfl rfl
    unfold lg
    rw [if_neg (by rw [h]; simp), if_neg (by intro hh; exact h2 hh.2)]
  · rw [e]
theorem ms_ms (y : R) (l : List X) (now wait : Int) : ms y (ms y l now wait).1 now wait = ms y l now wait := by
  unfold ms
  simp only [List.map_map, List.foldl_map]
  congr 1
  · exact List.map_congr_left (fun x _ => mk_mk y now wait x)
  · congr 1
    funext n x
    exact lg_mk y now wait n x
theorem lg_ge (y : R) (now wait : Int) (l : List X) : ∀ n : Int, n ≤ l.foldl (lg y now wait) n ∧ ∀ x ∈ l, rm_asks y x = true → rm_left y now wait x ≤ 0 ∨ rm_left y now wait x ≤ l.foldl (lg y now wait) n := by
  induction l with
  | nil => intro n; simp
  | cons a l ih =>
    intro n
    rw [List.foldl_cons]
    obtain ⟨h1, h2⟩ := ih (lg y now wait n a)
    have hn : n ≤ lg y now wait n a := by unfold lg; split; exact (mxs _ _).1; exact Int.le_refl _
    refine ⟨Int.le_trans hn h1, fun x hx hxa => ?_⟩
    rcases List.mem_cons.1 hx with rfl | hx
    · by_cases hl : rm_left y now wait x > 0
      · right
        refine Int.le_trans ?_ h1
        unfold lg; rw [if_pos ⟨hxa, hl⟩]; exact (mxs _ _).2.1
      · left; omega
    · exact h2 x hx hxa
theorem lg_zero (y : R) (now wait : Int) (l : List X) (h : ∀ x ∈ l, rm_asks y x = true → rm_left y now wait x ≤ 0) : l.foldl (lg y now wait) 0 = 0 := by
  induction l with
  | nil => rfl
  | cons a l ih =>
    rw [List.foldl_cons]
    have : lg y now wait 0 a = 0 := by unfold lg; rw [if_neg]; rintro ⟨h1, h2⟩; have := h a List.mem_cons_self h1; omega
    rw [this]
    exact ih (fun x hx => h x (List.mem_cons_of_mem _ hx))
theorem less_loop (y : R) (l : List X) (now wait more : Int) (hlen : l.length ≤ 1759218604440) (ho : Ok y) (hn : 0 ≤ now ∧ now ≤ 1099511627776) (hw : 0 ≤ wait ∧ wait ≤ 1099511627776) (hm : 0 ≤ more ∧ more ≤ 1099511627776) (hr : ∀ x ∈ l, rm_rec x now = true)
    (lf : Int) (K : Nat) (hend : ∀ k, K ≤ k → tidewaylaw13_RackLess.l0 (k + 1) l now wait (l.map (mk y now wait)) lf (l.map (mk y now (wait + more))) (l.length : Int) y.f0 y.f1 y.f2 y.f3 y.f4 y.f5 y.f6 y.f7 = some true) (d : Nat) :
    ∀ i : Nat, i + d = l.length → ∀ k, 2 * d + K ≤ k → tidewaylaw13_RackLess.l0 (k + 1) l now wait (l.map (mk y now wait)) lf (l.map (mk y now (wait + more))) (i : Int) y.f0 y.f1 y.f2 y.f3 y.f4 y.f5 y.f6 y.f7 = some true := by
  induction d with
  | zero =>
    intro i hi k hk
    obtain rfl : i = l.length := by omega
    exact hend k (by omega)
  | succ d ih =>
    intro i hi k hk
    obtain ⟨k, rfl⟩ : ∃ m, k = m + 2 := ⟨k - 2, by omega⟩
    have ih := ih (i + 1) (by omega) k (by omega)
    have hlt : i < l.length := by omega
    have e1 : ∀ wt, rd_T25 (l.map (mk y now wt)) (i : Int) = mk y now wt l[i] := fun wt => by rw [rd_T25, Int.toNat_natCast, List.getD_eq_getElem?_getD, List.getElem?_map, List.getElem?_eq_getElem hlt]; rfl
    have hx := hr l[i] (List.getElem_mem _)
    have hw1 : wrap64 ((i : Int) + 1) = ((i + 1 : Nat) : Int) := by rw [w64 (by omega) (by omega)]; rfl
    have c1 : (i : Int) < (l.length : Int) := Int.ofNat_lt.2 hlt
    have c2 : (0 : Int) ≤ (i : Int) := Int.natCast_nonneg i
    have c3 : ∀ wt, (i : Int) < ((l.map (mk y now wt)).length : Int) := fun wt => by rw [List.length_map]; exact c1
    have hle1 := left_eq ho (now := now) (wait := wait) ⟨hn.1, by omega⟩ ⟨hw.1, by omega⟩ hx
    have hle2 := left_eq ho (now := now) (wait := wait + more) ⟨hn.1, by omega⟩ ⟨by omega, by omega⟩ hx
    have hj : tidewaylaw13_RackLess.j4 (k + 2) l now wait (l.map (mk y now wait)) lf (l.map (mk y now (wait + more))) (i : Int) false y.f0 y.f1 y.f2 y.f3 y.f4 y.f5 y.f6 y.f7 = some true := by
      rw [tidewaylaw13_RackLess.j4, if_neg (by decide), hw1]
      exact ih
    rw [tidewaylaw13_RackLess.l0, if_pos c1, if_pos c2, if_pos (c3 _), e1, e1]
    generalize l[i] = x at *
    rcases mk_cases y now (wait + more) x with ⟨h1, h2, e⟩ | ⟨h, e⟩
    · rw [e]
      have h3 : mk y now wait x = (⟨x.f0, x.f1, x.f2, x.f3, x.f4, x.f5, true, false, x.f8, x.f9, x.f10, x.f11⟩ : X) := by
        rcases mk_cases y now wait x with ⟨_, _, e'⟩ | ⟨h', _⟩
        · exact e'
        · exact absurd ⟨h1, by rw [hle1]; rw [hle2] at h2; omega⟩ h'
      rw [h3]
      simp only [if_true, Bool.false_eq_true, if_false, if_pos (c3 _)]
      exact hj
    · rw [e]
      by_cases h6 : x.f6 = true
      · rw [if_pos h6]
        by_cases h7 : x.f7 = true
        · rw [if_pos h7]; exact hj
        · have h7 := Bool.eq_false_iff.mpr h7
          have h3 : mk y now wait x = x := by
            rcases mk_cases y now wait x with ⟨h', _, _⟩ | ⟨_, e'⟩
            · rw [asks_not y x h6 h7] at h'; cases h'
            · exact e'
          rw [h3, h7, if_neg (by decide), if_pos (c3 _), if_pos h6]
          exact hj
      · rw [if_neg h6]; exact hj
theorem RackLess (y : R) (l : List X) (now wait more : Int) (w0 : WfK y) (w1 : WfL l) (w2 : (Lit.int .i64 now).wf = true) (w3 : (Lit.int .i64 wait).wf = true) (w4 : (Lit.int .i64 more).wf = true) :
    ∃ k, tidewaylaw13_RackLess.f k y.f0 y.f1 y.f2 y.f3 y.f4 y.f5 y.f6 y.f7 l now wait more = some true := by
  have hlen : l.length ≤ 1759218604440 := by have := w1.2.1; omega
  refine ⟨3 * l.length + 20, ?_⟩
  obtain ⟨K, hK⟩ : ∃ K, K = 3 * l.length + 19 := ⟨_, rfl⟩
  have hb : ∀ k, tidewaylaw13_RackLess.j0 (k + 1) l now wait more true y.f0 y.f1 y.f2 y.f3 y.f4 y.f5 y.f6 y.f7 = some true := fun k => by rw [tidewaylaw13_RackLess.j0, if_pos rfl]; rfl
  rw [tidewaylaw13_RackLess.f]
  by_cases g1 : more < 0
  · rw [if_pos g1]; exact hb _
  rw [if_neg g1]
  by_cases g2 : more > 1099511627776
  · rw [if_pos g2]; exact hb _
  rw [if_neg g2]
  by_cases g3 : wait < 0
  · rw [if_pos g3]; exact hb _
  rw [if_neg g3]
  by_cases g4 : wait > 1099511627776
  · rw [if_pos g4]; exact hb _
  rw [if_neg g4]
  by_cases g5 : now < 0
  · rw [if_pos g5]; exact hb _
  rw [if_neg g5]
  by_cases g6 : now > 1099511627776
  · rw [decide_eq_true g6]; exact hb _
  rw [decide_eq_false g6, tidewaylaw13_RackLess.j0, if_neg (by decide), w64 (n := wait + more) (by omega) (by omega), rmark_f y l now wait (by omega), rmark_f y l now (wait + more) (by omega)]
  simp only [Option.bind_some]
  have hn : 0 ≤ now ∧ now ≤ 1099511627776 := by omega
  have hw : 0 ≤ wait ∧ wait ≤ 1099511627776 := by omega
  have hm : 0 ≤ more ∧ more ≤ 1099511627776 := by omega
  have t1 : ∀ a b : Int, 0 ≤ a → a ≤ 1125899906842624 → 0 ≤ b → b ≤ 1125899906842624 → rm_within 1125899906842624 [a, b] = true := fun a b h1 h2 h3 h4 => (rwithin_iff _ _).2 (by simp; omega)
  have t2 := t1 now wait (by omega) (by omega) (by omega) (by omega)
  have t3 := t1 now (wait + more) (by omega) (by omega) (by omega) (by omega)
  have hj1 : ∀ k a b c e, tidewaylaw13_RackLess.j1 (k + 1) l now wait a b e c e true y.f0 y.f1 y.f2 y.f3 y.f4 y.f5 y.f6 y.f7 = some true := fun k a b c e => by rw [tidewaylaw13_RackLess.j1, if_pos rfl, if_pos rfl]; rfl
  by_cases h1 : rm_chk y = 0
  · by_cases h3 : l.any (rm_bad now) = true
    · have m1 : ∀ wt, rm_within 1125899906842624 [now, wt] = true → rmark y l now wt = ([], 0, 2) := fun wt h => by unfold rmark; rw [if_pos h1, if_pos h, if_pos h3]
      rw [m1 _ t2, m1 _ t3]
      show (if (2 : Int) = 0 then _ else _) = _
      rw [if_neg (by decide)]
      exact hj1 _ _ _ _ _
    · have hr : ∀ x ∈ l, rm_rec x now = true := Classical.not_not.1 (fun h => h3 ((bad_iff l now).2 h))
      have m1 : ∀ wt, rm_within 1125899906842624 [now, wt] = true → rmark y l now wt = ((ms y l now wt).1, (ms y l now wt).2, 0) := fun wt h => by unfold rmark; rw [if_pos h1, if_pos h, if_neg h3]
      rw [m1 _ t2, m1 _ t3]
      show (if (0 : Int) = 0 then tidewaylaw13_RackLess.j1 _ l now wait (l.map (mk y now wait)) _ 0 (l.map (mk y now (wait + more))) 0 (0 != 0) _ _ _ _ _ _ _ _ else _) = _
      rw [if_pos rfl, show ((0 : Int) != 0) = false from rfl]
      obtain ⟨lf, hlf⟩ : ∃ lf, (ms y l now wait).2 = lf := ⟨_, rfl⟩
      rw [hlf]
      rw [tidewaylaw13_RackLess.j1, if_neg (by decide), if_pos (by rw [List.length_map])]
      rw [show (((l.map (mk y now (wait + more))).length : Int) != (l.length : Int)) = false from by simp]
      rw [tidewaylaw13_RackLess.j2, if_neg (by decide)]
      refine less_loop y l now wait more hlen (chk_ok h1) hn hw hm hr lf (l.length + 10) ?_ l.length 0 (by omega) (3 * l.length + 16) (by omega)
      intro k hk
      have e0 : (ms y l now wait).1 = l.map (mk y now wait) := rfl
      have hlf0 : 0 ≤ lf := by rw [← hlf]; exact (lg_ge y now wait l 0).1
      have hrm : ∀ n, (∀ x ∈ l, rm_rec x n = true) → ¬ (l.map (mk y now wait)).any (rm_bad n) = true := fun n h hh => ((bad_iff _ n).1 hh) (by
        intro x hx
        obtain ⟨x', hx', rfl⟩ := List.mem_map.1 hx
        rw [rec_mk]; exact h x' hx')
      have m2 : rmark y (l.map (mk y now wait)) now wait = (l.map (mk y now wait), lf, 0) := by
        unfold rmark
        rw [if_pos h1, if_pos t2, if_neg (hrm now hr), ← e0, ms_ms, hlf]
      rw [tidewaylaw13_RackLess.l0, if_neg (Int.lt_irrefl _), rmark_f y _ now wait (by rw [List.length_map]; omega), m2]
      simp only [Option.bind_some, if_true]
      rw [same_refl _ (by rw [List.length_map]; exact hlen) _ (by rw [List.length_map]; omega)]
      simp only [Option.bind_some, if_true]
      obtain ⟨k, rfl⟩ : ∃ m, k = m + 1 := ⟨k - 1, by omega⟩
      by_cases hbig : lf > 562949953421312
      · rw [decide_eq_true hbig, tidewaylaw13_RackLess.j5, if_pos rfl, if_pos rfl, if_pos hbig]; rfl
      · rw [decide_eq_false hbig, tidewaylaw13_RackLess.j5, if_neg (by decide), w64 (n := now + lf) (by omega) (by omega), rmark_f y _ (now + lf) wait (by rw [List.length_map]; omega)]
        simp only [Option.bind_some]
        have t4 := t1 (now + lf) wait (by omega) (by omega) (by omega) (by omega)
        have hr2 : ∀ x ∈ l, rm_rec x (now + lf) = true := fun x hx => by
          have h := (rec_iff x now).1 (hr x hx)
          exact (rec_iff x (now + lf)).2 ⟨h.1, h.2.1, ⟨h.2.2.1.1, by omega⟩, h.2.2.2⟩
        have m3 : rmark y (l.map (mk y now wait)) (now + lf) wait = ((ms y (l.map (mk y now wait)) (now + lf) wait).1, 0, 0) := by
          unfold rmark
          rw [if_pos h1, if_pos t4, if_neg (hrm _ hr2)]
          have hz : (ms y (l.map (mk y now wait)) (now + lf) wait).2 = 0 := by
            refine lg_zero y _ _ _ (fun x hx ha => ?_)
            obtain ⟨x', hx', rfl⟩ := List.mem_map.1 hx
            rcases mk_cases y now wait x' with ⟨_, _, e⟩ | ⟨_, e⟩
            · rw [e, asks_not y _ rfl rfl] at ha; cases ha
            · rw [e] at ha ⊢
              have q1 := left_eq (chk_ok h1) (now := now) (wait := wait) ⟨hn.1, by omega⟩ ⟨hw.1, by omega⟩ (hr x' hx')
              have q2 := left_eq (chk_ok h1) (now := now + lf) (wait := wait) ⟨by omega, by omega⟩ ⟨hw.1, by omega⟩ (hr2 x' hx')
              have q3 := (lg_ge y now wait l 0).2 x' hx' ha
              have q4 : l.foldl (lg y now wait) 0 = lf := hlf
              rw [q4] at q3
              omega
          rw [hz]
        rw [m3]
        simp only [if_true]
        rfl
  · have m1 : ∀ wt, rmark y l now wt = ([], 0, 230) := fun wt => by unfold rmark; rw [if_neg h1, (chk_no h1).1]
    rw [m1, m1]
    show (if (230 : Int) = 0 then _ else _) = _
    rw [if_neg (by decide)]
    exact hj1 _ _ _ _ _
end Go.Proofs.Ytfckpjljpeaikaa.Pure

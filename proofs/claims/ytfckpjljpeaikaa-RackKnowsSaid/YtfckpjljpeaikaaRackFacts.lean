/- What rack's marks are, in plain words. -/
import Derived.Test.YtfckpjljpeaikaaPAx8
set_option linter.unusedVariables false
set_option linter.unusedSimpArgs false
set_option autoImplicit false
namespace Go.Proofs.Ytfckpjljpeaikaa.RackFacts
open Go.RowKit Go.Proofs.Ytfckpjljpeaikaa.PA Go.Proofs.YtfckpjljpeaikaaW.PrintWords Go.Proofs.YtfckpjljpeaikaaW.PrintMore
abbrev X := S25
abbrev R := S23
def WfX (x : X) : Prop := ((Lit.int .i64 x.f0).wf = true) ∧ ((Lit.int .i64 x.f1).wf = true) ∧ (True) ∧ ((Lit.int .i64 x.f3).wf = true) ∧ ((Lit.int .i64 x.f4).wf = true) ∧ (True) ∧ (True) ∧ (True) ∧ ((Lit.int .i64 x.f8).wf = true) ∧ ((Lit.int .i64 x.f9).wf = true) ∧ ((Lit.int .i64 x.f10).wf = true) ∧ (True)
def WfK (x : R) : Prop := ((Lit.int .i64 x.f0).wf = true) ∧ ((Lit.int .i64 x.f1).wf = true) ∧ ((Lit.int .i64 x.f2).wf = true) ∧ (True) ∧ ((Lit.int .i64 x.f4).wf = true) ∧ ((Lit.int .i64 x.f5).wf = true) ∧ ((Lit.int .i64 x.f6).wf = true) ∧ ((Lit.int .i64 x.f7).wf = true)
def WfL (l : List X) : Prop := (∀ x ∈ l, WfX x) ∧ l.length * 80 ≤ 140737488351232 ∧ l.length ≤ 9223372036854775807
theorem wf64 {c : Int} (h : (Lit.int .i64 c).wf = true) : -9223372036854775808 ≤ c ∧ c ≤ 9223372036854775807 := by simpa [Lit.wf, IntKind.min, IntKind.max, IntKind.signed, IntKind.bits] using h
theorem w64 {n : Int} (h0 : -9223372036854775808 ≤ n) (h1 : n ≤ 9223372036854775807) : wrap64 n = n := by unfold wrap64; omega
theorem up_ {α : Type} {f : Nat → Option α} (hm : ∀ k, LeO (f k) (f (k + 1))) {k0 : Nat} {r : α} (h : f k0 = some r) : ∀ k, k0 ≤ k → f k = some r := by
  intro k hk
  induction k with
  | zero => rw [← h]; congr 1; omega
  | succ k ih =>
    by_cases e : k0 = k + 1
    · rw [← e]; exact h
    · exact hm k r (ih (by omega))
def mk (ks : R) (now wait : Int) (x : X) : X := if rm_asks ks x = true ∧ ¬ rm_left ks now wait x > 0 then (⟨x.f0, x.f1, x.f2, x.f3, x.f4, x.f5, true, false, x.f8, x.f9, x.f10, x.f11⟩ : S25) else x
def lg (ks : R) (now wait : Int) (n : Int) (x : X) : Int := if rm_asks ks x = true ∧ rm_left ks now wait x > 0 then mx n (rm_left ks now wait x) else n
theorem marks_to (ks : R) (l : List X) (now wait : Int) (k : Nat) (hk : k ≤ l.length) :
    rm_marks ks l now wait (rm_pick ks l k) = ((l.take k).map (mk ks now wait) ++ l.drop k, (l.take k).foldl (lg ks now wait) 0) := by
  induction k with
  | zero => simp [rm_pick, rm_marks]
  | succ k ih =>
    have hlt : k < l.length := hk
    have ih := ih (by omega)
    rw [rm_pick_succ ks l k hlt, List.take_succ_eq_append_getElem hlt, List.map_append, List.foldl_append]
    by_cases ha : rm_asks ks l[k] = true
    · rw [if_pos ha, rm_marks_snoc, ih]
      unfold rm_step
      by_cases hl : rm_left ks now wait l[k] > 0
      · have e1 : mk ks now wait l[k] = l[k] := by unfold mk; rw [if_neg]; intro h; exact h.2 hl
        have e2 : lg ks now wait (List.foldl (lg ks now wait) 0 (l.take k)) l[k] = mx (List.foldl (lg ks now wait) 0 (l.take k)) (rm_left ks now wait l[k]) := by unfold lg; rw [if_pos ⟨ha, hl⟩]
        have e3 : l.drop k = l[k] :: l.drop (k + 1) := List.drop_eq_getElem_cons hlt
        simp only [List.map_cons, List.map_nil, List.foldl_cons, List.foldl_nil, e1, e2]
        rw [if_pos (show rm_left ks now wait l[(⟨k, hlt⟩ : Fin l.length)] > 0 from hl)]
        rw [e3]
        simp
      · have e1 : mk ks now wait l[k] = (⟨l[k].f0, l[k].f1, l[k].f2, l[k].f3, l[k].f4, l[k].f5, true, false, l[k].f8, l[k].f9, l[k].f10, l[k].f11⟩ : S25) := by unfold mk; rw [if_pos ⟨ha, hl⟩]
        have e2 : lg ks now wait (List.foldl (lg ks now wait) 0 (l.take k)) l[k] = List.foldl (lg ks now wait) 0 (l.take k) := by unfold lg; rw [if_neg]; intro h; exact hl h.2
        have e3 : l.drop k = l[k] :: l.drop (k + 1) := List.drop_eq_getElem_cons hlt
        have e4 : ((l.take k).map (mk ks now wait)).length = k := by rw [List.length_map, List.length_take]; omega
        have e5 : rd_T25 ((l.take k).map (mk ks now wait) ++ l.drop k) (k : Int) = l[k] := by
          rw [rd_T25, Int.toNat_natCast, List.getD_eq_getElem?_getD, e3, List.getElem?_append_right (by omega), e4, Nat.sub_self]
          rfl
        simp only [List.map_cons, List.map_nil, List.foldl_cons, List.foldl_nil, e1, e2]
        rw [if_neg (show ¬ rm_left ks now wait l[(⟨k, hlt⟩ : Fin l.length)] > 0 from hl)]
        show ((List.map (mk ks now wait) (List.take k l) ++ List.drop k l).set k _, _) = _
        rw [e5, e3, List.set_append_right _ _ (by omega), e4, Nat.sub_self, List.set_cons_zero]
        simp only [List.append_assoc, List.cons_append, List.nil_append]
    · have e1 : mk ks now wait l[k] = l[k] := by unfold mk; rw [if_neg]; intro h; exact ha h.1
      have e2 : lg ks now wait (List.foldl (lg ks now wait) 0 (l.take k)) l[k] = List.foldl (lg ks now wait) 0 (l.take k) := by unfold lg; rw [if_neg]; intro h; exact ha h.1
      have e3 : l.drop k = l[k] :: l.drop (k + 1) := List.drop_eq_getElem_cons hlt
      rw [if_neg ha, List.append_nil, ih]
      simp only [List.map_cons, List.map_nil, List.foldl_cons, List.foldl_nil, e1, e2]
      rw [e3]
      simp
def ms (ks : R) (l : List X) (now wait : Int) : List X × Int := (l.map (mk ks now wait), l.foldl (lg ks now wait) 0)
theorem marks_eq (ks : R) (l : List X) (now wait : Int) : rm_marks ks l now wait (rm_pick ks l l.length) = ms ks l now wait := by
  rw [marks_to ks l now wait l.length (Nat.le_refl _)]
  simp [ms]
/-- rack.Mark's answer. -/
def rmark (ks : R) (l : List X) (now wait : Int) : List X × Int × Int :=
  if rm_chk ks = 0 then (if rm_within 1125899906842624 [now, wait] = true then (if l.any (rm_bad now) = true then ([], 0, 2) else ((ms ks l now wait).1, (ms ks l now wait).2, 0)) else ([], 0, 2)) else ([], 0, rm_chk ks)
theorem rmark_f (ks : R) (l : List X) (now wait : Int) (hl : l.length < 1759218604441) : rack_Mark.f ks.f0 ks.f1 ks.f2 ks.f3 ks.f4 ks.f5 ks.f6 ks.f7 l now wait = some (rmark ks l now wait) := by
  unfold rack_Mark.f rmark
  have e : (⟨ks.f0, ks.f1, ks.f2, ks.f3, ks.f4, ks.f5, ks.f6, ks.f7⟩ : R) = ks := rfl
  rw [e, marks_eq]
  by_cases h1 : rm_chk ks = 0
  · rw [if_pos h1, if_pos h1]
    by_cases h2 : rm_within 1125899906842624 [now, wait] = true
    · rw [if_pos h2, if_pos h2]
      by_cases h3 : l.any (rm_bad now) = true
      · rw [if_pos h3, if_pos h3]
      · rw [if_neg h3, if_neg h3, if_pos hl]
    · rw [if_neg h2, if_neg h2]
  · rw [if_neg h1, if_neg h1]
theorem chk_two (ks : R) : rm_chk ks = 0 ∨ rm_chk ks = 230 := by unfold rm_chk; split <;> simp
theorem rwithin_iff (most : Int) (l : List Int) : rm_within most l = true ↔ ∀ x ∈ l, 0 ≤ x ∧ x ≤ most := by
  unfold rm_within
  simp only [Bool.not_eq_true', List.any_eq_false, rk_out, Bool.or_eq_true, decide_eq_true_eq, not_or, Int.not_lt]
/-- What may be. -/
def Ok (ks : R) : Prop := (0 ≤ ks.f0 ∧ ks.f0 ≤ 2251799813685248) ∧ (0 ≤ ks.f1 ∧ ks.f1 ≤ 2251799813685248) ∧ (0 ≤ ks.f2 ∧ ks.f2 ≤ 2251799813685248) ∧ (0 ≤ ks.f4 ∧ ks.f4 ≤ 2251799813685248) ∧ (0 ≤ ks.f7 ∧ ks.f7 ≤ 2251799813685248) ∧ (1 ≤ ks.f5 ∧ ks.f5 ≤ 255) ∧ 0 ≤ ks.f6 ∧ ks.f6 ≤ 16
theorem chk_ok {ks : R} (h : rm_chk ks = 0) : Ok ks := by
  unfold rm_chk at h
  split at h
  · rename_i hc
    obtain ⟨h1, h2, h3, h4⟩ := hc
    have h1 := (rwithin_iff _ _).1 h1
    have h4 := (rwithin_iff _ _).1 h4
    simp at h1 h4
    exact ⟨⟨by omega, by omega⟩, ⟨by omega, by omega⟩, ⟨by omega, by omega⟩, ⟨by omega, by omega⟩, ⟨by omega, by omega⟩, ⟨h2, h3⟩, by omega, by omega⟩
  · omega
theorem chk_no {ks : R} (h : ¬ rm_chk ks = 0) : rm_chk ks = 230 ∧ ¬ Ok ks := by
  refine ⟨(chk_two ks).resolve_left h, fun ho => h ?_⟩
  obtain ⟨⟨a, a'⟩, ⟨b, b'⟩, ⟨c, c'⟩, ⟨d, d'⟩, ⟨e, e'⟩, ⟨f, f'⟩, g, g'⟩ := ho
  unfold rm_chk
  rw [if_pos ⟨(rwithin_iff _ _).2 (by simp; omega), f, f', (rwithin_iff _ _).2 (by simp; omega)⟩]
theorem rec_iff (x : X) (now : Int) : rm_rec x now = true ↔ (0 ≤ x.f0 ∧ x.f0 ≤ 2251799813685248) ∧ (0 ≤ x.f1 ∧ x.f1 ≤ 2251799813685248) ∧ (0 ≤ x.f3 ∧ x.f3 ≤ now) ∧ 1 ≤ x.f4 := by
  unfold rm_rec
  simp only [Bool.and_eq_true, decide_eq_true_eq]
  omega
theorem bad_iff (l : List X) (now : Int) : l.any (rm_bad now) = true ↔ ¬ ∀ x ∈ l, rm_rec x now = true := by
  simp only [List.any_eq_true, rm_bad, Bool.not_eq_true', Classical.not_forall]
  constructor
  · rintro ⟨x, hx, h⟩; exact ⟨x, hx, by simp [h]⟩
  · rintro ⟨x, hx, h⟩; exact ⟨x, hx, by simpa using h⟩
/-- Within the bounds nothing wraps. -/
theorem left_eq {ks : R} (h : Ok ks) {now wait : Int} (hn : 0 ≤ now ∧ now ≤ 2251799813685248) (hw : 0 ≤ wait ∧ wait ≤ 2251799813685248) {x : X} (hx : rm_rec x now = true) : rm_left ks now wait x = x.f3 + ks.f2 + wait - now := by
  obtain ⟨_, _, hx3, _⟩ := (rec_iff x now).1 hx
  obtain ⟨_, _, hk, _⟩ := h
  unfold rm_left
  rw [w64 (n := x.f3 + ks.f2) (by omega) (by omega), w64 (n := x.f3 + ks.f2 + wait) (by omega) (by omega), w64 (by omega) (by omega)]
theorem ahead_le {ks : R} {x : X} (h : rm_asks ks x = true) : x.f5 = false ∧ x.f3 ≤ ks.f0 ∧ (x.f7 = true ∨ x.f6 = false) := by
  unfold rm_asks rm_ahead at h
  simp only [Bool.and_eq_true, Bool.or_eq_true, Bool.not_eq_true', decide_eq_true_eq] at h
  obtain ⟨⟨h1, h2⟩, h3⟩ := h
  exact ⟨h1, by omega, h2⟩
theorem mxs (a b : Int) : a ≤ mx a b ∧ b ≤ mx a b ∧ (mx a b = a ∨ mx a b = b) := by unfold mx; split <;> omega
end Go.Proofs.Ytfckpjljpeaikaa.RackFacts

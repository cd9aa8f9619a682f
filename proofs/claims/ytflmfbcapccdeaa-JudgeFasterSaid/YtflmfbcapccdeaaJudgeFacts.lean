/- Plain facts for the laws about what was sent: heads, paces of parts. -/
import Derived.Test.YtflmfbcapccdeaaPAx24
import Derived.Test.YtflmfbcapccdeaaPAx17
set_option linter.unusedVariables false
set_option linter.unusedSimpArgs false
set_option autoImplicit false
namespace Go.Proofs.Ytflmfbcapccdeaa.JudgeFacts
open Go.RowKit Go.Proofs.Ytflmfbcapccdeaa.PA Go.Proofs.YtflmfbcapccdeaaW.PrintWords Go.Proofs.YtflmfbcapccdeaaW.PrintMore
abbrev E := S62
theorem heads (k : Nat) (hk : 40 ≤ k) : tidewaylaw25_heads.f k = some true := by
  obtain ⟨d, rfl⟩ : ∃ d, k = 40 + d := ⟨k - 40, by omega⟩
  exact more_rounds tidewaylaw25_heads.mono 40 d _ (by kernel_rfl)
theorem e_parts {last : Int} {x : E} (h : jp_e last x = true) : 0 ≤ x.f1 ∧ x.f1 ≤ 1073741824 ∧ last ≤ x.f0 ∧ x.f0 ≤ 35184372088832 := by
  unfold jp_e at h
  simp only [Bool.and_eq_true, decide_eq_true_eq] at h
  exact h
theorem e_mk {last : Int} {x : E} (h : 0 ≤ x.f1 ∧ x.f1 ≤ 1073741824 ∧ last ≤ x.f0 ∧ x.f0 ≤ 35184372088832) : jp_e last x = true := by
  unfold jp_e
  simp only [Bool.and_eq_true, decide_eq_true_eq]
  exact h
theorem es_anti {a b : Int} (h : a ≤ b) : ∀ l : List E, jp_es b l = true → jp_es a l = true
  | [], _ => rfl
  | x :: l, hl => by
    rw [jp_es, Bool.and_eq_true] at hl ⊢
    have := e_parts hl.1
    exact ⟨e_mk ⟨this.1, this.2.1, by omega, this.2.2.2⟩, hl.2⟩
theorem es_sub {l' l : List E} (h : l'.Sublist l) : ∀ last : Int, jp_es last l = true → jp_es last l' = true := by
  induction h with
  | slnil => intro last hl; exact hl
  | cons x h ih =>
    intro last hl
    rw [jp_es, Bool.and_eq_true] at hl
    exact ih last (es_anti (e_parts hl.1).2.2.1 _ hl.2)
  | cons_cons x h ih =>
    intro last hl
    rw [jp_es, Bool.and_eq_true] at hl ⊢
    exact ⟨hl.1, ih _ hl.2⟩
theorem in_sub {rate t : Int} {l' l : List E} (h : l'.Sublist l) : ∀ s s' : Int, s' ≤ s → (∀ x ∈ l, 0 ≤ x.f1) → jp_in rate t s l = true → jp_in rate t s' l' = true := by
  induction h with
  | slnil => intro s s' _ _ hl; rfl
  | cons x h ih =>
    intro s s' hs hp hl
    rw [jp_in, Bool.and_eq_true] at hl
    have := hp x List.mem_cons_self
    exact ih (s + x.f1) s' (by omega) (fun y hy => hp y (List.mem_cons_of_mem _ hy)) hl.2
  | cons_cons x h ih =>
    intro s s' hs hp hl
    rw [jp_in, Bool.and_eq_true, Bool.or_eq_true, decide_eq_true_eq, decide_eq_true_eq] at hl ⊢
    exact ⟨by rcases hl.1 with h1 | h1
              · exact .inl (by omega)
              · exact .inr (by omega), ih _ _ (by omega) (fun y hy => hp y (List.mem_cons_of_mem _ hy)) hl.2⟩
theorem most_mono {r r' d : Int} (h : r ≤ r') (hd : 0 ≤ d) : jp_most r d ≤ jp_most r' d := by
  unfold jp_most
  have h1 : d * r ≤ d * r' := Int.mul_le_mul_of_nonneg_left h hd
  have h2 : d * r / 1000000 ≤ d * r' / 1000000 := Int.ediv_le_ediv (by decide) h1
  have := jp_mns (d * r / 1000000) 9223372036854775807
  have := jp_mns (d * r' / 1000000) 9223372036854775807
  omega
theorem in_rate {r r' t : Int} (h : r ≤ r') : ∀ (l : List E) (s : Int), (∀ x ∈ l, t ≤ x.f0) → jp_in r t s l = true → jp_in r' t s l = true
  | [], _, _, _ => rfl
  | x :: l, s, hp, hl => by
    rw [jp_in, Bool.and_eq_true, Bool.or_eq_true, decide_eq_true_eq, decide_eq_true_eq] at hl ⊢
    have := hp x List.mem_cons_self
    have := most_mono h (d := x.f0 - t) (by omega)
    exact ⟨by rcases hl.1 with h1 | h1
              · exact .inl (by omega)
              · exact .inr h1, in_rate h l _ (fun y hy => hp y (List.mem_cons_of_mem _ hy)) hl.2⟩
theorem es_pos {l : List E} {last : Int} (h : jp_es last l = true) : ∀ x ∈ l, 0 ≤ x.f1 := fun x hx => (jp_es_mem l last h x hx).1
theorem out_sub {rate b b' : Int} (hb : b ≤ b') {l' l : List E} (h : l'.Sublist l) : ∀ last : Int, jp_es last l = true → jp_out rate b l = true → jp_out rate b' l' = true := by
  induction h with
  | slnil => intro last _ _; rfl
  | cons x h ih =>
    intro last he hl
    rw [jp_es, Bool.and_eq_true] at he
    rw [jp_out, Bool.and_eq_true] at hl
    exact ih _ he.2 hl.2
  | cons_cons x h ih =>
    intro last he hl
    have hp := es_pos he
    rw [jp_es, Bool.and_eq_true] at he
    rw [jp_out, Bool.and_eq_true] at hl ⊢
    exact ⟨in_sub (List.Sublist.cons_cons x h) _ _ (by omega) hp hl.1, ih _ he.2 hl.2⟩
theorem out_rate {r r' b : Int} (h : r ≤ r') : ∀ (l : List E) (last : Int), jp_es last l = true → jp_out r b l = true → jp_out r' b l = true
  | [], _, _, _ => rfl
  | x :: l, last, he, hl => by
    rw [jp_es, Bool.and_eq_true] at he
    rw [jp_out, Bool.and_eq_true] at hl ⊢
    refine ⟨in_rate h _ _ (fun y hy => ?_) hl.1, out_rate h l _ he.2 hl.2⟩
    rcases List.mem_cons.1 hy with rfl | hy
    · exact Int.le_refl _
    · exact (jp_es_mem l _ he.2 y hy).2.2.1
theorem may_parts {l : List E} {r b : Int} (h : jp_may l r b = true) : 0 ≤ r ∧ r ≤ 1099511627776 ∧ 0 ≤ b ∧ b ≤ 1073741824 ∧ l.length ≤ 100000 ∧ jp_es 0 l = true := by
  unfold jp_may at h
  simp only [Bool.and_eq_true, decide_eq_true_eq] at h
  exact h
theorem may_mk {l : List E} {r b : Int} (h : 0 ≤ r ∧ r ≤ 1099511627776 ∧ 0 ≤ b ∧ b ≤ 1073741824 ∧ l.length ≤ 100000 ∧ jp_es 0 l = true) : jp_may l r b = true := by
  unfold jp_may
  simp only [Bool.and_eq_true, decide_eq_true_eq]
  exact h
theorem paced_parts {l : List E} {r b : Int} (h : jp_paced l r b = true) : (0 ≤ r ∧ r ≤ 1099511627776 ∧ 0 ≤ b ∧ b ≤ 1073741824 ∧ l.length ≤ 100000 ∧ jp_es 0 l = true) ∧ jp_out r b l = true := by
  rw [jp_paced, Bool.and_eq_true] at h
  exact ⟨may_parts h.1, h.2⟩
/-- Who keeps a pace keeps a faster one, with a greater burst, and without some. -/
theorem paced_more {l' l : List E} {r b r' b' : Int} (h : jp_paced l r b = true) (hs : l'.Sublist l) (hr : r ≤ r') (hr' : r' ≤ 1099511627776) (hb : b ≤ b') (hb' : b' ≤ 1073741824) : jp_paced l' r' b' = true := by
  obtain ⟨⟨h1, h2, h3, h4, h5, h6⟩, h7⟩ := paced_parts h
  rw [jp_paced, Bool.and_eq_true]
  exact ⟨may_mk ⟨by omega, hr', by omega, hb', Nat.le_trans hs.length_le h5, es_sub hs 0 h6⟩, out_sub hb hs 0 h6 (out_rate hr l 0 h6 h7)⟩
end Go.Proofs.Ytflmfbcapccdeaa.JudgeFacts

/- What was sent, what of it was new, and what went beyond an edge is told as the document tells it: every log, edges. -/
import Derived.Test.YtflmfbcapccdeaaPAx7
import Derived.Test.YtflmfbcapccdeaaPAx4
import Derived.Test.YtflmfbcapccdeaaPAx28
import Derived.Test.YtflmfbcapccdeaaPAx30
import Derived.Test.YtflmfbcapccdeaaPAx21
import Derived.Test.YtflmfbcapccdeaaPAx14
import Derived.Test.YtflmfbcapccdeaaPAx33
set_option linter.unusedVariables false
set_option linter.unusedSimpArgs false
set_option autoImplicit false
namespace Go.Proofs.Ytflmfbcapccdeaa.JudgeRow
open Go.RowKit Go.Proofs.Ytflmfbcapccdeaa.PA Go.Proofs.YtflmfbcapccdeaaW.PrintWords Go.Proofs.YtflmfbcapccdeaaW.PrintMore
abbrev S := S57
abbrev M : Int := 1125899906842624
theorem w64 {n : Int} (h0 : -9223372036854775808 ≤ n) (h1 : n ≤ 9223372036854775807) : wrap64 n = n := by unfold wrap64; omega
theorem w64n (i : Nat) (h : i < 4611686018427387904) : wrap64 ((i : Int) + 1) = ((i + 1 : Nat) : Int) := by rw [w64 (by omega) (by omega)]; rfl
theorem mns (a b : Int) : mn a b ≤ a ∧ mn a b ≤ b ∧ (mn a b = a ∨ mn a b = b) := by unfold mn; split <;> omega
theorem mxs (a b : Int) : a ≤ mx a b ∧ b ≤ mx a b ∧ (mx a b = a ∨ mx a b = b) := by unfold mx; split <;> omega
/-- A right row, behind lo. -/
def Rw : Int → List S → Prop
  | _, [] => True
  | lo, x :: l => (lo < x.f0 ∧ x.f0 < x.f1 ∧ x.f1 ≤ M) ∧ Rw x.f1 l
theorem rd_at (l : List S) (i : Nat) (h : i < l.length) : rd_T57 l (i : Int) = l[i] := by
  rw [rd_T57, Int.toNat_natCast, List.getD_eq_getElem?_getD, List.getElem?_eq_getElem h]; rfl
theorem rw_at : ∀ (l : List S) (lo : Int), -1 ≤ lo → Rw lo l → ∀ i (h : i < l.length), lo < l[i].f0 ∧ l[i].f0 < l[i].f1 ∧ l[i].f1 ≤ M ∧ ∀ h0 : 0 < i, (l[i - 1]'(by omega)).f1 < l[i].f0
  | [], _, _, _, i, h => absurd h (Nat.not_lt_zero _)
  | x :: l, lo, hlo, hr, 0, h => ⟨hr.1.1, hr.1.2.1, hr.1.2.2, fun h0 => absurd h0 (Nat.lt_irrefl _)⟩
  | x :: l, lo, hlo, hr, i + 1, h => by
    have hi : i < l.length := by simpa using h
    have h1 := rw_at l x.f1 (by have := hr.1; omega) hr.2 i hi
    have h2 := hr.1
    refine ⟨by simp only [List.getElem_cons_succ]; omega, by simpa using h1.2.1, by simpa using h1.2.2.1, fun _ => ?_⟩
    cases i with
    | zero => simpa using h1.1
    | succ i => simpa using h1.2.2.2 (by omega)
theorem chk_right (l : List S) (h : Rw (-1) l) : sp_chk l = 0 := by
  rw [sp_chk, if_pos]
  refine List.all_eq_true.2 (fun i hi => ?_)
  have hi : i < l.length := List.mem_range.1 hi
  have ha := rw_at l (-1) (Int.le_refl _) h i hi
  have hg : ∀ j, (hj : j < l.length) → l.getD j z57 = l[j] := fun j hj => by rw [List.getD_eq_getElem?_getD, List.getElem?_eq_getElem hj]; rfl
  rw [sp_ok, sp_ok1, hg i hi]
  simp only [Bool.and_eq_true, Bool.or_eq_true, decide_eq_true_eq]
  refine ⟨⟨by omega, ha.2.1, ha.2.2.1⟩, ?_⟩
  by_cases h0 : i = 0
  · exact .inl h0
  · right
    rw [hg (i - 1) (by omega)]
    exact ha.2.2.2 (by omega)
theorem check_loop (l : List S) (hl : l.length ≤ 1000000) (h : Rw (-1) l) (d : Nat) : ∀ i : Nat, i + d = l.length → ∀ k, 2 * d + 1 ≤ k → tidewayref06_Check.l0 k l (i : Int) = some 0 := by
  induction d with
  | zero =>
    intro i hi k hk
    obtain ⟨k, rfl⟩ : ∃ m, k = m + 1 := ⟨k - 1, by omega⟩
    rw [tidewayref06_Check.l0, if_neg (by omega)]
  | succ d ih =>
    intro i hi k hk
    obtain ⟨k, rfl⟩ : ∃ m, k = m + 2 := ⟨k - 2, by omega⟩
    have hlt : i < l.length := by omega
    have ha := rw_at l (-1) (Int.le_refl _) h i hlt
    have ih := ih (i + 1) (by omega) k (by omega)
    have hyes : tidewayref06_Check.j1 (k + 1) l (i : Int) false = some 0 := by rw [tidewayref06_Check.j1, if_neg (by decide), w64n i (by omega), ih]
    rw [tidewayref06_Check.l0, if_pos (by omega), if_pos (Int.natCast_nonneg i), rd_at l i hlt, if_neg (by omega), if_neg (by omega), if_neg (by have := ha.2.2.1; unfold M at this; omega)]
    by_cases h0 : i = 0
    · rw [if_neg (by omega), hyes]
    · have hw2 : wrap64 ((i : Int) - 1) = ((i - 1 : Nat) : Int) := by rw [w64 (by omega) (by omega)]; omega
      have h1 := ha.2.2.2 (by omega)
      rw [if_pos (by omega), hw2, if_pos (Int.natCast_nonneg _), if_pos (by omega), rd_at l (i - 1) (by omega), decide_eq_false (by omega), hyes]
theorem check_f (l : List S) (hl : l.length ≤ 1000000) (h : Rw (-1) l) (k : Nat) (hk : 2 * l.length + 1 ≤ k) : tidewayref06_Check.f k l = some 0 := check_loop l hl h l.length 0 (by omega) k hk
/-- May a span be added? -/
def mayB (a b : Int) : Bool := decide (0 ≤ a) && (decide (a ≤ b) && decide (b ≤ M))
theorem may_f (a b : Int) : span_may.f a b = some (mayB a b) := by
  unfold span_may.f mayB M
  by_cases h0 : a ≥ 0
  · by_cases h1 : a ≤ b
    · rw [if_pos h0, if_pos h1, decide_eq_true (show 0 ≤ a from h0), decide_eq_true h1, Bool.true_and, Bool.true_and]
    · rw [if_pos h0, if_neg h1, decide_eq_false h1, Bool.false_and, Bool.and_false]
  · rw [if_neg h0, decide_eq_false (show ¬ 0 ≤ a from h0), Bool.false_and]
theorem right_f (a b : Int) : tidewayref06_right.f a b = some (mayB a b) := may_f a b
theorem mayB_parts {a b : Int} (h : mayB a b = true) : 0 ≤ a ∧ a ≤ b ∧ b ≤ M := by
  unfold mayB at h
  simp only [Bool.and_eq_true, decide_eq_true_eq] at h
  exact h
/-- The second part of adding: what touches is taken in. -/
def ad2 : List S → Int → Int → List S
  | [], a, b => [⟨a, b⟩]
  | x :: l, a, b => if x.f0 ≤ b then ad2 l (mn a x.f0) (mx b x.f1) else ⟨a, b⟩ :: x :: l
def ad : List S → Int → Int → List S
  | [], a, b => [⟨a, b⟩]
  | x :: l, a, b => if x.f1 < a then x :: ad l a b else ad2 (x :: l) a b
theorem ad2_len : ∀ (l : List S) (a b : Int), (ad2 l a b).length ≤ l.length + 1
  | [], _, _ => Nat.le_refl _
  | x :: l, a, b => by
    rw [ad2]
    split
    · have := ad2_len l (mn a x.f0) (mx b x.f1); simp only [List.length_cons]; omega
    · simp
theorem ad_len : ∀ (l : List S) (a b : Int), (ad l a b).length ≤ l.length + 1
  | [], _, _ => Nat.le_refl _
  | x :: l, a, b => by
    rw [ad]
    split
    · have := ad_len l a b; simp only [List.length_cons]; omega
    · exact ad2_len _ _ _
theorem ad2_rw : ∀ (l : List S) (lo lo2 a b : Int), Rw lo2 l → lo < a → a < b → b ≤ M → lo < lo2 → Rw lo (ad2 l a b)
  | [], lo, lo2, a, b, _, h1, h2, h3, _ => ⟨⟨h1, h2, h3⟩, trivial⟩
  | x :: l, lo, lo2, a, b, hr, h1, h2, h3, h4 => by
    rw [ad2]
    have hx := hr.1
    have m1 := mns a x.f0
    have m2 := mxs b x.f1
    split
    · exact ad2_rw l lo x.f1 _ _ hr.2 (by omega) (by omega) (by omega) (by omega)
    · exact ⟨⟨h1, h2, h3⟩, ⟨by show b < x.f0; omega, hx.2.1, hx.2.2⟩, hr.2⟩
theorem ad_rw : ∀ (l : List S) (lo a b : Int), Rw lo l → lo < a → a < b → b ≤ M → Rw lo (ad l a b)
  | [], lo, a, b, _, h1, h2, h3 => ⟨⟨h1, h2, h3⟩, trivial⟩
  | x :: l, lo, a, b, hr, h1, h2, h3 => by
    rw [ad]
    split
    · rename_i hc
      exact ⟨hr.1, ad_rw l x.f1 a b hr.2 hc h2 h3⟩
    · have hx := hr.1
      have m1 := mns a x.f0
      have m2 := mxs b x.f1
      rw [ad2]
      split
      · exact ad2_rw l lo x.f1 _ _ hr.2 (by omega) (by omega) (by omega) (by omega)
      · exact ⟨⟨h1, h2, h3⟩, ⟨by show b < x.f0; omega, hx.2.1, hx.2.2⟩, hr.2⟩
/-- span.Add's loops. -/
theorem add_l1 (l : List S) (hl : l.length ≤ 1000000) (d : Nat) : ∀ i : Nat, i + d = l.length → ∀ (acc : List S) (a b : Int) (k : Nat), acc.length ≤ i → d + 1 ≤ k → span_Add.l1 k l acc (i : Int) a b = some (acc ++ ad2 (l.drop i) a b, 0) := by
  induction d with
  | zero =>
    intro i hi acc a b k ha hk
    obtain ⟨k, rfl⟩ : ∃ m, k = m + 1 := ⟨k - 1, by omega⟩
    rw [span_Add.l1, if_neg (by omega), if_pos (by omega), Option.bind_some, if_pos (Int.natCast_nonneg i), if_pos (by omega), Option.bind_some, Int.toNat_natCast, List.drop_eq_nil_of_le (by omega), if_pos (by rw [List.length_append, List.length_singleton, List.length_nil]; omega), ad2, List.append_nil]
  | succ d ih =>
    intro i hi acc a b k ha hk
    obtain ⟨k, rfl⟩ : ∃ m, k = m + 1 := ⟨k - 1, by omega⟩
    have hlt : i < l.length := by omega
    rw [span_Add.l1, if_pos (by omega), if_pos (Int.natCast_nonneg i), rd_at l i hlt, List.drop_eq_getElem_cons hlt, ad2]
    by_cases hc : l[i].f0 ≤ b
    · rw [if_pos hc, if_pos hc, w64n i (by omega)]
      exact ih (i + 1) (by omega) acc _ _ k (by omega) (by omega)
    · rw [if_neg hc, if_neg hc, if_pos (by omega), Option.bind_some, if_pos (by omega), Option.bind_some, Int.toNat_natCast, List.drop_eq_getElem_cons hlt, if_pos (by simp only [List.length_append, List.length_cons, List.length_nil, List.length_drop]; omega), List.append_assoc]
      rfl
theorem add_l0 (l : List S) (hl : l.length ≤ 1000000) (d : Nat) : ∀ i : Nat, i + d = l.length → ∀ (acc : List S) (a b : Int) (k : Nat), acc.length ≤ i → 2 * d + 3 ≤ k → span_Add.l0 k l acc (i : Int) a b = some (acc ++ ad (l.drop i) a b, 0) := by
  induction d with
  | zero =>
    intro i hi acc a b k ha hk
    obtain ⟨k, rfl⟩ : ∃ m, k = m + 2 := ⟨k - 2, by omega⟩
    rw [span_Add.l0, if_neg (by omega), span_Add.j1, add_l1 l hl 0 i (by omega) acc a b k ha (by omega), List.drop_eq_nil_of_le (by omega)]
    rfl
  | succ d ih =>
    intro i hi acc a b k ha hk
    obtain ⟨k, rfl⟩ : ∃ m, k = m + 2 := ⟨k - 2, by omega⟩
    have hlt : i < l.length := by omega
    rw [span_Add.l0, if_pos (by omega), if_pos (Int.natCast_nonneg i), rd_at l i hlt]
    by_cases hc : l[i].f1 < a
    · rw [if_pos hc, if_pos (by omega), w64n i (by omega), ih (i + 1) (by omega) _ _ _ (k + 1) (by rw [List.length_append, List.length_singleton]; omega) (by omega)]
      rw [List.drop_eq_getElem_cons hlt, ad, if_pos hc, List.append_assoc]
      rfl
    · rw [if_neg hc, span_Add.j1, add_l1 l hl (d + 1) i (by omega) acc a b k ha (by omega)]
      rw [List.drop_eq_getElem_cons hlt, ad, if_neg hc]
/-- What adding makes of a right row. -/
def step (l : List S) (a b : Int) : List S := if mayB a b = true then (if a = b then l else ad l a b) else l
theorem step_rw {l : List S} {a b : Int} (h : Rw (-1) l) : Rw (-1) (step l a b) := by
  unfold step
  split
  · rename_i hm
    have hm := mayB_parts hm
    split
    · exact h
    · exact ad_rw l (-1) a b h (by omega) (by omega) hm.2.2
  · exact h
theorem step_len (l : List S) (a b : Int) : (step l a b).length ≤ l.length + 1 := by
  unfold step
  split
  · split
    · omega
    · exact ad_len _ _ _
  · omega
theorem add_f (l : List S) (hl : l.length ≤ 1000000) (h : Rw (-1) l) (a b : Int) (k : Nat) (hk : 2 * l.length + 10 ≤ k) : ∃ r e, span_Add.f k l a b = some (r, e) ∧ (if e = 0 then r else l) = step l a b := by
  rw [span_Add.f, span_right.f, sp_chk_f l (by omega) k (by omega), chk_right l h, Option.bind_some, if_pos rfl, may_f, Option.bind_some, step]
  cases hm : mayB a b with
  | false => exact ⟨_, 2, rfl, rfl⟩
  | true =>
    rw [if_pos rfl, if_pos rfl, Option.bind_some, if_pos rfl]
    by_cases hc : a = b
    · rw [if_pos hc, if_pos hc, api_Span.f, if_pos (by omega)]
      exact ⟨l, 0, rfl, rfl⟩
    · rw [if_neg hc, if_neg hc]
      have := add_l0 l hl l.length 0 (by omega) [] a b k (Nat.le_refl _) (by omega)
      exact ⟨_, 0, this, by rw [if_pos rfl, List.drop_zero]; rfl⟩
/-- The document's adding. -/
def rT : List S → Int → Int → List S
  | [], _, _ => []
  | x :: l, a, b => if x.f1 < a then x :: rT l a b else if b < x.f0 then x :: rT l a b else rT l (mn a x.f0) (mx b x.f1)
def rA : List S → Int → Int → List S
  | [], a, b => [⟨a, b⟩]
  | x :: l, a, b => if x.f1 < a then x :: rA l a b else if b < x.f0 then ⟨a, b⟩ :: x :: rT l a b else rA l (mn a x.f0) (mx b x.f1)
theorem rT_eq : ∀ (l : List S) (lo a b : Int), Rw lo l → a ≤ b → b ≤ lo → rT l a b = l
  | [], _, _, _, _, _, _ => rfl
  | x :: l, lo, a, b, hr, h1, h2 => by
    have hx := hr.1
    rw [rT, if_neg (by omega), if_pos (by omega), rT_eq l x.f1 a b hr.2 h1 (by omega)]
theorem rA2 : ∀ (l : List S) (lo a b : Int), Rw lo l → a ≤ b → a ≤ lo → rA l a b = ad2 l a b
  | [], _, _, _, _, _, _ => rfl
  | x :: l, lo, a, b, hr, h1, h2 => by
    have hx := hr.1
    have m1 := mns a x.f0
    have m2 := mxs b x.f1
    rw [rA, ad2, if_neg (by omega)]
    by_cases hc : x.f0 ≤ b
    · rw [if_neg (by omega), if_pos hc]
      exact rA2 l x.f1 _ _ hr.2 (by omega) (by omega)
    · rw [if_pos (by omega), if_neg hc, rT_eq l x.f1 a b hr.2 h1 (by omega)]
theorem rA_eq : ∀ (l : List S) (lo a b : Int), Rw lo l → a ≤ b → rA l a b = ad l a b
  | [], _, _, _, _, _ => rfl
  | x :: l, lo, a, b, hr, h1 => by
    have hx := hr.1
    have m1 := mns a x.f0
    have m2 := mxs b x.f1
    rw [rA, ad]
    by_cases h0 : x.f1 < a
    · rw [if_pos h0, if_pos h0, rA_eq l x.f1 a b hr.2 h1]
    · rw [if_neg h0, if_neg h0, ad2]
      by_cases hc : x.f0 ≤ b
      · rw [if_neg (by omega), if_pos hc]
        exact rA2 l x.f1 _ _ hr.2 (by omega) (by omega)
      · rw [if_pos (by omega), if_neg hc, rT_eq l x.f1 a b hr.2 h1 (by omega)]
theorem radd_loop (l : List S) (hl : l.length ≤ 1000000) (d : Nat) : ∀ i : Nat, i + d = l.length → ∀ (acc : List S) (p : Bool) (a b : Int) (k : Nat), acc.length ≤ 2 * i → d + 1 ≤ k → tidewayref06_Add.l0 k l acc p (i : Int) a b = some (acc ++ (if p = true then rT (l.drop i) a b else rA (l.drop i) a b), 0) := by
  induction d with
  | zero =>
    intro i hi acc p a b k ha hk
    obtain ⟨k, rfl⟩ : ∃ m, k = m + 1 := ⟨k - 1, by omega⟩
    rw [tidewayref06_Add.l0, if_neg (by omega), List.drop_eq_nil_of_le (by omega)]
    cases p with
    | true => rw [if_pos rfl, if_pos rfl, rT, List.append_nil]
    | false => rw [if_neg (show ¬ (false = true) by decide), if_pos (by omega), if_neg (show ¬ (false = true) by decide), rA]
  | succ d ih =>
    intro i hi acc p a b k ha hk
    obtain ⟨k, rfl⟩ : ∃ m, k = m + 1 := ⟨k - 1, by omega⟩
    have hlt : i < l.length := by omega
    have ih := ih (i + 1) (by omega)
    rw [tidewayref06_Add.l0, if_pos (by omega), if_pos (Int.natCast_nonneg i), rd_at l i hlt, w64n i (by omega), List.drop_eq_getElem_cons hlt, rT, rA]
    have hl1 : (acc ++ [l[i]]).length ≤ 2 * (i + 1) := by rw [List.length_append, List.length_singleton]; omega
    by_cases h0 : l[i].f1 < a
    · rw [if_pos h0, if_pos h0, if_pos h0, if_pos (by omega), ih _ p a b k hl1 (by omega)]
      cases p <;> simp
    · rw [if_neg h0, if_neg h0, if_neg h0]
      by_cases h1 : b < l[i].f0
      · rw [if_pos h1, if_pos h1, if_pos h1]
        cases p with
        | true => rw [if_pos rfl, if_pos (by omega), ih _ true a b k hl1 (by omega)]; simp
        | false =>
          rw [if_neg (by decide), if_pos (by omega), Option.bind_some, if_pos (by rw [List.length_append, List.length_singleton]; omega), ih _ true a b k (by simp only [List.length_append, List.length_singleton]; omega) (by omega)]
          simp
      · rw [if_neg h1, if_neg h1, if_neg h1, ih acc p _ _ k (by omega) (by omega)]
theorem radd_f (l : List S) (hl : l.length ≤ 1000000) (h : Rw (-1) l) (a b : Int) (k : Nat) (hk : 2 * l.length + 10 ≤ k) : ∃ r e, tidewayref06_Add.f k l a b = some (r, e) ∧ (if e = 0 then r else l) = step l a b := by
  rw [tidewayref06_Add.f, check_f l hl h k (by omega), Option.bind_some, if_pos rfl, right_f, Option.bind_some, step]
  cases hm : mayB a b with
  | false => exact ⟨_, 2, rfl, rfl⟩
  | true =>
    rw [if_pos rfl, if_pos rfl]
    by_cases hc : a = b
    · rw [if_pos hc, if_pos hc, Option.bind_some, if_pos (by rw [List.length_nil]; omega)]
      exact ⟨_, 0, rfl, rfl⟩
    · rw [if_neg hc, if_neg hc]
      have := radd_loop l hl l.length 0 (by omega) [] false a b k (Nat.zero_le _) (by omega)
      have hp := mayB_parts hm
      exact ⟨_, 0, this, by rw [if_pos rfl, if_neg (by decide), List.drop_zero, rA_eq l (-1) a b h hp.2.1]; rfl⟩
/-- The gaps, as the program finds them. -/
def sg (a b : Int) : List S → Int → List S
  | [], t => if t < b then [⟨t, b⟩] else []
  | x :: l, t => if mx x.f0 a < mn x.f1 b then (if t < mx x.f0 a then ⟨t, mx x.f0 a⟩ :: sg a b l (mn x.f1 b) else sg a b l (mn x.f1 b)) else sg a b l t
theorem sg_fold (a b : Int) : ∀ (l acc : List S) (t : Int), gp_end ((wn_parts ⟨a, b⟩ l).foldl gp_step (acc, t)) b = acc ++ sg a b l t
  | [], acc, t => by
    show gp_end (acc, t) b = _
    rw [gp_end, sg]
    dsimp only
    split <;> simp
  | x :: l, acc, t => by
    rw [sg]
    by_cases h : mx x.f0 a < mn x.f1 b
    · have e : wn_parts (⟨a, b⟩ : S) (x :: l) = (⟨mx x.f0 a, mn x.f1 b⟩ : S) :: wn_parts ⟨a, b⟩ l := by
        unfold wn_parts
        rw [List.map_cons, List.filter_cons, if_pos (show wn_is (wn_part ⟨a, b⟩ x) = true from decide_eq_true h)]
        rfl
      rw [if_pos h, e, List.foldl_cons, gp_step]
      dsimp only
      by_cases h2 : t < mx x.f0 a
      · rw [if_pos h2, if_pos h2, sg_fold a b l, List.append_assoc]; rfl
      · rw [if_neg h2, if_neg h2, sg_fold a b l]
    · have e : wn_parts (⟨a, b⟩ : S) (x :: l) = wn_parts ⟨a, b⟩ l := by
        unfold wn_parts
        rw [List.map_cons, List.filter_cons, if_neg (show ¬ wn_is (wn_part ⟨a, b⟩ x) = true from fun hh => h (of_decide_eq_true hh))]
      rw [if_neg h, e, sg_fold a b l]
def gaps (l : List S) (a b : Int) : List S := if a ≥ b then [] else sg a b l a
theorem gaps_f (l : List S) (hl : l.length ≤ 1000000) (h : Rw (-1) l) (a b : Int) : span_Gaps.f l a b = some (gaps l a b) := by
  rw [span_Gaps.f, if_pos (by omega), gp_gaps, chk_right l h, if_neg (by simp), gaps]
  by_cases hc : a ≥ b
  · rw [if_pos hc, if_pos hc]
  · rw [if_neg hc, if_neg hc, gp_fold, sg_fold a b l [] a, List.nil_append]
/-- The gaps, as the document finds them. -/
def rg (b : Int) : List S → Int → List S
  | [], t => if t < b then [⟨t, b⟩] else []
  | x :: l, t => if x.f0 > t ∧ t < mn x.f0 b then ⟨t, mn x.f0 b⟩ :: rg b l (mx t x.f1) else rg b l (mx t x.f1)
theorem rg_done (b : Int) : ∀ (l : List S) (t : Int), b ≤ t → rg b l t = []
  | [], t, h => by rw [rg, if_neg (by omega)]
  | x :: l, t, h => by
    have m1 := mns x.f0 b
    have m2 := mxs t x.f1
    rw [rg, if_neg (by omega), rg_done b l _ (by omega)]
theorem sg_done (a b : Int) (hab : a < b) : ∀ (l : List S) (lo t : Int), Rw lo l → b ≤ lo → sg a b l t = if t < b then [⟨t, b⟩] else []
  | [], _, _, _, _ => rfl
  | x :: l, lo, t, hr, h => by
    have hx := hr.1
    have m1 := mxs x.f0 a
    have m2 := mns x.f1 b
    rw [sg, if_neg (by omega), sg_done a b hab l x.f1 t hr.2 (by omega)]
theorem sg_rg (a b : Int) (hab : a < b) : ∀ (l : List S) (lo t : Int), Rw lo l → a ≤ t → t < b → (t = a ∨ t ≤ lo) → sg a b l t = rg b l t
  | [], _, _, _, _, _, _ => rfl
  | x :: l, lo, t, hr, h1, h2, h3 => by
    have hx := hr.1
    have m1 := mxs x.f0 a
    have m2 := mns x.f1 b
    have m3 := mns x.f0 b
    have m4 := mxs t x.f1
    rw [sg, rg]
    by_cases c1 : x.f1 ≤ t
    · rw [if_neg (by omega), if_neg (by omega), show mx t x.f1 = t by omega]
      exact sg_rg a b hab l x.f1 t hr.2 h1 h2 (.inl (by omega))
    · rw [show mx t x.f1 = x.f1 by omega]
      by_cases c2 : x.f0 < b
      · rw [if_pos (by omega)]
        have done : ∀ u, u = mn x.f1 b → sg a b l u = rg b l x.f1 := by
          intro u hu
          by_cases c3 : x.f1 < b
          · rw [show u = x.f1 by omega]
            exact sg_rg a b hab l x.f1 x.f1 hr.2 (by omega) c3 (.inr (Int.le_refl _))
          · rw [rg_done b l _ (by omega), sg_done a b hab l x.f1 u hr.2 (by omega), if_neg (by omega)]
        by_cases c4 : t < x.f0
        · rw [if_pos (by omega), if_pos (by omega), show mx x.f0 a = x.f0 by omega, show mn x.f0 b = x.f0 by omega, done _ rfl]
        · rw [if_neg (by omega), if_neg (by omega), done _ rfl]
      · rw [if_neg (by omega), if_pos (by omega), rg_done b l _ (by omega), sg_done a b hab l x.f1 t hr.2 (by omega), if_pos h2, show mn x.f0 b = b by omega]
theorem rgaps_loop (l : List S) (hl : l.length ≤ 1000000) (a b : Int) (d : Nat) : ∀ i : Nat, i + d = l.length → ∀ (acc : List S) (t : Int) (k : Nat), acc.length ≤ i → d + 1 ≤ k → tidewayref06_Gaps.l0 k l acc t (i : Int) a b = some (acc ++ rg b (l.drop i) t) := by
  induction d with
  | zero =>
    intro i hi acc t k ha hk
    obtain ⟨k, rfl⟩ : ∃ m, k = m + 1 := ⟨k - 1, by omega⟩
    rw [tidewayref06_Gaps.l0, if_neg (by omega), List.drop_eq_nil_of_le (by omega), rg]
    by_cases h : t < b
    · rw [if_pos h, if_pos (by omega), if_pos h]
    · rw [if_neg h, if_neg h, List.append_nil]
  | succ d ih =>
    intro i hi acc t k ha hk
    obtain ⟨k, rfl⟩ : ∃ m, k = m + 1 := ⟨k - 1, by omega⟩
    have hlt : i < l.length := by omega
    have ih := ih (i + 1) (by omega)
    rw [tidewayref06_Gaps.l0, if_pos (by omega), if_pos (Int.natCast_nonneg i), rd_at l i hlt, w64n i (by omega), List.drop_eq_getElem_cons hlt, rg]
    by_cases h0 : l[i].f0 > t
    · rw [if_pos h0]
      by_cases h1 : t < mn l[i].f0 b
      · rw [if_pos h1, if_pos (by omega), if_pos ⟨h0, h1⟩, ih _ _ k (by rw [List.length_append, List.length_singleton]; omega) (by omega), List.append_assoc]; rfl
      · rw [if_neg h1, if_neg (fun h => h1 h.2), ih _ _ k (by omega) (by omega)]
    · rw [if_neg h0, if_neg (fun h => h0 h.1), ih _ _ k (by omega) (by omega)]
theorem rgaps_f (l : List S) (hl : l.length ≤ 1000000) (h : Rw (-1) l) (a b : Int) (k : Nat) (hk : 2 * l.length + 10 ≤ k) : tidewayref06_Gaps.f k l a b = some (gaps l a b) := by
  obtain ⟨k, rfl⟩ : ∃ m, k = m + 1 := ⟨k - 1, by omega⟩
  rw [tidewayref06_Gaps.f, check_f l hl h (k + 1) (by omega), Option.bind_some, if_pos rfl, tidewayref06_Gaps.j0, gaps]
  by_cases hc : a ≥ b
  · rw [decide_eq_true hc, if_pos rfl, if_pos hc]
  · have := rgaps_loop l hl a b l.length 0 (by omega) [] a k (Nat.le_refl _) (by omega)
    rw [List.drop_zero, List.nil_append] at this
    rw [decide_eq_false hc, if_neg (by decide), if_neg hc]
    refine this.trans ?_
    rw [sg_rg a b (by omega) l (-1) a h (Int.le_refl _) (by omega) (.inl rfl)]
end Go.Proofs.Ytflmfbcapccdeaa.JudgeRow
set_option linter.unusedVariables false
set_option linter.unusedSimpArgs false
set_option autoImplicit false
namespace Go.Proofs.Ytflmfbcapccdeaa.JudgeFacts
open Go.RowKit Go.Proofs.Ytflmfbcapccdeaa.PA Go.Proofs.YtflmfbcapccdeaaW.PrintWords Go.Proofs.YtflmfbcapccdeaaW.PrintMore
abbrev E := S62
theorem heads (k : Nat) (hk : 40 ≤ k) : tidewaylaw25_heads.f k = some true := by
  obtain ⟨d, rfl⟩ : ∃ d, k = 40 + d := ⟨k - 40, by omega⟩
  exact more_rounds tidewaylaw25_heads.mono 40 d _ (by kernel_rfl)
end Go.Proofs.Ytflmfbcapccdeaa.JudgeFacts
set_option linter.unusedVariables false
set_option linter.unusedSimpArgs false
set_option autoImplicit false
namespace Go.Proofs.Ytflmfbcapccdeaa.Pure
open Go.RowKit Go.Proofs.Ytflmfbcapccdeaa.PA Go.Proofs.YtflmfbcapccdeaaW.PrintWords Go.Proofs.YtflmfbcapccdeaaW.PrintMore Go.Proofs.Ytflmfbcapccdeaa.JudgeRow
abbrev Q := S39
/-- What was sent when n have been. -/
def cv (l : List Q) : Nat → List S
  | 0 => []
  | n + 1 => JudgeRow.step (cv l n) (l.getD n z39).f2 (l.getD n z39).f3
def fr (l : List Q) : Nat → List Int
  | 0 => []
  | n + 1 => if 0 < (gaps (cv l n) (l.getD n z39).f2 (l.getD n z39).f3).length then fr l n ++ [(n : Int)] else fr l n
theorem cv_rw (l : List Q) : ∀ n, Rw (-1) (cv l n)
  | 0 => trivial
  | n + 1 => step_rw (cv_rw l n)
theorem cv_len (l : List Q) : ∀ n, (cv l n).length ≤ n
  | 0 => Nat.le_refl _
  | n + 1 => by have := cv_len l n; have := step_len (cv l n) (l.getD n z39).f2 (l.getD n z39).f3; rw [cv]; omega
theorem fr_len (l : List Q) : ∀ n, (fr l n).length ≤ n
  | 0 => Nat.le_refl _
  | n + 1 => by have := fr_len l n; rw [fr]; split <;> simp <;> omega
theorem fr_mem (l : List Q) : ∀ n, ∀ x ∈ fr l n, 0 ≤ x ∧ x < (n : Int)
  | 0, x, h => by cases h
  | n + 1, x, h => by
    rw [fr] at h
    have ih := fr_mem l n x
    split at h
    · rcases List.mem_append.1 h with h | h
      · have := ih h; omega
      · rw [List.mem_singleton] at h; omega
    · have := ih h; omega
theorem cvs_cv (l : List Q) (hl : l.length ≤ 200) : ∀ n, n ≤ l.length → cvs (cv_K l) l n = some (cv l n)
  | 0, _ => rfl
  | n + 1, h => by
    obtain ⟨r, e, h1, h2⟩ := add_f (cv l n) (by have := cv_len l n; omega) (cv_rw l n) (l.getD n z39).f2 (l.getD n z39).f3 (cv_K l) (by have := cv_len l n; unfold cv_K; omega)
    rw [cvs, cvs_cv l hl n (by omega), Option.bind_some, h1, cv, ← h2]
    rfl
theorem frs_fr (l : List Q) (hl : l.length ≤ 200) : ∀ n, n ≤ l.length → frs (cv_K l) l n = some (cv l n, fr l n)
  | 0, _ => rfl
  | n + 1, h => by
    have hc := cv_len l n
    obtain ⟨r, e, h1, h2⟩ := add_f (cv l n) (by omega) (cv_rw l n) (l.getD n z39).f2 (l.getD n z39).f3 (cv_K l) (by unfold cv_K; omega)
    rw [frs, frs_fr l hl n (by omega), Option.bind_some]
    dsimp only
    rw [gaps_f (cv l n) (by omega) (cv_rw l n), Option.bind_some, h1, cv, fr, ← h2]
    rfl
theorem rdq_at (l : List Q) (i : Nat) : rd_T39 l (i : Int) = l.getD i z39 := by rw [rd_T39, Int.toNat_natCast]
theorem rcover_loop (l : List Q) (hl : l.length ≤ 200) (d : Nat) : ∀ i : Nat, i + d = l.length → ∀ k, 3000 + d ≤ k → tidewayref25_Cover.l0 k l (cv l i) (i : Int) = some (cv l l.length) := by
  induction d with
  | zero =>
    intro i hi k hk
    obtain ⟨k, rfl⟩ : ∃ m, k = m + 1 := ⟨k - 1, by omega⟩
    rw [tidewayref25_Cover.l0, if_neg (by omega), show i = l.length by omega]
  | succ d ih =>
    intro i hi k hk
    obtain ⟨k, rfl⟩ : ∃ m, k = m + 1 := ⟨k - 1, by omega⟩
    have hc := cv_len l i
    have ih := ih (i + 1) (by omega) k (by omega)
    obtain ⟨r, e, h1, h2⟩ := radd_f (cv l i) (by omega) (cv_rw l i) (l.getD i z39).f2 (l.getD i z39).f3 k (by omega)
    rw [tidewayref25_Cover.l0, if_pos (by omega), if_pos (Int.natCast_nonneg i), rdq_at, h1, Option.bind_some, w64n i (by omega)]
    rw [cv, ← h2] at ih
    dsimp only
    by_cases he : e = 0
    · rw [if_pos he] at ih ⊢; exact ih
    · rw [if_neg he] at ih ⊢; exact ih
theorem rcover_f (l : List Q) (hl : l.length ≤ 200) (k : Nat) (hk : 4000 ≤ k) : tidewayref25_Cover.f k l = some (cv l l.length) := rcover_loop l hl l.length 0 (by omega) k (by omega)
theorem cv_take (l : List Q) (i : Nat) : ∀ n, n ≤ i → cv (l.take i) n = cv l n
  | 0, _ => rfl
  | n + 1, h => by
    have e : (l.take i).getD n z39 = l.getD n z39 := by
      rw [List.getD_eq_getElem?_getD, List.getElem?_take, if_pos (by omega), List.getD_eq_getElem?_getD]
    rw [cv, cv, cv_take l i n (by omega), e]
theorem rfresh_loop (l : List Q) (hl : l.length ≤ 200) (d : Nat) : ∀ i : Nat, i + d = l.length → ∀ k, 5000 + d ≤ k → tidewayref25_Fresh.l0 k l (fr l i) (i : Int) = some (fr l l.length) := by
  induction d with
  | zero =>
    intro i hi k hk
    obtain ⟨k, rfl⟩ : ∃ m, k = m + 1 := ⟨k - 1, by omega⟩
    rw [tidewayref25_Fresh.l0, if_neg (by omega), show i = l.length by omega]
  | succ d ih =>
    intro i hi k hk
    obtain ⟨k, rfl⟩ : ∃ m, k = m + 1 := ⟨k - 1, by omega⟩
    have hc := cv_len l i
    have hf := fr_len l i
    have ih := ih (i + 1) (by omega) k (by omega)
    have ht : (l.take i).length = i := by rw [List.length_take]; omega
    have hcov : tidewayref25_Cover.f k (l.take i) = some (cv l i) := by
      rw [rcover_f (l.take i) (by omega) k (by omega), ht, cv_take l i i (Nat.le_refl _)]
    rw [tidewayref25_Fresh.l0, if_pos (by omega), if_pos (Int.natCast_nonneg i), if_pos (by omega), Int.toNat_natCast, hcov, Option.bind_some, rdq_at, rgaps_f (cv l i) (by omega) (cv_rw l i) _ _ k (by omega), Option.bind_some, w64n i (by omega)]
    rw [fr] at ih
    by_cases h0 : 0 < (gaps (cv l i) (l.getD i z39).f2 (l.getD i z39).f3).length
    · rw [if_pos h0] at ih
      rw [if_pos (by omega), if_pos (by omega)]
      exact ih
    · rw [if_neg h0] at ih
      rw [if_neg (by omega)]
      exact ih
theorem rfresh_f (l : List Q) (hl : l.length ≤ 200) (k : Nat) (hk : 6000 ≤ k) : tidewayref25_Fresh.f k l = some (fr l l.length) := rfresh_loop l hl l.length 0 (by omega) k (by omega)
theorem fresh_f (l : List Q) (hl : l.length ≤ 200) : judge_Fresh.f l = some (fr l l.length) := by
  rw [judge_Fresh.f, if_pos (by omega), frs_fr l hl _ (Nat.le_refl _)]; rfl
theorem cover_f (l : List Q) (hl : l.length ≤ 200) : judge_Cover.f l = some (cv l l.length) := cvs_cv l hl _ (Nat.le_refl _)
theorem same_loop (l : List S) (hl : l.length ≤ 1000) (d : Nat) : ∀ i : Nat, i + d = l.length → ∀ k, d + 1 ≤ k → tidewayref06_Same.l0 k l l (i : Int) = some true := by
  induction d with
  | zero =>
    intro i hi k hk
    obtain ⟨k, rfl⟩ : ∃ m, k = m + 1 := ⟨k - 1, by omega⟩
    rw [tidewayref06_Same.l0, if_neg (by omega)]
  | succ d ih =>
    intro i hi k hk
    obtain ⟨k, rfl⟩ : ∃ m, k = m + 1 := ⟨k - 1, by omega⟩
    rw [tidewayref06_Same.l0, if_pos (by omega), if_pos (Int.natCast_nonneg i), if_pos (by omega), w64n i (by omega), ih (i + 1) (by omega) k (by omega)]
    simp
theorem same_f (l : List S) (hl : l.length ≤ 1000) (k : Nat) (hk : 2000 ≤ k) : tidewayref06_Same.f k l l = some true := by
  rw [tidewayref06_Same.f, if_pos rfl]
  exact same_loop l hl l.length 0 (by omega) k (by omega)
/-- Is the i-th beyond its edge? -/
def beyond (l : List Q) (e : List Int) (i : Int) : Bool := decide (i < (e.length : Int)) && (decide ((rd_T39 l i).f3 > rd e i) && ((rd_T39 l i).f1 != 5))
def ov (l : List Q) (e : List Int) : List Int → Int
  | [] => -1
  | i :: r => if beyond l e i = true then i else ov l e r
theorem rdi_at (f : List Int) (i : Nat) (h : i < f.length) : rd f (i : Int) = f[i] := by
  rw [rd, Int.toNat_natCast, List.getD_eq_getElem?_getD, List.getElem?_eq_getElem h]; rfl
theorem over_loop (l : List Q) (e f : List Int) (hf : f.length ≤ 1000) (hm : ∀ x ∈ f, 0 ≤ x ∧ x < (l.length : Int)) (d : Nat) : ∀ i : Nat, i + d = f.length → ∀ k, 2 * d + 1 ≤ k → judge_Over.l0 k l e f (f.length : Int) (i : Int) = some (ov l e (f.drop i)) := by
  induction d with
  | zero =>
    intro i hi k hk
    obtain ⟨k, rfl⟩ : ∃ m, k = m + 1 := ⟨k - 1, by omega⟩
    rw [judge_Over.l0, if_neg (by omega), List.drop_eq_nil_of_le (by omega)]; rfl
  | succ d ih =>
    intro i hi k hk
    obtain ⟨k, rfl⟩ : ∃ m, k = m + 2 := ⟨k - 2, by omega⟩
    have hlt : i < f.length := by omega
    have ih := ih (i + 1) (by omega) k (by omega)
    have hx := hm f[i] (List.getElem_mem hlt)
    rw [judge_Over.l0, if_pos (by omega), if_pos (Int.natCast_nonneg i), if_pos (by omega), rdi_at f i hlt, List.drop_eq_getElem_cons hlt, ov]
    generalize f[i] = x at hx
    have hj : ∀ b, judge_Over.j1 (k + 1) l e x f (f.length : Int) (i : Int) b = some (if b = true then x else ov l e (f.drop (i + 1))) := by
      intro b
      rw [judge_Over.j1, w64n i (by omega), ih]
      cases b <;> rfl
    rw [beyond]
    by_cases c1 : x < (e.length : Int)
    · rw [if_pos c1, if_pos hx.1, if_pos hx.2, decide_eq_true c1, Bool.true_and]
      by_cases c2 : (rd_T39 l x).f3 > rd e x
      · rw [if_pos c2, hj, decide_eq_true c2, Bool.true_and]
      · rw [if_neg c2, hj, decide_eq_false c2, Bool.false_and]
    · rw [if_neg c1, hj, decide_eq_false c1, Bool.false_and]
theorem rover_loop (l : List Q) (e f : List Int) (hf : f.length ≤ 1000) (hm : ∀ x ∈ f, 0 ≤ x ∧ x < (l.length : Int)) (d : Nat) : ∀ i : Nat, i + d = f.length → ∀ k, 2 * d + 1 ≤ k → tidewayref25_Over.l0 k l e f (i : Int) = some (ov l e (f.drop i)) := by
  induction d with
  | zero =>
    intro i hi k hk
    obtain ⟨k, rfl⟩ : ∃ m, k = m + 1 := ⟨k - 1, by omega⟩
    rw [tidewayref25_Over.l0, if_neg (by omega), List.drop_eq_nil_of_le (by omega)]; rfl
  | succ d ih =>
    intro i hi k hk
    obtain ⟨k, rfl⟩ : ∃ m, k = m + 2 := ⟨k - 2, by omega⟩
    have hlt : i < f.length := by omega
    have ih := ih (i + 1) (by omega) k (by omega)
    have hx := hm f[i] (List.getElem_mem hlt)
    rw [tidewayref25_Over.l0, if_pos (by omega), if_pos (Int.natCast_nonneg i), rdi_at f i hlt, List.drop_eq_getElem_cons hlt, ov]
    generalize f[i] = x at hx
    have hj : ∀ b, tidewayref25_Over.j1 (k + 1) l e f (i : Int) x b = some (if b = true then x else ov l e (f.drop (i + 1))) := by
      intro b
      rw [tidewayref25_Over.j1, w64n i (by omega), ih]
      cases b <;> rfl
    rw [if_pos hx.1, if_pos hx.2, beyond]
    by_cases c0 : (rd_T39 l x).f1 = 5
    · rw [if_pos c0, hj, c0, show ((5 : Int) != 5) = false from rfl, Bool.and_false, Bool.and_false]
    · rw [if_neg c0, show ((rd_T39 l x).f1 != 5) = true from bne_iff_ne.mpr c0, Bool.and_true]
      by_cases c1 : x < (e.length : Int)
      · rw [if_pos c1, hj, decide_eq_true c1, Bool.true_and]
      · rw [if_neg c1, hj, decide_eq_false c1, Bool.false_and]
/-- How many for a reason. -/
def cnt (w : Int) : List Q → Int → Int
  | [], n => n
  | x :: l, n => if x.f1 = w then cnt w l (wrap64 (n + 1)) else cnt w l n
theorem getq (l : List Q) (i : Nat) (h : i < l.length) : rd_T39 l (i : Int) = l[i] := by
  rw [rdq_at, List.getD_eq_getElem?_getD, List.getElem?_eq_getElem h]; rfl
theorem count_loop (l : List Q) (w : Int) (hl : l.length ≤ 1000) (d : Nat) : ∀ i : Nat, i + d = l.length → ∀ (n : Int) (k : Nat), d + 1 ≤ k → judge_Count.l0 k w n l (l.length : Int) (i : Int) = some (cnt w (l.drop i) n) ∧ tidewayref25_Count.l0 k l w n (i : Int) = some (cnt w (l.drop i) n) := by
  induction d with
  | zero =>
    intro i hi n k hk
    obtain ⟨k, rfl⟩ : ∃ m, k = m + 1 := ⟨k - 1, by omega⟩
    rw [judge_Count.l0, tidewayref25_Count.l0, if_neg (by omega), if_neg (by omega), List.drop_eq_nil_of_le (by omega)]; exact ⟨rfl, rfl⟩
  | succ d ih =>
    intro i hi n k hk
    obtain ⟨k, rfl⟩ : ∃ m, k = m + 1 := ⟨k - 1, by omega⟩
    have hlt : i < l.length := by omega
    have ih := ih (i + 1) (by omega)
    rw [List.drop_eq_getElem_cons hlt, cnt]
    refine ⟨?_, ?_⟩
    · rw [judge_Count.l0, if_pos (by omega), if_pos (Int.natCast_nonneg i), if_pos (by omega), getq l i hlt, w64n i (by omega)]
      by_cases c0 : l[i].f1 = w
      · rw [if_pos c0, if_pos c0]; exact (ih _ k (by omega)).1
      · rw [if_neg c0, if_neg c0]; exact (ih _ k (by omega)).1
    · rw [tidewayref25_Count.l0, if_pos (by omega), if_pos (Int.natCast_nonneg i), getq l i hlt, w64n i (by omega)]
      by_cases c0 : l[i].f1 = w
      · rw [if_pos c0, if_pos c0]; exact (ih _ k (by omega)).2
      · rw [if_neg c0, if_neg c0]; exact (ih _ k (by omega)).2
theorem JudgeLogs (l0 : List S39) (l1 : List Int) (a2 : Int) (w0 : (∀ x ∈ l0, ((∀ y ∈ x.f0, (Lit.int .u8 y).wf = true) ∧ x.f0.length * 1 ≤ 140737488351232 ∧ x.f0.length ≤ 9223372036854775807) ∧ ((Lit.int .i64 x.f1).wf = true) ∧ ((Lit.int .i64 x.f2).wf = true) ∧ ((Lit.int .i64 x.f3).wf = true) ∧ ((Lit.int .i64 x.f4).wf = true) ∧ ((Lit.int .i64 x.f5).wf = true) ∧ (Lit.int .i64 x.f6).wf = true) ∧ l0.length * 72 ≤ 140737488351232 ∧ l0.length ≤ 9223372036854775807) (w1 : (∀ x ∈ l1, (Lit.int .i64 x).wf = true) ∧ l1.length * 8 ≤ 140737488351232 ∧ l1.length ≤ 9223372036854775807) (w2 : (Lit.int .i64 a2).wf = true) :
    ∃ k, tidewaylaw25_JudgeLogs.f k l0 l1 a2 = some true := by
  refine ⟨10000, ?_⟩
  rw [tidewaylaw25_JudgeLogs.f]
  by_cases c0 : (l0.length : Int) > 200
  · rw [if_pos c0, JudgeFacts.heads _ (by omega)]; rfl
  have hl : l0.length ≤ 200 := by omega
  obtain ⟨f, hf⟩ : ∃ f, fr l0 l0.length = f := ⟨_, rfl⟩
  have hfl : f.length ≤ 200 := by rw [← hf]; have := fr_len l0 l0.length; omega
  have hfm : ∀ x ∈ f, 0 ≤ x ∧ x < (l0.length : Int) := by rw [← hf]; exact fr_mem l0 l0.length
  rw [if_neg c0, fresh_f l0 hl, Option.bind_some, rfresh_f l0 hl 10000 (by omega), Option.bind_some, hf, if_pos rfl]
  have key : ∀ d i : Nat, i + d = f.length → ∀ k, 7000 + d ≤ k → tidewaylaw25_JudgeLogs.l0 k l0 l1 a2 f f (i : Int) = some true := by
    intro d
    induction d with
    | zero =>
      intro i hi k hk
      obtain ⟨k, rfl⟩ : ∃ m, k = m + 1 := ⟨k - 1, by omega⟩
      have ho : judge_Over.f k l0 l1 = some (ov l0 l1 f) := by
        rw [judge_Over.f, fresh_f l0 hl, hf, Option.bind_some]
        have := over_loop l0 l1 f (by omega) hfm f.length 0 (by omega) k (by omega)
        rwa [List.drop_zero] at this
      have hr : tidewayref25_Over.f k l0 l1 = some (ov l0 l1 f) := by
        rw [tidewayref25_Over.f, rfresh_f l0 hl k (by omega), hf, Option.bind_some]
        have := rover_loop l0 l1 f (by omega) hfm f.length 0 (by omega) k (by omega)
        rwa [List.drop_zero] at this
      have hc := count_loop l0 a2 (by omega) l0.length 0 (by omega) 0 k (by omega)
      have hc1 : judge_Count.f k l0 a2 = some (cnt a2 l0 0) := by have := hc.1; rwa [List.drop_zero] at this
      have hc2 : tidewayref25_Count.f k l0 a2 = some (cnt a2 l0 0) := by have := hc.2; rwa [List.drop_zero] at this
      rw [tidewaylaw25_JudgeLogs.l0, if_neg (by omega), cover_f l0 hl, Option.bind_some, rcover_f l0 hl k (by omega), Option.bind_some, same_f _ (by have := cv_len l0 l0.length; omega) k (by omega), Option.bind_some, if_pos rfl, ho, Option.bind_some, hr, Option.bind_some, if_pos rfl, hc1, Option.bind_some, hc2, Option.bind_some, if_pos rfl, JudgeFacts.heads k (by omega)]
      rfl
    | succ d ih =>
      intro i hi k hk
      obtain ⟨k, rfl⟩ : ∃ m, k = m + 1 := ⟨k - 1, by omega⟩
      rw [tidewaylaw25_JudgeLogs.l0, if_pos (by omega), if_pos (Int.natCast_nonneg i), if_pos (by omega), if_pos rfl, w64n i (by omega)]
      exact ih (i + 1) (by omega) k (by omega)
  exact key f.length 0 (by omega) 10000 (by omega)
end Go.Proofs.Ytflmfbcapccdeaa.Pure

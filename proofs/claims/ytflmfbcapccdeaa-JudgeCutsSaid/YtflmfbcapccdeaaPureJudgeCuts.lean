/- A text cut into segments of any kind, in any order, twice or not, is told back: every text of at most 200 bytes, at most 60 parts. -/
import Derived.Test.YtflmfbcapccdeaaPAx7
import Derived.Test.YtflmfbcapccdeaaPAx4
import Derived.Test.YtflmfbcapccdeaaPAx28
import Derived.Test.YtflmfbcapccdeaaPAx0
import Derived.Test.YtflmfbcapccdeaaPAx27
import Derived.Test.YtflmfbcapccdeaaJudgeNm
import Derived.Test.YtflmfbcapccdeaaPAx21
import Derived.Test.YtflmfbcapccdeaaPAx14
import Derived.Test.YtflmfbcapccdeaaWireLaw
import Derived.Test.YtflmfbcapccdeaaWireSimple
import Derived.Test.YtflmfbcapccdeaaPAx23
import Derived.IntWalk
import Derived.Deep.QuietTactic
set_option linter.unusedVariables false
set_option linter.unusedSimpArgs false
set_option autoImplicit false
namespace Go.Proofs.Ytflmfbcapccdeaa.JudgeRow
open Go.RowKit Go.Proofs.Ytflmfbcapccdeaa.PA Go.Proofs.YtflmfbcapccdeaaW.PrintWords Go.Proofs.YtflmfbcapccdeaaW.PrintMore
abbrev S := S57
abbrev M : Int := 1125899906842624
theorem w64 {n : Int} (h0 : -9223372036854775808 ≤ n) (h1 : n ≤ 9223372036854775807) : wrap64 n = n := by unfold wrap64; omega
theorem w64n (i : Nat) (h : i < 4611686018427387904) : wrap64 ((i : Int) + 1) = ((i + 1 : Nat) : Int) := by rw [w64 (by omega) (by omega)]; rfl
theorem mns (a b : Int) : mn a b ≤ a ∧ mn a b ≤ b ∧ (mn a b = a ∨ mn a b = b) := by unfold mn; split <;> omega
theorem mxs (a b : Int) : a ≤ mx a b ∧ b ≤ mx a b ∧ (mx a b = a ∨ mx a b = b) := by unfold mx; split <;> omega
/-- A right row, behind lo. -/
def Rw : Int → List S → Prop
  | _, [] => True
  | lo, x :: l => (lo < x.f0 ∧ x.f0 < x.f1 ∧ x.f1 ≤ M) ∧ Rw x.f1 l
theorem rd_at (l : List S) (i : Nat) (h : i < l.length) : rd_T57 l (i : Int) = l[i] := by
  rw [rd_T57, Int.toNat_natCast, List.getD_eq_getElem?_getD, List.getElem?_eq_getElem h]; rfl
theorem rw_at : ∀ (l : List S) (lo : Int), -1 ≤ lo → Rw lo l → ∀ i (h : i < l.length), lo < l[i].f0 ∧ l[i].f0 < l[i].f1 ∧ l[i].f1 ≤ M ∧ ∀ h0 : 0 < i, (l[i - 1]'(by omega)).f1 < l[i].f0
  | [], _, _, _, i, h => absurd h (Nat.not_lt_zero _)
  | x :: l, lo, hlo, hr, 0, h => ⟨hr.1.1, hr.1.2.1, hr.1.2.2, fun h0 => absurd h0 (Nat.lt_irrefl _)⟩
  | x :: l, lo, hlo, hr, i + 1, h => by
    have hi : i < l.length := by simpa using h
    have h1 := rw_at l x.f1 (by have := hr.1; omega) hr.2 i hi
    have h2 := hr.1
    refine ⟨by simp only [List.getElem_cons_succ]; omega, by simpa using h1.2.1, by simpa using h1.2.2.1, fun _ => ?_⟩
    cases i with
    | zero => simpa using h1.1
    | succ i => simpa using h1.2.2.2 (by omega)
theorem chk_right (l : List S) (h : Rw (-1) l) : sp_chk l = 0 := by
  rw [sp_chk, if_pos]
  refine List.all_eq_true.2 (fun i hi => ?_)
  have hi : i < l.length := List.mem_range.1 hi
  have ha := rw_at l (-1) (Int.le_refl _) h i hi
  have hg : ∀ j, (hj : j < l.length) → l.getD j z57 = l[j] := fun j hj => by rw [List.getD_eq_getElem?_getD, List.getElem?_eq_getElem hj]; rfl
  rw [sp_ok, sp_ok1, hg i hi]
  simp only [Bool.and_eq_true, Bool.or_eq_true, decide_eq_true_eq]
  refine ⟨⟨by omega, ha.2.1, ha.2.2.1⟩, ?_⟩
  by_cases h0 : i = 0
  · exact .inl h0
  · right
    rw [hg (i - 1) (by omega)]
    exact ha.2.2.2 (by omega)
theorem check_loop (l : List S) (hl : l.length ≤ 1000000) (h : Rw (-1) l) (d : Nat) : ∀ i : Nat, i + d = l.length → ∀ k, 2 * d + 1 ≤ k → tidewayref06_Check.l0 k l (i : Int) = some 0 := by
  induction d with
  | zero =>
    intro i hi k hk
    obtain ⟨k, rfl⟩ : ∃ m, k = m + 1 := ⟨k - 1, by omega⟩
    rw [tidewayref06_Check.l0, if_neg (by omega)]
  | succ d ih =>
    intro i hi k hk
    obtain ⟨k, rfl⟩ : ∃ m, k = m + 2 := ⟨k - 2, by omega⟩
    have hlt : i < l.length := by omega
    have ha := rw_at l (-1) (Int.le_refl _) h i hlt
    have ih := ih (i + 1) (by omega) k (by omega)
    have hyes : tidewayref06_Check.j1 (k + 1) l (i : Int) false = some 0 := by rw [tidewayref06_Check.j1, if_neg (by decide), w64n i (by omega), ih]
    rw [tidewayref06_Check.l0, if_pos (by omega), if_pos (Int.natCast_nonneg i), rd_at l i hlt, if_neg (by omega), if_neg (by omega), if_neg (by have := ha.2.2.1; unfold M at this; omega)]
    by_cases h0 : i = 0
    · rw [if_neg (by omega), hyes]
    · have hw2 : wrap64 ((i : Int) - 1) = ((i - 1 : Nat) : Int) := by rw [w64 (by omega) (by omega)]; omega
      have h1 := ha.2.2.2 (by omega)
      rw [if_pos (by omega), hw2, if_pos (Int.natCast_nonneg _), if_pos (by omega), rd_at l (i - 1) (by omega), decide_eq_false (by omega), hyes]
theorem check_f (l : List S) (hl : l.length ≤ 1000000) (h : Rw (-1) l) (k : Nat) (hk : 2 * l.length + 1 ≤ k) : tidewayref06_Check.f k l = some 0 := check_loop l hl h l.length 0 (by omega) k hk
/-- May a span be added? -/
def mayB (a b : Int) : Bool := decide (0 ≤ a) && (decide (a ≤ b) && decide (b ≤ M))
theorem may_f (a b : Int) : span_may.f a b = some (mayB a b) := by
  unfold span_may.f mayB M
  by_cases h0 : a ≥ 0
  · by_cases h1 : a ≤ b
    · rw [if_pos h0, if_pos h1, decide_eq_true (show 0 ≤ a from h0), decide_eq_true h1, Bool.true_and, Bool.true_and]
    · rw [if_pos h0, if_neg h1, decide_eq_false h1, Bool.false_and, Bool.and_false]
  · rw [if_neg h0, decide_eq_false (show ¬ 0 ≤ a from h0), Bool.false_and]
theorem right_f (a b : Int) : tidewayref06_right.f a b = some (mayB a b) := may_f a b
theorem mayB_parts {a b : Int} (h : mayB a b = true) : 0 ≤ a ∧ a ≤ b ∧ b ≤ M := by
  unfold mayB at h
  simp only [Bool.and_eq_true, decide_eq_true_eq] at h
  exact h
/-- The second part of adding: what touches is taken in. -/
def ad2 : List S → Int → Int → List S
  | [], a, b => [⟨a, b⟩]
  | x :: l, a, b => if x.f0 ≤ b then ad2 l (mn a x.f0) (mx b x.f1) else ⟨a, b⟩ :: x :: l
def ad : List S → Int → Int → List S
  | [], a, b => [⟨a, b⟩]
  | x :: l, a, b => if x.f1 < a then x :: ad l a b else ad2 (x :: l) a b
theorem ad2_len : ∀ (l : List S) (a b : Int), (ad2 l a b).length ≤ l.length + 1
  | [], _, _ => Nat.le_refl _
  | x :: l, a, b => by
    rw [ad2]
    split
    · have := ad2_len l (mn a x.f0) (mx b x.f1); simp only [List.length_cons]; omega
    · simp
theorem ad_len : ∀ (l : List S) (a b : Int), (ad l a b).length ≤ l.length + 1
  | [], _, _ => Nat.le_refl _
  | x :: l, a, b => by
    rw [ad]
    split
    · have := ad_len l a b; simp only [List.length_cons]; omega
    · exact ad2_len _ _ _
theorem ad2_rw : ∀ (l : List S) (lo lo2 a b : Int), Rw lo2 l → lo < a → a < b → b ≤ M → lo < lo2 → Rw lo (ad2 l a b)
  | [], lo, lo2, a, b, _, h1, h2, h3, _ => ⟨⟨h1, h2, h3⟩, trivial⟩
  | x :: l, lo, lo2, a, b, hr, h1, h2, h3, h4 => by
    rw [ad2]
    have hx := hr.1
    have m1 := mns a x.f0
    have m2 := mxs b x.f1
    split
    · exact ad2_rw l lo x.f1 _ _ hr.2 (by omega) (by omega) (by omega) (by omega)
    · exact ⟨⟨h1, h2, h3⟩, ⟨by show b < x.f0; omega, hx.2.1, hx.2.2⟩, hr.2⟩
theorem ad_rw : ∀ (l : List S) (lo a b : Int), Rw lo l → lo < a → a < b → b ≤ M → Rw lo (ad l a b)
  | [], lo, a, b, _, h1, h2, h3 => ⟨⟨h1, h2, h3⟩, trivial⟩
  | x :: l, lo, a, b, hr, h1, h2, h3 => by
    rw [ad]
    split
    · rename_i hc
      exact ⟨hr.1, ad_rw l x.f1 a b hr.2 hc h2 h3⟩
    · have hx := hr.1
      have m1 := mns a x.f0
      have m2 := mxs b x.f1
      rw [ad2]
      split
      · exact ad2_rw l lo x.f1 _ _ hr.2 (by omega) (by omega) (by omega) (by omega)
      · exact ⟨⟨h1, h2, h3⟩, ⟨by show b < x.f0; omega, hx.2.1, hx.2.2⟩, hr.2⟩
/-- span.Add's loops. -/
theorem add_l1 (l : List S) (hl : l.length ≤ 1000000) (d : Nat) : ∀ i : Nat, i + d = l.length → ∀ (acc : List S) (a b : Int) (k : Nat), acc.length ≤ i → d + 1 ≤ k → span_Add.l1 k l acc (i : Int) a b = some (acc ++ ad2 (l.drop i) a b, 0) := by
  induction d with
  | zero =>
    intro i hi acc a b k ha hk
    obtain ⟨k, rfl⟩ : ∃ m, k = m + 1 := ⟨k - 1, by omega⟩
    rw [span_Add.l1, if_neg (by omega), if_pos (by omega), Option.bind_some, if_pos (Int.natCast_nonneg i), if_pos (by omega), Option.bind_some, Int.toNat_natCast, List.drop_eq_nil_of_le (by omega), if_pos (by rw [List.length_append, List.length_singleton, List.length_nil]; omega), ad2, List.append_nil]
  | succ d ih =>
    intro i hi acc a b k ha hk
    obtain ⟨k, rfl⟩ : ∃ m, k = m + 1 := ⟨k - 1, by omega⟩
    have hlt : i < l.length := by omega
    rw [span_Add.l1, if_pos (by omega), if_pos (Int.natCast_nonneg i), rd_at l i hlt, List.drop_eq_getElem_cons hlt, ad2]
    by_cases hc : l[i].f0 ≤ b
    · rw [if_pos hc, if_pos hc, w64n i (by omega)]
      exact ih (i + 1) (by omega) acc _ _ k (by omega) (by omega)
    · rw [if_neg hc, if_neg hc, if_pos (by omega), Option.bind_some, if_pos (by omega), Option.bind_some, Int.toNat_natCast, List.drop_eq_getElem_cons hlt, if_pos (by simp only [List.length_append, List.length_cons, List.length_nil, List.length_drop]; omega), List.append_assoc]
      rfl
theorem add_l0 (l : List S) (hl : l.length ≤ 1000000) (d : Nat) : ∀ i : Nat, i + d = l.length → ∀ (acc : List S) (a b : Int) (k : Nat), acc.length ≤ i → 2 * d + 3 ≤ k → span_Add.l0 k l acc (i : Int) a b = some (acc ++ ad (l.drop i) a b, 0) := by
  induction d with
  | zero =>
    intro i hi acc a b k ha hk
    obtain ⟨k, rfl⟩ : ∃ m, k = m + 2 := ⟨k - 2, by omega⟩
    rw [span_Add.l0, if_neg (by omega), span_Add.j1, add_l1 l hl 0 i (by omega) acc a b k ha (by omega), List.drop_eq_nil_of_le (by omega)]
    rfl
  | succ d ih =>
    intro i hi acc a b k ha hk
    obtain ⟨k, rfl⟩ : ∃ m, k = m + 2 := ⟨k - 2, by omega⟩
    have hlt : i < l.length := by omega
    rw [span_Add.l0, if_pos (by omega), if_pos (Int.natCast_nonneg i), rd_at l i hlt]
    by_cases hc : l[i].f1 < a
    · rw [if_pos hc, if_pos (by omega), w64n i (by omega), ih (i + 1) (by omega) _ _ _ (k + 1) (by rw [List.length_append, List.length_singleton]; omega) (by omega)]
      rw [List.drop_eq_getElem_cons hlt, ad, if_pos hc, List.append_assoc]
      rfl
    · rw [if_neg hc, span_Add.j1, add_l1 l hl (d + 1) i (by omega) acc a b k ha (by omega)]
      rw [List.drop_eq_getElem_cons hlt, ad, if_neg hc]
/-- What adding makes of a right row. -/
def step (l : List S) (a b : Int) : List S := if mayB a b = true then (if a = b then l else ad l a b) else l
theorem step_rw {l : List S} {a b : Int} (h : Rw (-1) l) : Rw (-1) (step l a b) := by
  unfold step
  split
  · rename_i hm
    have hm := mayB_parts hm
    split
    · exact h
    · exact ad_rw l (-1) a b h (by omega) (by omega) hm.2.2
  · exact h
theorem step_len (l : List S) (a b : Int) : (step l a b).length ≤ l.length + 1 := by
  unfold step
  split
  · split
    · omega
    · exact ad_len _ _ _
  · omega
theorem add_f (l : List S) (hl : l.length ≤ 1000000) (h : Rw (-1) l) (a b : Int) (k : Nat) (hk : 2 * l.length + 10 ≤ k) : ∃ r e, span_Add.f k l a b = some (r, e) ∧ (if e = 0 then r else l) = step l a b := by
  rw [span_Add.f, span_right.f, sp_chk_f l (by omega) k (by omega), chk_right l h, Option.bind_some, if_pos rfl, may_f, Option.bind_some, step]
  cases hm : mayB a b with
  | false => exact ⟨_, 2, rfl, rfl⟩
  | true =>
    rw [if_pos rfl, if_pos rfl, Option.bind_some, if_pos rfl]
    by_cases hc : a = b
    · rw [if_pos hc, if_pos hc, api_Span.f, if_pos (by omega)]
      exact ⟨l, 0, rfl, rfl⟩
    · rw [if_neg hc, if_neg hc]
      have := add_l0 l hl l.length 0 (by omega) [] a b k (Nat.le_refl _) (by omega)
      exact ⟨_, 0, this, by rw [if_pos rfl, List.drop_zero]; rfl⟩
/-- The document's adding. -/
def rT : List S → Int → Int → List S
  | [], _, _ => []
  | x :: l, a, b => if x.f1 < a then x :: rT l a b else if b < x.f0 then x :: rT l a b else rT l (mn a x.f0) (mx b x.f1)
def rA : List S → Int → Int → List S
  | [], a, b => [⟨a, b⟩]
  | x :: l, a, b => if x.f1 < a then x :: rA l a b else if b < x.f0 then ⟨a, b⟩ :: x :: rT l a b else rA l (mn a x.f0) (mx b x.f1)
theorem rT_eq : ∀ (l : List S) (lo a b : Int), Rw lo l → a ≤ b → b ≤ lo → rT l a b = l
  | [], _, _, _, _, _, _ => rfl
  | x :: l, lo, a, b, hr, h1, h2 => by
    have hx := hr.1
    rw [rT, if_neg (by omega), if_pos (by omega), rT_eq l x.f1 a b hr.2 h1 (by omega)]
theorem rA2 : ∀ (l : List S) (lo a b : Int), Rw lo l → a ≤ b → a ≤ lo → rA l a b = ad2 l a b
  | [], _, _, _, _, _, _ => rfl
  | x :: l, lo, a, b, hr, h1, h2 => by
    have hx := hr.1
    have m1 := mns a x.f0
    have m2 := mxs b x.f1
    rw [rA, ad2, if_neg (by omega)]
    by_cases hc : x.f0 ≤ b
    · rw [if_neg (by omega), if_pos hc]
      exact rA2 l x.f1 _ _ hr.2 (by omega) (by omega)
    · rw [if_pos (by omega), if_neg hc, rT_eq l x.f1 a b hr.2 h1 (by omega)]
theorem rA_eq : ∀ (l : List S) (lo a b : Int), Rw lo l → a ≤ b → rA l a b = ad l a b
  | [], _, _, _, _, _ => rfl
  | x :: l, lo, a, b, hr, h1 => by
    have hx := hr.1
    have m1 := mns a x.f0
    have m2 := mxs b x.f1
    rw [rA, ad]
    by_cases h0 : x.f1 < a
    · rw [if_pos h0, if_pos h0, rA_eq l x.f1 a b hr.2 h1]
    · rw [if_neg h0, if_neg h0, ad2]
      by_cases hc : x.f0 ≤ b
      · rw [if_neg (by omega), if_pos hc]
        exact rA2 l x.f1 _ _ hr.2 (by omega) (by omega)
      · rw [if_pos (by omega), if_neg hc, rT_eq l x.f1 a b hr.2 h1 (by omega)]
theorem radd_loop (l : List S) (hl : l.length ≤ 1000000) (d : Nat) : ∀ i : Nat, i + d = l.length → ∀ (acc : List S) (p : Bool) (a b : Int) (k : Nat), acc.length ≤ 2 * i → d + 1 ≤ k → tidewayref06_Add.l0 k l acc p (i : Int) a b = some (acc ++ (if p = true then rT (l.drop i) a b else rA (l.drop i) a b), 0) := by
  induction d with
  | zero =>
    intro i hi acc p a b k ha hk
    obtain ⟨k, rfl⟩ : ∃ m, k = m + 1 := ⟨k - 1, by omega⟩
    rw [tidewayref06_Add.l0, if_neg (by omega), List.drop_eq_nil_of_le (by omega)]
    cases p with
    | true => rw [if_pos rfl, if_pos rfl, rT, List.append_nil]
    | false => rw [if_neg (show ¬ (false = true) by decide), if_pos (by omega), if_neg (show ¬ (false = true) by decide), rA]
  | succ d ih =>
    intro i hi acc p a b k ha hk
    obtain ⟨k, rfl⟩ : ∃ m, k = m + 1 := ⟨k - 1, by omega⟩
    have hlt : i < l.length := by omega
    have ih := ih (i + 1) (by omega)
    rw [tidewayref06_Add.l0, if_pos (by omega), if_pos (Int.natCast_nonneg i), rd_at l i hlt, w64n i (by omega), List.drop_eq_getElem_cons hlt, rT, rA]
    have hl1 : (acc ++ [l[i]]).length ≤ 2 * (i + 1) := by rw [List.length_append, List.length_singleton]; omega
    by_cases h0 : l[i].f1 < a
    · rw [if_pos h0, if_pos h0, if_pos h0, if_pos (by omega), ih _ p a b k hl1 (by omega)]
      cases p <;> simp
    · rw [if_neg h0, if_neg h0, if_neg h0]
      by_cases h1 : b < l[i].f0
      · rw [if_pos h1, if_pos h1, if_pos h1]
        cases p with
        | true => rw [if_pos rfl, if_pos (by omega), ih _ true a b k hl1 (by omega)]; simp
        | false =>
          rw [if_neg (by decide), if_pos (by omega), Option.bind_some, if_pos (by rw [List.length_append, List.length_singleton]; omega), ih _ true a b k (by simp only [List.length_append, List.length_singleton]; omega) (by omega)]
          simp
      · rw [if_neg h1, if_neg h1, if_neg h1, ih acc p _ _ k (by omega) (by omega)]
/-- The gaps, as the program finds them. -/
def sg (a b : Int) : List S → Int → List S
  | [], t => if t < b then [⟨t, b⟩] else []
  | x :: l, t => if mx x.f0 a < mn x.f1 b then (if t < mx x.f0 a then ⟨t, mx x.f0 a⟩ :: sg a b l (mn x.f1 b) else sg a b l (mn x.f1 b)) else sg a b l t
def gaps (l : List S) (a b : Int) : List S := if a ≥ b then [] else sg a b l a
end Go.Proofs.Ytflmfbcapccdeaa.JudgeRow
set_option linter.unusedVariables false
set_option linter.unusedSimpArgs false
set_option autoImplicit false
namespace Go.Proofs.Ytflmfbcapccdeaa.JudgeCutP
open Go.RowKit Go.Proofs.Ytflmfbcapccdeaa.PA Go.Proofs.YtflmfbcapccdeaaW.PrintWords Go.Proofs.YtflmfbcapccdeaaW.PrintLast Go.Proofs.YtflmfbcapccdeaaW.PrintMore Go.Proofs.Ytflmfbcapccdeaa.JudgeMap Go.Proofs.Ytflmfbcapccdeaa.JudgeNm
open Go.Proofs.Ytflmfbcapccdeaa.JudgeBytesW (Q P psd seg Good good_all good_nil bIn bAll bres pieces fits)
open Go.Proofs.Ytflmfbcapccdeaa.JudgeRow (S M mns mxs Rw mayB ad2 ad step_rw)
/-- What lies in one of them. -/
def Mem (l : List S) (y : Int) : Prop := ∃ s ∈ l, s.f0 ≤ y ∧ y < s.f1
theorem mem_cons (x : S) (l : List S) (y : Int) : Mem (x :: l) y ↔ (x.f0 ≤ y ∧ y < x.f1) ∨ Mem l y := by
  constructor
  · rintro ⟨s, hs, h⟩
    rcases List.mem_cons.1 hs with rfl | hs
    · exact .inl h
    · exact .inr ⟨s, hs, h⟩
  · rintro (h | ⟨s, hs, h⟩)
    · exact ⟨x, List.mem_cons_self .., h⟩
    · exact ⟨s, List.mem_cons_of_mem _ hs, h⟩
theorem mem_nil (y : Int) : ¬ Mem [] y := by rintro ⟨s, hs, _⟩; cases hs
theorem ad2_mem : ∀ (l : List S) (a b y : Int), a < b → (∀ s ∈ l, a ≤ s.f1 ∧ s.f0 < s.f1) → (Mem (ad2 l a b) y ↔ (a ≤ y ∧ y < b) ∨ Mem l y)
  | [], a, b, y, _, _ => by rw [ad2, mem_cons]
  | x :: l, a, b, y, hab, h => by
    have hx := h x (List.mem_cons_self ..)
    have m1 := mns a x.f0
    have m2 := mxs b x.f1
    rw [ad2]
    split
    · rename_i hc
      rw [ad2_mem l _ _ y (by omega) (fun s hs => by have := h s (List.mem_cons_of_mem _ hs); omega), mem_cons]
      constructor
      · rintro (h1 | h1)
        · by_cases h2 : a ≤ y ∧ y < b
          · exact .inl h2
          · exact .inr (.inl (by omega))
        · exact .inr (.inr h1)
      · rintro (h1 | h1 | h1)
        · exact .inl (by omega)
        · exact .inl (by omega)
        · exact .inr h1
    · rw [mem_cons]
theorem rw_up : ∀ (l : List S) (lo : Int), Rw lo l → ∀ s ∈ l, lo < s.f0 ∧ s.f0 < s.f1
  | x :: l, lo, h, s, hs => by
    have h0 := h.1
    rcases List.mem_cons.1 hs with rfl | hs
    · exact ⟨h0.1, h0.2.1⟩
    · have := rw_up l x.f1 h.2 s hs
      omega
theorem ad_mem : ∀ (l : List S) (lo a b y : Int), Rw lo l → a < b → (Mem (ad l a b) y ↔ (a ≤ y ∧ y < b) ∨ Mem l y)
  | [], lo, a, b, y, _, _ => by rw [ad, mem_cons]
  | x :: l, lo, a, b, y, hr, hab => by
    rw [ad]
    split
    · rw [mem_cons, ad_mem l x.f1 a b y hr.2 hab, mem_cons]
      constructor
      · rintro (h | h | h)
        · exact .inr (.inl h)
        · exact .inl h
        · exact .inr (.inr h)
      · rintro (h | h | h)
        · exact .inr (.inl h)
        · exact .inl h
        · exact .inr (.inr h)
    · refine ad2_mem (x :: l) a b y hab (fun s hs => ?_)
      have h0 := hr.1
      rcases List.mem_cons.1 hs with rfl | hs
      · omega
      · have := rw_up l x.f1 hr.2 s hs
        omega
theorem step_mem {l : List S} {a b : Int} (h : Rw (-1) l) (hm : mayB a b = true) (y : Int) : Mem (JudgeRow.step l a b) y ↔ (a ≤ y ∧ y < b) ∨ Mem l y := by
  have hp : 0 ≤ a ∧ a ≤ b ∧ b ≤ M := by
    unfold mayB at hm
    simp only [Bool.and_eq_true, decide_eq_true_eq] at hm
    exact hm
  rw [JudgeRow.step, if_pos hm]
  split
  · exact ⟨.inr, fun h => h.elim (fun h => by omega) id⟩
  · exact ad_mem l (-1) a b y h (by omega)
/-- A part of a text. -/
def cut (t : List Int) (a b : Int) : List Int := (t.drop a.toNat).take (b - a).toNat
theorem cut_len {t : List Int} {a b : Int} (h0 : 0 ≤ a) (h1 : a ≤ b) (h2 : b ≤ t.length) : ((cut t a b).length : Int) = b - a := by
  unfold cut; rw [List.length_take, List.length_drop]; omega
theorem cut_get {t : List Int} {a b : Int} (h0 : 0 ≤ a) (h1 : a ≤ b) (h2 : b ≤ t.length) (j : Nat) (hj : j < (cut t a b).length) : (cut t a b)[j] = t.getD (a + j).toNat 0 := by
  have hl := cut_len h0 h1 h2
  simp only [cut, List.getElem_take, List.getElem_drop]
  rw [List.getD_eq_getElem?_getD, List.getElem?_eq_getElem (by omega), Option.getD_some]
  congr 1
  omega
/-- Right pieces of a text: in order, as the spans are. -/
theorem cov_cut (t : List Int) : ∀ (l : List S) (lo : Int), -1 ≤ lo → Rw lo l → (∀ s ∈ l, s.f1 ≤ t.length) →
    Nm lo (l.map fun s => (⟨s.f0, cut t s.f0 s.f1⟩ : P)) ∧ ∀ y, (Mem l y → cov (l.map fun s => (⟨s.f0, cut t s.f0 s.f1⟩ : P)) y = some (t.getD y.toNat 0)) ∧ (¬ Mem l y → cov (l.map fun s => (⟨s.f0, cut t s.f0 s.f1⟩ : P)) y = none)
  | [], lo, _, _, _ => ⟨trivial, fun y => ⟨fun h => absurd h (mem_nil y), fun _ => rfl⟩⟩
  | x :: l, lo, hlo, hr, hb => by
    have h0 := hr.1
    have hx := hb x (List.mem_cons_self ..)
    have hl := cut_len (t := t) (a := x.f0) (b := x.f1) (by omega) (by omega) hx
    obtain ⟨i1, i2⟩ := cov_cut t l x.f1 (by omega) hr.2 (fun s hs => hb s (List.mem_cons_of_mem _ hs))
    refine ⟨⟨h0.1, by show 0 < (cut t x.f0 x.f1).length; omega, ?_⟩, fun y => ?_⟩
    · show Nm (x.f0 + ((cut t x.f0 x.f1).length : Int)) _
      rw [hl, show x.f0 + (x.f1 - x.f0) = x.f1 by omega]
      exact i1
    · rw [List.map_cons, cov, cov1]
      dsimp only
      rw [hl]
      constructor
      · intro hm
        by_cases hy : x.f0 ≤ y ∧ y < x.f1
        · rw [if_pos (by omega), Option.some_or]
          have hj : (y - x.f0).toNat < (cut t x.f0 x.f1).length := by omega
          rw [List.getD_eq_getElem?_getD, List.getElem?_eq_getElem hj, Option.getD_some, cut_get (by omega) (by omega) hx _ hj]
          congr 3
          omega
        · rw [if_neg (by omega), Option.none_or]
          exact (i2 y).1 (((mem_cons x l y).1 hm).elim (fun h => absurd h hy) id)
      · intro hm
        rw [mem_cons] at hm
        rw [if_neg (fun h => hm (.inl (by omega))), Option.none_or]
        exact (i2 y).2 (fun h => hm (.inr h))
theorem bIn_ok (g : Int → Int) (fr : Int) : ∀ (d : List Int) (i : Nat) (m : List (Int × Int)), (∀ j (h : j < d.length), d[j] = g (fr + i + j)) → (∀ y v, mget m y = some v → v = g y) →
    ∃ m', bIn fr d i m = some m' ∧ (∀ y v, mget m' y = some v → v = g y) ∧ ∀ y, (mget m' y).isSome = true ↔ (mget m y).isSome = true ∨ (fr + i ≤ y ∧ y < fr + i + d.length)
  | [], i, m, _, hg => ⟨m, rfl, hg, fun y => ⟨.inl, fun h => h.elim id (fun h => by simp at h; omega)⟩⟩
  | c :: d, i, m, hd, hg => by
    have hc : c = g (fr + i) := by have := hd 0 (by simp); simpa using this
    have hf : fits m (fr + i) c = true := by
      unfold fits
      cases hm : mget m (fr + i) with
      | none => simp
      | some v => rw [hg _ v hm, hc]; simp
    obtain ⟨m', e, k1, k2⟩ := bIn_ok g fr d (i + 1) (mput m (fr + i) c) (fun j hj => by
      have := hd (j + 1) (by simpa using hj)
      simp only [List.getElem_cons_succ] at this
      rw [this]; congr 1; push_cast; omega) (fun y v h => by
      rw [mput_get hf] at h
      split at h
      · rename_i hy; rw [hy, ← hc]; exact (Option.some.inj h).symm
      · exact hg y v h)
    refine ⟨m', by rw [bIn, if_pos hf, e], k1, fun y => ?_⟩
    rw [k2, mput_get hf]
    simp only [List.length_cons]
    by_cases hy : y = fr + i
    · rw [if_pos hy]
      exact ⟨fun _ => .inr (by omega), fun _ => .inl rfl⟩
    · rw [if_neg hy]
      constructor
      · rintro (h | h)
        · exact .inl h
        · exact .inr (by omega)
      · rintro (h | h)
        · exact .inl h
        · exact .inr (by omega)
/-- What was sent, each part a part of the text. -/
def Cuts (vd : List Int → Bool) (t : List Int) (l : List Q) : Prop := ∀ q ∈ l, 0 ≤ q.f2 ∧ q.f2 ≤ q.f3 ∧ q.f3 ≤ t.length ∧ seg vd q = some (cut t q.f2 q.f3)
def QMem (l : List Q) (y : Int) : Prop := ∃ q ∈ l, q.f2 ≤ y ∧ y < q.f3
theorem bAll_ok (vd : List Int → Bool) (t : List Int) : ∀ (l : List Q) (m : List (Int × Int)), Cuts vd t l → (∀ y v, mget m y = some v → v = t.getD y.toNat 0) →
    ∃ m', bAll vd l m = some m' ∧ (∀ y v, mget m' y = some v → v = t.getD y.toNat 0) ∧ ∀ y, (mget m' y).isSome = true ↔ (mget m y).isSome = true ∨ QMem l y
  | [], m, _, hg => ⟨m, rfl, hg, fun y => ⟨.inl, fun h => h.elim id (fun ⟨q, hq, _⟩ => by cases hq)⟩⟩
  | q :: l, m, hl, hg => by
    obtain ⟨h0, h1, h2, h3⟩ := hl q (List.mem_cons_self ..)
    have hlen := cut_len h0 h1 h2
    obtain ⟨m1, e1, k1, k2⟩ := bIn_ok (fun y => t.getD y.toNat 0) q.f2 (cut t q.f2 q.f3) 0 m (fun j hj => by rw [cut_get h0 h1 h2 j hj]; simp) hg
    obtain ⟨m', e', n1, n2⟩ := bAll_ok vd t l m1 (fun x hx => hl x (List.mem_cons_of_mem _ hx)) k1
    refine ⟨m', by rw [bAll, h3, Option.bind_some, e1, Option.bind_some, e'], n1, fun y => ?_⟩
    rw [n2, k2, hlen, or_assoc]
    have hq : QMem (q :: l) y ↔ (q.f2 ≤ y ∧ y < q.f3) ∨ QMem l y := by
      constructor
      · rintro ⟨x, hx, h⟩
        rcases List.mem_cons.1 hx with rfl | hx
        · exact .inl h
        · exact .inr ⟨x, hx, h⟩
      · rintro (h | ⟨x, hx, h⟩)
        · exact ⟨q, List.mem_cons_self .., h⟩
        · exact ⟨x, List.mem_cons_of_mem _ hx, h⟩
    rw [hq]
    constructor
    · rintro (h | h | h)
      · exact .inl h
      · exact .inr (.inl (by omega))
      · exact .inr (.inr h)
    · rintro (h | h | h)
      · exact .inl h
      · exact .inr (.inl (by omega))
      · exact .inr (.inr h)
/-- What covers them. -/
def cvl (l : List Q) : List S := l.foldl (fun c q => JudgeRow.step c q.f2 q.f3) []
theorem cvl_snoc (l : List Q) (q : Q) : cvl (l ++ [q]) = JudgeRow.step (cvl l) q.f2 q.f3 := by unfold cvl; rw [List.foldl_append]; rfl
theorem cvl_rw (l : List Q) : Rw (-1) (cvl l) := by
  have : ∀ (l : List Q) (c : List S), Rw (-1) c → Rw (-1) (l.foldl (fun c q => JudgeRow.step c q.f2 q.f3) c) := by
    intro l
    induction l with
    | nil => intro c h; exact h
    | cons q l ih => intro c h; exact ih _ (step_rw h)
  exact this l [] trivial
theorem cvl_mem (l : List Q) (h : ∀ q ∈ l, mayB q.f2 q.f3 = true) (y : Int) : Mem (cvl l) y ↔ QMem l y := by
  have : ∀ (l : List Q) (c : List S), (∀ q ∈ l, mayB q.f2 q.f3 = true) → Rw (-1) c → (Mem (l.foldl (fun c q => JudgeRow.step c q.f2 q.f3) c) y ↔ Mem c y ∨ QMem l y) := by
    intro l
    induction l with
    | nil => intro c _ _; exact ⟨.inl, fun h => h.elim id (fun ⟨q, hq, _⟩ => by cases hq)⟩
    | cons q l ih =>
      intro c hm hc
      rw [List.foldl_cons, ih _ (fun x hx => hm x (List.mem_cons_of_mem _ hx)) (step_rw hc), step_mem hc (hm q (List.mem_cons_self ..))]
      constructor
      · rintro ((h | h) | ⟨x, hx, h⟩)
        · exact .inr ⟨q, List.mem_cons_self .., h⟩
        · exact .inl h
        · exact .inr ⟨x, List.mem_cons_of_mem _ hx, h⟩
      · rintro (h | ⟨x, hx, h⟩)
        · exact .inl (.inr h)
        · rcases List.mem_cons.1 hx with rfl | hx
          · exact .inl (.inl h)
          · exact .inr ⟨x, hx, h⟩
  rw [show cvl l = l.foldl (fun c q => JudgeRow.step c q.f2 q.f3) [] from rfl, this l [] h trivial]
  exact ⟨fun h => h.elim (fun h => absurd h (mem_nil y)) id, .inr⟩
/-- The text cut into parts is told back. -/
theorem cuts_told (vd : List Int → Bool) (t : List Int) (ht : t.length ≤ 1000) (l : List Q) (h : Cuts vd t l) : bres vd l = ((cvl l).map fun s => (⟨s.f0, cut t s.f0 s.f1⟩ : P), true) ∧ ∀ s ∈ cvl l, 0 ≤ s.f0 ∧ s.f0 < s.f1 ∧ s.f1 ≤ t.length := by
  obtain ⟨m, e, k1, k2⟩ := bAll_ok vd t l [] h (fun y v h => by cases h)
  have hmay : ∀ q ∈ l, mayB q.f2 q.f3 = true := fun q hq => by
    obtain ⟨h0, h1, h2, _⟩ := h q hq
    unfold mayB
    simp only [Bool.and_eq_true, decide_eq_true_eq]
    refine ⟨h0, h1, ?_⟩
    show q.f3 ≤ 1125899906842624
    omega
  have hrw := cvl_rw l
  have hmem := cvl_mem l hmay
  have hin : ∀ s ∈ cvl l, 0 ≤ s.f0 ∧ s.f0 < s.f1 ∧ s.f1 ≤ t.length := fun s hs => by
    have h0 := rw_up _ _ hrw s hs
    obtain ⟨q, hq, h1⟩ := (hmem (s.f1 - 1)).1 ⟨s, hs, by omega, by omega⟩
    have h2 := h q hq
    omega
  obtain ⟨c1, c2⟩ := cov_cut t (cvl l) (-1) (Int.le_refl _) hrw (fun s hs => (hin s hs).2.2)
  obtain ⟨p1, p2⟩ := pieces_ok (good_all vd l [] m good_nil e)
  refine ⟨?_, hin⟩
  rw [bres, e]
  dsimp only
  rw [nm_eq _ _ (-1) p1 c1 (fun y => ?_)]
  rw [p2]
  by_cases hy : Mem (cvl l) y
  · rw [(c2 y).1 hy]
    have := (k2 y).2 (.inr ((hmem y).1 hy))
    obtain ⟨v, hv⟩ := Option.isSome_iff_exists.1 this
    rw [hv, k1 y v hv]
  · rw [(c2 y).2 hy]
    cases hm : mget m y with
    | none => rfl
    | some v =>
      exfalso
      rcases (k2 y).1 (by rw [hm]; rfl) with h | h
      · rw [mget_nil] at h; cases h
      · exact hy ((hmem y).2 h)
end Go.Proofs.Ytflmfbcapccdeaa.JudgeCutP
set_option linter.unusedVariables false
set_option linter.unusedSimpArgs false
set_option autoImplicit false
namespace Go.Proofs.Ytflmfbcapccdeaa.JudgeFacts
open Go.RowKit Go.Proofs.Ytflmfbcapccdeaa.PA Go.Proofs.YtflmfbcapccdeaaW.PrintWords Go.Proofs.YtflmfbcapccdeaaW.PrintMore
abbrev E := S62
theorem heads (k : Nat) (hk : 40 ≤ k) : tidewaylaw25_heads.f k = some true := by
  obtain ⟨d, rfl⟩ : ∃ d, k = 40 + d := ⟨k - 40, by omega⟩
  exact more_rounds tidewaylaw25_heads.mono 40 d _ (by kernel_rfl)
end Go.Proofs.Ytflmfbcapccdeaa.JudgeFacts
set_option linter.unusedVariables false
set_option linter.unusedSimpArgs false
set_option autoImplicit false
namespace Go.Proofs.Ytflmfbcapccdeaa.Pure
open Go.RowKit Go.Proofs.Ytflmfbcapccdeaa.PA Go.Proofs.YtflmfbcapccdeaaW.PrintWords Go.Proofs.YtflmfbcapccdeaaW.PrintLast Go.Proofs.YtflmfbcapccdeaaW.PrintMore Go.Proofs.Ytflmfbcapccdeaa.WireG Go.Proofs.Ytflmfbcapccdeaa.JudgeCutP
open Go.Proofs.Ytflmfbcapccdeaa.JudgeBytesW (Q P psd seg bres jb_calls)
open Go.Proofs.Ytflmfbcapccdeaa.SumPlain (byts norm wsum)
open Go.Proofs.Ytflmfbcapccdeaa.JudgeRow (S M Rw mayB mayB_parts step_rw step_len check_f right_f radd_loop rA_eq add_f)
theorem wf8_b {x : Int} (h : (Lit.int .u8 x).wf = true) : 0 ≤ x ∧ x ≤ 255 := by
  simp [Lit.wf, IntKind.min, IntKind.max, IntKind.signed, IntKind.bits] at h
  omega
/-- Whether the sum of one is right. -/
def vdj (b : List Int) : Bool := decide (norm (wsum true [psd b, b].flatten) = 65535)
theorem vdj_ok (b : List Int) (hb : wgb b) : sum_Valid.f [psd b, b] = some (vdj b) :=
  WireSum.validF [psd b, b] (by
    have h1 : byts (psd b) := b_pseu 1 2 (b.length : Int)
    have := b_app h1 hb
    simpa using this)
/-- Adding a right span to a right row. -/
theorem radd_ok (l : List S) (hl : l.length ≤ 1000000) (h : Rw (-1) l) (a b : Int) (hm : mayB a b = true) (k : Nat) (hk : 2 * l.length + 10 ≤ k) : tidewayref06_Add.f k l a b = some (JudgeRow.step l a b, 0) := by
  rw [tidewayref06_Add.f, check_f l hl h k (by omega), Option.bind_some, if_pos rfl, right_f, Option.bind_some, JudgeRow.step, hm, if_pos rfl, if_pos rfl]
  by_cases hc : a = b
  · rw [if_pos hc, if_pos hc, Option.bind_some, if_pos (by rw [List.length_nil]; omega)]; rfl
  · rw [if_neg hc, if_neg hc]
    have h0 : tidewayref06_Add.l0 k l [] false 0 a b = _ := radd_loop l hl l.length 0 (by omega) [] false a b k (Nat.zero_le _) (by omega)
    rw [h0, if_neg (by decide), List.drop_zero, rA_eq l (-1) a b h (mayB_parts hm).2.1]; rfl
theorem sg0_wf (d : List Int) (h : wgb d) : WfS (sg0 d) :=
  have z : u32 0 := ⟨by decide, by decide⟩
  ⟨z, z, z, z, (fun x hx => by cases hx), h⟩
/-- What Put makes of a part: it is valid, and read as the part. -/
theorem part_ok (d : List Int) (hd : wgb d) (hl : d.length ≤ 65000) : ∃ c, sum_Sum.f [pseu 1 2 ((putB (sg0 d)).length : Int), putB (sg0 d)] = some c ∧ wgb (putF c (sg0 d)) ∧ (putF c (sg0 d)).length = 20 + d.length ∧
    ∀ a b : Int, 0 ≤ a → a ≤ 1125899906842624 → seg vdj ⟨putF c (sg0 d), 1, a, b, 0, 0, 0⟩ = some d := by
  obtain ⟨c, h1, h2, h3, h4, h5⟩ := put_all (sg0 d) (sg0_wf d hd) (sg0_chk d hl) 1 2
  refine ⟨c, h1, h3, by rw [h4, sg0_opts]; rfl, fun a b h0 hM => ?_⟩
  have hv : vdj (putF c (sg0 d)) = true := Option.some.inj ((vdj_ok _ h3).symm.trans h2)
  rw [seg]
  dsimp only
  rw [hv, h5, if_pos ⟨rfl, h0, hM⟩]; rfl
/-- What is known of what was sent. -/
structure Sent (t : List Int) (l : List Q) (n : Nat) : Prop where
  len : l.length = n
  cuts : Cuts vdj t l
  byt : ∀ q ∈ l, wgb q.f0
theorem Sent.nil (t : List Int) : Sent t [] 0 := ⟨rfl, (fun q hq => by cases hq), (fun q hq => by cases hq)⟩
theorem Sent.snoc {t : List Int} {l : List Q} {n : Nat} (h : Sent t l n) {q : Q} (h0 : 0 ≤ q.f2 ∧ q.f2 ≤ q.f3 ∧ q.f3 ≤ t.length) (hs : seg vdj q = some (cut t q.f2 q.f3)) (hb : wgb q.f0) : Sent t (l ++ [q]) (n + 1) :=
  ⟨by rw [List.length_append, h.len]; rfl, fun x hx => by
    rcases List.mem_append.1 hx with hx | hx
    · exact h.cuts x hx
    · rw [List.mem_singleton] at hx; subst hx; exact ⟨h0.1, h0.2.1, h0.2.2, hs⟩, fun x hx => by
    rcases List.mem_append.1 hx with hx | hx
    · exact h.byt x hx
    · rw [List.mem_singleton] at hx; subst hx; exact hb⟩
theorem cvl_len (l : List Q) : (cvl l).length ≤ l.length := by
  have : ∀ (l : List Q) (c : List S), (l.foldl (fun c q => JudgeRow.step c q.f2 q.f3) c).length ≤ c.length + l.length := by
    intro l
    induction l with
    | nil => intro c; exact Nat.le_refl _
    | cons q l ih => intro c; have := ih (JudgeRow.step c q.f2 q.f3); have := step_len c q.f2 q.f3; simp only [List.foldl_cons, List.length_cons]; omega
  have := this l []
  unfold cvl
  simpa using this
/-- What the program's Cover answers. -/
theorem cover_f (l : List Q) (hl : l.length ≤ 200) : judge_Cover.f l = some (cvl l) := by
  have : ∀ n, n ≤ l.length → cvs (cv_K l) l n = some (cvl (l.take n)) := by
    intro n
    induction n with
    | zero => intro _; rfl
    | succ n ih =>
      intro h
      have hc := cvl_len (l.take n)
      rw [List.length_take] at hc
      obtain ⟨r, e, h1, h2⟩ := add_f (cvl (l.take n)) (by omega) (cvl_rw _) (l.getD n z39).f2 (l.getD n z39).f3 (cv_K l) (by unfold cv_K; omega)
      have hg : l.getD n z39 = l[n] := by rw [List.getD_eq_getElem?_getD, List.getElem?_eq_getElem (by omega)]; rfl
      rw [cvs, ih (by omega), Option.bind_some, h1, List.take_succ_eq_append_getElem (by omega), cvl_snoc, ← hg, ← h2]
      rfl
  have h := this l.length (Nat.le_refl _)
  rw [List.take_length] at h
  exact h
theorem same_loop (l : List S) (hl : l.length ≤ 1000) (d : Nat) : ∀ i : Nat, i + d = l.length → ∀ k, d + 1 ≤ k → tidewayref06_Same.l0 k l l (i : Int) = some true := by
  induction d with
  | zero =>
    intro i hi k hk
    obtain ⟨k, rfl⟩ : ∃ m, k = m + 1 := ⟨k - 1, by omega⟩
    rw [tidewayref06_Same.l0, if_neg (by omega)]
  | succ d ih =>
    intro i hi k hk
    obtain ⟨k, rfl⟩ : ∃ m, k = m + 1 := ⟨k - 1, by omega⟩
    rw [tidewayref06_Same.l0, if_pos (by omega), if_pos (Int.natCast_nonneg i), if_pos (by omega), JudgeRow.w64n i (by omega), ih (i + 1) (by omega) k (by omega)]
    simp
theorem same_f (l : List S) (hl : l.length ≤ 1000) (k : Nat) (hk : 2000 ≤ k) : tidewayref06_Same.f k l l = some true := by
  rw [tidewayref06_Same.f, if_pos rfl]
  exact same_loop l hl l.length 0 (by omega) k (by omega)
/-- Where a part begins. -/
theorem part_from (p : Int) (n : Nat) (hn : n ≤ 200) : ∃ x : Nat, wrap64 ((IntKind.u64.wrap p).tmod ((n : Int) + 1)) = (x : Int) ∧ x ≤ n := by
  have h0 : 0 ≤ IntKind.u64.wrap p := by
    show 0 ≤ p % (2 ^ 64 : Int)
    omega
  have h1 := Int.tmod_nonneg ((n : Int) + 1) h0
  have h2 := Int.tmod_lt_of_pos (IntKind.u64.wrap p) (show 0 < ((n : Int) + 1) by omega)
  refine ⟨((IntKind.u64.wrap p).tmod ((n : Int) + 1)).toNat, ?_, by omega⟩
  rw [Int.toNat_of_nonneg h1]
  unfold wrap64; omega
/-- Where it ends. -/
theorem part_to (p : Int) (n x : Nat) (hn : n ≤ 200) (hx : x ≤ n) : ∃ y : Nat, min (n : Int) (wrap64 (wrap64 ((x : Int) + wrap64 ((IntKind.u64.wrap p / 1024).tmod 16)) + 1)) = (y : Int) ∧ x ≤ y ∧ y ≤ n := by
  have h0 : 0 ≤ IntKind.u64.wrap p / 1024 := by
    have : 0 ≤ IntKind.u64.wrap p := by
      show 0 ≤ p % (2 ^ 64 : Int)
      omega
    omega
  have h1 := Int.tmod_nonneg 16 h0
  have h2 := Int.tmod_lt_of_pos (IntKind.u64.wrap p / 1024) (show (0 : Int) < 16 by decide)
  generalize (IntKind.u64.wrap p / 1024).tmod 16 = t at h1 h2 ⊢
  rw [JudgeRow.w64 (n := t) (by omega) (by omega), JudgeRow.w64 (n := (x : Int) + t) (by omega) (by omega), JudgeRow.w64 (by omega) (by omega)]
  exact ⟨(min (n : Int) ((x : Int) + t + 1)).toNat, by omega, by omega, by omega⟩
set_option maxRecDepth 100000 in
set_option maxHeartbeats 16000000 in
/-- The law, walked. -/
theorem JudgeCuts_calls (A0 : Option Addr) (c0 : Nat) (l0 : List Int) (A1 : Option Addr) (c1 : Nat) (l1 : List Int) (w : World) (hr0 : Kd.C (Kd.int .u8) w A0 l0.length l0) (hc0 : l0.length ≤ c0) (hr1 : Kd.C (Kd.int .i64) w A1 l1.length l1) (hc1 : l1.length ≤ c1)
    (w0 : (∀ x ∈ l0, (Lit.int .u8 x).wf = true) ∧ l0.length * 1 ≤ 140737488351232 ∧ l0.length ≤ 9223372036854775807) (w1 : (∀ x ∈ l1, (Lit.int .i64 x).wf = true) ∧ l1.length * 8 ≤ 140737488351232 ∧ l1.length ≤ 9223372036854775807) :
    Calls Try.prog 7 #[.slice A0 l0.length c0, .slice A1 l1.length c1] w fun e w' => e = .returned (.bool true) ∧ Below w.heap.size w w' := by
  have HB := Lib.hid (show wgb l0 from fun y hy => wf8_b (w0.1 y hy))
  have HC0 := Lib.hid hr0; have HC1 := Lib.hid hr1
  have hcc := hc0
  have HHD := Lib.hid (fun W : World => tidewaylaw25_heads.calls 40 true W (JudgeFacts.heads 40 (Nat.le_refl _)))
  clear w0 hr0 hr1
  go_enter Try.func7, Try.ntmps7
  by_cases hl : l0.length ≤ 200
  case neg =>
    have h2 : (l0.length : Int) > 200 := by omega
    go_wp2_with (go_at_call 8; refine (HHD.out w).mono ?_; rintro e w1 ⟨rfl, hb⟩)
    go_ret
    exact ⟨rfl, hb⟩
  have h2 : ¬ (l0.length : Int) > 200 := by omega
  by_cases hm : l1.length ≤ 60
  case neg =>
    have h3 : (l1.length : Int) > 60 := by omega
    go_wp2_with (go_at_call 8; refine (HHD.out w).mono ?_; rintro e w1 ⟨rfl, hb⟩)
    go_ret
    exact ⟨rfl, hb⟩
  have h3 : ¬ (l1.length : Int) > 60 := by omega
  go_wp2
  go_loopw [5, 6, 7] (fun v5 v6 v7 wr => ∃ (k : Nat) (l : List Q) (A5 A6 : Option Addr) (c5 c6 : Nat), k ≤ l1.length ∧ v7 = .int .i64 (k : Int) ∧ v5 = .slice A5 l.length c5 ∧ v6 = .slice A6 (cvl l).length c6 ∧ Hid (Kd.R k39 39 wr w.heap.size (fun _ => True) (.slice A5 l.length c5) l) ∧ Hid (Kd.R k57 57 wr w.heap.size (fun _ => True) (.slice A6 (cvl l).length c6) (cvl l)) ∧ Hid (Below w.heap.size w wr) ∧ Hid (Sent l0 l k))
    (fun _ _ v7 _ => l1.length - (intOf v7).toNat)
  case atStart => exact ⟨0, [], none, none, 0, 0, Nat.zero_le _, rfl, rfl, rfl, Lib.hid (Kd.R_nil _ _ _ _ _), Lib.hid (Kd.R_nil _ _ _ _ _), Lib.hid (Below.refl _ _), Lib.hid (Sent.nil l0)⟩
  case round =>
    obtain ⟨k, l, A5, A6, c5, c6, hk, rfl, rfl, rfl, HR, HCV, HBW, HS⟩ := hrel
    by_cases hlt : k < l1.length
    · obtain ⟨ad, hA, hx⟩ := Kd.at_int HC1.out (k : Int) (by omega) (by omega)
      obtain rfl := hA
      have hrdk : l1.getD k 0 = l1[k] := by rw [List.getD_eq_getElem?_getD, List.getElem?_eq_getElem hlt]; rfl
      obtain ⟨p, hp⟩ : ∃ p, l1[k] = p := ⟨_, rfl⟩
      simp only [rd, Int.toNat_natCast, hrdk, hp] at hx
      replace hx := (HBW.out.cell (World.block_lt_of_cell? w _ hx)).trans hx
      clear hrdk hp
      have hlt' : (k : Int) < (l1.length : Int) := by omega
      go_upto_region 9 with (fail)
      obtain ⟨x, hx8, hxl⟩ := part_from p l0.length hl
      rw [hx8]
      clear hx8
      go_upto_region 10 with (fail)
      obtain ⟨y, hy9, hxy, hyl⟩ := part_to p l0.length x hl hxl
      rw [hy9]
      clear hy9
      obtain ⟨u0, hu0, _, hsz, _⟩ := info_parts info5
      have hcut := cut_mid (P := Try.prog) 34 5 .i64 .i64 Try.underlying34 hu0 1 hsz A0 l0.length c0 (x : Int) (y : Int) (by omega) (by omega) (by omega) hcc
      simp only [Int.toNat_natCast, Nat.mul_one] at hcut
      have hrow := Kd.C_drop (m := x) (c := c0) HC0.out hxl hcc
      have hrow2 := Kd.C_take (m := y - x) hrow (by rw [List.length_drop]; omega)
      rw [show x * (Kd.int .u8).sz = x from Nat.mul_one x] at hrow2
      obtain ⟨Ad, hAd⟩ : ∃ a : Option Addr, (if c0 = x then A0 else A0.map (·.add x)) = a := ⟨_, rfl⟩
      rw [hAd] at hcut hrow2
      have hd : (l0.drop x).take (y - x) = cut l0 (x : Int) (y : Int) := by unfold cut; rw [Int.toNat_natCast, show ((y : Int) - (x : Int)).toNat = y - x by omega]
      have hdl := cut_len (t := l0) (a := (x : Int)) (b := (y : Int)) (by omega) (by omega) (by omega)
      have hdb : wgb (cut l0 (x : Int) (y : Int)) := by rw [← hd]; exact fun c hc => HB.out c (List.mem_of_mem_drop (List.mem_of_mem_take hc))
      rw [hd] at hrow2
      obtain ⟨d, hdd⟩ : ∃ d, cut l0 (x : Int) (y : Int) = d := ⟨_, rfl⟩
      rw [hdd] at hrow2 hdl hdb
      rw [show y - x = d.length by omega] at hcut
      obtain ⟨c, hsum, hpb, hpl, hseg⟩ := part_ok d hdb (by omega)
      have HPUT := Lib.hid (fun (W : World) (hB : Below w.heap.size w W) => wp_ok0 (sg0 d) none 0 Ad (c0 - x) 1 2 c W (Kd.C_nil _ _) (Nat.zero_le _) (Kd.C_below hrow2 hB) (by show d.length ≤ c0 - x; omega) (sg0_chk d (by omega)) hsum (ws_check Ad (c0 - x) d (by omega)) (ws_options Ad (c0 - x) d))
      have HSEG := Lib.hid (hseg (x : Int) (y : Int) (by omega) (by omega))
      have HPB := Lib.hid hpb; have HDD := Lib.hid hdd
      clear hu0 hsz hrow hrow2 hd hdl hdb hAd hsum hpb hpl hseg hdd
      have HRL := Lib.hid (Kd.R_lt HR.out)
      have HSL := Lib.hid (show l.length ≤ 60 from by have := HS.out.len; omega)
      have hmay : mayB (x : Int) (y : Int) = true := by
        unfold mayB
        simp only [Bool.and_eq_true, decide_eq_true_eq]
        refine ⟨by omega, by omega, ?_⟩
        show (y : Int) ≤ 1125899906842624
        omega
      have HADD := Lib.hid (radd_ok (cvl l) (by have := cvl_len l; have := HSL.out; omega) (cvl_rw l) (x : Int) (y : Int) hmay 1000 (by have := cvl_len l; have := HSL.out; omega))
      clear hmay
      obtain ⟨b, hb⟩ : ∃ b, putF c (sg0 d) = b := ⟨_, rfl⟩
      rw [hb] at HPUT HSEG HPB
      clear hb
      go_wp2_with (first
        | (go_at_call 25; refine (HPUT.out wr HBW.out).mono ?_; rintro e wa ⟨hba, g, cap, rfl, hRb⟩; have HBA := Lib.hid (below_step HBW.out hba); have HSA := Lib.hid hba.size; have HRA := Lib.hid (Kd.R_below HR.out hba); have HCA := Lib.hid (Kd.R_below HCV.out hba); have HRB := Lib.hid (Kd.R_lower (Kd.R_mono (ok' := fun k => wr.heap.size ≤ k) (Kd.R_bound hRb) (fun k hk => hk.2.1)) HBW.out.size); clear hba hRb)
        | ((with_reducible refine gate_builtin (b := .append) (xs := #[.tmp 66, .tmp 71]) rfl ?_); at_builtin; refine Kd.R_append k39 (w0 := w) w.heap.size rfl (.tmp 66) (.tmp 71) 22 39 (.agg #[(.slice none 0 0), (.int .i64 0), (.int .i64 0), (.int .i64 0), (.int .i64 0), (.int .i64 0), (.int .i64 0)]) 72 rfl Try.underlying22 info39 rfl (by decide) (by decide) (.slice A5 l.length c5) l ⟨b, 1, (x : Int), (y : Int), 0, 0, 0⟩ [.slice (some ⟨g, 0, none⟩) b.length cap, .int .i64 1, .int .i64 (x : Int), .int .i64 (y : Int), .int .i64 0, .int .i64 0, .int .i64 0] (fun _ => True) (fun k => wr.heap.size ≤ k) rfl rfl ?aP ?aK (fun _ _ => trivial) ?aO ?aB ?aS ?aL ?_; (case aP => exact k39_mkM wa w.heap.size _ ⟨b, 1, (x : Int), (y : Int), 0, 0, 0⟩ HRB.out); (case aK => exact fun k hk => ⟨trivial, fun e => by have := HRL.out k e.symm; omega⟩); (case aO => exact HRA.out); (case aB => exact HBA.out); (case aS => exact HBA.out.size); (case aL => have := HSL.out; omega); intro v1 w1 hR1 hB1 hg1 hat1; obtain ⟨A51, c51, rfl⟩ := Kd.R_slice hR1; have HR1 := Lib.hid hR1; have HB1 := Lib.hid hB1; have HC1' := Lib.hid (Kd.R_over HCA.out HRA.out (by decide) hg1); clear hR1 hB1 hg1 hat1)
        | (go_at_call 26; refine (tidewayref06_Add.calls 1000 A6 c6 (cvl l) (x : Int) (y : Int) _ _ w1 (Kd.R_reads' HC1'.out).2.2 (Kd.R_reads' HC1'.out).2.1 HADD.out).mono ?_; rintro e w2 ⟨v2, rfl, hR2, hb2⟩; obtain ⟨A62, c62, rfl⟩ := Kd.R_slice hR2; have HR2 := Lib.hid (Kd.R_lower hR2 HB1.out.size); have HB2 := Lib.hid (below_step HB1.out hb2); have HR12 := Lib.hid (Kd.R_below HR1.out hb2); clear hR2 hb2))
      go_roundw
      case rel =>
        have hcs := cvl_snoc l ⟨b, 1, (x : Int), (y : Int), 0, 0, 0⟩
        refine ⟨k + 1, l ++ [⟨b, 1, (x : Int), (y : Int), 0, 0, 0⟩], A51, A62, c51, c62, hlt, by first | rfl | (simp; done), by first | rfl | (simp; done), ?_, HR12, ?_, HB2, Lib.hid (HS.out.snoc ⟨by show 0 ≤ (x : Int); omega, by show (x : Int) ≤ (y : Int); omega, by show (y : Int) ≤ (l0.length : Int); omega⟩ ?_ HPB.out)⟩
        · rw [hcs]
        · rw [hcs]; exact HR2
        · rw [HDD.out]; exact HSEG.out
      case measure => simp [intOf]; omega
    · obtain rfl : k = l1.length := by omega
      obtain ⟨hT, hTb⟩ := cuts_told vdj l0 (by omega) l HS.out.cuts
      have hcl := cvl_len l
      have hll := HS.out.len
      have KJ := Lib.hid (jb_calls A5 c5 l vdj wr (Kd.R_reads' HR.out).2.2 (by omega) HS.out.byt (fun q hq => vdj_ok q.f0 (HS.out.byt q hq)))
      rw [hT] at KJ
      have KC := Lib.hid (fun (W : World) (hW : Below wr.heap.size wr W) => judge_Cover.calls A5 c5 l (cvl l) W (Kd.C_below (Kd.R_reads' HR.out).2.2 hW) (Kd.R_reads' HR.out).2.1 (cover_f l (by omega)))
      have KS := Lib.hid (same_f (cvl l) (by omega) 2000 (Nat.le_refl _))
      have HCL := Lib.hid (Kd.R_reads' HCV.out).2.1
      have HCC := Lib.hid (Kd.R_reads' HCV.out).2.2
      obtain ⟨cv, hcv⟩ : ∃ cv, cvl l = cv := ⟨_, rfl⟩
      have hcn : cv.length ≤ 60 := by rw [← hcv]; omega
      rw [hcv] at KJ KC KS HCL HCC hTb ⊢
      obtain ⟨pcs, hp⟩ : ∃ pcs, (cv.map fun s => (⟨s.f0, cut l0 s.f0 s.f1⟩ : P)) = pcs := ⟨_, rfl⟩
      have hpl : pcs.length = cv.length := by rw [← hp, List.length_map]
      have hpa : ∀ (i : Nat) (h : i < cv.length), rd_T59 pcs (i : Int) = ⟨cv[i].f0, cut l0 cv[i].f0 cv[i].f1⟩ ∧ rd_T57 cv (i : Int) = cv[i] := fun i h => by
        rw [rd_T59, rd_T57, Int.toNat_natCast, List.getD_eq_getElem?_getD, List.getD_eq_getElem?_getD, List.getElem?_eq_getElem h, ← hp, List.getElem?_map, List.getElem?_eq_getElem h]; exact ⟨rfl, rfl⟩
      rw [hp] at KJ
      have HPL := Lib.hid hpl; have HPA := Lib.hid hpa; have HTB := Lib.hid hTb
      clear hT hcl hll hcv hp hpl hpa hTb hlt HS HR HCV
      go_wp2_with (first
        | (go_at_call 22; refine KJ.out.mono ?_; rintro e wa ⟨v, rfl, hS, hba⟩; obtain ⟨A2, c2, hv, hle2, hC2⟩ := Kd.S_reads hS; rw [HPL.out] at hv hle2 hC2; subst hv; have HBA := Lib.hid (below_step HBW.out hba); have HBR := Lib.hid hba; have HC2 := Lib.hid hC2; have HCCa := Lib.hid (Kd.C_below HCC.out hba); clear hS hba hle2 hC2)
        | (go_at_call 12; refine (KC.out wa HBR.out).mono ?_; rintro e wb ⟨v, rfl, hR7, hbb⟩; obtain ⟨A7, c7, rfl⟩ := Kd.R_slice hR7; have HC7 := Lib.hid (Kd.R_reads' hR7).2.2; have HL7 := Lib.hid (Kd.R_reads' hR7).2.1; have HBB := Lib.hid (below_step HBA.out hbb); have HC2b := Lib.hid (Kd.C_below HC2.out hbb); have HCCb := Lib.hid (Kd.C_below HCCa.out hbb); clear hR7 hbb)
        | (go_at_call 11; refine (tidewayref06_Same.calls 2000 A7 c7 cv A6 c6 cv true wb HC7.out HL7.out HCCb.out HCL.out KS.out).mono ?_; rintro e wc ⟨rfl, ⟨nd, rfl⟩⟩))
      have HBD := Lib.hid (pw_below_drewN HBB.out nd)
      have HP0 := Lib.hid (Kd.C_drewN HC2b.out nd)
      have HV0 := Lib.hid (Kd.C_drewN HCCb.out nd)
      generalize wb.drewN nd = wd at HBD HP0 HV0 ⊢
      go_loopw [14] (fun v14 wr => ∃ i : Nat, i ≤ cv.length ∧ v14 = .int .i64 (i : Int) ∧ Hid (Below wd.heap.size wd wr)) (fun v14 _ => cv.length - (intOf v14).toNat)
      case atStart => exact ⟨0, Nat.zero_le _, rfl, Lib.hid (Below.refl _ _)⟩
      case round =>
        obtain ⟨i, hi, rfl, HBI⟩ := hrel
        by_cases hil : i < cv.length
        · obtain ⟨ad2, Ap, cp, had2, hp0, hp1, hple, hpC⟩ := at_T59 HP0.out (i : Int) (by omega) (by omega)
          obtain ⟨ad6, had6, hs0, hs1⟩ := at_T57 HV0.out (i : Int) (by omega) (by omega)
          obtain rfl := had2
          obtain rfl := had6
          obtain ⟨ha1, ha2⟩ := HPA.out i hil
          have htb := HTB.out cv[i] (List.getElem_mem hil)
          rw [Int.toNat_natCast] at hp0 hp1 hs0 hs1
          rw [ha1] at hp0 hp1 hple hpC
          rw [ha2] at hs0 hs1
          obtain ⟨sp, hsp⟩ : ∃ sp, cv[i] = sp := ⟨_, rfl⟩
          rw [hsp] at hp0 hp1 hple hpC hs0 hs1 htb
          dsimp only at hp0 hp1 hple hpC
          obtain ⟨⟨a, b⟩, rfl⟩ : ∃ t : Nat × Nat, sp = ⟨(t.1 : Int), (t.2 : Int)⟩ := ⟨(sp.f0.toNat, sp.f1.toNat), by cases sp; simp only at htb ⊢; congr 1 <;> omega⟩
          dsimp only at hp0 hp1 hple hpC hs0 hs1 htb
          have hdl := cut_len (t := l0) (a := (a : Int)) (b := (b : Int)) (by omega) (by omega) (by omega)
          have hd : (l0.drop a).take (b - a) = cut l0 (a : Int) (b : Int) := by unfold cut; rw [Int.toNat_natCast, show ((b : Int) - (a : Int)).toNat = b - a by omega]
          obtain ⟨u0, hu0, _, hsz, _⟩ := info_parts info5
          have hcut := cut_mid (P := Try.prog) 34 5 .i64 .i64 Try.underlying34 hu0 1 hsz A0 l0.length c0 (a : Int) (b : Int) (by omega) (by omega) (by omega) hcc
          simp only [Int.toNat_natCast, Nat.mul_one] at hcut
          have hrow := Kd.C_drop (m := a) (c := c0) HC0.out (by omega) hcc
          have hrow2 := Kd.C_take (m := b - a) hrow (by rw [List.length_drop]; omega)
          rw [show a * (Kd.int .u8).sz = a from Nat.mul_one a] at hrow2
          obtain ⟨Ad, hAd⟩ : ∃ t : Option Addr, (if c0 = a then A0 else A0.map (·.add a)) = t := ⟨_, rfl⟩
          rw [hAd] at hcut hrow2
          rw [hd] at hrow2
          obtain ⟨d, hdd⟩ : ∃ d, cut l0 (a : Int) (b : Int) = d := ⟨_, rfl⟩
          rw [hdd] at hrow2 hdl hp1 hple hpC
          rw [show b - a = d.length by omega] at hcut
          have hBw := below_step HBD.out HBI.out
          replace hp0 := (HBI.out.cell (World.block_lt_of_cell? wd _ hp0)).trans hp0
          replace hp1 := (HBI.out.cell (World.block_lt_of_cell? wd _ hp1)).trans hp1
          replace hs0 := (HBI.out.cell (World.block_lt_of_cell? wd _ hs0)).trans hs0
          replace hs1 := (HBI.out.cell (World.block_lt_of_cell? wd _ hs1)).trans hs1
          have hcv1 := fun n_ => Kd.C_string (P := Try.prog) (A := Ap) (c := cp) Try.underlying34 Try.underlying5 Try.underlying9 (Kd.C_drewN (Kd.C_below hpC HBI.out) n_)
          have hcv2 := fun n_ => Kd.C_string (P := Try.prog) (A := Ad) (c := c0 - a) Try.underlying34 Try.underlying5 Try.underlying9 (Kd.C_drewN (Kd.C_below hrow2 hBw) n_)
          have hil' : (i : Int) < (cv.length : Int) := by omega
          clear hu0 hsz hrow hrow2 hd hdl hAd hdd ha1 ha2 htb hsp hpC hple hBw
          go_wp2
          go_quiet (fail)
          go_wp2
          go_roundw
          case rel => exact ⟨i + 1, hil, by first | rfl | (simp; done), Lib.hid (pw_below_drewN HBI.out _)⟩
          case measure => simp [intOf]; omega
        · obtain rfl : i = cv.length := by omega
          go_wp2_with (go_at_call 8; refine (HHD.out _).mono ?_; rintro e w4 ⟨rfl, hb4⟩)
          go_ret
          exact ⟨rfl, below_step (below_step HBD.out HBI.out) hb4⟩
end Go.Proofs.Ytflmfbcapccdeaa.Pure

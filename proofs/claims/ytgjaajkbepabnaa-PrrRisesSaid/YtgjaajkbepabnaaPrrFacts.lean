/- What a recovery's calls answer, in plain words. -/
import Derived.Test.YtgjaajkbepabnaaPAx5
import Derived.Test.YtgjaajkbepabnaaPAx6
set_option linter.unusedVariables false
set_option linter.unusedSimpArgs false
set_option autoImplicit false
namespace Go.Proofs.Ytgjaajkbepabnaa.PrrFacts
open Go.RowKit Go.Proofs.Ytgjaajkbepabnaa.PA Go.Proofs.YtgjaajkbepabnaaW.PrintWords Go.Proofs.YtgjaajkbepabnaaW.PrintMore
theorem wf64 {c : Int} (h : (Lit.int .i64 c).wf = true) : -9223372036854775808 ≤ c ∧ c ≤ 9223372036854775807 := by simpa [Lit.wf, IntKind.min, IntKind.max, IntKind.signed, IntKind.bits] using h
theorem w64 {n : Int} (h0 : -9223372036854775808 ≤ n) (h1 : n ≤ 9223372036854775807) : wrap64 n = n := by unfold wrap64; omega
theorem up_ {α : Type} {f : Nat → Option α} (hm : ∀ k, LeO (f k) (f (k + 1))) {k0 : Nat} {r : α} (h : f k0 = some r) : ∀ k, k0 ≤ k → f k = some r := by
  intro k hk
  induction k with
  | zero => rw [← h]; congr 1; omega
  | succ k ih =>
    by_cases e : k0 = k + 1
    · rw [← e]; exact h
    · exact hm k r (ih (by omega))
theorem heads (k : Nat) (hk : 10 ≤ k) : tidewaylaw14_heads.f k = some true := by
  refine up_ (f := fun k => tidewaylaw14_heads.f k) tidewaylaw14_heads.mono (k0 := 10) ?_ k hk
  kernel_rfl
theorem mxs (a b : Int) : a ≤ mx a b ∧ b ≤ mx a b ∧ (mx a b = a ∨ mx a b = b) := by unfold mx; split <;> omega
theorem mns (a b : Int) : mn a b ≤ a ∧ mn a b ≤ b ∧ (mn a b = a ∨ mn a b = b) := by unfold mn; split <;> omega
def Ok (g o f : Int) : Prop := (0 ≤ g ∧ g ≤ 1125899906842624) ∧ (0 ≤ o ∧ o ≤ 1125899906842624) ∧ 1 ≤ f ∧ f ≤ 1073741824
def Sz (n : Int) : Prop := 0 ≤ n ∧ n ≤ 1073741824
def Args (n pipe ss mss : Int) : Prop := Sz n ∧ Sz pipe ∧ Sz ss ∧ 1 ≤ mss ∧ mss ≤ 65000
theorem check_ok {g o f : Int} (h : Ok g o f) : prr_Check.f g o f = some 0 := by
  obtain ⟨⟨a, b⟩, ⟨c, d⟩, e, q⟩ := h
  have e1 : g = mn (mx g 0) 1125899906842624 := by have := mxs g 0; have := mns (mx g 0) 1125899906842624; omega
  have e2 : o = mn (mx o 0) 1125899906842624 := by have := mxs o 0; have := mns (mx o 0) 1125899906842624; omega
  have e3 : f = mn (mx f 1) 1073741824 := by have := mxs f 1; have := mns (mx f 1) 1073741824; omega
  unfold prr_Check.f
  rw [← e1, ← e2, ← e3]
  simp
theorem check_no {g o f : Int} (h : ¬ Ok g o f) : prr_Check.f g o f = some 230 := by
  unfold prr_Check.f
  rw [if_pos]
  simp only [Bool.or_eq_true, Bool.not_eq_true', beq_eq_false_iff_ne, ne_eq]
  refine Classical.byContradiction fun hc => h ?_
  simp only [not_or, Classical.not_not] at hc
  obtain ⟨e1, e2, e3⟩ := hc
  have := mxs g 0; have := mns (mx g 0) 1125899906842624
  have := mxs o 0; have := mns (mx o 0) 1125899906842624
  have := mxs f 1; have := mns (mx f 1) 1073741824
  refine ⟨⟨?_, ?_⟩, ⟨?_, ?_⟩, ?_, ?_⟩ <;> omega
theorem size_f (n : Int) : prr_size.f n = some (decide (0 ≤ n ∧ n ≤ 1073741824)) := by
  unfold prr_size.f
  by_cases h : n ≥ 0
  · rw [if_pos h]; simp; omega
  · rw [if_neg h]; simp; omega
theorem size_ok {n : Int} (h : Sz n) : prr_size.f n = some true := by rw [size_f, decide_eq_true (show 0 ≤ n ∧ n ≤ 1073741824 from h)]
theorem size_no {n : Int} (h : ¬ Sz n) : prr_size.f n = some false := by rw [size_f, decide_eq_false (show ¬ (0 ≤ n ∧ n ≤ 1073741824) from h)]
theorem given_state {g o f : Int} (h : ¬ Ok g o f) (k : Nat) (n pipe ss mss : Int) (safe : Bool) : prr_Given.f k g o f n pipe ss mss safe = some (0, 0, 0, 0, 230) := by
  rw [prr_Given.f, check_no h]; rfl
theorem given_j0 (k : Nat) (n pipe ss mss : Int) (safe : Bool) (g o f : Int) : prr_Given.j0 (k + 1) n pipe ss mss safe true g o f = some (0, 0, 0, 0, 2) := by rw [prr_Given.j0, if_pos rfl]
theorem given_arg {g o f : Int} (h : Ok g o f) (k : Nat) {n pipe ss mss : Int} (ha : ¬ Args n pipe ss mss) (safe : Bool) : prr_Given.f (k + 1) g o f n pipe ss mss safe = some (0, 0, 0, 0, 2) := by
  rw [prr_Given.f, check_ok h]
  simp only [Option.bind_some, if_true]
  by_cases h1 : Sz n
  · rw [size_ok h1]
    simp only [Option.bind_some, if_true]
    by_cases h2 : Sz pipe
    · rw [size_ok h2]
      simp only [Option.bind_some, if_true]
      by_cases h3 : Sz ss
      · rw [size_ok h3]
        simp only [Option.bind_some, if_true]
        by_cases h4 : mss < 1
        · rw [if_pos h4, given_j0]
        · rw [if_neg h4]
          have h5 : mss > 65000 := by
            refine Int.not_le.mp fun h5 => ha ⟨h1, h2, h3, by omega, h5⟩
          rw [decide_eq_true h5, given_j0]
      · rw [size_no h3]; simp only [Option.bind_some]; rw [if_neg (by simp), given_j0]
    · rw [size_no h2]; simp only [Option.bind_some]; rw [if_neg (by simp), given_j0]
  · rw [size_no h1]; simp only [Option.bind_some]; rw [if_neg (by simp), given_j0]
theorem given_in {g o f : Int} (h : Ok g o f) (k : Nat) {n pipe ss mss : Int} (ha : Args n pipe ss mss) (safe : Bool) : prr_Given.f (k + 1) g o f n pipe ss mss safe = prr_Given.j0 (k + 1) n pipe ss mss safe false g o f := by
  obtain ⟨h1, h2, h3, h4, h5⟩ := ha
  rw [prr_Given.f, check_ok h, size_ok h1, size_ok h2, size_ok h3]
  simp only [Option.bind_some, if_true]
  rw [if_neg (by omega), decide_eq_false (by omega)]
/-- a share, upwards -/
def cd (a b c : Int) : Int := (a * b + (c - 1)) / c
def least (o mss : Int) : Int := if o = 0 then mss else 0
def topup (safe : Bool) (mss : Int) : Int := if safe = true then mss else 0
theorem given_more {g o f : Int} (h : Ok g o f) (k : Nat) {n pipe ss mss : Int} (ha : Args n pipe ss mss) (safe : Bool) (hp : pipe > ss) :
    prr_Given.f (k + 1) g o f n pipe ss mss safe = some (mn 1125899906842624 (g + n), o, f, mx (mn (cd (mn 1125899906842624 (g + n)) ss f) 9223372036854775807 - o) (least o mss), 0) := by
  rw [given_in h k ha safe, prr_Given.j0, if_neg (by simp), if_pos hp]
  obtain ⟨⟨a, b⟩, ⟨c, d⟩, e, q⟩ := h
  obtain ⟨⟨h1, h1'⟩, ⟨h2, h2'⟩, ⟨h3, h3'⟩, h4, h5⟩ := ha
  rw [w64 (n := g + n) (by omega) (by omega)]
  obtain ⟨G, hG⟩ : ∃ G, mn 1125899906842624 (g + n) = G := ⟨_, rfl⟩
  have hg := mns 1125899906842624 (g + n)
  rw [hG] at hg ⊢
  rw [prr_share.f, if_pos ⟨by omega, by omega, by omega, by omega, by omega, by omega⟩]
  simp only [Option.bind_some]
  have hc : 0 ≤ cd G ss f := Int.ediv_nonneg (by have := Int.mul_nonneg (a := G) (b := ss) (by omega) (by omega); omega) (by omega)
  have hm := mns (cd G ss f) 9223372036854775807
  rw [show (G * ss + (f - 1)) / f = cd G ss f from rfl, w64 (n := mn (cd G ss f) 9223372036854775807 - o) (by omega) (by omega)]
  unfold least
  split <;> rfl
theorem given_less {g o f : Int} (h : Ok g o f) (k : Nat) {n pipe ss mss : Int} (ha : Args n pipe ss mss) (safe : Bool) (hp : ¬ pipe > ss) :
    prr_Given.f (k + 1) g o f n pipe ss mss safe = some (mn 1125899906842624 (g + n), o, f, mx (mn (mx n (mn 1125899906842624 (g + n) - o) + topup safe mss) (ss - pipe)) (least o mss), 0) := by
  rw [given_in h k ha safe, prr_Given.j0, if_neg (by simp), if_neg hp]
  obtain ⟨⟨a, b⟩, ⟨c, d⟩, e, q⟩ := h
  obtain ⟨⟨h1, h1'⟩, ⟨h2, h2'⟩, ⟨h3, h3'⟩, h4, h5⟩ := ha
  rw [w64 (n := g + n) (by omega) (by omega)]
  obtain ⟨G, hG⟩ : ∃ G, mn 1125899906842624 (g + n) = G := ⟨_, rfl⟩
  have hg := mns 1125899906842624 (g + n)
  rw [hG] at hg ⊢
  have hm := mxs n (G - o)
  rw [w64 (n := G - o) (by omega) (by omega), w64 (n := ss - pipe) (by omega) (by omega), w64 (n := mx n (G - o) + mss) (by omega) (by omega)]
  unfold least topup
  cases safe
  · simp only [Bool.false_eq_true, if_false, Int.add_zero]; split <;> rfl
  · simp only [if_true]; split <;> rfl
theorem sent_ok {g o f n : Int} (h : Ok g o f) (hn : Sz n) : prr_Sent.f g o f n = some (g, mn 1125899906842624 (o + n), f, 0) := by
  obtain ⟨⟨a, b⟩, ⟨c, d⟩, e, q⟩ := h
  obtain ⟨h1, h2⟩ := hn
  rw [prr_Sent.f, check_ok ⟨⟨a, b⟩, ⟨c, d⟩, e, q⟩, size_ok ⟨h1, h2⟩]
  simp only [Option.bind_some, if_true]
  rw [w64 (n := o + n) (by omega) (by omega)]
theorem cd_mono {a a' b c : Int} (hb : 0 ≤ b) (hc : 1 ≤ c) (h : a ≤ a') : cd a b c ≤ cd a' b c := by
  unfold cd
  have := Int.mul_le_mul_of_nonneg_right h hb
  exact Int.ediv_le_ediv (by omega) (by omega)
theorem cd_le {a b c : Int} (ha : 0 ≤ a) (hb : b ≤ c) (hc : 1 ≤ c) : cd a b c ≤ a := by
  unfold cd
  have h1 : a * b ≤ a * c := Int.mul_le_mul_of_nonneg_left hb ha
  refine Int.lt_add_one_iff.mp (Int.ediv_lt_of_lt_mul (by omega) ?_)
  rw [Int.add_mul, Int.one_mul]
  omega
theorem cd_nonneg {a b c : Int} (ha : 0 ≤ a) (hb : 0 ≤ b) (hc : 1 ≤ c) : 0 ≤ cd a b c := by
  unfold cd
  have := Int.mul_nonneg ha hb
  exact Int.ediv_nonneg (by omega) (by omega)
end Go.Proofs.Ytgjaajkbepabnaa.PrrFacts

/- Datagrams grow older as time passes, by just that time. -/
import Derived.Test.YtpmiiokoialbmaaNetFacts
set_option linter.unusedVariables false
set_option linter.unusedSimpArgs false
set_option autoImplicit false
namespace Go.Proofs.Ytpmiiokoialbmaa.Pure
open Go.RowKit Go.Proofs.Ytpmiiokoialbmaa.PA Go.Proofs.YtpmiiokoialbmaaW.PrintWords Go.Proofs.Ytpmiiokoialbmaa.NetFacts
/-- Behind the guards an age is a difference. -/
theorem step_eq (now acc : Int) (x : D) (h0 : 0 ≤ x.f1) (h1 : x.f1 ≤ now) (hn : now ≤ 2199023255552) (ha : 0 ≤ acc) : ostep now acc x = mx acc (now - x.f1) := by
  unfold ostep mx
  have e : wrap64 (now - x.f1) = now - x.f1 := by unfold wrap64; omega
  rw [e]
  by_cases h : x.f1 < now
  · rw [if_pos h, if_neg (show ¬ (now - x.f1 < 0) by omega)]
  · rw [if_neg h]
    split <;> omega
theorem mx_ge (a b : Int) : a ≤ mx a b ∧ b ≤ mx a b := by unfold mx; split <;> omega
theorem mx_add (a b m : Int) : mx (a + m) (b + m) = mx a b + m := by unfold mx; split <;> split <;> omega
theorem fold_ages (now more : Int) (hm : 0 ≤ more) (h1 : now ≤ 1099511627776) (h2 : more ≤ 1099511627776) : ∀ (l : List D) (acc : Int), 0 ≤ acc → (∀ x ∈ l, 0 ≤ x.f1 ∧ x.f1 ≤ now) → l.foldl (ostep (now + more)) (acc + more) = l.foldl (ostep now) acc + more := by
  intro l
  induction l with
  | nil => intro acc _ _; rfl
  | cons x l ih =>
    intro acc ha hx
    have hx0 := hx x List.mem_cons_self
    rw [List.foldl_cons, List.foldl_cons, step_eq (now + more) _ x hx0.1 (by omega) (by omega) (by omega), step_eq now acc x hx0.1 hx0.2 (by omega) ha,
      show now + more - x.f1 = (now - x.f1) + more by omega, mx_add]
    exact ih _ (by have := mx_ge acc (now - x.f1); omega) (fun y hy => hx y (List.mem_cons_of_mem _ hy))
theorem ages (now more : Int) (hm : 0 ≤ more) (h0 : 0 ≤ now) (h1 : now ≤ 1099511627776) (h2 : more ≤ 1099511627776) (l : List D) (hl : l ≠ []) (hx : ∀ x ∈ l, 0 ≤ x.f1 ∧ x.f1 ≤ now) : l.foldl (ostep (now + more)) 0 = l.foldl (ostep now) 0 + more := by
  cases l with
  | nil => exact absurd rfl hl
  | cons x l =>
    have hx0 := hx x List.mem_cons_self
    rw [List.foldl_cons, List.foldl_cons, step_eq (now + more) 0 x hx0.1 (by omega) (by omega) (by omega), step_eq now 0 x hx0.1 hx0.2 (by omega) (by omega)]
    have e1 : mx 0 (now - x.f1) = now - x.f1 := by unfold mx; split <;> omega
    have e2 : mx 0 (now + more - x.f1) = (now - x.f1) + more := by unfold mx; split <;> omega
    rw [e1, e2]
    exact fold_ages now more hm h1 h2 l _ (by omega) (fun y hy => hx y (List.mem_cons_of_mem _ hy))
theorem ages_hi (now : Int) (h0 : 0 ≤ now) (h1 : now ≤ 1099511627776) : ∀ (l : List D) (acc : Int), 0 ≤ acc → acc ≤ now → (∀ x ∈ l, 0 ≤ x.f1 ∧ x.f1 ≤ now) → 0 ≤ l.foldl (ostep now) acc ∧ l.foldl (ostep now) acc ≤ now := by
  intro l
  induction l with
  | nil => intro acc h0 h1 _; exact ⟨h0, h1⟩
  | cons x l ih =>
    intro acc ha hb hx
    have hx0 := hx x List.mem_cons_self
    rw [List.foldl_cons, step_eq now acc x hx0.1 hx0.2 (by omega) ha]
    exact ih _ (by have := mx_ge acc (now - x.f1); omega) (by unfold mx; split <;> omega) (fun y hy => hx y (List.mem_cons_of_mem _ hy))
theorem ages_loop (l : List D) (now more : Int) (hl : l.length ≤ 9223372036854775807) (h0 : 0 ≤ now) (hm : 0 ≤ more) (h1 : now ≤ 1099511627776) (h2 : more ≤ 1099511627776) : ∀ (d i k : Nat), l.length - i = d → i ≤ l.length → d + 2 * l.length + 20 < k →
    (∀ x ∈ l.take i, 0 ≤ x.f1 ∧ x.f1 ≤ now) → tidewaylaw05_NetAges.l0 k l now more i = some true := by
  intro d
  induction d with
  | zero =>
    intro i k hd hi hk hx
    obtain ⟨k, rfl⟩ : ∃ m, k = m + 1 := ⟨k - 1, by omega⟩
    rw [List.take_of_length_le (by omega)] at hx
    have e : wrap64 (now + more) = now + more := by unfold wrap64; omega
    rw [tidewaylaw05_NetAges.l0, if_neg (by omega), oldest l now hl _ (by omega), e, oldest l (now + more) hl _ (by omega), heads _ (by omega)]
    simp only [Option.bind_some]
    by_cases hn : l = []
    · subst hn; simp
    · have hpos : 0 < l.length := List.length_pos_iff.2 hn
      have hb := ages_hi now h0 h1 l 0 (Int.le_refl _) h0 hx
      rw [ages now more hm h0 h1 h2 l hn hx, if_neg (by omega), if_pos (by omega), if_pos (by unfold wrap64; omega)]
  | succ d ih =>
    intro i k hd hi hk hx
    obtain ⟨k, rfl⟩ : ∃ m, k = m + 1 := ⟨k - 1, by omega⟩
    have hlt : i < l.length := by omega
    rw [tidewaylaw05_NetAges.l0, if_pos (by omega), if_pos (by omega), rd hlt, heads _ (by omega), w64s (by omega)]
    simp only [Option.bind_some]
    by_cases c1 : l[i].f1 < 0
    · rw [if_pos c1]
    · rw [if_neg c1]
      by_cases c2 : l[i].f1 > now
      · rw [if_pos c2]
      · rw [if_neg c2]
        refine ih (i + 1) k (by omega) (by omega) (by omega) fun x hxm => ?_
        rw [List.take_succ_eq_append_getElem hlt, List.mem_append, List.mem_singleton] at hxm
        rcases hxm with hxm | rfl
        · exact hx x hxm
        · omega
theorem NetAges (l0 : List S26) (a1 a2 : Int) (w0 : Wf l0) (w1 : (Lit.int .i64 a1).wf = true) (w2 : (Lit.int .i64 a2).wf = true) : ∃ k, tidewaylaw05_NetAges.f k l0 a1 a2 = some true := by
  have hl := w0.2.2
  refine ⟨3 * l0.length + 30, ?_⟩
  have ht : tidewaylaw05_NetAges.j0 (3 * l0.length + 30) l0 a1 a2 true = some true := by
    rw [tidewaylaw05_NetAges.j0, if_pos rfl, heads _ (by omega)]; rfl
  rw [tidewaylaw05_NetAges.f]
  by_cases c1 : a1 < 0
  · rw [if_pos c1, ht]
  by_cases c2 : a2 < 0
  · rw [if_neg c1, if_pos c2, ht]
  by_cases c3 : a1 > 1099511627776
  · rw [if_neg c1, if_neg c2, if_pos c3, ht]
  rw [if_neg c1, if_neg c2, if_neg c3]
  by_cases c4 : a2 > 1099511627776
  · rw [decide_eq_true c4, ht]
  rw [decide_eq_false c4, tidewaylaw05_NetAges.j0, if_neg (by simp)]
  exact ages_loop l0 a1 a2 hl (by omega) (by omega) (by omega) (by omega) l0.length 0 _ (by omega) (by omega) (by omega) (by simp)
end Go.Proofs.Ytpmiiokoialbmaa.Pure

/- A bit turned twice is as it was; once, it is not. -/
import Derived.Test.YtpmiiokoialbmaaNetDFacts
import Derived.Lib.Bytes
set_option linter.unusedVariables false
set_option linter.unusedSimpArgs false
set_option autoImplicit false
namespace Go.Proofs.Ytpmiiokoialbmaa.NetTFacts
open Go.RowKit Go.Proofs.Ytpmiiokoialbmaa.PD Go.Proofs.YtpmiiokoialbmaaW.PrintWords Go.Proofs.YtpmiiokoialbmaaW.PrintMore Go.Proofs.Ytpmiiokoialbmaa.NetDFacts
/-- One bit of a byte turned: another byte; twice: the same. -/
theorem xor_all : ∀ x : Fin 256, ∀ r : Fin 8, Go.bits .xor .u8 (x.val : Int) (shl .u8 1 (r.val : Int)) ≠ (x.val : Int) ∧ 0 ≤ Go.bits .xor .u8 (x.val : Int) (shl .u8 1 (r.val : Int)) ∧ Go.bits .xor .u8 (x.val : Int) (shl .u8 1 (r.val : Int)) ≤ 255 ∧
    Go.bits .xor .u8 (Go.bits .xor .u8 (x.val : Int) (shl .u8 1 (r.val : Int))) (shl .u8 1 (r.val : Int)) = (x.val : Int) := by decide +kernel
theorem xor_at (x r : Int) (h0 : 0 ≤ x) (h1 : x ≤ 255) (h2 : 0 ≤ r) (h3 : r < 8) : Go.bits .xor .u8 x (shl .u8 1 r) ≠ x ∧ 0 ≤ Go.bits .xor .u8 x (shl .u8 1 r) ∧ Go.bits .xor .u8 x (shl .u8 1 r) ≤ 255 ∧ Go.bits .xor .u8 (Go.bits .xor .u8 x (shl .u8 1 r)) (shl .u8 1 r) = x := by
  obtain ⟨x, rfl⟩ := Int.eq_ofNat_of_zero_le h0
  obtain ⟨r, rfl⟩ := Int.eq_ofNat_of_zero_le h2
  exact xor_all ⟨x, by omega⟩ ⟨r, by omega⟩
theorem wf8 {c : Int} (h : (Lit.int .u8 c).wf = true) : 0 ≤ c ∧ c ≤ 255 := by simpa [Lit.wf, IntKind.min, IntKind.max, IntKind.signed, IntKind.bits] using h
/-- Rows of bytes that differ at a place are not the same. -/
theorem same_no (a b : List Int) (i : Nat) (ha : i < a.length) (hb : i < b.length) (h0 : 0 ≤ a[i] ∧ a[i] ≤ 255) (h1 : 0 ≤ b[i] ∧ b[i] ≤ 255) (hne : a[i] ≠ b[i]) : tidewayref02_Same.f a b = some false := by
  rw [tidewayref02_Same.f]
  congr 1
  rw [beq_eq_false_iff_ne]
  intro h
  rw [Lib.strOfNums_toList, Lib.strOfNums_toList] at h
  have h2 := congrArg (fun l => l[i]?) h
  simp only [Lib.bytesOf, List.getElem?_map, List.getElem?_eq_getElem ha, List.getElem?_eq_getElem hb, Option.map_some, Option.some.injEq] at h2
  have h3 := congrArg UInt8.toNat h2
  simp only [UInt8.toNat_ofNat'] at h3
  omega
theorem same_differs (m l : List D) (hml : m.length = l.length) (hl : l.length < 9223372036854775807) (i : Nat) (hi : i < l.length) (heq : ∀ j (hj : j < l.length), j < i → m[j]'(by omega) = l[j]) (h1 : (m[i]'(by omega)).f1 = l[i].f1) (hs : tidewayref02_Same.f (m[i]'(by omega)).f0 l[i].f0 = some false) :
    ∀ (d j k : Nat), i - j = d → j ≤ i → d + 1 < k → tidewayref05_Same.l0 k m l j = some false := by
  intro d
  induction d with
  | zero =>
    intro j k hd hj hk
    obtain ⟨k, rfl⟩ : ∃ q, k = q + 1 := ⟨k - 1, by omega⟩
    obtain rfl : j = i := by omega
    rw [tidewayref05_Same.l0, if_pos (by omega), if_pos (by omega), if_pos (by omega), rd_ (by omega), rd_ hi, if_pos h1, hs]
    simp
  | succ d ih =>
    intro j k hd hj hk
    obtain ⟨k, rfl⟩ : ∃ q, k = q + 1 := ⟨k - 1, by omega⟩
    have e := heq j (by omega) (by omega)
    rw [tidewayref05_Same.l0, if_pos (by omega), if_pos (by omega), if_pos (by omega), rd_ (l := m) (by omega), rd_ (l := l) (by omega), e, if_pos rfl, same_self, Option.bind_some, if_pos rfl, w64s (by omega)]
    exact ih (j + 1) k (by omega) (by omega) (by omega)
theorem twice (l : List D) (a b : Int) (w : Wf l) (hb : -9223372036854775808 ≤ b ∧ b ≤ 9223372036854775807) : ∃ m e, net_Spoil.f l a b = some (m, e) ∧ (e = 0 → net_Spoil.f m a b = some (l, 0) ∧ m.length = l.length ∧ tidewayref05_Same.f (l.length + 20) m l = some false) := by
  have hl := lim w
  have hll := w.2.1
  rw [net_Spoil.f, if_pos hl]
  by_cases h : 0 ≤ a ∧ a < (l.length : Int)
  · obtain ⟨i, rfl⟩ : ∃ i : Nat, a = i := ⟨a.toNat, by omega⟩
    have hi : i < l.length := by omega
    rw [if_pos h, rd_ hi]
    by_cases h1 : 0 ≤ b ∧ b < 8 * (l[i].f0.length : Int)
    · rw [if_pos h1, Int.toNat_natCast]
      obtain ⟨q, hq⟩ : ∃ q : Nat, b / 8 = (q : Int) := ⟨(b / 8).toNat, by omega⟩
      have hql : q < l[i].f0.length := by omega
      rw [hq, Int.toNat_natCast]
      have hr : rd l[i].f0 (q : Int) = l[i].f0[q] := by simp [rd, List.getD_eq_getElem?_getD, List.getElem?_eq_getElem hql]
      have hby := wf8 ((w.1 l[i] (List.getElem_mem _)).1.1 l[i].f0[q] (List.getElem_mem _))
      obtain ⟨y1, y2, y3, y4⟩ := xor_at l[i].f0[q] (b % 8) hby.1 hby.2 (by omega) (by omega)
      rw [hr]
      obtain ⟨y, hy⟩ : ∃ y, Go.bits .xor .u8 l[i].f0[q] (shl .u8 1 (b % 8)) = y := ⟨_, rfl⟩
      rw [hy] at y1 y2 y3 y4 ⊢
      refine ⟨_, _, rfl, fun _ => ?_⟩
      obtain ⟨m, hm⟩ : ∃ m, l.set i ⟨l[i].f0.set q y, l[i].f1⟩ = m := ⟨_, rfl⟩
      rw [hm]
      have hml : m.length = l.length := by rw [← hm, List.length_set]
      have hmi : m[i]'(by omega) = ⟨l[i].f0.set q y, l[i].f1⟩ := by subst hm; rw [List.getElem_set_self]
      have hlm : net_lim m = true := by
        have hl2 := hl
        simp only [net_lim, Bool.and_eq_true, decide_eq_true_eq, List.all_eq_true] at hl2 ⊢
        refine ⟨by omega, fun x hx => ?_⟩
        rw [← hm] at hx
        rcases List.mem_or_eq_of_mem_set hx with hx | rfl
        · exact hl2.2 x hx
        · rw [List.length_set]; exact hl2.2 _ (List.getElem_mem _)
      refine ⟨?_, hml, ?_⟩
      · rw [net_Spoil.f, if_pos hlm, if_pos (by omega), rd_ (l := m) (by omega), hmi, if_pos (by rw [List.length_set]; exact h1), Int.toNat_natCast, hq, Int.toNat_natCast]
        have hr2 : rd (l[i].f0.set q y) (q : Int) = y := by simp [rd, List.getD_eq_getElem?_getD, hql]
        rw [hr2, y4, List.set_set, List.set_getElem_self, ← hm, List.set_set]
        rw [show (⟨l[i].f0, l[i].f1⟩ : D) = l[i] from rfl, List.set_getElem_self]
      · rw [tidewayref05_Same.f, if_pos (by omega)]
        refine same_differs m l hml (by omega) i hi (fun j hj hji => ?_) (by rw [hmi]) ?_ i 0 (l.length + 20) (by omega) (by omega) (by omega)
        · subst hm; rw [List.getElem_set_ne (by omega)]
        · rw [hmi]
          refine same_no _ _ q (by simp; exact hql) hql ?_ hby ?_
          · simp only [List.getElem_set_self]; exact ⟨y2, y3⟩
          · simp only [List.getElem_set_self]; exact y1
    · rw [if_neg h1]
      exact ⟨_, _, rfl, fun h => by cases h⟩
  · rw [if_neg h]
    exact ⟨_, _, rfl, fun h => by cases h⟩
/-- Doubled and taken. -/
theorem doubled (l : List D) (a : Int) (hl : net_lim l = true) : ∃ d g, net_Double.f l a = some (d, g) ∧ ((g ≠ 0 ∧ d = []) ∨ (g = 0 ∧ ∃ x : D, net_Take.f d (l.length : Int) = some (x.f0, x.f1, l, 0) ∧ ∃ r, net_Take.f l a = some (x.f0, x.f1, r, 0))) := by
  have hlim := hl
  simp only [net_lim, Bool.and_eq_true, decide_eq_true_eq] at hlim
  by_cases h : 0 ≤ a ∧ a < (l.length : Int)
  · obtain ⟨i, rfl⟩ : ∃ i : Nat, a = i := ⟨a.toNat, by omega⟩
    have hi : i < l.length := by omega
    have hth : net_there.f l (i : Int) = some true := by rw [net_there.is3, decide_eq_true h]
    by_cases hf : (l.length : Int) ≥ 65536
    · refine ⟨[], 70, ?_, .inl ⟨by decide, rfl⟩⟩
      rw [net_Double.f, hth, Option.bind_some, if_pos rfl, if_pos h.1, if_pos h.2, net_Send.f, if_pos hf]; rfl
    · refine ⟨l ++ [l[i]], 0, ?_, .inr ⟨rfl, l[i], ?_, l.eraseIdx i, ?_⟩⟩
      · rw [net_Double.f, hth, Option.bind_some, if_pos rfl, if_pos h.1, if_pos h.2, rd_ hi, net_Send.f, if_neg hf, if_pos hl, if_pos (lim_at hl hi)]; rfl
      · have hlm : net_lim (l ++ [l[i]]) = true := by
          have hl2 := hl
          simp only [net_lim, Bool.and_eq_true, decide_eq_true_eq, List.all_eq_true] at hl2 ⊢
          refine ⟨by simp; omega, fun x hx => ?_⟩
          rcases List.mem_append.1 hx with hx | hx
          · exact hl2.2 x hx
          · rw [List.mem_singleton.1 hx]; exact hl2.2 _ (List.getElem_mem _)
        rw [net_Take.f, if_pos ⟨by omega, by simp; omega⟩, if_pos hlm, rd_ (l := l ++ [l[i]]) (by simp), Int.toNat_natCast]
        have e : (l ++ [l[i]]).eraseIdx l.length = l := by
          rw [List.eraseIdx_append_of_length_le (by omega)]; simp
        rw [e]
        simp
      · rw [net_Take.f, if_pos h, if_pos hl, rd_ hi, Int.toNat_natCast]
  · have hth : net_there.f l a = some false := by rw [net_there.is3, decide_eq_false h]
    refine ⟨[], 50, ?_, .inl ⟨by decide, rfl⟩⟩
    rw [net_Double.f, hth]; rfl
end Go.Proofs.Ytpmiiokoialbmaa.NetTFacts

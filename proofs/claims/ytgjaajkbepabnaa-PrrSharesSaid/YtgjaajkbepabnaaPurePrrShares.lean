/- While more is on its way than should be, at most the given share goes out, or one segment at first. -/
import Derived.Test.YtgjaajkbepabnaaPrrFacts
import Derived.Test.YtgjaajkbepabnaaPAx8
set_option linter.unusedVariables false
set_option linter.unusedSimpArgs false
set_option autoImplicit false
namespace Go.Proofs.Ytgjaajkbepabnaa.Pure
open Go.RowKit Go.Proofs.Ytgjaajkbepabnaa.PA Go.Proofs.YtgjaajkbepabnaaW.PrintWords Go.Proofs.YtgjaajkbepabnaaW.PrintMore Go.Proofs.Ytgjaajkbepabnaa.PrrFacts
theorem loop (fl ss mss : Int) (l : List Int) (hf : 1 ≤ fl ∧ fl ≤ 1048576) (hs : 0 ≤ ss ∧ ss ≤ fl) (hm : 1 ≤ mss ∧ mss ≤ 10000) (hl : l.length ≤ 200) :
    ∀ (d i k : Nat) (g o : Int), l.length - i = d → i ≤ l.length → 2 * d + 20 < k → 0 ≤ g → g ≤ 5000 * i → 0 ≤ o → o ≤ mx mss (cd g ss fl) → tidewaylaw14_PrrShares.l0 k fl ss mss l g o i g o fl = some true := by
  intro d
  induction d with
  | zero =>
    intro i k g o hd hi hk g0 g1 o0 o1
    obtain ⟨k, rfl⟩ : ∃ m, k = m + 1 := ⟨k - 1, by omega⟩
    rw [tidewaylaw14_PrrShares.l0, if_neg (by omega), heads _ (by omega)]; rfl
  | succ d ih =>
    intro i k g o hd hi hk g0 g1 o0 o1
    obtain ⟨k, rfl⟩ : ∃ m, k = m + 3 := ⟨k - 3, by omega⟩
    have hlt : i < l.length := by omega
    obtain ⟨n, hn⟩ : ∃ n, wrap64 (Int.tmod (IntKind.u64.wrap (rd l (i : Int))) 5000) = n := ⟨_, rfl⟩
    have hn0 : 0 ≤ n ∧ n < 5000 := by
      have h0 := wrap_u64_nonneg (rd l (i : Int))
      rw [Int.tmod_eq_emod_of_nonneg h0] at hn
      unfold wrap64 at hn
      omega
    have c1 := cd_le (a := g) (b := ss) (c := fl) g0 hs.2 hf.1
    have m0 := mxs mss (cd g ss fl)
    have hok : Ok g o fl := ⟨by omega, by omega, by omega, by omega⟩
    have ha : Args n (ss + 1) ss mss := ⟨⟨by omega, by omega⟩, ⟨by omega, by omega⟩, ⟨by omega, by omega⟩, by omega, by omega⟩
    have hG : mn 1125899906842624 (g + n) = g + n := by have := mns 1125899906842624 (g + n); omega
    have c2 := cd_le (a := g + n) (b := ss) (c := fl) (by omega) hs.2 hf.1
    have c3 := cd_nonneg (a := g + n) (b := ss) (c := fl) (by omega) hs.1 hf.1
    have c4 := cd_mono (a := g) (a' := g + n) (b := ss) (c := fl) hs.1 hf.1 (by omega)
    have m1 : mn (cd (g + n) ss fl) 9223372036854775807 = cd (g + n) ss fl := by have := mns (cd (g + n) ss fl) 9223372036854775807; omega
    rw [tidewaylaw14_PrrShares.l0, if_pos (by omega), if_pos (by omega), hn, w64 (n := ss + 1) (by omega) (by omega), given_more hok _ ha _ (by omega), hG, m1]
    simp only [Option.bind_some, if_true]
    have m2 := mxs (cd (g + n) ss fl - o) (least o mss)
    obtain ⟨q, hq⟩ : ∃ q, mx (cd (g + n) ss fl - o) (least o mss) = q := ⟨_, rfl⟩
    rw [hq] at m2 ⊢
    have hl : (o = 0 ∧ least o mss = mss) ∨ (o ≠ 0 ∧ least o mss = 0) := by unfold least; split <;> simp_all
    have hok2 : Ok (g + n) o fl := ⟨by omega, by omega, by omega, by omega⟩
    rw [decide_eq_false (by omega), tidewaylaw14_PrrShares.j2, if_neg (by simp), sent_ok hok2 ⟨by omega, by omega⟩]
    have hO : mn 1125899906842624 (o + q) = o + q := by have := mns 1125899906842624 (o + q); omega
    simp only [Option.bind_some, if_true]
    have p1 : (g + n) * ss ≤ 1000000 * ss := Int.mul_le_mul_of_nonneg_right (by omega) hs.1
    have p0 : 0 ≤ (g + n) * ss := Int.mul_nonneg (by omega) hs.1
    have hd : wrap64 (Int.tdiv (wrap64 ((wrap64 ((wrap64 ((wrap64 (g + n)) * ss)) + fl)) - 1)) fl) = cd (g + n) ss fl := by
      rw [w64 (n := g + n) (by omega) (by omega), w64 (n := (g + n) * ss) (by omega) (by omega), w64 (n := (g + n) * ss + fl) (by omega) (by omega), w64 (n := (g + n) * ss + fl - 1) (by omega) (by omega),
        Int.tdiv_eq_ediv_of_nonneg (by omega), show (g + n) * ss + fl - 1 = (g + n) * ss + (fl - 1) by omega, show ((g + n) * ss + (fl - 1)) / fl = cd (g + n) ss fl from rfl, w64 (by omega) (by omega)]
    have m3 := mxs mss (cd (g + n) ss fl)
    rw [if_neg (by omega), hd, hO, w64 (n := o + q) (by omega) (by omega), w64 (n := g + n) (by omega) (by omega), if_neg (by omega), w64 (n := (i : Int) + 1) (by omega) (by omega)]
    have := ih (i + 1) (k + 1) (g + n) (o + q) (by omega) (by omega) (by omega) (by omega) (by omega) (by omega) (by omega)
    exact this
theorem PrrShares (fl ss mss : Int) (l : List Int) (w0 : (Lit.int .i64 fl).wf = true) (w1 : (Lit.int .i64 ss).wf = true) (w2 : (Lit.int .i64 mss).wf = true) (w3 : (∀ x ∈ l, (Lit.int .i64 x).wf = true) ∧ l.length * 8 ≤ 140737488351232 ∧ l.length ≤ 9223372036854775807) :
    ∃ k, tidewaylaw14_PrrShares.f k fl ss mss l = some true := by
  refine ⟨2 * l.length + 60, ?_⟩
  have ht : tidewaylaw14_PrrShares.j0 (2 * l.length + 60) fl ss mss l true = some true := by
    rw [tidewaylaw14_PrrShares.j0, if_pos rfl, heads _ (by omega)]; rfl
  rw [tidewaylaw14_PrrShares.f]
  by_cases c1 : fl < 1
  · rw [if_pos c1, ht]
  by_cases c2 : fl > 1048576
  · rw [if_neg c1, if_pos c2, ht]
  by_cases c3 : ss < 0
  · rw [if_neg c1, if_neg c2, if_pos c3, ht]
  by_cases c4 : ss > fl
  · rw [if_neg c1, if_neg c2, if_neg c3, if_pos c4, ht]
  by_cases c5 : mss < 1
  · rw [if_neg c1, if_neg c2, if_neg c3, if_neg c4, if_pos c5, ht]
  by_cases c6 : mss > 10000
  · rw [if_neg c1, if_neg c2, if_neg c3, if_neg c4, if_neg c5, if_pos c6, ht]
  rw [if_neg c1, if_neg c2, if_neg c3, if_neg c4, if_neg c5, if_neg c6]
  by_cases c7 : (l.length : Int) > 200
  · rw [decide_eq_true c7, ht]
  have hb : prr_Begin.f fl = some (0, 0, fl, 0) := by
    rw [prr_Begin.f, size_ok ⟨by omega, by omega⟩]
    simp only [Option.bind_some, if_true]
    have := mxs 1 fl
    rw [show mx 1 fl = fl by omega]
  rw [decide_eq_false c7, tidewaylaw14_PrrShares.j0, if_neg (by simp), hb]
  simp only [Option.bind_some, if_true]
  have := loop fl ss mss l (by omega) (by omega) (by omega) (by omega) l.length 0 (2 * l.length + 59) 0 0 (by omega) (by omega) (by omega) (by omega) (by omega) (by omega) (by have := mxs mss (cd 0 ss fl); omega)
  simpa using this
end Go.Proofs.Ytgjaajkbepabnaa.Pure

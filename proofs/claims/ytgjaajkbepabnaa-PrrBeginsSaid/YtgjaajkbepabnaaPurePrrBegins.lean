/- A fresh recovery lets a segment go at least, and at most what is given, or that. -/
import Derived.Test.YtgjaajkbepabnaaPrrFacts
import Derived.Test.YtgjaajkbepabnaaPAx7
set_option linter.unusedVariables false
set_option linter.unusedSimpArgs false
set_option autoImplicit false
namespace Go.Proofs.Ytgjaajkbepabnaa.Pure
open Go.RowKit Go.Proofs.Ytgjaajkbepabnaa.PA Go.Proofs.YtgjaajkbepabnaaW.PrintWords Go.Proofs.YtgjaajkbepabnaaW.PrintMore Go.Proofs.Ytgjaajkbepabnaa.PrrFacts
theorem PrrBegins (fl n ss mss : Int) (w0 : (Lit.int .i64 fl).wf = true) (w1 : (Lit.int .i64 n).wf = true) (w2 : (Lit.int .i64 ss).wf = true) (w3 : (Lit.int .i64 mss).wf = true) :
    ∃ k, tidewaylaw14_PrrBegins.f k fl n ss mss = some true := by
  refine ⟨20, ?_⟩
  have ht : ∀ a b c : Int, tidewaylaw14_PrrBegins.j0 20 fl n ss mss true a b c = some true := by
    intro a b c
    rw [tidewaylaw14_PrrBegins.j0, if_pos rfl, heads _ (by omega)]; rfl
  rw [tidewaylaw14_PrrBegins.f]
  by_cases hs : Sz fl
  · rw [prr_Begin.f, size_ok hs]
    simp only [Option.bind_some, if_true]
    by_cases h1 : fl < 1
    · rw [if_pos h1, ht]
    · rw [if_neg h1]
      by_cases h2 : ss > fl
      · rw [decide_eq_true h2, ht]
      · obtain ⟨s0, s1⟩ := hs
        have hmx : mx 1 fl = fl := by have := mxs 1 fl; omega
        have hok : Ok 0 0 fl := ⟨by omega, by omega, by omega, by omega⟩
        rw [decide_eq_false h2, hmx, tidewaylaw14_PrrBegins.j0, if_neg (by simp), heads _ (by omega)]
        by_cases ha : Args n fl ss mss
        · have hn0 : 0 ≤ n ∧ n ≤ 1073741824 := ha.1
          have hm0 : 1 ≤ mss ∧ mss ≤ 65000 := ha.2.2.2
          have hs0 : 0 ≤ ss ∧ ss ≤ 1073741824 := ha.2.2.1
          have hG : mn 1125899906842624 (0 + n) = n := by have := mns 1125899906842624 (0 + n); omega
          have hw : wrap64 (n + mss) = n + mss := w64 (by omega) (by omega)
          have hck : prr_Check.f n 0 fl = some 0 := check_ok ⟨by omega, by omega, by omega, by omega⟩
          have hl : least 0 mss = mss := by rw [least, if_pos rfl]
          have m5 := mxs mss (n + mss)
          by_cases hp : fl > ss
          · rw [given_more hok 18 ha _ hp, hG, hl]
            simp only [Option.bind_some, if_true, hw, hck]
            have hc := cd_le (a := n) (b := ss) (c := fl) (by omega) (by omega) (by omega)
            have m1 := mns (cd n ss fl) 9223372036854775807
            have m2 := mxs (mn (cd n ss fl) 9223372036854775807 - 0) mss
            rw [if_pos (by omega), if_pos (by omega)]
          · rw [given_less hok 18 ha _ hp, hG, hl]
            simp only [Option.bind_some, if_true, hw, hck, topup]
            have m0 := mxs n (n - 0)
            have m1 := mns (mx n (n - 0) + mss) (ss - fl)
            have m2 := mxs (mn (mx n (n - 0) + mss) (ss - fl)) mss
            rw [if_pos (by omega), if_pos (by omega)]
        · rw [given_arg hok 18 ha]
          simp
  · rw [prr_Begin.f, size_no hs]
    simp only [Option.bind_some]
    rw [if_neg (by simp), ]
    simp only [Option.bind_some]
    rw [if_neg (by simp), ht]
end Go.Proofs.Ytgjaajkbepabnaa.Pure

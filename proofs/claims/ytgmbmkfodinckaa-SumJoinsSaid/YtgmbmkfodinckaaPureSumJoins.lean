/- Words are joined in any order, and joined words are 0 only where both are: of every three words. -/
import Derived.Lib.Hide
import Derived.Test.YtgmbmkfodinckaaSumFacts
set_option linter.unusedVariables false
set_option linter.unusedSimpArgs false
namespace Go.Proofs.Ytgmbmkfodinckaa.Pure
open Go.RowKit Go.Proofs.Ytgmbmkfodinckaa.PA Go.Proofs.YtgmbmkfodinckaaW.PrintWords Go.Proofs.Ytgmbmkfodinckaa.SumPlain Go.Proofs.Ytgmbmkfodinckaa.SumFacts
theorem wf16 {c : Int} (h : (Lit.int .u16 c).wf = true) : 0 ≤ c ∧ c ≤ 65535 := by simpa [Lit.wf, IntKind.min, IntKind.max, IntKind.signed, IntKind.bits] using h
theorem joinC (a b : Int) (h0 : 0 ≤ a) (h1 : a ≤ 65535) (h2 : 0 ≤ b) (h3 : b ≤ 65535) (x : Int) (hx : joinN a b = x) (w : World) :
    Calls Try.prog 13 #[.int .u16 a, .int .u16 b] w fun e w' => e = .returned (.int .u16 x) ∧ Drawn0 w w' := sum_Join.calls a b x w (by rw [← hx]; exact joinF a b h0 h1 h2 h3)
theorem joins_core (a b c x y z : Int) (Cab : ∀ w, Calls Try.prog 13 #[.int .u16 a, .int .u16 b] w fun e w' => e = .returned (.int .u16 x) ∧ Drawn0 w w') (Cba : ∀ w, Calls Try.prog 13 #[.int .u16 b, .int .u16 a] w fun e w' => e = .returned (.int .u16 x) ∧ Drawn0 w w')
    (Cxc : ∀ w, Calls Try.prog 13 #[.int .u16 x, .int .u16 c] w fun e w' => e = .returned (.int .u16 y) ∧ Drawn0 w w') (Cbc : ∀ w, Calls Try.prog 13 #[.int .u16 b, .int .u16 c] w fun e w' => e = .returned (.int .u16 z) ∧ Drawn0 w w') (Caz : ∀ w, Calls Try.prog 13 #[.int .u16 a, .int .u16 z] w fun e w' => e = .returned (.int .u16 y) ∧ Drawn0 w w')
    (h : x = 0 → a = 0 ∧ b = 0) (w : World) : Calls Try.prog 8 #[.int .u16 a, .int .u16 b, .int .u16 c] w fun e w' => e = .returned (.bool true) ∧ Below w.heap.size w w' := by
  have K1 := Lib.hid Cab; clear Cab
  have K2 := Lib.hid Cba; clear Cba
  have K3 := Lib.hid Cxc; clear Cxc
  have K4 := Lib.hid Cbc; clear Cbc
  have K5 := Lib.hid Caz; clear Caz
  by_cases hx : x = 0
  · obtain ⟨ha, hb⟩ := h hx
    have tx : (x != 0) = false := by simp [hx]
    have ta : (a == 0) = true := by simp [ha]
    have tb : (b == 0) = true := by simp [hb]
    clear hx ha hb h
    go_enter Try.func8, Try.ntmps8
    go_wp2_with (first | (go_at_call 13; (first | (with_reducible refine (K1.out _).mono ?_) | (with_reducible refine (K2.out _).mono ?_) | (with_reducible refine (K3.out _).mono ?_) | (with_reducible refine (K4.out _).mono ?_) | (with_reducible refine (K5.out _).mono ?_)); rintro e w' ⟨rfl, ⟨nd, rfl⟩⟩) | (go_at_call 15; refine (tidewaylaw02_heads.calls true _ headsF).mono ?_; rintro e w1 ⟨rfl, hb⟩))
    go_ret
    exact ⟨rfl, hb.os, hb.tape, hb.output, hb.size, hb.block⟩
  · have tx : (x != 0) = true := by simp [hx]
    clear hx h
    go_enter Try.func8, Try.ntmps8
    go_wp2_with (first | (go_at_call 13; (first | (with_reducible refine (K1.out _).mono ?_) | (with_reducible refine (K2.out _).mono ?_) | (with_reducible refine (K3.out _).mono ?_) | (with_reducible refine (K4.out _).mono ?_) | (with_reducible refine (K5.out _).mono ?_)); rintro e w' ⟨rfl, ⟨nd, rfl⟩⟩) | (go_at_call 15; refine (tidewaylaw02_heads.calls true _ headsF).mono ?_; rintro e w1 ⟨rfl, hb⟩))
    go_ret
    exact ⟨rfl, hb.os, hb.tape, hb.output, hb.size, hb.block⟩
theorem join_bd {a b : Int} (h0 : 0 ≤ a) (h1 : a ≤ 65535) (h2 : 0 ≤ b) (h3 : b ≤ 65535) : 0 ≤ joinN a b ∧ joinN a b ≤ 65535 := by unfold joinN; split <;> omega
theorem SumJoins_calls (a b c : Int) (w : World) (ha : (Lit.int .u16 a).wf = true) (hb : (Lit.int .u16 b).wf = true) (hc : (Lit.int .u16 c).wf = true) :
    Calls Try.prog 8 #[.int .u16 a, .int .u16 b, .int .u16 c] w fun e w' => e = .returned (.bool true) ∧ Below w.heap.size w w' := by
  have ha := wf16 ha
  have hb := wf16 hb
  have hc := wf16 hc
  have h1 := join_bd ha.1 ha.2 hb.1 hb.2
  have h2 := join_bd hb.1 hb.2 hc.1 hc.2
  refine joins_core a b c (joinN a b) (joinN (joinN a b) c) (joinN b c) (joinC a b ha.1 ha.2 hb.1 hb.2 _ rfl) (joinC b a hb.1 hb.2 ha.1 ha.2 _ ?_) (joinC _ c h1.1 h1.2 hc.1 hc.2 _ rfl) (joinC b c hb.1 hb.2 hc.1 hc.2 _ rfl) (joinC a _ ha.1 ha.2 h2.1 h2.2 _ ?_) ?_ w
  · unfold joinN; rw [Int.add_comm]
  · unfold joinN; (repeat' split) <;> omega
  · unfold joinN; split <;> omega
end Go.Proofs.Ytgmbmkfodinckaa.Pure

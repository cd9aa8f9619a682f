-- Written for the seat Ytenpekakmkemeaa by this session's program hyb.py (the print's functions, with externals typed by hand).
import Derived.Test.YtenpekakmkemeaaPAx0
namespace Go.Proofs.Ytenpekakmkemeaa.PA
open Go.RowKit Go.Proofs.YtenpekakmkemeaaW.PrintWords Go.Proofs.YtenpekakmkemeaaW.PrintLast Go.Proofs.YtenpekakmkemeaaW.PrintMore
attribute [local go_sem] max2_int min2_int max_two min_two max_three min_three max_four min_four   -- for this text's walks alone
set_option linter.unusedVariables false
set_option linter.unusedSimpArgs false

-- NOT PRINTED: function 29 (wire_must)

/-! ### sum_Join: function 37 -/
def sum_Join.f (a0 : Int) (a1 : Int) : Option (Int) := some (IntKind.u16.wrap ((IntKind.u16.wrap ((((a0) % 4294967296) + ((a1) % 4294967296)) % 4294967296)) + (((((a0) % 4294967296) + ((a1) % 4294967296)) % 4294967296) / 65536)))
set_option maxHeartbeats 8000000 in
set_option maxRecDepth 100000 in
theorem sum_Join.calls (a0 : Int) (a1 : Int) (r : Int) (w : World) (h : sum_Join.f a0 a1 = some r) :
  Calls Try.prog 37 #[.int .u16 a0, .int .u16 a1] w fun e w' => e = .returned (.int .u16 r) ∧ Drawn0 w w' := by
 have H : (some (IntKind.u16.wrap ((IntKind.u16.wrap ((((a0) % 4294967296) + ((a1) % 4294967296)) % 4294967296)) + (((((a0) % 4294967296) + ((a1) % 4294967296)) % 4294967296) / 65536)))) = some r := h
 clear h
 obtain rfl := Option.some.inj H
 go_enter Try.func37, Try.ntmps37
 go_wp2
 go_ret
 exact ⟨by first | rfl | (simp; done) | (simp [*]; done), by repeat (first | exact Drawn0.refl _ | apply Drawn0.step)⟩

end Go.Proofs.Ytenpekakmkemeaa.PA

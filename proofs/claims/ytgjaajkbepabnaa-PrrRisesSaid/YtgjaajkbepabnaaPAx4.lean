-- Written for the seat Ytgjaajkbepabnaa by this session's program hyb.py (the print's functions, with externals typed by hand).
import Derived.Lib.Hide
import Derived.Lib.Mul64
import Derived.Shelf.Bits.Mul64
import Derived.Shelf.Spec.BitsCarry
import Derived.Test.YtgjaajkbepabnaaPAx0
import Derived.Test.YtgjaajkbepabnaaPAx2
import Derived.Test.YtgjaajkbepabnaaPAx3
namespace Go.Proofs.Ytgjaajkbepabnaa.PA
open Go.RowKit Go.Proofs.YtgjaajkbepabnaaW.PrintWords Go.Proofs.YtgjaajkbepabnaaW.PrintLast Go.Proofs.YtgjaajkbepabnaaW.PrintMore
attribute [local go_sem] max2_int min2_int max_two min_two max_three min_three max_four min_four   -- for this text's walks alone
set_option linter.unusedVariables false
set_option linter.unusedSimpArgs false

/-! ### prr_share: function 13 (typed by hand) -/
theorem sh_mul (a b : Int) (ha : 0 ≤ a) (ha' : a < 18446744073709551616) (hb : 0 ≤ b) (hb' : b < 18446744073709551616) : bits_Mul64.f a b = some (a * b / 18446744073709551616, a * b % 18446744073709551616) := by
  obtain ⟨x, rfl⟩ := Int.eq_ofNat_of_zero_le ha
  obtain ⟨y, rfl⟩ := Int.eq_ofNat_of_zero_le hb
  have hx : x < 18446744073709551616 := by omega
  have hy : y < 18446744073709551616 := by omega
  obtain ⟨bd, bt, bw, hhi⟩ := Lib.mul64_hi x y hx hy
  have ba := Lib.half_mul_le (a := x / 4294967296) (b := y / 4294967296) (by omega) (by omega)
  have bb := Lib.half_mul_le (a := x / 4294967296) (b := y % 4294967296) (by omega) (by omega)
  have bc := Lib.half_mul_le (a := x % 4294967296) (b := y / 4294967296) (by omega) (by omega)
  have ba' : x / 4294967296 * (y / 4294967296) < 18446744073709551616 := by omega
  have bb' : x / 4294967296 * (y % 4294967296) < 18446744073709551616 := by omega
  have bc' : x % 4294967296 * (y / 4294967296) < 18446744073709551616 := by omega
  have bh1 : x / 4294967296 * (y / 4294967296) + (x / 4294967296 * (y % 4294967296) + x % 4294967296 * (y % 4294967296) / 4294967296) / 4294967296 < 18446744073709551616 := by omega
  have bh : x / 4294967296 * (y / 4294967296) + (x / 4294967296 * (y % 4294967296) + x % 4294967296 * (y % 4294967296) / 4294967296) / 4294967296 + ((x / 4294967296 * (y % 4294967296) + x % 4294967296 * (y % 4294967296) / 4294967296) % 4294967296 + x % 4294967296 * (y / 4294967296)) / 4294967296 < 18446744073709551616 := by omega
  unfold bits_Mul64.f
  simp only [Mul64.maskN x hx, Mul64.maskN y hy, Mul64.divN, Mul64.mulN, Mul64.addN, Mul64.wrapN _ bd, Mul64.wrapN _ bb', Mul64.wrapN _ bt, Mul64.maskN _ bt, Mul64.wrapN _ bc', Mul64.wrapN _ bw, Mul64.wrapN _ ba', Mul64.wrapN _ bh1, Mul64.wrapN _ bh, Mul64.wrapM (x * y)]
  rw [hhi]
  rfl
theorem sh_add (x y : Int) (hx : 0 ≤ x) (hy : 0 ≤ y) (w : World) : (callFunc 15 #[.int .u64 x, .int .u64 y, .int .u64 0]).run Try.prog w =
    .ok (.value (.tuple #[.int .u64 ((x + y) % 18446744073709551616), .int .u64 ((x + y) / 18446744073709551616)])) w := by
  obtain ⟨x, rfl⟩ := Int.eq_ofNat_of_zero_le hx
  obtain ⟨y, rfl⟩ := Int.eq_ofNat_of_zero_le hy
  have h : ∀ c : Nat, c ≤ 1 → (callFunc 15 #[.int .u64 (x : Int), .int .u64 (y : Int), .int .u64 (c : Int)]).run Try.prog w =
      .ok (.value (.tuple #[.int .u64 (((x + y + c) % 18446744073709551616 : Nat) : Int), .int .u64 (((x + y + c) / 18446744073709551616 : Nat) : Int)])) w := by
    intro c hc
    rw [run_callFunc_extern Try.func15 (by kernel_rfl) (by kernel_rfl) (by kernel_rfl) (e := add64Entry) (by kernel_rfl), run_add64 x y c (by omega) (by omega) (by omega) (by omega)]
    simp only [Result.andThen]
    congr 5 <;> omega
  refine (h 0 (by omega)).trans ?_
  congr 5 <;> omega
/-- a times b by c, upwards, at most the greatest number. -/
def prr_share.f (a0 : Int) (a1 : Int) (a2 : Int) : Option Int := if 0 ≤ a0 ∧ a0 < 9223372036854775808 ∧ 0 ≤ a1 ∧ a1 < 9223372036854775808 ∧ 1 ≤ a2 ∧ a2 < 9223372036854775808 then some (mn ((a0 * a1 + (a2 - 1)) / a2) 9223372036854775807) else none
set_option maxRecDepth 100000 in
theorem prr_share.calls (a0 : Int) (a1 : Int) (a2 : Int) (r : Int) (w : World) (h : prr_share.f a0 a1 a2 = some r) :
    Calls Try.prog 13 #[.int .i64 a0, .int .i64 a1, .int .i64 a2] w fun e w' => e = .returned (.int .i64 r) ∧ Drawn0 w w' := by
  unfold prr_share.f at h
  by_cases hc : 0 ≤ a0 ∧ a0 < 9223372036854775808 ∧ 0 ≤ a1 ∧ a1 < 9223372036854775808 ∧ 1 ≤ a2 ∧ a2 < 9223372036854775808
  · rw [if_pos hc] at h
    obtain ⟨h0, h1, h2, h3, h4, h5⟩ := hc
    obtain rfl := Option.some.inj h
    clear h
    have hm := sh_mul a0 a1 h0 (by omega) h2 (by omega)
    have hp0 : 0 ≤ a0 * a1 := Int.mul_nonneg h0 h2
    have hp1 : a0 * a1 < 85070591730234615865843651857942052864 := by
      rcases Int.lt_or_le 0 a1 with hb | hb
      · have q1 : a0 * a1 < 9223372036854775808 * a1 := Int.mul_lt_mul_of_pos_right h1 hb
        omega
      · have : a1 = 0 := by omega
        rw [this]; omega
    obtain ⟨P, hP⟩ : ∃ P : Int, P = a0 * a1 := ⟨_, rfl⟩
    rw [← hP] at hm hp0 hp1 ⊢
    have HM := Lib.hid hm; clear hm
    clear hP
    have w0 : IntKind.u64.wrap a0 = a0 := by rw [dv_w]; omega
    have w1 : IntKind.u64.wrap a1 = a1 := by rw [dv_w]; omega
    have w2 : IntKind.u64.wrap a2 = a2 := by rw [dv_w]; omega
    have w3 : IntKind.u64.wrap (a2 - 1) = a2 - 1 := by rw [dv_w]; omega
    obtain ⟨hi, hhi⟩ : ∃ hi : Int, P / 18446744073709551616 = hi := ⟨_, rfl⟩
    obtain ⟨lo, hlo⟩ : ∃ lo : Int, P % 18446744073709551616 = lo := ⟨_, rfl⟩
    rw [hhi, hlo] at HM
    obtain ⟨lo2, hlo2⟩ : ∃ l : Int, (lo + (a2 - 1)) % 18446744073709551616 = l := ⟨_, rfl⟩
    obtain ⟨cy, hcy⟩ : ∃ l : Int, (lo + (a2 - 1)) / 18446744073709551616 = l := ⟨_, rfl⟩
    have hadd := sh_add lo (a2 - 1) (by omega) (by omega)
    rw [hlo2, hcy] at hadd
    obtain ⟨hi2, hhi2⟩ : ∃ l : Int, hi + cy = l := ⟨_, rfl⟩
    have w4 : IntKind.u64.wrap (hi + cy) = hi2 := by rw [dv_w]; omega
    have htot : P + (a2 - 1) = hi2 * 18446744073709551616 + lo2 := by omega
    have hi0 : 0 ≤ hi2 := by omega
    have lo0 : 0 ≤ lo2 := by omega
    have lo1 : lo2 < 18446744073709551616 := by omega
    rw [htot]
    clear htot hhi hlo hlo2 hcy hhi2 hp0 hp1
    by_cases hge : hi2 ≥ a2
    · have hq : decide (a2 ≤ hi2) = true := decide_eq_true hge
      have hr : mn ((hi2 * 18446744073709551616 + lo2) / a2) 9223372036854775807 = 9223372036854775807 := by
        have : 18446744073709551616 ≤ (hi2 * 18446744073709551616 + lo2) / a2 := by
          refine (Int.le_ediv_iff_mul_le (by omega)).2 ?_
          omega
        unfold mn
        rw [if_pos (by omega)]
      rw [hr]
      clear hr hge
      go_enter Try.func13, Try.ntmps13
      go_wp2_with (first | (go_at_call 14; refine (bits_Mul64.calls a0 a1 hi lo _ HM).mono ?_; rintro e w1 ⟨rfl, nd, rfl⟩) | simp only [hadd])
      go_ret
      exact ⟨rfl, _, rfl⟩
    · have hq : decide (a2 ≤ hi2) = false := decide_eq_false hge
      have hd : bits_Div64.f hi2 lo2 a2 = some ((hi2 * 18446744073709551616 + lo2) / a2, (hi2 * 18446744073709551616 + lo2) % a2) := by
        rw [bits_Div64.f, if_pos ⟨hi0, by omega, by omega, lo0, lo1⟩]
      have hq0 : 0 ≤ (hi2 * 18446744073709551616 + lo2) / a2 := Int.ediv_nonneg (by omega) (by omega)
      obtain ⟨q, hqq⟩ : ∃ q : Int, (hi2 * 18446744073709551616 + lo2) / a2 = q := ⟨_, rfl⟩
      obtain ⟨rm, hrm⟩ : ∃ q : Int, (hi2 * 18446744073709551616 + lo2) % a2 = q := ⟨_, rfl⟩
      rw [hqq, hrm] at hd
      rw [hqq] at hq0 ⊢
      have HD := Lib.hid hd
      clear hd hqq hrm hge
      go_enter Try.func13, Try.ntmps13
      go_wp2_with (first | (go_at_call 14; refine (bits_Mul64.calls a0 a1 hi lo _ HM).mono ?_; rintro e w1 ⟨rfl, nd, rfl⟩) | simp only [hadd] | (go_at_call 16; refine (bits_Div64.calls hi2 lo2 a2 q rm _ HD).mono ?_; rintro e w2 ⟨rfl, nd2, rfl⟩))
      all_goals go_ret
      all_goals refine ⟨congrArg (fun z => Ending.returned (Value.int .i64 z)) ?_, by first | exact ⟨_, rfl⟩ | exact ⟨_, World.drewN_drewN _ _ _⟩⟩
      all_goals (show _ = _; unfold mn; first | (split <;> omega) | (simp; split <;> omega))
  · rw [if_neg hc] at h; cases h


end Go.Proofs.Ytgjaajkbepabnaa.PA

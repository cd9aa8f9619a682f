-- Written for the seat Ytgpbighdegdlfaa by this session's program hyb.py (the print's functions, with externals typed by hand).
import Derived.Lib.Hide
import Derived.Shelf.Abstract
import Derived.WalkKit
import Derived.Test.YtgpbighdegdlfaaPAx0
namespace Go.Proofs.Ytgpbighdegdlfaa.PA
open Go.RowKit Go.Proofs.YtgpbighdegdlfaaW.PrintWords Go.Proofs.YtgpbighdegdlfaaW.PrintLast Go.Proofs.YtgpbighdegdlfaaW.PrintMore
attribute [local go_sem] max2_int min2_int max_two min_two max_three min_three max_four min_four   -- for this text's walks alone
set_option linter.unusedVariables false
set_option linter.unusedSimpArgs false

/-! ### board_time: function 41 (typed by hand) -/
def bt_out (x : Int) : Bool := decide (x < 0) || decide (1125899906842624 < x)
theorem bt_pred (W : World) (x : Int) :
  Calls Try.prog 47 #[.int .i64 x] W fun e w' => e = .returned (.bool (bt_out x)) ∧ W = w' := by
 unfold bt_out
 go_enter Try.func47, Try.ntmps47
 go_wp2
 all_goals (go_ret; exact ⟨by simp_all, rfl⟩)
set_option maxRecDepth 100000 in
set_option maxHeartbeats 2000000 in
theorem bt_index (A : Option Addr) (c : Nat) (l : List Int) (w : World) (hC : Kd.C (Kd.int .i64) w A l.length l) :
  Calls Try.prog 48 #[.slice A l.length c, .func (.func 47) #[] #[]] w fun e w' => ∃ r : Int, e = .returned (.int .i64 r) ∧ decide (0 ≤ r) = l.any bt_out ∧ w = w' := by
 have eg : ∀ args w, (callFunc 47 args).run Try.prog w = .ok (.enter 47 args) w := enters_of Try.func47 (by kernel_rfl) rfl
 have hm : l.length ≤ 9223372036854775807 := hC.2.1
 have HC := Lib.hid hC; clear hC
 go_enter Try.func48, Try.ntmps48
 go_wp2
 go_loop [8] (fun i => ∃ k : Nat, k ≤ l.length ∧ i = .int .i64 k ∧ (∀ j (hj : j < l.length), j < k → bt_out l[j] = false))
  (fun i => l.length - (intOf i).toNat)
 case atStart => exact ⟨0, Nat.zero_le _, rfl, fun j _ hj => absurd hj (by omega)⟩
 case round =>
  obtain ⟨k, hk, rfl, hno⟩ := hrel
  have HNO := Lib.hid hno; clear hno
  by_cases hlt : k < l.length
  ·obtain ⟨ad, cs, rfl, _, hK, hcell⟩ := Kd.C_get HC (0 : Int) (k : Int) (by omega) (by omega)
   obtain rfl : cs = [.int .i64 (l.getD k 0)] := hK
   have hk1 : w.cell? (ad.add k) = some (.int .i64 (l.getD k 0)) := by have := hcell 0 _ rfl; simpa [Kd.int, Kd.scalar] using this
   have hg : l.getD k 0 = l[k] := by rw [List.getD_eq_getElem?_getD, List.getElem?_eq_getElem hlt]; rfl
   obtain ⟨x, hx⟩ : ∃ x, l.getD k 0 = x := ⟨_, rfl⟩
   rw [hx] at hk1
   have HX := Lib.hid (hg.symm.trans hx)
   have HP := Lib.hid (bt_pred w x)
   clear hcell hg hx
   have hlt' : (k : Int) < l.length := by omega
   by_cases hp : bt_out x = true
   ·rw [hp] at HP
    go_wp2_with (go_at_fn 47; refine HP.mono ?_; rintro e w' ⟨rfl, rfl⟩)
    go_ret
    refine ⟨(k : Int), rfl, ?_, rfl⟩
    rw [decide_eq_true (by omega)]
    exact (List.any_eq_true.2 ⟨l[k], List.getElem_mem _, by rw [show l[k] = x from HX]; exact hp⟩).symm
   ·have hp' : bt_out x = false := Bool.eq_false_iff.mpr hp
    rw [hp'] at HP
    go_wp2_with (go_at_fn 47; refine HP.mono ?_; rintro e w' ⟨rfl, rfl⟩)
    go_round
    case rel =>
     refine ⟨k + 1, by omega, by simp, fun j hj hjk => ?_⟩
     by_cases hjk2 : j < k
     ·exact HNO j hj hjk2
     ·obtain rfl : j = k := by omega
      rw [show l[j] = x from HX]; exact hp'
    case measure => simp [intOf]; omega
  ·obtain rfl : k = l.length := by omega
   go_wp2
   go_ret
   refine ⟨-1, rfl, ?_, rfl⟩
   rw [decide_eq_false (by omega)]
   refine (List.any_eq_false.2 fun x hx => ?_).symm
   obtain ⟨j, hj, rfl⟩ := List.mem_iff_getElem.1 hx
   rw [HNO j hj hj]; simp
theorem bt_contains (A : Option Addr) (c : Nat) (l : List Int) (w : World) (hC : Kd.C (Kd.int .i64) w A l.length l) :
  Calls Try.prog 46 #[.slice A l.length c, .func (.func 47) #[] #[]] w fun e w' => e = .returned (.bool (l.any bt_out)) ∧ w = w' := by
 have HC := Lib.hid hC; clear hC
 go_enter Try.func46, Try.ntmps46
 go_wp2_with (go_at_call 48; refine (bt_index A c l _ HC).mono ?_; rintro e w' ⟨r, rfl, hr, rfl⟩)
 go_ret
 exact ⟨by rw [← hr]; rfl, rfl⟩
def board_time.f (l0 : List Int) : Option Bool := some (!(l0.any bt_out))
theorem board_time.calls (A0 : Option Addr) (c0 : Nat) (l0 : List Int) (r : Bool) (w : World) (hr0 : Kd.C (Kd.int .i64) w A0 l0.length l0) (hc0 : l0.length ≤ c0) (h : board_time.f l0 = some r) :
  Calls Try.prog 41 #[.slice A0 l0.length c0] w fun e w' => e = .returned (.bool r) ∧ ∃ n, w.drewN n = w' := by
 have hr := Option.some.inj h
 clear h
 have HR := Lib.hid hr; clear hr
 have HC := Lib.hid hr0; clear hr0
 go_enter Try.func41, Try.ntmps41
 go_wp2_with (go_at_call 46; refine (bt_contains A0 c0 l0 _ HC.out).mono ?_; rintro e w' ⟨rfl, rfl⟩)
 go_ret
 exact ⟨by rw [← HR.out]; rfl, 0, rfl⟩


end Go.Proofs.Ytgpbighdegdlfaa.PA

-- Written for the seat Ytfckpjljpeaikaa by this session's program hyb.py (the print's functions, with externals typed by hand).
import Derived.Lib.Hide
import Derived.Shelf.Abstract
import Derived.WalkKit
import Derived.Test.YtfckpjljpeaikaaPAx0
namespace Go.Proofs.Ytfckpjljpeaikaa.PA
open Go.RowKit Go.Proofs.YtfckpjljpeaikaaW.PrintWords Go.Proofs.YtfckpjljpeaikaaW.PrintLast Go.Proofs.YtfckpjljpeaikaaW.PrintMore
attribute [local go_sem] max2_int min2_int max_two min_two max_three min_three max_four min_four   -- for this text's walks alone
set_option linter.unusedVariables false
set_option linter.unusedSimpArgs false

/-! ### rack_within: function 19 (typed by hand) -/
def rk_out (most x : Int) : Bool := decide (x < 0) || decide (most < x)
theorem rk_pred (most : Int) (B : Nat) (W : World) (hc : W.cell? ⟨B, 0, none⟩ = some (.int .i64 most)) (x : Int) :
  Calls Try.prog 32 #[.int .i64 x, .pointer (some ⟨B, 0, none⟩)] W fun e w' => e = .returned (.bool (rk_out most x)) ∧ ∃ q, w' = W.drewN q := by
 unfold rk_out
 go_enter Try.func32, Try.ntmps32
 go_wp2
 all_goals (go_ret; exact ⟨by simp_all, 0, rfl⟩)
set_option maxRecDepth 100000 in
set_option maxHeartbeats 2000000 in
theorem rk_index (most : Int) (B : Nat) (A : Option Addr) (c : Nat) (l : List Int) (w : World) (hc : w.cell? ⟨B, 0, none⟩ = some (.int .i64 most)) (hC : Kd.C (Kd.int .i64) w A l.length l) :
  Calls Try.prog 36 #[.slice A l.length c, .func (.func 32) #[] #[.pointer (some ⟨B, 0, none⟩)]] w fun e w' => ∃ r : Int, e = .returned (.int .i64 r) ∧ decide (0 ≤ r) = l.any (rk_out most) ∧ ∃ q, w' = w.drewN q := by
 have eg : ∀ args w, (callFunc 32 args).run Try.prog w = .ok (.enter 32 args) w := enters_of Try.func32 (by kernel_rfl) rfl
 have hm : l.length ≤ 9223372036854775807 := hC.2.1
 have HC := Lib.hid hC; clear hC
 go_enter Try.func36, Try.ntmps36
 go_wp2
 go_loopw [8] (fun i wr => ∃ k : Nat, k ≤ l.length ∧ i = .int .i64 k ∧ (∀ j (hj : j < l.length), j < k → rk_out most l[j] = false) ∧ ∃ q, wr = w.drewN q)
  (fun i _ => l.length - (intOf i).toNat)
 case atStart => exact ⟨0, Nat.zero_le _, rfl, fun j _ hj => absurd hj (by omega), 0, rfl⟩
 case round =>
  obtain ⟨k, hk, rfl, hno, q, rfl⟩ := hrel
  have HNO := Lib.hid hno; clear hno
  by_cases hlt : k < l.length
  ·obtain ⟨ad, cs, rfl, _, hK, hcell⟩ := Kd.C_get HC (0 : Int) (k : Int) (by omega) (by omega)
   obtain rfl : cs = [.int .i64 (l.getD k 0)] := hK
   have hk1 : w.cell? (ad.add k) = some (.int .i64 (l.getD k 0)) := by have := hcell 0 _ rfl; simpa [Kd.int, Kd.scalar] using this
   have hk2 : (w.drewN q).cell? (ad.add k) = some (.int .i64 (l.getD k 0)) := hk1
   have hg : l.getD k 0 = l[k] := by rw [List.getD_eq_getElem?_getD, List.getElem?_eq_getElem hlt]; rfl
   obtain ⟨x, hx⟩ : ∃ x, l.getD k 0 = x := ⟨_, rfl⟩
   rw [hx] at hk2
   have HX := Lib.hid (hg.symm.trans hx)
   have hcq : (w.drewN q).cell? ⟨B, 0, none⟩ = some (.int .i64 most) := hc
   have HP := Lib.hid (rk_pred most B (w.drewN q) hcq x)
   clear hcell hk1 hg hx
   have hlt' : (k : Int) < l.length := by omega
   by_cases hp : rk_out most x = true
   ·rw [hp] at HP
    go_wp2_with (go_at_fn 32; refine HP.mono ?_; rintro e w' ⟨rfl, q2, rfl⟩)
    go_ret
    refine ⟨(k : Int), rfl, ?_, _, rfl⟩
    rw [decide_eq_true (by omega)]
    exact (List.any_eq_true.2 ⟨l[k], List.getElem_mem _, by rw [show l[k] = x from HX]; exact hp⟩).symm
   ·have hp' : rk_out most x = false := Bool.eq_false_iff.mpr hp
    rw [hp'] at HP
    go_wp2_with (go_at_fn 32; refine HP.mono ?_; rintro e w' ⟨rfl, q2, rfl⟩)
    go_roundw
    case rel =>
     refine ⟨k + 1, by omega, by simp, fun j hj hjk => ?_, _, rfl⟩
     by_cases hjk2 : j < k
     ·exact HNO j hj hjk2
     ·obtain rfl : j = k := by omega
      rw [show l[j] = x from HX]; exact hp'
    case measure => simp [intOf]; omega
  ·obtain rfl : k = l.length := by omega
   go_wp2
   go_ret
   refine ⟨-1, rfl, ?_, _, rfl⟩
   rw [decide_eq_false (by omega)]
   refine (List.any_eq_false.2 fun x hx => ?_).symm
   obtain ⟨j, hj, rfl⟩ := List.mem_iff_getElem.1 hx
   rw [HNO j hj hj]; simp
theorem rk_contains (most : Int) (B : Nat) (A : Option Addr) (c : Nat) (l : List Int) (w : World) (hc : w.cell? ⟨B, 0, none⟩ = some (.int .i64 most)) (hC : Kd.C (Kd.int .i64) w A l.length l) :
  Calls Try.prog 31 #[.slice A l.length c, .func (.func 32) #[] #[.pointer (some ⟨B, 0, none⟩)]] w fun e w' => e = .returned (.bool (l.any (rk_out most))) ∧ ∃ q, w' = w.drewN q := by
 have HC := Lib.hid hC; clear hC
 go_enter Try.func31, Try.ntmps31
 go_wp2_with (go_at_call 36; refine (rk_index most B A c l _ hc HC).mono ?_; rintro e w' ⟨r, rfl, hr, q, rfl⟩)
 go_ret
 exact ⟨by rw [← hr]; rfl, q, rfl⟩
def rack_within.f (a0 : Int) (l1 : List Int) : Option Bool := some (!(l1.any (rk_out a0)))
theorem rack_within.calls (a0 : Int) (A1 : Option Addr) (c1 : Nat) (l1 : List Int) (r : Bool) (w : World) (hr1 : Kd.C (Kd.int .i64) w A1 l1.length l1) (hc1 : l1.length ≤ c1) (h : rack_within.f a0 l1 = some r) :
  Calls Try.prog 19 #[.int .i64 a0, .slice A1 l1.length c1] w fun e w' => e = .returned (.bool r) ∧ Below w.heap.size w w' := by
 have hr := Option.some.inj h
 clear h
 have HR := Lib.hid hr; clear hr
 have HC := Lib.hid hr1; clear hr1
 have hnew : (w.alloc (.cells #[.int .i64 a0] 3)).cell? ⟨w.heap.size, 0, none⟩ = some (.int .i64 a0) := (blk_cell (blk_new w _) 0).trans rfl
 go_enter Try.func19, Try.ntmps19
 go_wp2_with (go_at_call 31; refine (rk_contains a0 w.heap.size A1 c1 l1 _ hnew (Kd.C_alloc HC _)).mono ?_; rintro e w' ⟨rfl, q, rfl⟩)
 go_ret
 exact ⟨by rw [← show (!(l1.any (rk_out a0))) = r from HR]; rfl, pw_below_drewN (below_alloc (Below.refl _ _) _) q⟩


end Go.Proofs.Ytfckpjljpeaikaa.PA

-- Written for the seat Ytgpbighdegdlfaa by this session's program hyb.py (the print's functions, with externals typed by hand).
import Derived.Lib.Hide
import Derived.Shelf.Abstract
import Derived.WalkKit
import Derived.Test.YtgpbighdegdlfaaPAx0
namespace Go.Proofs.Ytgpbighdegdlfaa.PA
open Go.RowKit Go.Proofs.YtgpbighdegdlfaaW.PrintWords Go.Proofs.YtgpbighdegdlfaaW.PrintLast Go.Proofs.YtgpbighdegdlfaaW.PrintMore
attribute [local go_sem] max2_int min2_int max_two min_two max_three min_three max_four min_four   -- for this text's walks alone
set_option linter.unusedVariables false
set_option linter.unusedSimpArgs false

/-! ### api_Span: function 34 (typed by hand) -/
def bs_in (f0 f1 : Int) (s : S56) : Bool := decide (s.f0 ≤ f0) && decide (f1 ≤ s.f1)
set_option maxHeartbeats 4000000 in
theorem bs_pred (f0 f1 : Int) (b : Nat) (W : World) (h0 : W.cell? ⟨b, 0, none⟩ = some (.int .i64 f0)) (h1 : W.cell? ⟨b, 1, none⟩ = some (.int .i64 f1)) (s : S56) :
  Calls Try.prog 35 #[.agg #[.int .i64 s.f0, .int .i64 s.f1], .pointer (some ⟨b, 0, none⟩)] W fun e W' => e = .returned (.bool (bs_in f0 f1 s)) ∧ Below W.heap.size W W' := by
 unfold bs_in
 have k0 : (W.alloc (.cells #[.int .i64 s.f0, .int .i64 s.f1] 56)).cell? ⟨b, 0, none⟩ = some (.int .i64 f0) := (((Below.refl _ W).alloc (Nat.le_refl _) (.cells #[.int .i64 s.f0, .int .i64 s.f1] 56)).cell (p := ⟨b, 0, none⟩) (World.block_lt_of_cell? W _ h0)).trans h0
 have k1 : (W.alloc (.cells #[.int .i64 s.f0, .int .i64 s.f1] 56)).cell? ⟨b, 1, none⟩ = some (.int .i64 f1) := (((Below.refl _ W).alloc (Nat.le_refl _) (.cells #[.int .i64 s.f0, .int .i64 s.f1] 56)).cell (p := ⟨b, 1, none⟩) (World.block_lt_of_cell? W _ h1)).trans h1
 clear h0 h1
 go_enter Try.func35, Try.ntmps35
 go_wp2
 all_goals (go_ret; exact ⟨by first | (simp_all; done) | (simp_all; omega), below_alloc (Below.refl _ _) _⟩)
def bs_idx (p : S56 → Bool) (l : List S56) : Int := match l.findIdx? p with | some i => (i : Int) | none => -1
theorem bs_idx_any (p : S56 → Bool) (l : List S56) : decide (0 ≤ bs_idx p l) = l.any p := by
 unfold bs_idx
 cases h : l.findIdx? p with
 | none => rw [List.findIdx?_eq_none_iff] at h; rw [decide_eq_false (by show ¬ (0 : Int) ≤ -1; omega)]; exact (List.any_eq_false.2 (fun x hx => by rw [h x hx]; simp)).symm
 | some i => obtain ⟨hi, hp, _⟩ := List.findIdx?_eq_some_iff_getElem.1 h; rw [decide_eq_true (by show (0 : Int) ≤ (i : Int); omega)]; exact (List.any_eq_true.2 ⟨l[i], List.getElem_mem _, hp⟩).symm
set_option maxRecDepth 100000 in
set_option maxHeartbeats 4000000 in
theorem bs_index (g : Nat) (lb : Array Value) (p : S56 → Bool) (A : Option Addr) (c : Nat) (l : List S56) (w : World) (hC : Kd.C k56 w A l.length l)
  (eg : ∀ args w, (callFunc g args).run Try.prog w = .ok (.enter g args) w)
  (hp : ∀ (x : S56) (W : World), x ∈ l → Below w.heap.size w W → Calls Try.prog g (#[.agg #[.int .i64 x.f0, .int .i64 x.f1]] ++ lb) W fun e W' => e = .returned (.bool (p x)) ∧ Below W.heap.size W W') :
  Calls Try.prog 44 #[.slice A l.length c, .func (.func g) #[] lb] w fun e w' => e = .returned (.int .i64 (bs_idx p l)) ∧ Below w.heap.size w w' := by
 have hm : l.length ≤ 9223372036854775807 := hC.2.1
 have HC := Lib.hid hC; clear hC
 have HP := Lib.hid hp; clear hp
 go_enter Try.func44, Try.ntmps44
 go_wp2
 go_loopw [8] (fun i wr => ∃ k : Nat, k ≤ l.length ∧ i = .int .i64 k ∧ (∀ j (hj : j < l.length), j < k → p l[j] = false) ∧ Below w.heap.size w wr)
  (fun i _ => l.length - (intOf i).toNat)
 case atStart => exact ⟨0, Nat.zero_le _, rfl, fun j _ hj => absurd hj (by omega), Below.refl _ _⟩
 case round =>
  obtain ⟨k, hk, rfl, hno, hb⟩ := hrel
  have HNO := Lib.hid hno; clear hno
  have HB := Lib.hid hb; clear hb
  by_cases hlt : k < l.length
  ·obtain ⟨ad, had, hx0, hx1⟩ := at_T56 HC.out (k : Int) (by omega) (by omega)
   obtain rfl := had
   replace hx0 := (HB.out.cell (World.block_lt_of_cell? w _ hx0)).trans hx0
   replace hx1 := (HB.out.cell (World.block_lt_of_cell? w _ hx1)).trans hx1
   have hg : l.getD k z56 = l[k] := by rw [List.getD_eq_getElem?_getD, List.getElem?_eq_getElem hlt]; rfl
   have hrd : rd_T56 l (k : Int) = l[k] := by rw [← hg]; rfl
   simp only [Int.toNat_natCast, hrd] at hx0 hx1
   obtain ⟨x, hx⟩ : ∃ x, l[k] = x := ⟨_, rfl⟩
   rw [hx] at hx0 hx1
   have HX := Lib.hid hx
   have HQ := Lib.hid (HP.out x wr (by rw [← hx]; exact List.getElem_mem _) HB.out)
   clear hg hrd hx
   have hlt' : (k : Int) < l.length := by omega
   by_cases hp : p x = true
   ·rw [hp] at HQ
    go_wp2_with (go_at_fn g; refine HQ.out.mono ?_; rintro e w' ⟨rfl, hb2⟩)
    go_ret
    refine ⟨?_, HB.out.trans (hb2.mono HB.out.size)⟩
    have hi : l.findIdx? p = some k := List.findIdx?_eq_some_iff_getElem.2 ⟨hlt, by rw [HX.out]; exact hp, fun j hj => by have := HNO.out j (by omega) hj; simp [this]⟩
    simp only [bs_idx, hi]
    rfl
   ·have hp' : p x = false := Bool.eq_false_iff.mpr hp
    rw [hp'] at HQ
    go_wp2_with (go_at_fn g; refine HQ.out.mono ?_; rintro e w' ⟨rfl, hb2⟩)
    go_roundw
    case rel =>
     refine ⟨k + 1, by omega, by simp, fun j hj hjk => ?_, HB.out.trans (hb2.mono HB.out.size)⟩
     by_cases hjk2 : j < k
     ·exact HNO.out j hj hjk2
     ·obtain rfl : j = k := by omega
      rw [HX.out]; exact hp'
    case measure => simp [intOf]; omega
  ·obtain rfl : k = l.length := by omega
   go_wp2
   go_ret
   refine ⟨?_, HB.out⟩
   have hi : l.findIdx? p = none := List.findIdx?_eq_none_iff.2 fun x hx => by obtain ⟨j, hj, rfl⟩ := List.mem_iff_getElem.1 hx; exact HNO.out j hj hj
   simp only [bs_idx, hi]
   rfl
theorem bs_contains (g : Nat) (lb : Array Value) (p : S56 → Bool) (A : Option Addr) (c : Nat) (l : List S56) (w : World) (hC : Kd.C k56 w A l.length l)
  (eg : ∀ args w, (callFunc g args).run Try.prog w = .ok (.enter g args) w)
  (hp : ∀ (x : S56) (W : World), x ∈ l → Below w.heap.size w W → Calls Try.prog g (#[.agg #[.int .i64 x.f0, .int .i64 x.f1]] ++ lb) W fun e W' => e = .returned (.bool (p x)) ∧ Below W.heap.size W W') :
  Calls Try.prog 34 #[.slice A l.length c, .func (.func g) #[] lb] w fun e w' => e = .returned (.bool (l.any p)) ∧ Below w.heap.size w w' := by
 have HI := Lib.hid (bs_index g lb p A c l w hC eg hp); clear hC eg hp
 go_enter Try.func34, Try.ntmps34
 go_wp2_with (go_at_call 44; refine HI.out.mono ?_; rintro e w' ⟨rfl, hb⟩)
 go_ret
 exact ⟨by rw [← bs_idx_any]; rfl, hb⟩
def api_Span.f (l0 : List S56) (a1_0 : Int) (a1_1 : Int) (a1_2 : Bool) (a1_3 : Int) (a1_4 : Int) (a1_5 : Bool) (a1_6 : Bool) (a1_7 : Bool) (a1_8 : Int) (a1_9 : Int) (a1_10 : Int) (a1_11 : Bool) : Option Bool := some (l0.any (bs_in a1_0 a1_1))
theorem api_Span.calls (A0 : Option Addr) (c0 : Nat) (l0 : List S56) (a1_0 : Int) (a1_1 : Int) (a1_2 : Bool) (a1_3 : Int) (a1_4 : Int) (a1_5 : Bool) (a1_6 : Bool) (a1_7 : Bool) (a1_8 : Int) (a1_9 : Int) (a1_10 : Int) (a1_11 : Bool) (r : Bool) (w : World) (b : Nat) (hr0 : Kd.C k56 w A0 l0.length l0) (hc0 : l0.length ≤ c0) (hb : w.heap[b]? = some (.cells #[.int .i64 a1_0, .int .i64 a1_1, .bool a1_2, .int .i64 a1_3, .int .i64 a1_4, .bool a1_5, .bool a1_6, .bool a1_7, .int .i64 a1_8, .int .i64 a1_9, .int .i64 a1_10, .bool a1_11] 38 (0, 0))) (h : api_Span.f l0 a1_0 a1_1 a1_2 a1_3 a1_4 a1_5 a1_6 a1_7 a1_8 a1_9 a1_10 a1_11 = some r) :
  Calls Try.prog 34 #[.slice A0 l0.length c0, .func (.func 35) #[] #[.pointer (some ⟨b, 0, none⟩)]] w fun e w' => e = .returned (.bool r) ∧ Below w.heap.size w w' := by
 obtain rfl := Option.some.inj h
 refine bs_contains 35 #[.pointer (some ⟨b, 0, none⟩)] (bs_in a1_0 a1_1) A0 c0 l0 w hr0 (enters_of Try.func35 (by kernel_rfl) rfl) (fun x W _ hB => ?_)
 have h2 := (hB.block b (Array.getElem?_eq_some_iff.1 hb).1).trans hb
 exact bs_pred a1_0 a1_1 b W ((blk_cell h2 0).trans rfl) ((blk_cell h2 1).trans rfl) x


end Go.Proofs.Ytgpbighdegdlfaa.PA

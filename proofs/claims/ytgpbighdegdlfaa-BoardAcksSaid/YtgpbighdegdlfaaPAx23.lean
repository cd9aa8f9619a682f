-- Written for the seat Ytgpbighdegdlfaa by this session's program hyb.py (the print's functions, with externals typed by hand).
import Derived.Lib.Hide
import Derived.Shelf.Abstract
import Derived.WalkKit
import Derived.Test.YtgpbighdegdlfaaPAx0
import Derived.Test.YtgpbighdegdlfaaPAx2
import Derived.Test.YtgpbighdegdlfaaPAx10
import Derived.Test.YtgpbighdegdlfaaPAx22
namespace Go.Proofs.Ytgpbighdegdlfaa.PA
open Go.RowKit Go.Proofs.YtgpbighdegdlfaaW.PrintWords Go.Proofs.YtgpbighdegdlfaaW.PrintLast Go.Proofs.YtgpbighdegdlfaaW.PrintMore
attribute [local go_sem] max2_int min2_int max_two min_two max_three min_three max_four min_four   -- for this text's walks alone
set_option linter.unusedVariables false
set_option linter.unusedSimpArgs false

/-! ### tidewayref10_Check: function 30 (typed by hand) -/
def rc_time (t : Int) : Bool := decide (0 ≤ t) && decide (t ≤ 1125899906842624)
theorem rc_time_f (t : Int) : tidewayref10_time.f t = some (rc_time t) := by
 unfold tidewayref10_time.f rc_time
 by_cases h : t ≥ 0 <;> simp [h]
def rc_7 (n k : Nat) (x y : S38) : Bool := decide (x.f0 < 0) || (decide (x.f1 ≤ x.f0) || (decide (1125899906842625 < x.f1) || ((decide (0 < k) && (y.f1 != x.f0)) || (x.f2 && decide (k + 1 < n)))))
def rc_9 (x : S38) : Bool := !rc_time x.f3 || (!rc_time x.f8 || (!rc_time x.f9 || (!rc_time x.f10 || (decide (x.f4 < 1) || ((x.f7 && !x.f6) || (x.f5 && x.f6))))))
def rc_g (l : List S38) (i : Nat) : S38 := l.getD i z38
def rc_bad (l : List S38) (k : Nat) : Bool := rc_7 l.length k (rc_g l k) (rc_g l (k - 1)) || rc_9 (rc_g l k)
theorem rc_may (x : S38) : bd_may x = (decide (0 ≤ x.f0) && (decide (x.f0 < x.f1) && (decide (x.f1 ≤ 1125899906842625) && !rc_9 x))) := by
 unfold bd_may rc_9 rc_time
 simp only [List.any_cons, List.any_nil, bt_out, Bool.or_false]
 by_cases h0 : x.f4 < 1
 ·have h1 : ¬ 1 ≤ x.f4 := by omega
  simp [h0, h1]
 ·have h1 : 1 ≤ x.f4 := by omega
  have e : ∀ t : Int, (decide (t < 0) || decide (1125899906842624 < t)) = !(decide (0 ≤ t) && decide (t ≤ 1125899906842624)) := by
   intro t
   by_cases a : 0 ≤ t <;> by_cases b : t ≤ 1125899906842624 <;> simp [a, b] <;> omega
  simp only [e, h0, h1, decide_true, decide_false, Bool.true_and, Bool.false_or]
  generalize (decide (0 ≤ x.f3) && decide (x.f3 ≤ 1125899906842624)) = a
  generalize (decide (0 ≤ x.f8) && decide (x.f8 ≤ 1125899906842624)) = b
  generalize (decide (0 ≤ x.f9) && decide (x.f9 ≤ 1125899906842624)) = c
  generalize (decide (0 ≤ x.f10) && decide (x.f10 ≤ 1125899906842624)) = d
  cases a <;> cases b <;> cases c <;> cases d <;> cases x.f5 <;> cases x.f6 <;> cases x.f7 <;> simp
theorem rc_all (l : List S38) : (∀ k, k < l.length → rc_bad l k = false) ↔ (∀ k, k < l.length → bd_ok l k = true) := by
 have hb : ∀ k, rc_bad l k = false ↔ (0 ≤ (rc_g l k).f0 ∧ (rc_g l k).f0 < (rc_g l k).f1 ∧ (rc_g l k).f1 ≤ 1125899906842625 ∧ rc_9 (rc_g l k) = false) ∧ (0 < k → (rc_g l (k - 1)).f1 = (rc_g l k).f0) ∧ ((rc_g l k).f2 = true → ¬ k + 1 < l.length) := by
  intro k
  unfold rc_bad rc_7
  simp only [Bool.or_eq_false_iff, Bool.and_eq_false_iff, decide_eq_false_iff_not, bne_eq_false_iff_eq, Int.not_lt, Int.not_le, Nat.not_lt]
  constructor
  ·rintro ⟨⟨h1, h2, h3, h4, h5⟩, h6⟩
   refine ⟨⟨h1, h2, h3, h6⟩, fun h => ?_, fun h => ?_⟩
   ·rcases h4 with h4 | h4
    ·omega
    ·exact h4
   ·rcases h5 with h5 | h5
    ·rw [h] at h5; cases h5
    ·omega
  ·rintro ⟨⟨h1, h2, h3, h6⟩, h4, h5⟩
   refine ⟨⟨h1, h2, h3, ?_, ?_⟩, h6⟩
   ·by_cases h : 0 < k
    ·exact .inr (h4 h)
    ·exact .inl (by omega)
   ·cases hf : (rc_g l k).f2 with
    | true => exact .inr (by have := h5 hf; omega)
    | false => exact .inl rfl
 have ho : ∀ k, bd_ok l k = true ↔ (0 ≤ (rc_g l k).f0 ∧ (rc_g l k).f0 < (rc_g l k).f1 ∧ (rc_g l k).f1 ≤ 1125899906842625 ∧ rc_9 (rc_g l k) = false) ∧ (0 < k → (rc_g l (k - 1)).f1 = (rc_g l k).f0 ∧ (rc_g l (k - 1)).f2 = false) := by
  intro k
  unfold bd_ok
  rw [show l.getD k z38 = rc_g l k from rfl, show l.getD (k - 1) z38 = rc_g l (k - 1) from rfl, rc_may]
  simp only [Bool.and_eq_true, Bool.or_eq_true, decide_eq_true_eq, Bool.not_eq_true']
  constructor
  ·rintro ⟨h1, h2⟩
   refine ⟨h1, fun h => ?_⟩
   rcases h2 with h2 | h2
   ·omega
   ·exact h2
  ·rintro ⟨h1, h2⟩
   refine ⟨h1, ?_⟩
   by_cases h : k = 0
   ·exact .inl h
   ·exact .inr (h2 (by omega))
 constructor
 ·intro h k hk
  have h1 := (hb k).1 (h k hk)
  refine (ho k).2 ⟨h1.1, fun h0 => ⟨h1.2.1 h0, ?_⟩⟩
  have h2 := (hb (k - 1)).1 (h (k - 1) (by omega))
  cases hf : (rc_g l (k - 1)).f2 with
  | true => exact absurd (show k - 1 + 1 < l.length by omega) (h2.2.2 hf)
  | false => rfl
 ·intro h k hk
  have h1 := (ho k).1 (h k hk)
  refine (hb k).2 ⟨h1.1, fun h0 => (h1.2 h0).1, fun hf hl => ?_⟩
  have h2 := ((ho (k + 1)).1 (h (k + 1) hl)).2 (by omega)
  rw [Nat.add_sub_cancel, hf] at h2
  exact absurd h2.2 (by decide)
theorem rc_yes {l : List S38} (h0 : ¬ (l.length : Int) > 65536) (h : ∀ k, k < l.length → rc_bad l k = false) : bd_chk l = 0 := by
 unfold bd_chk
 rw [if_neg h0, if_pos (List.all_eq_true.2 fun i hi => (rc_all l).1 h i (List.mem_range.1 hi))]
theorem rc_no {l : List S38} {k : Nat} (hk : k < l.length) (h : rc_bad l k = true) : bd_chk l = 100 := by
 unfold bd_chk
 split
 ·rfl
 ·rw [if_neg (fun ha => by have := (rc_all l).2 (fun i hi => List.all_eq_true.1 ha i (List.mem_range.2 hi)) k hk; rw [h] at this; cases this)]
theorem rc_wpg {P : Program} {c : Code} {Q : Exit → Act → World → Prop} {a : Act} {W : World} (h : ∀ W', W = W' → Code.wp P c Q a W') : Code.wp P c Q a W := h W rfl
def tidewayref10_Check.f (l0 : List S38) : Option Int := some (bd_chk l0)
set_option maxRecDepth 100000 in
set_option maxHeartbeats 16000000 in
theorem tidewayref10_Check.calls (A0 : Option Addr) (c0 : Nat) (l0 : List S38) (r : Int) (w : World) (hr0 : Kd.C k38 w A0 l0.length l0) (hc0 : l0.length ≤ c0) (h : tidewayref10_Check.f l0 = some r) :
  Calls Try.prog 30 #[.slice A0 l0.length c0] w fun e w' => e = .returned (.int .i64 r) ∧ Below w.heap.size w w' := by
 have hr : bd_chk l0 = r := Option.some.inj h
 clear h
 have HR := Lib.hid hr; have HC := Lib.hid hr0; clear hr hr0 hc0
 have hm : l0.length ≤ 9223372036854775807 := HC.out.2.1
 go_enter Try.func30, Try.ntmps30
 by_cases hlen : (l0.length : Int) > 65536
 ·have q0 : decide ((l0.length : Int) > 65536) = true := decide_eq_true hlen
  have q0' : decide (65536 < l0.length) = true := decide_eq_true (by omega)
  go_wp2
  go_ret
  exact ⟨by rw [← HR.out]; unfold bd_chk; rw [if_pos hlen]; rfl, Below.refl _ _⟩
 have q0 : decide ((l0.length : Int) > 65536) = false := decide_eq_false hlen
 have q0' : decide (65536 < l0.length) = false := decide_eq_false (by omega)
 go_wp2
 go_loopw [3] (fun i wr => ∃ k : Nat, k ≤ l0.length ∧ i = .int .i64 k ∧ (∀ j, j < k → rc_bad l0 j = false) ∧ Below w.heap.size w wr)
  (fun i _ => l0.length - (intOf i).toNat)
 case atStart => exact ⟨0, Nat.zero_le _, rfl, fun j hj => absurd hj (by omega), Below.refl _ _⟩
 case round =>
  obtain ⟨k, hk, rfl, hno, hb⟩ := hrel
  have HNO := Lib.hid hno; have HB := Lib.hid hb; clear hno hb
  by_cases hlt : k < l0.length
  ·obtain ⟨ad, had, hx0, hx1, hx2, hx3, hx4, hx5, hx6, hx7, hx8, hx9, hx10, hx11⟩ := at_T38 HC.out (k : Int) (by omega) (by omega)
   obtain rfl := had
   have hy : 0 < k → w.cell? ⟨(ad.add ((k - 1) * 12)).block, (ad.add ((k - 1) * 12)).off + 1, none⟩ = some (.int .i64 (rc_g l0 (k - 1)).f1) := by
    intro h0
    obtain ⟨ad', had', hy0, hy1, hy2, hy3, hy4, hy5, hy6, hy7, hy8, hy9, hy10, hy11⟩ := at_T38 HC.out ((k - 1 : Nat) : Int) (by omega) (by omega)
    cases had'
    rw [Int.toNat_natCast] at hy1
    rw [hy1]
    unfold rd_T38 rc_g
    rw [Int.toNat_natCast]
   replace hx0 := (HB.out.cell (World.block_lt_of_cell? w _ hx0)).trans hx0
   replace hx1 := (HB.out.cell (World.block_lt_of_cell? w _ hx1)).trans hx1
   replace hx2 := (HB.out.cell (World.block_lt_of_cell? w _ hx2)).trans hx2
   replace hx3 := (HB.out.cell (World.block_lt_of_cell? w _ hx3)).trans hx3
   replace hx4 := (HB.out.cell (World.block_lt_of_cell? w _ hx4)).trans hx4
   replace hx5 := (HB.out.cell (World.block_lt_of_cell? w _ hx5)).trans hx5
   replace hx6 := (HB.out.cell (World.block_lt_of_cell? w _ hx6)).trans hx6
   replace hx7 := (HB.out.cell (World.block_lt_of_cell? w _ hx7)).trans hx7
   replace hx8 := (HB.out.cell (World.block_lt_of_cell? w _ hx8)).trans hx8
   replace hx9 := (HB.out.cell (World.block_lt_of_cell? w _ hx9)).trans hx9
   replace hx10 := (HB.out.cell (World.block_lt_of_cell? w _ hx10)).trans hx10
   replace hx11 := (HB.out.cell (World.block_lt_of_cell? w _ hx11)).trans hx11
   have hrd : rd_T38 l0 (k : Int) = rc_g l0 k := by rw [rd_T38, Int.toNat_natCast]; rfl
   simp only [Int.toNat_natCast, hrd] at hx0 hx1 hx2 hx3 hx4 hx5 hx6 hx7 hx8 hx9 hx10 hx11
   obtain ⟨x, hx⟩ : ∃ x, rc_g l0 k = x := ⟨_, rfl⟩
   obtain ⟨y, hye⟩ : ∃ y, rc_g l0 (k - 1) = y := ⟨_, rfl⟩
   rw [hx] at hx0 hx1 hx2 hx3 hx4 hx5 hx6 hx7 hx8 hx9 hx10 hx11
   rw [hye] at hy
   have HGX := Lib.hid hx; have HGY := Lib.hid hye; clear hx hye hrd
   have hlt' : (k : Int) < (l0.length : Int) := by omega
   go_upto_region 7 with (fail)
   refine rc_wpg ?_
   intro W5 hW5
   have HX5 := Lib.hid (show W5.heap[wr.heap.size]? = some (.cells #[.int .i64 x.f0, .int .i64 x.f1, .bool x.f2, .int .i64 x.f3, .int .i64 x.f4, .bool x.f5, .bool x.f6, .bool x.f7, .int .i64 x.f8, .int .i64 x.f9, .int .i64 x.f10, .bool x.f11] 38 (0, 0)) from by rw [← hW5]; exact blk_new wr _)
   have HB5 := Lib.hid (show Below w.heap.size w W5 from by rw [← hW5]; exact below_alloc HB.out _)
   have hy5 : 0 < k → W5.cell? ⟨(ad.add ((k - 1) * 12)).block, (ad.add ((k - 1) * 12)).off + 1, none⟩ = some (.int .i64 y.f1) := fun h0 => (HB5.out.cell (World.block_lt_of_cell? w _ (hy h0))).trans (hy h0)
   clear hW5 hy hx0 hx1 hx2 hx3 hx4 hx5 hx6 hx7 hx8 hx9 hx10 hx11
   have z0 : W5.cell? ⟨wr.heap.size, 0, none⟩ = some (.int .i64 x.f0) := (blk_cell HX5.out 0).trans rfl
   have z1 : W5.cell? ⟨wr.heap.size, 1, none⟩ = some (.int .i64 x.f1) := (blk_cell HX5.out 1).trans rfl
   have z2 : W5.cell? ⟨wr.heap.size, 2, none⟩ = some (.bool x.f2) := (blk_cell HX5.out 2).trans rfl
   go_cut [58] (fun v wc => v = .bool (rc_7 l0.length k x y) ∧ wc.heap[wr.heap.size]? = some (.cells #[.int .i64 x.f0, .int .i64 x.f1, .bool x.f2, .int .i64 x.f3, .int .i64 x.f4, .bool x.f5, .bool x.f6, .bool x.f7, .int .i64 x.f8, .int .i64 x.f9, .int .i64 x.f10, .bool x.f11] 38 (0, 0)) ∧ Below w.heap.size w wc)
   case first =>
    by_cases h0 : x.f0 < 0
    ·have q1 : decide (x.f0 < 0) = true := decide_eq_true h0
     clear hy5
     go_quiet (fail)
     try go_wp2
     go_meet
     case rel => exact ⟨by rw [show rc_7 l0.length k x y = true from by unfold rc_7; simp [*]], by (with_reducible repeat (first | refine blk_drewN ?_ _ | refine blk_drew ?_)); exact HX5.out, by repeat (first | (with_reducible first | exact HB5.out | apply pw_below_drewN | apply below_drew1))⟩
    have q1 : decide (x.f0 < 0) = false := decide_eq_false h0
    by_cases h1 : x.f1 ≤ x.f0
    ·have q2 : decide (x.f1 ≤ x.f0) = true := decide_eq_true h1
     clear hy5
     go_quiet (fail)
     try go_wp2
     go_meet
     case rel => exact ⟨by rw [show rc_7 l0.length k x y = true from by unfold rc_7; simp [*]], by (with_reducible repeat (first | refine blk_drewN ?_ _ | refine blk_drew ?_)); exact HX5.out, by repeat (first | (with_reducible first | exact HB5.out | apply pw_below_drewN | apply below_drew1))⟩
    have q2 : decide (x.f1 ≤ x.f0) = false := decide_eq_false h1
    by_cases h2 : 1125899906842625 < x.f1
    ·have q3 : decide (1125899906842625 < x.f1) = true := decide_eq_true h2
     clear hy5
     go_quiet (fail)
     try go_wp2
     go_meet
     case rel => exact ⟨by rw [show rc_7 l0.length k x y = true from by unfold rc_7; simp [*]], by (with_reducible repeat (first | refine blk_drewN ?_ _ | refine blk_drew ?_)); exact HX5.out, by repeat (first | (with_reducible first | exact HB5.out | apply pw_below_drewN | apply below_drew1))⟩
    have q3 : decide (1125899906842625 < x.f1) = false := decide_eq_false h2
    by_cases h3 : 0 < k
    ·have q4 : decide ((0 : Int) < (k : Int)) = true := decide_eq_true (by omega)
     have q4' : decide (0 < k) = true := decide_eq_true h3
     have hy6 := hy5 h3
     clear hy5
     have hw1 : wrap64 ((k : Int) - 1) = ((k - 1 : Nat) : Int) := by rw [bd_wrap (by omega) (by omega)]; omega
     have hw2 : (k : Int) - 1 = ((k - 1 : Nat) : Int) := by omega
     have hp1 : (0 : Int) ≤ ((k - 1 : Nat) : Int) := by omega
     have hp2 : ((k - 1 : Nat) : Int) < (l0.length : Int) := by omega
     by_cases h4 : y.f1 = x.f0
     ·have q5 : (y.f1 != x.f0) = false := bne_eq_false_iff_eq.mpr h4
      cases hf2 : x.f2 with
      | false =>
       rw [hf2] at z2
       go_quiet (fail)
       try go_wp2
       go_meet
       case rel => exact ⟨by rw [show rc_7 l0.length k x y = false from by unfold rc_7; simp [*]], by (with_reducible repeat (first | refine blk_drewN ?_ _ | refine blk_drew ?_)); exact HX5.out, by repeat (first | (with_reducible first | exact HB5.out | apply pw_below_drewN | apply below_drew1))⟩
      | true =>
       rw [hf2] at z2
       by_cases hfl : k + 1 < l0.length
       ·have q9 : decide ((k : Int) < wrap64 ((l0.length : Int) - 1)) = true := decide_eq_true (by rw [bd_wrap (by omega) (by omega)]; omega)
        have q9' : decide ((k : Int) < (l0.length : Int) - 1) = true := decide_eq_true (by omega)
        go_quiet (fail)
        try go_wp2
        go_meet
        case rel => exact ⟨by rw [show rc_7 l0.length k x y = true from by unfold rc_7; simp [*]], by (with_reducible repeat (first | refine blk_drewN ?_ _ | refine blk_drew ?_)); exact HX5.out, by repeat (first | (with_reducible first | exact HB5.out | apply pw_below_drewN | apply below_drew1))⟩
       ·have q9 : decide ((k : Int) < wrap64 ((l0.length : Int) - 1)) = false := decide_eq_false (by rw [bd_wrap (by omega) (by omega)]; omega)
        have q9' : decide ((k : Int) < (l0.length : Int) - 1) = false := decide_eq_false (by omega)
        go_quiet (fail)
        try go_wp2
        go_meet
        case rel => exact ⟨by rw [show rc_7 l0.length k x y = false from by unfold rc_7; simp [*]], by (with_reducible repeat (first | refine blk_drewN ?_ _ | refine blk_drew ?_)); exact HX5.out, by repeat (first | (with_reducible first | exact HB5.out | apply pw_below_drewN | apply below_drew1))⟩
     ·have q5 : (y.f1 != x.f0) = true := bne_iff_ne.mpr h4
      go_quiet (fail)
      try go_wp2
      go_meet
      case rel => exact ⟨by rw [show rc_7 l0.length k x y = true from by unfold rc_7; simp [*]], by (with_reducible repeat (first | refine blk_drewN ?_ _ | refine blk_drew ?_)); exact HX5.out, by repeat (first | (with_reducible first | exact HB5.out | apply pw_below_drewN | apply below_drew1))⟩
    ·have q4 : decide ((0 : Int) < (k : Int)) = false := decide_eq_false (by omega)
     have q4' : decide (0 < k) = false := decide_eq_false h3
     clear hy5
     cases hf2 : x.f2 with
     | false =>
      rw [hf2] at z2
      go_quiet (fail)
      try go_wp2
      go_meet
      case rel => exact ⟨by rw [show rc_7 l0.length k x y = false from by unfold rc_7; simp [*]], by (with_reducible repeat (first | refine blk_drewN ?_ _ | refine blk_drew ?_)); exact HX5.out, by repeat (first | (with_reducible first | exact HB5.out | apply pw_below_drewN | apply below_drew1))⟩
     | true =>
      rw [hf2] at z2
      by_cases hfl : k + 1 < l0.length
      ·have q9 : decide ((k : Int) < wrap64 ((l0.length : Int) - 1)) = true := decide_eq_true (by rw [bd_wrap (by omega) (by omega)]; omega)
       have q9' : decide ((k : Int) < (l0.length : Int) - 1) = true := decide_eq_true (by omega)
       go_quiet (fail)
       try go_wp2
       go_meet
       case rel => exact ⟨by rw [show rc_7 l0.length k x y = true from by unfold rc_7; simp [*]], by (with_reducible repeat (first | refine blk_drewN ?_ _ | refine blk_drew ?_)); exact HX5.out, by repeat (first | (with_reducible first | exact HB5.out | apply pw_below_drewN | apply below_drew1))⟩
      ·have q9 : decide ((k : Int) < wrap64 ((l0.length : Int) - 1)) = false := decide_eq_false (by rw [bd_wrap (by omega) (by omega)]; omega)
       have q9' : decide ((k : Int) < (l0.length : Int) - 1) = false := decide_eq_false (by omega)
       go_quiet (fail)
       try go_wp2
       go_meet
       case rel => exact ⟨by rw [show rc_7 l0.length k x y = false from by unfold rc_7; simp [*]], by (with_reducible repeat (first | refine blk_drewN ?_ _ | refine blk_drew ?_)); exact HX5.out, by repeat (first | (with_reducible first | exact HB5.out | apply pw_below_drewN | apply below_drew1))⟩
   case rest =>
    obtain ⟨rfl, hXc, hBc⟩ := hcut
    have HXc := Lib.hid hXc; have HBc := Lib.hid hBc; clear hXc hBc hy5 z0 z1 z2 HX5 HB5
    cases hb7 : rc_7 l0.length k x y with
    | true =>
     go_wp2
     go_ret
     exact ⟨by rw [← HR.out, rc_no hlt (show rc_bad l0 k = true from by unfold rc_bad; rw [HGX.out, HGY.out, hb7, Bool.true_or])]; rfl, HBc.out⟩
    | false =>
     have y3 : wc.cell? ⟨wr.heap.size, 3, none⟩ = some (.int .i64 x.f3) := (blk_cell HXc.out 3).trans rfl
     have y4 : wc.cell? ⟨wr.heap.size, 4, none⟩ = some (.int .i64 x.f4) := (blk_cell HXc.out 4).trans rfl
     have y5 : wc.cell? ⟨wr.heap.size, 5, none⟩ = some (.bool x.f5) := (blk_cell HXc.out 5).trans rfl
     have y6 : wc.cell? ⟨wr.heap.size, 6, none⟩ = some (.bool x.f6) := (blk_cell HXc.out 6).trans rfl
     have y7 : wc.cell? ⟨wr.heap.size, 7, none⟩ = some (.bool x.f7) := (blk_cell HXc.out 7).trans rfl
     have y8 : wc.cell? ⟨wr.heap.size, 8, none⟩ = some (.int .i64 x.f8) := (blk_cell HXc.out 8).trans rfl
     have y9 : wc.cell? ⟨wr.heap.size, 9, none⟩ = some (.int .i64 x.f9) := (blk_cell HXc.out 9).trans rfl
     have y10 : wc.cell? ⟨wr.heap.size, 10, none⟩ = some (.int .i64 x.f10) := (blk_cell HXc.out 10).trans rfl
     have HTC := Lib.hid (fun t w => tidewayref10_time.calls t _ w (rc_time_f t))
     cases ht3 : rc_time x.f3 with
     | false =>
      go_wp2_with (go_at_call 43; refine (HTC.out _ _).mono ?_; rintro e w9 ⟨rfl, ⟨q9, rfl⟩⟩)
      go_ret
      exact ⟨by rw [← HR.out, rc_no hlt (show rc_bad l0 k = true from by unfold rc_bad; rw [HGX.out, HGY.out, hb7, Bool.false_or]; unfold rc_9; simp [*])]; rfl, by repeat (first | (with_reducible first | exact HBc.out | apply pw_below_drewN | apply below_drew1))⟩
     | true =>
      cases ht8 : rc_time x.f8 with
      | false =>
       go_wp2_with (go_at_call 43; refine (HTC.out _ _).mono ?_; rintro e w9 ⟨rfl, ⟨q9, rfl⟩⟩)
       go_ret
       exact ⟨by rw [← HR.out, rc_no hlt (show rc_bad l0 k = true from by unfold rc_bad; rw [HGX.out, HGY.out, hb7, Bool.false_or]; unfold rc_9; simp [*])]; rfl, by repeat (first | (with_reducible first | exact HBc.out | apply pw_below_drewN | apply below_drew1))⟩
      | true =>
       cases ht9 : rc_time x.f9 with
       | false =>
        go_wp2_with (go_at_call 43; refine (HTC.out _ _).mono ?_; rintro e w9 ⟨rfl, ⟨q9, rfl⟩⟩)
        go_ret
        exact ⟨by rw [← HR.out, rc_no hlt (show rc_bad l0 k = true from by unfold rc_bad; rw [HGX.out, HGY.out, hb7, Bool.false_or]; unfold rc_9; simp [*])]; rfl, by repeat (first | (with_reducible first | exact HBc.out | apply pw_below_drewN | apply below_drew1))⟩
       | true =>
        cases ht10 : rc_time x.f10 with
        | false =>
         go_wp2_with (go_at_call 43; refine (HTC.out _ _).mono ?_; rintro e w9 ⟨rfl, ⟨q9, rfl⟩⟩)
         go_ret
         exact ⟨by rw [← HR.out, rc_no hlt (show rc_bad l0 k = true from by unfold rc_bad; rw [HGX.out, HGY.out, hb7, Bool.false_or]; unfold rc_9; simp [*])]; rfl, by repeat (first | (with_reducible first | exact HBc.out | apply pw_below_drewN | apply below_drew1))⟩
        | true =>
         by_cases h4 : x.f4 < 1
         ·have q4 : decide (x.f4 < 1) = true := decide_eq_true h4
          go_wp2_with (go_at_call 43; refine (HTC.out _ _).mono ?_; rintro e w9 ⟨rfl, ⟨q9, rfl⟩⟩)
          go_ret
          exact ⟨by rw [← HR.out, rc_no hlt (show rc_bad l0 k = true from by unfold rc_bad; rw [HGX.out, HGY.out, hb7, Bool.false_or]; unfold rc_9; simp [*])]; rfl, by repeat (first | (with_reducible first | exact HBc.out | apply pw_below_drewN | apply below_drew1))⟩
         ·have q4 : decide (x.f4 < 1) = false := decide_eq_false h4
          cases h7 : x.f7 <;> cases h6 : x.f6 <;> cases h5 : x.f5 <;> rw [h7] at y7 <;> rw [h6] at y6 <;> rw [h5] at y5
          case false.false.false => 
           go_wp2_with (go_at_call 43; refine (HTC.out _ _).mono ?_; rintro e w9 ⟨rfl, ⟨q9, rfl⟩⟩)
           go_roundw
           case rel => exact ⟨k + 1, by omega, by simp, fun j hj => by
            by_cases hjk : j < k
            ·exact HNO.out j hjk
            ·rw [show j = k by omega]; unfold rc_bad; rw [HGX.out, HGY.out, hb7, Bool.false_or]; unfold rc_9; simp [*], by repeat (first | (with_reducible first | exact HBc.out | apply pw_below_drewN | apply below_drew1))⟩
           case measure => simp [intOf]; omega
          case false.false.true => 
           go_wp2_with (go_at_call 43; refine (HTC.out _ _).mono ?_; rintro e w9 ⟨rfl, ⟨q9, rfl⟩⟩)
           go_roundw
           case rel => exact ⟨k + 1, by omega, by simp, fun j hj => by
            by_cases hjk : j < k
            ·exact HNO.out j hjk
            ·rw [show j = k by omega]; unfold rc_bad; rw [HGX.out, HGY.out, hb7, Bool.false_or]; unfold rc_9; simp [*], by repeat (first | (with_reducible first | exact HBc.out | apply pw_below_drewN | apply below_drew1))⟩
           case measure => simp [intOf]; omega
          case false.true.false => 
           go_wp2_with (go_at_call 43; refine (HTC.out _ _).mono ?_; rintro e w9 ⟨rfl, ⟨q9, rfl⟩⟩)
           go_roundw
           case rel => exact ⟨k + 1, by omega, by simp, fun j hj => by
            by_cases hjk : j < k
            ·exact HNO.out j hjk
            ·rw [show j = k by omega]; unfold rc_bad; rw [HGX.out, HGY.out, hb7, Bool.false_or]; unfold rc_9; simp [*], by repeat (first | (with_reducible first | exact HBc.out | apply pw_below_drewN | apply below_drew1))⟩
           case measure => simp [intOf]; omega
          case false.true.true => 
           go_wp2_with (go_at_call 43; refine (HTC.out _ _).mono ?_; rintro e w9 ⟨rfl, ⟨q9, rfl⟩⟩)
           go_ret
           exact ⟨by rw [← HR.out, rc_no hlt (show rc_bad l0 k = true from by unfold rc_bad; rw [HGX.out, HGY.out, hb7, Bool.false_or]; unfold rc_9; simp [*])]; rfl, by repeat (first | (with_reducible first | exact HBc.out | apply pw_below_drewN | apply below_drew1))⟩
          case true.false.false => 
           go_wp2_with (go_at_call 43; refine (HTC.out _ _).mono ?_; rintro e w9 ⟨rfl, ⟨q9, rfl⟩⟩)
           go_ret
           exact ⟨by rw [← HR.out, rc_no hlt (show rc_bad l0 k = true from by unfold rc_bad; rw [HGX.out, HGY.out, hb7, Bool.false_or]; unfold rc_9; simp [*])]; rfl, by repeat (first | (with_reducible first | exact HBc.out | apply pw_below_drewN | apply below_drew1))⟩
          case true.false.true => 
           go_wp2_with (go_at_call 43; refine (HTC.out _ _).mono ?_; rintro e w9 ⟨rfl, ⟨q9, rfl⟩⟩)
           go_ret
           exact ⟨by rw [← HR.out, rc_no hlt (show rc_bad l0 k = true from by unfold rc_bad; rw [HGX.out, HGY.out, hb7, Bool.false_or]; unfold rc_9; simp [*])]; rfl, by repeat (first | (with_reducible first | exact HBc.out | apply pw_below_drewN | apply below_drew1))⟩
          case true.true.false => 
           go_wp2_with (go_at_call 43; refine (HTC.out _ _).mono ?_; rintro e w9 ⟨rfl, ⟨q9, rfl⟩⟩)
           go_roundw
           case rel => exact ⟨k + 1, by omega, by simp, fun j hj => by
            by_cases hjk : j < k
            ·exact HNO.out j hjk
            ·rw [show j = k by omega]; unfold rc_bad; rw [HGX.out, HGY.out, hb7, Bool.false_or]; unfold rc_9; simp [*], by repeat (first | (with_reducible first | exact HBc.out | apply pw_below_drewN | apply below_drew1))⟩
           case measure => simp [intOf]; omega
          case true.true.true => 
           go_wp2_with (go_at_call 43; refine (HTC.out _ _).mono ?_; rintro e w9 ⟨rfl, ⟨q9, rfl⟩⟩)
           go_ret
           exact ⟨by rw [← HR.out, rc_no hlt (show rc_bad l0 k = true from by unfold rc_bad; rw [HGX.out, HGY.out, hb7, Bool.false_or]; unfold rc_9; simp [*])]; rfl, by repeat (first | (with_reducible first | exact HBc.out | apply pw_below_drewN | apply below_drew1))⟩
  ·obtain rfl : k = l0.length := by omega
   go_wp2
   go_ret
   exact ⟨by rw [← HR.out, rc_yes (by omega) HNO.out]; rfl, HB.out⟩


end Go.Proofs.Ytgpbighdegdlfaa.PA

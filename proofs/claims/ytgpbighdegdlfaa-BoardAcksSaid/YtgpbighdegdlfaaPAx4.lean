-- Written for the seat Ytgpbighdegdlfaa by this session's program hyb.py (the print's functions, with externals typed by hand).
import Derived.Test.YtgpbighdegdlfaaPAx0
import Derived.Test.YtgpbighdegdlfaaPAx3
namespace Go.Proofs.Ytgpbighdegdlfaa.PA
open Go.RowKit Go.Proofs.YtgpbighdegdlfaaW.PrintWords Go.Proofs.YtgpbighdegdlfaaW.PrintLast Go.Proofs.YtgpbighdegdlfaaW.PrintMore
attribute [local go_sem] max2_int min2_int max_two min_two max_three min_three max_four min_four   -- for this text's walks alone
set_option linter.unusedVariables false
set_option linter.unusedSimpArgs false

/-! ### board_Check: function 23 -/
mutual
def board_Check.l0 : Nat → List (S38) → List (S38) → Int → Int → Option (Int)
 | 0, _, _, _, _ => none
 | k + 1, x0, x8, x9, x10 => if x10 < x9 then (if 0 ≤ x10 then (if x10 < (x8.length : Int) then ((board_may.f ((rd_T38 x8 x10).f0) ((rd_T38 x8 x10).f1) ((rd_T38 x8 x10).f2) ((rd_T38 x8 x10).f3) ((rd_T38 x8 x10).f4) ((rd_T38 x8 x10).f5) ((rd_T38 x8 x10).f6) ((rd_T38 x8 x10).f7) ((rd_T38 x8 x10).f8) ((rd_T38 x8 x10).f9) ((rd_T38 x8 x10).f10) ((rd_T38 x8 x10).f11)).bind fun t116 => (if t116 = true then (if x10 > 0 then (if 0 ≤ (wrap64 (x10 - 1)) then (if (wrap64 (x10 - 1)) < (x0.length : Int) then (if ((rd_T38 x0 (wrap64 (x10 - 1))).f1) = ((rd_T38 x8 x10).f0) then (board_Check.j1 k x0 x8 x9 x10 ((rd_T38 x0 (wrap64 (x10 - 1))).f2)) else (board_Check.j1 k x0 x8 x9 x10 true)) else (none)) else (none)) else (board_Check.j1 k x0 x8 x9 x10 false)) else (board_Check.j1 k x0 x8 x9 x10 true))) else (none)) else (none)) else (some 0)
def board_Check.j1 : Nat → List (S38) → List (S38) → Int → Int → Bool → Option (Int)
 | 0, _, _, _, _, _ => none
 | k + 1, x0, x8, x9, x10, x40 => if x40 = true then (some 100) else (board_Check.l0 k x0 x8 x9 (wrap64 (x10 + 1)))
end
def board_Check.f (k : Nat) (l0 : List (S38)) : Option (Int) := if (l0.length : Int) > 65536 then (some 100) else (board_Check.l0 k l0 l0 (l0.length : Int) 0)
theorem board_Check.mono_l : ∀ k, (∀ y0 y1 y2 y3, LeO (board_Check.l0 k y0 y1 y2 y3) (board_Check.l0 (k + 1) y0 y1 y2 y3)) ∧ (∀ y0 y1 y2 y3 y4, LeO (board_Check.j1 k y0 y1 y2 y3 y4) (board_Check.j1 (k + 1) y0 y1 y2 y3 y4))
 | 0 => ⟨fun _ _ _ _ r h => by simp [board_Check.l0] at h, fun _ _ _ _ _ r h => by simp [board_Check.j1] at h⟩
 | k + 1 => by
  obtain ⟨ih0, ih1⟩ := board_Check.mono_l k
  refine ⟨?_, ?_⟩
  ·intro y0 y1 y2 y3
   unfold board_Check.l0
   repeat' first
   | (with_reducible exact ih0 _ _ _ _)
   | (with_reducible exact ih1 _ _ _ _ _)
   | (with_reducible exact LeO.refl _)
   | (with_reducible exact LeO.none _)
   | (with_reducible refine LeO.ite ?_ ?_)
   | (with_reducible refine LeO.bind ?_ (fun _ => ?_))
   | exact ih0 _ _ _ _
   | exact ih1 _ _ _ _ _
   | exact LeO.none _
   | refine LeO.ite ?_ ?_
   | refine LeO.bind ?_ (fun _ => ?_)
  ·intro y0 y1 y2 y3 y4
   unfold board_Check.j1
   repeat' first
   | (with_reducible exact ih0 _ _ _ _)
   | (with_reducible exact ih1 _ _ _ _ _)
   | (with_reducible exact LeO.refl _)
   | (with_reducible exact LeO.none _)
   | (with_reducible refine LeO.ite ?_ ?_)
   | (with_reducible refine LeO.bind ?_ (fun _ => ?_))
   | exact ih0 _ _ _ _
   | exact ih1 _ _ _ _ _
   | exact LeO.none _
   | refine LeO.ite ?_ ?_
   | refine LeO.bind ?_ (fun _ => ?_)
theorem board_Check.mono : ∀ a0 k, LeO (board_Check.f k a0) (board_Check.f (k + 1) a0) := by
 intro a0 k
 obtain ⟨ih0, ih1⟩ := board_Check.mono_l k
 unfold board_Check.f
 repeat' first
   | (with_reducible exact ih0 _ _ _ _)
   | (with_reducible exact ih1 _ _ _ _ _)
   | (with_reducible exact LeO.refl _)
   | (with_reducible exact LeO.none _)
   | (with_reducible refine LeO.ite ?_ ?_)
   | (with_reducible refine LeO.bind ?_ (fun _ => ?_))
   | exact ih0 _ _ _ _
   | exact ih1 _ _ _ _ _
   | exact LeO.none _
   | refine LeO.ite ?_ ?_
   | refine LeO.bind ?_ (fun _ => ?_)
def board_Check.T6 : Bool × List (List Nat × List Nat) := (true, [([], []), ([0], [0]), ([1], [1]), ([2, 1], [2]), ([3], [3]), ([4, 3], [3, 4]), ([5, 3, 3], [3, 5]), ([6], [6]), ([6], [6]), ([8, 6], [6, 8]), ([7, 9, 6], [6, 7, 9]), ([10, 6], [6, 10]), ([11, 6], [6, 11]), ([6], [6]), ([13, 6], [6, 13]), ([12, 14, 6], [6, 12, 14]), ([15, 6, 6], [6, 15]), ([16], [16]), ([16], [16]), ([18, 16], [16, 18]), ([17, 19, 16], [16, 17, 19]), ([20, 16], [16, 20]), ([21, 16], [16, 21]), ([16, 22, 6], [6, 16, 22]), ([6, 23, 3], [3, 6, 23]), ([3, 24], [3, 24])])
def board_Check.B6 : List Nat := [0, 1, 3, 7, 15, 31, 63, 127, 127, 383, 1023, 2047, 4095, 127, 8319, 32767, 65535, 131071, 131071, 393215, 1048575, 2097151, 4194303, 8388607, 16777215, 33554431]
theorem board_Check.tab6 : rtab .any (opsOf Try.f23 6) = board_Check.T6 := by kernel_rfl
theorem board_Check.bits6 : waitsOk board_Check.T6.2 board_Check.B6 = true := by kernel_rfl
set_option maxHeartbeats 8000000 in
set_option maxRecDepth 100000 in
theorem board_Check.calls (k : Nat) (A0 : Option Addr) (c0 : Nat) (l0 : List (S38)) (r : Int) (w : World) (hr0 : Kd.C k38 w A0 l0.length l0) (hc0 : l0.length ≤ c0) (h : board_Check.f k l0 = some r) :
  Calls Try.prog 23 #[.slice A0 l0.length c0] w fun e w' => e = .returned (.int .i64 r) ∧ Below w.heap.size w w' := by
 have hu38 := Try.underlying38
 have HR0 := Aside0.mk hr0
 have HC0 := Aside0.mk hc0
 clear hr0 hc0
 have HB := Aside0.mk (Below.refl w.heap.size w)
 have H : (if (l0.length : Int) > 65536 then (some 100) else (board_Check.l0 k l0 l0 (l0.length : Int) 0)) = some r := h
 clear h
 by_cases c2 : (l0.length : Int) > 65536
 ·rw [if_pos c2] at H
  have c2b0 : decide (65536 < (l0.length : Int)) = true := decide_eq_true c2
  have c2b1 : decide (65536 < l0.length) = true := decide_eq_true (by omega)
  clear c2
  obtain rfl := Option.some.inj H
  go_enter Try.func23, Try.ntmps23
  go_wp2
  go_ret
  exact ⟨by first | rfl | (simp [errW_none, errW_some] <;> rfl) | (simp [*, errW_none, errW_some] <;> rfl), by repeat (first | (with_reducible first | exact HB.out | apply below_alloc | apply pw_below_drewN | apply below_drew1) | exact HB.out | exact Below.refl _ _)⟩
 ·rw [if_neg c2] at H
  have c2b0 : decide (65536 < (l0.length : Int)) = false := decide_eq_false c2
  have c2b1 : decide (65536 < l0.length) = false := decide_eq_false (by omega)
  clear c2
  have H' := Aside0.mk H
  clear H
  go_enter Try.func23, Try.ntmps23
  go_wp2
  go_loopg [10] k (fun kq v10 w' => ∃ (x10_1 : Int), v10 = .int .i64 x10_1 ∧ Aside0 (board_Check.l0 kq l0 l0 (l0.length : Int) x10_1 = some r) ∧ Aside0 (kq ≤ k) ∧ Aside0 (Below w.heap.size w w'))
  case atStart => exact ⟨(0), (by first | rfl | (simp; done) | (simp [*]; done)), H', ⟨Nat.le_refl _⟩, ⟨by repeat (first | (with_reducible first | exact HB.out | apply below_alloc | apply pw_below_drewN | apply below_drew1) | exact HB.out | exact Below.refl _ _)⟩⟩
  case round =>
   clear H'
   try clear c2
   try clear c2b0
   try clear c2b1
   try clear p2
   obtain ⟨x10_1, rfl, HA, HK1, HB⟩ := hrel
   cases gk with
   | zero => exact absurd HA.out (by simp [board_Check.l0])
   | succ k1 =>
    have H := HA.out
    clear HA
    simp only [board_Check.l0] at H
    by_cases c3 : x10_1 < (l0.length : Int)
    ·rw [if_pos c3] at H
     have c3b0 : decide (x10_1 < (l0.length : Int)) = true := decide_eq_true c3
     clear c3
     by_cases c4 : 0 ≤ x10_1
     ·rw [if_pos c4] at H
      have c4b0 : decide (0 ≤ x10_1) = true := decide_eq_true c4
      clear c4
      by_cases c5 : x10_1 < (l0.length : Int)
      ·rw [if_pos c5] at H
       have c5b0 : decide (x10_1 < (l0.length : Int)) = true := decide_eq_true c5
       clear c5
       have HC6 := Aside0.mk H
       clear H
       have p114 : 0 ≤ (x10_1 : Int) := of_decide_eq_true (by first | (with_reducible assumption) | assumption)
       have q114 : x10_1 < (l0.length : Int) := of_decide_eq_true (by first | (with_reducible assumption) | assumption)
       obtain ⟨ad114, e114, hx114_0, hx114_1, hx114_2, hx114_3, hx114_4, hx114_5, hx114_6, hx114_7, hx114_8, hx114_9, hx114_10, hx114_11⟩ := at_T38 HR0.out x10_1 p114 q114
       cases e114
       replace hx114_0 := (HB.out.cell (World.block_lt_of_cell? w _ hx114_0)).trans hx114_0
       replace hx114_1 := (HB.out.cell (World.block_lt_of_cell? w _ hx114_1)).trans hx114_1
       replace hx114_2 := (HB.out.cell (World.block_lt_of_cell? w _ hx114_2)).trans hx114_2
       replace hx114_3 := (HB.out.cell (World.block_lt_of_cell? w _ hx114_3)).trans hx114_3
       replace hx114_4 := (HB.out.cell (World.block_lt_of_cell? w _ hx114_4)).trans hx114_4
       replace hx114_5 := (HB.out.cell (World.block_lt_of_cell? w _ hx114_5)).trans hx114_5
       replace hx114_6 := (HB.out.cell (World.block_lt_of_cell? w _ hx114_6)).trans hx114_6
       replace hx114_7 := (HB.out.cell (World.block_lt_of_cell? w _ hx114_7)).trans hx114_7
       replace hx114_8 := (HB.out.cell (World.block_lt_of_cell? w _ hx114_8)).trans hx114_8
       replace hx114_9 := (HB.out.cell (World.block_lt_of_cell? w _ hx114_9)).trans hx114_9
       replace hx114_10 := (HB.out.cell (World.block_lt_of_cell? w _ hx114_10)).trans hx114_10
       replace hx114_11 := (HB.out.cell (World.block_lt_of_cell? w _ hx114_11)).trans hx114_11
       replace p114 := eq_true p114
       replace q114 := eq_true q114
       go_upto_region 6 with (first | ((with_reducible refine gate_dst (N := 4) rfl ?_); refine box_event ?hg (N := 4) ?hd (cs := #[.int .i64 0, .int .i64 0, .bool false, .int .i64 0, .int .i64 0, .bool false, .bool false, .bool false, .int .i64 0, .int .i64 0, .int .i64 0, .bool false]) (t := 38) ?hr ?_; (case hd => rfl); (case hg => rfl); (case hr => first | (go_simp; done) | (go_simp; rfl)); intro gb115 hg w7 hbox hb; have n0_ := Aside0.mk (below_step (by repeat (first | (with_reducible first | exact HB.out | apply below_alloc | apply pw_below_drewN | apply below_drew1) | exact HB.out | exact Below.refl _ _)) hb); have n1_ := Aside0.mk (hbox); have n2_ := Aside0.mk ((by rw [hg]; exact (below_size (by repeat (first | (with_reducible first | exact HB.out | apply below_alloc | apply pw_below_drewN | apply below_drew1) | exact HB.out | exact Below.refl _ _))) : w.heap.size ≤ gb115)); have n3_ := Aside0.mk ((by rw [hg]; exact (below_size (by repeat (first | (with_reducible first | exact HB.out | apply below_alloc | apply pw_below_drewN | apply below_drew1) | exact HB.out | exact Below.refl _ _))) : w.heap.size ≤ gb115)); clear HB; have HB := n0_; have BK115 := n1_; have GW115 := n2_; have GE115 := n3_; clear n0_ n1_ n2_ n3_; clear hb hbox hg; have hcz8_0 : w7.cell? ⟨gb115, 0, none⟩ = some (.int .i64 0) := (blk_cell BK115.out 0).trans rfl; have hcz8_1 : w7.cell? ⟨gb115, 1, none⟩ = some (.int .i64 0) := (blk_cell BK115.out 1).trans rfl; have hcz8_2 : w7.cell? ⟨gb115, 2, none⟩ = some (.bool false) := (blk_cell BK115.out 2).trans rfl; have hcz8_3 : w7.cell? ⟨gb115, 3, none⟩ = some (.int .i64 0) := (blk_cell BK115.out 3).trans rfl; have hcz8_4 : w7.cell? ⟨gb115, 4, none⟩ = some (.int .i64 0) := (blk_cell BK115.out 4).trans rfl; have hcz8_5 : w7.cell? ⟨gb115, 5, none⟩ = some (.bool false) := (blk_cell BK115.out 5).trans rfl; have hcz8_6 : w7.cell? ⟨gb115, 6, none⟩ = some (.bool false) := (blk_cell BK115.out 6).trans rfl; have hcz8_7 : w7.cell? ⟨gb115, 7, none⟩ = some (.bool false) := (blk_cell BK115.out 7).trans rfl; have hcz8_8 : w7.cell? ⟨gb115, 8, none⟩ = some (.int .i64 0) := (blk_cell BK115.out 8).trans rfl; have hcz8_9 : w7.cell? ⟨gb115, 9, none⟩ = some (.int .i64 0) := (blk_cell BK115.out 9).trans rfl; have hcz8_10 : w7.cell? ⟨gb115, 10, none⟩ = some (.int .i64 0) := (blk_cell BK115.out 10).trans rfl; have hcz8_11 : w7.cell? ⟨gb115, 11, none⟩ = some (.bool false) := (blk_cell BK115.out 11).trans rfl; have hfz8_0 := blk_frozen BK115.out 0; have hfz8_1 := blk_frozen BK115.out 1; have hfz8_2 := blk_frozen BK115.out 2; have hfz8_3 := blk_frozen BK115.out 3; have hfz8_4 := blk_frozen BK115.out 4; have hfz8_5 := blk_frozen BK115.out 5; have hfz8_6 := blk_frozen BK115.out 6; have hfz8_7 := blk_frozen BK115.out 7; have hfz8_8 := blk_frozen BK115.out 8; have hfz8_9 := blk_frozen BK115.out 9; have hfz8_10 := blk_frozen BK115.out 10; have hfz8_11 := blk_frozen BK115.out 11))
       (try simp only [Act.put, List.setIfInBounds_toArray, List.set_cons_zero, List.set_cons_succ])
       go_cut [40] (fun v40 wc => ∃ (kq : Nat) (x40_5 : Bool), v40 = .bool x40_5 ∧ Aside0 (board_Check.j1 kq l0 l0 (l0.length : Int) x10_1 x40_5 = some r) ∧ Aside0 (kq ≤ k1) ∧ Aside0 (wc.heap[gb115]? = some (.cells #[.int .i64 ((rd_T38 l0 x10_1).f0), .int .i64 ((rd_T38 l0 x10_1).f1), .bool ((rd_T38 l0 x10_1).f2), .int .i64 ((rd_T38 l0 x10_1).f3), .int .i64 ((rd_T38 l0 x10_1).f4), .bool ((rd_T38 l0 x10_1).f5), .bool ((rd_T38 l0 x10_1).f6), .bool ((rd_T38 l0 x10_1).f7), .int .i64 ((rd_T38 l0 x10_1).f8), .int .i64 ((rd_T38 l0 x10_1).f9), .int .i64 ((rd_T38 l0 x10_1).f10), .bool ((rd_T38 l0 x10_1).f11)] 38 (0, 0))) ∧ Aside0 (Below w.heap.size w wc))
       case first =>
        have H := HC6.out
        clear HC6
        replace H := Option.bind_eq_some_iff.mp H
        obtain ⟨t116, A90, H⟩ := H
        replace H : (if t116 = true then (if x10_1 > 0 then (if 0 ≤ (wrap64 (x10_1 - 1)) then (if (wrap64 (x10_1 - 1)) < (l0.length : Int) then (if ((rd_T38 l0 (wrap64 (x10_1 - 1))).f1) = ((rd_T38 l0 x10_1).f0) then (board_Check.j1 k1 l0 l0 (l0.length : Int) x10_1 ((rd_T38 l0 (wrap64 (x10_1 - 1))).f2)) else (board_Check.j1 k1 l0 l0 (l0.length : Int) x10_1 true)) else (none)) else (none)) else (board_Check.j1 k1 l0 l0 (l0.length : Int) x10_1 false)) else (board_Check.j1 k1 l0 l0 (l0.length : Int) x10_1 true)) = some r := H
        have A9 := Aside0.mk A90
        clear A90
        by_cases c10 : t116 = true
        ·subst c10
         have H1 : (if x10_1 > 0 then (if 0 ≤ (wrap64 (x10_1 - 1)) then (if (wrap64 (x10_1 - 1)) < (l0.length : Int) then (if ((rd_T38 l0 (wrap64 (x10_1 - 1))).f1) = ((rd_T38 l0 x10_1).f0) then (board_Check.j1 k1 l0 l0 (l0.length : Int) x10_1 ((rd_T38 l0 (wrap64 (x10_1 - 1))).f2)) else (board_Check.j1 k1 l0 l0 (l0.length : Int) x10_1 true)) else (none)) else (none)) else (board_Check.j1 k1 l0 l0 (l0.length : Int) x10_1 false)) = some r := by rw [if_pos rfl] at H; exact H
         clear H
         have H := H1
         clear H1
         by_cases c11 : x10_1 > 0
         ·rw [if_pos c11] at H
          have c11b0 : decide (0 < x10_1) = true := decide_eq_true c11
          clear c11
          (first | rw [c11b0] | (simp only [i64_w, i32_w]; rw [c11b0]) | skip)
          obtain ⟨ji12, hji12⟩ : ∃ j_ : Int, (wrap64 (x10_1 - 1)) = j_ := ⟨_, rfl⟩
          replace H : (if 0 ≤ (ji12) then (if (ji12) < (l0.length : Int) then (if ((rd_T38 l0 (ji12)).f1) = ((rd_T38 l0 x10_1).f0) then (board_Check.j1 k1 l0 l0 (l0.length : Int) x10_1 ((rd_T38 l0 (ji12)).f2)) else (board_Check.j1 k1 l0 l0 (l0.length : Int) x10_1 true)) else (none)) else (none)) = some r := by first | (rw [hji12] at H; exact H) | (simp only [hji12] at H ⊢; exact H)
          (try rw [hji12] at A9)
          have hji12w : (IntKind.i64.wrap (x10_1 - 1)) = ji12 := (i64_w _).trans hji12
          by_cases c13 : 0 ≤ (ji12)
          ·rw [if_pos c13] at H
           have c13b0 : decide (0 ≤ (ji12)) = true := decide_eq_true c13
           clear c13
           by_cases c14 : (ji12) < (l0.length : Int)
           ·rw [if_pos c14] at H
            have c14b0 : decide ((ji12) < (l0.length : Int)) = true := decide_eq_true c14
            clear c14
            by_cases c15 : ((rd_T38 l0 (ji12)).f1) = ((rd_T38 l0 x10_1).f0)
            ·rw [if_pos c15] at H
             have c15b0 : (((rd_T38 l0 (ji12)).f1) == ((rd_T38 l0 x10_1).f0)) = true := beq_iff_eq.mpr c15
             have c15b1 : (((rd_T38 l0 (ji12)).f1) != ((rd_T38 l0 x10_1).f0)) = false := bne_eq_false_iff_eq.mpr c15
             clear c15
             have H' := Aside0.mk H
             clear H
             try go_wp2
             have n0_ : Aside0 (((((((((((((w7.setCell ⟨gb115, 0, none⟩ (.int .i64 ((rd_T38 l0 x10_1).f0))).setCell ⟨gb115, 1, none⟩ (.int .i64 ((rd_T38 l0 x10_1).f1))).setCell ⟨gb115, 2, none⟩ (.bool ((rd_T38 l0 x10_1).f2))).setCell ⟨gb115, 3, none⟩ (.int .i64 ((rd_T38 l0 x10_1).f3))).setCell ⟨gb115, 4, none⟩ (.int .i64 ((rd_T38 l0 x10_1).f4))).setCell ⟨gb115, 5, none⟩ (.bool ((rd_T38 l0 x10_1).f5))).setCell ⟨gb115, 6, none⟩ (.bool ((rd_T38 l0 x10_1).f6))).setCell ⟨gb115, 7, none⟩ (.bool ((rd_T38 l0 x10_1).f7))).setCell ⟨gb115, 8, none⟩ (.int .i64 ((rd_T38 l0 x10_1).f8))).setCell ⟨gb115, 9, none⟩ (.int .i64 ((rd_T38 l0 x10_1).f9))).setCell ⟨gb115, 10, none⟩ (.int .i64 ((rd_T38 l0 x10_1).f10))).setCell ⟨gb115, 11, none⟩ (.bool ((rd_T38 l0 x10_1).f11))).heap[gb115]? = some (.cells #[.int .i64 ((rd_T38 l0 x10_1).f0), .int .i64 ((rd_T38 l0 x10_1).f1), .bool ((rd_T38 l0 x10_1).f2), .int .i64 ((rd_T38 l0 x10_1).f3), .int .i64 ((rd_T38 l0 x10_1).f4), .bool ((rd_T38 l0 x10_1).f5), .bool ((rd_T38 l0 x10_1).f6), .bool ((rd_T38 l0 x10_1).f7), .int .i64 ((rd_T38 l0 x10_1).f8), .int .i64 ((rd_T38 l0 x10_1).f9), .int .i64 ((rd_T38 l0 x10_1).f10), .bool ((rd_T38 l0 x10_1).f11)] 38 (0, 0))) := ⟨by (with_reducible repeat (first | refine blk_drewN ?_ _ | refine blk_drew ?_ | refine blk_alloc ?_ _)); refine blk_put (cs := #[.int .i64 ((rd_T38 l0 x10_1).f0), .int .i64 ((rd_T38 l0 x10_1).f1), .bool ((rd_T38 l0 x10_1).f2), .int .i64 ((rd_T38 l0 x10_1).f3), .int .i64 ((rd_T38 l0 x10_1).f4), .bool ((rd_T38 l0 x10_1).f5), .bool ((rd_T38 l0 x10_1).f6), .bool ((rd_T38 l0 x10_1).f7), .int .i64 ((rd_T38 l0 x10_1).f8), .int .i64 ((rd_T38 l0 x10_1).f9), .int .i64 ((rd_T38 l0 x10_1).f10), .bool false]) ?_ 11 _ rfl; (with_reducible repeat (first | refine blk_drewN ?_ _ | refine blk_drew ?_ | refine blk_alloc ?_ _)); refine blk_put (cs := #[.int .i64 ((rd_T38 l0 x10_1).f0), .int .i64 ((rd_T38 l0 x10_1).f1), .bool ((rd_T38 l0 x10_1).f2), .int .i64 ((rd_T38 l0 x10_1).f3), .int .i64 ((rd_T38 l0 x10_1).f4), .bool ((rd_T38 l0 x10_1).f5), .bool ((rd_T38 l0 x10_1).f6), .bool ((rd_T38 l0 x10_1).f7), .int .i64 ((rd_T38 l0 x10_1).f8), .int .i64 ((rd_T38 l0 x10_1).f9), .int .i64 0, .bool false]) ?_ 10 _ rfl; (with_reducible repeat (first | refine blk_drewN ?_ _ | refine blk_drew ?_ | refine blk_alloc ?_ _)); refine blk_put (cs := #[.int .i64 ((rd_T38 l0 x10_1).f0), .int .i64 ((rd_T38 l0 x10_1).f1), .bool ((rd_T38 l0 x10_1).f2), .int .i64 ((rd_T38 l0 x10_1).f3), .int .i64 ((rd_T38 l0 x10_1).f4), .bool ((rd_T38 l0 x10_1).f5), .bool ((rd_T38 l0 x10_1).f6), .bool ((rd_T38 l0 x10_1).f7), .int .i64 ((rd_T38 l0 x10_1).f8), .int .i64 0, .int .i64 0, .bool false]) ?_ 9 _ rfl; (with_reducible repeat (first | refine blk_drewN ?_ _ | refine blk_drew ?_ | refine blk_alloc ?_ _)); refine blk_put (cs := #[.int .i64 ((rd_T38 l0 x10_1).f0), .int .i64 ((rd_T38 l0 x10_1).f1), .bool ((rd_T38 l0 x10_1).f2), .int .i64 ((rd_T38 l0 x10_1).f3), .int .i64 ((rd_T38 l0 x10_1).f4), .bool ((rd_T38 l0 x10_1).f5), .bool ((rd_T38 l0 x10_1).f6), .bool ((rd_T38 l0 x10_1).f7), .int .i64 0, .int .i64 0, .int .i64 0, .bool false]) ?_ 8 _ rfl; (with_reducible repeat (first | refine blk_drewN ?_ _ | refine blk_drew ?_ | refine blk_alloc ?_ _)); refine blk_put (cs := #[.int .i64 ((rd_T38 l0 x10_1).f0), .int .i64 ((rd_T38 l0 x10_1).f1), .bool ((rd_T38 l0 x10_1).f2), .int .i64 ((rd_T38 l0 x10_1).f3), .int .i64 ((rd_T38 l0 x10_1).f4), .bool ((rd_T38 l0 x10_1).f5), .bool ((rd_T38 l0 x10_1).f6), .bool false, .int .i64 0, .int .i64 0, .int .i64 0, .bool false]) ?_ 7 _ rfl; (with_reducible repeat (first | refine blk_drewN ?_ _ | refine blk_drew ?_ | refine blk_alloc ?_ _)); refine blk_put (cs := #[.int .i64 ((rd_T38 l0 x10_1).f0), .int .i64 ((rd_T38 l0 x10_1).f1), .bool ((rd_T38 l0 x10_1).f2), .int .i64 ((rd_T38 l0 x10_1).f3), .int .i64 ((rd_T38 l0 x10_1).f4), .bool ((rd_T38 l0 x10_1).f5), .bool false, .bool false, .int .i64 0, .int .i64 0, .int .i64 0, .bool false]) ?_ 6 _ rfl; (with_reducible repeat (first | refine blk_drewN ?_ _ | refine blk_drew ?_ | refine blk_alloc ?_ _)); refine blk_put (cs := #[.int .i64 ((rd_T38 l0 x10_1).f0), .int .i64 ((rd_T38 l0 x10_1).f1), .bool ((rd_T38 l0 x10_1).f2), .int .i64 ((rd_T38 l0 x10_1).f3), .int .i64 ((rd_T38 l0 x10_1).f4), .bool false, .bool false, .bool false, .int .i64 0, .int .i64 0, .int .i64 0, .bool false]) ?_ 5 _ rfl; (with_reducible repeat (first | refine blk_drewN ?_ _ | refine blk_drew ?_ | refine blk_alloc ?_ _)); refine blk_put (cs := #[.int .i64 ((rd_T38 l0 x10_1).f0), .int .i64 ((rd_T38 l0 x10_1).f1), .bool ((rd_T38 l0 x10_1).f2), .int .i64 ((rd_T38 l0 x10_1).f3), .int .i64 0, .bool false, .bool false, .bool false, .int .i64 0, .int .i64 0, .int .i64 0, .bool false]) ?_ 4 _ rfl; (with_reducible repeat (first | refine blk_drewN ?_ _ | refine blk_drew ?_ | refine blk_alloc ?_ _)); refine blk_put (cs := #[.int .i64 ((rd_T38 l0 x10_1).f0), .int .i64 ((rd_T38 l0 x10_1).f1), .bool ((rd_T38 l0 x10_1).f2), .int .i64 0, .int .i64 0, .bool false, .bool false, .bool false, .int .i64 0, .int .i64 0, .int .i64 0, .bool false]) ?_ 3 _ rfl; (with_reducible repeat (first | refine blk_drewN ?_ _ | refine blk_drew ?_ | refine blk_alloc ?_ _)); refine blk_put (cs := #[.int .i64 ((rd_T38 l0 x10_1).f0), .int .i64 ((rd_T38 l0 x10_1).f1), .bool false, .int .i64 0, .int .i64 0, .bool false, .bool false, .bool false, .int .i64 0, .int .i64 0, .int .i64 0, .bool false]) ?_ 2 _ rfl; (with_reducible repeat (first | refine blk_drewN ?_ _ | refine blk_drew ?_ | refine blk_alloc ?_ _)); refine blk_put (cs := #[.int .i64 ((rd_T38 l0 x10_1).f0), .int .i64 0, .bool false, .int .i64 0, .int .i64 0, .bool false, .bool false, .bool false, .int .i64 0, .int .i64 0, .int .i64 0, .bool false]) ?_ 1 _ rfl; (with_reducible repeat (first | refine blk_drewN ?_ _ | refine blk_drew ?_ | refine blk_alloc ?_ _)); refine blk_put (cs := #[.int .i64 0, .int .i64 0, .bool false, .int .i64 0, .int .i64 0, .bool false, .bool false, .bool false, .int .i64 0, .int .i64 0, .int .i64 0, .bool false]) ?_ 0 _ rfl; (with_reducible repeat (first | refine blk_drewN ?_ _ | refine blk_drew ?_ | refine blk_alloc ?_ _)); exact BK115.out⟩
             have n1_ : Aside0 (Below w.heap.size w ((((((((((((w7.setCell ⟨gb115, 0, none⟩ (.int .i64 ((rd_T38 l0 x10_1).f0))).setCell ⟨gb115, 1, none⟩ (.int .i64 ((rd_T38 l0 x10_1).f1))).setCell ⟨gb115, 2, none⟩ (.bool ((rd_T38 l0 x10_1).f2))).setCell ⟨gb115, 3, none⟩ (.int .i64 ((rd_T38 l0 x10_1).f3))).setCell ⟨gb115, 4, none⟩ (.int .i64 ((rd_T38 l0 x10_1).f4))).setCell ⟨gb115, 5, none⟩ (.bool ((rd_T38 l0 x10_1).f5))).setCell ⟨gb115, 6, none⟩ (.bool ((rd_T38 l0 x10_1).f6))).setCell ⟨gb115, 7, none⟩ (.bool ((rd_T38 l0 x10_1).f7))).setCell ⟨gb115, 8, none⟩ (.int .i64 ((rd_T38 l0 x10_1).f8))).setCell ⟨gb115, 9, none⟩ (.int .i64 ((rd_T38 l0 x10_1).f9))).setCell ⟨gb115, 10, none⟩ (.int .i64 ((rd_T38 l0 x10_1).f10))).setCell ⟨gb115, 11, none⟩ (.bool ((rd_T38 l0 x10_1).f11)))) := ⟨by repeat (first | (with_reducible first | exact HB.out | apply below_alloc | apply pw_below_drewN | apply below_drew1 | refine below_set ?_ GE115.out) | exact HB.out)⟩
             (try clear BK115)
             (try clear HB)
             generalize ((((((((((((w7.setCell ⟨gb115, 0, none⟩ (.int .i64 ((rd_T38 l0 x10_1).f0))).setCell ⟨gb115, 1, none⟩ (.int .i64 ((rd_T38 l0 x10_1).f1))).setCell ⟨gb115, 2, none⟩ (.bool ((rd_T38 l0 x10_1).f2))).setCell ⟨gb115, 3, none⟩ (.int .i64 ((rd_T38 l0 x10_1).f3))).setCell ⟨gb115, 4, none⟩ (.int .i64 ((rd_T38 l0 x10_1).f4))).setCell ⟨gb115, 5, none⟩ (.bool ((rd_T38 l0 x10_1).f5))).setCell ⟨gb115, 6, none⟩ (.bool ((rd_T38 l0 x10_1).f6))).setCell ⟨gb115, 7, none⟩ (.bool ((rd_T38 l0 x10_1).f7))).setCell ⟨gb115, 8, none⟩ (.int .i64 ((rd_T38 l0 x10_1).f8))).setCell ⟨gb115, 9, none⟩ (.int .i64 ((rd_T38 l0 x10_1).f9))).setCell ⟨gb115, 10, none⟩ (.int .i64 ((rd_T38 l0 x10_1).f10))).setCell ⟨gb115, 11, none⟩ (.bool ((rd_T38 l0 x10_1).f11))) = w16 at n0_ n1_ ⊢
             have BK115 := n0_
             have HB := n1_
             clear n0_ n1_
             have n0_ := Aside0.mk (blk_drew BK115.out)
             have n1_ := Aside0.mk (below_drew1 HB.out)
             clear BK115
             clear HB
             have BK115 := n0_
             have HB := n1_
             clear n0_ n1_
             have p117 : 0 ≤ ((ji12) : Int) := of_decide_eq_true (by first | (with_reducible assumption) | assumption)
             have q117 : (ji12) < (l0.length : Int) := of_decide_eq_true (by first | (with_reducible assumption) | assumption)
             obtain ⟨ad117, e117, hx117_0, hx117_1, hx117_2, hx117_3, hx117_4, hx117_5, hx117_6, hx117_7, hx117_8, hx117_9, hx117_10, hx117_11⟩ := at_T38 HR0.out (ji12) p117 q117
             have hw117_11 := hx117_11
             have hw117_10 := hx117_10
             have hw117_9 := hx117_9
             have hw117_8 := hx117_8
             have hw117_7 := hx117_7
             have hw117_6 := hx117_6
             have hw117_5 := hx117_5
             have hw117_4 := hx117_4
             have hw117_3 := hx117_3
             have hw117_2 := hx117_2
             have hw117_1 := hx117_1
             have hw117_0 := hx117_0
             obtain rfl : ad114 = ad117 := (by injection e117)
             replace hx117_0 := (HB.out.cell (World.block_lt_of_cell? w _ hx117_0)).trans hx117_0
             replace hx117_1 := (HB.out.cell (World.block_lt_of_cell? w _ hx117_1)).trans hx117_1
             replace hx117_2 := (HB.out.cell (World.block_lt_of_cell? w _ hx117_2)).trans hx117_2
             replace hx117_3 := (HB.out.cell (World.block_lt_of_cell? w _ hx117_3)).trans hx117_3
             replace hx117_4 := (HB.out.cell (World.block_lt_of_cell? w _ hx117_4)).trans hx117_4
             replace hx117_5 := (HB.out.cell (World.block_lt_of_cell? w _ hx117_5)).trans hx117_5
             replace hx117_6 := (HB.out.cell (World.block_lt_of_cell? w _ hx117_6)).trans hx117_6
             replace hx117_7 := (HB.out.cell (World.block_lt_of_cell? w _ hx117_7)).trans hx117_7
             replace hx117_8 := (HB.out.cell (World.block_lt_of_cell? w _ hx117_8)).trans hx117_8
             replace hx117_9 := (HB.out.cell (World.block_lt_of_cell? w _ hx117_9)).trans hx117_9
             replace hx117_10 := (HB.out.cell (World.block_lt_of_cell? w _ hx117_10)).trans hx117_10
             replace hx117_11 := (HB.out.cell (World.block_lt_of_cell? w _ hx117_11)).trans hx117_11
             replace p117 := eq_true p117
             replace q117 := eq_true q117
             have p118 : 0 ≤ ((ji12) : Int) := of_decide_eq_true (by first | (with_reducible assumption) | assumption)
             have q118 : (ji12) < (l0.length : Int) := of_decide_eq_true (by first | (with_reducible assumption) | assumption)
             obtain ⟨ad118, e118, hx118_0, hx118_1, hx118_2, hx118_3, hx118_4, hx118_5, hx118_6, hx118_7, hx118_8, hx118_9, hx118_10, hx118_11⟩ := at_T38 HR0.out (ji12) p118 q118
             have hw118_11 := hx118_11
             have hw118_10 := hx118_10
             have hw118_9 := hx118_9
             have hw118_8 := hx118_8
             have hw118_7 := hx118_7
             have hw118_6 := hx118_6
             have hw118_5 := hx118_5
             have hw118_4 := hx118_4
             have hw118_3 := hx118_3
             have hw118_2 := hx118_2
             have hw118_1 := hx118_1
             have hw118_0 := hx118_0
             obtain rfl : ad114 = ad118 := (by injection e118)
             replace hx118_0 := (HB.out.cell (World.block_lt_of_cell? w _ hx118_0)).trans hx118_0
             replace hx118_1 := (HB.out.cell (World.block_lt_of_cell? w _ hx118_1)).trans hx118_1
             replace hx118_2 := (HB.out.cell (World.block_lt_of_cell? w _ hx118_2)).trans hx118_2
             replace hx118_3 := (HB.out.cell (World.block_lt_of_cell? w _ hx118_3)).trans hx118_3
             replace hx118_4 := (HB.out.cell (World.block_lt_of_cell? w _ hx118_4)).trans hx118_4
             replace hx118_5 := (HB.out.cell (World.block_lt_of_cell? w _ hx118_5)).trans hx118_5
             replace hx118_6 := (HB.out.cell (World.block_lt_of_cell? w _ hx118_6)).trans hx118_6
             replace hx118_7 := (HB.out.cell (World.block_lt_of_cell? w _ hx118_7)).trans hx118_7
             replace hx118_8 := (HB.out.cell (World.block_lt_of_cell? w _ hx118_8)).trans hx118_8
             replace hx118_9 := (HB.out.cell (World.block_lt_of_cell? w _ hx118_9)).trans hx118_9
             replace hx118_10 := (HB.out.cell (World.block_lt_of_cell? w _ hx118_10)).trans hx118_10
             replace hx118_11 := (HB.out.cell (World.block_lt_of_cell? w _ hx118_11)).trans hx118_11
             replace p118 := eq_true p118
             replace q118 := eq_true q118
             refine start_ (n := 26) (S := fun w' => w'.cell? ⟨gb115, 0, none⟩ = some (.int .i64 ((rd_T38 l0 x10_1).f0)) ∧ w'.cell? ⟨gb115, 1, none⟩ = some (.int .i64 ((rd_T38 l0 x10_1).f1)) ∧ w'.cell? ⟨gb115, 2, none⟩ = some (.bool ((rd_T38 l0 x10_1).f2)) ∧ w'.cell? ⟨gb115, 3, none⟩ = some (.int .i64 ((rd_T38 l0 x10_1).f3)) ∧ w'.cell? ⟨gb115, 4, none⟩ = some (.int .i64 ((rd_T38 l0 x10_1).f4)) ∧ w'.cell? ⟨gb115, 5, none⟩ = some (.bool ((rd_T38 l0 x10_1).f5)) ∧ w'.cell? ⟨gb115, 6, none⟩ = some (.bool ((rd_T38 l0 x10_1).f6)) ∧ w'.cell? ⟨gb115, 7, none⟩ = some (.bool ((rd_T38 l0 x10_1).f7)) ∧ w'.cell? ⟨gb115, 8, none⟩ = some (.int .i64 ((rd_T38 l0 x10_1).f8)) ∧ w'.cell? ⟨gb115, 9, none⟩ = some (.int .i64 ((rd_T38 l0 x10_1).f9)) ∧ w'.cell? ⟨gb115, 10, none⟩ = some (.int .i64 ((rd_T38 l0 x10_1).f10)) ∧ w'.cell? ⟨gb115, 11, none⟩ = some (.bool ((rd_T38 l0 x10_1).f11)) ∧ w'.cell? (ad114.add (((ji12)).toNat * 12)) = some (.int .i64 ((rd_T38 l0 (ji12)).f0)) ∧ w'.cell? ⟨(ad114.add (((ji12)).toNat * 12)).block, (ad114.add (((ji12)).toNat * 12)).off + 1, none⟩ = some (.int .i64 ((rd_T38 l0 (ji12)).f1)) ∧ w'.cell? ⟨(ad114.add (((ji12)).toNat * 12)).block, (ad114.add (((ji12)).toNat * 12)).off + 2, none⟩ = some (.bool ((rd_T38 l0 (ji12)).f2)) ∧ w'.cell? ⟨(ad114.add (((ji12)).toNat * 12)).block, (ad114.add (((ji12)).toNat * 12)).off + 3, none⟩ = some (.int .i64 ((rd_T38 l0 (ji12)).f3)) ∧ w'.cell? ⟨(ad114.add (((ji12)).toNat * 12)).block, (ad114.add (((ji12)).toNat * 12)).off + 4, none⟩ = some (.int .i64 ((rd_T38 l0 (ji12)).f4)) ∧ w'.cell? ⟨(ad114.add (((ji12)).toNat * 12)).block, (ad114.add (((ji12)).toNat * 12)).off + 5, none⟩ = some (.bool ((rd_T38 l0 (ji12)).f5)) ∧ w'.cell? ⟨(ad114.add (((ji12)).toNat * 12)).block, (ad114.add (((ji12)).toNat * 12)).off + 6, none⟩ = some (.bool ((rd_T38 l0 (ji12)).f6)) ∧ w'.cell? ⟨(ad114.add (((ji12)).toNat * 12)).block, (ad114.add (((ji12)).toNat * 12)).off + 7, none⟩ = some (.bool ((rd_T38 l0 (ji12)).f7)) ∧ w'.cell? ⟨(ad114.add (((ji12)).toNat * 12)).block, (ad114.add (((ji12)).toNat * 12)).off + 8, none⟩ = some (.int .i64 ((rd_T38 l0 (ji12)).f8)) ∧ w'.cell? ⟨(ad114.add (((ji12)).toNat * 12)).block, (ad114.add (((ji12)).toNat * 12)).off + 9, none⟩ = some (.int .i64 ((rd_T38 l0 (ji12)).f9)) ∧ w'.cell? ⟨(ad114.add (((ji12)).toNat * 12)).block, (ad114.add (((ji12)).toNat * 12)).off + 10, none⟩ = some (.int .i64 ((rd_T38 l0 (ji12)).f10)) ∧ w'.cell? ⟨(ad114.add (((ji12)).toNat * 12)).block, (ad114.add (((ji12)).toNat * 12)).off + 11, none⟩ = some (.bool ((rd_T38 l0 (ji12)).f11)) ∧ w'.cell? (ad114.add (((ji12)).toNat * 12)) = some (.int .i64 ((rd_T38 l0 (ji12)).f0)) ∧ w'.cell? ⟨(ad114.add (((ji12)).toNat * 12)).block, (ad114.add (((ji12)).toNat * 12)).off + 1, none⟩ = some (.int .i64 ((rd_T38 l0 (ji12)).f1)) ∧ w'.cell? ⟨(ad114.add (((ji12)).toNat * 12)).block, (ad114.add (((ji12)).toNat * 12)).off + 2, none⟩ = some (.bool ((rd_T38 l0 (ji12)).f2)) ∧ w'.cell? ⟨(ad114.add (((ji12)).toNat * 12)).block, (ad114.add (((ji12)).toNat * 12)).off + 3, none⟩ = some (.int .i64 ((rd_T38 l0 (ji12)).f3)) ∧ w'.cell? ⟨(ad114.add (((ji12)).toNat * 12)).block, (ad114.add (((ji12)).toNat * 12)).off + 4, none⟩ = some (.int .i64 ((rd_T38 l0 (ji12)).f4)) ∧ w'.cell? ⟨(ad114.add (((ji12)).toNat * 12)).block, (ad114.add (((ji12)).toNat * 12)).off + 5, none⟩ = some (.bool ((rd_T38 l0 (ji12)).f5)) ∧ w'.cell? ⟨(ad114.add (((ji12)).toNat * 12)).block, (ad114.add (((ji12)).toNat * 12)).off + 6, none⟩ = some (.bool ((rd_T38 l0 (ji12)).f6)) ∧ w'.cell? ⟨(ad114.add (((ji12)).toNat * 12)).block, (ad114.add (((ji12)).toNat * 12)).off + 7, none⟩ = some (.bool ((rd_T38 l0 (ji12)).f7)) ∧ w'.cell? ⟨(ad114.add (((ji12)).toNat * 12)).block, (ad114.add (((ji12)).toNat * 12)).off + 8, none⟩ = some (.int .i64 ((rd_T38 l0 (ji12)).f8)) ∧ w'.cell? ⟨(ad114.add (((ji12)).toNat * 12)).block, (ad114.add (((ji12)).toNat * 12)).off + 9, none⟩ = some (.int .i64 ((rd_T38 l0 (ji12)).f9)) ∧ w'.cell? ⟨(ad114.add (((ji12)).toNat * 12)).block, (ad114.add (((ji12)).toNat * 12)).off + 10, none⟩ = some (.int .i64 ((rd_T38 l0 (ji12)).f10)) ∧ w'.cell? ⟨(ad114.add (((ji12)).toNat * 12)).block, (ad114.add (((ji12)).toNat * 12)).off + 11, none⟩ = some (.bool ((rd_T38 l0 (ji12)).f11))) (ds := []) #[false, false, false, false, false, false, false, false, false, false, false, false, false, false, false, false, false, false, false, false, false, false, false, false, false, false] (by kernel_rfl) rfl rfl ⟨(blk_cell BK115.out 0).trans rfl, (blk_cell BK115.out 1).trans rfl, (blk_cell BK115.out 2).trans rfl, (blk_cell BK115.out 3).trans rfl, (blk_cell BK115.out 4).trans rfl, (blk_cell BK115.out 5).trans rfl, (blk_cell BK115.out 6).trans rfl, (blk_cell BK115.out 7).trans rfl, (blk_cell BK115.out 8).trans rfl, (blk_cell BK115.out 9).trans rfl, (blk_cell BK115.out 10).trans rfl, (blk_cell BK115.out 11).trans rfl, ((HB.out.cell (World.block_lt_of_cell? w _ hw117_0)).trans hw117_0), ((HB.out.cell (World.block_lt_of_cell? w _ hw117_1)).trans hw117_1), ((HB.out.cell (World.block_lt_of_cell? w _ hw117_2)).trans hw117_2), ((HB.out.cell (World.block_lt_of_cell? w _ hw117_3)).trans hw117_3), ((HB.out.cell (World.block_lt_of_cell? w _ hw117_4)).trans hw117_4), ((HB.out.cell (World.block_lt_of_cell? w _ hw117_5)).trans hw117_5), ((HB.out.cell (World.block_lt_of_cell? w _ hw117_6)).trans hw117_6), ((HB.out.cell (World.block_lt_of_cell? w _ hw117_7)).trans hw117_7), ((HB.out.cell (World.block_lt_of_cell? w _ hw117_8)).trans hw117_8), ((HB.out.cell (World.block_lt_of_cell? w _ hw117_9)).trans hw117_9), ((HB.out.cell (World.block_lt_of_cell? w _ hw117_10)).trans hw117_10), ((HB.out.cell (World.block_lt_of_cell? w _ hw117_11)).trans hw117_11), ((HB.out.cell (World.block_lt_of_cell? w _ hw118_0)).trans hw118_0), ((HB.out.cell (World.block_lt_of_cell? w _ hw118_1)).trans hw118_1), ((HB.out.cell (World.block_lt_of_cell? w _ hw118_2)).trans hw118_2), ((HB.out.cell (World.block_lt_of_cell? w _ hw118_3)).trans hw118_3), ((HB.out.cell (World.block_lt_of_cell? w _ hw118_4)).trans hw118_4), ((HB.out.cell (World.block_lt_of_cell? w _ hw118_5)).trans hw118_5), ((HB.out.cell (World.block_lt_of_cell? w _ hw118_6)).trans hw118_6), ((HB.out.cell (World.block_lt_of_cell? w _ hw118_7)).trans hw118_7), ((HB.out.cell (World.block_lt_of_cell? w _ hw118_8)).trans hw118_8), ((HB.out.cell (World.block_lt_of_cell? w _ hw118_9)).trans hw118_9), ((HB.out.cell (World.block_lt_of_cell? w _ hw118_10)).trans hw118_10), ((HB.out.cell (World.block_lt_of_cell? w _ hw118_11)).trans hw118_11)⟩ (fun hHeld => ?_); refine with_tabW board_Check.tab6 board_Check.bits6 (fun HT_ HW_ => ?_)
             generalize w16.drew = w17 at BK115 HB hx117_0 hx117_1 hx117_10 hx117_11 hx117_2 hx117_3 hx117_4 hx117_5 hx117_6 hx117_7 hx117_8 hx117_9 hx118_0 hx118_1 hx118_10 hx118_11 hx118_2 hx118_3 hx118_4 hx118_5 hx118_6 hx118_7 hx118_8 hx118_9 hHeld ⊢
             refine take_ (i := 0) (N := some 15) (v := ?_) (a' := ?_) #[true, false, false, false, false, false, false, false, false, false, false, false, false, false, false, false, false, false, false, false, false, false, false, false, false, false] rfl rfl (take_ofW HT_.out HW_.out (by kernel_rfl)) (fun _ _ _ h => h) (Or.inl ⟨by rfl, ?_⟩) hHeld ?_ ?_
             rotate_left
             ·rintro w' ⟨s0, s1, s2, s3, s4, s5, s6, s7, s8, s9, s10, s11, s12, s13, s14, s15, s16, s17, s18, s19, s20, s21, s22, s23, s24, s25, s26, s27, s28, s29, s30, s31, s32, s33, s34, s35⟩
              go_simp
              with_reducible rfl
             rotate_left
             ·simp only [Act.put, List.setIfInBounds_toArray, List.set_cons_zero, List.set_cons_succ, i64_w, i32_w]
              rfl
             refine one_ (i := 1) (N := some 16) #[true, true, false, false, false, false, false, false, false, false, false, false, false, false, false, false, false, false, false, false, false, false, false, false, false, false] rfl rfl (one_of HT_.out (by kernel_rfl)) (by decide) (fun K hK => ?_)
             refine goes_ Try.func40 (by kernel_rfl) rfl #[.agg #[.int .i64 ((rd_T38 l0 x10_1).f0), .int .i64 ((rd_T38 l0 x10_1).f1), .bool ((rd_T38 l0 x10_1).f2), .int .i64 ((rd_T38 l0 x10_1).f3), .int .i64 ((rd_T38 l0 x10_1).f4), .bool ((rd_T38 l0 x10_1).f5), .bool ((rd_T38 l0 x10_1).f6), .bool ((rd_T38 l0 x10_1).f7), .int .i64 ((rd_T38 l0 x10_1).f8), .int .i64 ((rd_T38 l0 x10_1).f9), .int .i64 ((rd_T38 l0 x10_1).f10), .bool ((rd_T38 l0 x10_1).f11)]] (by rfl) rfl rfl (by (try simp only [List.map_toArray, List.map_cons, List.map_nil]); first | done | rfl | (simp only [List.length_drop, List.length_take]; rfl)) ?_
             with_reducible refine (board_may.calls ((rd_T38 l0 x10_1).f0) ((rd_T38 l0 x10_1).f1) ((rd_T38 l0 x10_1).f2) ((rd_T38 l0 x10_1).f3) ((rd_T38 l0 x10_1).f4) ((rd_T38 l0 x10_1).f5) ((rd_T38 l0 x10_1).f6) ((rd_T38 l0 x10_1).f7) ((rd_T38 l0 x10_1).f8) ((rd_T38 l0 x10_1).f9) ((rd_T38 l0 x10_1).f10) ((rd_T38 l0 x10_1).f11) true _ A9.out).mono ?_
             rintro e w18 ⟨rfl, hb⟩
             refine ⟨_, rfl, ?_⟩
             have n0_ := Aside0.mk (blk_below (g := gb115) (o := .cells #[.int .i64 ((rd_T38 l0 x10_1).f0), .int .i64 ((rd_T38 l0 x10_1).f1), .bool ((rd_T38 l0 x10_1).f2), .int .i64 ((rd_T38 l0 x10_1).f3), .int .i64 ((rd_T38 l0 x10_1).f4), .bool ((rd_T38 l0 x10_1).f5), .bool ((rd_T38 l0 x10_1).f6), .bool ((rd_T38 l0 x10_1).f7), .int .i64 ((rd_T38 l0 x10_1).f8), .int .i64 ((rd_T38 l0 x10_1).f9), .int .i64 ((rd_T38 l0 x10_1).f10), .bool ((rd_T38 l0 x10_1).f11)] 38 (0, 0)) (by (with_reducible repeat (first | refine blk_drewN ?_ _ | refine blk_drew ?_ | refine blk_alloc ?_ _)); exact BK115.out) hb)
             have n1_ := Aside0.mk (below_step (by repeat (first | (with_reducible first | exact HB.out | apply below_alloc | apply pw_below_drewN | apply below_drew1 | refine below_set ?_ GE115.out) | exact HB.out)) hb)
             clear BK115
             clear HB
             have BK115 := n0_
             have HB := n1_
             clear n0_ n1_
             (try clear hb)
             (try clear hb2)
             (try clear hk)
             (try clear hi)
             refine hK.out _ _ ⟨(blk_cell BK115.out 0).trans rfl, (blk_cell BK115.out 1).trans rfl, (blk_cell BK115.out 2).trans rfl, (blk_cell BK115.out 3).trans rfl, (blk_cell BK115.out 4).trans rfl, (blk_cell BK115.out 5).trans rfl, (blk_cell BK115.out 6).trans rfl, (blk_cell BK115.out 7).trans rfl, (blk_cell BK115.out 8).trans rfl, (blk_cell BK115.out 9).trans rfl, (blk_cell BK115.out 10).trans rfl, (blk_cell BK115.out 11).trans rfl, ((HB.out.cell (World.block_lt_of_cell? w _ hw117_0)).trans hw117_0), ((HB.out.cell (World.block_lt_of_cell? w _ hw117_1)).trans hw117_1), ((HB.out.cell (World.block_lt_of_cell? w _ hw117_2)).trans hw117_2), ((HB.out.cell (World.block_lt_of_cell? w _ hw117_3)).trans hw117_3), ((HB.out.cell (World.block_lt_of_cell? w _ hw117_4)).trans hw117_4), ((HB.out.cell (World.block_lt_of_cell? w _ hw117_5)).trans hw117_5), ((HB.out.cell (World.block_lt_of_cell? w _ hw117_6)).trans hw117_6), ((HB.out.cell (World.block_lt_of_cell? w _ hw117_7)).trans hw117_7), ((HB.out.cell (World.block_lt_of_cell? w _ hw117_8)).trans hw117_8), ((HB.out.cell (World.block_lt_of_cell? w _ hw117_9)).trans hw117_9), ((HB.out.cell (World.block_lt_of_cell? w _ hw117_10)).trans hw117_10), ((HB.out.cell (World.block_lt_of_cell? w _ hw117_11)).trans hw117_11), ((HB.out.cell (World.block_lt_of_cell? w _ hw118_0)).trans hw118_0), ((HB.out.cell (World.block_lt_of_cell? w _ hw118_1)).trans hw118_1), ((HB.out.cell (World.block_lt_of_cell? w _ hw118_2)).trans hw118_2), ((HB.out.cell (World.block_lt_of_cell? w _ hw118_3)).trans hw118_3), ((HB.out.cell (World.block_lt_of_cell? w _ hw118_4)).trans hw118_4), ((HB.out.cell (World.block_lt_of_cell? w _ hw118_5)).trans hw118_5), ((HB.out.cell (World.block_lt_of_cell? w _ hw118_6)).trans hw118_6), ((HB.out.cell (World.block_lt_of_cell? w _ hw118_7)).trans hw118_7), ((HB.out.cell (World.block_lt_of_cell? w _ hw118_8)).trans hw118_8), ((HB.out.cell (World.block_lt_of_cell? w _ hw118_9)).trans hw118_9), ((HB.out.cell (World.block_lt_of_cell? w _ hw118_10)).trans hw118_10), ((HB.out.cell (World.block_lt_of_cell? w _ hw118_11)).trans hw118_11)⟩ (fun hHeld => ?_)
             clear hK K
             refine norm_ (a' := ?_) ?_ ?_
             rotate_left
             ·show Act.put _ (some 16) _ = _
              simp only [Act.put, List.setIfInBounds_toArray, List.set_cons_zero, List.set_cons_succ, i64_w, i32_w]
              rfl
             refine pure_ (i := 2) (N := some 17) (v := ?_) (a' := ?_) #[true, true, true, false, false, false, false, false, false, false, false, false, false, false, false, false, false, false, false, false, false, false, false, false, false, false] rfl rfl (any_of HT_.out (by kernel_rfl)) (fun _ _ _ h => h) (Or.inl ⟨by rfl, ?_⟩) ?_ ?_
             rotate_left
             ·intro w'
              go_simp
              with_reducible rfl
             rotate_left
             ·simp only [Act.put, List.setIfInBounds_toArray, List.set_cons_zero, List.set_cons_succ, i64_w, i32_w]
              rfl
             refine pure_ (i := 3) (N := some 18) (v := ?_) (a' := ?_) #[true, true, true, true, false, false, false, false, false, false, false, false, false, false, false, false, false, false, false, false, false, false, false, false, false, false] rfl rfl (any_of HT_.out (by kernel_rfl)) (fun _ _ _ h => h) (Or.inl ⟨by rfl, ?_⟩) ?_ ?_
             rotate_left
             ·intro w'
              go_simp
              with_reducible rfl
             rotate_left
             ·simp only [Act.put, List.setIfInBounds_toArray, List.set_cons_zero, List.set_cons_succ, i64_w, i32_w]
              rfl
             refine pure_ (i := 4) (N := some 19) (v := ?_) (a' := ?_) #[true, true, true, true, true, false, false, false, false, false, false, false, false, false, false, false, false, false, false, false, false, false, false, false, false, false] rfl rfl (any_of HT_.out (by kernel_rfl)) (fun _ _ _ h => h) (Or.inl ⟨by rfl, ?_⟩) ?_ ?_
             rotate_left
             ·intro w'
              go_simp
              with_reducible rfl
             rotate_left
             ·simp only [Act.put, List.setIfInBounds_toArray, List.set_cons_zero, List.set_cons_succ, i64_w, i32_w]
              rfl
             refine pure_ (i := 5) (N := some 20) (v := ?_) (a' := ?_) #[true, true, true, true, true, true, false, false, false, false, false, false, false, false, false, false, false, false, false, false, false, false, false, false, false, false] rfl rfl (any_of HT_.out (by kernel_rfl)) (fun _ _ _ h => h) (Or.inl ⟨by rfl, ?_⟩) ?_ ?_
             rotate_left
             ·intro w'
              go_simp
              with_reducible rfl
             rotate_left
             ·simp only [Act.put, List.setIfInBounds_toArray, List.set_cons_zero, List.set_cons_succ, i64_w, i32_w]
              rfl
             refine pure_ (i := 6) (N := some 21) (v := ?_) (a' := ?_) #[true, true, true, true, true, true, true, false, false, false, false, false, false, false, false, false, false, false, false, false, false, false, false, false, false, false] rfl rfl (any_of HT_.out (by kernel_rfl)) (fun _ _ _ h => h) (Or.inl ⟨by rfl, ?_⟩) ?_ ?_
             rotate_left
             ·intro w'
              go_simp
              with_reducible rfl
             rotate_left
             ·simp only [Act.put, List.setIfInBounds_toArray, List.set_cons_zero, List.set_cons_succ, i64_w, i32_w]
              rfl
             refine pure_ (i := 7) (N := some 22) (v := ?_) (a' := ?_) #[true, true, true, true, true, true, true, true, false, false, false, false, false, false, false, false, false, false, false, false, false, false, false, false, false, false] rfl rfl (any_of HT_.out (by kernel_rfl)) (fun _ _ _ h => h) (Or.inl ⟨by rfl, ?_⟩) ?_ ?_
             rotate_left
             ·intro w'
              go_simp
              with_reducible rfl
             rotate_left
             ·simp only [Act.put, List.setIfInBounds_toArray, List.set_cons_zero, List.set_cons_succ, i64_w, i32_w]
              rfl
             refine pure_ (i := 8) (N := some 23) (v := ?_) (a' := ?_) #[true, true, true, true, true, true, true, true, true, false, false, false, false, false, false, false, false, false, false, false, false, false, false, false, false, false] rfl rfl (any_of HT_.out (by kernel_rfl)) (fun _ _ _ h => h) (Or.inl ⟨by rfl, ?_⟩) ?_ ?_
             rotate_left
             ·intro w'
              go_simp
              with_reducible rfl
             rotate_left
             ·simp only [Act.put, List.setIfInBounds_toArray, List.set_cons_zero, List.set_cons_succ, i64_w, i32_w]
              rfl
             refine pure_ (i := 9) (N := some 24) (v := ?_) (a' := ?_) #[true, true, true, true, true, true, true, true, true, true, false, false, false, false, false, false, false, false, false, false, false, false, false, false, false, false] rfl rfl (any_of HT_.out (by kernel_rfl)) (fun _ _ _ h => h) (Or.inl ⟨by rfl, ?_⟩) ?_ ?_
             rotate_left
             ·intro w'
              go_simp
              with_reducible rfl
             rotate_left
             ·simp only [Act.put, List.setIfInBounds_toArray, List.set_cons_zero, List.set_cons_succ, i64_w, i32_w]
              rfl
             refine pure_ (i := 10) (N := some 25) (v := ?_) (a' := ?_) #[true, true, true, true, true, true, true, true, true, true, true, false, false, false, false, false, false, false, false, false, false, false, false, false, false, false] rfl rfl (any_of HT_.out (by kernel_rfl)) (fun _ _ _ h => h) (Or.inl ⟨by rfl, ?_⟩) ?_ ?_
             rotate_left
             ·intro w'
              go_simp
              with_reducible rfl
             rotate_left
             ·simp only [Act.put, List.setIfInBounds_toArray, List.set_cons_zero, List.set_cons_succ, i64_w, i32_w]
              rfl
             refine pure_ (i := 11) (N := some 26) (v := ?_) (a' := ?_) #[true, true, true, true, true, true, true, true, true, true, true, true, false, false, false, false, false, false, false, false, false, false, false, false, false, false] rfl rfl (any_of HT_.out (by kernel_rfl)) (fun _ _ _ h => h) (Or.inl ⟨by rfl, ?_⟩) ?_ ?_
             rotate_left
             ·intro w'
              go_simp
              with_reducible rfl
             rotate_left
             ·simp only [Act.put, List.setIfInBounds_toArray, List.set_cons_zero, List.set_cons_succ, i64_w, i32_w]
              rfl
             refine pure_ (i := 13) (N := some 28) (v := ?_) (a' := ?_) #[true, true, true, true, true, true, true, true, true, true, true, true, false, true, false, false, false, false, false, false, false, false, false, false, false, false] rfl rfl (any_of HT_.out (by kernel_rfl)) (fun _ _ _ h => h) (Or.inl ⟨by rfl, ?_⟩) ?_ ?_
             rotate_left
             ·intro w'
              go_simp
              with_reducible rfl
             rotate_left
             ·simp only [Act.put, List.setIfInBounds_toArray, List.set_cons_zero, List.set_cons_succ, i64_w, i32_w]
              rfl
             refine take_ (i := 12) (N := some 27) (v := ?_) (a' := ?_) #[true, true, true, true, true, true, true, true, true, true, true, true, true, true, false, false, false, false, false, false, false, false, false, false, false, false] rfl rfl (take_ofW HT_.out HW_.out (by kernel_rfl)) (fun _ _ _ h => h) (Or.inl ⟨by rfl, ?_⟩) hHeld ?_ ?_
             rotate_left
             ·rintro w' ⟨s0, s1, s2, s3, s4, s5, s6, s7, s8, s9, s10, s11, s12, s13, s14, s15, s16, s17, s18, s19, s20, s21, s22, s23, s24, s25, s26, s27, s28, s29, s30, s31, s32, s33, s34, s35⟩
              go_simp
              with_reducible rfl
             rotate_left
             ·simp only [Act.put, List.setIfInBounds_toArray, List.set_cons_zero, List.set_cons_succ, i64_w, i32_w]
              rfl
             refine take_ (i := 14) (N := some 29) (v := ?_) (a' := ?_) #[true, true, true, true, true, true, true, true, true, true, true, true, true, true, true, false, false, false, false, false, false, false, false, false, false, false] rfl rfl (take_ofW HT_.out HW_.out (by kernel_rfl)) (fun _ _ _ h => h) (Or.inl ⟨by rfl, ?_⟩) hHeld ?_ ?_
             rotate_left
             ·rintro w' ⟨s0, s1, s2, s3, s4, s5, s6, s7, s8, s9, s10, s11, s12, s13, s14, s15, s16, s17, s18, s19, s20, s21, s22, s23, s24, s25, s26, s27, s28, s29, s30, s31, s32, s33, s34, s35⟩
              go_simp
              with_reducible rfl
             rotate_left
             ·simp only [Act.put, List.setIfInBounds_toArray, List.set_cons_zero, List.set_cons_succ, i64_w, i32_w]
              rfl
             refine pure_ (i := 15) (N := some 30) (v := ?_) (a' := ?_) #[true, true, true, true, true, true, true, true, true, true, true, true, true, true, true, true, false, false, false, false, false, false, false, false, false, false] rfl rfl (any_of HT_.out (by kernel_rfl)) (fun _ _ _ h => h) (Or.inl ⟨by rfl, ?_⟩) ?_ ?_
             rotate_left
             ·intro w'
              go_simp
              with_reducible rfl
             rotate_left
             ·simp only [Act.put, List.setIfInBounds_toArray, List.set_cons_zero, List.set_cons_succ, i64_w, i32_w]
              rfl
             refine pure_ (i := 16) (N := some 31) (v := ?_) (a' := ?_) #[true, true, true, true, true, true, true, true, true, true, true, true, true, true, true, true, true, false, false, false, false, false, false, false, false, false] rfl rfl (any_of HT_.out (by kernel_rfl)) (fun _ _ _ h => h) (Or.inl ⟨by rfl, ?_⟩) ?_ ?_
             rotate_left
             ·intro w'
              go_simp
              with_reducible rfl
             rotate_left
             ·simp only [Act.put, List.setIfInBounds_toArray, List.set_cons_zero, List.set_cons_succ, i64_w, i32_w]
              rfl
             refine pure_ (i := 17) (N := some 32) (v := ?_) (a' := ?_) #[true, true, true, true, true, true, true, true, true, true, true, true, true, true, true, true, true, true, false, false, false, false, false, false, false, false] rfl rfl (any_of HT_.out (by kernel_rfl)) (fun _ _ _ h => h) (Or.inl ⟨by rfl, ?_⟩) ?_ ?_
             rotate_left
             ·intro w'
              go_simp
              with_reducible rfl
             rotate_left
             ·simp only [Act.put, List.setIfInBounds_toArray, List.set_cons_zero, List.set_cons_succ, i64_w, i32_w]
              rfl
             refine pure_ (i := 18) (N := some 33) (v := ?_) (a' := ?_) #[true, true, true, true, true, true, true, true, true, true, true, true, true, true, true, true, true, true, true, false, false, false, false, false, false, false] rfl rfl (any_of HT_.out (by kernel_rfl)) (fun _ _ _ h => h) (Or.inl ⟨by rfl, ?_⟩) ?_ ?_
             rotate_left
             ·intro w'
              go_simp
              with_reducible rfl
             rotate_left
             ·simp only [Act.put, List.setIfInBounds_toArray, List.set_cons_zero, List.set_cons_succ, i64_w, i32_w]
              rfl
             refine pure_ (i := 19) (N := some 34) (v := ?_) (a' := ?_) #[true, true, true, true, true, true, true, true, true, true, true, true, true, true, true, true, true, true, true, true, false, false, false, false, false, false] rfl rfl (any_of HT_.out (by kernel_rfl)) (fun _ _ _ h => h) (Or.inl ⟨by rfl, ?_⟩) ?_ ?_
             rotate_left
             ·intro w'
              go_simp
              with_reducible rfl
             rotate_left
             ·simp only [Act.put, List.setIfInBounds_toArray, List.set_cons_zero, List.set_cons_succ, i64_w, i32_w]
              rfl
             refine pure_ (i := 20) (N := some 35) (v := ?_) (a' := ?_) #[true, true, true, true, true, true, true, true, true, true, true, true, true, true, true, true, true, true, true, true, true, false, false, false, false, false] rfl rfl (any_of HT_.out (by kernel_rfl)) (fun _ _ _ h => h) (Or.inl ⟨by rfl, ?_⟩) ?_ ?_
             rotate_left
             ·intro w'
              go_simp
              with_reducible rfl
             rotate_left
             ·simp only [Act.put, List.setIfInBounds_toArray, List.set_cons_zero, List.set_cons_succ, i64_w, i32_w]
              rfl
             refine pure_ (i := 21) (N := some 36) (v := ?_) (a' := ?_) #[true, true, true, true, true, true, true, true, true, true, true, true, true, true, true, true, true, true, true, true, true, true, false, false, false, false] rfl rfl (any_of HT_.out (by kernel_rfl)) (fun _ _ _ h => h) (Or.inl ⟨by rfl, ?_⟩) ?_ ?_
             rotate_left
             ·intro w'
              go_simp
              with_reducible rfl
             rotate_left
             ·simp only [Act.put, List.setIfInBounds_toArray, List.set_cons_zero, List.set_cons_succ, i64_w, i32_w]
              rfl
             refine take_ (i := 22) (N := some 37) (v := ?_) (a' := ?_) #[true, true, true, true, true, true, true, true, true, true, true, true, true, true, true, true, true, true, true, true, true, true, true, false, false, false] rfl rfl (take_ofW HT_.out HW_.out (by kernel_rfl)) (fun _ _ _ h => h) (Or.inl ⟨by rfl, ?_⟩) hHeld ?_ ?_
             rotate_left
             ·rintro w' ⟨s0, s1, s2, s3, s4, s5, s6, s7, s8, s9, s10, s11, s12, s13, s14, s15, s16, s17, s18, s19, s20, s21, s22, s23, s24, s25, s26, s27, s28, s29, s30, s31, s32, s33, s34, s35⟩
              go_simp
              with_reducible rfl
             rotate_left
             ·simp only [Act.put, List.setIfInBounds_toArray, List.set_cons_zero, List.set_cons_succ, i64_w, i32_w]
              rfl
             refine pure_ (i := 23) (N := some 38) (v := ?_) (a' := ?_) #[true, true, true, true, true, true, true, true, true, true, true, true, true, true, true, true, true, true, true, true, true, true, true, true, false, false] rfl rfl (any_of HT_.out (by kernel_rfl)) (fun _ _ _ h => h) (Or.inl ⟨by rfl, ?_⟩) ?_ ?_
             rotate_left
             ·intro w'
              go_simp
              with_reducible rfl
             rotate_left
             ·simp only [Act.put, List.setIfInBounds_toArray, List.set_cons_zero, List.set_cons_succ, i64_w, i32_w]
              rfl
             refine pure_ (i := 24) (N := some 39) (v := ?_) (a' := ?_) #[true, true, true, true, true, true, true, true, true, true, true, true, true, true, true, true, true, true, true, true, true, true, true, true, true, false] rfl rfl (any_of HT_.out (by kernel_rfl)) (fun _ _ _ h => h) (Or.inl ⟨by rfl, ?_⟩) ?_ ?_
             rotate_left
             ·intro w'
              go_simp
              with_reducible rfl
             rotate_left
             ·simp only [Act.put, List.setIfInBounds_toArray, List.set_cons_zero, List.set_cons_succ, i64_w, i32_w]
              rfl
             refine pure_ (i := 25) (N := some 40) (v := ?_) (a' := ?_) #[true, true, true, true, true, true, true, true, true, true, true, true, true, true, true, true, true, true, true, true, true, true, true, true, true, true] rfl rfl (any_of HT_.out (by kernel_rfl)) (fun _ _ _ h => h) (Or.inl ⟨by rfl, ?_⟩) ?_ ?_
             rotate_left
             ·intro w'
              go_simp
              with_reducible rfl
             rotate_left
             ·simp only [Act.put, List.setIfInBounds_toArray, List.set_cons_zero, List.set_cons_succ, i64_w, i32_w]
              rfl
             refine done_ (done_of HT_.out (by kernel_rfl)) ?_
             try go_wp2
             go_meet
             case rel => exact ⟨_, ((rd_T38 l0 (ji12)).f2), (by first | rfl | (simp; done) | (simp only [← hji12] <;> (first | rfl | simp)) | (simp [*]; done)), H', ⟨by have := HK1.out; first | omega | exact Nat.le_refl _⟩, ⟨by (with_reducible repeat (first | refine blk_drewN ?_ _ | refine blk_drew ?_ | refine blk_alloc ?_ _)); exact BK115.out⟩, ⟨by repeat (first | (with_reducible first | exact HB.out | apply below_alloc | apply pw_below_drewN | apply below_drew1 | refine below_set ?_ GE115.out) | exact HB.out)⟩⟩
            ·rw [if_neg c15] at H
             have c15b0 : (((rd_T38 l0 (ji12)).f1) == ((rd_T38 l0 x10_1).f0)) = false := beq_eq_false_iff_ne.mpr c15
             have c15b1 : (((rd_T38 l0 (ji12)).f1) != ((rd_T38 l0 x10_1).f0)) = true := bne_iff_ne.mpr c15
             have H' := Aside0.mk H
             clear H
             try go_wp2
             have n0_ : Aside0 (((((((((((((w7.setCell ⟨gb115, 0, none⟩ (.int .i64 ((rd_T38 l0 x10_1).f0))).setCell ⟨gb115, 1, none⟩ (.int .i64 ((rd_T38 l0 x10_1).f1))).setCell ⟨gb115, 2, none⟩ (.bool ((rd_T38 l0 x10_1).f2))).setCell ⟨gb115, 3, none⟩ (.int .i64 ((rd_T38 l0 x10_1).f3))).setCell ⟨gb115, 4, none⟩ (.int .i64 ((rd_T38 l0 x10_1).f4))).setCell ⟨gb115, 5, none⟩ (.bool ((rd_T38 l0 x10_1).f5))).setCell ⟨gb115, 6, none⟩ (.bool ((rd_T38 l0 x10_1).f6))).setCell ⟨gb115, 7, none⟩ (.bool ((rd_T38 l0 x10_1).f7))).setCell ⟨gb115, 8, none⟩ (.int .i64 ((rd_T38 l0 x10_1).f8))).setCell ⟨gb115, 9, none⟩ (.int .i64 ((rd_T38 l0 x10_1).f9))).setCell ⟨gb115, 10, none⟩ (.int .i64 ((rd_T38 l0 x10_1).f10))).setCell ⟨gb115, 11, none⟩ (.bool ((rd_T38 l0 x10_1).f11))).heap[gb115]? = some (.cells #[.int .i64 ((rd_T38 l0 x10_1).f0), .int .i64 ((rd_T38 l0 x10_1).f1), .bool ((rd_T38 l0 x10_1).f2), .int .i64 ((rd_T38 l0 x10_1).f3), .int .i64 ((rd_T38 l0 x10_1).f4), .bool ((rd_T38 l0 x10_1).f5), .bool ((rd_T38 l0 x10_1).f6), .bool ((rd_T38 l0 x10_1).f7), .int .i64 ((rd_T38 l0 x10_1).f8), .int .i64 ((rd_T38 l0 x10_1).f9), .int .i64 ((rd_T38 l0 x10_1).f10), .bool ((rd_T38 l0 x10_1).f11)] 38 (0, 0))) := ⟨by (with_reducible repeat (first | refine blk_drewN ?_ _ | refine blk_drew ?_ | refine blk_alloc ?_ _)); refine blk_put (cs := #[.int .i64 ((rd_T38 l0 x10_1).f0), .int .i64 ((rd_T38 l0 x10_1).f1), .bool ((rd_T38 l0 x10_1).f2), .int .i64 ((rd_T38 l0 x10_1).f3), .int .i64 ((rd_T38 l0 x10_1).f4), .bool ((rd_T38 l0 x10_1).f5), .bool ((rd_T38 l0 x10_1).f6), .bool ((rd_T38 l0 x10_1).f7), .int .i64 ((rd_T38 l0 x10_1).f8), .int .i64 ((rd_T38 l0 x10_1).f9), .int .i64 ((rd_T38 l0 x10_1).f10), .bool false]) ?_ 11 _ rfl; (with_reducible repeat (first | refine blk_drewN ?_ _ | refine blk_drew ?_ | refine blk_alloc ?_ _)); refine blk_put (cs := #[.int .i64 ((rd_T38 l0 x10_1).f0), .int .i64 ((rd_T38 l0 x10_1).f1), .bool ((rd_T38 l0 x10_1).f2), .int .i64 ((rd_T38 l0 x10_1).f3), .int .i64 ((rd_T38 l0 x10_1).f4), .bool ((rd_T38 l0 x10_1).f5), .bool ((rd_T38 l0 x10_1).f6), .bool ((rd_T38 l0 x10_1).f7), .int .i64 ((rd_T38 l0 x10_1).f8), .int .i64 ((rd_T38 l0 x10_1).f9), .int .i64 0, .bool false]) ?_ 10 _ rfl; (with_reducible repeat (first | refine blk_drewN ?_ _ | refine blk_drew ?_ | refine blk_alloc ?_ _)); refine blk_put (cs := #[.int .i64 ((rd_T38 l0 x10_1).f0), .int .i64 ((rd_T38 l0 x10_1).f1), .bool ((rd_T38 l0 x10_1).f2), .int .i64 ((rd_T38 l0 x10_1).f3), .int .i64 ((rd_T38 l0 x10_1).f4), .bool ((rd_T38 l0 x10_1).f5), .bool ((rd_T38 l0 x10_1).f6), .bool ((rd_T38 l0 x10_1).f7), .int .i64 ((rd_T38 l0 x10_1).f8), .int .i64 0, .int .i64 0, .bool false]) ?_ 9 _ rfl; (with_reducible repeat (first | refine blk_drewN ?_ _ | refine blk_drew ?_ | refine blk_alloc ?_ _)); refine blk_put (cs := #[.int .i64 ((rd_T38 l0 x10_1).f0), .int .i64 ((rd_T38 l0 x10_1).f1), .bool ((rd_T38 l0 x10_1).f2), .int .i64 ((rd_T38 l0 x10_1).f3), .int .i64 ((rd_T38 l0 x10_1).f4), .bool ((rd_T38 l0 x10_1).f5), .bool ((rd_T38 l0 x10_1).f6), .bool ((rd_T38 l0 x10_1).f7), .int .i64 0, .int .i64 0, .int .i64 0, .bool false]) ?_ 8 _ rfl; (with_reducible repeat (first | refine blk_drewN ?_ _ | refine blk_drew ?_ | refine blk_alloc ?_ _)); refine blk_put (cs := #[.int .i64 ((rd_T38 l0 x10_1).f0), .int .i64 ((rd_T38 l0 x10_1).f1), .bool ((rd_T38 l0 x10_1).f2), .int .i64 ((rd_T38 l0 x10_1).f3), .int .i64 ((rd_T38 l0 x10_1).f4), .bool ((rd_T38 l0 x10_1).f5), .bool ((rd_T38 l0 x10_1).f6), .bool false, .int .i64 0, .int .i64 0, .int .i64 0, .bool false]) ?_ 7 _ rfl; (with_reducible repeat (first | refine blk_drewN ?_ _ | refine blk_drew ?_ | refine blk_alloc ?_ _)); refine blk_put (cs := #[.int .i64 ((rd_T38 l0 x10_1).f0), .int .i64 ((rd_T38 l0 x10_1).f1), .bool ((rd_T38 l0 x10_1).f2), .int .i64 ((rd_T38 l0 x10_1).f3), .int .i64 ((rd_T38 l0 x10_1).f4), .bool ((rd_T38 l0 x10_1).f5), .bool false, .bool false, .int .i64 0, .int .i64 0, .int .i64 0, .bool false]) ?_ 6 _ rfl; (with_reducible repeat (first | refine blk_drewN ?_ _ | refine blk_drew ?_ | refine blk_alloc ?_ _)); refine blk_put (cs := #[.int .i64 ((rd_T38 l0 x10_1).f0), .int .i64 ((rd_T38 l0 x10_1).f1), .bool ((rd_T38 l0 x10_1).f2), .int .i64 ((rd_T38 l0 x10_1).f3), .int .i64 ((rd_T38 l0 x10_1).f4), .bool false, .bool false, .bool false, .int .i64 0, .int .i64 0, .int .i64 0, .bool false]) ?_ 5 _ rfl; (with_reducible repeat (first | refine blk_drewN ?_ _ | refine blk_drew ?_ | refine blk_alloc ?_ _)); refine blk_put (cs := #[.int .i64 ((rd_T38 l0 x10_1).f0), .int .i64 ((rd_T38 l0 x10_1).f1), .bool ((rd_T38 l0 x10_1).f2), .int .i64 ((rd_T38 l0 x10_1).f3), .int .i64 0, .bool false, .bool false, .bool false, .int .i64 0, .int .i64 0, .int .i64 0, .bool false]) ?_ 4 _ rfl; (with_reducible repeat (first | refine blk_drewN ?_ _ | refine blk_drew ?_ | refine blk_alloc ?_ _)); refine blk_put (cs := #[.int .i64 ((rd_T38 l0 x10_1).f0), .int .i64 ((rd_T38 l0 x10_1).f1), .bool ((rd_T38 l0 x10_1).f2), .int .i64 0, .int .i64 0, .bool false, .bool false, .bool false, .int .i64 0, .int .i64 0, .int .i64 0, .bool false]) ?_ 3 _ rfl; (with_reducible repeat (first | refine blk_drewN ?_ _ | refine blk_drew ?_ | refine blk_alloc ?_ _)); refine blk_put (cs := #[.int .i64 ((rd_T38 l0 x10_1).f0), .int .i64 ((rd_T38 l0 x10_1).f1), .bool false, .int .i64 0, .int .i64 0, .bool false, .bool false, .bool false, .int .i64 0, .int .i64 0, .int .i64 0, .bool false]) ?_ 2 _ rfl; (with_reducible repeat (first | refine blk_drewN ?_ _ | refine blk_drew ?_ | refine blk_alloc ?_ _)); refine blk_put (cs := #[.int .i64 ((rd_T38 l0 x10_1).f0), .int .i64 0, .bool false, .int .i64 0, .int .i64 0, .bool false, .bool false, .bool false, .int .i64 0, .int .i64 0, .int .i64 0, .bool false]) ?_ 1 _ rfl; (with_reducible repeat (first | refine blk_drewN ?_ _ | refine blk_drew ?_ | refine blk_alloc ?_ _)); refine blk_put (cs := #[.int .i64 0, .int .i64 0, .bool false, .int .i64 0, .int .i64 0, .bool false, .bool false, .bool false, .int .i64 0, .int .i64 0, .int .i64 0, .bool false]) ?_ 0 _ rfl; (with_reducible repeat (first | refine blk_drewN ?_ _ | refine blk_drew ?_ | refine blk_alloc ?_ _)); exact BK115.out⟩
             have n1_ : Aside0 (Below w.heap.size w ((((((((((((w7.setCell ⟨gb115, 0, none⟩ (.int .i64 ((rd_T38 l0 x10_1).f0))).setCell ⟨gb115, 1, none⟩ (.int .i64 ((rd_T38 l0 x10_1).f1))).setCell ⟨gb115, 2, none⟩ (.bool ((rd_T38 l0 x10_1).f2))).setCell ⟨gb115, 3, none⟩ (.int .i64 ((rd_T38 l0 x10_1).f3))).setCell ⟨gb115, 4, none⟩ (.int .i64 ((rd_T38 l0 x10_1).f4))).setCell ⟨gb115, 5, none⟩ (.bool ((rd_T38 l0 x10_1).f5))).setCell ⟨gb115, 6, none⟩ (.bool ((rd_T38 l0 x10_1).f6))).setCell ⟨gb115, 7, none⟩ (.bool ((rd_T38 l0 x10_1).f7))).setCell ⟨gb115, 8, none⟩ (.int .i64 ((rd_T38 l0 x10_1).f8))).setCell ⟨gb115, 9, none⟩ (.int .i64 ((rd_T38 l0 x10_1).f9))).setCell ⟨gb115, 10, none⟩ (.int .i64 ((rd_T38 l0 x10_1).f10))).setCell ⟨gb115, 11, none⟩ (.bool ((rd_T38 l0 x10_1).f11)))) := ⟨by repeat (first | (with_reducible first | exact HB.out | apply below_alloc | apply pw_below_drewN | apply below_drew1 | refine below_set ?_ GE115.out) | exact HB.out)⟩
             (try clear BK115)
             (try clear HB)
             generalize ((((((((((((w7.setCell ⟨gb115, 0, none⟩ (.int .i64 ((rd_T38 l0 x10_1).f0))).setCell ⟨gb115, 1, none⟩ (.int .i64 ((rd_T38 l0 x10_1).f1))).setCell ⟨gb115, 2, none⟩ (.bool ((rd_T38 l0 x10_1).f2))).setCell ⟨gb115, 3, none⟩ (.int .i64 ((rd_T38 l0 x10_1).f3))).setCell ⟨gb115, 4, none⟩ (.int .i64 ((rd_T38 l0 x10_1).f4))).setCell ⟨gb115, 5, none⟩ (.bool ((rd_T38 l0 x10_1).f5))).setCell ⟨gb115, 6, none⟩ (.bool ((rd_T38 l0 x10_1).f6))).setCell ⟨gb115, 7, none⟩ (.bool ((rd_T38 l0 x10_1).f7))).setCell ⟨gb115, 8, none⟩ (.int .i64 ((rd_T38 l0 x10_1).f8))).setCell ⟨gb115, 9, none⟩ (.int .i64 ((rd_T38 l0 x10_1).f9))).setCell ⟨gb115, 10, none⟩ (.int .i64 ((rd_T38 l0 x10_1).f10))).setCell ⟨gb115, 11, none⟩ (.bool ((rd_T38 l0 x10_1).f11))) = w19 at n0_ n1_ ⊢
             have BK115 := n0_
             have HB := n1_
             clear n0_ n1_
             have n0_ := Aside0.mk (blk_drew BK115.out)
             have n1_ := Aside0.mk (below_drew1 HB.out)
             clear BK115
             clear HB
             have BK115 := n0_
             have HB := n1_
             clear n0_ n1_
             have p117 : 0 ≤ ((ji12) : Int) := of_decide_eq_true (by first | (with_reducible assumption) | assumption)
             have q117 : (ji12) < (l0.length : Int) := of_decide_eq_true (by first | (with_reducible assumption) | assumption)
             obtain ⟨ad117, e117, hx117_0, hx117_1, hx117_2, hx117_3, hx117_4, hx117_5, hx117_6, hx117_7, hx117_8, hx117_9, hx117_10, hx117_11⟩ := at_T38 HR0.out (ji12) p117 q117
             have hw117_11 := hx117_11
             have hw117_10 := hx117_10
             have hw117_9 := hx117_9
             have hw117_8 := hx117_8
             have hw117_7 := hx117_7
             have hw117_6 := hx117_6
             have hw117_5 := hx117_5
             have hw117_4 := hx117_4
             have hw117_3 := hx117_3
             have hw117_2 := hx117_2
             have hw117_1 := hx117_1
             have hw117_0 := hx117_0
             obtain rfl : ad114 = ad117 := (by injection e117)
             replace hx117_0 := (HB.out.cell (World.block_lt_of_cell? w _ hx117_0)).trans hx117_0
             replace hx117_1 := (HB.out.cell (World.block_lt_of_cell? w _ hx117_1)).trans hx117_1
             replace hx117_2 := (HB.out.cell (World.block_lt_of_cell? w _ hx117_2)).trans hx117_2
             replace hx117_3 := (HB.out.cell (World.block_lt_of_cell? w _ hx117_3)).trans hx117_3
             replace hx117_4 := (HB.out.cell (World.block_lt_of_cell? w _ hx117_4)).trans hx117_4
             replace hx117_5 := (HB.out.cell (World.block_lt_of_cell? w _ hx117_5)).trans hx117_5
             replace hx117_6 := (HB.out.cell (World.block_lt_of_cell? w _ hx117_6)).trans hx117_6
             replace hx117_7 := (HB.out.cell (World.block_lt_of_cell? w _ hx117_7)).trans hx117_7
             replace hx117_8 := (HB.out.cell (World.block_lt_of_cell? w _ hx117_8)).trans hx117_8
             replace hx117_9 := (HB.out.cell (World.block_lt_of_cell? w _ hx117_9)).trans hx117_9
             replace hx117_10 := (HB.out.cell (World.block_lt_of_cell? w _ hx117_10)).trans hx117_10
             replace hx117_11 := (HB.out.cell (World.block_lt_of_cell? w _ hx117_11)).trans hx117_11
             replace p117 := eq_true p117
             replace q117 := eq_true q117
             refine start_ (n := 26) (S := fun w' => w'.cell? ⟨gb115, 0, none⟩ = some (.int .i64 ((rd_T38 l0 x10_1).f0)) ∧ w'.cell? ⟨gb115, 1, none⟩ = some (.int .i64 ((rd_T38 l0 x10_1).f1)) ∧ w'.cell? ⟨gb115, 2, none⟩ = some (.bool ((rd_T38 l0 x10_1).f2)) ∧ w'.cell? ⟨gb115, 3, none⟩ = some (.int .i64 ((rd_T38 l0 x10_1).f3)) ∧ w'.cell? ⟨gb115, 4, none⟩ = some (.int .i64 ((rd_T38 l0 x10_1).f4)) ∧ w'.cell? ⟨gb115, 5, none⟩ = some (.bool ((rd_T38 l0 x10_1).f5)) ∧ w'.cell? ⟨gb115, 6, none⟩ = some (.bool ((rd_T38 l0 x10_1).f6)) ∧ w'.cell? ⟨gb115, 7, none⟩ = some (.bool ((rd_T38 l0 x10_1).f7)) ∧ w'.cell? ⟨gb115, 8, none⟩ = some (.int .i64 ((rd_T38 l0 x10_1).f8)) ∧ w'.cell? ⟨gb115, 9, none⟩ = some (.int .i64 ((rd_T38 l0 x10_1).f9)) ∧ w'.cell? ⟨gb115, 10, none⟩ = some (.int .i64 ((rd_T38 l0 x10_1).f10)) ∧ w'.cell? ⟨gb115, 11, none⟩ = some (.bool ((rd_T38 l0 x10_1).f11)) ∧ w'.cell? (ad114.add (((ji12)).toNat * 12)) = some (.int .i64 ((rd_T38 l0 (ji12)).f0)) ∧ w'.cell? ⟨(ad114.add (((ji12)).toNat * 12)).block, (ad114.add (((ji12)).toNat * 12)).off + 1, none⟩ = some (.int .i64 ((rd_T38 l0 (ji12)).f1)) ∧ w'.cell? ⟨(ad114.add (((ji12)).toNat * 12)).block, (ad114.add (((ji12)).toNat * 12)).off + 2, none⟩ = some (.bool ((rd_T38 l0 (ji12)).f2)) ∧ w'.cell? ⟨(ad114.add (((ji12)).toNat * 12)).block, (ad114.add (((ji12)).toNat * 12)).off + 3, none⟩ = some (.int .i64 ((rd_T38 l0 (ji12)).f3)) ∧ w'.cell? ⟨(ad114.add (((ji12)).toNat * 12)).block, (ad114.add (((ji12)).toNat * 12)).off + 4, none⟩ = some (.int .i64 ((rd_T38 l0 (ji12)).f4)) ∧ w'.cell? ⟨(ad114.add (((ji12)).toNat * 12)).block, (ad114.add (((ji12)).toNat * 12)).off + 5, none⟩ = some (.bool ((rd_T38 l0 (ji12)).f5)) ∧ w'.cell? ⟨(ad114.add (((ji12)).toNat * 12)).block, (ad114.add (((ji12)).toNat * 12)).off + 6, none⟩ = some (.bool ((rd_T38 l0 (ji12)).f6)) ∧ w'.cell? ⟨(ad114.add (((ji12)).toNat * 12)).block, (ad114.add (((ji12)).toNat * 12)).off + 7, none⟩ = some (.bool ((rd_T38 l0 (ji12)).f7)) ∧ w'.cell? ⟨(ad114.add (((ji12)).toNat * 12)).block, (ad114.add (((ji12)).toNat * 12)).off + 8, none⟩ = some (.int .i64 ((rd_T38 l0 (ji12)).f8)) ∧ w'.cell? ⟨(ad114.add (((ji12)).toNat * 12)).block, (ad114.add (((ji12)).toNat * 12)).off + 9, none⟩ = some (.int .i64 ((rd_T38 l0 (ji12)).f9)) ∧ w'.cell? ⟨(ad114.add (((ji12)).toNat * 12)).block, (ad114.add (((ji12)).toNat * 12)).off + 10, none⟩ = some (.int .i64 ((rd_T38 l0 (ji12)).f10)) ∧ w'.cell? ⟨(ad114.add (((ji12)).toNat * 12)).block, (ad114.add (((ji12)).toNat * 12)).off + 11, none⟩ = some (.bool ((rd_T38 l0 (ji12)).f11))) (ds := []) #[false, false, false, false, false, false, false, false, false, false, false, false, false, false, false, false, false, false, false, false, false, false, false, false, false, false] (by kernel_rfl) rfl rfl ⟨(blk_cell BK115.out 0).trans rfl, (blk_cell BK115.out 1).trans rfl, (blk_cell BK115.out 2).trans rfl, (blk_cell BK115.out 3).trans rfl, (blk_cell BK115.out 4).trans rfl, (blk_cell BK115.out 5).trans rfl, (blk_cell BK115.out 6).trans rfl, (blk_cell BK115.out 7).trans rfl, (blk_cell BK115.out 8).trans rfl, (blk_cell BK115.out 9).trans rfl, (blk_cell BK115.out 10).trans rfl, (blk_cell BK115.out 11).trans rfl, ((HB.out.cell (World.block_lt_of_cell? w _ hw117_0)).trans hw117_0), ((HB.out.cell (World.block_lt_of_cell? w _ hw117_1)).trans hw117_1), ((HB.out.cell (World.block_lt_of_cell? w _ hw117_2)).trans hw117_2), ((HB.out.cell (World.block_lt_of_cell? w _ hw117_3)).trans hw117_3), ((HB.out.cell (World.block_lt_of_cell? w _ hw117_4)).trans hw117_4), ((HB.out.cell (World.block_lt_of_cell? w _ hw117_5)).trans hw117_5), ((HB.out.cell (World.block_lt_of_cell? w _ hw117_6)).trans hw117_6), ((HB.out.cell (World.block_lt_of_cell? w _ hw117_7)).trans hw117_7), ((HB.out.cell (World.block_lt_of_cell? w _ hw117_8)).trans hw117_8), ((HB.out.cell (World.block_lt_of_cell? w _ hw117_9)).trans hw117_9), ((HB.out.cell (World.block_lt_of_cell? w _ hw117_10)).trans hw117_10), ((HB.out.cell (World.block_lt_of_cell? w _ hw117_11)).trans hw117_11)⟩ (fun hHeld => ?_); refine with_tabW board_Check.tab6 board_Check.bits6 (fun HT_ HW_ => ?_)
             generalize w19.drew = w20 at BK115 HB hx117_0 hx117_1 hx117_10 hx117_11 hx117_2 hx117_3 hx117_4 hx117_5 hx117_6 hx117_7 hx117_8 hx117_9 hHeld ⊢
             refine take_ (i := 0) (N := some 15) (v := ?_) (a' := ?_) #[true, false, false, false, false, false, false, false, false, false, false, false, false, false, false, false, false, false, false, false, false, false, false, false, false, false] rfl rfl (take_ofW HT_.out HW_.out (by kernel_rfl)) (fun _ _ _ h => h) (Or.inl ⟨by rfl, ?_⟩) hHeld ?_ ?_
             rotate_left
             ·rintro w' ⟨s0, s1, s2, s3, s4, s5, s6, s7, s8, s9, s10, s11, s12, s13, s14, s15, s16, s17, s18, s19, s20, s21, s22, s23⟩
              go_simp
              with_reducible rfl
             rotate_left
             ·simp only [Act.put, List.setIfInBounds_toArray, List.set_cons_zero, List.set_cons_succ, i64_w, i32_w]
              rfl
             refine one_ (i := 1) (N := some 16) #[true, true, false, false, false, false, false, false, false, false, false, false, false, false, false, false, false, false, false, false, false, false, false, false, false, false] rfl rfl (one_of HT_.out (by kernel_rfl)) (by decide) (fun K hK => ?_)
             refine goes_ Try.func40 (by kernel_rfl) rfl #[.agg #[.int .i64 ((rd_T38 l0 x10_1).f0), .int .i64 ((rd_T38 l0 x10_1).f1), .bool ((rd_T38 l0 x10_1).f2), .int .i64 ((rd_T38 l0 x10_1).f3), .int .i64 ((rd_T38 l0 x10_1).f4), .bool ((rd_T38 l0 x10_1).f5), .bool ((rd_T38 l0 x10_1).f6), .bool ((rd_T38 l0 x10_1).f7), .int .i64 ((rd_T38 l0 x10_1).f8), .int .i64 ((rd_T38 l0 x10_1).f9), .int .i64 ((rd_T38 l0 x10_1).f10), .bool ((rd_T38 l0 x10_1).f11)]] (by rfl) rfl rfl (by (try simp only [List.map_toArray, List.map_cons, List.map_nil]); first | done | rfl | (simp only [List.length_drop, List.length_take]; rfl)) ?_
             with_reducible refine (board_may.calls ((rd_T38 l0 x10_1).f0) ((rd_T38 l0 x10_1).f1) ((rd_T38 l0 x10_1).f2) ((rd_T38 l0 x10_1).f3) ((rd_T38 l0 x10_1).f4) ((rd_T38 l0 x10_1).f5) ((rd_T38 l0 x10_1).f6) ((rd_T38 l0 x10_1).f7) ((rd_T38 l0 x10_1).f8) ((rd_T38 l0 x10_1).f9) ((rd_T38 l0 x10_1).f10) ((rd_T38 l0 x10_1).f11) true _ A9.out).mono ?_
             rintro e w21 ⟨rfl, hb⟩
             refine ⟨_, rfl, ?_⟩
             have n0_ := Aside0.mk (blk_below (g := gb115) (o := .cells #[.int .i64 ((rd_T38 l0 x10_1).f0), .int .i64 ((rd_T38 l0 x10_1).f1), .bool ((rd_T38 l0 x10_1).f2), .int .i64 ((rd_T38 l0 x10_1).f3), .int .i64 ((rd_T38 l0 x10_1).f4), .bool ((rd_T38 l0 x10_1).f5), .bool ((rd_T38 l0 x10_1).f6), .bool ((rd_T38 l0 x10_1).f7), .int .i64 ((rd_T38 l0 x10_1).f8), .int .i64 ((rd_T38 l0 x10_1).f9), .int .i64 ((rd_T38 l0 x10_1).f10), .bool ((rd_T38 l0 x10_1).f11)] 38 (0, 0)) (by (with_reducible repeat (first | refine blk_drewN ?_ _ | refine blk_drew ?_ | refine blk_alloc ?_ _)); exact BK115.out) hb)
             have n1_ := Aside0.mk (below_step (by repeat (first | (with_reducible first | exact HB.out | apply below_alloc | apply pw_below_drewN | apply below_drew1 | refine below_set ?_ GE115.out) | exact HB.out)) hb)
             clear BK115
             clear HB
             have BK115 := n0_
             have HB := n1_
             clear n0_ n1_
             (try clear hb)
             (try clear hb2)
             (try clear hk)
             (try clear hi)
             refine hK.out _ _ ⟨(blk_cell BK115.out 0).trans rfl, (blk_cell BK115.out 1).trans rfl, (blk_cell BK115.out 2).trans rfl, (blk_cell BK115.out 3).trans rfl, (blk_cell BK115.out 4).trans rfl, (blk_cell BK115.out 5).trans rfl, (blk_cell BK115.out 6).trans rfl, (blk_cell BK115.out 7).trans rfl, (blk_cell BK115.out 8).trans rfl, (blk_cell BK115.out 9).trans rfl, (blk_cell BK115.out 10).trans rfl, (blk_cell BK115.out 11).trans rfl, ((HB.out.cell (World.block_lt_of_cell? w _ hw117_0)).trans hw117_0), ((HB.out.cell (World.block_lt_of_cell? w _ hw117_1)).trans hw117_1), ((HB.out.cell (World.block_lt_of_cell? w _ hw117_2)).trans hw117_2), ((HB.out.cell (World.block_lt_of_cell? w _ hw117_3)).trans hw117_3), ((HB.out.cell (World.block_lt_of_cell? w _ hw117_4)).trans hw117_4), ((HB.out.cell (World.block_lt_of_cell? w _ hw117_5)).trans hw117_5), ((HB.out.cell (World.block_lt_of_cell? w _ hw117_6)).trans hw117_6), ((HB.out.cell (World.block_lt_of_cell? w _ hw117_7)).trans hw117_7), ((HB.out.cell (World.block_lt_of_cell? w _ hw117_8)).trans hw117_8), ((HB.out.cell (World.block_lt_of_cell? w _ hw117_9)).trans hw117_9), ((HB.out.cell (World.block_lt_of_cell? w _ hw117_10)).trans hw117_10), ((HB.out.cell (World.block_lt_of_cell? w _ hw117_11)).trans hw117_11)⟩ (fun hHeld => ?_)
             clear hK K
             refine norm_ (a' := ?_) ?_ ?_
             rotate_left
             ·show Act.put _ (some 16) _ = _
              simp only [Act.put, List.setIfInBounds_toArray, List.set_cons_zero, List.set_cons_succ, i64_w, i32_w]
              rfl
             refine pure_ (i := 2) (N := some 17) (v := ?_) (a' := ?_) #[true, true, true, false, false, false, false, false, false, false, false, false, false, false, false, false, false, false, false, false, false, false, false, false, false, false] rfl rfl (any_of HT_.out (by kernel_rfl)) (fun _ _ _ h => h) (Or.inl ⟨by rfl, ?_⟩) ?_ ?_
             rotate_left
             ·intro w'
              go_simp
              with_reducible rfl
             rotate_left
             ·simp only [Act.put, List.setIfInBounds_toArray, List.set_cons_zero, List.set_cons_succ, i64_w, i32_w]
              rfl
             refine pure_ (i := 3) (N := some 18) (v := ?_) (a' := ?_) #[true, true, true, true, false, false, false, false, false, false, false, false, false, false, false, false, false, false, false, false, false, false, false, false, false, false] rfl rfl (any_of HT_.out (by kernel_rfl)) (fun _ _ _ h => h) (Or.inl ⟨by rfl, ?_⟩) ?_ ?_
             rotate_left
             ·intro w'
              go_simp
              with_reducible rfl
             rotate_left
             ·simp only [Act.put, List.setIfInBounds_toArray, List.set_cons_zero, List.set_cons_succ, i64_w, i32_w]
              rfl
             refine pure_ (i := 4) (N := some 19) (v := ?_) (a' := ?_) #[true, true, true, true, true, false, false, false, false, false, false, false, false, false, false, false, false, false, false, false, false, false, false, false, false, false] rfl rfl (any_of HT_.out (by kernel_rfl)) (fun _ _ _ h => h) (Or.inl ⟨by rfl, ?_⟩) ?_ ?_
             rotate_left
             ·intro w'
              go_simp
              with_reducible rfl
             rotate_left
             ·simp only [Act.put, List.setIfInBounds_toArray, List.set_cons_zero, List.set_cons_succ, i64_w, i32_w]
              rfl
             refine pure_ (i := 5) (N := some 20) (v := ?_) (a' := ?_) #[true, true, true, true, true, true, false, false, false, false, false, false, false, false, false, false, false, false, false, false, false, false, false, false, false, false] rfl rfl (any_of HT_.out (by kernel_rfl)) (fun _ _ _ h => h) (Or.inl ⟨by rfl, ?_⟩) ?_ ?_
             rotate_left
             ·intro w'
              go_simp
              with_reducible rfl
             rotate_left
             ·simp only [Act.put, List.setIfInBounds_toArray, List.set_cons_zero, List.set_cons_succ, i64_w, i32_w]
              rfl
             refine pure_ (i := 6) (N := some 21) (v := ?_) (a' := ?_) #[true, true, true, true, true, true, true, false, false, false, false, false, false, false, false, false, false, false, false, false, false, false, false, false, false, false] rfl rfl (any_of HT_.out (by kernel_rfl)) (fun _ _ _ h => h) (Or.inl ⟨by rfl, ?_⟩) ?_ ?_
             rotate_left
             ·intro w'
              go_simp
              with_reducible rfl
             rotate_left
             ·simp only [Act.put, List.setIfInBounds_toArray, List.set_cons_zero, List.set_cons_succ, i64_w, i32_w]
              rfl
             refine pure_ (i := 7) (N := some 22) (v := ?_) (a' := ?_) #[true, true, true, true, true, true, true, true, false, false, false, false, false, false, false, false, false, false, false, false, false, false, false, false, false, false] rfl rfl (any_of HT_.out (by kernel_rfl)) (fun _ _ _ h => h) (Or.inl ⟨by rfl, ?_⟩) ?_ ?_
             rotate_left
             ·intro w'
              go_simp
              with_reducible rfl
             rotate_left
             ·simp only [Act.put, List.setIfInBounds_toArray, List.set_cons_zero, List.set_cons_succ, i64_w, i32_w]
              rfl
             refine pure_ (i := 8) (N := some 23) (v := ?_) (a' := ?_) #[true, true, true, true, true, true, true, true, true, false, false, false, false, false, false, false, false, false, false, false, false, false, false, false, false, false] rfl rfl (any_of HT_.out (by kernel_rfl)) (fun _ _ _ h => h) (Or.inl ⟨by rfl, ?_⟩) ?_ ?_
             rotate_left
             ·intro w'
              go_simp
              with_reducible rfl
             rotate_left
             ·simp only [Act.put, List.setIfInBounds_toArray, List.set_cons_zero, List.set_cons_succ, i64_w, i32_w]
              rfl
             refine pure_ (i := 9) (N := some 24) (v := ?_) (a' := ?_) #[true, true, true, true, true, true, true, true, true, true, false, false, false, false, false, false, false, false, false, false, false, false, false, false, false, false] rfl rfl (any_of HT_.out (by kernel_rfl)) (fun _ _ _ h => h) (Or.inl ⟨by rfl, ?_⟩) ?_ ?_
             rotate_left
             ·intro w'
              go_simp
              with_reducible rfl
             rotate_left
             ·simp only [Act.put, List.setIfInBounds_toArray, List.set_cons_zero, List.set_cons_succ, i64_w, i32_w]
              rfl
             refine pure_ (i := 10) (N := some 25) (v := ?_) (a' := ?_) #[true, true, true, true, true, true, true, true, true, true, true, false, false, false, false, false, false, false, false, false, false, false, false, false, false, false] rfl rfl (any_of HT_.out (by kernel_rfl)) (fun _ _ _ h => h) (Or.inl ⟨by rfl, ?_⟩) ?_ ?_
             rotate_left
             ·intro w'
              go_simp
              with_reducible rfl
             rotate_left
             ·simp only [Act.put, List.setIfInBounds_toArray, List.set_cons_zero, List.set_cons_succ, i64_w, i32_w]
              rfl
             refine pure_ (i := 11) (N := some 26) (v := ?_) (a' := ?_) #[true, true, true, true, true, true, true, true, true, true, true, true, false, false, false, false, false, false, false, false, false, false, false, false, false, false] rfl rfl (any_of HT_.out (by kernel_rfl)) (fun _ _ _ h => h) (Or.inl ⟨by rfl, ?_⟩) ?_ ?_
             rotate_left
             ·intro w'
              go_simp
              with_reducible rfl
             rotate_left
             ·simp only [Act.put, List.setIfInBounds_toArray, List.set_cons_zero, List.set_cons_succ, i64_w, i32_w]
              rfl
             refine pure_ (i := 13) (N := some 28) (v := ?_) (a' := ?_) #[true, true, true, true, true, true, true, true, true, true, true, true, false, true, false, false, false, false, false, false, false, false, false, false, false, false] rfl rfl (any_of HT_.out (by kernel_rfl)) (fun _ _ _ h => h) (Or.inl ⟨by rfl, ?_⟩) ?_ ?_
             rotate_left
             ·intro w'
              go_simp
              with_reducible rfl
             rotate_left
             ·simp only [Act.put, List.setIfInBounds_toArray, List.set_cons_zero, List.set_cons_succ, i64_w, i32_w]
              rfl
             refine take_ (i := 12) (N := some 27) (v := ?_) (a' := ?_) #[true, true, true, true, true, true, true, true, true, true, true, true, true, true, false, false, false, false, false, false, false, false, false, false, false, false] rfl rfl (take_ofW HT_.out HW_.out (by kernel_rfl)) (fun _ _ _ h => h) (Or.inl ⟨by rfl, ?_⟩) hHeld ?_ ?_
             rotate_left
             ·rintro w' ⟨s0, s1, s2, s3, s4, s5, s6, s7, s8, s9, s10, s11, s12, s13, s14, s15, s16, s17, s18, s19, s20, s21, s22, s23⟩
              go_simp
              with_reducible rfl
             rotate_left
             ·simp only [Act.put, List.setIfInBounds_toArray, List.set_cons_zero, List.set_cons_succ, i64_w, i32_w]
              rfl
             refine take_ (i := 14) (N := some 29) (v := ?_) (a' := ?_) #[true, true, true, true, true, true, true, true, true, true, true, true, true, true, true, false, false, false, false, false, false, false, false, false, false, false] rfl rfl (take_ofW HT_.out HW_.out (by kernel_rfl)) (fun _ _ _ h => h) (Or.inl ⟨by rfl, ?_⟩) hHeld ?_ ?_
             rotate_left
             ·rintro w' ⟨s0, s1, s2, s3, s4, s5, s6, s7, s8, s9, s10, s11, s12, s13, s14, s15, s16, s17, s18, s19, s20, s21, s22, s23⟩
              go_simp
              with_reducible rfl
             rotate_left
             ·simp only [Act.put, List.setIfInBounds_toArray, List.set_cons_zero, List.set_cons_succ, i64_w, i32_w]
              rfl
             refine pure_ (i := 15) (N := some 30) (v := ?_) (a' := ?_) #[true, true, true, true, true, true, true, true, true, true, true, true, true, true, true, true, false, false, false, false, false, false, false, false, false, false] rfl rfl (any_of HT_.out (by kernel_rfl)) (fun _ _ _ h => h) (Or.inl ⟨by rfl, ?_⟩) ?_ ?_
             rotate_left
             ·intro w'
              go_simp
              with_reducible rfl
             rotate_left
             ·simp only [Act.put, List.setIfInBounds_toArray, List.set_cons_zero, List.set_cons_succ, i64_w, i32_w]
              rfl
             refine pure_ (i := 16) (N := some 31) (v := ?_) (a' := ?_) #[true, true, true, true, true, true, true, true, true, true, true, true, true, true, true, true, true, false, false, false, false, false, false, false, false, false] rfl rfl (any_of HT_.out (by kernel_rfl)) (fun _ _ _ h => h) (Or.inl ⟨by rfl, ?_⟩) ?_ ?_
             rotate_left
             ·intro w'
              go_simp
              with_reducible rfl
             rotate_left
             ·simp only [Act.put, List.setIfInBounds_toArray, List.set_cons_zero, List.set_cons_succ, i64_w, i32_w]
              rfl
             refine pure_ (i := 17) (N := some 32) (v := undef) (a' := ?_) #[true, true, true, true, true, true, true, true, true, true, true, true, true, true, true, true, true, true, false, false, false, false, false, false, false, false] rfl rfl (any_of HT_.out (by kernel_rfl)) (fun _ _ _ h => h) (Or.inr ⟨by rfl, rfl⟩) ?_ ?_
             rotate_left
             ·simp only [Act.put, List.setIfInBounds_toArray, List.set_cons_zero, List.set_cons_succ, i64_w, i32_w]
              rfl
             refine pure_ (i := 18) (N := some 33) (v := undef) (a' := ?_) #[true, true, true, true, true, true, true, true, true, true, true, true, true, true, true, true, true, true, true, false, false, false, false, false, false, false] rfl rfl (any_of HT_.out (by kernel_rfl)) (fun _ _ _ h => h) (Or.inr ⟨by rfl, rfl⟩) ?_ ?_
             rotate_left
             ·simp only [Act.put, List.setIfInBounds_toArray, List.set_cons_zero, List.set_cons_succ, i64_w, i32_w]
              rfl
             refine pure_ (i := 19) (N := some 34) (v := undef) (a' := ?_) #[true, true, true, true, true, true, true, true, true, true, true, true, true, true, true, true, true, true, true, true, false, false, false, false, false, false] rfl rfl (any_of HT_.out (by kernel_rfl)) (fun _ _ _ h => h) (Or.inr ⟨by rfl, rfl⟩) ?_ ?_
             rotate_left
             ·simp only [Act.put, List.setIfInBounds_toArray, List.set_cons_zero, List.set_cons_succ, i64_w, i32_w]
              rfl
             refine pure_ (i := 20) (N := some 35) (v := undef) (a' := ?_) #[true, true, true, true, true, true, true, true, true, true, true, true, true, true, true, true, true, true, true, true, true, false, false, false, false, false] rfl rfl (any_of HT_.out (by kernel_rfl)) (fun _ _ _ h => h) (Or.inr ⟨by rfl, rfl⟩) ?_ ?_
             rotate_left
             ·simp only [Act.put, List.setIfInBounds_toArray, List.set_cons_zero, List.set_cons_succ, i64_w, i32_w]
              rfl
             refine pure_ (i := 21) (N := some 36) (v := undef) (a' := ?_) #[true, true, true, true, true, true, true, true, true, true, true, true, true, true, true, true, true, true, true, true, true, true, false, false, false, false] rfl rfl (any_of HT_.out (by kernel_rfl)) (fun _ _ _ h => h) (Or.inr ⟨by rfl, rfl⟩) ?_ ?_
             rotate_left
             ·simp only [Act.put, List.setIfInBounds_toArray, List.set_cons_zero, List.set_cons_succ, i64_w, i32_w]
              rfl
             refine pure_ (i := 22) (N := some 37) (v := undef) (a' := ?_) #[true, true, true, true, true, true, true, true, true, true, true, true, true, true, true, true, true, true, true, true, true, true, true, false, false, false] rfl rfl (any_of HT_.out (by kernel_rfl)) (fun _ _ _ h => h) (Or.inr ⟨by rfl, rfl⟩) ?_ ?_
             rotate_left
             ·simp only [Act.put, List.setIfInBounds_toArray, List.set_cons_zero, List.set_cons_succ, i64_w, i32_w]
              rfl
             refine pure_ (i := 23) (N := some 38) (v := ?_) (a' := ?_) #[true, true, true, true, true, true, true, true, true, true, true, true, true, true, true, true, true, true, true, true, true, true, true, true, false, false] rfl rfl (any_of HT_.out (by kernel_rfl)) (fun _ _ _ h => h) (Or.inl ⟨by rfl, ?_⟩) ?_ ?_
             rotate_left
             ·intro w'
              go_simp
              with_reducible rfl
             rotate_left
             ·simp only [Act.put, List.setIfInBounds_toArray, List.set_cons_zero, List.set_cons_succ, i64_w, i32_w]
              rfl
             refine pure_ (i := 24) (N := some 39) (v := ?_) (a' := ?_) #[true, true, true, true, true, true, true, true, true, true, true, true, true, true, true, true, true, true, true, true, true, true, true, true, true, false] rfl rfl (any_of HT_.out (by kernel_rfl)) (fun _ _ _ h => h) (Or.inl ⟨by rfl, ?_⟩) ?_ ?_
             rotate_left
             ·intro w'
              go_simp
              with_reducible rfl
             rotate_left
             ·simp only [Act.put, List.setIfInBounds_toArray, List.set_cons_zero, List.set_cons_succ, i64_w, i32_w]
              rfl
             refine pure_ (i := 25) (N := some 40) (v := ?_) (a' := ?_) #[true, true, true, true, true, true, true, true, true, true, true, true, true, true, true, true, true, true, true, true, true, true, true, true, true, true] rfl rfl (any_of HT_.out (by kernel_rfl)) (fun _ _ _ h => h) (Or.inl ⟨by rfl, ?_⟩) ?_ ?_
             rotate_left
             ·intro w'
              go_simp
              with_reducible rfl
             rotate_left
             ·simp only [Act.put, List.setIfInBounds_toArray, List.set_cons_zero, List.set_cons_succ, i64_w, i32_w]
              rfl
             refine done_ (done_of HT_.out (by kernel_rfl)) ?_
             try go_wp2
             go_meet
             case rel => exact ⟨_, (true), (by first | rfl | (simp; done) | (simp [*]; done)), H', ⟨by have := HK1.out; first | omega | exact Nat.le_refl _⟩, ⟨by (with_reducible repeat (first | refine blk_drewN ?_ _ | refine blk_drew ?_ | refine blk_alloc ?_ _)); exact BK115.out⟩, ⟨by repeat (first | (with_reducible first | exact HB.out | apply below_alloc | apply pw_below_drewN | apply below_drew1 | refine below_set ?_ GE115.out) | exact HB.out)⟩⟩
           ·rw [if_neg c14] at H
            exact absurd H (by simp)
          ·rw [if_neg c13] at H
           exact absurd H (by simp)
         ·rw [if_neg c11] at H
          have c11b0 : decide (0 < x10_1) = false := decide_eq_false c11
          clear c11
          (first | rw [c11b0] | (simp only [i64_w, i32_w]; rw [c11b0]) | skip)
          have H' := Aside0.mk H
          clear H
          try go_wp2
          have n0_ : Aside0 (((((((((((((w7.setCell ⟨gb115, 0, none⟩ (.int .i64 ((rd_T38 l0 x10_1).f0))).setCell ⟨gb115, 1, none⟩ (.int .i64 ((rd_T38 l0 x10_1).f1))).setCell ⟨gb115, 2, none⟩ (.bool ((rd_T38 l0 x10_1).f2))).setCell ⟨gb115, 3, none⟩ (.int .i64 ((rd_T38 l0 x10_1).f3))).setCell ⟨gb115, 4, none⟩ (.int .i64 ((rd_T38 l0 x10_1).f4))).setCell ⟨gb115, 5, none⟩ (.bool ((rd_T38 l0 x10_1).f5))).setCell ⟨gb115, 6, none⟩ (.bool ((rd_T38 l0 x10_1).f6))).setCell ⟨gb115, 7, none⟩ (.bool ((rd_T38 l0 x10_1).f7))).setCell ⟨gb115, 8, none⟩ (.int .i64 ((rd_T38 l0 x10_1).f8))).setCell ⟨gb115, 9, none⟩ (.int .i64 ((rd_T38 l0 x10_1).f9))).setCell ⟨gb115, 10, none⟩ (.int .i64 ((rd_T38 l0 x10_1).f10))).setCell ⟨gb115, 11, none⟩ (.bool ((rd_T38 l0 x10_1).f11))).heap[gb115]? = some (.cells #[.int .i64 ((rd_T38 l0 x10_1).f0), .int .i64 ((rd_T38 l0 x10_1).f1), .bool ((rd_T38 l0 x10_1).f2), .int .i64 ((rd_T38 l0 x10_1).f3), .int .i64 ((rd_T38 l0 x10_1).f4), .bool ((rd_T38 l0 x10_1).f5), .bool ((rd_T38 l0 x10_1).f6), .bool ((rd_T38 l0 x10_1).f7), .int .i64 ((rd_T38 l0 x10_1).f8), .int .i64 ((rd_T38 l0 x10_1).f9), .int .i64 ((rd_T38 l0 x10_1).f10), .bool ((rd_T38 l0 x10_1).f11)] 38 (0, 0))) := ⟨by (with_reducible repeat (first | refine blk_drewN ?_ _ | refine blk_drew ?_ | refine blk_alloc ?_ _)); refine blk_put (cs := #[.int .i64 ((rd_T38 l0 x10_1).f0), .int .i64 ((rd_T38 l0 x10_1).f1), .bool ((rd_T38 l0 x10_1).f2), .int .i64 ((rd_T38 l0 x10_1).f3), .int .i64 ((rd_T38 l0 x10_1).f4), .bool ((rd_T38 l0 x10_1).f5), .bool ((rd_T38 l0 x10_1).f6), .bool ((rd_T38 l0 x10_1).f7), .int .i64 ((rd_T38 l0 x10_1).f8), .int .i64 ((rd_T38 l0 x10_1).f9), .int .i64 ((rd_T38 l0 x10_1).f10), .bool false]) ?_ 11 _ rfl; (with_reducible repeat (first | refine blk_drewN ?_ _ | refine blk_drew ?_ | refine blk_alloc ?_ _)); refine blk_put (cs := #[.int .i64 ((rd_T38 l0 x10_1).f0), .int .i64 ((rd_T38 l0 x10_1).f1), .bool ((rd_T38 l0 x10_1).f2), .int .i64 ((rd_T38 l0 x10_1).f3), .int .i64 ((rd_T38 l0 x10_1).f4), .bool ((rd_T38 l0 x10_1).f5), .bool ((rd_T38 l0 x10_1).f6), .bool ((rd_T38 l0 x10_1).f7), .int .i64 ((rd_T38 l0 x10_1).f8), .int .i64 ((rd_T38 l0 x10_1).f9), .int .i64 0, .bool false]) ?_ 10 _ rfl; (with_reducible repeat (first | refine blk_drewN ?_ _ | refine blk_drew ?_ | refine blk_alloc ?_ _)); refine blk_put (cs := #[.int .i64 ((rd_T38 l0 x10_1).f0), .int .i64 ((rd_T38 l0 x10_1).f1), .bool ((rd_T38 l0 x10_1).f2), .int .i64 ((rd_T38 l0 x10_1).f3), .int .i64 ((rd_T38 l0 x10_1).f4), .bool ((rd_T38 l0 x10_1).f5), .bool ((rd_T38 l0 x10_1).f6), .bool ((rd_T38 l0 x10_1).f7), .int .i64 ((rd_T38 l0 x10_1).f8), .int .i64 0, .int .i64 0, .bool false]) ?_ 9 _ rfl; (with_reducible repeat (first | refine blk_drewN ?_ _ | refine blk_drew ?_ | refine blk_alloc ?_ _)); refine blk_put (cs := #[.int .i64 ((rd_T38 l0 x10_1).f0), .int .i64 ((rd_T38 l0 x10_1).f1), .bool ((rd_T38 l0 x10_1).f2), .int .i64 ((rd_T38 l0 x10_1).f3), .int .i64 ((rd_T38 l0 x10_1).f4), .bool ((rd_T38 l0 x10_1).f5), .bool ((rd_T38 l0 x10_1).f6), .bool ((rd_T38 l0 x10_1).f7), .int .i64 0, .int .i64 0, .int .i64 0, .bool false]) ?_ 8 _ rfl; (with_reducible repeat (first | refine blk_drewN ?_ _ | refine blk_drew ?_ | refine blk_alloc ?_ _)); refine blk_put (cs := #[.int .i64 ((rd_T38 l0 x10_1).f0), .int .i64 ((rd_T38 l0 x10_1).f1), .bool ((rd_T38 l0 x10_1).f2), .int .i64 ((rd_T38 l0 x10_1).f3), .int .i64 ((rd_T38 l0 x10_1).f4), .bool ((rd_T38 l0 x10_1).f5), .bool ((rd_T38 l0 x10_1).f6), .bool false, .int .i64 0, .int .i64 0, .int .i64 0, .bool false]) ?_ 7 _ rfl; (with_reducible repeat (first | refine blk_drewN ?_ _ | refine blk_drew ?_ | refine blk_alloc ?_ _)); refine blk_put (cs := #[.int .i64 ((rd_T38 l0 x10_1).f0), .int .i64 ((rd_T38 l0 x10_1).f1), .bool ((rd_T38 l0 x10_1).f2), .int .i64 ((rd_T38 l0 x10_1).f3), .int .i64 ((rd_T38 l0 x10_1).f4), .bool ((rd_T38 l0 x10_1).f5), .bool false, .bool false, .int .i64 0, .int .i64 0, .int .i64 0, .bool false]) ?_ 6 _ rfl; (with_reducible repeat (first | refine blk_drewN ?_ _ | refine blk_drew ?_ | refine blk_alloc ?_ _)); refine blk_put (cs := #[.int .i64 ((rd_T38 l0 x10_1).f0), .int .i64 ((rd_T38 l0 x10_1).f1), .bool ((rd_T38 l0 x10_1).f2), .int .i64 ((rd_T38 l0 x10_1).f3), .int .i64 ((rd_T38 l0 x10_1).f4), .bool false, .bool false, .bool false, .int .i64 0, .int .i64 0, .int .i64 0, .bool false]) ?_ 5 _ rfl; (with_reducible repeat (first | refine blk_drewN ?_ _ | refine blk_drew ?_ | refine blk_alloc ?_ _)); refine blk_put (cs := #[.int .i64 ((rd_T38 l0 x10_1).f0), .int .i64 ((rd_T38 l0 x10_1).f1), .bool ((rd_T38 l0 x10_1).f2), .int .i64 ((rd_T38 l0 x10_1).f3), .int .i64 0, .bool false, .bool false, .bool false, .int .i64 0, .int .i64 0, .int .i64 0, .bool false]) ?_ 4 _ rfl; (with_reducible repeat (first | refine blk_drewN ?_ _ | refine blk_drew ?_ | refine blk_alloc ?_ _)); refine blk_put (cs := #[.int .i64 ((rd_T38 l0 x10_1).f0), .int .i64 ((rd_T38 l0 x10_1).f1), .bool ((rd_T38 l0 x10_1).f2), .int .i64 0, .int .i64 0, .bool false, .bool false, .bool false, .int .i64 0, .int .i64 0, .int .i64 0, .bool false]) ?_ 3 _ rfl; (with_reducible repeat (first | refine blk_drewN ?_ _ | refine blk_drew ?_ | refine blk_alloc ?_ _)); refine blk_put (cs := #[.int .i64 ((rd_T38 l0 x10_1).f0), .int .i64 ((rd_T38 l0 x10_1).f1), .bool false, .int .i64 0, .int .i64 0, .bool false, .bool false, .bool false, .int .i64 0, .int .i64 0, .int .i64 0, .bool false]) ?_ 2 _ rfl; (with_reducible repeat (first | refine blk_drewN ?_ _ | refine blk_drew ?_ | refine blk_alloc ?_ _)); refine blk_put (cs := #[.int .i64 ((rd_T38 l0 x10_1).f0), .int .i64 0, .bool false, .int .i64 0, .int .i64 0, .bool false, .bool false, .bool false, .int .i64 0, .int .i64 0, .int .i64 0, .bool false]) ?_ 1 _ rfl; (with_reducible repeat (first | refine blk_drewN ?_ _ | refine blk_drew ?_ | refine blk_alloc ?_ _)); refine blk_put (cs := #[.int .i64 0, .int .i64 0, .bool false, .int .i64 0, .int .i64 0, .bool false, .bool false, .bool false, .int .i64 0, .int .i64 0, .int .i64 0, .bool false]) ?_ 0 _ rfl; (with_reducible repeat (first | refine blk_drewN ?_ _ | refine blk_drew ?_ | refine blk_alloc ?_ _)); exact BK115.out⟩
          have n1_ : Aside0 (Below w.heap.size w ((((((((((((w7.setCell ⟨gb115, 0, none⟩ (.int .i64 ((rd_T38 l0 x10_1).f0))).setCell ⟨gb115, 1, none⟩ (.int .i64 ((rd_T38 l0 x10_1).f1))).setCell ⟨gb115, 2, none⟩ (.bool ((rd_T38 l0 x10_1).f2))).setCell ⟨gb115, 3, none⟩ (.int .i64 ((rd_T38 l0 x10_1).f3))).setCell ⟨gb115, 4, none⟩ (.int .i64 ((rd_T38 l0 x10_1).f4))).setCell ⟨gb115, 5, none⟩ (.bool ((rd_T38 l0 x10_1).f5))).setCell ⟨gb115, 6, none⟩ (.bool ((rd_T38 l0 x10_1).f6))).setCell ⟨gb115, 7, none⟩ (.bool ((rd_T38 l0 x10_1).f7))).setCell ⟨gb115, 8, none⟩ (.int .i64 ((rd_T38 l0 x10_1).f8))).setCell ⟨gb115, 9, none⟩ (.int .i64 ((rd_T38 l0 x10_1).f9))).setCell ⟨gb115, 10, none⟩ (.int .i64 ((rd_T38 l0 x10_1).f10))).setCell ⟨gb115, 11, none⟩ (.bool ((rd_T38 l0 x10_1).f11)))) := ⟨by repeat (first | (with_reducible first | exact HB.out | apply below_alloc | apply pw_below_drewN | apply below_drew1 | refine below_set ?_ GE115.out) | exact HB.out)⟩
          (try clear BK115)
          (try clear HB)
          generalize ((((((((((((w7.setCell ⟨gb115, 0, none⟩ (.int .i64 ((rd_T38 l0 x10_1).f0))).setCell ⟨gb115, 1, none⟩ (.int .i64 ((rd_T38 l0 x10_1).f1))).setCell ⟨gb115, 2, none⟩ (.bool ((rd_T38 l0 x10_1).f2))).setCell ⟨gb115, 3, none⟩ (.int .i64 ((rd_T38 l0 x10_1).f3))).setCell ⟨gb115, 4, none⟩ (.int .i64 ((rd_T38 l0 x10_1).f4))).setCell ⟨gb115, 5, none⟩ (.bool ((rd_T38 l0 x10_1).f5))).setCell ⟨gb115, 6, none⟩ (.bool ((rd_T38 l0 x10_1).f6))).setCell ⟨gb115, 7, none⟩ (.bool ((rd_T38 l0 x10_1).f7))).setCell ⟨gb115, 8, none⟩ (.int .i64 ((rd_T38 l0 x10_1).f8))).setCell ⟨gb115, 9, none⟩ (.int .i64 ((rd_T38 l0 x10_1).f9))).setCell ⟨gb115, 10, none⟩ (.int .i64 ((rd_T38 l0 x10_1).f10))).setCell ⟨gb115, 11, none⟩ (.bool ((rd_T38 l0 x10_1).f11))) = w22 at n0_ n1_ ⊢
          have BK115 := n0_
          have HB := n1_
          clear n0_ n1_
          have n0_ := Aside0.mk (blk_drew BK115.out)
          have n1_ := Aside0.mk (below_drew1 HB.out)
          clear BK115
          clear HB
          have BK115 := n0_
          have HB := n1_
          clear n0_ n1_
          refine start_ (n := 26) (S := fun w' => w'.cell? ⟨gb115, 0, none⟩ = some (.int .i64 ((rd_T38 l0 x10_1).f0)) ∧ w'.cell? ⟨gb115, 1, none⟩ = some (.int .i64 ((rd_T38 l0 x10_1).f1)) ∧ w'.cell? ⟨gb115, 2, none⟩ = some (.bool ((rd_T38 l0 x10_1).f2)) ∧ w'.cell? ⟨gb115, 3, none⟩ = some (.int .i64 ((rd_T38 l0 x10_1).f3)) ∧ w'.cell? ⟨gb115, 4, none⟩ = some (.int .i64 ((rd_T38 l0 x10_1).f4)) ∧ w'.cell? ⟨gb115, 5, none⟩ = some (.bool ((rd_T38 l0 x10_1).f5)) ∧ w'.cell? ⟨gb115, 6, none⟩ = some (.bool ((rd_T38 l0 x10_1).f6)) ∧ w'.cell? ⟨gb115, 7, none⟩ = some (.bool ((rd_T38 l0 x10_1).f7)) ∧ w'.cell? ⟨gb115, 8, none⟩ = some (.int .i64 ((rd_T38 l0 x10_1).f8)) ∧ w'.cell? ⟨gb115, 9, none⟩ = some (.int .i64 ((rd_T38 l0 x10_1).f9)) ∧ w'.cell? ⟨gb115, 10, none⟩ = some (.int .i64 ((rd_T38 l0 x10_1).f10)) ∧ w'.cell? ⟨gb115, 11, none⟩ = some (.bool ((rd_T38 l0 x10_1).f11))) (ds := []) #[false, false, false, false, false, false, false, false, false, false, false, false, false, false, false, false, false, false, false, false, false, false, false, false, false, false] (by kernel_rfl) rfl rfl ⟨(blk_cell BK115.out 0).trans rfl, (blk_cell BK115.out 1).trans rfl, (blk_cell BK115.out 2).trans rfl, (blk_cell BK115.out 3).trans rfl, (blk_cell BK115.out 4).trans rfl, (blk_cell BK115.out 5).trans rfl, (blk_cell BK115.out 6).trans rfl, (blk_cell BK115.out 7).trans rfl, (blk_cell BK115.out 8).trans rfl, (blk_cell BK115.out 9).trans rfl, (blk_cell BK115.out 10).trans rfl, (blk_cell BK115.out 11).trans rfl⟩ (fun hHeld => ?_); refine with_tabW board_Check.tab6 board_Check.bits6 (fun HT_ HW_ => ?_)
          generalize w22.drew = w23 at BK115 HB hHeld ⊢
          refine take_ (i := 0) (N := some 15) (v := ?_) (a' := ?_) #[true, false, false, false, false, false, false, false, false, false, false, false, false, false, false, false, false, false, false, false, false, false, false, false, false, false] rfl rfl (take_ofW HT_.out HW_.out (by kernel_rfl)) (fun _ _ _ h => h) (Or.inl ⟨by rfl, ?_⟩) hHeld ?_ ?_
          rotate_left
          ·rintro w' ⟨s0, s1, s2, s3, s4, s5, s6, s7, s8, s9, s10, s11⟩
           go_simp
           with_reducible rfl
          rotate_left
          ·simp only [Act.put, List.setIfInBounds_toArray, List.set_cons_zero, List.set_cons_succ, i64_w, i32_w]
           rfl
          refine one_ (i := 1) (N := some 16) #[true, true, false, false, false, false, false, false, false, false, false, false, false, false, false, false, false, false, false, false, false, false, false, false, false, false] rfl rfl (one_of HT_.out (by kernel_rfl)) (by decide) (fun K hK => ?_)
          refine goes_ Try.func40 (by kernel_rfl) rfl #[.agg #[.int .i64 ((rd_T38 l0 x10_1).f0), .int .i64 ((rd_T38 l0 x10_1).f1), .bool ((rd_T38 l0 x10_1).f2), .int .i64 ((rd_T38 l0 x10_1).f3), .int .i64 ((rd_T38 l0 x10_1).f4), .bool ((rd_T38 l0 x10_1).f5), .bool ((rd_T38 l0 x10_1).f6), .bool ((rd_T38 l0 x10_1).f7), .int .i64 ((rd_T38 l0 x10_1).f8), .int .i64 ((rd_T38 l0 x10_1).f9), .int .i64 ((rd_T38 l0 x10_1).f10), .bool ((rd_T38 l0 x10_1).f11)]] (by rfl) rfl rfl (by (try simp only [List.map_toArray, List.map_cons, List.map_nil]); first | done | rfl | (simp only [List.length_drop, List.length_take]; rfl)) ?_
          with_reducible refine (board_may.calls ((rd_T38 l0 x10_1).f0) ((rd_T38 l0 x10_1).f1) ((rd_T38 l0 x10_1).f2) ((rd_T38 l0 x10_1).f3) ((rd_T38 l0 x10_1).f4) ((rd_T38 l0 x10_1).f5) ((rd_T38 l0 x10_1).f6) ((rd_T38 l0 x10_1).f7) ((rd_T38 l0 x10_1).f8) ((rd_T38 l0 x10_1).f9) ((rd_T38 l0 x10_1).f10) ((rd_T38 l0 x10_1).f11) true _ A9.out).mono ?_
          rintro e w24 ⟨rfl, hb⟩
          refine ⟨_, rfl, ?_⟩
          have n0_ := Aside0.mk (blk_below (g := gb115) (o := .cells #[.int .i64 ((rd_T38 l0 x10_1).f0), .int .i64 ((rd_T38 l0 x10_1).f1), .bool ((rd_T38 l0 x10_1).f2), .int .i64 ((rd_T38 l0 x10_1).f3), .int .i64 ((rd_T38 l0 x10_1).f4), .bool ((rd_T38 l0 x10_1).f5), .bool ((rd_T38 l0 x10_1).f6), .bool ((rd_T38 l0 x10_1).f7), .int .i64 ((rd_T38 l0 x10_1).f8), .int .i64 ((rd_T38 l0 x10_1).f9), .int .i64 ((rd_T38 l0 x10_1).f10), .bool ((rd_T38 l0 x10_1).f11)] 38 (0, 0)) (by (with_reducible repeat (first | refine blk_drewN ?_ _ | refine blk_drew ?_ | refine blk_alloc ?_ _)); exact BK115.out) hb)
          have n1_ := Aside0.mk (below_step (by repeat (first | (with_reducible first | exact HB.out | apply below_alloc | apply pw_below_drewN | apply below_drew1 | refine below_set ?_ GE115.out) | exact HB.out)) hb)
          clear BK115
          clear HB
          have BK115 := n0_
          have HB := n1_
          clear n0_ n1_
          (try clear hb)
          (try clear hb2)
          (try clear hk)
          (try clear hi)
          refine hK.out _ _ ⟨(blk_cell BK115.out 0).trans rfl, (blk_cell BK115.out 1).trans rfl, (blk_cell BK115.out 2).trans rfl, (blk_cell BK115.out 3).trans rfl, (blk_cell BK115.out 4).trans rfl, (blk_cell BK115.out 5).trans rfl, (blk_cell BK115.out 6).trans rfl, (blk_cell BK115.out 7).trans rfl, (blk_cell BK115.out 8).trans rfl, (blk_cell BK115.out 9).trans rfl, (blk_cell BK115.out 10).trans rfl, (blk_cell BK115.out 11).trans rfl⟩ (fun hHeld => ?_)
          clear hK K
          refine norm_ (a' := ?_) ?_ ?_
          rotate_left
          ·show Act.put _ (some 16) _ = _
           simp only [Act.put, List.setIfInBounds_toArray, List.set_cons_zero, List.set_cons_succ, i64_w, i32_w]
           rfl
          refine pure_ (i := 2) (N := some 17) (v := ?_) (a' := ?_) #[true, true, true, false, false, false, false, false, false, false, false, false, false, false, false, false, false, false, false, false, false, false, false, false, false, false] rfl rfl (any_of HT_.out (by kernel_rfl)) (fun _ _ _ h => h) (Or.inl ⟨by rfl, ?_⟩) ?_ ?_
          rotate_left
          ·intro w'
           go_simp
           with_reducible rfl
          rotate_left
          ·simp only [Act.put, List.setIfInBounds_toArray, List.set_cons_zero, List.set_cons_succ, i64_w, i32_w]
           rfl
          refine pure_ (i := 3) (N := some 18) (v := ?_) (a' := ?_) #[true, true, true, true, false, false, false, false, false, false, false, false, false, false, false, false, false, false, false, false, false, false, false, false, false, false] rfl rfl (any_of HT_.out (by kernel_rfl)) (fun _ _ _ h => h) (Or.inl ⟨by rfl, ?_⟩) ?_ ?_
          rotate_left
          ·intro w'
           go_simp
           with_reducible rfl
          rotate_left
          ·simp only [Act.put, List.setIfInBounds_toArray, List.set_cons_zero, List.set_cons_succ, i64_w, i32_w]
           rfl
          refine pure_ (i := 4) (N := some 19) (v := ?_) (a' := ?_) #[true, true, true, true, true, false, false, false, false, false, false, false, false, false, false, false, false, false, false, false, false, false, false, false, false, false] rfl rfl (any_of HT_.out (by kernel_rfl)) (fun _ _ _ h => h) (Or.inl ⟨by rfl, ?_⟩) ?_ ?_
          rotate_left
          ·intro w'
           go_simp
           with_reducible rfl
          rotate_left
          ·simp only [Act.put, List.setIfInBounds_toArray, List.set_cons_zero, List.set_cons_succ, i64_w, i32_w]
           rfl
          refine pure_ (i := 5) (N := some 20) (v := ?_) (a' := ?_) #[true, true, true, true, true, true, false, false, false, false, false, false, false, false, false, false, false, false, false, false, false, false, false, false, false, false] rfl rfl (any_of HT_.out (by kernel_rfl)) (fun _ _ _ h => h) (Or.inl ⟨by rfl, ?_⟩) ?_ ?_
          rotate_left
          ·intro w'
           go_simp
           with_reducible rfl
          rotate_left
          ·simp only [Act.put, List.setIfInBounds_toArray, List.set_cons_zero, List.set_cons_succ, i64_w, i32_w]
           rfl
          refine pure_ (i := 6) (N := some 21) (v := ?_) (a' := ?_) #[true, true, true, true, true, true, true, false, false, false, false, false, false, false, false, false, false, false, false, false, false, false, false, false, false, false] rfl rfl (any_of HT_.out (by kernel_rfl)) (fun _ _ _ h => h) (Or.inl ⟨by rfl, ?_⟩) ?_ ?_
          rotate_left
          ·intro w'
           go_simp
           with_reducible rfl
          rotate_left
          ·simp only [Act.put, List.setIfInBounds_toArray, List.set_cons_zero, List.set_cons_succ, i64_w, i32_w]
           rfl
          refine pure_ (i := 7) (N := some 22) (v := undef) (a' := ?_) #[true, true, true, true, true, true, true, true, false, false, false, false, false, false, false, false, false, false, false, false, false, false, false, false, false, false] rfl rfl (any_of HT_.out (by kernel_rfl)) (fun _ _ _ h => h) (Or.inr ⟨by rfl, rfl⟩) ?_ ?_
          rotate_left
          ·simp only [Act.put, List.setIfInBounds_toArray, List.set_cons_zero, List.set_cons_succ, i64_w, i32_w]
           rfl
          refine pure_ (i := 8) (N := some 23) (v := undef) (a' := ?_) #[true, true, true, true, true, true, true, true, true, false, false, false, false, false, false, false, false, false, false, false, false, false, false, false, false, false] rfl rfl (any_of HT_.out (by kernel_rfl)) (fun _ _ _ h => h) (Or.inr ⟨by rfl, rfl⟩) ?_ ?_
          rotate_left
          ·simp only [Act.put, List.setIfInBounds_toArray, List.set_cons_zero, List.set_cons_succ, i64_w, i32_w]
           rfl
          refine pure_ (i := 9) (N := some 24) (v := undef) (a' := ?_) #[true, true, true, true, true, true, true, true, true, true, false, false, false, false, false, false, false, false, false, false, false, false, false, false, false, false] rfl rfl (any_of HT_.out (by kernel_rfl)) (fun _ _ _ h => h) (Or.inr ⟨by rfl, rfl⟩) ?_ ?_
          rotate_left
          ·simp only [Act.put, List.setIfInBounds_toArray, List.set_cons_zero, List.set_cons_succ, i64_w, i32_w]
           rfl
          refine pure_ (i := 10) (N := some 25) (v := undef) (a' := ?_) #[true, true, true, true, true, true, true, true, true, true, true, false, false, false, false, false, false, false, false, false, false, false, false, false, false, false] rfl rfl (any_of HT_.out (by kernel_rfl)) (fun _ _ _ h => h) (Or.inr ⟨by rfl, rfl⟩) ?_ ?_
          rotate_left
          ·simp only [Act.put, List.setIfInBounds_toArray, List.set_cons_zero, List.set_cons_succ, i64_w, i32_w]
           rfl
          refine pure_ (i := 11) (N := some 26) (v := undef) (a' := ?_) #[true, true, true, true, true, true, true, true, true, true, true, true, false, false, false, false, false, false, false, false, false, false, false, false, false, false] rfl rfl (any_of HT_.out (by kernel_rfl)) (fun _ _ _ h => h) (Or.inr ⟨by rfl, rfl⟩) ?_ ?_
          rotate_left
          ·simp only [Act.put, List.setIfInBounds_toArray, List.set_cons_zero, List.set_cons_succ, i64_w, i32_w]
           rfl
          refine pure_ (i := 12) (N := some 27) (v := undef) (a' := ?_) #[true, true, true, true, true, true, true, true, true, true, true, true, true, false, false, false, false, false, false, false, false, false, false, false, false, false] rfl rfl (any_of HT_.out (by kernel_rfl)) (fun _ _ _ h => h) (Or.inr ⟨by rfl, rfl⟩) ?_ ?_
          rotate_left
          ·simp only [Act.put, List.setIfInBounds_toArray, List.set_cons_zero, List.set_cons_succ, i64_w, i32_w]
           rfl
          refine pure_ (i := 13) (N := some 28) (v := undef) (a' := ?_) #[true, true, true, true, true, true, true, true, true, true, true, true, true, true, false, false, false, false, false, false, false, false, false, false, false, false] rfl rfl (any_of HT_.out (by kernel_rfl)) (fun _ _ _ h => h) (Or.inr ⟨by rfl, rfl⟩) ?_ ?_
          rotate_left
          ·simp only [Act.put, List.setIfInBounds_toArray, List.set_cons_zero, List.set_cons_succ, i64_w, i32_w]
           rfl
          refine pure_ (i := 14) (N := some 29) (v := undef) (a' := ?_) #[true, true, true, true, true, true, true, true, true, true, true, true, true, true, true, false, false, false, false, false, false, false, false, false, false, false] rfl rfl (any_of HT_.out (by kernel_rfl)) (fun _ _ _ h => h) (Or.inr ⟨by rfl, rfl⟩) ?_ ?_
          rotate_left
          ·simp only [Act.put, List.setIfInBounds_toArray, List.set_cons_zero, List.set_cons_succ, i64_w, i32_w]
           rfl
          refine pure_ (i := 15) (N := some 30) (v := undef) (a' := ?_) #[true, true, true, true, true, true, true, true, true, true, true, true, true, true, true, true, false, false, false, false, false, false, false, false, false, false] rfl rfl (any_of HT_.out (by kernel_rfl)) (fun _ _ _ h => h) (Or.inr ⟨by rfl, rfl⟩) ?_ ?_
          rotate_left
          ·simp only [Act.put, List.setIfInBounds_toArray, List.set_cons_zero, List.set_cons_succ, i64_w, i32_w]
           rfl
          refine pure_ (i := 16) (N := some 31) (v := undef) (a' := ?_) #[true, true, true, true, true, true, true, true, true, true, true, true, true, true, true, true, true, false, false, false, false, false, false, false, false, false] rfl rfl (any_of HT_.out (by kernel_rfl)) (fun _ _ _ h => h) (Or.inr ⟨by rfl, rfl⟩) ?_ ?_
          rotate_left
          ·simp only [Act.put, List.setIfInBounds_toArray, List.set_cons_zero, List.set_cons_succ, i64_w, i32_w]
           rfl
          refine pure_ (i := 17) (N := some 32) (v := undef) (a' := ?_) #[true, true, true, true, true, true, true, true, true, true, true, true, true, true, true, true, true, true, false, false, false, false, false, false, false, false] rfl rfl (any_of HT_.out (by kernel_rfl)) (fun _ _ _ h => h) (Or.inr ⟨by rfl, rfl⟩) ?_ ?_
          rotate_left
          ·simp only [Act.put, List.setIfInBounds_toArray, List.set_cons_zero, List.set_cons_succ, i64_w, i32_w]
           rfl
          refine pure_ (i := 18) (N := some 33) (v := undef) (a' := ?_) #[true, true, true, true, true, true, true, true, true, true, true, true, true, true, true, true, true, true, true, false, false, false, false, false, false, false] rfl rfl (any_of HT_.out (by kernel_rfl)) (fun _ _ _ h => h) (Or.inr ⟨by rfl, rfl⟩) ?_ ?_
          rotate_left
          ·simp only [Act.put, List.setIfInBounds_toArray, List.set_cons_zero, List.set_cons_succ, i64_w, i32_w]
           rfl
          refine pure_ (i := 19) (N := some 34) (v := undef) (a' := ?_) #[true, true, true, true, true, true, true, true, true, true, true, true, true, true, true, true, true, true, true, true, false, false, false, false, false, false] rfl rfl (any_of HT_.out (by kernel_rfl)) (fun _ _ _ h => h) (Or.inr ⟨by rfl, rfl⟩) ?_ ?_
          rotate_left
          ·simp only [Act.put, List.setIfInBounds_toArray, List.set_cons_zero, List.set_cons_succ, i64_w, i32_w]
           rfl
          refine pure_ (i := 20) (N := some 35) (v := undef) (a' := ?_) #[true, true, true, true, true, true, true, true, true, true, true, true, true, true, true, true, true, true, true, true, true, false, false, false, false, false] rfl rfl (any_of HT_.out (by kernel_rfl)) (fun _ _ _ h => h) (Or.inr ⟨by rfl, rfl⟩) ?_ ?_
          rotate_left
          ·simp only [Act.put, List.setIfInBounds_toArray, List.set_cons_zero, List.set_cons_succ, i64_w, i32_w]
           rfl
          refine pure_ (i := 21) (N := some 36) (v := undef) (a' := ?_) #[true, true, true, true, true, true, true, true, true, true, true, true, true, true, true, true, true, true, true, true, true, true, false, false, false, false] rfl rfl (any_of HT_.out (by kernel_rfl)) (fun _ _ _ h => h) (Or.inr ⟨by rfl, rfl⟩) ?_ ?_
          rotate_left
          ·simp only [Act.put, List.setIfInBounds_toArray, List.set_cons_zero, List.set_cons_succ, i64_w, i32_w]
           rfl
          refine pure_ (i := 22) (N := some 37) (v := undef) (a' := ?_) #[true, true, true, true, true, true, true, true, true, true, true, true, true, true, true, true, true, true, true, true, true, true, true, false, false, false] rfl rfl (any_of HT_.out (by kernel_rfl)) (fun _ _ _ h => h) (Or.inr ⟨by rfl, rfl⟩) ?_ ?_
          rotate_left
          ·simp only [Act.put, List.setIfInBounds_toArray, List.set_cons_zero, List.set_cons_succ, i64_w, i32_w]
           rfl
          refine pure_ (i := 23) (N := some 38) (v := undef) (a' := ?_) #[true, true, true, true, true, true, true, true, true, true, true, true, true, true, true, true, true, true, true, true, true, true, true, true, false, false] rfl rfl (any_of HT_.out (by kernel_rfl)) (fun _ _ _ h => h) (Or.inr ⟨by rfl, rfl⟩) ?_ ?_
          rotate_left
          ·simp only [Act.put, List.setIfInBounds_toArray, List.set_cons_zero, List.set_cons_succ, i64_w, i32_w]
           rfl
          refine pure_ (i := 24) (N := some 39) (v := ?_) (a' := ?_) #[true, true, true, true, true, true, true, true, true, true, true, true, true, true, true, true, true, true, true, true, true, true, true, true, true, false] rfl rfl (any_of HT_.out (by kernel_rfl)) (fun _ _ _ h => h) (Or.inl ⟨by rfl, ?_⟩) ?_ ?_
          rotate_left
          ·intro w'
           go_simp
           with_reducible rfl
          rotate_left
          ·simp only [Act.put, List.setIfInBounds_toArray, List.set_cons_zero, List.set_cons_succ, i64_w, i32_w]
           rfl
          refine pure_ (i := 25) (N := some 40) (v := ?_) (a' := ?_) #[true, true, true, true, true, true, true, true, true, true, true, true, true, true, true, true, true, true, true, true, true, true, true, true, true, true] rfl rfl (any_of HT_.out (by kernel_rfl)) (fun _ _ _ h => h) (Or.inl ⟨by rfl, ?_⟩) ?_ ?_
          rotate_left
          ·intro w'
           go_simp
           with_reducible rfl
          rotate_left
          ·simp only [Act.put, List.setIfInBounds_toArray, List.set_cons_zero, List.set_cons_succ, i64_w, i32_w]
           rfl
          refine done_ (done_of HT_.out (by kernel_rfl)) ?_
          try go_wp2
          go_meet
          case rel => exact ⟨_, (false), (by first | rfl | (simp; done) | (simp [*]; done)), H', ⟨by have := HK1.out; first | omega | exact Nat.le_refl _⟩, ⟨by (with_reducible repeat (first | refine blk_drewN ?_ _ | refine blk_drew ?_ | refine blk_alloc ?_ _)); exact BK115.out⟩, ⟨by repeat (first | (with_reducible first | exact HB.out | apply below_alloc | apply pw_below_drewN | apply below_drew1 | refine below_set ?_ GE115.out) | exact HB.out)⟩⟩
        ·replace c10 := Bool.eq_false_iff.mpr c10
         subst c10
         have H1 : (board_Check.j1 k1 l0 l0 (l0.length : Int) x10_1 true) = some r := by rw [if_neg (show ¬ (false = true) by decide)] at H; exact H
         clear H
         have H := H1
         clear H1
         have H' := Aside0.mk H
         clear H
         try go_wp2
         have n0_ : Aside0 (((((((((((((w7.setCell ⟨gb115, 0, none⟩ (.int .i64 ((rd_T38 l0 x10_1).f0))).setCell ⟨gb115, 1, none⟩ (.int .i64 ((rd_T38 l0 x10_1).f1))).setCell ⟨gb115, 2, none⟩ (.bool ((rd_T38 l0 x10_1).f2))).setCell ⟨gb115, 3, none⟩ (.int .i64 ((rd_T38 l0 x10_1).f3))).setCell ⟨gb115, 4, none⟩ (.int .i64 ((rd_T38 l0 x10_1).f4))).setCell ⟨gb115, 5, none⟩ (.bool ((rd_T38 l0 x10_1).f5))).setCell ⟨gb115, 6, none⟩ (.bool ((rd_T38 l0 x10_1).f6))).setCell ⟨gb115, 7, none⟩ (.bool ((rd_T38 l0 x10_1).f7))).setCell ⟨gb115, 8, none⟩ (.int .i64 ((rd_T38 l0 x10_1).f8))).setCell ⟨gb115, 9, none⟩ (.int .i64 ((rd_T38 l0 x10_1).f9))).setCell ⟨gb115, 10, none⟩ (.int .i64 ((rd_T38 l0 x10_1).f10))).setCell ⟨gb115, 11, none⟩ (.bool ((rd_T38 l0 x10_1).f11))).heap[gb115]? = some (.cells #[.int .i64 ((rd_T38 l0 x10_1).f0), .int .i64 ((rd_T38 l0 x10_1).f1), .bool ((rd_T38 l0 x10_1).f2), .int .i64 ((rd_T38 l0 x10_1).f3), .int .i64 ((rd_T38 l0 x10_1).f4), .bool ((rd_T38 l0 x10_1).f5), .bool ((rd_T38 l0 x10_1).f6), .bool ((rd_T38 l0 x10_1).f7), .int .i64 ((rd_T38 l0 x10_1).f8), .int .i64 ((rd_T38 l0 x10_1).f9), .int .i64 ((rd_T38 l0 x10_1).f10), .bool ((rd_T38 l0 x10_1).f11)] 38 (0, 0))) := ⟨by (with_reducible repeat (first | refine blk_drewN ?_ _ | refine blk_drew ?_ | refine blk_alloc ?_ _)); refine blk_put (cs := #[.int .i64 ((rd_T38 l0 x10_1).f0), .int .i64 ((rd_T38 l0 x10_1).f1), .bool ((rd_T38 l0 x10_1).f2), .int .i64 ((rd_T38 l0 x10_1).f3), .int .i64 ((rd_T38 l0 x10_1).f4), .bool ((rd_T38 l0 x10_1).f5), .bool ((rd_T38 l0 x10_1).f6), .bool ((rd_T38 l0 x10_1).f7), .int .i64 ((rd_T38 l0 x10_1).f8), .int .i64 ((rd_T38 l0 x10_1).f9), .int .i64 ((rd_T38 l0 x10_1).f10), .bool false]) ?_ 11 _ rfl; (with_reducible repeat (first | refine blk_drewN ?_ _ | refine blk_drew ?_ | refine blk_alloc ?_ _)); refine blk_put (cs := #[.int .i64 ((rd_T38 l0 x10_1).f0), .int .i64 ((rd_T38 l0 x10_1).f1), .bool ((rd_T38 l0 x10_1).f2), .int .i64 ((rd_T38 l0 x10_1).f3), .int .i64 ((rd_T38 l0 x10_1).f4), .bool ((rd_T38 l0 x10_1).f5), .bool ((rd_T38 l0 x10_1).f6), .bool ((rd_T38 l0 x10_1).f7), .int .i64 ((rd_T38 l0 x10_1).f8), .int .i64 ((rd_T38 l0 x10_1).f9), .int .i64 0, .bool false]) ?_ 10 _ rfl; (with_reducible repeat (first | refine blk_drewN ?_ _ | refine blk_drew ?_ | refine blk_alloc ?_ _)); refine blk_put (cs := #[.int .i64 ((rd_T38 l0 x10_1).f0), .int .i64 ((rd_T38 l0 x10_1).f1), .bool ((rd_T38 l0 x10_1).f2), .int .i64 ((rd_T38 l0 x10_1).f3), .int .i64 ((rd_T38 l0 x10_1).f4), .bool ((rd_T38 l0 x10_1).f5), .bool ((rd_T38 l0 x10_1).f6), .bool ((rd_T38 l0 x10_1).f7), .int .i64 ((rd_T38 l0 x10_1).f8), .int .i64 0, .int .i64 0, .bool false]) ?_ 9 _ rfl; (with_reducible repeat (first | refine blk_drewN ?_ _ | refine blk_drew ?_ | refine blk_alloc ?_ _)); refine blk_put (cs := #[.int .i64 ((rd_T38 l0 x10_1).f0), .int .i64 ((rd_T38 l0 x10_1).f1), .bool ((rd_T38 l0 x10_1).f2), .int .i64 ((rd_T38 l0 x10_1).f3), .int .i64 ((rd_T38 l0 x10_1).f4), .bool ((rd_T38 l0 x10_1).f5), .bool ((rd_T38 l0 x10_1).f6), .bool ((rd_T38 l0 x10_1).f7), .int .i64 0, .int .i64 0, .int .i64 0, .bool false]) ?_ 8 _ rfl; (with_reducible repeat (first | refine blk_drewN ?_ _ | refine blk_drew ?_ | refine blk_alloc ?_ _)); refine blk_put (cs := #[.int .i64 ((rd_T38 l0 x10_1).f0), .int .i64 ((rd_T38 l0 x10_1).f1), .bool ((rd_T38 l0 x10_1).f2), .int .i64 ((rd_T38 l0 x10_1).f3), .int .i64 ((rd_T38 l0 x10_1).f4), .bool ((rd_T38 l0 x10_1).f5), .bool ((rd_T38 l0 x10_1).f6), .bool false, .int .i64 0, .int .i64 0, .int .i64 0, .bool false]) ?_ 7 _ rfl; (with_reducible repeat (first | refine blk_drewN ?_ _ | refine blk_drew ?_ | refine blk_alloc ?_ _)); refine blk_put (cs := #[.int .i64 ((rd_T38 l0 x10_1).f0), .int .i64 ((rd_T38 l0 x10_1).f1), .bool ((rd_T38 l0 x10_1).f2), .int .i64 ((rd_T38 l0 x10_1).f3), .int .i64 ((rd_T38 l0 x10_1).f4), .bool ((rd_T38 l0 x10_1).f5), .bool false, .bool false, .int .i64 0, .int .i64 0, .int .i64 0, .bool false]) ?_ 6 _ rfl; (with_reducible repeat (first | refine blk_drewN ?_ _ | refine blk_drew ?_ | refine blk_alloc ?_ _)); refine blk_put (cs := #[.int .i64 ((rd_T38 l0 x10_1).f0), .int .i64 ((rd_T38 l0 x10_1).f1), .bool ((rd_T38 l0 x10_1).f2), .int .i64 ((rd_T38 l0 x10_1).f3), .int .i64 ((rd_T38 l0 x10_1).f4), .bool false, .bool false, .bool false, .int .i64 0, .int .i64 0, .int .i64 0, .bool false]) ?_ 5 _ rfl; (with_reducible repeat (first | refine blk_drewN ?_ _ | refine blk_drew ?_ | refine blk_alloc ?_ _)); refine blk_put (cs := #[.int .i64 ((rd_T38 l0 x10_1).f0), .int .i64 ((rd_T38 l0 x10_1).f1), .bool ((rd_T38 l0 x10_1).f2), .int .i64 ((rd_T38 l0 x10_1).f3), .int .i64 0, .bool false, .bool false, .bool false, .int .i64 0, .int .i64 0, .int .i64 0, .bool false]) ?_ 4 _ rfl; (with_reducible repeat (first | refine blk_drewN ?_ _ | refine blk_drew ?_ | refine blk_alloc ?_ _)); refine blk_put (cs := #[.int .i64 ((rd_T38 l0 x10_1).f0), .int .i64 ((rd_T38 l0 x10_1).f1), .bool ((rd_T38 l0 x10_1).f2), .int .i64 0, .int .i64 0, .bool false, .bool false, .bool false, .int .i64 0, .int .i64 0, .int .i64 0, .bool false]) ?_ 3 _ rfl; (with_reducible repeat (first | refine blk_drewN ?_ _ | refine blk_drew ?_ | refine blk_alloc ?_ _)); refine blk_put (cs := #[.int .i64 ((rd_T38 l0 x10_1).f0), .int .i64 ((rd_T38 l0 x10_1).f1), .bool false, .int .i64 0, .int .i64 0, .bool false, .bool false, .bool false, .int .i64 0, .int .i64 0, .int .i64 0, .bool false]) ?_ 2 _ rfl; (with_reducible repeat (first | refine blk_drewN ?_ _ | refine blk_drew ?_ | refine blk_alloc ?_ _)); refine blk_put (cs := #[.int .i64 ((rd_T38 l0 x10_1).f0), .int .i64 0, .bool false, .int .i64 0, .int .i64 0, .bool false, .bool false, .bool false, .int .i64 0, .int .i64 0, .int .i64 0, .bool false]) ?_ 1 _ rfl; (with_reducible repeat (first | refine blk_drewN ?_ _ | refine blk_drew ?_ | refine blk_alloc ?_ _)); refine blk_put (cs := #[.int .i64 0, .int .i64 0, .bool false, .int .i64 0, .int .i64 0, .bool false, .bool false, .bool false, .int .i64 0, .int .i64 0, .int .i64 0, .bool false]) ?_ 0 _ rfl; (with_reducible repeat (first | refine blk_drewN ?_ _ | refine blk_drew ?_ | refine blk_alloc ?_ _)); exact BK115.out⟩
         have n1_ : Aside0 (Below w.heap.size w ((((((((((((w7.setCell ⟨gb115, 0, none⟩ (.int .i64 ((rd_T38 l0 x10_1).f0))).setCell ⟨gb115, 1, none⟩ (.int .i64 ((rd_T38 l0 x10_1).f1))).setCell ⟨gb115, 2, none⟩ (.bool ((rd_T38 l0 x10_1).f2))).setCell ⟨gb115, 3, none⟩ (.int .i64 ((rd_T38 l0 x10_1).f3))).setCell ⟨gb115, 4, none⟩ (.int .i64 ((rd_T38 l0 x10_1).f4))).setCell ⟨gb115, 5, none⟩ (.bool ((rd_T38 l0 x10_1).f5))).setCell ⟨gb115, 6, none⟩ (.bool ((rd_T38 l0 x10_1).f6))).setCell ⟨gb115, 7, none⟩ (.bool ((rd_T38 l0 x10_1).f7))).setCell ⟨gb115, 8, none⟩ (.int .i64 ((rd_T38 l0 x10_1).f8))).setCell ⟨gb115, 9, none⟩ (.int .i64 ((rd_T38 l0 x10_1).f9))).setCell ⟨gb115, 10, none⟩ (.int .i64 ((rd_T38 l0 x10_1).f10))).setCell ⟨gb115, 11, none⟩ (.bool ((rd_T38 l0 x10_1).f11)))) := ⟨by repeat (first | (with_reducible first | exact HB.out | apply below_alloc | apply pw_below_drewN | apply below_drew1 | refine below_set ?_ GE115.out) | exact HB.out)⟩
         (try clear BK115)
         (try clear HB)
         generalize ((((((((((((w7.setCell ⟨gb115, 0, none⟩ (.int .i64 ((rd_T38 l0 x10_1).f0))).setCell ⟨gb115, 1, none⟩ (.int .i64 ((rd_T38 l0 x10_1).f1))).setCell ⟨gb115, 2, none⟩ (.bool ((rd_T38 l0 x10_1).f2))).setCell ⟨gb115, 3, none⟩ (.int .i64 ((rd_T38 l0 x10_1).f3))).setCell ⟨gb115, 4, none⟩ (.int .i64 ((rd_T38 l0 x10_1).f4))).setCell ⟨gb115, 5, none⟩ (.bool ((rd_T38 l0 x10_1).f5))).setCell ⟨gb115, 6, none⟩ (.bool ((rd_T38 l0 x10_1).f6))).setCell ⟨gb115, 7, none⟩ (.bool ((rd_T38 l0 x10_1).f7))).setCell ⟨gb115, 8, none⟩ (.int .i64 ((rd_T38 l0 x10_1).f8))).setCell ⟨gb115, 9, none⟩ (.int .i64 ((rd_T38 l0 x10_1).f9))).setCell ⟨gb115, 10, none⟩ (.int .i64 ((rd_T38 l0 x10_1).f10))).setCell ⟨gb115, 11, none⟩ (.bool ((rd_T38 l0 x10_1).f11))) = w25 at n0_ n1_ ⊢
         have BK115 := n0_
         have HB := n1_
         clear n0_ n1_
         have n0_ := Aside0.mk (blk_drew BK115.out)
         have n1_ := Aside0.mk (below_drew1 HB.out)
         clear BK115
         clear HB
         have BK115 := n0_
         have HB := n1_
         clear n0_ n1_
         refine start_ (n := 26) (S := fun w' => w'.cell? ⟨gb115, 0, none⟩ = some (.int .i64 ((rd_T38 l0 x10_1).f0)) ∧ w'.cell? ⟨gb115, 1, none⟩ = some (.int .i64 ((rd_T38 l0 x10_1).f1)) ∧ w'.cell? ⟨gb115, 2, none⟩ = some (.bool ((rd_T38 l0 x10_1).f2)) ∧ w'.cell? ⟨gb115, 3, none⟩ = some (.int .i64 ((rd_T38 l0 x10_1).f3)) ∧ w'.cell? ⟨gb115, 4, none⟩ = some (.int .i64 ((rd_T38 l0 x10_1).f4)) ∧ w'.cell? ⟨gb115, 5, none⟩ = some (.bool ((rd_T38 l0 x10_1).f5)) ∧ w'.cell? ⟨gb115, 6, none⟩ = some (.bool ((rd_T38 l0 x10_1).f6)) ∧ w'.cell? ⟨gb115, 7, none⟩ = some (.bool ((rd_T38 l0 x10_1).f7)) ∧ w'.cell? ⟨gb115, 8, none⟩ = some (.int .i64 ((rd_T38 l0 x10_1).f8)) ∧ w'.cell? ⟨gb115, 9, none⟩ = some (.int .i64 ((rd_T38 l0 x10_1).f9)) ∧ w'.cell? ⟨gb115, 10, none⟩ = some (.int .i64 ((rd_T38 l0 x10_1).f10)) ∧ w'.cell? ⟨gb115, 11, none⟩ = some (.bool ((rd_T38 l0 x10_1).f11))) (ds := []) #[false, false, false, false, false, false, false, false, false, false, false, false, false, false, false, false, false, false, false, false, false, false, false, false, false, false] (by kernel_rfl) rfl rfl ⟨(blk_cell BK115.out 0).trans rfl, (blk_cell BK115.out 1).trans rfl, (blk_cell BK115.out 2).trans rfl, (blk_cell BK115.out 3).trans rfl, (blk_cell BK115.out 4).trans rfl, (blk_cell BK115.out 5).trans rfl, (blk_cell BK115.out 6).trans rfl, (blk_cell BK115.out 7).trans rfl, (blk_cell BK115.out 8).trans rfl, (blk_cell BK115.out 9).trans rfl, (blk_cell BK115.out 10).trans rfl, (blk_cell BK115.out 11).trans rfl⟩ (fun hHeld => ?_); refine with_tabW board_Check.tab6 board_Check.bits6 (fun HT_ HW_ => ?_)
         generalize w25.drew = w26 at BK115 HB hHeld ⊢
         refine take_ (i := 0) (N := some 15) (v := ?_) (a' := ?_) #[true, false, false, false, false, false, false, false, false, false, false, false, false, false, false, false, false, false, false, false, false, false, false, false, false, false] rfl rfl (take_ofW HT_.out HW_.out (by kernel_rfl)) (fun _ _ _ h => h) (Or.inl ⟨by rfl, ?_⟩) hHeld ?_ ?_
         rotate_left
         ·rintro w' ⟨s0, s1, s2, s3, s4, s5, s6, s7, s8, s9, s10, s11⟩
          go_simp
          with_reducible rfl
         rotate_left
         ·simp only [Act.put, List.setIfInBounds_toArray, List.set_cons_zero, List.set_cons_succ, i64_w, i32_w]
          rfl
         refine one_ (i := 1) (N := some 16) #[true, true, false, false, false, false, false, false, false, false, false, false, false, false, false, false, false, false, false, false, false, false, false, false, false, false] rfl rfl (one_of HT_.out (by kernel_rfl)) (by decide) (fun K hK => ?_)
         refine goes_ Try.func40 (by kernel_rfl) rfl #[.agg #[.int .i64 ((rd_T38 l0 x10_1).f0), .int .i64 ((rd_T38 l0 x10_1).f1), .bool ((rd_T38 l0 x10_1).f2), .int .i64 ((rd_T38 l0 x10_1).f3), .int .i64 ((rd_T38 l0 x10_1).f4), .bool ((rd_T38 l0 x10_1).f5), .bool ((rd_T38 l0 x10_1).f6), .bool ((rd_T38 l0 x10_1).f7), .int .i64 ((rd_T38 l0 x10_1).f8), .int .i64 ((rd_T38 l0 x10_1).f9), .int .i64 ((rd_T38 l0 x10_1).f10), .bool ((rd_T38 l0 x10_1).f11)]] (by rfl) rfl rfl (by (try simp only [List.map_toArray, List.map_cons, List.map_nil]); first | done | rfl | (simp only [List.length_drop, List.length_take]; rfl)) ?_
         with_reducible refine (board_may.calls ((rd_T38 l0 x10_1).f0) ((rd_T38 l0 x10_1).f1) ((rd_T38 l0 x10_1).f2) ((rd_T38 l0 x10_1).f3) ((rd_T38 l0 x10_1).f4) ((rd_T38 l0 x10_1).f5) ((rd_T38 l0 x10_1).f6) ((rd_T38 l0 x10_1).f7) ((rd_T38 l0 x10_1).f8) ((rd_T38 l0 x10_1).f9) ((rd_T38 l0 x10_1).f10) ((rd_T38 l0 x10_1).f11) false _ A9.out).mono ?_
         rintro e w27 ⟨rfl, hb⟩
         refine ⟨_, rfl, ?_⟩
         have n0_ := Aside0.mk (blk_below (g := gb115) (o := .cells #[.int .i64 ((rd_T38 l0 x10_1).f0), .int .i64 ((rd_T38 l0 x10_1).f1), .bool ((rd_T38 l0 x10_1).f2), .int .i64 ((rd_T38 l0 x10_1).f3), .int .i64 ((rd_T38 l0 x10_1).f4), .bool ((rd_T38 l0 x10_1).f5), .bool ((rd_T38 l0 x10_1).f6), .bool ((rd_T38 l0 x10_1).f7), .int .i64 ((rd_T38 l0 x10_1).f8), .int .i64 ((rd_T38 l0 x10_1).f9), .int .i64 ((rd_T38 l0 x10_1).f10), .bool ((rd_T38 l0 x10_1).f11)] 38 (0, 0)) (by (with_reducible repeat (first | refine blk_drewN ?_ _ | refine blk_drew ?_ | refine blk_alloc ?_ _)); exact BK115.out) hb)
         have n1_ := Aside0.mk (below_step (by repeat (first | (with_reducible first | exact HB.out | apply below_alloc | apply pw_below_drewN | apply below_drew1 | refine below_set ?_ GE115.out) | exact HB.out)) hb)
         clear BK115
         clear HB
         have BK115 := n0_
         have HB := n1_
         clear n0_ n1_
         (try clear hb)
         (try clear hb2)
         (try clear hk)
         (try clear hi)
         refine hK.out _ _ ⟨(blk_cell BK115.out 0).trans rfl, (blk_cell BK115.out 1).trans rfl, (blk_cell BK115.out 2).trans rfl, (blk_cell BK115.out 3).trans rfl, (blk_cell BK115.out 4).trans rfl, (blk_cell BK115.out 5).trans rfl, (blk_cell BK115.out 6).trans rfl, (blk_cell BK115.out 7).trans rfl, (blk_cell BK115.out 8).trans rfl, (blk_cell BK115.out 9).trans rfl, (blk_cell BK115.out 10).trans rfl, (blk_cell BK115.out 11).trans rfl⟩ (fun hHeld => ?_)
         clear hK K
         refine norm_ (a' := ?_) ?_ ?_
         rotate_left
         ·show Act.put _ (some 16) _ = _
          simp only [Act.put, List.setIfInBounds_toArray, List.set_cons_zero, List.set_cons_succ, i64_w, i32_w]
          rfl
         refine pure_ (i := 2) (N := some 17) (v := ?_) (a' := ?_) #[true, true, true, false, false, false, false, false, false, false, false, false, false, false, false, false, false, false, false, false, false, false, false, false, false, false] rfl rfl (any_of HT_.out (by kernel_rfl)) (fun _ _ _ h => h) (Or.inl ⟨by rfl, ?_⟩) ?_ ?_
         rotate_left
         ·intro w'
          go_simp
          with_reducible rfl
         rotate_left
         ·simp only [Act.put, List.setIfInBounds_toArray, List.set_cons_zero, List.set_cons_succ, i64_w, i32_w]
          rfl
         refine pure_ (i := 3) (N := some 18) (v := ?_) (a' := ?_) #[true, true, true, true, false, false, false, false, false, false, false, false, false, false, false, false, false, false, false, false, false, false, false, false, false, false] rfl rfl (any_of HT_.out (by kernel_rfl)) (fun _ _ _ h => h) (Or.inl ⟨by rfl, ?_⟩) ?_ ?_
         rotate_left
         ·intro w'
          go_simp
          with_reducible rfl
         rotate_left
         ·simp only [Act.put, List.setIfInBounds_toArray, List.set_cons_zero, List.set_cons_succ, i64_w, i32_w]
          rfl
         refine pure_ (i := 4) (N := some 19) (v := undef) (a' := ?_) #[true, true, true, true, true, false, false, false, false, false, false, false, false, false, false, false, false, false, false, false, false, false, false, false, false, false] rfl rfl (any_of HT_.out (by kernel_rfl)) (fun _ _ _ h => h) (Or.inr ⟨by rfl, rfl⟩) ?_ ?_
         rotate_left
         ·simp only [Act.put, List.setIfInBounds_toArray, List.set_cons_zero, List.set_cons_succ, i64_w, i32_w]
          rfl
         refine pure_ (i := 5) (N := some 20) (v := undef) (a' := ?_) #[true, true, true, true, true, true, false, false, false, false, false, false, false, false, false, false, false, false, false, false, false, false, false, false, false, false] rfl rfl (any_of HT_.out (by kernel_rfl)) (fun _ _ _ h => h) (Or.inr ⟨by rfl, rfl⟩) ?_ ?_
         rotate_left
         ·simp only [Act.put, List.setIfInBounds_toArray, List.set_cons_zero, List.set_cons_succ, i64_w, i32_w]
          rfl
         refine pure_ (i := 6) (N := some 21) (v := undef) (a' := ?_) #[true, true, true, true, true, true, true, false, false, false, false, false, false, false, false, false, false, false, false, false, false, false, false, false, false, false] rfl rfl (any_of HT_.out (by kernel_rfl)) (fun _ _ _ h => h) (Or.inr ⟨by rfl, rfl⟩) ?_ ?_
         rotate_left
         ·simp only [Act.put, List.setIfInBounds_toArray, List.set_cons_zero, List.set_cons_succ, i64_w, i32_w]
          rfl
         refine pure_ (i := 7) (N := some 22) (v := undef) (a' := ?_) #[true, true, true, true, true, true, true, true, false, false, false, false, false, false, false, false, false, false, false, false, false, false, false, false, false, false] rfl rfl (any_of HT_.out (by kernel_rfl)) (fun _ _ _ h => h) (Or.inr ⟨by rfl, rfl⟩) ?_ ?_
         rotate_left
         ·simp only [Act.put, List.setIfInBounds_toArray, List.set_cons_zero, List.set_cons_succ, i64_w, i32_w]
          rfl
         refine pure_ (i := 8) (N := some 23) (v := undef) (a' := ?_) #[true, true, true, true, true, true, true, true, true, false, false, false, false, false, false, false, false, false, false, false, false, false, false, false, false, false] rfl rfl (any_of HT_.out (by kernel_rfl)) (fun _ _ _ h => h) (Or.inr ⟨by rfl, rfl⟩) ?_ ?_
         rotate_left
         ·simp only [Act.put, List.setIfInBounds_toArray, List.set_cons_zero, List.set_cons_succ, i64_w, i32_w]
          rfl
         refine pure_ (i := 9) (N := some 24) (v := undef) (a' := ?_) #[true, true, true, true, true, true, true, true, true, true, false, false, false, false, false, false, false, false, false, false, false, false, false, false, false, false] rfl rfl (any_of HT_.out (by kernel_rfl)) (fun _ _ _ h => h) (Or.inr ⟨by rfl, rfl⟩) ?_ ?_
         rotate_left
         ·simp only [Act.put, List.setIfInBounds_toArray, List.set_cons_zero, List.set_cons_succ, i64_w, i32_w]
          rfl
         refine pure_ (i := 10) (N := some 25) (v := undef) (a' := ?_) #[true, true, true, true, true, true, true, true, true, true, true, false, false, false, false, false, false, false, false, false, false, false, false, false, false, false] rfl rfl (any_of HT_.out (by kernel_rfl)) (fun _ _ _ h => h) (Or.inr ⟨by rfl, rfl⟩) ?_ ?_
         rotate_left
         ·simp only [Act.put, List.setIfInBounds_toArray, List.set_cons_zero, List.set_cons_succ, i64_w, i32_w]
          rfl
         refine pure_ (i := 11) (N := some 26) (v := undef) (a' := ?_) #[true, true, true, true, true, true, true, true, true, true, true, true, false, false, false, false, false, false, false, false, false, false, false, false, false, false] rfl rfl (any_of HT_.out (by kernel_rfl)) (fun _ _ _ h => h) (Or.inr ⟨by rfl, rfl⟩) ?_ ?_
         rotate_left
         ·simp only [Act.put, List.setIfInBounds_toArray, List.set_cons_zero, List.set_cons_succ, i64_w, i32_w]
          rfl
         refine pure_ (i := 12) (N := some 27) (v := undef) (a' := ?_) #[true, true, true, true, true, true, true, true, true, true, true, true, true, false, false, false, false, false, false, false, false, false, false, false, false, false] rfl rfl (any_of HT_.out (by kernel_rfl)) (fun _ _ _ h => h) (Or.inr ⟨by rfl, rfl⟩) ?_ ?_
         rotate_left
         ·simp only [Act.put, List.setIfInBounds_toArray, List.set_cons_zero, List.set_cons_succ, i64_w, i32_w]
          rfl
         refine pure_ (i := 13) (N := some 28) (v := undef) (a' := ?_) #[true, true, true, true, true, true, true, true, true, true, true, true, true, true, false, false, false, false, false, false, false, false, false, false, false, false] rfl rfl (any_of HT_.out (by kernel_rfl)) (fun _ _ _ h => h) (Or.inr ⟨by rfl, rfl⟩) ?_ ?_
         rotate_left
         ·simp only [Act.put, List.setIfInBounds_toArray, List.set_cons_zero, List.set_cons_succ, i64_w, i32_w]
          rfl
         refine pure_ (i := 14) (N := some 29) (v := undef) (a' := ?_) #[true, true, true, true, true, true, true, true, true, true, true, true, true, true, true, false, false, false, false, false, false, false, false, false, false, false] rfl rfl (any_of HT_.out (by kernel_rfl)) (fun _ _ _ h => h) (Or.inr ⟨by rfl, rfl⟩) ?_ ?_
         rotate_left
         ·simp only [Act.put, List.setIfInBounds_toArray, List.set_cons_zero, List.set_cons_succ, i64_w, i32_w]
          rfl
         refine pure_ (i := 15) (N := some 30) (v := undef) (a' := ?_) #[true, true, true, true, true, true, true, true, true, true, true, true, true, true, true, true, false, false, false, false, false, false, false, false, false, false] rfl rfl (any_of HT_.out (by kernel_rfl)) (fun _ _ _ h => h) (Or.inr ⟨by rfl, rfl⟩) ?_ ?_
         rotate_left
         ·simp only [Act.put, List.setIfInBounds_toArray, List.set_cons_zero, List.set_cons_succ, i64_w, i32_w]
          rfl
         refine pure_ (i := 16) (N := some 31) (v := undef) (a' := ?_) #[true, true, true, true, true, true, true, true, true, true, true, true, true, true, true, true, true, false, false, false, false, false, false, false, false, false] rfl rfl (any_of HT_.out (by kernel_rfl)) (fun _ _ _ h => h) (Or.inr ⟨by rfl, rfl⟩) ?_ ?_
         rotate_left
         ·simp only [Act.put, List.setIfInBounds_toArray, List.set_cons_zero, List.set_cons_succ, i64_w, i32_w]
          rfl
         refine pure_ (i := 17) (N := some 32) (v := undef) (a' := ?_) #[true, true, true, true, true, true, true, true, true, true, true, true, true, true, true, true, true, true, false, false, false, false, false, false, false, false] rfl rfl (any_of HT_.out (by kernel_rfl)) (fun _ _ _ h => h) (Or.inr ⟨by rfl, rfl⟩) ?_ ?_
         rotate_left
         ·simp only [Act.put, List.setIfInBounds_toArray, List.set_cons_zero, List.set_cons_succ, i64_w, i32_w]
          rfl
         refine pure_ (i := 18) (N := some 33) (v := undef) (a' := ?_) #[true, true, true, true, true, true, true, true, true, true, true, true, true, true, true, true, true, true, true, false, false, false, false, false, false, false] rfl rfl (any_of HT_.out (by kernel_rfl)) (fun _ _ _ h => h) (Or.inr ⟨by rfl, rfl⟩) ?_ ?_
         rotate_left
         ·simp only [Act.put, List.setIfInBounds_toArray, List.set_cons_zero, List.set_cons_succ, i64_w, i32_w]
          rfl
         refine pure_ (i := 19) (N := some 34) (v := undef) (a' := ?_) #[true, true, true, true, true, true, true, true, true, true, true, true, true, true, true, true, true, true, true, true, false, false, false, false, false, false] rfl rfl (any_of HT_.out (by kernel_rfl)) (fun _ _ _ h => h) (Or.inr ⟨by rfl, rfl⟩) ?_ ?_
         rotate_left
         ·simp only [Act.put, List.setIfInBounds_toArray, List.set_cons_zero, List.set_cons_succ, i64_w, i32_w]
          rfl
         refine pure_ (i := 20) (N := some 35) (v := undef) (a' := ?_) #[true, true, true, true, true, true, true, true, true, true, true, true, true, true, true, true, true, true, true, true, true, false, false, false, false, false] rfl rfl (any_of HT_.out (by kernel_rfl)) (fun _ _ _ h => h) (Or.inr ⟨by rfl, rfl⟩) ?_ ?_
         rotate_left
         ·simp only [Act.put, List.setIfInBounds_toArray, List.set_cons_zero, List.set_cons_succ, i64_w, i32_w]
          rfl
         refine pure_ (i := 21) (N := some 36) (v := undef) (a' := ?_) #[true, true, true, true, true, true, true, true, true, true, true, true, true, true, true, true, true, true, true, true, true, true, false, false, false, false] rfl rfl (any_of HT_.out (by kernel_rfl)) (fun _ _ _ h => h) (Or.inr ⟨by rfl, rfl⟩) ?_ ?_
         rotate_left
         ·simp only [Act.put, List.setIfInBounds_toArray, List.set_cons_zero, List.set_cons_succ, i64_w, i32_w]
          rfl
         refine pure_ (i := 22) (N := some 37) (v := undef) (a' := ?_) #[true, true, true, true, true, true, true, true, true, true, true, true, true, true, true, true, true, true, true, true, true, true, true, false, false, false] rfl rfl (any_of HT_.out (by kernel_rfl)) (fun _ _ _ h => h) (Or.inr ⟨by rfl, rfl⟩) ?_ ?_
         rotate_left
         ·simp only [Act.put, List.setIfInBounds_toArray, List.set_cons_zero, List.set_cons_succ, i64_w, i32_w]
          rfl
         refine pure_ (i := 23) (N := some 38) (v := undef) (a' := ?_) #[true, true, true, true, true, true, true, true, true, true, true, true, true, true, true, true, true, true, true, true, true, true, true, true, false, false] rfl rfl (any_of HT_.out (by kernel_rfl)) (fun _ _ _ h => h) (Or.inr ⟨by rfl, rfl⟩) ?_ ?_
         rotate_left
         ·simp only [Act.put, List.setIfInBounds_toArray, List.set_cons_zero, List.set_cons_succ, i64_w, i32_w]
          rfl
         refine pure_ (i := 24) (N := some 39) (v := undef) (a' := ?_) #[true, true, true, true, true, true, true, true, true, true, true, true, true, true, true, true, true, true, true, true, true, true, true, true, true, false] rfl rfl (any_of HT_.out (by kernel_rfl)) (fun _ _ _ h => h) (Or.inr ⟨by rfl, rfl⟩) ?_ ?_
         rotate_left
         ·simp only [Act.put, List.setIfInBounds_toArray, List.set_cons_zero, List.set_cons_succ, i64_w, i32_w]
          rfl
         refine pure_ (i := 25) (N := some 40) (v := ?_) (a' := ?_) #[true, true, true, true, true, true, true, true, true, true, true, true, true, true, true, true, true, true, true, true, true, true, true, true, true, true] rfl rfl (any_of HT_.out (by kernel_rfl)) (fun _ _ _ h => h) (Or.inl ⟨by rfl, ?_⟩) ?_ ?_
         rotate_left
         ·intro w'
          go_simp
          with_reducible rfl
         rotate_left
         ·simp only [Act.put, List.setIfInBounds_toArray, List.set_cons_zero, List.set_cons_succ, i64_w, i32_w]
          rfl
         refine done_ (done_of HT_.out (by kernel_rfl)) ?_
         try go_wp2
         go_meet
         case rel => exact ⟨_, (true), (by first | rfl | (simp; done) | (simp [*]; done)), H', ⟨by have := HK1.out; first | omega | exact Nat.le_refl _⟩, ⟨by (with_reducible repeat (first | refine blk_drewN ?_ _ | refine blk_drew ?_ | refine blk_alloc ?_ _)); exact BK115.out⟩, ⟨by repeat (first | (with_reducible first | exact HB.out | apply below_alloc | apply pw_below_drewN | apply below_drew1 | refine below_set ?_ GE115.out) | exact HB.out)⟩⟩
       case rest =>
        clear HC6
        try clear c1
        try clear p1
        try clear q1
        try clear hx1
        try clear p2
        try clear c4
        try clear c10
        try clear c11
        try clear c11b0
        try clear p11
        try clear q11
        try clear hx11
        try clear c13
        try clear c14
        try clear hx117_0
        try clear hx117_1
        try clear hx117_10
        try clear hx117_11
        try clear hx117_2
        try clear hx117_3
        try clear hx117_4
        try clear hx117_5
        try clear hx117_6
        try clear hx117_7
        try clear hx117_8
        try clear hx117_9
        try clear p117
        try clear q117
        obtain ⟨kq, x40_5, rfl, HA, HJ5, BK115, HB⟩ := hcut
        cases kq with
        | zero => exact absurd HA.out (by simp [board_Check.j1])
        | succ kj5 =>
         have H := HA.out
         clear HA
         simp only [board_Check.j1] at H
         by_cases c28 : x40_5 = true
         ·subst c28
          have H1 : (some 100) = some r := by rw [if_pos rfl] at H; exact H
          clear H
          have H := H1
          clear H1
          obtain rfl := Option.some.inj H
          go_wp2
          go_ret
          exact ⟨by first | rfl | (simp [errW_none, errW_some] <;> rfl) | (simp [*, errW_none, errW_some] <;> rfl), by repeat (first | (with_reducible first | exact HB.out | apply below_alloc | apply pw_below_drewN | apply below_drew1 | refine below_set ?_ GE115.out) | exact HB.out)⟩
         ·replace c28 := Bool.eq_false_iff.mpr c28
          subst c28
          have H1 : (board_Check.l0 kj5 l0 l0 (l0.length : Int) (wrap64 (x10_1 + 1))) = some r := by rw [if_neg (show ¬ (false = true) by decide)] at H; exact H
          clear H
          have H := H1
          clear H1
          have H' := Aside0.mk H
          clear H
          go_wp2
          go_roundg kj5
          case measure => have := HK1.out; have := HJ5.out; omega
          case rel => exact ⟨(wrap64 (x10_1 + 1)), (by first | rfl | (simp; done) | (simp [*]; done)), H', ⟨by have := HK1.out; have := HJ5.out; omega⟩, ⟨by repeat (first | (with_reducible first | exact HB.out | apply below_alloc | apply pw_below_drewN | apply below_drew1 | refine below_set ?_ GE115.out) | exact HB.out)⟩⟩
      ·rw [if_neg c5] at H
       exact absurd H (by simp)
     ·rw [if_neg c4] at H
      exact absurd H (by simp)
    ·rw [if_neg c3] at H
     have c3b0 : decide (x10_1 < (l0.length : Int)) = false := decide_eq_false c3
     clear c3
     obtain rfl := Option.some.inj H
     go_wp2
     go_ret
     exact ⟨by first | rfl | (simp [errW_none, errW_some] <;> rfl) | (simp [*, errW_none, errW_some] <;> rfl), by repeat (first | (with_reducible first | exact HB.out | apply below_alloc | apply pw_below_drewN | apply below_drew1) | exact HB.out | exact Below.refl _ _)⟩

end Go.Proofs.Ytgpbighdegdlfaa.PA

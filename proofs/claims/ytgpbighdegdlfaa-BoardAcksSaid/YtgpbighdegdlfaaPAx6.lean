-- Written for the seat Ytgpbighdegdlfaa by this session's program hyb.py (the print's functions, with externals typed by hand).
import Derived.Test.YtgpbighdegdlfaaPAx0
import Derived.Test.YtgpbighdegdlfaaPAx4
import Derived.Test.YtgpbighdegdlfaaPAx5
namespace Go.Proofs.Ytgpbighdegdlfaa.PA
open Go.RowKit Go.Proofs.YtgpbighdegdlfaaW.PrintWords Go.Proofs.YtgpbighdegdlfaaW.PrintLast Go.Proofs.YtgpbighdegdlfaaW.PrintMore
attribute [local go_sem] max2_int min2_int max_two min_two max_three min_three max_four min_four   -- for this text's walks alone
set_option linter.unusedVariables false
set_option linter.unusedSimpArgs false

/-! ### api_Rec_31: function 31 -/
def api_Rec_31.l0 : Nat → Int → List (S38) → List (S38) → List (S38) → Int → Int → Option ((List (S38)) × (List (S38)))
 | 0, _, _, _, _, _, _ => none
 | k + 1, x1, x4, x5, x8, x9, x10 => if x10 < x9 then (if 0 ≤ x10 then (if x10 < (x8.length : Int) then ((board_Ack_1.f ((rd_T38 x8 x10).f0) ((rd_T38 x8 x10).f1) ((rd_T38 x8 x10).f2) ((rd_T38 x8 x10).f3) ((rd_T38 x8 x10).f4) ((rd_T38 x8 x10).f5) ((rd_T38 x8 x10).f6) ((rd_T38 x8 x10).f7) ((rd_T38 x8 x10).f8) ((rd_T38 x8 x10).f9) ((rd_T38 x8 x10).f10) ((rd_T38 x8 x10).f11) x1).bind fun t121 => (if t121 = true then (if x4.length < 1759218604441 then (api_Rec_31.l0 k x1 (x4 ++ [(⟨(rd_T38 x8 x10).f0, (rd_T38 x8 x10).f1, (rd_T38 x8 x10).f2, (rd_T38 x8 x10).f3, (rd_T38 x8 x10).f4, (rd_T38 x8 x10).f5, (rd_T38 x8 x10).f6, (rd_T38 x8 x10).f7, (rd_T38 x8 x10).f8, (rd_T38 x8 x10).f9, (rd_T38 x8 x10).f10, (rd_T38 x8 x10).f11⟩ : S38)]) x5 x8 x9 (wrap64 (x10 + 1))) else (none)) else (if x5.length < 1759218604441 then (api_Rec_31.l0 k x1 x4 (x5 ++ [(⟨(rd_T38 x8 x10).f0, (rd_T38 x8 x10).f1, (rd_T38 x8 x10).f2, (rd_T38 x8 x10).f3, (rd_T38 x8 x10).f4, (rd_T38 x8 x10).f5, (rd_T38 x8 x10).f6, (rd_T38 x8 x10).f7, (rd_T38 x8 x10).f8, (rd_T38 x8 x10).f9, (rd_T38 x8 x10).f10, (rd_T38 x8 x10).f11⟩ : S38)]) x8 x9 (wrap64 (x10 + 1))) else (none)))) else (none)) else (none)) else (some (x4, x5))
def api_Rec_31.f (k : Nat) (l0 : List (S38)) (a1 : Int) : Option ((List (S38)) × (List (S38))) := api_Rec_31.l0 k a1 ([] : List (S38)) ([] : List (S38)) l0 (l0.length : Int) 0
theorem api_Rec_31.mono_l : ∀ k, (∀ y0 y1 y2 y3 y4 y5, LeO (api_Rec_31.l0 k y0 y1 y2 y3 y4 y5) (api_Rec_31.l0 (k + 1) y0 y1 y2 y3 y4 y5))
 | 0 => fun _ _ _ _ _ _ r h => by simp [api_Rec_31.l0] at h
 | k + 1 => by
  have ih0 := api_Rec_31.mono_l k
  ·intro y0 y1 y2 y3 y4 y5
   unfold api_Rec_31.l0
   repeat' first
   | (with_reducible exact ih0 _ _ _ _ _ _)
   | (with_reducible exact LeO.refl _)
   | (with_reducible exact LeO.none _)
   | (with_reducible refine LeO.ite ?_ ?_)
   | (with_reducible refine LeO.bind ?_ (fun _ => ?_))
   | exact ih0 _ _ _ _ _ _
   | exact LeO.none _
   | refine LeO.ite ?_ ?_
   | refine LeO.bind ?_ (fun _ => ?_)
theorem api_Rec_31.mono : ∀ a0 a1 k, LeO (api_Rec_31.f k a0 a1) (api_Rec_31.f (k + 1) a0 a1) := by
 intro a0 a1 k
 have ih0 := api_Rec_31.mono_l k
 unfold api_Rec_31.f
 repeat' first
   | (with_reducible exact ih0 _ _ _ _ _ _)
   | (with_reducible exact LeO.refl _)
   | (with_reducible exact LeO.none _)
   | (with_reducible refine LeO.ite ?_ ?_)
   | (with_reducible refine LeO.bind ?_ (fun _ => ?_))
   | exact ih0 _ _ _ _ _ _
   | exact LeO.none _
   | refine LeO.ite ?_ ?_
   | refine LeO.bind ?_ (fun _ => ?_)
set_option maxHeartbeats 8000000 in
set_option maxRecDepth 100000 in
theorem api_Rec_31.calls (k : Nat) (A0 : Option Addr) (c0 : Nat) (l0 : List (S38)) (a1 : Int) (r1 : List (S38)) (r2 : List (S38)) (w : World) (ub : Nat) (hub : w.cell? ⟨ub, 0, none⟩ = some (.int .i64 a1)) (hr0 : Kd.C k38 w A0 l0.length l0) (hc0 : l0.length ≤ c0) (h : api_Rec_31.f k l0 a1 = some (r1, r2)) :
  Calls Try.prog 31 #[.slice A0 l0.length c0, .func (.func 32) #[] #[.pointer (some ⟨ub, 0, none⟩)]] w fun e w' => ∃ v0_ v1_ : Value, e = .returned (.tuple #[v0_, v1_]) ∧ Kd.R k38 38 w' w.heap.size (fun k_ => some k_ ≠ (v1_ : Value).ownBlock) v0_ r1 ∧ Kd.R k38 38 w' w.heap.size (fun k_ => some k_ ≠ (v0_ : Value).ownBlock) v1_ r2 ∧ Below w.heap.size w w' := by
 have hu38 := Try.underlying38
 have eg32 : ∀ args w, (callFunc 32 args).run Try.prog w = .ok (.enter 32 args) w := fun args w => enters_ Try.func32 (by kernel_rfl) rfl args w
 have HUBL := Aside0.mk (World.block_lt_of_cell? w _ hub)
 have HUB := Aside0.mk hub
 clear hub
 have HR0 := Aside0.mk hr0
 have HC0 := Aside0.mk hc0
 clear hr0 hc0
 have HB := Aside0.mk (Below.refl w.heap.size w)
 have H : (api_Rec_31.l0 k a1 ([] : List (S38)) ([] : List (S38)) l0 (l0.length : Int) 0) = some (r1, r2) := h
 clear h
 have H' := Aside0.mk H
 clear H
 go_enter Try.func31, Try.ntmps31
 go_wp2
 go_loopg [4, 5, 10] k (fun kq v4 v5 v10 w' => ∃ (x4_1 : List (S38)) (x5_1 : List (S38)) (x10_1 : Int), v10 = .int .i64 x10_1 ∧ Aside0 (api_Rec_31.l0 kq a1 x4_1 x5_1 l0 (l0.length : Int) x10_1 = some (r1, r2)) ∧ Aside0 (kq ≤ k) ∧ Aside0 (Kd.R k38 38 w' w.heap.size (fun k_ => some k_ ≠ (v5 : Value).ownBlock) v4 x4_1) ∧ Aside0 (Kd.R k38 38 w' w.heap.size (fun k_ => some k_ ≠ (v4 : Value).ownBlock) v5 x5_1) ∧ Aside0 (Below w.heap.size w w'))
 case atStart => exact ⟨(([] : List (S38))), (([] : List (S38))), (0), (by first | rfl | (simp; done) | (simp [*]; done)), H', ⟨Nat.le_refl _⟩, ⟨by first | exact Kd.R_nil _ _ _ _ _ | exact Kd.N_nil _ _ _ _ _ | exact Kd.V_nil _ _ _ _ _ | exact Kd.Q_nil _ _ _ _ _ | exact Kd.S_nil _ _ _ _ _⟩, ⟨by first | exact Kd.R_nil _ _ _ _ _ | exact Kd.N_nil _ _ _ _ _ | exact Kd.V_nil _ _ _ _ _ | exact Kd.Q_nil _ _ _ _ _ | exact Kd.S_nil _ _ _ _ _⟩, ⟨by repeat (first | (with_reducible first | exact HB.out | apply below_alloc | apply pw_below_drewN | apply below_drew1) | exact HB.out | exact Below.refl _ _)⟩⟩
 case round =>
  clear H'
  try clear p2
  obtain ⟨x4_1, x5_1, x10_1, rfl, HA, HK1, HO_4, HO_5, HB⟩ := hrel
  cases gk with
  | zero => exact absurd HA.out (by simp [api_Rec_31.l0])
  | succ k1 =>
   have H := HA.out
   clear HA
   simp only [api_Rec_31.l0] at H
   by_cases c3 : x10_1 < (l0.length : Int)
   ·rw [if_pos c3] at H
    have c3b0 : decide (x10_1 < (l0.length : Int)) = true := decide_eq_true c3
    clear c3
    by_cases c4 : 0 ≤ x10_1
    ·rw [if_pos c4] at H
     have c4b0 : decide (0 ≤ x10_1) = true := decide_eq_true c4
     clear c4
     by_cases c5 : x10_1 < (l0.length : Int)
     ·rw [if_pos c5] at H
      have c5b0 : decide (x10_1 < (l0.length : Int)) = true := decide_eq_true c5
      clear c5
      replace H := Option.bind_eq_some_iff.mp H
      obtain ⟨t121, A60, H⟩ := H
      replace H : (if t121 = true then (if x4_1.length < 1759218604441 then (api_Rec_31.l0 k1 a1 (x4_1 ++ [(⟨(rd_T38 l0 x10_1).f0, (rd_T38 l0 x10_1).f1, (rd_T38 l0 x10_1).f2, (rd_T38 l0 x10_1).f3, (rd_T38 l0 x10_1).f4, (rd_T38 l0 x10_1).f5, (rd_T38 l0 x10_1).f6, (rd_T38 l0 x10_1).f7, (rd_T38 l0 x10_1).f8, (rd_T38 l0 x10_1).f9, (rd_T38 l0 x10_1).f10, (rd_T38 l0 x10_1).f11⟩ : S38)]) x5_1 l0 (l0.length : Int) (wrap64 (x10_1 + 1))) else (none)) else (if x5_1.length < 1759218604441 then (api_Rec_31.l0 k1 a1 x4_1 (x5_1 ++ [(⟨(rd_T38 l0 x10_1).f0, (rd_T38 l0 x10_1).f1, (rd_T38 l0 x10_1).f2, (rd_T38 l0 x10_1).f3, (rd_T38 l0 x10_1).f4, (rd_T38 l0 x10_1).f5, (rd_T38 l0 x10_1).f6, (rd_T38 l0 x10_1).f7, (rd_T38 l0 x10_1).f8, (rd_T38 l0 x10_1).f9, (rd_T38 l0 x10_1).f10, (rd_T38 l0 x10_1).f11⟩ : S38)]) l0 (l0.length : Int) (wrap64 (x10_1 + 1))) else (none))) = some (r1, r2) := H
      have A6 := Aside0.mk A60
      clear A60
      by_cases c7 : t121 = true
      ·subst c7
       have H1 : (if x4_1.length < 1759218604441 then (api_Rec_31.l0 k1 a1 (x4_1 ++ [(⟨(rd_T38 l0 x10_1).f0, (rd_T38 l0 x10_1).f1, (rd_T38 l0 x10_1).f2, (rd_T38 l0 x10_1).f3, (rd_T38 l0 x10_1).f4, (rd_T38 l0 x10_1).f5, (rd_T38 l0 x10_1).f6, (rd_T38 l0 x10_1).f7, (rd_T38 l0 x10_1).f8, (rd_T38 l0 x10_1).f9, (rd_T38 l0 x10_1).f10, (rd_T38 l0 x10_1).f11⟩ : S38)]) x5_1 l0 (l0.length : Int) (wrap64 (x10_1 + 1))) else (none)) = some (r1, r2) := by rw [if_pos rfl] at H; exact H
       clear H
       have H := H1
       clear H1
       by_cases c8 : x4_1.length < 1759218604441
       ·rw [if_pos c8] at H
        have LMc8 := Aside0.mk c8
        clear c8
        obtain ⟨y122, hy122⟩ : ∃ y_ : List (S38), y_ = (x4_1 ++ [(⟨(rd_T38 l0 x10_1).f0, (rd_T38 l0 x10_1).f1, (rd_T38 l0 x10_1).f2, (rd_T38 l0 x10_1).f3, (rd_T38 l0 x10_1).f4, (rd_T38 l0 x10_1).f5, (rd_T38 l0 x10_1).f6, (rd_T38 l0 x10_1).f7, (rd_T38 l0 x10_1).f8, (rd_T38 l0 x10_1).f9, (rd_T38 l0 x10_1).f10, (rd_T38 l0 x10_1).f11⟩ : S38)]) := ⟨_, rfl⟩
        replace H : (api_Rec_31.l0 k1 a1 y122 x5_1 l0 (l0.length : Int) (wrap64 (x10_1 + 1))) = some (r1, r2) := by first | (rw [hy122]; with_reducible exact H) | (have H2_ := (Option.bind_some _ _).symm.trans H; rw [hy122]; with_reducible exact H2_) | (have H2_ := (Option.bind_some _ _).symm.trans H; with_reducible exact H2_) | with_reducible exact H | (rw [hy122]; exact H) | exact H
        have Ny122 := Aside0.mk hy122
        clear hy122
        have H' := Aside0.mk H
        clear H
        have p119 : 0 ≤ (x10_1 : Int) := of_decide_eq_true (by first | (with_reducible assumption) | assumption)
        have q119 : x10_1 < (l0.length : Int) := of_decide_eq_true (by first | (with_reducible assumption) | assumption)
        obtain ⟨ad119, e119, hx119_0, hx119_1, hx119_2, hx119_3, hx119_4, hx119_5, hx119_6, hx119_7, hx119_8, hx119_9, hx119_10, hx119_11⟩ := at_T38 HR0.out x10_1 p119 q119
        cases e119
        replace hx119_0 := (HB.out.cell (World.block_lt_of_cell? w _ hx119_0)).trans hx119_0
        replace hx119_1 := (HB.out.cell (World.block_lt_of_cell? w _ hx119_1)).trans hx119_1
        replace hx119_2 := (HB.out.cell (World.block_lt_of_cell? w _ hx119_2)).trans hx119_2
        replace hx119_3 := (HB.out.cell (World.block_lt_of_cell? w _ hx119_3)).trans hx119_3
        replace hx119_4 := (HB.out.cell (World.block_lt_of_cell? w _ hx119_4)).trans hx119_4
        replace hx119_5 := (HB.out.cell (World.block_lt_of_cell? w _ hx119_5)).trans hx119_5
        replace hx119_6 := (HB.out.cell (World.block_lt_of_cell? w _ hx119_6)).trans hx119_6
        replace hx119_7 := (HB.out.cell (World.block_lt_of_cell? w _ hx119_7)).trans hx119_7
        replace hx119_8 := (HB.out.cell (World.block_lt_of_cell? w _ hx119_8)).trans hx119_8
        replace hx119_9 := (HB.out.cell (World.block_lt_of_cell? w _ hx119_9)).trans hx119_9
        replace hx119_10 := (HB.out.cell (World.block_lt_of_cell? w _ hx119_10)).trans hx119_10
        replace hx119_11 := (HB.out.cell (World.block_lt_of_cell? w _ hx119_11)).trans hx119_11
        replace p119 := eq_true p119
        replace q119 := eq_true q119
        go_wp2_with (first | ((with_reducible refine gate_dst (N := 7) rfl ?_); refine box_event ?hg (N := 7) ?hd (cs := #[.int .i64 0, .int .i64 0, .bool false, .int .i64 0, .int .i64 0, .bool false, .bool false, .bool false, .int .i64 0, .int .i64 0, .int .i64 0, .bool false]) (t := 38) ?hr ?_; (case hd => rfl); (case hg => rfl); (case hr => first | (go_simp; done) | (go_simp; rfl)); intro gb120 hg w9 hbox hb; have n0_ := Aside0.mk (Kd.R_below (Kd.R_elderB (by (with_reducible repeat (first | apply Kd.R_alloc | apply Kd.R_drewN | apply Kd.R_drew)); exact HO_4.out) gb120 (Nat.le_of_eq hg.symm)) hb); have n1_ := Aside0.mk (Kd.R_below (Kd.R_elderB (by (with_reducible repeat (first | apply Kd.R_alloc | apply Kd.R_drewN | apply Kd.R_drew)); exact HO_5.out) gb120 (Nat.le_of_eq hg.symm)) hb); have n2_ := Aside0.mk (below_step (by repeat (first | (with_reducible first | exact HB.out | apply below_alloc | apply pw_below_drewN | apply below_drew1) | exact HB.out | exact Below.refl _ _)) hb); have n3_ := Aside0.mk (hbox); have n4_ := Aside0.mk ((by rw [hg]; exact (below_size (by repeat (first | (with_reducible first | exact HB.out | apply below_alloc | apply pw_below_drewN | apply below_drew1) | exact HB.out | exact Below.refl _ _))) : w.heap.size ≤ gb120)); have n5_ := Aside0.mk ((by rw [hg]; exact (below_size (by repeat (first | (with_reducible first | exact HB.out | apply below_alloc | apply pw_below_drewN | apply below_drew1) | exact HB.out | exact Below.refl _ _))) : w.heap.size ≤ gb120)); clear HO_4; clear HO_5; clear HB; have HO_4 := n0_; have HO_5 := n1_; have HB := n2_; have BK120 := n3_; have GW120 := n4_; have GE120 := n5_; clear n0_ n1_ n2_ n3_ n4_ n5_; clear hb hbox hg; have hcz10_0 : w9.cell? ⟨gb120, 0, none⟩ = some (.int .i64 0) := (blk_cell BK120.out 0).trans rfl; have hcz10_1 : w9.cell? ⟨gb120, 1, none⟩ = some (.int .i64 0) := (blk_cell BK120.out 1).trans rfl; have hcz10_2 : w9.cell? ⟨gb120, 2, none⟩ = some (.bool false) := (blk_cell BK120.out 2).trans rfl; have hcz10_3 : w9.cell? ⟨gb120, 3, none⟩ = some (.int .i64 0) := (blk_cell BK120.out 3).trans rfl; have hcz10_4 : w9.cell? ⟨gb120, 4, none⟩ = some (.int .i64 0) := (blk_cell BK120.out 4).trans rfl; have hcz10_5 : w9.cell? ⟨gb120, 5, none⟩ = some (.bool false) := (blk_cell BK120.out 5).trans rfl; have hcz10_6 : w9.cell? ⟨gb120, 6, none⟩ = some (.bool false) := (blk_cell BK120.out 6).trans rfl; have hcz10_7 : w9.cell? ⟨gb120, 7, none⟩ = some (.bool false) := (blk_cell BK120.out 7).trans rfl; have hcz10_8 : w9.cell? ⟨gb120, 8, none⟩ = some (.int .i64 0) := (blk_cell BK120.out 8).trans rfl; have hcz10_9 : w9.cell? ⟨gb120, 9, none⟩ = some (.int .i64 0) := (blk_cell BK120.out 9).trans rfl; have hcz10_10 : w9.cell? ⟨gb120, 10, none⟩ = some (.int .i64 0) := (blk_cell BK120.out 10).trans rfl; have hcz10_11 : w9.cell? ⟨gb120, 11, none⟩ = some (.bool false) := (blk_cell BK120.out 11).trans rfl; have hfz10_0 := blk_frozen BK120.out 0; have hfz10_1 := blk_frozen BK120.out 1; have hfz10_2 := blk_frozen BK120.out 2; have hfz10_3 := blk_frozen BK120.out 3; have hfz10_4 := blk_frozen BK120.out 4; have hfz10_5 := blk_frozen BK120.out 5; have hfz10_6 := blk_frozen BK120.out 6; have hfz10_7 := blk_frozen BK120.out 7; have hfz10_8 := blk_frozen BK120.out 8; have hfz10_9 := blk_frozen BK120.out 9; have hfz10_10 := blk_frozen BK120.out 10; have hfz10_11 := blk_frozen BK120.out 11) | (go_at_call 32; (with_reducible refine (board_Ack_1.calls ((rd_T38 l0 x10_1).f0) ((rd_T38 l0 x10_1).f1) ((rd_T38 l0 x10_1).f2) ((rd_T38 l0 x10_1).f3) ((rd_T38 l0 x10_1).f4) ((rd_T38 l0 x10_1).f5) ((rd_T38 l0 x10_1).f6) ((rd_T38 l0 x10_1).f7) ((rd_T38 l0 x10_1).f8) ((rd_T38 l0 x10_1).f9) ((rd_T38 l0 x10_1).f10) ((rd_T38 l0 x10_1).f11) a1 true _ ub ?hubx A6.out).mono ?_); (case hubx => exact ((show Below w.heap.size w _ from (by repeat (first | (with_reducible first | exact HB.out | apply below_alloc | apply pw_below_drewN | apply below_drew1 | refine below_set ?_ GE120.out) | exact HB.out))).cell (p := ⟨ub, 0, none⟩) HUBL.out).trans HUB.out); rintro e w11 ⟨rfl, hb⟩; have n0_ := Aside0.mk (Kd.R_below (by (with_reducible repeat (first | apply Kd.R_alloc | apply Kd.R_drewN | apply Kd.R_drew)); exact (Kd.R_mono (Kd.R_far (p := ⟨gb120, 11, none⟩) (Kd.R_far (p := ⟨gb120, 10, none⟩) (Kd.R_far (p := ⟨gb120, 9, none⟩) (Kd.R_far (p := ⟨gb120, 8, none⟩) (Kd.R_far (p := ⟨gb120, 7, none⟩) (Kd.R_far (p := ⟨gb120, 6, none⟩) (Kd.R_far (p := ⟨gb120, 5, none⟩) (Kd.R_far (p := ⟨gb120, 4, none⟩) (Kd.R_far (p := ⟨gb120, 3, none⟩) (Kd.R_far (p := ⟨gb120, 2, none⟩) (Kd.R_far (p := ⟨gb120, 1, none⟩) (Kd.R_far (p := ⟨gb120, 0, none⟩) (Kd.R_mono HO_4.out (fun k_ hk => (⟨hk, hk.2⟩ : _ ∧ k_ ≠ gb120))) (fun _ hk => hk.2) (.int .i64 ((rd_T38 l0 x10_1).f0))) (fun _ hk => hk.2) (.int .i64 ((rd_T38 l0 x10_1).f1))) (fun _ hk => hk.2) (.bool ((rd_T38 l0 x10_1).f2))) (fun _ hk => hk.2) (.int .i64 ((rd_T38 l0 x10_1).f3))) (fun _ hk => hk.2) (.int .i64 ((rd_T38 l0 x10_1).f4))) (fun _ hk => hk.2) (.bool ((rd_T38 l0 x10_1).f5))) (fun _ hk => hk.2) (.bool ((rd_T38 l0 x10_1).f6))) (fun _ hk => hk.2) (.bool ((rd_T38 l0 x10_1).f7))) (fun _ hk => hk.2) (.int .i64 ((rd_T38 l0 x10_1).f8))) (fun _ hk => hk.2) (.int .i64 ((rd_T38 l0 x10_1).f9))) (fun _ hk => hk.2) (.int .i64 ((rd_T38 l0 x10_1).f10))) (fun _ hk => hk.2) (.bool ((rd_T38 l0 x10_1).f11))) (fun _ h_ => h_.1))) hb); have n1_ := Aside0.mk (Kd.R_below (by (with_reducible repeat (first | apply Kd.R_alloc | apply Kd.R_drewN | apply Kd.R_drew)); exact (Kd.R_mono (Kd.R_far (p := ⟨gb120, 11, none⟩) (Kd.R_far (p := ⟨gb120, 10, none⟩) (Kd.R_far (p := ⟨gb120, 9, none⟩) (Kd.R_far (p := ⟨gb120, 8, none⟩) (Kd.R_far (p := ⟨gb120, 7, none⟩) (Kd.R_far (p := ⟨gb120, 6, none⟩) (Kd.R_far (p := ⟨gb120, 5, none⟩) (Kd.R_far (p := ⟨gb120, 4, none⟩) (Kd.R_far (p := ⟨gb120, 3, none⟩) (Kd.R_far (p := ⟨gb120, 2, none⟩) (Kd.R_far (p := ⟨gb120, 1, none⟩) (Kd.R_far (p := ⟨gb120, 0, none⟩) (Kd.R_mono HO_5.out (fun k_ hk => (⟨hk, hk.2⟩ : _ ∧ k_ ≠ gb120))) (fun _ hk => hk.2) (.int .i64 ((rd_T38 l0 x10_1).f0))) (fun _ hk => hk.2) (.int .i64 ((rd_T38 l0 x10_1).f1))) (fun _ hk => hk.2) (.bool ((rd_T38 l0 x10_1).f2))) (fun _ hk => hk.2) (.int .i64 ((rd_T38 l0 x10_1).f3))) (fun _ hk => hk.2) (.int .i64 ((rd_T38 l0 x10_1).f4))) (fun _ hk => hk.2) (.bool ((rd_T38 l0 x10_1).f5))) (fun _ hk => hk.2) (.bool ((rd_T38 l0 x10_1).f6))) (fun _ hk => hk.2) (.bool ((rd_T38 l0 x10_1).f7))) (fun _ hk => hk.2) (.int .i64 ((rd_T38 l0 x10_1).f8))) (fun _ hk => hk.2) (.int .i64 ((rd_T38 l0 x10_1).f9))) (fun _ hk => hk.2) (.int .i64 ((rd_T38 l0 x10_1).f10))) (fun _ hk => hk.2) (.bool ((rd_T38 l0 x10_1).f11))) (fun _ h_ => h_.1))) hb); have n2_ := Aside0.mk (blk_below (g := gb120) (o := .cells #[.int .i64 ((rd_T38 l0 x10_1).f0), .int .i64 ((rd_T38 l0 x10_1).f1), .bool ((rd_T38 l0 x10_1).f2), .int .i64 ((rd_T38 l0 x10_1).f3), .int .i64 ((rd_T38 l0 x10_1).f4), .bool ((rd_T38 l0 x10_1).f5), .bool ((rd_T38 l0 x10_1).f6), .bool ((rd_T38 l0 x10_1).f7), .int .i64 ((rd_T38 l0 x10_1).f8), .int .i64 ((rd_T38 l0 x10_1).f9), .int .i64 ((rd_T38 l0 x10_1).f10), .bool ((rd_T38 l0 x10_1).f11)] 38 (0, 0)) (by (with_reducible repeat (first | refine blk_drewN ?_ _ | refine blk_drew ?_ | refine blk_alloc ?_ _)); refine blk_put (cs := #[.int .i64 ((rd_T38 l0 x10_1).f0), .int .i64 ((rd_T38 l0 x10_1).f1), .bool ((rd_T38 l0 x10_1).f2), .int .i64 ((rd_T38 l0 x10_1).f3), .int .i64 ((rd_T38 l0 x10_1).f4), .bool ((rd_T38 l0 x10_1).f5), .bool ((rd_T38 l0 x10_1).f6), .bool ((rd_T38 l0 x10_1).f7), .int .i64 ((rd_T38 l0 x10_1).f8), .int .i64 ((rd_T38 l0 x10_1).f9), .int .i64 ((rd_T38 l0 x10_1).f10), .bool false]) ?_ 11 _ rfl; (with_reducible repeat (first | refine blk_drewN ?_ _ | refine blk_drew ?_ | refine blk_alloc ?_ _)); refine blk_put (cs := #[.int .i64 ((rd_T38 l0 x10_1).f0), .int .i64 ((rd_T38 l0 x10_1).f1), .bool ((rd_T38 l0 x10_1).f2), .int .i64 ((rd_T38 l0 x10_1).f3), .int .i64 ((rd_T38 l0 x10_1).f4), .bool ((rd_T38 l0 x10_1).f5), .bool ((rd_T38 l0 x10_1).f6), .bool ((rd_T38 l0 x10_1).f7), .int .i64 ((rd_T38 l0 x10_1).f8), .int .i64 ((rd_T38 l0 x10_1).f9), .int .i64 0, .bool false]) ?_ 10 _ rfl; (with_reducible repeat (first | refine blk_drewN ?_ _ | refine blk_drew ?_ | refine blk_alloc ?_ _)); refine blk_put (cs := #[.int .i64 ((rd_T38 l0 x10_1).f0), .int .i64 ((rd_T38 l0 x10_1).f1), .bool ((rd_T38 l0 x10_1).f2), .int .i64 ((rd_T38 l0 x10_1).f3), .int .i64 ((rd_T38 l0 x10_1).f4), .bool ((rd_T38 l0 x10_1).f5), .bool ((rd_T38 l0 x10_1).f6), .bool ((rd_T38 l0 x10_1).f7), .int .i64 ((rd_T38 l0 x10_1).f8), .int .i64 0, .int .i64 0, .bool false]) ?_ 9 _ rfl; (with_reducible repeat (first | refine blk_drewN ?_ _ | refine blk_drew ?_ | refine blk_alloc ?_ _)); refine blk_put (cs := #[.int .i64 ((rd_T38 l0 x10_1).f0), .int .i64 ((rd_T38 l0 x10_1).f1), .bool ((rd_T38 l0 x10_1).f2), .int .i64 ((rd_T38 l0 x10_1).f3), .int .i64 ((rd_T38 l0 x10_1).f4), .bool ((rd_T38 l0 x10_1).f5), .bool ((rd_T38 l0 x10_1).f6), .bool ((rd_T38 l0 x10_1).f7), .int .i64 0, .int .i64 0, .int .i64 0, .bool false]) ?_ 8 _ rfl; (with_reducible repeat (first | refine blk_drewN ?_ _ | refine blk_drew ?_ | refine blk_alloc ?_ _)); refine blk_put (cs := #[.int .i64 ((rd_T38 l0 x10_1).f0), .int .i64 ((rd_T38 l0 x10_1).f1), .bool ((rd_T38 l0 x10_1).f2), .int .i64 ((rd_T38 l0 x10_1).f3), .int .i64 ((rd_T38 l0 x10_1).f4), .bool ((rd_T38 l0 x10_1).f5), .bool ((rd_T38 l0 x10_1).f6), .bool false, .int .i64 0, .int .i64 0, .int .i64 0, .bool false]) ?_ 7 _ rfl; (with_reducible repeat (first | refine blk_drewN ?_ _ | refine blk_drew ?_ | refine blk_alloc ?_ _)); refine blk_put (cs := #[.int .i64 ((rd_T38 l0 x10_1).f0), .int .i64 ((rd_T38 l0 x10_1).f1), .bool ((rd_T38 l0 x10_1).f2), .int .i64 ((rd_T38 l0 x10_1).f3), .int .i64 ((rd_T38 l0 x10_1).f4), .bool ((rd_T38 l0 x10_1).f5), .bool false, .bool false, .int .i64 0, .int .i64 0, .int .i64 0, .bool false]) ?_ 6 _ rfl; (with_reducible repeat (first | refine blk_drewN ?_ _ | refine blk_drew ?_ | refine blk_alloc ?_ _)); refine blk_put (cs := #[.int .i64 ((rd_T38 l0 x10_1).f0), .int .i64 ((rd_T38 l0 x10_1).f1), .bool ((rd_T38 l0 x10_1).f2), .int .i64 ((rd_T38 l0 x10_1).f3), .int .i64 ((rd_T38 l0 x10_1).f4), .bool false, .bool false, .bool false, .int .i64 0, .int .i64 0, .int .i64 0, .bool false]) ?_ 5 _ rfl; (with_reducible repeat (first | refine blk_drewN ?_ _ | refine blk_drew ?_ | refine blk_alloc ?_ _)); refine blk_put (cs := #[.int .i64 ((rd_T38 l0 x10_1).f0), .int .i64 ((rd_T38 l0 x10_1).f1), .bool ((rd_T38 l0 x10_1).f2), .int .i64 ((rd_T38 l0 x10_1).f3), .int .i64 0, .bool false, .bool false, .bool false, .int .i64 0, .int .i64 0, .int .i64 0, .bool false]) ?_ 4 _ rfl; (with_reducible repeat (first | refine blk_drewN ?_ _ | refine blk_drew ?_ | refine blk_alloc ?_ _)); refine blk_put (cs := #[.int .i64 ((rd_T38 l0 x10_1).f0), .int .i64 ((rd_T38 l0 x10_1).f1), .bool ((rd_T38 l0 x10_1).f2), .int .i64 0, .int .i64 0, .bool false, .bool false, .bool false, .int .i64 0, .int .i64 0, .int .i64 0, .bool false]) ?_ 3 _ rfl; (with_reducible repeat (first | refine blk_drewN ?_ _ | refine blk_drew ?_ | refine blk_alloc ?_ _)); refine blk_put (cs := #[.int .i64 ((rd_T38 l0 x10_1).f0), .int .i64 ((rd_T38 l0 x10_1).f1), .bool false, .int .i64 0, .int .i64 0, .bool false, .bool false, .bool false, .int .i64 0, .int .i64 0, .int .i64 0, .bool false]) ?_ 2 _ rfl; (with_reducible repeat (first | refine blk_drewN ?_ _ | refine blk_drew ?_ | refine blk_alloc ?_ _)); refine blk_put (cs := #[.int .i64 ((rd_T38 l0 x10_1).f0), .int .i64 0, .bool false, .int .i64 0, .int .i64 0, .bool false, .bool false, .bool false, .int .i64 0, .int .i64 0, .int .i64 0, .bool false]) ?_ 1 _ rfl; (with_reducible repeat (first | refine blk_drewN ?_ _ | refine blk_drew ?_ | refine blk_alloc ?_ _)); refine blk_put (cs := #[.int .i64 0, .int .i64 0, .bool false, .int .i64 0, .int .i64 0, .bool false, .bool false, .bool false, .int .i64 0, .int .i64 0, .int .i64 0, .bool false]) ?_ 0 _ rfl; (with_reducible repeat (first | refine blk_drewN ?_ _ | refine blk_drew ?_ | refine blk_alloc ?_ _)); exact BK120.out) hb); have n3_ := Aside0.mk (below_step (by repeat (first | (with_reducible first | exact HB.out | apply below_alloc | apply pw_below_drewN | apply below_drew1 | refine below_set ?_ GE120.out) | exact HB.out)) hb); clear HO_4; clear HO_5; clear BK120; clear HB; have HO_4 := n0_; have HO_5 := n1_; have BK120 := n2_; have HB := n3_; clear n0_ n1_ n2_ n3_; (try clear hb); (try clear hb2); (try clear hk); (try clear hi); have hcz12_0 : w11.cell? ⟨gb120, 0, none⟩ = some (.int .i64 ((rd_T38 l0 x10_1).f0)) := (blk_cell BK120.out 0).trans rfl; have hcz12_1 : w11.cell? ⟨gb120, 1, none⟩ = some (.int .i64 ((rd_T38 l0 x10_1).f1)) := (blk_cell BK120.out 1).trans rfl; have hcz12_2 : w11.cell? ⟨gb120, 2, none⟩ = some (.bool ((rd_T38 l0 x10_1).f2)) := (blk_cell BK120.out 2).trans rfl; have hcz12_3 : w11.cell? ⟨gb120, 3, none⟩ = some (.int .i64 ((rd_T38 l0 x10_1).f3)) := (blk_cell BK120.out 3).trans rfl; have hcz12_4 : w11.cell? ⟨gb120, 4, none⟩ = some (.int .i64 ((rd_T38 l0 x10_1).f4)) := (blk_cell BK120.out 4).trans rfl; have hcz12_5 : w11.cell? ⟨gb120, 5, none⟩ = some (.bool ((rd_T38 l0 x10_1).f5)) := (blk_cell BK120.out 5).trans rfl; have hcz12_6 : w11.cell? ⟨gb120, 6, none⟩ = some (.bool ((rd_T38 l0 x10_1).f6)) := (blk_cell BK120.out 6).trans rfl; have hcz12_7 : w11.cell? ⟨gb120, 7, none⟩ = some (.bool ((rd_T38 l0 x10_1).f7)) := (blk_cell BK120.out 7).trans rfl; have hcz12_8 : w11.cell? ⟨gb120, 8, none⟩ = some (.int .i64 ((rd_T38 l0 x10_1).f8)) := (blk_cell BK120.out 8).trans rfl; have hcz12_9 : w11.cell? ⟨gb120, 9, none⟩ = some (.int .i64 ((rd_T38 l0 x10_1).f9)) := (blk_cell BK120.out 9).trans rfl; have hcz12_10 : w11.cell? ⟨gb120, 10, none⟩ = some (.int .i64 ((rd_T38 l0 x10_1).f10)) := (blk_cell BK120.out 10).trans rfl; have hcz12_11 : w11.cell? ⟨gb120, 11, none⟩ = some (.bool ((rd_T38 l0 x10_1).f11)) := (blk_cell BK120.out 11).trans rfl; have hfz12_0 := blk_frozen BK120.out 0; have hfz12_1 := blk_frozen BK120.out 1; have hfz12_2 := blk_frozen BK120.out 2; have hfz12_3 := blk_frozen BK120.out 3; have hfz12_4 := blk_frozen BK120.out 4; have hfz12_5 := blk_frozen BK120.out 5; have hfz12_6 := blk_frozen BK120.out 6; have hfz12_7 := blk_frozen BK120.out 7; have hfz12_8 := blk_frozen BK120.out 8; have hfz12_9 := blk_frozen BK120.out 9; have hfz12_10 := blk_frozen BK120.out 10; have hfz12_11 := blk_frozen BK120.out 11) | ((with_reducible refine gate_builtin (b := .append) (xs := #[.tmp 17, .tmp 19]) rfl ?_); at_builtin; refine Kd.R_append k38 (w0 := w) w.heap.size rfl (.tmp 17) (.tmp 19) 22 38 (.agg #[(.int .i64 0), (.int .i64 0), (.bool false), (.int .i64 0), (.int .i64 0), (.bool false), (.bool false), (.bool false), (.int .i64 0), (.int .i64 0), (.int .i64 0), (.bool false)]) 80 rfl Try.underlying22 info38 rfl (by decide) (by omega) u4 x4_1 (⟨(rd_T38 l0 x10_1).f0, (rd_T38 l0 x10_1).f1, (rd_T38 l0 x10_1).f2, (rd_T38 l0 x10_1).f3, (rd_T38 l0 x10_1).f4, (rd_T38 l0 x10_1).f5, (rd_T38 l0 x10_1).f6, (rd_T38 l0 x10_1).f7, (rd_T38 l0 x10_1).f8, (rd_T38 l0 x10_1).f9, (rd_T38 l0 x10_1).f10, (rd_T38 l0 x10_1).f11⟩ : S38) [.int .i64 ((rd_T38 l0 x10_1).f0), .int .i64 ((rd_T38 l0 x10_1).f1), .bool ((rd_T38 l0 x10_1).f2), .int .i64 ((rd_T38 l0 x10_1).f3), .int .i64 ((rd_T38 l0 x10_1).f4), .bool ((rd_T38 l0 x10_1).f5), .bool ((rd_T38 l0 x10_1).f6), .bool ((rd_T38 l0 x10_1).f7), .int .i64 ((rd_T38 l0 x10_1).f8), .int .i64 ((rd_T38 l0 x10_1).f9), .int .i64 ((rd_T38 l0 x10_1).f10), .bool ((rd_T38 l0 x10_1).f11)] (fun k_ => some k_ ≠ (u5 : Value).ownBlock ∧ k_ ≠ gb120) (fun _ => False) rfl rfl ?aP (fun _ hk => hk.elim) ?aF ?aO ?aB ?aS ?aL ?_; (case aP => exact k38_mkM _ _ _ (⟨(rd_T38 l0 x10_1).f0, (rd_T38 l0 x10_1).f1, (rd_T38 l0 x10_1).f2, (rd_T38 l0 x10_1).f3, (rd_T38 l0 x10_1).f4, (rd_T38 l0 x10_1).f5, (rd_T38 l0 x10_1).f6, (rd_T38 l0 x10_1).f7, (rd_T38 l0 x10_1).f8, (rd_T38 l0 x10_1).f9, (rd_T38 l0 x10_1).f10, (rd_T38 l0 x10_1).f11⟩ : S38)); (case aB => exact (by repeat (first | (with_reducible first | exact HB.out | apply below_alloc | apply pw_below_drewN | apply below_drew1 | refine below_set ?_ GE120.out) | exact HB.out))); (case aF => exact (fun k_ hk => ⟨Kd.fresh' (Kd.R_lt (by (with_reducible repeat (first | apply Kd.R_alloc | apply Kd.R_drewN | apply Kd.R_drew)); exact HO_5.out)) k_ hk, Kd.freshB (g := gb120) (o := .cells #[.int .i64 ((rd_T38 l0 x10_1).f0), .int .i64 ((rd_T38 l0 x10_1).f1), .bool ((rd_T38 l0 x10_1).f2), .int .i64 ((rd_T38 l0 x10_1).f3), .int .i64 ((rd_T38 l0 x10_1).f4), .bool ((rd_T38 l0 x10_1).f5), .bool ((rd_T38 l0 x10_1).f6), .bool ((rd_T38 l0 x10_1).f7), .int .i64 ((rd_T38 l0 x10_1).f8), .int .i64 ((rd_T38 l0 x10_1).f9), .int .i64 ((rd_T38 l0 x10_1).f10), .bool ((rd_T38 l0 x10_1).f11)] 38 (0, 0)) (by (with_reducible repeat (first | refine blk_drewN ?_ _ | refine blk_drew ?_ | refine blk_alloc ?_ _)); exact BK120.out) k_ hk⟩)); (case aO => exact (by (with_reducible repeat (first | apply Kd.R_alloc | apply Kd.R_drewN | apply Kd.R_drew)); exact HO_4.out)); (case aS => exact (below_size (by repeat (first | (with_reducible first | exact HB.out | apply below_alloc | apply pw_below_drewN | apply below_drew1 | refine below_set ?_ GE120.out) | exact HB.out)))); (case aL => have := LMc8.out; omega); intro v123 w13 ho hb hg hat; rw [← Ny122.out] at ho; have n0_ := Aside0.mk (Kd.R_after (ok := (fun k_ => k_ ≠ gb120)) (by (with_reducible repeat (first | apply Kd.R_alloc | apply Kd.R_drewN | apply Kd.R_drew)); exact Kd.R_mono HO_5.out (fun _ hk => ⟨hk.2, hk.1⟩)) hg hat); have n1_ := Aside0.mk (blk_grown (g := gb120) (o := .cells #[.int .i64 ((rd_T38 l0 x10_1).f0), .int .i64 ((rd_T38 l0 x10_1).f1), .bool ((rd_T38 l0 x10_1).f2), .int .i64 ((rd_T38 l0 x10_1).f3), .int .i64 ((rd_T38 l0 x10_1).f4), .bool ((rd_T38 l0 x10_1).f5), .bool ((rd_T38 l0 x10_1).f6), .bool ((rd_T38 l0 x10_1).f7), .int .i64 ((rd_T38 l0 x10_1).f8), .int .i64 ((rd_T38 l0 x10_1).f9), .int .i64 ((rd_T38 l0 x10_1).f10), .bool ((rd_T38 l0 x10_1).f11)] 38 (0, 0)) (by (with_reducible repeat (first | refine blk_drewN ?_ _ | refine blk_drew ?_ | refine blk_alloc ?_ _)); exact BK120.out) hg (Kd.R_away HO_4.out (fun _ hk => hk.2))); have n2_ := Aside0.mk (hb); have n3_ := Aside0.mk (ho); clear HO_5; clear BK120; clear HB; clear HO_4; have HO_5 := n0_; have BK120 := n1_; have HB := n2_; have HO124 := n3_; clear n0_ n1_ n2_ n3_; clear ho hb hg hat))
        go_roundg k1
        case measure => have := HK1.out; omega
        case rel => exact ⟨(y122), (x5_1), (wrap64 (x10_1 + 1)), (by first | rfl | (simp; done) | (simp [*]; done)), H', ⟨by have := HK1.out; omega⟩, ⟨by (with_reducible repeat (first | apply Kd.R_alloc | apply Kd.R_drewN | apply Kd.R_drew)); exact Kd.R_mono HO124.out (fun _ hk => hk.1)⟩, ⟨by (with_reducible repeat (first | apply Kd.R_alloc | apply Kd.R_drewN | apply Kd.R_drew)); exact Kd.R_mono HO_5.out (fun _ hk => hk.2)⟩, ⟨by repeat (first | (with_reducible first | exact HB.out | apply below_alloc | apply pw_below_drewN | apply below_drew1 | refine below_set ?_ GE120.out) | exact HB.out)⟩⟩
       ·rw [if_neg c8] at H
        exact absurd H (by simp)
      ·replace c7 := Bool.eq_false_iff.mpr c7
       subst c7
       have H1 : (if x5_1.length < 1759218604441 then (api_Rec_31.l0 k1 a1 x4_1 (x5_1 ++ [(⟨(rd_T38 l0 x10_1).f0, (rd_T38 l0 x10_1).f1, (rd_T38 l0 x10_1).f2, (rd_T38 l0 x10_1).f3, (rd_T38 l0 x10_1).f4, (rd_T38 l0 x10_1).f5, (rd_T38 l0 x10_1).f6, (rd_T38 l0 x10_1).f7, (rd_T38 l0 x10_1).f8, (rd_T38 l0 x10_1).f9, (rd_T38 l0 x10_1).f10, (rd_T38 l0 x10_1).f11⟩ : S38)]) l0 (l0.length : Int) (wrap64 (x10_1 + 1))) else (none)) = some (r1, r2) := by rw [if_neg (show ¬ (false = true) by decide)] at H; exact H
       clear H
       have H := H1
       clear H1
       by_cases c14 : x5_1.length < 1759218604441
       ·rw [if_pos c14] at H
        have LMc14 := Aside0.mk c14
        clear c14
        obtain ⟨y125, hy125⟩ : ∃ y_ : List (S38), y_ = (x5_1 ++ [(⟨(rd_T38 l0 x10_1).f0, (rd_T38 l0 x10_1).f1, (rd_T38 l0 x10_1).f2, (rd_T38 l0 x10_1).f3, (rd_T38 l0 x10_1).f4, (rd_T38 l0 x10_1).f5, (rd_T38 l0 x10_1).f6, (rd_T38 l0 x10_1).f7, (rd_T38 l0 x10_1).f8, (rd_T38 l0 x10_1).f9, (rd_T38 l0 x10_1).f10, (rd_T38 l0 x10_1).f11⟩ : S38)]) := ⟨_, rfl⟩
        replace H : (api_Rec_31.l0 k1 a1 x4_1 y125 l0 (l0.length : Int) (wrap64 (x10_1 + 1))) = some (r1, r2) := by first | (rw [hy125]; with_reducible exact H) | (have H2_ := (Option.bind_some _ _).symm.trans H; rw [hy125]; with_reducible exact H2_) | (have H2_ := (Option.bind_some _ _).symm.trans H; with_reducible exact H2_) | with_reducible exact H | (rw [hy125]; exact H) | exact H
        have Ny125 := Aside0.mk hy125
        clear hy125
        have H' := Aside0.mk H
        clear H
        have p119 : 0 ≤ (x10_1 : Int) := of_decide_eq_true (by first | (with_reducible assumption) | assumption)
        have q119 : x10_1 < (l0.length : Int) := of_decide_eq_true (by first | (with_reducible assumption) | assumption)
        obtain ⟨ad119, e119, hx119_0, hx119_1, hx119_2, hx119_3, hx119_4, hx119_5, hx119_6, hx119_7, hx119_8, hx119_9, hx119_10, hx119_11⟩ := at_T38 HR0.out x10_1 p119 q119
        cases e119
        replace hx119_0 := (HB.out.cell (World.block_lt_of_cell? w _ hx119_0)).trans hx119_0
        replace hx119_1 := (HB.out.cell (World.block_lt_of_cell? w _ hx119_1)).trans hx119_1
        replace hx119_2 := (HB.out.cell (World.block_lt_of_cell? w _ hx119_2)).trans hx119_2
        replace hx119_3 := (HB.out.cell (World.block_lt_of_cell? w _ hx119_3)).trans hx119_3
        replace hx119_4 := (HB.out.cell (World.block_lt_of_cell? w _ hx119_4)).trans hx119_4
        replace hx119_5 := (HB.out.cell (World.block_lt_of_cell? w _ hx119_5)).trans hx119_5
        replace hx119_6 := (HB.out.cell (World.block_lt_of_cell? w _ hx119_6)).trans hx119_6
        replace hx119_7 := (HB.out.cell (World.block_lt_of_cell? w _ hx119_7)).trans hx119_7
        replace hx119_8 := (HB.out.cell (World.block_lt_of_cell? w _ hx119_8)).trans hx119_8
        replace hx119_9 := (HB.out.cell (World.block_lt_of_cell? w _ hx119_9)).trans hx119_9
        replace hx119_10 := (HB.out.cell (World.block_lt_of_cell? w _ hx119_10)).trans hx119_10
        replace hx119_11 := (HB.out.cell (World.block_lt_of_cell? w _ hx119_11)).trans hx119_11
        replace p119 := eq_true p119
        replace q119 := eq_true q119
        go_wp2_with (first | ((with_reducible refine gate_dst (N := 7) rfl ?_); refine box_event ?hg (N := 7) ?hd (cs := #[.int .i64 0, .int .i64 0, .bool false, .int .i64 0, .int .i64 0, .bool false, .bool false, .bool false, .int .i64 0, .int .i64 0, .int .i64 0, .bool false]) (t := 38) ?hr ?_; (case hd => rfl); (case hg => rfl); (case hr => first | (go_simp; done) | (go_simp; rfl)); intro gb120 hg w15 hbox hb; have n0_ := Aside0.mk (Kd.R_below (Kd.R_elderB (by (with_reducible repeat (first | apply Kd.R_alloc | apply Kd.R_drewN | apply Kd.R_drew)); exact HO_4.out) gb120 (Nat.le_of_eq hg.symm)) hb); have n1_ := Aside0.mk (Kd.R_below (Kd.R_elderB (by (with_reducible repeat (first | apply Kd.R_alloc | apply Kd.R_drewN | apply Kd.R_drew)); exact HO_5.out) gb120 (Nat.le_of_eq hg.symm)) hb); have n2_ := Aside0.mk (below_step (by repeat (first | (with_reducible first | exact HB.out | apply below_alloc | apply pw_below_drewN | apply below_drew1) | exact HB.out | exact Below.refl _ _)) hb); have n3_ := Aside0.mk (hbox); have n4_ := Aside0.mk ((by rw [hg]; exact (below_size (by repeat (first | (with_reducible first | exact HB.out | apply below_alloc | apply pw_below_drewN | apply below_drew1) | exact HB.out | exact Below.refl _ _))) : w.heap.size ≤ gb120)); have n5_ := Aside0.mk ((by rw [hg]; exact (below_size (by repeat (first | (with_reducible first | exact HB.out | apply below_alloc | apply pw_below_drewN | apply below_drew1) | exact HB.out | exact Below.refl _ _))) : w.heap.size ≤ gb120)); clear HO_4; clear HO_5; clear HB; have HO_4 := n0_; have HO_5 := n1_; have HB := n2_; have BK120 := n3_; have GW120 := n4_; have GE120 := n5_; clear n0_ n1_ n2_ n3_ n4_ n5_; clear hb hbox hg; have hcz16_0 : w15.cell? ⟨gb120, 0, none⟩ = some (.int .i64 0) := (blk_cell BK120.out 0).trans rfl; have hcz16_1 : w15.cell? ⟨gb120, 1, none⟩ = some (.int .i64 0) := (blk_cell BK120.out 1).trans rfl; have hcz16_2 : w15.cell? ⟨gb120, 2, none⟩ = some (.bool false) := (blk_cell BK120.out 2).trans rfl; have hcz16_3 : w15.cell? ⟨gb120, 3, none⟩ = some (.int .i64 0) := (blk_cell BK120.out 3).trans rfl; have hcz16_4 : w15.cell? ⟨gb120, 4, none⟩ = some (.int .i64 0) := (blk_cell BK120.out 4).trans rfl; have hcz16_5 : w15.cell? ⟨gb120, 5, none⟩ = some (.bool false) := (blk_cell BK120.out 5).trans rfl; have hcz16_6 : w15.cell? ⟨gb120, 6, none⟩ = some (.bool false) := (blk_cell BK120.out 6).trans rfl; have hcz16_7 : w15.cell? ⟨gb120, 7, none⟩ = some (.bool false) := (blk_cell BK120.out 7).trans rfl; have hcz16_8 : w15.cell? ⟨gb120, 8, none⟩ = some (.int .i64 0) := (blk_cell BK120.out 8).trans rfl; have hcz16_9 : w15.cell? ⟨gb120, 9, none⟩ = some (.int .i64 0) := (blk_cell BK120.out 9).trans rfl; have hcz16_10 : w15.cell? ⟨gb120, 10, none⟩ = some (.int .i64 0) := (blk_cell BK120.out 10).trans rfl; have hcz16_11 : w15.cell? ⟨gb120, 11, none⟩ = some (.bool false) := (blk_cell BK120.out 11).trans rfl; have hfz16_0 := blk_frozen BK120.out 0; have hfz16_1 := blk_frozen BK120.out 1; have hfz16_2 := blk_frozen BK120.out 2; have hfz16_3 := blk_frozen BK120.out 3; have hfz16_4 := blk_frozen BK120.out 4; have hfz16_5 := blk_frozen BK120.out 5; have hfz16_6 := blk_frozen BK120.out 6; have hfz16_7 := blk_frozen BK120.out 7; have hfz16_8 := blk_frozen BK120.out 8; have hfz16_9 := blk_frozen BK120.out 9; have hfz16_10 := blk_frozen BK120.out 10; have hfz16_11 := blk_frozen BK120.out 11) | (go_at_call 32; (with_reducible refine (board_Ack_1.calls ((rd_T38 l0 x10_1).f0) ((rd_T38 l0 x10_1).f1) ((rd_T38 l0 x10_1).f2) ((rd_T38 l0 x10_1).f3) ((rd_T38 l0 x10_1).f4) ((rd_T38 l0 x10_1).f5) ((rd_T38 l0 x10_1).f6) ((rd_T38 l0 x10_1).f7) ((rd_T38 l0 x10_1).f8) ((rd_T38 l0 x10_1).f9) ((rd_T38 l0 x10_1).f10) ((rd_T38 l0 x10_1).f11) a1 false _ ub ?hubx A6.out).mono ?_); (case hubx => exact ((show Below w.heap.size w _ from (by repeat (first | (with_reducible first | exact HB.out | apply below_alloc | apply pw_below_drewN | apply below_drew1 | refine below_set ?_ GE120.out) | exact HB.out))).cell (p := ⟨ub, 0, none⟩) HUBL.out).trans HUB.out); rintro e w17 ⟨rfl, hb⟩; have n0_ := Aside0.mk (Kd.R_below (by (with_reducible repeat (first | apply Kd.R_alloc | apply Kd.R_drewN | apply Kd.R_drew)); exact (Kd.R_mono (Kd.R_far (p := ⟨gb120, 11, none⟩) (Kd.R_far (p := ⟨gb120, 10, none⟩) (Kd.R_far (p := ⟨gb120, 9, none⟩) (Kd.R_far (p := ⟨gb120, 8, none⟩) (Kd.R_far (p := ⟨gb120, 7, none⟩) (Kd.R_far (p := ⟨gb120, 6, none⟩) (Kd.R_far (p := ⟨gb120, 5, none⟩) (Kd.R_far (p := ⟨gb120, 4, none⟩) (Kd.R_far (p := ⟨gb120, 3, none⟩) (Kd.R_far (p := ⟨gb120, 2, none⟩) (Kd.R_far (p := ⟨gb120, 1, none⟩) (Kd.R_far (p := ⟨gb120, 0, none⟩) (Kd.R_mono HO_4.out (fun k_ hk => (⟨hk, hk.2⟩ : _ ∧ k_ ≠ gb120))) (fun _ hk => hk.2) (.int .i64 ((rd_T38 l0 x10_1).f0))) (fun _ hk => hk.2) (.int .i64 ((rd_T38 l0 x10_1).f1))) (fun _ hk => hk.2) (.bool ((rd_T38 l0 x10_1).f2))) (fun _ hk => hk.2) (.int .i64 ((rd_T38 l0 x10_1).f3))) (fun _ hk => hk.2) (.int .i64 ((rd_T38 l0 x10_1).f4))) (fun _ hk => hk.2) (.bool ((rd_T38 l0 x10_1).f5))) (fun _ hk => hk.2) (.bool ((rd_T38 l0 x10_1).f6))) (fun _ hk => hk.2) (.bool ((rd_T38 l0 x10_1).f7))) (fun _ hk => hk.2) (.int .i64 ((rd_T38 l0 x10_1).f8))) (fun _ hk => hk.2) (.int .i64 ((rd_T38 l0 x10_1).f9))) (fun _ hk => hk.2) (.int .i64 ((rd_T38 l0 x10_1).f10))) (fun _ hk => hk.2) (.bool ((rd_T38 l0 x10_1).f11))) (fun _ h_ => h_.1))) hb); have n1_ := Aside0.mk (Kd.R_below (by (with_reducible repeat (first | apply Kd.R_alloc | apply Kd.R_drewN | apply Kd.R_drew)); exact (Kd.R_mono (Kd.R_far (p := ⟨gb120, 11, none⟩) (Kd.R_far (p := ⟨gb120, 10, none⟩) (Kd.R_far (p := ⟨gb120, 9, none⟩) (Kd.R_far (p := ⟨gb120, 8, none⟩) (Kd.R_far (p := ⟨gb120, 7, none⟩) (Kd.R_far (p := ⟨gb120, 6, none⟩) (Kd.R_far (p := ⟨gb120, 5, none⟩) (Kd.R_far (p := ⟨gb120, 4, none⟩) (Kd.R_far (p := ⟨gb120, 3, none⟩) (Kd.R_far (p := ⟨gb120, 2, none⟩) (Kd.R_far (p := ⟨gb120, 1, none⟩) (Kd.R_far (p := ⟨gb120, 0, none⟩) (Kd.R_mono HO_5.out (fun k_ hk => (⟨hk, hk.2⟩ : _ ∧ k_ ≠ gb120))) (fun _ hk => hk.2) (.int .i64 ((rd_T38 l0 x10_1).f0))) (fun _ hk => hk.2) (.int .i64 ((rd_T38 l0 x10_1).f1))) (fun _ hk => hk.2) (.bool ((rd_T38 l0 x10_1).f2))) (fun _ hk => hk.2) (.int .i64 ((rd_T38 l0 x10_1).f3))) (fun _ hk => hk.2) (.int .i64 ((rd_T38 l0 x10_1).f4))) (fun _ hk => hk.2) (.bool ((rd_T38 l0 x10_1).f5))) (fun _ hk => hk.2) (.bool ((rd_T38 l0 x10_1).f6))) (fun _ hk => hk.2) (.bool ((rd_T38 l0 x10_1).f7))) (fun _ hk => hk.2) (.int .i64 ((rd_T38 l0 x10_1).f8))) (fun _ hk => hk.2) (.int .i64 ((rd_T38 l0 x10_1).f9))) (fun _ hk => hk.2) (.int .i64 ((rd_T38 l0 x10_1).f10))) (fun _ hk => hk.2) (.bool ((rd_T38 l0 x10_1).f11))) (fun _ h_ => h_.1))) hb); have n2_ := Aside0.mk (blk_below (g := gb120) (o := .cells #[.int .i64 ((rd_T38 l0 x10_1).f0), .int .i64 ((rd_T38 l0 x10_1).f1), .bool ((rd_T38 l0 x10_1).f2), .int .i64 ((rd_T38 l0 x10_1).f3), .int .i64 ((rd_T38 l0 x10_1).f4), .bool ((rd_T38 l0 x10_1).f5), .bool ((rd_T38 l0 x10_1).f6), .bool ((rd_T38 l0 x10_1).f7), .int .i64 ((rd_T38 l0 x10_1).f8), .int .i64 ((rd_T38 l0 x10_1).f9), .int .i64 ((rd_T38 l0 x10_1).f10), .bool ((rd_T38 l0 x10_1).f11)] 38 (0, 0)) (by (with_reducible repeat (first | refine blk_drewN ?_ _ | refine blk_drew ?_ | refine blk_alloc ?_ _)); refine blk_put (cs := #[.int .i64 ((rd_T38 l0 x10_1).f0), .int .i64 ((rd_T38 l0 x10_1).f1), .bool ((rd_T38 l0 x10_1).f2), .int .i64 ((rd_T38 l0 x10_1).f3), .int .i64 ((rd_T38 l0 x10_1).f4), .bool ((rd_T38 l0 x10_1).f5), .bool ((rd_T38 l0 x10_1).f6), .bool ((rd_T38 l0 x10_1).f7), .int .i64 ((rd_T38 l0 x10_1).f8), .int .i64 ((rd_T38 l0 x10_1).f9), .int .i64 ((rd_T38 l0 x10_1).f10), .bool false]) ?_ 11 _ rfl; (with_reducible repeat (first | refine blk_drewN ?_ _ | refine blk_drew ?_ | refine blk_alloc ?_ _)); refine blk_put (cs := #[.int .i64 ((rd_T38 l0 x10_1).f0), .int .i64 ((rd_T38 l0 x10_1).f1), .bool ((rd_T38 l0 x10_1).f2), .int .i64 ((rd_T38 l0 x10_1).f3), .int .i64 ((rd_T38 l0 x10_1).f4), .bool ((rd_T38 l0 x10_1).f5), .bool ((rd_T38 l0 x10_1).f6), .bool ((rd_T38 l0 x10_1).f7), .int .i64 ((rd_T38 l0 x10_1).f8), .int .i64 ((rd_T38 l0 x10_1).f9), .int .i64 0, .bool false]) ?_ 10 _ rfl; (with_reducible repeat (first | refine blk_drewN ?_ _ | refine blk_drew ?_ | refine blk_alloc ?_ _)); refine blk_put (cs := #[.int .i64 ((rd_T38 l0 x10_1).f0), .int .i64 ((rd_T38 l0 x10_1).f1), .bool ((rd_T38 l0 x10_1).f2), .int .i64 ((rd_T38 l0 x10_1).f3), .int .i64 ((rd_T38 l0 x10_1).f4), .bool ((rd_T38 l0 x10_1).f5), .bool ((rd_T38 l0 x10_1).f6), .bool ((rd_T38 l0 x10_1).f7), .int .i64 ((rd_T38 l0 x10_1).f8), .int .i64 0, .int .i64 0, .bool false]) ?_ 9 _ rfl; (with_reducible repeat (first | refine blk_drewN ?_ _ | refine blk_drew ?_ | refine blk_alloc ?_ _)); refine blk_put (cs := #[.int .i64 ((rd_T38 l0 x10_1).f0), .int .i64 ((rd_T38 l0 x10_1).f1), .bool ((rd_T38 l0 x10_1).f2), .int .i64 ((rd_T38 l0 x10_1).f3), .int .i64 ((rd_T38 l0 x10_1).f4), .bool ((rd_T38 l0 x10_1).f5), .bool ((rd_T38 l0 x10_1).f6), .bool ((rd_T38 l0 x10_1).f7), .int .i64 0, .int .i64 0, .int .i64 0, .bool false]) ?_ 8 _ rfl; (with_reducible repeat (first | refine blk_drewN ?_ _ | refine blk_drew ?_ | refine blk_alloc ?_ _)); refine blk_put (cs := #[.int .i64 ((rd_T38 l0 x10_1).f0), .int .i64 ((rd_T38 l0 x10_1).f1), .bool ((rd_T38 l0 x10_1).f2), .int .i64 ((rd_T38 l0 x10_1).f3), .int .i64 ((rd_T38 l0 x10_1).f4), .bool ((rd_T38 l0 x10_1).f5), .bool ((rd_T38 l0 x10_1).f6), .bool false, .int .i64 0, .int .i64 0, .int .i64 0, .bool false]) ?_ 7 _ rfl; (with_reducible repeat (first | refine blk_drewN ?_ _ | refine blk_drew ?_ | refine blk_alloc ?_ _)); refine blk_put (cs := #[.int .i64 ((rd_T38 l0 x10_1).f0), .int .i64 ((rd_T38 l0 x10_1).f1), .bool ((rd_T38 l0 x10_1).f2), .int .i64 ((rd_T38 l0 x10_1).f3), .int .i64 ((rd_T38 l0 x10_1).f4), .bool ((rd_T38 l0 x10_1).f5), .bool false, .bool false, .int .i64 0, .int .i64 0, .int .i64 0, .bool false]) ?_ 6 _ rfl; (with_reducible repeat (first | refine blk_drewN ?_ _ | refine blk_drew ?_ | refine blk_alloc ?_ _)); refine blk_put (cs := #[.int .i64 ((rd_T38 l0 x10_1).f0), .int .i64 ((rd_T38 l0 x10_1).f1), .bool ((rd_T38 l0 x10_1).f2), .int .i64 ((rd_T38 l0 x10_1).f3), .int .i64 ((rd_T38 l0 x10_1).f4), .bool false, .bool false, .bool false, .int .i64 0, .int .i64 0, .int .i64 0, .bool false]) ?_ 5 _ rfl; (with_reducible repeat (first | refine blk_drewN ?_ _ | refine blk_drew ?_ | refine blk_alloc ?_ _)); refine blk_put (cs := #[.int .i64 ((rd_T38 l0 x10_1).f0), .int .i64 ((rd_T38 l0 x10_1).f1), .bool ((rd_T38 l0 x10_1).f2), .int .i64 ((rd_T38 l0 x10_1).f3), .int .i64 0, .bool false, .bool false, .bool false, .int .i64 0, .int .i64 0, .int .i64 0, .bool false]) ?_ 4 _ rfl; (with_reducible repeat (first | refine blk_drewN ?_ _ | refine blk_drew ?_ | refine blk_alloc ?_ _)); refine blk_put (cs := #[.int .i64 ((rd_T38 l0 x10_1).f0), .int .i64 ((rd_T38 l0 x10_1).f1), .bool ((rd_T38 l0 x10_1).f2), .int .i64 0, .int .i64 0, .bool false, .bool false, .bool false, .int .i64 0, .int .i64 0, .int .i64 0, .bool false]) ?_ 3 _ rfl; (with_reducible repeat (first | refine blk_drewN ?_ _ | refine blk_drew ?_ | refine blk_alloc ?_ _)); refine blk_put (cs := #[.int .i64 ((rd_T38 l0 x10_1).f0), .int .i64 ((rd_T38 l0 x10_1).f1), .bool false, .int .i64 0, .int .i64 0, .bool false, .bool false, .bool false, .int .i64 0, .int .i64 0, .int .i64 0, .bool false]) ?_ 2 _ rfl; (with_reducible repeat (first | refine blk_drewN ?_ _ | refine blk_drew ?_ | refine blk_alloc ?_ _)); refine blk_put (cs := #[.int .i64 ((rd_T38 l0 x10_1).f0), .int .i64 0, .bool false, .int .i64 0, .int .i64 0, .bool false, .bool false, .bool false, .int .i64 0, .int .i64 0, .int .i64 0, .bool false]) ?_ 1 _ rfl; (with_reducible repeat (first | refine blk_drewN ?_ _ | refine blk_drew ?_ | refine blk_alloc ?_ _)); refine blk_put (cs := #[.int .i64 0, .int .i64 0, .bool false, .int .i64 0, .int .i64 0, .bool false, .bool false, .bool false, .int .i64 0, .int .i64 0, .int .i64 0, .bool false]) ?_ 0 _ rfl; (with_reducible repeat (first | refine blk_drewN ?_ _ | refine blk_drew ?_ | refine blk_alloc ?_ _)); exact BK120.out) hb); have n3_ := Aside0.mk (below_step (by repeat (first | (with_reducible first | exact HB.out | apply below_alloc | apply pw_below_drewN | apply below_drew1 | refine below_set ?_ GE120.out) | exact HB.out)) hb); clear HO_4; clear HO_5; clear BK120; clear HB; have HO_4 := n0_; have HO_5 := n1_; have BK120 := n2_; have HB := n3_; clear n0_ n1_ n2_ n3_; (try clear hb); (try clear hb2); (try clear hk); (try clear hi); have hcz18_0 : w17.cell? ⟨gb120, 0, none⟩ = some (.int .i64 ((rd_T38 l0 x10_1).f0)) := (blk_cell BK120.out 0).trans rfl; have hcz18_1 : w17.cell? ⟨gb120, 1, none⟩ = some (.int .i64 ((rd_T38 l0 x10_1).f1)) := (blk_cell BK120.out 1).trans rfl; have hcz18_2 : w17.cell? ⟨gb120, 2, none⟩ = some (.bool ((rd_T38 l0 x10_1).f2)) := (blk_cell BK120.out 2).trans rfl; have hcz18_3 : w17.cell? ⟨gb120, 3, none⟩ = some (.int .i64 ((rd_T38 l0 x10_1).f3)) := (blk_cell BK120.out 3).trans rfl; have hcz18_4 : w17.cell? ⟨gb120, 4, none⟩ = some (.int .i64 ((rd_T38 l0 x10_1).f4)) := (blk_cell BK120.out 4).trans rfl; have hcz18_5 : w17.cell? ⟨gb120, 5, none⟩ = some (.bool ((rd_T38 l0 x10_1).f5)) := (blk_cell BK120.out 5).trans rfl; have hcz18_6 : w17.cell? ⟨gb120, 6, none⟩ = some (.bool ((rd_T38 l0 x10_1).f6)) := (blk_cell BK120.out 6).trans rfl; have hcz18_7 : w17.cell? ⟨gb120, 7, none⟩ = some (.bool ((rd_T38 l0 x10_1).f7)) := (blk_cell BK120.out 7).trans rfl; have hcz18_8 : w17.cell? ⟨gb120, 8, none⟩ = some (.int .i64 ((rd_T38 l0 x10_1).f8)) := (blk_cell BK120.out 8).trans rfl; have hcz18_9 : w17.cell? ⟨gb120, 9, none⟩ = some (.int .i64 ((rd_T38 l0 x10_1).f9)) := (blk_cell BK120.out 9).trans rfl; have hcz18_10 : w17.cell? ⟨gb120, 10, none⟩ = some (.int .i64 ((rd_T38 l0 x10_1).f10)) := (blk_cell BK120.out 10).trans rfl; have hcz18_11 : w17.cell? ⟨gb120, 11, none⟩ = some (.bool ((rd_T38 l0 x10_1).f11)) := (blk_cell BK120.out 11).trans rfl; have hfz18_0 := blk_frozen BK120.out 0; have hfz18_1 := blk_frozen BK120.out 1; have hfz18_2 := blk_frozen BK120.out 2; have hfz18_3 := blk_frozen BK120.out 3; have hfz18_4 := blk_frozen BK120.out 4; have hfz18_5 := blk_frozen BK120.out 5; have hfz18_6 := blk_frozen BK120.out 6; have hfz18_7 := blk_frozen BK120.out 7; have hfz18_8 := blk_frozen BK120.out 8; have hfz18_9 := blk_frozen BK120.out 9; have hfz18_10 := blk_frozen BK120.out 10; have hfz18_11 := blk_frozen BK120.out 11) | ((with_reducible refine gate_builtin (b := .append) (xs := #[.tmp 21, .tmp 23]) rfl ?_); at_builtin; refine Kd.R_append k38 (w0 := w) w.heap.size rfl (.tmp 21) (.tmp 23) 22 38 (.agg #[(.int .i64 0), (.int .i64 0), (.bool false), (.int .i64 0), (.int .i64 0), (.bool false), (.bool false), (.bool false), (.int .i64 0), (.int .i64 0), (.int .i64 0), (.bool false)]) 80 rfl Try.underlying22 info38 rfl (by decide) (by omega) u5 x5_1 (⟨(rd_T38 l0 x10_1).f0, (rd_T38 l0 x10_1).f1, (rd_T38 l0 x10_1).f2, (rd_T38 l0 x10_1).f3, (rd_T38 l0 x10_1).f4, (rd_T38 l0 x10_1).f5, (rd_T38 l0 x10_1).f6, (rd_T38 l0 x10_1).f7, (rd_T38 l0 x10_1).f8, (rd_T38 l0 x10_1).f9, (rd_T38 l0 x10_1).f10, (rd_T38 l0 x10_1).f11⟩ : S38) [.int .i64 ((rd_T38 l0 x10_1).f0), .int .i64 ((rd_T38 l0 x10_1).f1), .bool ((rd_T38 l0 x10_1).f2), .int .i64 ((rd_T38 l0 x10_1).f3), .int .i64 ((rd_T38 l0 x10_1).f4), .bool ((rd_T38 l0 x10_1).f5), .bool ((rd_T38 l0 x10_1).f6), .bool ((rd_T38 l0 x10_1).f7), .int .i64 ((rd_T38 l0 x10_1).f8), .int .i64 ((rd_T38 l0 x10_1).f9), .int .i64 ((rd_T38 l0 x10_1).f10), .bool ((rd_T38 l0 x10_1).f11)] (fun k_ => some k_ ≠ (u4 : Value).ownBlock ∧ k_ ≠ gb120) (fun _ => False) rfl rfl ?aP (fun _ hk => hk.elim) ?aF ?aO ?aB ?aS ?aL ?_; (case aP => exact k38_mkM _ _ _ (⟨(rd_T38 l0 x10_1).f0, (rd_T38 l0 x10_1).f1, (rd_T38 l0 x10_1).f2, (rd_T38 l0 x10_1).f3, (rd_T38 l0 x10_1).f4, (rd_T38 l0 x10_1).f5, (rd_T38 l0 x10_1).f6, (rd_T38 l0 x10_1).f7, (rd_T38 l0 x10_1).f8, (rd_T38 l0 x10_1).f9, (rd_T38 l0 x10_1).f10, (rd_T38 l0 x10_1).f11⟩ : S38)); (case aB => exact (by repeat (first | (with_reducible first | exact HB.out | apply below_alloc | apply pw_below_drewN | apply below_drew1 | refine below_set ?_ GE120.out) | exact HB.out))); (case aF => exact (fun k_ hk => ⟨Kd.fresh' (Kd.R_lt (by (with_reducible repeat (first | apply Kd.R_alloc | apply Kd.R_drewN | apply Kd.R_drew)); exact HO_4.out)) k_ hk, Kd.freshB (g := gb120) (o := .cells #[.int .i64 ((rd_T38 l0 x10_1).f0), .int .i64 ((rd_T38 l0 x10_1).f1), .bool ((rd_T38 l0 x10_1).f2), .int .i64 ((rd_T38 l0 x10_1).f3), .int .i64 ((rd_T38 l0 x10_1).f4), .bool ((rd_T38 l0 x10_1).f5), .bool ((rd_T38 l0 x10_1).f6), .bool ((rd_T38 l0 x10_1).f7), .int .i64 ((rd_T38 l0 x10_1).f8), .int .i64 ((rd_T38 l0 x10_1).f9), .int .i64 ((rd_T38 l0 x10_1).f10), .bool ((rd_T38 l0 x10_1).f11)] 38 (0, 0)) (by (with_reducible repeat (first | refine blk_drewN ?_ _ | refine blk_drew ?_ | refine blk_alloc ?_ _)); exact BK120.out) k_ hk⟩)); (case aO => exact (by (with_reducible repeat (first | apply Kd.R_alloc | apply Kd.R_drewN | apply Kd.R_drew)); exact HO_5.out)); (case aS => exact (below_size (by repeat (first | (with_reducible first | exact HB.out | apply below_alloc | apply pw_below_drewN | apply below_drew1 | refine below_set ?_ GE120.out) | exact HB.out)))); (case aL => have := LMc14.out; omega); intro v126 w19 ho hb hg hat; rw [← Ny125.out] at ho; have n0_ := Aside0.mk (Kd.R_after (ok := (fun k_ => k_ ≠ gb120)) (by (with_reducible repeat (first | apply Kd.R_alloc | apply Kd.R_drewN | apply Kd.R_drew)); exact Kd.R_mono HO_4.out (fun _ hk => ⟨hk.2, hk.1⟩)) hg hat); have n1_ := Aside0.mk (blk_grown (g := gb120) (o := .cells #[.int .i64 ((rd_T38 l0 x10_1).f0), .int .i64 ((rd_T38 l0 x10_1).f1), .bool ((rd_T38 l0 x10_1).f2), .int .i64 ((rd_T38 l0 x10_1).f3), .int .i64 ((rd_T38 l0 x10_1).f4), .bool ((rd_T38 l0 x10_1).f5), .bool ((rd_T38 l0 x10_1).f6), .bool ((rd_T38 l0 x10_1).f7), .int .i64 ((rd_T38 l0 x10_1).f8), .int .i64 ((rd_T38 l0 x10_1).f9), .int .i64 ((rd_T38 l0 x10_1).f10), .bool ((rd_T38 l0 x10_1).f11)] 38 (0, 0)) (by (with_reducible repeat (first | refine blk_drewN ?_ _ | refine blk_drew ?_ | refine blk_alloc ?_ _)); exact BK120.out) hg (Kd.R_away HO_5.out (fun _ hk => hk.2))); have n2_ := Aside0.mk (hb); have n3_ := Aside0.mk (ho); clear HO_4; clear BK120; clear HB; clear HO_5; have HO_4 := n0_; have BK120 := n1_; have HB := n2_; have HO127 := n3_; clear n0_ n1_ n2_ n3_; clear ho hb hg hat))
        go_roundg k1
        case measure => have := HK1.out; omega
        case rel => exact ⟨(x4_1), (y125), (wrap64 (x10_1 + 1)), (by first | rfl | (simp; done) | (simp [*]; done)), H', ⟨by have := HK1.out; omega⟩, ⟨by (with_reducible repeat (first | apply Kd.R_alloc | apply Kd.R_drewN | apply Kd.R_drew)); exact Kd.R_mono HO_4.out (fun _ hk => hk.2)⟩, ⟨by (with_reducible repeat (first | apply Kd.R_alloc | apply Kd.R_drewN | apply Kd.R_drew)); exact Kd.R_mono HO127.out (fun _ hk => hk.1)⟩, ⟨by repeat (first | (with_reducible first | exact HB.out | apply below_alloc | apply pw_below_drewN | apply below_drew1 | refine below_set ?_ GE120.out) | exact HB.out)⟩⟩
       ·rw [if_neg c14] at H
        exact absurd H (by simp)
     ·rw [if_neg c5] at H
      exact absurd H (by simp)
    ·rw [if_neg c4] at H
     exact absurd H (by simp)
   ·rw [if_neg c3] at H
    have c3b0 : decide (x10_1 < (l0.length : Int)) = false := decide_eq_false c3
    clear c3
    simp only [Option.some.injEq, Prod.mk.injEq] at H
    obtain ⟨rfl, rfl⟩ := H
    go_wp2
    go_ret2
    exact ⟨_, _, by first | rfl | (simp [errW_none, errW_some] <;> rfl) | (simp [*, errW_none, errW_some] <;> rfl), by (with_reducible repeat (first | apply Kd.R_alloc | apply Kd.R_drewN | apply Kd.R_drew)); exact HO_4.out, by (with_reducible repeat (first | apply Kd.R_alloc | apply Kd.R_drewN | apply Kd.R_drew)); exact HO_5.out, by repeat (first | (with_reducible first | exact HB.out | apply below_alloc | apply pw_below_drewN | apply below_drew1) | exact HB.out | exact Below.refl _ _)⟩

/-! ### board_Ack: function 9 -/
def board_Ack.j0 : Nat → List (S38) → Int → Bool → Option ((List (S38)) × (List (S38)) × Int)
 | 0, _, _, _ => none
 | k + 1, x0, x3, x29 => if x29 = true then (some (([] : List (S38)), ([] : List (S38)), 2)) else ((api_Rec_31.f k x0 x3).bind fun bt130 => (if (bt130.2.length : Int) > 0 then (if 0 < (bt130.2.length : Int) then (some ((bt130.2.set (0 : Int).toNat (⟨mx ((rd_T38 bt130.2 0).f0) x3, (rd_T38 bt130.2 0).f1, (rd_T38 bt130.2 0).f2, (rd_T38 bt130.2 0).f3, (rd_T38 bt130.2 0).f4, (rd_T38 bt130.2 0).f5, (rd_T38 bt130.2 0).f6, (rd_T38 bt130.2 0).f7, (rd_T38 bt130.2 0).f8, (rd_T38 bt130.2 0).f9, (rd_T38 bt130.2 0).f10, (rd_T38 bt130.2 0).f11⟩ : S38)), bt130.1, 0)) else (none)) else (some (bt130.2, bt130.1, 0))))
def board_Ack.f (k : Nat) (l0 : List (S38)) (a1 : Int) : Option ((List (S38)) × (List (S38)) × Int) := (board_Check.f k l0).bind fun t128 => (if t128 = 0 then (if (l0.length : Int) > 0 then (if 0 ≤ (wrap64 ((l0.length : Int) - 1)) then (if (wrap64 ((l0.length : Int) - 1)) < (l0.length : Int) then (board_Ack.j0 k l0 a1 (decide (((rd_T38 l0 (wrap64 ((l0.length : Int) - 1))).f1) < a1))) else (none)) else (none)) else (board_Ack.j0 k l0 a1 false)) else (some (([] : List (S38)), ([] : List (S38)), t128)))
theorem board_Ack.mono_l : ∀ k, (∀ y0 y1 y2, LeO (board_Ack.j0 k y0 y1 y2) (board_Ack.j0 (k + 1) y0 y1 y2))
 | 0 => fun _ _ _ r h => by simp [board_Ack.j0] at h
 | k + 1 => by
  have ih0 := board_Ack.mono_l k
  ·intro y0 y1 y2
   unfold board_Ack.j0
   repeat' first
   | (with_reducible exact ih0 _ _ _)
   | (with_reducible exact api_Rec_31.mono _ _ _)
   | (with_reducible exact board_Check.mono _ _)
   | (with_reducible exact LeO.refl _)
   | (with_reducible exact LeO.none _)
   | (with_reducible refine LeO.ite ?_ ?_)
   | (with_reducible refine LeO.bind ?_ (fun _ => ?_))
   | exact ih0 _ _ _
   | exact api_Rec_31.mono _ _ _
   | exact board_Check.mono _ _
   | exact LeO.none _
   | refine LeO.ite ?_ ?_
   | refine LeO.bind ?_ (fun _ => ?_)
theorem board_Ack.mono : ∀ a0 a1 k, LeO (board_Ack.f k a0 a1) (board_Ack.f (k + 1) a0 a1) := by
 intro a0 a1 k
 have ih0 := board_Ack.mono_l k
 unfold board_Ack.f
 repeat' first
   | (with_reducible exact ih0 _ _ _)
   | (with_reducible exact api_Rec_31.mono _ _ _)
   | (with_reducible exact board_Check.mono _ _)
   | (with_reducible exact LeO.refl _)
   | (with_reducible exact LeO.none _)
   | (with_reducible refine LeO.ite ?_ ?_)
   | (with_reducible refine LeO.bind ?_ (fun _ => ?_))
   | exact ih0 _ _ _
   | exact api_Rec_31.mono _ _ _
   | exact board_Check.mono _ _
   | exact LeO.none _
   | refine LeO.ite ?_ ?_
   | refine LeO.bind ?_ (fun _ => ?_)
def board_Ack.T5 : Bool × List (List Nat × List Nat) := (true, [([], []), ([0], [0]), ([1], [1]), ([2], [2]), ([2], [2]), ([4, 2], [2, 4]), ([3, 5, 2], [2, 3, 5]), ([6, 2], [2, 6]), ([7, 2], [2, 7]), ([2], [2]), ([8, 9, 2], [2, 8, 9]), ([2, 10], [2, 10])])
def board_Ack.B5 : List Nat := [0, 1, 3, 7, 7, 23, 63, 127, 255, 7, 1023, 2047]
theorem board_Ack.tab5 : rtab .any (opsOf Try.f9 5) = board_Ack.T5 := by kernel_rfl
theorem board_Ack.bits5 : waitsOk board_Ack.T5.2 board_Ack.B5 = true := by kernel_rfl
def board_Ack.T9 : Bool × List (List Nat × List Nat) := (true, [([], []), ([], []), ([1], [1]), ([2], [2]), ([3], [3]), ([], []), ([4, 5], [4, 5]), ([0, 0, 1, 2, 3, 4, 5, 6], [0]), ([7, 0, 1, 2, 3, 4, 5, 6], [7]), ([8, 6, 0, 1, 2, 3, 4, 5, 6], [6, 8])])
def board_Ack.B9 : List Nat := [0, 0, 2, 6, 14, 0, 62, 127, 255, 511]
theorem board_Ack.tab9 : rtab .any (opsOf Try.f9 9) = board_Ack.T9 := by kernel_rfl
theorem board_Ack.bits9 : waitsOk board_Ack.T9.2 board_Ack.B9 = true := by kernel_rfl
set_option maxHeartbeats 8000000 in
set_option maxRecDepth 100000 in
theorem board_Ack.calls (k : Nat) (A0 : Option Addr) (c0 : Nat) (l0 : List (S38)) (a1 : Int) (r1 : List (S38)) (r2 : List (S38)) (r3 : Int) (w : World) (hr0 : Kd.C k38 w A0 l0.length l0) (hc0 : l0.length ≤ c0) (h : board_Ack.f k l0 a1 = some (r1, r2, r3)) :
  Calls Try.prog 9 #[.slice A0 l0.length c0, .int .i64 a1] w fun e w' => ∃ v0_ v1_ : Value, e = .returned (.tuple #[v0_, v1_, .int .i64 r3]) ∧ Kd.R k38 38 w' w.heap.size (fun k_ => some k_ ≠ (v1_ : Value).ownBlock) v0_ r1 ∧ Kd.R k38 38 w' w.heap.size (fun k_ => some k_ ≠ (v0_ : Value).ownBlock) v1_ r2 ∧ Below w.heap.size w w' := by
 have HR0 := Aside0.mk hr0
 have HC0 := Aside0.mk hc0
 clear hr0 hc0
 have HB := Aside0.mk (Below.refl w.heap.size w)
 have H : ((board_Check.f k l0).bind fun t128 => (if t128 = 0 then (if (l0.length : Int) > 0 then (if 0 ≤ (wrap64 ((l0.length : Int) - 1)) then (if (wrap64 ((l0.length : Int) - 1)) < (l0.length : Int) then (board_Ack.j0 k l0 a1 (decide (((rd_T38 l0 (wrap64 ((l0.length : Int) - 1))).f1) < a1))) else (none)) else (none)) else (board_Ack.j0 k l0 a1 false)) else (some (([] : List (S38)), ([] : List (S38)), t128)))) = some (r1, r2, r3) := h
 clear h
 replace H := Option.bind_eq_some_iff.mp H
 obtain ⟨t128, A30, H⟩ := H
 replace H : (if t128 = 0 then (if (l0.length : Int) > 0 then (if 0 ≤ (wrap64 ((l0.length : Int) - 1)) then (if (wrap64 ((l0.length : Int) - 1)) < (l0.length : Int) then (board_Ack.j0 k l0 a1 (decide (((rd_T38 l0 (wrap64 ((l0.length : Int) - 1))).f1) < a1))) else (none)) else (none)) else (board_Ack.j0 k l0 a1 false)) else (some (([] : List (S38)), ([] : List (S38)), t128))) = some (r1, r2, r3) := H
 have A3 := Aside0.mk A30
 clear A30
 by_cases c4 : t128 = 0
 ·rw [if_pos c4] at H
  have c4b0 : (t128 == 0) = true := beq_iff_eq.mpr c4
  have c4b1 : (t128 != 0) = false := bne_eq_false_iff_eq.mpr c4
  clear c4
  have HC5 := Aside0.mk H
  clear H
  go_enter Try.func9, Try.ntmps9
  go_upto_region 5 with (first | ((with_reducible refine gate_callee (f := 23) rfl ?_); refine goesL_ (some 12) rfl rfl Try.func23 (by kernel_rfl) rfl #[.slice A0 l0.length c0] rfl (by (try simp only [List.map_toArray, List.map_cons, List.map_nil]); first | done | rfl | (simp only [List.length_drop, List.length_take]; rfl)) ?_; (with_reducible refine (board_Check.calls k _ _ l0 t128 _ ?side1 ?side2 A3.out).mono ?_); (case side1 => repeat (first | exact HR0.out | (with_reducible refine Kd.C_alloc ?_ _) | (with_reducible refine Kd.C_drewN ?_ _) | (with_reducible refine Kd.C_drew ?_))); (case side2 => exact HC0.out); rintro e w6 ⟨rfl, hb⟩; have hu0 : w6.cell? ⟨w.heap.size, 0, none⟩ = some (.int .i64 a1) := (hb.cell (p := ⟨w.heap.size, 0, none⟩) (by simp)).trans ((blk_cell (blk_new w (.cells #[.int .i64 a1] 3)) 0).trans rfl); refine ⟨_, rfl, ?_⟩; have n0_ := Aside0.mk (below_step (by repeat (first | (with_reducible first | exact HB.out | apply below_alloc | apply pw_below_drewN | apply below_drew1) | exact HB.out | exact Below.refl _ _)) hb); clear HB; have HB := n0_; clear n0_; (try clear hb); (try clear hb2); (try clear hk); (try clear hi)))
  (try simp only [Act.put, List.setIfInBounds_toArray, List.set_cons_zero, List.set_cons_succ])
  go_cut [29] (fun v29 wc => ∃ (kq : Nat) (x29_4 : Bool), v29 = .bool x29_4 ∧ Aside0 (board_Ack.j0 kq l0 a1 x29_4 = some (r1, r2, r3)) ∧ Aside0 (kq ≤ k) ∧ Aside0 (Below w.heap.size w wc) ∧ wc.cell? ⟨w.heap.size, 0, none⟩ = some (.int .i64 a1))
  case first =>
   have H := HC5.out
   clear HC5
   by_cases c7 : (l0.length : Int) > 0
   ·rw [if_pos c7] at H
    have c7b0 : decide (0 < (l0.length : Int)) = true := decide_eq_true c7
    have c7b1 : decide (0 < l0.length) = true := decide_eq_true (by omega)
    clear c7
    (first | rw [c7b0] | (simp only [i64_w, i32_w]; rw [c7b0]) | skip)
    obtain ⟨ji8, hji8⟩ : ∃ j_ : Int, (wrap64 ((l0.length : Int) - 1)) = j_ := ⟨_, rfl⟩
    replace H : (if 0 ≤ (ji8) then (if (ji8) < (l0.length : Int) then (board_Ack.j0 k l0 a1 (decide (((rd_T38 l0 (ji8)).f1) < a1))) else (none)) else (none)) = some (r1, r2, r3) := by first | (rw [hji8] at H; exact H) | (simp only [hji8] at H ⊢; exact H)
    have hji8w : (IntKind.i64.wrap ((l0.length : Int) - 1)) = ji8 := (i64_w _).trans hji8
    by_cases c9 : 0 ≤ (ji8)
    ·rw [if_pos c9] at H
     have c9b0 : decide (0 ≤ (ji8)) = true := decide_eq_true c9
     clear c9
     by_cases c10 : (ji8) < (l0.length : Int)
     ·rw [if_pos c10] at H
      have c10b0 : decide ((ji8) < (l0.length : Int)) = true := decide_eq_true c10
      clear c10
      have H' := Aside0.mk H
      clear H
      try go_wp2
      have n0_ := Aside0.mk (below_drew1 HB.out)
      clear HB
      have HB := n0_
      clear n0_
      have p129 : 0 ≤ ((ji8) : Int) := of_decide_eq_true (by first | (with_reducible assumption) | assumption)
      have q129 : (ji8) < (l0.length : Int) := of_decide_eq_true (by first | (with_reducible assumption) | assumption)
      obtain ⟨ad129, e129, hx129_0, hx129_1, hx129_2, hx129_3, hx129_4, hx129_5, hx129_6, hx129_7, hx129_8, hx129_9, hx129_10, hx129_11⟩ := at_T38 HR0.out (ji8) p129 q129
      have hw129_11 := hx129_11
      have hw129_10 := hx129_10
      have hw129_9 := hx129_9
      have hw129_8 := hx129_8
      have hw129_7 := hx129_7
      have hw129_6 := hx129_6
      have hw129_5 := hx129_5
      have hw129_4 := hx129_4
      have hw129_3 := hx129_3
      have hw129_2 := hx129_2
      have hw129_1 := hx129_1
      have hw129_0 := hx129_0
      cases e129
      replace hx129_0 := (HB.out.cell (World.block_lt_of_cell? w _ hx129_0)).trans hx129_0
      replace hx129_1 := (HB.out.cell (World.block_lt_of_cell? w _ hx129_1)).trans hx129_1
      replace hx129_2 := (HB.out.cell (World.block_lt_of_cell? w _ hx129_2)).trans hx129_2
      replace hx129_3 := (HB.out.cell (World.block_lt_of_cell? w _ hx129_3)).trans hx129_3
      replace hx129_4 := (HB.out.cell (World.block_lt_of_cell? w _ hx129_4)).trans hx129_4
      replace hx129_5 := (HB.out.cell (World.block_lt_of_cell? w _ hx129_5)).trans hx129_5
      replace hx129_6 := (HB.out.cell (World.block_lt_of_cell? w _ hx129_6)).trans hx129_6
      replace hx129_7 := (HB.out.cell (World.block_lt_of_cell? w _ hx129_7)).trans hx129_7
      replace hx129_8 := (HB.out.cell (World.block_lt_of_cell? w _ hx129_8)).trans hx129_8
      replace hx129_9 := (HB.out.cell (World.block_lt_of_cell? w _ hx129_9)).trans hx129_9
      replace hx129_10 := (HB.out.cell (World.block_lt_of_cell? w _ hx129_10)).trans hx129_10
      replace hx129_11 := (HB.out.cell (World.block_lt_of_cell? w _ hx129_11)).trans hx129_11
      replace p129 := eq_true p129
      replace q129 := eq_true q129
      refine start_ (n := 12) (S := fun w' => w'.cell? ⟨w.heap.size, 0, none⟩ = some (.int .i64 a1) ∧ w'.cell? (ad129.add (((ji8)).toNat * 12)) = some (.int .i64 ((rd_T38 l0 (ji8)).f0)) ∧ w'.cell? ⟨(ad129.add (((ji8)).toNat * 12)).block, (ad129.add (((ji8)).toNat * 12)).off + 1, none⟩ = some (.int .i64 ((rd_T38 l0 (ji8)).f1)) ∧ w'.cell? ⟨(ad129.add (((ji8)).toNat * 12)).block, (ad129.add (((ji8)).toNat * 12)).off + 2, none⟩ = some (.bool ((rd_T38 l0 (ji8)).f2)) ∧ w'.cell? ⟨(ad129.add (((ji8)).toNat * 12)).block, (ad129.add (((ji8)).toNat * 12)).off + 3, none⟩ = some (.int .i64 ((rd_T38 l0 (ji8)).f3)) ∧ w'.cell? ⟨(ad129.add (((ji8)).toNat * 12)).block, (ad129.add (((ji8)).toNat * 12)).off + 4, none⟩ = some (.int .i64 ((rd_T38 l0 (ji8)).f4)) ∧ w'.cell? ⟨(ad129.add (((ji8)).toNat * 12)).block, (ad129.add (((ji8)).toNat * 12)).off + 5, none⟩ = some (.bool ((rd_T38 l0 (ji8)).f5)) ∧ w'.cell? ⟨(ad129.add (((ji8)).toNat * 12)).block, (ad129.add (((ji8)).toNat * 12)).off + 6, none⟩ = some (.bool ((rd_T38 l0 (ji8)).f6)) ∧ w'.cell? ⟨(ad129.add (((ji8)).toNat * 12)).block, (ad129.add (((ji8)).toNat * 12)).off + 7, none⟩ = some (.bool ((rd_T38 l0 (ji8)).f7)) ∧ w'.cell? ⟨(ad129.add (((ji8)).toNat * 12)).block, (ad129.add (((ji8)).toNat * 12)).off + 8, none⟩ = some (.int .i64 ((rd_T38 l0 (ji8)).f8)) ∧ w'.cell? ⟨(ad129.add (((ji8)).toNat * 12)).block, (ad129.add (((ji8)).toNat * 12)).off + 9, none⟩ = some (.int .i64 ((rd_T38 l0 (ji8)).f9)) ∧ w'.cell? ⟨(ad129.add (((ji8)).toNat * 12)).block, (ad129.add (((ji8)).toNat * 12)).off + 10, none⟩ = some (.int .i64 ((rd_T38 l0 (ji8)).f10)) ∧ w'.cell? ⟨(ad129.add (((ji8)).toNat * 12)).block, (ad129.add (((ji8)).toNat * 12)).off + 11, none⟩ = some (.bool ((rd_T38 l0 (ji8)).f11))) (ds := []) #[false, false, false, false, false, false, false, false, false, false, false, false] (by kernel_rfl) rfl rfl ⟨hu0, ((HB.out.cell (World.block_lt_of_cell? w _ hw129_0)).trans hw129_0), ((HB.out.cell (World.block_lt_of_cell? w _ hw129_1)).trans hw129_1), ((HB.out.cell (World.block_lt_of_cell? w _ hw129_2)).trans hw129_2), ((HB.out.cell (World.block_lt_of_cell? w _ hw129_3)).trans hw129_3), ((HB.out.cell (World.block_lt_of_cell? w _ hw129_4)).trans hw129_4), ((HB.out.cell (World.block_lt_of_cell? w _ hw129_5)).trans hw129_5), ((HB.out.cell (World.block_lt_of_cell? w _ hw129_6)).trans hw129_6), ((HB.out.cell (World.block_lt_of_cell? w _ hw129_7)).trans hw129_7), ((HB.out.cell (World.block_lt_of_cell? w _ hw129_8)).trans hw129_8), ((HB.out.cell (World.block_lt_of_cell? w _ hw129_9)).trans hw129_9), ((HB.out.cell (World.block_lt_of_cell? w _ hw129_10)).trans hw129_10), ((HB.out.cell (World.block_lt_of_cell? w _ hw129_11)).trans hw129_11)⟩ (fun hHeld => ?_); refine with_tabW board_Ack.tab5 board_Ack.bits5 (fun HT_ HW_ => ?_)
      generalize w6.drew = w11 at HB hx129_0 hx129_1 hx129_10 hx129_11 hx129_2 hx129_3 hx129_4 hx129_5 hx129_6 hx129_7 hx129_8 hx129_9 hHeld ⊢
      refine pure_ (i := 0) (N := some 18) (v := ?_) (a' := ?_) #[true, false, false, false, false, false, false, false, false, false, false, false] rfl rfl (any_of HT_.out (by kernel_rfl)) (fun _ _ _ h => h) (Or.inl ⟨by rfl, ?_⟩) ?_ ?_
      rotate_left
      ·intro w'
       go_simp
       with_reducible rfl
      rotate_left
      ·simp only [Act.put, List.setIfInBounds_toArray, List.set_cons_zero, List.set_cons_succ, i64_w, i32_w]
       rfl
      refine pure_ (i := 1) (N := some 19) (v := ?_) (a' := ?_) #[true, true, false, false, false, false, false, false, false, false, false, false] rfl rfl (any_of HT_.out (by kernel_rfl)) (fun _ _ _ h => h) (Or.inl ⟨by rfl, ?_⟩) ?_ ?_
      rotate_left
      ·intro w'
       go_simp
       with_reducible rfl
      rotate_left
      ·simp only [Act.put, List.setIfInBounds_toArray, List.set_cons_zero, List.set_cons_succ, i64_w, i32_w]
       rfl
      refine pure_ (i := 2) (N := some 20) (v := ?_) (a' := ?_) #[true, true, true, false, false, false, false, false, false, false, false, false] rfl rfl (any_of HT_.out (by kernel_rfl)) (fun _ _ _ h => h) (Or.inl ⟨by rfl, ?_⟩) ?_ ?_
      rotate_left
      ·intro w'
       go_simp
       with_reducible rfl
      rotate_left
      ·simp only [Act.put, List.setIfInBounds_toArray, List.set_cons_zero, List.set_cons_succ, i64_w, i32_w]
       rfl
      refine pure_ (i := 3) (N := some 21) (v := ?_) (a' := ?_) #[true, true, true, true, false, false, false, false, false, false, false, false] rfl rfl (any_of HT_.out (by kernel_rfl)) (fun _ _ _ h => h) (Or.inl ⟨by rfl, ?_⟩) ?_ ?_
      rotate_left
      ·intro w'
       go_simp
       with_reducible rfl
      rotate_left
      ·simp only [Act.put, List.setIfInBounds_toArray, List.set_cons_zero, List.set_cons_succ, i64_w, i32_w]
       rfl
      refine pure_ (i := 4) (N := some 22) (v := ?_) (a' := ?_) #[true, true, true, true, true, false, false, false, false, false, false, false] rfl rfl (any_of HT_.out (by kernel_rfl)) (fun _ _ _ h => h) (Or.inl ⟨by rfl, ?_⟩) ?_ ?_
      rotate_left
      ·intro w'
       go_simp
       with_reducible rfl
      rotate_left
      ·simp only [Act.put, List.setIfInBounds_toArray, List.set_cons_zero, List.set_cons_succ, i64_w, i32_w]
       rfl
      refine pure_ (i := 5) (N := some 23) (v := ?_) (a' := ?_) #[true, true, true, true, true, true, false, false, false, false, false, false] rfl rfl (any_of HT_.out (by kernel_rfl)) (fun _ _ _ h => h) (Or.inl ⟨by rfl, ?_⟩) ?_ ?_
      rotate_left
      ·intro w'
       go_simp
       with_reducible rfl
      rotate_left
      ·simp only [Act.put, List.setIfInBounds_toArray, List.set_cons_zero, List.set_cons_succ, i64_w, i32_w]
       rfl
      refine pure_ (i := 6) (N := some 24) (v := ?_) (a' := ?_) #[true, true, true, true, true, true, true, false, false, false, false, false] rfl rfl (any_of HT_.out (by kernel_rfl)) (fun _ _ _ h => h) (Or.inl ⟨by rfl, ?_⟩) ?_ ?_
      rotate_left
      ·intro w'
       go_simp
       with_reducible rfl
      rotate_left
      ·simp only [Act.put, List.setIfInBounds_toArray, List.set_cons_zero, List.set_cons_succ, i64_w, i32_w]
       rfl
      refine pure_ (i := 7) (N := some 25) (v := ?_) (a' := ?_) #[true, true, true, true, true, true, true, true, false, false, false, false] rfl rfl (any_of HT_.out (by kernel_rfl)) (fun _ _ _ h => h) (Or.inl ⟨by rfl, ?_⟩) ?_ ?_
      rotate_left
      ·intro w'
       go_simp
       with_reducible rfl
      rotate_left
      ·simp only [Act.put, List.setIfInBounds_toArray, List.set_cons_zero, List.set_cons_succ, i64_w, i32_w]
       rfl
      refine take_ (i := 9) (N := some 27) (v := ?_) (a' := ?_) #[true, true, true, true, true, true, true, true, false, true, false, false] rfl rfl (take_ofW HT_.out HW_.out (by kernel_rfl)) (fun _ _ _ h => h) (Or.inl ⟨by rfl, ?_⟩) hHeld ?_ ?_
      rotate_left
      ·rintro w' ⟨su, _⟩
       go_simp
       with_reducible rfl
      rotate_left
      ·simp only [Act.put, List.setIfInBounds_toArray, List.set_cons_zero, List.set_cons_succ, i64_w, i32_w]
       rfl
      refine take_ (i := 8) (N := some 26) (v := ?_) (a' := ?_) #[true, true, true, true, true, true, true, true, true, true, false, false] rfl rfl (take_ofW HT_.out HW_.out (by kernel_rfl)) (fun _ _ _ h => h) (Or.inl ⟨by rfl, ?_⟩) hHeld ?_ ?_
      rotate_left
      ·rintro w' ⟨su, s0, s1, s2, s3, s4, s5, s6, s7, s8, s9, s10, s11⟩
       go_simp
       with_reducible rfl
      rotate_left
      ·simp only [Act.put, List.setIfInBounds_toArray, List.set_cons_zero, List.set_cons_succ, i64_w, i32_w]
       rfl
      refine pure_ (i := 10) (N := some 28) (v := ?_) (a' := ?_) #[true, true, true, true, true, true, true, true, true, true, true, false] rfl rfl (any_of HT_.out (by kernel_rfl)) (fun _ _ _ h => h) (Or.inl ⟨by rfl, ?_⟩) ?_ ?_
      rotate_left
      ·intro w'
       go_simp
       with_reducible rfl
      rotate_left
      ·simp only [Act.put, List.setIfInBounds_toArray, List.set_cons_zero, List.set_cons_succ, i64_w, i32_w]
       rfl
      refine pure_ (i := 11) (N := some 29) (v := ?_) (a' := ?_) #[true, true, true, true, true, true, true, true, true, true, true, true] rfl rfl (any_of HT_.out (by kernel_rfl)) (fun _ _ _ h => h) (Or.inl ⟨by rfl, ?_⟩) ?_ ?_
      rotate_left
      ·intro w'
       go_simp
       with_reducible rfl
      rotate_left
      ·simp only [Act.put, List.setIfInBounds_toArray, List.set_cons_zero, List.set_cons_succ, i64_w, i32_w]
       rfl
      refine done_ (done_of HT_.out (by kernel_rfl)) ?_
      try go_wp2
      go_meet
      case rel => exact ⟨_, (decide (((rd_T38 l0 (ji8)).f1) < a1)), (by first | rfl | (simp; done) | (simp only [← hji8] <;> (first | rfl | simp)) | (simp [*]; done)), H', ⟨by first | omega | exact Nat.le_refl _⟩, ⟨by repeat (first | (with_reducible first | exact HB.out | apply below_alloc | apply pw_below_drewN | apply below_drew1) | exact HB.out | exact Below.refl _ _)⟩, hHeld.1⟩
     ·rw [if_neg c10] at H
      exact absurd H (by simp)
    ·rw [if_neg c9] at H
     exact absurd H (by simp)
   ·rw [if_neg c7] at H
    have c7b0 : decide (0 < (l0.length : Int)) = false := decide_eq_false c7
    have c7b1 : decide (0 < l0.length) = false := decide_eq_false (by omega)
    clear c7
    (first | rw [c7b0] | (simp only [i64_w, i32_w]; rw [c7b0]) | skip)
    have H' := Aside0.mk H
    clear H
    try go_wp2
    have n0_ := Aside0.mk (below_drew1 HB.out)
    clear HB
    have HB := n0_
    clear n0_
    refine start_ (n := 12) (S := fun w' => w'.cell? ⟨w.heap.size, 0, none⟩ = some (.int .i64 a1) ∧ True) (ds := []) #[false, false, false, false, false, false, false, false, false, false, false, false] (by kernel_rfl) rfl rfl ⟨hu0, trivial⟩ (fun hHeld => ?_); refine with_tabW board_Ack.tab5 board_Ack.bits5 (fun HT_ HW_ => ?_)
    generalize w6.drew = w12 at HB hHeld ⊢
    refine pure_ (i := 0) (N := some 18) (v := ?_) (a' := ?_) #[true, false, false, false, false, false, false, false, false, false, false, false] rfl rfl (any_of HT_.out (by kernel_rfl)) (fun _ _ _ h => h) (Or.inl ⟨by rfl, ?_⟩) ?_ ?_
    rotate_left
    ·intro w'
     go_simp
     with_reducible rfl
    rotate_left
    ·simp only [Act.put, List.setIfInBounds_toArray, List.set_cons_zero, List.set_cons_succ, i64_w, i32_w]
     rfl
    refine pure_ (i := 1) (N := some 19) (v := ?_) (a' := ?_) #[true, true, false, false, false, false, false, false, false, false, false, false] rfl rfl (any_of HT_.out (by kernel_rfl)) (fun _ _ _ h => h) (Or.inl ⟨by rfl, ?_⟩) ?_ ?_
    rotate_left
    ·intro w'
     go_simp
     with_reducible rfl
    rotate_left
    ·simp only [Act.put, List.setIfInBounds_toArray, List.set_cons_zero, List.set_cons_succ, i64_w, i32_w]
     rfl
    refine pure_ (i := 2) (N := some 20) (v := ?_) (a' := ?_) #[true, true, true, false, false, false, false, false, false, false, false, false] rfl rfl (any_of HT_.out (by kernel_rfl)) (fun _ _ _ h => h) (Or.inl ⟨by rfl, ?_⟩) ?_ ?_
    rotate_left
    ·intro w'
     go_simp
     with_reducible rfl
    rotate_left
    ·simp only [Act.put, List.setIfInBounds_toArray, List.set_cons_zero, List.set_cons_succ, i64_w, i32_w]
     rfl
    refine pure_ (i := 3) (N := some 21) (v := undef) (a' := ?_) #[true, true, true, true, false, false, false, false, false, false, false, false] rfl rfl (any_of HT_.out (by kernel_rfl)) (fun _ _ _ h => h) (Or.inr ⟨by rfl, rfl⟩) ?_ ?_
    rotate_left
    ·simp only [Act.put, List.setIfInBounds_toArray, List.set_cons_zero, List.set_cons_succ, i64_w, i32_w]
     rfl
    refine pure_ (i := 4) (N := some 22) (v := undef) (a' := ?_) #[true, true, true, true, true, false, false, false, false, false, false, false] rfl rfl (any_of HT_.out (by kernel_rfl)) (fun _ _ _ h => h) (Or.inr ⟨by rfl, rfl⟩) ?_ ?_
    rotate_left
    ·simp only [Act.put, List.setIfInBounds_toArray, List.set_cons_zero, List.set_cons_succ, i64_w, i32_w]
     rfl
    refine pure_ (i := 5) (N := some 23) (v := undef) (a' := ?_) #[true, true, true, true, true, true, false, false, false, false, false, false] rfl rfl (any_of HT_.out (by kernel_rfl)) (fun _ _ _ h => h) (Or.inr ⟨by rfl, rfl⟩) ?_ ?_
    rotate_left
    ·simp only [Act.put, List.setIfInBounds_toArray, List.set_cons_zero, List.set_cons_succ, i64_w, i32_w]
     rfl
    refine pure_ (i := 6) (N := some 24) (v := undef) (a' := ?_) #[true, true, true, true, true, true, true, false, false, false, false, false] rfl rfl (any_of HT_.out (by kernel_rfl)) (fun _ _ _ h => h) (Or.inr ⟨by rfl, rfl⟩) ?_ ?_
    rotate_left
    ·simp only [Act.put, List.setIfInBounds_toArray, List.set_cons_zero, List.set_cons_succ, i64_w, i32_w]
     rfl
    refine pure_ (i := 7) (N := some 25) (v := undef) (a' := ?_) #[true, true, true, true, true, true, true, true, false, false, false, false] rfl rfl (any_of HT_.out (by kernel_rfl)) (fun _ _ _ h => h) (Or.inr ⟨by rfl, rfl⟩) ?_ ?_
    rotate_left
    ·simp only [Act.put, List.setIfInBounds_toArray, List.set_cons_zero, List.set_cons_succ, i64_w, i32_w]
     rfl
    refine pure_ (i := 8) (N := some 26) (v := undef) (a' := ?_) #[true, true, true, true, true, true, true, true, true, false, false, false] rfl rfl (any_of HT_.out (by kernel_rfl)) (fun _ _ _ h => h) (Or.inr ⟨by rfl, rfl⟩) ?_ ?_
    rotate_left
    ·simp only [Act.put, List.setIfInBounds_toArray, List.set_cons_zero, List.set_cons_succ, i64_w, i32_w]
     rfl
    refine pure_ (i := 9) (N := some 27) (v := undef) (a' := ?_) #[true, true, true, true, true, true, true, true, true, true, false, false] rfl rfl (any_of HT_.out (by kernel_rfl)) (fun _ _ _ h => h) (Or.inr ⟨by rfl, rfl⟩) ?_ ?_
    rotate_left
    ·simp only [Act.put, List.setIfInBounds_toArray, List.set_cons_zero, List.set_cons_succ, i64_w, i32_w]
     rfl
    refine pure_ (i := 10) (N := some 28) (v := undef) (a' := ?_) #[true, true, true, true, true, true, true, true, true, true, true, false] rfl rfl (any_of HT_.out (by kernel_rfl)) (fun _ _ _ h => h) (Or.inr ⟨by rfl, rfl⟩) ?_ ?_
    rotate_left
    ·simp only [Act.put, List.setIfInBounds_toArray, List.set_cons_zero, List.set_cons_succ, i64_w, i32_w]
     rfl
    refine pure_ (i := 11) (N := some 29) (v := ?_) (a' := ?_) #[true, true, true, true, true, true, true, true, true, true, true, true] rfl rfl (any_of HT_.out (by kernel_rfl)) (fun _ _ _ h => h) (Or.inl ⟨by rfl, ?_⟩) ?_ ?_
    rotate_left
    ·intro w'
     go_simp
     with_reducible rfl
    rotate_left
    ·simp only [Act.put, List.setIfInBounds_toArray, List.set_cons_zero, List.set_cons_succ, i64_w, i32_w]
     rfl
    refine done_ (done_of HT_.out (by kernel_rfl)) ?_
    try go_wp2
    go_meet
    case rel => exact ⟨_, (false), (by first | rfl | (simp; done) | (simp [*]; done)), H', ⟨by first | omega | exact Nat.le_refl _⟩, ⟨by repeat (first | (with_reducible first | exact HB.out | apply below_alloc | apply pw_below_drewN | apply below_drew1) | exact HB.out | exact Below.refl _ _)⟩, hHeld.1⟩
  case rest =>
   clear HC5
   try clear c1
   try clear p1
   try clear q1
   try clear hx1
   try clear c2
   try clear p2
   try clear c4
   try clear c4b0
   try clear c4b1
   try clear p6
   try clear c7
   try clear c7b0
   try clear c7b1
   try clear c9
   try clear c9b0
   try clear c10
   try clear c10b0
   try clear p12
   try clear q12
   try clear hx12
   try clear hx129_0
   try clear hx129_1
   try clear hx129_10
   try clear hx129_11
   try clear hx129_2
   try clear hx129_3
   try clear hx129_4
   try clear hx129_5
   try clear hx129_6
   try clear hx129_7
   try clear hx129_8
   try clear hx129_9
   try clear p129
   try clear q129
   obtain ⟨kq, x29_4, rfl, HA, HJ4, HB, hu1⟩ := hcut
   cases kq with
   | zero => exact absurd HA.out (by simp [board_Ack.j0])
   | succ kj4 =>
    have H := HA.out
    clear HA
    simp only [board_Ack.j0] at H
    by_cases c13 : x29_4 = true
    ·subst c13
     have H1 : (some (([] : List (S38)), ([] : List (S38)), 2)) = some (r1, r2, r3) := by rw [if_pos rfl] at H; exact H
     clear H
     have H := H1
     clear H1
     simp only [Option.some.injEq, Prod.mk.injEq] at H
     obtain ⟨rfl, rfl, rfl⟩ := H
     go_wp2
     go_ret3
     exact ⟨_, _, by first | rfl | (simp [errW_none, errW_some] <;> rfl) | (simp [*, errW_none, errW_some] <;> rfl), by first | exact Kd.R_nil _ _ _ _ _ | exact Kd.N_nil _ _ _ _ _ | exact Kd.V_nil _ _ _ _ _ | exact Kd.Q_nil _ _ _ _ _ | exact Kd.S_nil _ _ _ _ _, by first | exact Kd.R_nil _ _ _ _ _ | exact Kd.N_nil _ _ _ _ _ | exact Kd.V_nil _ _ _ _ _ | exact Kd.Q_nil _ _ _ _ _ | exact Kd.S_nil _ _ _ _ _, by repeat (first | (with_reducible first | exact HB.out | apply below_alloc | apply pw_below_drewN | apply below_drew1) | exact HB.out | exact Below.refl _ _)⟩
    ·replace c13 := Bool.eq_false_iff.mpr c13
     subst c13
     have H1 : ((api_Rec_31.f kj4 l0 a1).bind fun bt130 => (if (bt130.2.length : Int) > 0 then (if 0 < (bt130.2.length : Int) then (some ((bt130.2.set (0 : Int).toNat (⟨mx ((rd_T38 bt130.2 0).f0) a1, (rd_T38 bt130.2 0).f1, (rd_T38 bt130.2 0).f2, (rd_T38 bt130.2 0).f3, (rd_T38 bt130.2 0).f4, (rd_T38 bt130.2 0).f5, (rd_T38 bt130.2 0).f6, (rd_T38 bt130.2 0).f7, (rd_T38 bt130.2 0).f8, (rd_T38 bt130.2 0).f9, (rd_T38 bt130.2 0).f10, (rd_T38 bt130.2 0).f11⟩ : S38)), bt130.1, 0)) else (none)) else (some (bt130.2, bt130.1, 0)))) = some (r1, r2, r3) := by rw [if_neg (show ¬ (false = true) by decide)] at H; exact H
     clear H
     have H := H1
     clear H1
     replace H := Option.bind_eq_some_iff.mp H
     obtain ⟨⟨t130, t131⟩, A140, H⟩ := H
     replace H : (if (t131.length : Int) > 0 then (if 0 < (t131.length : Int) then (some ((t131.set (0 : Int).toNat (⟨mx ((rd_T38 t131 0).f0) a1, (rd_T38 t131 0).f1, (rd_T38 t131 0).f2, (rd_T38 t131 0).f3, (rd_T38 t131 0).f4, (rd_T38 t131 0).f5, (rd_T38 t131 0).f6, (rd_T38 t131 0).f7, (rd_T38 t131 0).f8, (rd_T38 t131 0).f9, (rd_T38 t131 0).f10, (rd_T38 t131 0).f11⟩ : S38)), t130, 0)) else (none)) else (some (t131, t130, 0))) = some (r1, r2, r3) := H
     have A14 := Aside0.mk A140
     clear A140
     by_cases c15 : (t131.length : Int) > 0
     ·rw [if_pos c15] at H
      have c15b0 : decide (0 < (t131.length : Int)) = true := decide_eq_true c15
      have c15b1 : decide (0 < t131.length) = true := decide_eq_true (by omega)
      clear c15
      by_cases c16 : 0 < (t131.length : Int)
      ·rw [if_pos c16] at H
       have c16b0 : decide (0 < (t131.length : Int)) = true := decide_eq_true c16
       have c16b1 : decide (0 < t131.length) = true := decide_eq_true (by omega)
       clear c16
       obtain ⟨ji17, hji17⟩ : ∃ j_ : Int, (mx ((rd_T38 t131 0).f0) a1) = j_ := ⟨_, rfl⟩
       replace H : (some ((t131.set (0 : Int).toNat (⟨ji17, (rd_T38 t131 0).f1, (rd_T38 t131 0).f2, (rd_T38 t131 0).f3, (rd_T38 t131 0).f4, (rd_T38 t131 0).f5, (rd_T38 t131 0).f6, (rd_T38 t131 0).f7, (rd_T38 t131 0).f8, (rd_T38 t131 0).f9, (rd_T38 t131 0).f10, (rd_T38 t131 0).f11⟩ : S38)), t130, 0)) = some (r1, r2, r3) := by first | (rw [hji17] at H; exact H) | (simp only [hji17] at H ⊢; exact H)
       (try rw [hji17] at A14)
       have hji17_ : (if ((rd_T38 t131 0).f0) < a1 then a1 else ((rd_T38 t131 0).f0)) = ji17 := hji17
       obtain ⟨y137, hy137⟩ : ∃ y_ : List (S38), y_ = (t131.set (0 : Int).toNat (⟨ji17, (rd_T38 t131 0).f1, (rd_T38 t131 0).f2, (rd_T38 t131 0).f3, (rd_T38 t131 0).f4, (rd_T38 t131 0).f5, (rd_T38 t131 0).f6, (rd_T38 t131 0).f7, (rd_T38 t131 0).f8, (rd_T38 t131 0).f9, (rd_T38 t131 0).f10, (rd_T38 t131 0).f11⟩ : S38)) := ⟨_, rfl⟩
       replace H : (some (y137, t130, 0)) = some (r1, r2, r3) := by first | (rw [hy137]; with_reducible exact H) | (have H2_ := (Option.bind_some _ _).symm.trans H; rw [hy137]; with_reducible exact H2_) | (have H2_ := (Option.bind_some _ _).symm.trans H; with_reducible exact H2_) | with_reducible exact H | (rw [hy137]; exact H) | exact H
       have Ny137 := Aside0.mk hy137
       clear hy137
       simp only [Option.some.injEq, Prod.mk.injEq] at H
       obtain ⟨rfl, rfl, rfl⟩ := H
       try go_wp2_with (first | ((with_reducible refine gate_callee (f := 31) rfl ?_); refine goesL_ (some 33) rfl rfl Try.func31 (by kernel_rfl) rfl #[.slice A0 l0.length c0, .func (.func 32) #[] #[.pointer (some ⟨w.heap.size, 0, none⟩)]] rfl (by (try simp only [List.map_toArray, List.map_cons, List.map_nil]); first | done | rfl | (simp only [List.length_drop, List.length_take]; rfl)) ?_; (with_reducible refine (api_Rec_31.calls kj4 _ _ l0 a1 t130 t131 _ w.heap.size hu1 ?side1 ?side2 A14.out).mono ?_); (case side1 => repeat (first | exact (Kd.C_below HR0.out HB.out) | exact HR0.out | (with_reducible refine Kd.C_alloc ?_ _) | (with_reducible refine Kd.C_drewN ?_ _) | (with_reducible refine Kd.C_drew ?_))); (case side2 => exact HC0.out); rintro e w19 ⟨v132, v134, rfl, ho0, ho1, hb⟩; have hu2 := (hb.cell (p := ⟨w.heap.size, 0, none⟩) (World.block_lt_of_cell? _ _ hu1)).trans hu1; refine ⟨_, rfl, ?_⟩; have n0_ := Aside0.mk (Kd.R_lower ho0 (below_size (by repeat (first | (with_reducible first | exact HB.out | apply below_alloc | apply pw_below_drewN | apply below_drew1) | exact HB.out | exact Below.refl _ _)))); have n1_ := Aside0.mk (Kd.R_lower ho1 (below_size (by repeat (first | (with_reducible first | exact HB.out | apply below_alloc | apply pw_below_drewN | apply below_drew1) | exact HB.out | exact Below.refl _ _)))); have n2_ := Aside0.mk (below_step (by repeat (first | (with_reducible first | exact HB.out | apply below_alloc | apply pw_below_drewN | apply below_drew1) | exact HB.out | exact Below.refl _ _)) hb); clear HB; have HO133 := n0_; have HO135 := n1_; have HB := n2_; clear n0_ n1_ n2_; (try clear hb); (try clear hb2); (try clear hk); (try clear hi); (try clear ho0); (try clear ho1); obtain ⟨Ao20, co20, eo20⟩ := Kd.R_slice HO135.out; subst eo20))
       have n0_ := Aside0.mk (Kd.R_drew HO133.out)
       have n1_ := Aside0.mk (Kd.R_drew HO135.out)
       have n2_ := Aside0.mk (below_drew1 HB.out)
       clear HO133
       clear HO135
       clear HB
       have HO133 := n0_
       have HO135 := n1_
       have HB := n2_
       clear n0_ n1_ n2_
       have p136 : 0 ≤ (0 : Int) := (by omega)
       have q136 : 0 < (t131.length : Int) := of_decide_eq_true (by first | (with_reducible assumption) | assumption)
       obtain ⟨ad136, e136, hx136_0, hx136_1, hx136_2, hx136_3, hx136_4, hx136_5, hx136_6, hx136_7, hx136_8, hx136_9, hx136_10, hx136_11⟩ := at_T38 (Kd.R_reads' HO135.out).2.2 0 p136 q136
       cases e136
       have qi136 : (0 < t131.length) = True := eq_true (by omega)
       (try rw [show ((0 : Int)).toNat = 0 from rfl] at hx136_0)
       (try rw [show 0 * 12 = 0 from rfl] at hx136_0)
       (try rw [Addr.add_zero'] at hx136_0)
       (try rw [show ((0 : Int)).toNat = 0 from rfl] at hx136_1)
       (try rw [show 0 * 12 = 0 from rfl] at hx136_1)
       (try rw [Addr.add_zero'] at hx136_1)
       (try rw [show ((0 : Int)).toNat = 0 from rfl] at hx136_2)
       (try rw [show 0 * 12 = 0 from rfl] at hx136_2)
       (try rw [Addr.add_zero'] at hx136_2)
       (try rw [show ((0 : Int)).toNat = 0 from rfl] at hx136_3)
       (try rw [show 0 * 12 = 0 from rfl] at hx136_3)
       (try rw [Addr.add_zero'] at hx136_3)
       (try rw [show ((0 : Int)).toNat = 0 from rfl] at hx136_4)
       (try rw [show 0 * 12 = 0 from rfl] at hx136_4)
       (try rw [Addr.add_zero'] at hx136_4)
       (try rw [show ((0 : Int)).toNat = 0 from rfl] at hx136_5)
       (try rw [show 0 * 12 = 0 from rfl] at hx136_5)
       (try rw [Addr.add_zero'] at hx136_5)
       (try rw [show ((0 : Int)).toNat = 0 from rfl] at hx136_6)
       (try rw [show 0 * 12 = 0 from rfl] at hx136_6)
       (try rw [Addr.add_zero'] at hx136_6)
       (try rw [show ((0 : Int)).toNat = 0 from rfl] at hx136_7)
       (try rw [show 0 * 12 = 0 from rfl] at hx136_7)
       (try rw [Addr.add_zero'] at hx136_7)
       (try rw [show ((0 : Int)).toNat = 0 from rfl] at hx136_8)
       (try rw [show 0 * 12 = 0 from rfl] at hx136_8)
       (try rw [Addr.add_zero'] at hx136_8)
       (try rw [show ((0 : Int)).toNat = 0 from rfl] at hx136_9)
       (try rw [show 0 * 12 = 0 from rfl] at hx136_9)
       (try rw [Addr.add_zero'] at hx136_9)
       (try rw [show ((0 : Int)).toNat = 0 from rfl] at hx136_10)
       (try rw [show 0 * 12 = 0 from rfl] at hx136_10)
       (try rw [Addr.add_zero'] at hx136_10)
       (try rw [show ((0 : Int)).toNat = 0 from rfl] at hx136_11)
       (try rw [show 0 * 12 = 0 from rfl] at hx136_11)
       (try rw [Addr.add_zero'] at hx136_11)
       replace p136 := eq_true p136
       replace q136 := eq_true q136
       have p18 : 0 ≤ (0 : Int) := (by omega)
       have q18 : (0 : Int) < ((t131.length : Int) : Int) := of_decide_eq_true (by first | (with_reducible assumption) | assumption)
       have qi18 : (0 < t131.length) = True := eq_true (by omega)
       obtain ⟨go18, co18, eo18, gb18, gl18, cl18, HG18⟩ := Kd.R_form HO135.out (by omega)
       (first | cases eo18 | (injection eo18 with ea_ en_ ec_; (first | subst ea_ | (injection ea_ with ea_; subst ea_)); subst ec_; clear en_))
       have GB18 := Aside0.mk gb18
       have GG18 := Aside0.mk HG18
       clear gb18 gl18 HG18
       (first | simp only [add_plain] at hx136_0 | skip)
       (first | simp only [add_plain] at hx136_1 | skip)
       (first | simp only [add_plain] at hx136_2 | skip)
       (first | simp only [add_plain] at hx136_3 | skip)
       (first | simp only [add_plain] at hx136_4 | skip)
       (first | simp only [add_plain] at hx136_5 | skip)
       (first | simp only [add_plain] at hx136_6 | skip)
       (first | simp only [add_plain] at hx136_7 | skip)
       (first | simp only [add_plain] at hx136_8 | skip)
       (first | simp only [add_plain] at hx136_9 | skip)
       (first | simp only [add_plain] at hx136_10 | skip)
       (first | simp only [add_plain] at hx136_11 | skip)
       obtain ⟨ce18, hcl18, hM18, hcc18, hfr18⟩ := Kd.R_elem HO135.out z38 (0 : Int) p18 q18
       obtain rfl := k38_openM hM18
       have hx18_0 : World.cell? _ ⟨go18, (0 : Int).toNat * 12, none⟩ = some (.int .i64 ((rd_T38 t131 0).f0)) := hcc18 0 _ rfl
       have hx18_1 : World.cell? _ ⟨go18, (0 : Int).toNat * 12 + 1, none⟩ = some (.int .i64 ((rd_T38 t131 0).f1)) := hcc18 1 _ rfl
       have hx18_2 : World.cell? _ ⟨go18, (0 : Int).toNat * 12 + 2, none⟩ = some (.bool ((rd_T38 t131 0).f2)) := hcc18 2 _ rfl
       have hx18_3 : World.cell? _ ⟨go18, (0 : Int).toNat * 12 + 3, none⟩ = some (.int .i64 ((rd_T38 t131 0).f3)) := hcc18 3 _ rfl
       have hx18_4 : World.cell? _ ⟨go18, (0 : Int).toNat * 12 + 4, none⟩ = some (.int .i64 ((rd_T38 t131 0).f4)) := hcc18 4 _ rfl
       have hx18_5 : World.cell? _ ⟨go18, (0 : Int).toNat * 12 + 5, none⟩ = some (.bool ((rd_T38 t131 0).f5)) := hcc18 5 _ rfl
       have hx18_6 : World.cell? _ ⟨go18, (0 : Int).toNat * 12 + 6, none⟩ = some (.bool ((rd_T38 t131 0).f6)) := hcc18 6 _ rfl
       have hx18_7 : World.cell? _ ⟨go18, (0 : Int).toNat * 12 + 7, none⟩ = some (.bool ((rd_T38 t131 0).f7)) := hcc18 7 _ rfl
       have hx18_8 : World.cell? _ ⟨go18, (0 : Int).toNat * 12 + 8, none⟩ = some (.int .i64 ((rd_T38 t131 0).f8)) := hcc18 8 _ rfl
       have hx18_9 : World.cell? _ ⟨go18, (0 : Int).toNat * 12 + 9, none⟩ = some (.int .i64 ((rd_T38 t131 0).f9)) := hcc18 9 _ rfl
       have hx18_10 : World.cell? _ ⟨go18, (0 : Int).toNat * 12 + 10, none⟩ = some (.int .i64 ((rd_T38 t131 0).f10)) := hcc18 10 _ rfl
       have hx18_11 : World.cell? _ ⟨go18, (0 : Int).toNat * 12 + 11, none⟩ = some (.bool ((rd_T38 t131 0).f11)) := hcc18 11 _ rfl
       have hf18_0 : World.frozen? _ ⟨go18, (0 : Int).toNat * 12, none⟩ = false := hfr18 0
       have hf18_1 : World.frozen? _ ⟨go18, (0 : Int).toNat * 12 + 1, none⟩ = false := hfr18 1
       have hf18_2 : World.frozen? _ ⟨go18, (0 : Int).toNat * 12 + 2, none⟩ = false := hfr18 2
       have hf18_3 : World.frozen? _ ⟨go18, (0 : Int).toNat * 12 + 3, none⟩ = false := hfr18 3
       have hf18_4 : World.frozen? _ ⟨go18, (0 : Int).toNat * 12 + 4, none⟩ = false := hfr18 4
       have hf18_5 : World.frozen? _ ⟨go18, (0 : Int).toNat * 12 + 5, none⟩ = false := hfr18 5
       have hf18_6 : World.frozen? _ ⟨go18, (0 : Int).toNat * 12 + 6, none⟩ = false := hfr18 6
       have hf18_7 : World.frozen? _ ⟨go18, (0 : Int).toNat * 12 + 7, none⟩ = false := hfr18 7
       have hf18_8 : World.frozen? _ ⟨go18, (0 : Int).toNat * 12 + 8, none⟩ = false := hfr18 8
       have hf18_9 : World.frozen? _ ⟨go18, (0 : Int).toNat * 12 + 9, none⟩ = false := hfr18 9
       have hf18_10 : World.frozen? _ ⟨go18, (0 : Int).toNat * 12 + 10, none⟩ = false := hfr18 10
       have hf18_11 : World.frozen? _ ⟨go18, (0 : Int).toNat * 12 + 11, none⟩ = false := hfr18 11
       clear hcl18 hcc18 hfr18 hM18
       (try rw [show ((0 : Int)).toNat = 0 from rfl] at hx18_0)
       (try simp only [Nat.reduceMul, Nat.zero_mul, Nat.zero_add, Nat.reduceAdd] at hx18_0)
       (try rw [show ((0 : Int)).toNat = 0 from rfl] at hf18_0)
       (try simp only [Nat.reduceMul, Nat.zero_mul, Nat.zero_add, Nat.reduceAdd] at hf18_0)
       (try rw [show ((0 : Int)).toNat = 0 from rfl] at hx18_1)
       (try simp only [Nat.reduceMul, Nat.zero_mul, Nat.zero_add, Nat.reduceAdd] at hx18_1)
       (try rw [show ((0 : Int)).toNat = 0 from rfl] at hf18_1)
       (try simp only [Nat.reduceMul, Nat.zero_mul, Nat.zero_add, Nat.reduceAdd] at hf18_1)
       (try rw [show ((0 : Int)).toNat = 0 from rfl] at hx18_2)
       (try simp only [Nat.reduceMul, Nat.zero_mul, Nat.zero_add, Nat.reduceAdd] at hx18_2)
       (try rw [show ((0 : Int)).toNat = 0 from rfl] at hf18_2)
       (try simp only [Nat.reduceMul, Nat.zero_mul, Nat.zero_add, Nat.reduceAdd] at hf18_2)
       (try rw [show ((0 : Int)).toNat = 0 from rfl] at hx18_3)
       (try simp only [Nat.reduceMul, Nat.zero_mul, Nat.zero_add, Nat.reduceAdd] at hx18_3)
       (try rw [show ((0 : Int)).toNat = 0 from rfl] at hf18_3)
       (try simp only [Nat.reduceMul, Nat.zero_mul, Nat.zero_add, Nat.reduceAdd] at hf18_3)
       (try rw [show ((0 : Int)).toNat = 0 from rfl] at hx18_4)
       (try simp only [Nat.reduceMul, Nat.zero_mul, Nat.zero_add, Nat.reduceAdd] at hx18_4)
       (try rw [show ((0 : Int)).toNat = 0 from rfl] at hf18_4)
       (try simp only [Nat.reduceMul, Nat.zero_mul, Nat.zero_add, Nat.reduceAdd] at hf18_4)
       (try rw [show ((0 : Int)).toNat = 0 from rfl] at hx18_5)
       (try simp only [Nat.reduceMul, Nat.zero_mul, Nat.zero_add, Nat.reduceAdd] at hx18_5)
       (try rw [show ((0 : Int)).toNat = 0 from rfl] at hf18_5)
       (try simp only [Nat.reduceMul, Nat.zero_mul, Nat.zero_add, Nat.reduceAdd] at hf18_5)
       (try rw [show ((0 : Int)).toNat = 0 from rfl] at hx18_6)
       (try simp only [Nat.reduceMul, Nat.zero_mul, Nat.zero_add, Nat.reduceAdd] at hx18_6)
       (try rw [show ((0 : Int)).toNat = 0 from rfl] at hf18_6)
       (try simp only [Nat.reduceMul, Nat.zero_mul, Nat.zero_add, Nat.reduceAdd] at hf18_6)
       (try rw [show ((0 : Int)).toNat = 0 from rfl] at hx18_7)
       (try simp only [Nat.reduceMul, Nat.zero_mul, Nat.zero_add, Nat.reduceAdd] at hx18_7)
       (try rw [show ((0 : Int)).toNat = 0 from rfl] at hf18_7)
       (try simp only [Nat.reduceMul, Nat.zero_mul, Nat.zero_add, Nat.reduceAdd] at hf18_7)
       (try rw [show ((0 : Int)).toNat = 0 from rfl] at hx18_8)
       (try simp only [Nat.reduceMul, Nat.zero_mul, Nat.zero_add, Nat.reduceAdd] at hx18_8)
       (try rw [show ((0 : Int)).toNat = 0 from rfl] at hf18_8)
       (try simp only [Nat.reduceMul, Nat.zero_mul, Nat.zero_add, Nat.reduceAdd] at hf18_8)
       (try rw [show ((0 : Int)).toNat = 0 from rfl] at hx18_9)
       (try simp only [Nat.reduceMul, Nat.zero_mul, Nat.zero_add, Nat.reduceAdd] at hx18_9)
       (try rw [show ((0 : Int)).toNat = 0 from rfl] at hf18_9)
       (try simp only [Nat.reduceMul, Nat.zero_mul, Nat.zero_add, Nat.reduceAdd] at hf18_9)
       (try rw [show ((0 : Int)).toNat = 0 from rfl] at hx18_10)
       (try simp only [Nat.reduceMul, Nat.zero_mul, Nat.zero_add, Nat.reduceAdd] at hx18_10)
       (try rw [show ((0 : Int)).toNat = 0 from rfl] at hf18_10)
       (try simp only [Nat.reduceMul, Nat.zero_mul, Nat.zero_add, Nat.reduceAdd] at hf18_10)
       (try rw [show ((0 : Int)).toNat = 0 from rfl] at hx18_11)
       (try simp only [Nat.reduceMul, Nat.zero_mul, Nat.zero_add, Nat.reduceAdd] at hx18_11)
       (try rw [show ((0 : Int)).toNat = 0 from rfl] at hf18_11)
       (try simp only [Nat.reduceMul, Nat.zero_mul, Nat.zero_add, Nat.reduceAdd] at hf18_11)
       replace p18 := eq_true p18
       replace q18 := eq_true q18
       obtain ⟨ce22, hcl22, hM22, hcc22, hfr22⟩ := Kd.R_elem HO135.out z38 (0 : Int) (by omega) (by have h_ : (0 : Int) < ((t131.length : Int) : Int) := of_decide_eq_true (by first | (with_reducible assumption) | assumption); first | exact h_ | (have e_ := (Kd.R_reads' HO135.out).1; omega) | simpa using h_)
       obtain rfl := k38_openM hM22
       have HP22 := (Kd.R_seg HO135.out (0 : Int) (by omega) (by have h_ : (0 : Int) < ((t131.length : Int) : Int) := of_decide_eq_true (by first | (with_reducible assumption) | assumption); first | exact h_ | (have e_ := (Kd.R_reads' HO135.out).1; omega) | simpa using h_) (seg := [.int .i64 ji17]) (j := 0) hcl22 hcc22 (show 1 ≤ 12 from by decide) (x' := (⟨ji17, (rd_T38 t131 0).f1, (rd_T38 t131 0).f2, (rd_T38 t131 0).f3, (rd_T38 t131 0).f4, (rd_T38 t131 0).f5, (rd_T38 t131 0).f6, (rd_T38 t131 0).f7, (rd_T38 t131 0).f8, (rd_T38 t131 0).f9, (rd_T38 t131 0).f10, (rd_T38 t131 0).f11⟩ : S38)) (k38_mkM _ _ _ (⟨ji17, (rd_T38 t131 0).f1, (rd_T38 t131 0).f2, (rd_T38 t131 0).f3, (rd_T38 t131 0).f4, (rd_T38 t131 0).f5, (rd_T38 t131 0).f6, (rd_T38 t131 0).f7, (rd_T38 t131 0).f8, (rd_T38 t131 0).f9, (rd_T38 t131 0).f10, (rd_T38 t131 0).f11⟩ : S38) ) (fun _ hk => hk)).1
       rw [← Ny137.out] at HP22
       have HQ22 := Aside0.mk HP22
       clear hcl22 hcc22 hfr22 hM22 HP22
       refine start_ (n := 10) (S := fun w' => w'.cell? ⟨w.heap.size, 0, none⟩ = some (.int .i64 a1) ∧ w'.cell? ⟨go18, 0, none⟩ = some (.int .i64 ((rd_T38 t131 0).f0)) ∧ w'.cell? ⟨go18, 1, none⟩ = some (.int .i64 ((rd_T38 t131 0).f1)) ∧ w'.cell? ⟨go18, 2, none⟩ = some (.bool ((rd_T38 t131 0).f2)) ∧ w'.cell? ⟨go18, 3, none⟩ = some (.int .i64 ((rd_T38 t131 0).f3)) ∧ w'.cell? ⟨go18, 4, none⟩ = some (.int .i64 ((rd_T38 t131 0).f4)) ∧ w'.cell? ⟨go18, 5, none⟩ = some (.bool ((rd_T38 t131 0).f5)) ∧ w'.cell? ⟨go18, 6, none⟩ = some (.bool ((rd_T38 t131 0).f6)) ∧ w'.cell? ⟨go18, 7, none⟩ = some (.bool ((rd_T38 t131 0).f7)) ∧ w'.cell? ⟨go18, 8, none⟩ = some (.int .i64 ((rd_T38 t131 0).f8)) ∧ w'.cell? ⟨go18, 9, none⟩ = some (.int .i64 ((rd_T38 t131 0).f9)) ∧ w'.cell? ⟨go18, 10, none⟩ = some (.int .i64 ((rd_T38 t131 0).f10)) ∧ w'.cell? ⟨go18, 11, none⟩ = some (.bool ((rd_T38 t131 0).f11))) (ds := [9]) #[false, false, false, false, false, false, false, false, false, false] (by kernel_rfl) rfl rfl ⟨hu2, hx136_0, hx136_1, hx136_2, hx136_3, hx136_4, hx136_5, hx136_6, hx136_7, hx136_8, hx136_9, hx136_10, hx136_11⟩ (fun hHeld => ?_); refine with_tabW board_Ack.tab9 board_Ack.bits9 (fun HT_ HW_ => ?_)
       generalize w19.drew = w21 at HO133 HO135 HB GG18 HQ22 hf18_0 hf18_1 hf18_10 hf18_11 hf18_2 hf18_3 hf18_4 hf18_5 hf18_6 hf18_7 hf18_8 hf18_9 hx136_0 hx136_1 hx136_10 hx136_11 hx136_2 hx136_3 hx136_4 hx136_5 hx136_6 hx136_7 hx136_8 hx136_9 hx18_0 hx18_1 hx18_10 hx18_11 hx18_2 hx18_3 hx18_4 hx18_5 hx18_6 hx18_7 hx18_8 hx18_9 hHeld ⊢
       refine pure_ (i := 0) (N := some 39) (v := ?_) (a' := ?_) #[true, false, false, false, false, false, false, false, false, false] rfl rfl (any_of HT_.out (by kernel_rfl)) (fun _ _ _ h => h) (Or.inl ⟨by rfl, ?_⟩) ?_ ?_
       rotate_left
       ·intro w'
        go_simp
        with_reducible rfl
       rotate_left
       ·simp only [Act.put, List.setIfInBounds_toArray, List.set_cons_zero, List.set_cons_succ, i64_w, i32_w]
        rfl
       refine pure_ (i := 1) (N := some 40) (v := ?_) (a' := ?_) #[true, true, false, false, false, false, false, false, false, false] rfl rfl (any_of HT_.out (by kernel_rfl)) (fun _ _ _ h => h) (Or.inl ⟨by rfl, ?_⟩) ?_ ?_
       rotate_left
       ·intro w'
        go_simp
        with_reducible rfl
       rotate_left
       ·simp only [Act.put, List.setIfInBounds_toArray, List.set_cons_zero, List.set_cons_succ, i64_w, i32_w]
        rfl
       refine pure_ (i := 2) (N := some 41) (v := ?_) (a' := ?_) #[true, true, true, false, false, false, false, false, false, false] rfl rfl (any_of HT_.out (by kernel_rfl)) (fun _ _ _ h => h) (Or.inl ⟨by rfl, ?_⟩) ?_ ?_
       rotate_left
       ·intro w'
        go_simp
        with_reducible rfl
       rotate_left
       ·simp only [Act.put, List.setIfInBounds_toArray, List.set_cons_zero, List.set_cons_succ, i64_w, i32_w]
        rfl
       refine pure_ (i := 3) (N := some 42) (v := ?_) (a' := ?_) #[true, true, true, true, false, false, false, false, false, false] rfl rfl (any_of HT_.out (by kernel_rfl)) (fun _ _ _ h => h) (Or.inl ⟨by rfl, ?_⟩) ?_ ?_
       rotate_left
       ·intro w'
        go_simp
        with_reducible rfl
       rotate_left
       ·simp only [Act.put, List.setIfInBounds_toArray, List.set_cons_zero, List.set_cons_succ, i64_w, i32_w]
        rfl
       refine take_ (i := 5) (N := some 44) (v := ?_) (a' := ?_) #[true, true, true, true, false, true, false, false, false, false] rfl rfl (take_ofW HT_.out HW_.out (by kernel_rfl)) (fun _ _ _ h => h) (Or.inl ⟨by rfl, ?_⟩) hHeld ?_ ?_
       rotate_left
       ·rintro w' ⟨su, _⟩
        go_simp
        with_reducible rfl
       rotate_left
       ·simp only [Act.put, List.setIfInBounds_toArray, List.set_cons_zero, List.set_cons_succ, i64_w, i32_w]
        rfl
       refine take_ (i := 4) (N := some 43) (v := ?_) (a' := ?_) #[true, true, true, true, true, true, false, false, false, false] rfl rfl (take_ofW HT_.out HW_.out (by kernel_rfl)) (fun _ _ _ h => h) (Or.inl ⟨by rfl, ?_⟩) hHeld ?_ ?_
       rotate_left
       ·rintro w' ⟨su, s0, s1, s2, s3, s4, s5, s6, s7, s8, s9, s10, s11⟩
        go_simp
        with_reducible rfl
       rotate_left
       ·simp only [Act.put, List.setIfInBounds_toArray, List.set_cons_zero, List.set_cons_succ, i64_w, i32_w]
        rfl
       refine pure_ (i := 6) (N := some 45) (v := ?_) (a' := ?_) #[true, true, true, true, true, true, true, false, false, false] rfl rfl (any_of HT_.out (by kernel_rfl)) (fun _ _ _ h => h) (Or.inl ⟨by rfl, ?_⟩) ?_ ?_
       rotate_left
       ·intro w'
        go_simp
        with_reducible rfl
       rotate_left
       ·simp only [Act.put, List.setIfInBounds_toArray, List.set_cons_zero, List.set_cons_succ, i64_w, i32_w]
        rfl
       refine pure_ (i := 7) (N := some 46) (v := ?_) (a' := ?_) #[true, true, true, true, true, true, true, true, false, false] rfl rfl (any_of HT_.out (by kernel_rfl)) (fun _ _ _ h => h) (Or.inl ⟨by rfl, ?_⟩) ?_ ?_
       rotate_left
       ·intro w'
        go_simp
        with_reducible rfl
       rotate_left
       ·simp only [Act.put, List.setIfInBounds_toArray, List.set_cons_zero, List.set_cons_succ, i64_w, i32_w]
        rfl
       refine pure_ (i := 8) (N := some 47) (v := ?_) (a' := ?_) #[true, true, true, true, true, true, true, true, true, false] rfl rfl (any_of HT_.out (by kernel_rfl)) (fun _ _ _ h => h) (Or.inl ⟨by rfl, ?_⟩) ?_ ?_
       rotate_left
       ·intro w'
        go_simp
        with_reducible rfl
       rotate_left
       ·simp only [Act.put, List.setIfInBounds_toArray, List.set_cons_zero, List.set_cons_succ, i64_w, i32_w]
        rfl
       refine last_ (i := 9) (N := none) #[true, true, true, true, true, true, true, true, true, true] rfl rfl (one_of HT_.out (by kernel_rfl)) (by decide) (fun K hK => ?_)
       refine skip_ (w1 := ?_) (by rfl) rfl ?_ ?_
       rotate_left
       ·go_simp
        rfl
       refine hK.out _ _ ?_
       clear hK K
       refine done_ (done_of HT_.out (by kernel_rfl)) ?_
       try go_wp2
       go_ret3
       exact ⟨_, _, by first | rfl | (simp [errW_none, errW_some] <;> rfl) | (simp only [← hji17]; first | rfl | (simp [errW_none, errW_some] <;> rfl)) | (simp [*, errW_none, errW_some] <;> rfl), by (with_reducible repeat (first | apply Kd.R_alloc | apply Kd.R_drewN | apply Kd.R_drew)); exact HQ22.out, by (with_reducible repeat (first | apply Kd.R_alloc | apply Kd.R_drewN | apply Kd.R_drew)); exact Kd.R_mono (Kd.R_far (p := ⟨go18, 0, none⟩) (Kd.R_mono HO133.out (fun k_ hk => (⟨hk, fun e_ => hk (by rw [e_]; rfl)⟩ : _ ∧ k_ ≠ go18))) (fun _ hk => hk.2) (.int .i64 ji17)) (fun _ hk => hk.1), by repeat (first | (with_reducible first | exact HB.out | apply below_alloc | apply pw_below_drewN | apply below_drew1 | refine below_set ?_ GB18.out) | exact HB.out)⟩
      ·rw [if_neg c16] at H
       exact absurd H (by simp)
     ·rw [if_neg c15] at H
      have c15b0 : decide (0 < (t131.length : Int)) = false := decide_eq_false c15
      have c15b1 : decide (0 < t131.length) = false := decide_eq_false (by omega)
      clear c15
      simp only [Option.some.injEq, Prod.mk.injEq] at H
      obtain ⟨rfl, rfl, rfl⟩ := H
      go_wp2_with (first | ((with_reducible refine gate_callee (f := 31) rfl ?_); refine goesL_ (some 33) rfl rfl Try.func31 (by kernel_rfl) rfl #[.slice A0 l0.length c0, .func (.func 32) #[] #[.pointer (some ⟨w.heap.size, 0, none⟩)]] rfl (by (try simp only [List.map_toArray, List.map_cons, List.map_nil]); first | done | rfl | (simp only [List.length_drop, List.length_take]; rfl)) ?_; (with_reducible refine (api_Rec_31.calls kj4 _ _ l0 a1 t130 t131 _ w.heap.size hu1 ?side1 ?side2 A14.out).mono ?_); (case side1 => repeat (first | exact (Kd.C_below HR0.out HB.out) | exact HR0.out | (with_reducible refine Kd.C_alloc ?_ _) | (with_reducible refine Kd.C_drewN ?_ _) | (with_reducible refine Kd.C_drew ?_))); (case side2 => exact HC0.out); rintro e w23 ⟨v132, v134, rfl, ho0, ho1, hb⟩; have hu2 := (hb.cell (p := ⟨w.heap.size, 0, none⟩) (World.block_lt_of_cell? _ _ hu1)).trans hu1; refine ⟨_, rfl, ?_⟩; have n0_ := Aside0.mk (Kd.R_lower ho0 (below_size (by repeat (first | (with_reducible first | exact HB.out | apply below_alloc | apply pw_below_drewN | apply below_drew1) | exact HB.out | exact Below.refl _ _)))); have n1_ := Aside0.mk (Kd.R_lower ho1 (below_size (by repeat (first | (with_reducible first | exact HB.out | apply below_alloc | apply pw_below_drewN | apply below_drew1) | exact HB.out | exact Below.refl _ _)))); have n2_ := Aside0.mk (below_step (by repeat (first | (with_reducible first | exact HB.out | apply below_alloc | apply pw_below_drewN | apply below_drew1) | exact HB.out | exact Below.refl _ _)) hb); clear HB; have HO133 := n0_; have HO135 := n1_; have HB := n2_; clear n0_ n1_ n2_; (try clear hb); (try clear hb2); (try clear hk); (try clear hi); (try clear ho0); (try clear ho1); obtain ⟨Ao24, co24, eo24⟩ := Kd.R_slice HO135.out; subst eo24))
      go_ret3
      exact ⟨_, _, by first | rfl | (simp [errW_none, errW_some] <;> rfl) | (simp [*, errW_none, errW_some] <;> rfl), by (with_reducible repeat (first | apply Kd.R_alloc | apply Kd.R_drewN | apply Kd.R_drew)); exact HO135.out, by (with_reducible repeat (first | apply Kd.R_alloc | apply Kd.R_drewN | apply Kd.R_drew)); exact HO133.out, by repeat (first | (with_reducible first | exact HB.out | apply below_alloc | apply pw_below_drewN | apply below_drew1) | exact HB.out | exact Below.refl _ _)⟩
 ·rw [if_neg c4] at H
  have c4b0 : (t128 == 0) = false := beq_eq_false_iff_ne.mpr c4
  have c4b1 : (t128 != 0) = true := bne_iff_ne.mpr c4
  simp only [Option.some.injEq, Prod.mk.injEq] at H
  obtain ⟨rfl, rfl, rfl⟩ := H
  go_enter Try.func9, Try.ntmps9
  go_wp2_with (first | ((with_reducible refine gate_callee (f := 23) rfl ?_); refine goesL_ (some 12) rfl rfl Try.func23 (by kernel_rfl) rfl #[.slice A0 l0.length c0] rfl (by (try simp only [List.map_toArray, List.map_cons, List.map_nil]); first | done | rfl | (simp only [List.length_drop, List.length_take]; rfl)) ?_; (with_reducible refine (board_Check.calls k _ _ l0 t128 _ ?side1 ?side2 A3.out).mono ?_); (case side1 => repeat (first | exact HR0.out | (with_reducible refine Kd.C_alloc ?_ _) | (with_reducible refine Kd.C_drewN ?_ _) | (with_reducible refine Kd.C_drew ?_))); (case side2 => exact HC0.out); rintro e w25 ⟨rfl, hb⟩; have hu0 : w25.cell? ⟨w.heap.size, 0, none⟩ = some (.int .i64 a1) := (hb.cell (p := ⟨w.heap.size, 0, none⟩) (by simp)).trans ((blk_cell (blk_new w (.cells #[.int .i64 a1] 3)) 0).trans rfl); refine ⟨_, rfl, ?_⟩; have n0_ := Aside0.mk (below_step (by repeat (first | (with_reducible first | exact HB.out | apply below_alloc | apply pw_below_drewN | apply below_drew1) | exact HB.out | exact Below.refl _ _)) hb); clear HB; have HB := n0_; clear n0_; (try clear hb); (try clear hb2); (try clear hk); (try clear hi)))
  go_ret3
  exact ⟨_, _, by first | rfl | (simp [errW_none, errW_some] <;> rfl) | (simp [*, errW_none, errW_some] <;> rfl), by first | exact Kd.R_nil _ _ _ _ _ | exact Kd.N_nil _ _ _ _ _ | exact Kd.V_nil _ _ _ _ _ | exact Kd.Q_nil _ _ _ _ _ | exact Kd.S_nil _ _ _ _ _, by first | exact Kd.R_nil _ _ _ _ _ | exact Kd.N_nil _ _ _ _ _ | exact Kd.V_nil _ _ _ _ _ | exact Kd.Q_nil _ _ _ _ _ | exact Kd.S_nil _ _ _ _ _, by repeat (first | (with_reducible first | exact HB.out | apply below_alloc | apply pw_below_drewN | apply below_drew1) | exact HB.out | exact Below.refl _ _)⟩

end Go.Proofs.Ytgpbighdegdlfaa.PA

-- Written for the seat Ytenpekakmkemeaa by this session's program hyb.py (the print's functions, with externals typed by hand).
import Derived.Test.YtenpekakmkemeaaPAx0
import Derived.Test.YtenpekakmkemeaaPAx8
import Derived.Test.YtenpekakmkemeaaPAx9
namespace Go.Proofs.Ytenpekakmkemeaa.PA
open Go.RowKit Go.Proofs.YtenpekakmkemeaaW.PrintWords Go.Proofs.YtenpekakmkemeaaW.PrintLast Go.Proofs.YtenpekakmkemeaaW.PrintMore
attribute [local go_sem] max2_int min2_int max_two min_two max_three min_three max_four min_four   -- for this text's walks alone
set_option linter.unusedVariables false
set_option linter.unusedSimpArgs false

/-! ### wire_Check: function 14 -/
mutual
def wire_Check.j0 : Nat → Bool → Int → Int → Int → Int → Int → Int → Int → Int → Int → Bool → Bool → Int → Int → List (S56) → List Int → Option (Int)
 | 0, _, _, _, _, _, _, _, _, _, _, _, _, _, _, _, _ => none
 | k + 1, x3, x297000, x297001, x297002, x297003, x297004, x297005, x297006, x297007, x297008, x297009, x297010, x297011, x297012, x297013, x297014 => if x3 = true then (if (x297013.length : Int) > 4 then (wire_Check.j1 k true) else (if (x297014.length : Int) > 65000 then (wire_Check.j1 k true) else (if x297010 = true then ((wire_Options.f k x297000 x297001 x297002 x297003 x297004 x297005 x297006 x297007 x297008 x297009 x297010 x297011 x297012 x297013 x297014).bind fun t301 => (wire_Check.j1 k (decide ((t301.length : Int) > 40)))) else (if (Go.bits .or .u32 x297011 x297012) = 0 then ((wire_Options.f k x297000 x297001 x297002 x297003 x297004 x297005 x297006 x297007 x297008 x297009 x297010 x297011 x297012 x297013 x297014).bind fun t304 => (wire_Check.j1 k (decide ((t304.length : Int) > 40)))) else (wire_Check.j1 k true))))) else (wire_Check.j1 k true)
def wire_Check.j1 : Nat → Bool → Option (Int)
 | 0, _ => none
 | k + 1, x74 => if x74 = true then (some 2) else (some 0)
end
def wire_Check.f (k : Nat) (a0_0 : Int) (a0_1 : Int) (a0_2 : Int) (a0_3 : Int) (a0_4 : Int) (a0_5 : Int) (a0_6 : Int) (a0_7 : Int) (a0_8 : Int) (a0_9 : Bool) (a0_10 : Bool) (a0_11 : Int) (a0_12 : Int) (l0_13 : List (S56)) (l0_14 : List Int) : Option (Int) := (wire_words.f k (([a0_0, a0_1, a0_5, a0_6, mx a0_7 0] : List Int))).bind fun t300 => (if t300 = true then (if a0_7 ≥ (-1) then (if a0_4 ≥ 0 then (if a0_4 ≤ 255 then (if a0_8 ≥ (-1) then (wire_Check.j0 k (decide (a0_8 ≤ 14)) a0_0 a0_1 a0_2 a0_3 a0_4 a0_5 a0_6 a0_7 a0_8 a0_9 a0_10 a0_11 a0_12 l0_13 l0_14) else (wire_Check.j0 k false a0_0 a0_1 a0_2 a0_3 a0_4 a0_5 a0_6 a0_7 a0_8 a0_9 a0_10 a0_11 a0_12 l0_13 l0_14)) else (wire_Check.j0 k false a0_0 a0_1 a0_2 a0_3 a0_4 a0_5 a0_6 a0_7 a0_8 a0_9 a0_10 a0_11 a0_12 l0_13 l0_14)) else (wire_Check.j0 k false a0_0 a0_1 a0_2 a0_3 a0_4 a0_5 a0_6 a0_7 a0_8 a0_9 a0_10 a0_11 a0_12 l0_13 l0_14)) else (wire_Check.j0 k false a0_0 a0_1 a0_2 a0_3 a0_4 a0_5 a0_6 a0_7 a0_8 a0_9 a0_10 a0_11 a0_12 l0_13 l0_14)) else (wire_Check.j0 k false a0_0 a0_1 a0_2 a0_3 a0_4 a0_5 a0_6 a0_7 a0_8 a0_9 a0_10 a0_11 a0_12 l0_13 l0_14))
set_option maxHeartbeats 8000000 in
set_option maxRecDepth 100000 in
theorem wire_Check.calls (k : Nat) (a0_0 : Int) (a0_1 : Int) (a0_2 : Int) (a0_3 : Int) (a0_4 : Int) (a0_5 : Int) (a0_6 : Int) (a0_7 : Int) (a0_8 : Int) (a0_9 : Bool) (a0_10 : Bool) (a0_11 : Int) (a0_12 : Int) (A0_13 : Option Addr) (c0_13 : Nat) (l0_13 : List (S56)) (A0_14 : Option Addr) (c0_14 : Nat) (l0_14 : List Int) (r : Int) (w : World) (hr0_13 : Kd.C k56 w A0_13 l0_13.length l0_13) (hc0_13 : l0_13.length ≤ c0_13) (hr0_14 : Kd.C (Kd.int .u8) w A0_14 l0_14.length l0_14) (hc0_14 : l0_14.length ≤ c0_14) (h : wire_Check.f k a0_0 a0_1 a0_2 a0_3 a0_4 a0_5 a0_6 a0_7 a0_8 a0_9 a0_10 a0_11 a0_12 l0_13 l0_14 = some r) :
  Calls Try.prog 14 #[.agg #[.int .i64 a0_0, .int .i64 a0_1, .int .u32 a0_2, .int .u32 a0_3, .int .i64 a0_4, .int .i64 a0_5, .int .i64 a0_6, .int .i64 a0_7, .int .i64 a0_8, .bool a0_9, .bool a0_10, .int .u32 a0_11, .int .u32 a0_12, .slice A0_13 l0_13.length c0_13, .slice A0_14 l0_14.length c0_14]] w fun e w' => e = .returned (.int .i64 r) ∧ Below w.heap.size w w' := by
 have hu26 := Try.underlying26
 have HR0_13 := Aside0.mk hr0_13
 have HC0_13 := Aside0.mk hc0_13
 clear hr0_13 hc0_13
 have HR0_14 := Aside0.mk hr0_14
 have HC0_14 := Aside0.mk hc0_14
 clear hr0_14 hc0_14
 have HB := Aside0.mk (Below.refl w.heap.size w)
 have H : ((wire_words.f k (([a0_0, a0_1, a0_5, a0_6, mx a0_7 0] : List Int))).bind fun t300 => (if t300 = true then (if a0_7 ≥ (-1) then (if a0_4 ≥ 0 then (if a0_4 ≤ 255 then (if a0_8 ≥ (-1) then (wire_Check.j0 k (decide (a0_8 ≤ 14)) a0_0 a0_1 a0_2 a0_3 a0_4 a0_5 a0_6 a0_7 a0_8 a0_9 a0_10 a0_11 a0_12 l0_13 l0_14) else (wire_Check.j0 k false a0_0 a0_1 a0_2 a0_3 a0_4 a0_5 a0_6 a0_7 a0_8 a0_9 a0_10 a0_11 a0_12 l0_13 l0_14)) else (wire_Check.j0 k false a0_0 a0_1 a0_2 a0_3 a0_4 a0_5 a0_6 a0_7 a0_8 a0_9 a0_10 a0_11 a0_12 l0_13 l0_14)) else (wire_Check.j0 k false a0_0 a0_1 a0_2 a0_3 a0_4 a0_5 a0_6 a0_7 a0_8 a0_9 a0_10 a0_11 a0_12 l0_13 l0_14)) else (wire_Check.j0 k false a0_0 a0_1 a0_2 a0_3 a0_4 a0_5 a0_6 a0_7 a0_8 a0_9 a0_10 a0_11 a0_12 l0_13 l0_14)) else (wire_Check.j0 k false a0_0 a0_1 a0_2 a0_3 a0_4 a0_5 a0_6 a0_7 a0_8 a0_9 a0_10 a0_11 a0_12 l0_13 l0_14))) = some r := h
 clear h
 have HC2 := Aside0.mk H
 clear H
 go_enter Try.func14, Try.ntmps14
 go_upto_region 1 with (first | ((with_reducible refine gate_dst (N := 1) rfl ?_); (try (refine gate_guard (by rfl) ?_; dsimp only)); refine box_event ?hg (N := 1) ?hd (cs := #[.int .i64 a0_0, .int .i64 a0_1, .int .u32 a0_2, .int .u32 a0_3, .int .i64 a0_4, .int .i64 a0_5, .int .i64 a0_6, .int .i64 a0_7, .int .i64 a0_8, .bool a0_9, .bool a0_10, .int .u32 a0_11, .int .u32 a0_12, .slice A0_13 l0_13.length c0_13, .slice A0_14 l0_14.length c0_14]) (t := 26) ?hr ?_; (case hd => rfl); (case hg => rfl); (case hr => first | (go_simp; done) | (go_simp; rfl)); intro gb296 hg w3 hbox hb; have n0_ := Aside0.mk (below_step (by repeat (first | (with_reducible first | exact HB.out | apply below_alloc | apply pw_below_drewN | apply below_drew1) | exact HB.out | exact Below.refl _ _)) hb); have n1_ := Aside0.mk (hbox); have n2_ := Aside0.mk ((by rw [hg]; exact (below_size (by repeat (first | (with_reducible first | exact HB.out | apply below_alloc | apply pw_below_drewN | apply below_drew1) | exact HB.out | exact Below.refl _ _))) : w.heap.size ≤ gb296)); have n3_ := Aside0.mk ((by rw [hg]; exact (below_size (by repeat (first | (with_reducible first | exact HB.out | apply below_alloc | apply pw_below_drewN | apply below_drew1) | exact HB.out | exact Below.refl _ _))) : w.heap.size ≤ gb296)); clear HB; have HB := n0_; have BK296 := n1_; have GW296 := n2_; have GE296 := n3_; clear n0_ n1_ n2_ n3_; clear hb hbox hg))
 (try simp only [Act.put, List.setIfInBounds_toArray, List.set_cons_zero, List.set_cons_succ])
 go_cut [3] (fun v3 wc => ∃ (kq : Nat) (x3_1 : Bool), v3 = .bool x3_1 ∧ Aside0 (wire_Check.j0 kq x3_1 a0_0 a0_1 a0_2 a0_3 a0_4 a0_5 a0_6 a0_7 a0_8 a0_9 a0_10 a0_11 a0_12 l0_13 l0_14 = some r) ∧ Aside0 (kq ≤ k) ∧ Aside0 (wc.heap[gb296]? = some (.cells #[.int .i64 a0_0, .int .i64 a0_1, .int .u32 a0_2, .int .u32 a0_3, .int .i64 a0_4, .int .i64 a0_5, .int .i64 a0_6, .int .i64 a0_7, .int .i64 a0_8, .bool a0_9, .bool a0_10, .int .u32 a0_11, .int .u32 a0_12, (.slice A0_13 l0_13.length c0_13), (.slice A0_14 l0_14.length c0_14)] 26 (0, 0))) ∧ Aside0 (Below w.heap.size w wc))
 case first =>
  have H := HC2.out
  clear HC2
  obtain ⟨ji4, hji4⟩ : ∃ j_ : Int, (mx a0_7 0) = j_ := ⟨_, rfl⟩
  replace H : ((wire_words.f k (([a0_0, a0_1, a0_5, a0_6, ji4] : List Int))).bind fun t300 => (if t300 = true then (if a0_7 ≥ (-1) then (if a0_4 ≥ 0 then (if a0_4 ≤ 255 then (if a0_8 ≥ (-1) then (wire_Check.j0 k (decide (a0_8 ≤ 14)) a0_0 a0_1 a0_2 a0_3 a0_4 a0_5 a0_6 a0_7 a0_8 a0_9 a0_10 a0_11 a0_12 l0_13 l0_14) else (wire_Check.j0 k false a0_0 a0_1 a0_2 a0_3 a0_4 a0_5 a0_6 a0_7 a0_8 a0_9 a0_10 a0_11 a0_12 l0_13 l0_14)) else (wire_Check.j0 k false a0_0 a0_1 a0_2 a0_3 a0_4 a0_5 a0_6 a0_7 a0_8 a0_9 a0_10 a0_11 a0_12 l0_13 l0_14)) else (wire_Check.j0 k false a0_0 a0_1 a0_2 a0_3 a0_4 a0_5 a0_6 a0_7 a0_8 a0_9 a0_10 a0_11 a0_12 l0_13 l0_14)) else (wire_Check.j0 k false a0_0 a0_1 a0_2 a0_3 a0_4 a0_5 a0_6 a0_7 a0_8 a0_9 a0_10 a0_11 a0_12 l0_13 l0_14)) else (wire_Check.j0 k false a0_0 a0_1 a0_2 a0_3 a0_4 a0_5 a0_6 a0_7 a0_8 a0_9 a0_10 a0_11 a0_12 l0_13 l0_14))) = some r := by first | (rw [hji4] at H; exact H) | (simp only [hji4] at H ⊢; exact H)
  (try (have hji4l : 0 ≤ ji4 := by (rw [← hji4]; unfold mx; (repeat' split) <;> omega)))
  (try (have hji4m : 0 ≤ ji4 := by omega))
  have hji4_ : (if a0_7 < 0 then 0 else a0_7) = ji4 := hji4
  obtain ⟨y297, hy297⟩ : ∃ y_ : List Int, y_ = (([a0_0, a0_1, a0_5, a0_6, ji4] : List Int)) := ⟨_, rfl⟩
  replace H : ((wire_words.f k y297).bind fun t300 => (if t300 = true then (if a0_7 ≥ (-1) then (if a0_4 ≥ 0 then (if a0_4 ≤ 255 then (if a0_8 ≥ (-1) then (wire_Check.j0 k (decide (a0_8 ≤ 14)) a0_0 a0_1 a0_2 a0_3 a0_4 a0_5 a0_6 a0_7 a0_8 a0_9 a0_10 a0_11 a0_12 l0_13 l0_14) else (wire_Check.j0 k false a0_0 a0_1 a0_2 a0_3 a0_4 a0_5 a0_6 a0_7 a0_8 a0_9 a0_10 a0_11 a0_12 l0_13 l0_14)) else (wire_Check.j0 k false a0_0 a0_1 a0_2 a0_3 a0_4 a0_5 a0_6 a0_7 a0_8 a0_9 a0_10 a0_11 a0_12 l0_13 l0_14)) else (wire_Check.j0 k false a0_0 a0_1 a0_2 a0_3 a0_4 a0_5 a0_6 a0_7 a0_8 a0_9 a0_10 a0_11 a0_12 l0_13 l0_14)) else (wire_Check.j0 k false a0_0 a0_1 a0_2 a0_3 a0_4 a0_5 a0_6 a0_7 a0_8 a0_9 a0_10 a0_11 a0_12 l0_13 l0_14)) else (wire_Check.j0 k false a0_0 a0_1 a0_2 a0_3 a0_4 a0_5 a0_6 a0_7 a0_8 a0_9 a0_10 a0_11 a0_12 l0_13 l0_14))) = some r := by first | (rw [hy297]; with_reducible exact H) | (have H2_ := (Option.bind_some _ _).symm.trans H; rw [hy297]; with_reducible exact H2_) | (have H2_ := (Option.bind_some _ _).symm.trans H; with_reducible exact H2_) | with_reducible exact H | (rw [hy297]; exact H) | exact H
  have Ny297 := Aside0.mk hy297
  clear hy297
  replace H := Option.bind_eq_some_iff.mp H
  obtain ⟨t300, A50, H⟩ := H
  replace H : (if t300 = true then (if a0_7 ≥ (-1) then (if a0_4 ≥ 0 then (if a0_4 ≤ 255 then (if a0_8 ≥ (-1) then (wire_Check.j0 k (decide (a0_8 ≤ 14)) a0_0 a0_1 a0_2 a0_3 a0_4 a0_5 a0_6 a0_7 a0_8 a0_9 a0_10 a0_11 a0_12 l0_13 l0_14) else (wire_Check.j0 k false a0_0 a0_1 a0_2 a0_3 a0_4 a0_5 a0_6 a0_7 a0_8 a0_9 a0_10 a0_11 a0_12 l0_13 l0_14)) else (wire_Check.j0 k false a0_0 a0_1 a0_2 a0_3 a0_4 a0_5 a0_6 a0_7 a0_8 a0_9 a0_10 a0_11 a0_12 l0_13 l0_14)) else (wire_Check.j0 k false a0_0 a0_1 a0_2 a0_3 a0_4 a0_5 a0_6 a0_7 a0_8 a0_9 a0_10 a0_11 a0_12 l0_13 l0_14)) else (wire_Check.j0 k false a0_0 a0_1 a0_2 a0_3 a0_4 a0_5 a0_6 a0_7 a0_8 a0_9 a0_10 a0_11 a0_12 l0_13 l0_14)) else (wire_Check.j0 k false a0_0 a0_1 a0_2 a0_3 a0_4 a0_5 a0_6 a0_7 a0_8 a0_9 a0_10 a0_11 a0_12 l0_13 l0_14)) = some r := H
  have A5 := Aside0.mk A50
  clear A50
  by_cases c6 : t300 = true
  ·subst c6
   have H1 : (if a0_7 ≥ (-1) then (if a0_4 ≥ 0 then (if a0_4 ≤ 255 then (if a0_8 ≥ (-1) then (wire_Check.j0 k (decide (a0_8 ≤ 14)) a0_0 a0_1 a0_2 a0_3 a0_4 a0_5 a0_6 a0_7 a0_8 a0_9 a0_10 a0_11 a0_12 l0_13 l0_14) else (wire_Check.j0 k false a0_0 a0_1 a0_2 a0_3 a0_4 a0_5 a0_6 a0_7 a0_8 a0_9 a0_10 a0_11 a0_12 l0_13 l0_14)) else (wire_Check.j0 k false a0_0 a0_1 a0_2 a0_3 a0_4 a0_5 a0_6 a0_7 a0_8 a0_9 a0_10 a0_11 a0_12 l0_13 l0_14)) else (wire_Check.j0 k false a0_0 a0_1 a0_2 a0_3 a0_4 a0_5 a0_6 a0_7 a0_8 a0_9 a0_10 a0_11 a0_12 l0_13 l0_14)) else (wire_Check.j0 k false a0_0 a0_1 a0_2 a0_3 a0_4 a0_5 a0_6 a0_7 a0_8 a0_9 a0_10 a0_11 a0_12 l0_13 l0_14)) = some r := by rw [if_pos rfl] at H; exact H
   clear H
   have H := H1
   clear H1
   by_cases c7 : a0_7 ≥ (-1)
   ·rw [if_pos c7] at H
    have c7b0 : decide ((-1) ≤ a0_7) = true := decide_eq_true c7
    clear c7
    (first | rw [c7b0] | (simp only [i64_w, i32_w]; rw [c7b0]) | skip)
    by_cases c8 : a0_4 ≥ 0
    ·rw [if_pos c8] at H
     have c8b0 : decide (0 ≤ a0_4) = true := decide_eq_true c8
     clear c8
     by_cases c9 : a0_4 ≤ 255
     ·rw [if_pos c9] at H
      have c9b0 : decide (a0_4 ≤ 255) = true := decide_eq_true c9
      clear c9
      by_cases c10 : a0_8 ≥ (-1)
      ·rw [if_pos c10] at H
       have c10b0 : decide ((-1) ≤ a0_8) = true := decide_eq_true c10
       clear c10
       have H' := Aside0.mk H
       clear H
       have hcz11_0 : w3.cell? ⟨gb296, 0, none⟩ = some (.int .i64 a0_0) := (blk_cell BK296.out 0).trans rfl
       have hcz11_1 : w3.cell? ⟨gb296, 1, none⟩ = some (.int .i64 a0_1) := (blk_cell BK296.out 1).trans rfl
       have hcz11_2 : w3.cell? ⟨gb296, 2, none⟩ = some (.int .u32 a0_2) := (blk_cell BK296.out 2).trans rfl
       have hcz11_3 : w3.cell? ⟨gb296, 3, none⟩ = some (.int .u32 a0_3) := (blk_cell BK296.out 3).trans rfl
       have hcz11_4 : w3.cell? ⟨gb296, 4, none⟩ = some (.int .i64 a0_4) := (blk_cell BK296.out 4).trans rfl
       have hcz11_5 : w3.cell? ⟨gb296, 5, none⟩ = some (.int .i64 a0_5) := (blk_cell BK296.out 5).trans rfl
       have hcz11_6 : w3.cell? ⟨gb296, 6, none⟩ = some (.int .i64 a0_6) := (blk_cell BK296.out 6).trans rfl
       have hcz11_7 : w3.cell? ⟨gb296, 7, none⟩ = some (.int .i64 a0_7) := (blk_cell BK296.out 7).trans rfl
       have hcz11_8 : w3.cell? ⟨gb296, 8, none⟩ = some (.int .i64 a0_8) := (blk_cell BK296.out 8).trans rfl
       have hcz11_9 : w3.cell? ⟨gb296, 9, none⟩ = some (.bool a0_9) := (blk_cell BK296.out 9).trans rfl
       have hcz11_10 : w3.cell? ⟨gb296, 10, none⟩ = some (.bool a0_10) := (blk_cell BK296.out 10).trans rfl
       have hcz11_11 : w3.cell? ⟨gb296, 11, none⟩ = some (.int .u32 a0_11) := (blk_cell BK296.out 11).trans rfl
       have hcz11_12 : w3.cell? ⟨gb296, 12, none⟩ = some (.int .u32 a0_12) := (blk_cell BK296.out 12).trans rfl
       have hcz11_13 : w3.cell? ⟨gb296, 13, none⟩ = some (.slice A0_13 l0_13.length c0_13) := (blk_cell BK296.out 13).trans rfl
       have hcz11_14 : w3.cell? ⟨gb296, 14, none⟩ = some (.slice A0_14 l0_14.length c0_14) := (blk_cell BK296.out 14).trans rfl
       have hfz11_0 := blk_frozen BK296.out 0
       have hfz11_1 := blk_frozen BK296.out 1
       have hfz11_2 := blk_frozen BK296.out 2
       have hfz11_3 := blk_frozen BK296.out 3
       have hfz11_4 := blk_frozen BK296.out 4
       have hfz11_5 := blk_frozen BK296.out 5
       have hfz11_6 := blk_frozen BK296.out 6
       have hfz11_7 := blk_frozen BK296.out 7
       have hfz11_8 := blk_frozen BK296.out 8
       have hfz11_9 := blk_frozen BK296.out 9
       have hfz11_10 := blk_frozen BK296.out 10
       have hfz11_11 := blk_frozen BK296.out 11
       have hfz11_12 := blk_frozen BK296.out 12
       have hfz11_13 := blk_frozen BK296.out 13
       have hfz11_14 := blk_frozen BK296.out 14
       go_wp2_with (first | ((with_reducible refine gate_dst (N := 15) rfl ?_); (try (refine gate_guard (by rfl) ?_; dsimp only)); refine Kd.R_lit (Kd.int .i64) _ 3 ?hg (N := 15) ?hd (xs := ([a0_0, a0_1, a0_5, a0_6, ji4] : List Int)) (inner := [.int .i64 a0_0, .int .i64 a0_1, .int .i64 a0_5, .int .i64 a0_6, .int .i64 ji4]) (ok := fun _ => True) (okp := fun _ => True) ?hr ?hp (fun _ hk => hk) trivial (Below.refl _ _) (Nat.le_refl _) (by simp) ?_; (case hd => rfl); (case hg => rfl); (case hr => first | (go_simp; done) | (go_simp; rfl)); (case hp => exact (Reps.one (show Kd.M (Kd.int .i64) _ _ _ a0_0 [.int .i64 a0_0] from rfl) (Reps.one (show Kd.M (Kd.int .i64) _ _ _ a0_1 [.int .i64 a0_1] from rfl) (Reps.one (show Kd.M (Kd.int .i64) _ _ _ a0_5 [.int .i64 a0_5] from rfl) (Reps.one (show Kd.M (Kd.int .i64) _ _ _ a0_6 [.int .i64 a0_6] from rfl) (Reps.one (show Kd.M (Kd.int .i64) _ _ _ ji4 [.int .i64 ji4] from rfl) (Reps.none _ _))))))); intro v298 w12 ho13 hb hg_ hnew_; clear hg_ hnew_; (first | rw [← Ny297.out] at ho13 | (simp only [Int.reduceToNat] at ho13; rw [← Ny297.out] at ho13)); have n0_ := Aside0.mk (Kd.R_lower ho13 (below_size (by repeat (first | (with_reducible first | exact HB.out | apply below_alloc | apply pw_below_drewN | apply below_drew1 | refine below_set ?_ GE296.out) | exact HB.out)))); have n1_ := Aside0.mk (blk_below (g := gb296) (o := .cells #[.int .i64 a0_0, .int .i64 a0_1, .int .u32 a0_2, .int .u32 a0_3, .int .i64 a0_4, .int .i64 a0_5, .int .i64 a0_6, .int .i64 a0_7, .int .i64 a0_8, .bool a0_9, .bool a0_10, .int .u32 a0_11, .int .u32 a0_12, .slice A0_13 l0_13.length c0_13, .slice A0_14 l0_14.length c0_14] 26 (0, 0)) (by (with_reducible repeat (first | refine blk_drewN ?_ _ | refine blk_drew ?_ | refine blk_alloc ?_ _)); exact BK296.out) hb); have n2_ := Aside0.mk (below_step (by repeat (first | (with_reducible first | exact HB.out | apply below_alloc | apply pw_below_drewN | apply below_drew1 | refine below_set ?_ GE296.out) | exact HB.out)) hb); clear BK296; clear HB; have HO299 := n0_; have BK296 := n1_; have HB := n2_; clear n0_ n1_ n2_; clear hb ho13; obtain ⟨Ao14, co14, eo14⟩ := Kd.R_slice HO299.out; subst eo14) | ((with_reducible refine gate_callee (f := 24) rfl ?_); refine goesL_ (some 16) rfl rfl Try.func24 (by kernel_rfl) rfl #[.slice Ao14 y297.length co14] rfl (by (try simp only [List.map_toArray, List.map_cons, List.map_nil]); first | done | rfl | (simp only [List.length_drop, List.length_take]; rfl)) ?_; (with_reducible refine (wire_words.calls k _ _ y297 true _ ?side1 ?side2 A5.out).mono ?_); (case side1 => repeat (first | exact (Kd.R_reads' HO299.out).2.2 | (with_reducible refine Kd.C_alloc ?_ _) | (with_reducible refine Kd.C_drewN ?_ _) | (with_reducible refine Kd.C_drew ?_))); (case side2 => exact (Kd.R_reads' HO299.out).2.1); rintro e w' ⟨rfl, ⟨nd, rfl⟩⟩; refine ⟨_, rfl, ?_⟩; have hcz15_0 : w12.cell? ⟨gb296, 0, none⟩ = some (.int .i64 a0_0) := (blk_cell BK296.out 0).trans rfl; have hcz15_1 : w12.cell? ⟨gb296, 1, none⟩ = some (.int .i64 a0_1) := (blk_cell BK296.out 1).trans rfl; have hcz15_2 : w12.cell? ⟨gb296, 2, none⟩ = some (.int .u32 a0_2) := (blk_cell BK296.out 2).trans rfl; have hcz15_3 : w12.cell? ⟨gb296, 3, none⟩ = some (.int .u32 a0_3) := (blk_cell BK296.out 3).trans rfl; have hcz15_4 : w12.cell? ⟨gb296, 4, none⟩ = some (.int .i64 a0_4) := (blk_cell BK296.out 4).trans rfl; have hcz15_5 : w12.cell? ⟨gb296, 5, none⟩ = some (.int .i64 a0_5) := (blk_cell BK296.out 5).trans rfl; have hcz15_6 : w12.cell? ⟨gb296, 6, none⟩ = some (.int .i64 a0_6) := (blk_cell BK296.out 6).trans rfl; have hcz15_7 : w12.cell? ⟨gb296, 7, none⟩ = some (.int .i64 a0_7) := (blk_cell BK296.out 7).trans rfl; have hcz15_8 : w12.cell? ⟨gb296, 8, none⟩ = some (.int .i64 a0_8) := (blk_cell BK296.out 8).trans rfl; have hcz15_9 : w12.cell? ⟨gb296, 9, none⟩ = some (.bool a0_9) := (blk_cell BK296.out 9).trans rfl; have hcz15_10 : w12.cell? ⟨gb296, 10, none⟩ = some (.bool a0_10) := (blk_cell BK296.out 10).trans rfl; have hcz15_11 : w12.cell? ⟨gb296, 11, none⟩ = some (.int .u32 a0_11) := (blk_cell BK296.out 11).trans rfl; have hcz15_12 : w12.cell? ⟨gb296, 12, none⟩ = some (.int .u32 a0_12) := (blk_cell BK296.out 12).trans rfl; have hcz15_13 : w12.cell? ⟨gb296, 13, none⟩ = some (.slice A0_13 l0_13.length c0_13) := (blk_cell BK296.out 13).trans rfl; have hcz15_14 : w12.cell? ⟨gb296, 14, none⟩ = some (.slice A0_14 l0_14.length c0_14) := (blk_cell BK296.out 14).trans rfl; have hfz15_0 := blk_frozen BK296.out 0; have hfz15_1 := blk_frozen BK296.out 1; have hfz15_2 := blk_frozen BK296.out 2; have hfz15_3 := blk_frozen BK296.out 3; have hfz15_4 := blk_frozen BK296.out 4; have hfz15_5 := blk_frozen BK296.out 5; have hfz15_6 := blk_frozen BK296.out 6; have hfz15_7 := blk_frozen BK296.out 7; have hfz15_8 := blk_frozen BK296.out 8; have hfz15_9 := blk_frozen BK296.out 9; have hfz15_10 := blk_frozen BK296.out 10; have hfz15_11 := blk_frozen BK296.out 11; have hfz15_12 := blk_frozen BK296.out 12; have hfz15_13 := blk_frozen BK296.out 13; have hfz15_14 := blk_frozen BK296.out 14))
       go_meet
       case rel => exact ⟨_, (decide (a0_8 ≤ 14)), (by first | rfl | (simp; done) | (simp [*]; done)), H', ⟨by first | omega | exact Nat.le_refl _⟩, ⟨by (with_reducible repeat (first | refine blk_drewN ?_ _ | refine blk_drew ?_ | refine blk_alloc ?_ _)); exact BK296.out⟩, ⟨by repeat (first | (with_reducible first | exact HB.out | apply below_alloc | apply pw_below_drewN | apply below_drew1 | refine below_set ?_ GE296.out) | exact HB.out)⟩⟩
      ·rw [if_neg c10] at H
       have c10b0 : decide ((-1) ≤ a0_8) = false := decide_eq_false c10
       clear c10
       have H' := Aside0.mk H
       clear H
       have hcz16_0 : w3.cell? ⟨gb296, 0, none⟩ = some (.int .i64 a0_0) := (blk_cell BK296.out 0).trans rfl
       have hcz16_1 : w3.cell? ⟨gb296, 1, none⟩ = some (.int .i64 a0_1) := (blk_cell BK296.out 1).trans rfl
       have hcz16_2 : w3.cell? ⟨gb296, 2, none⟩ = some (.int .u32 a0_2) := (blk_cell BK296.out 2).trans rfl
       have hcz16_3 : w3.cell? ⟨gb296, 3, none⟩ = some (.int .u32 a0_3) := (blk_cell BK296.out 3).trans rfl
       have hcz16_4 : w3.cell? ⟨gb296, 4, none⟩ = some (.int .i64 a0_4) := (blk_cell BK296.out 4).trans rfl
       have hcz16_5 : w3.cell? ⟨gb296, 5, none⟩ = some (.int .i64 a0_5) := (blk_cell BK296.out 5).trans rfl
       have hcz16_6 : w3.cell? ⟨gb296, 6, none⟩ = some (.int .i64 a0_6) := (blk_cell BK296.out 6).trans rfl
       have hcz16_7 : w3.cell? ⟨gb296, 7, none⟩ = some (.int .i64 a0_7) := (blk_cell BK296.out 7).trans rfl
       have hcz16_8 : w3.cell? ⟨gb296, 8, none⟩ = some (.int .i64 a0_8) := (blk_cell BK296.out 8).trans rfl
       have hcz16_9 : w3.cell? ⟨gb296, 9, none⟩ = some (.bool a0_9) := (blk_cell BK296.out 9).trans rfl
       have hcz16_10 : w3.cell? ⟨gb296, 10, none⟩ = some (.bool a0_10) := (blk_cell BK296.out 10).trans rfl
       have hcz16_11 : w3.cell? ⟨gb296, 11, none⟩ = some (.int .u32 a0_11) := (blk_cell BK296.out 11).trans rfl
       have hcz16_12 : w3.cell? ⟨gb296, 12, none⟩ = some (.int .u32 a0_12) := (blk_cell BK296.out 12).trans rfl
       have hcz16_13 : w3.cell? ⟨gb296, 13, none⟩ = some (.slice A0_13 l0_13.length c0_13) := (blk_cell BK296.out 13).trans rfl
       have hcz16_14 : w3.cell? ⟨gb296, 14, none⟩ = some (.slice A0_14 l0_14.length c0_14) := (blk_cell BK296.out 14).trans rfl
       have hfz16_0 := blk_frozen BK296.out 0
       have hfz16_1 := blk_frozen BK296.out 1
       have hfz16_2 := blk_frozen BK296.out 2
       have hfz16_3 := blk_frozen BK296.out 3
       have hfz16_4 := blk_frozen BK296.out 4
       have hfz16_5 := blk_frozen BK296.out 5
       have hfz16_6 := blk_frozen BK296.out 6
       have hfz16_7 := blk_frozen BK296.out 7
       have hfz16_8 := blk_frozen BK296.out 8
       have hfz16_9 := blk_frozen BK296.out 9
       have hfz16_10 := blk_frozen BK296.out 10
       have hfz16_11 := blk_frozen BK296.out 11
       have hfz16_12 := blk_frozen BK296.out 12
       have hfz16_13 := blk_frozen BK296.out 13
       have hfz16_14 := blk_frozen BK296.out 14
       go_wp2_with (first | ((with_reducible refine gate_dst (N := 15) rfl ?_); (try (refine gate_guard (by rfl) ?_; dsimp only)); refine Kd.R_lit (Kd.int .i64) _ 3 ?hg (N := 15) ?hd (xs := ([a0_0, a0_1, a0_5, a0_6, ji4] : List Int)) (inner := [.int .i64 a0_0, .int .i64 a0_1, .int .i64 a0_5, .int .i64 a0_6, .int .i64 ji4]) (ok := fun _ => True) (okp := fun _ => True) ?hr ?hp (fun _ hk => hk) trivial (Below.refl _ _) (Nat.le_refl _) (by simp) ?_; (case hd => rfl); (case hg => rfl); (case hr => first | (go_simp; done) | (go_simp; rfl)); (case hp => exact (Reps.one (show Kd.M (Kd.int .i64) _ _ _ a0_0 [.int .i64 a0_0] from rfl) (Reps.one (show Kd.M (Kd.int .i64) _ _ _ a0_1 [.int .i64 a0_1] from rfl) (Reps.one (show Kd.M (Kd.int .i64) _ _ _ a0_5 [.int .i64 a0_5] from rfl) (Reps.one (show Kd.M (Kd.int .i64) _ _ _ a0_6 [.int .i64 a0_6] from rfl) (Reps.one (show Kd.M (Kd.int .i64) _ _ _ ji4 [.int .i64 ji4] from rfl) (Reps.none _ _))))))); intro v298 w17 ho18 hb hg_ hnew_; clear hg_ hnew_; (first | rw [← Ny297.out] at ho18 | (simp only [Int.reduceToNat] at ho18; rw [← Ny297.out] at ho18)); have n0_ := Aside0.mk (Kd.R_lower ho18 (below_size (by repeat (first | (with_reducible first | exact HB.out | apply below_alloc | apply pw_below_drewN | apply below_drew1 | refine below_set ?_ GE296.out) | exact HB.out)))); have n1_ := Aside0.mk (blk_below (g := gb296) (o := .cells #[.int .i64 a0_0, .int .i64 a0_1, .int .u32 a0_2, .int .u32 a0_3, .int .i64 a0_4, .int .i64 a0_5, .int .i64 a0_6, .int .i64 a0_7, .int .i64 a0_8, .bool a0_9, .bool a0_10, .int .u32 a0_11, .int .u32 a0_12, .slice A0_13 l0_13.length c0_13, .slice A0_14 l0_14.length c0_14] 26 (0, 0)) (by (with_reducible repeat (first | refine blk_drewN ?_ _ | refine blk_drew ?_ | refine blk_alloc ?_ _)); exact BK296.out) hb); have n2_ := Aside0.mk (below_step (by repeat (first | (with_reducible first | exact HB.out | apply below_alloc | apply pw_below_drewN | apply below_drew1 | refine below_set ?_ GE296.out) | exact HB.out)) hb); clear BK296; clear HB; have HO299 := n0_; have BK296 := n1_; have HB := n2_; clear n0_ n1_ n2_; clear hb ho18; obtain ⟨Ao19, co19, eo19⟩ := Kd.R_slice HO299.out; subst eo19) | ((with_reducible refine gate_callee (f := 24) rfl ?_); refine goesL_ (some 16) rfl rfl Try.func24 (by kernel_rfl) rfl #[.slice Ao19 y297.length co19] rfl (by (try simp only [List.map_toArray, List.map_cons, List.map_nil]); first | done | rfl | (simp only [List.length_drop, List.length_take]; rfl)) ?_; (with_reducible refine (wire_words.calls k _ _ y297 true _ ?side1 ?side2 A5.out).mono ?_); (case side1 => repeat (first | exact (Kd.R_reads' HO299.out).2.2 | (with_reducible refine Kd.C_alloc ?_ _) | (with_reducible refine Kd.C_drewN ?_ _) | (with_reducible refine Kd.C_drew ?_))); (case side2 => exact (Kd.R_reads' HO299.out).2.1); rintro e w' ⟨rfl, ⟨nd, rfl⟩⟩; refine ⟨_, rfl, ?_⟩; have hcz20_0 : w17.cell? ⟨gb296, 0, none⟩ = some (.int .i64 a0_0) := (blk_cell BK296.out 0).trans rfl; have hcz20_1 : w17.cell? ⟨gb296, 1, none⟩ = some (.int .i64 a0_1) := (blk_cell BK296.out 1).trans rfl; have hcz20_2 : w17.cell? ⟨gb296, 2, none⟩ = some (.int .u32 a0_2) := (blk_cell BK296.out 2).trans rfl; have hcz20_3 : w17.cell? ⟨gb296, 3, none⟩ = some (.int .u32 a0_3) := (blk_cell BK296.out 3).trans rfl; have hcz20_4 : w17.cell? ⟨gb296, 4, none⟩ = some (.int .i64 a0_4) := (blk_cell BK296.out 4).trans rfl; have hcz20_5 : w17.cell? ⟨gb296, 5, none⟩ = some (.int .i64 a0_5) := (blk_cell BK296.out 5).trans rfl; have hcz20_6 : w17.cell? ⟨gb296, 6, none⟩ = some (.int .i64 a0_6) := (blk_cell BK296.out 6).trans rfl; have hcz20_7 : w17.cell? ⟨gb296, 7, none⟩ = some (.int .i64 a0_7) := (blk_cell BK296.out 7).trans rfl; have hcz20_8 : w17.cell? ⟨gb296, 8, none⟩ = some (.int .i64 a0_8) := (blk_cell BK296.out 8).trans rfl; have hcz20_9 : w17.cell? ⟨gb296, 9, none⟩ = some (.bool a0_9) := (blk_cell BK296.out 9).trans rfl; have hcz20_10 : w17.cell? ⟨gb296, 10, none⟩ = some (.bool a0_10) := (blk_cell BK296.out 10).trans rfl; have hcz20_11 : w17.cell? ⟨gb296, 11, none⟩ = some (.int .u32 a0_11) := (blk_cell BK296.out 11).trans rfl; have hcz20_12 : w17.cell? ⟨gb296, 12, none⟩ = some (.int .u32 a0_12) := (blk_cell BK296.out 12).trans rfl; have hcz20_13 : w17.cell? ⟨gb296, 13, none⟩ = some (.slice A0_13 l0_13.length c0_13) := (blk_cell BK296.out 13).trans rfl; have hcz20_14 : w17.cell? ⟨gb296, 14, none⟩ = some (.slice A0_14 l0_14.length c0_14) := (blk_cell BK296.out 14).trans rfl; have hfz20_0 := blk_frozen BK296.out 0; have hfz20_1 := blk_frozen BK296.out 1; have hfz20_2 := blk_frozen BK296.out 2; have hfz20_3 := blk_frozen BK296.out 3; have hfz20_4 := blk_frozen BK296.out 4; have hfz20_5 := blk_frozen BK296.out 5; have hfz20_6 := blk_frozen BK296.out 6; have hfz20_7 := blk_frozen BK296.out 7; have hfz20_8 := blk_frozen BK296.out 8; have hfz20_9 := blk_frozen BK296.out 9; have hfz20_10 := blk_frozen BK296.out 10; have hfz20_11 := blk_frozen BK296.out 11; have hfz20_12 := blk_frozen BK296.out 12; have hfz20_13 := blk_frozen BK296.out 13; have hfz20_14 := blk_frozen BK296.out 14))
       go_meet
       case rel => exact ⟨_, (false), (by first | rfl | (simp; done) | (simp [*]; done)), H', ⟨by first | omega | exact Nat.le_refl _⟩, ⟨by (with_reducible repeat (first | refine blk_drewN ?_ _ | refine blk_drew ?_ | refine blk_alloc ?_ _)); exact BK296.out⟩, ⟨by repeat (first | (with_reducible first | exact HB.out | apply below_alloc | apply pw_below_drewN | apply below_drew1 | refine below_set ?_ GE296.out) | exact HB.out)⟩⟩
     ·rw [if_neg c9] at H
      have c9b0 : decide (a0_4 ≤ 255) = false := decide_eq_false c9
      clear c9
      have H' := Aside0.mk H
      clear H
      have hcz21_0 : w3.cell? ⟨gb296, 0, none⟩ = some (.int .i64 a0_0) := (blk_cell BK296.out 0).trans rfl
      have hcz21_1 : w3.cell? ⟨gb296, 1, none⟩ = some (.int .i64 a0_1) := (blk_cell BK296.out 1).trans rfl
      have hcz21_2 : w3.cell? ⟨gb296, 2, none⟩ = some (.int .u32 a0_2) := (blk_cell BK296.out 2).trans rfl
      have hcz21_3 : w3.cell? ⟨gb296, 3, none⟩ = some (.int .u32 a0_3) := (blk_cell BK296.out 3).trans rfl
      have hcz21_4 : w3.cell? ⟨gb296, 4, none⟩ = some (.int .i64 a0_4) := (blk_cell BK296.out 4).trans rfl
      have hcz21_5 : w3.cell? ⟨gb296, 5, none⟩ = some (.int .i64 a0_5) := (blk_cell BK296.out 5).trans rfl
      have hcz21_6 : w3.cell? ⟨gb296, 6, none⟩ = some (.int .i64 a0_6) := (blk_cell BK296.out 6).trans rfl
      have hcz21_7 : w3.cell? ⟨gb296, 7, none⟩ = some (.int .i64 a0_7) := (blk_cell BK296.out 7).trans rfl
      have hcz21_8 : w3.cell? ⟨gb296, 8, none⟩ = some (.int .i64 a0_8) := (blk_cell BK296.out 8).trans rfl
      have hcz21_9 : w3.cell? ⟨gb296, 9, none⟩ = some (.bool a0_9) := (blk_cell BK296.out 9).trans rfl
      have hcz21_10 : w3.cell? ⟨gb296, 10, none⟩ = some (.bool a0_10) := (blk_cell BK296.out 10).trans rfl
      have hcz21_11 : w3.cell? ⟨gb296, 11, none⟩ = some (.int .u32 a0_11) := (blk_cell BK296.out 11).trans rfl
      have hcz21_12 : w3.cell? ⟨gb296, 12, none⟩ = some (.int .u32 a0_12) := (blk_cell BK296.out 12).trans rfl
      have hcz21_13 : w3.cell? ⟨gb296, 13, none⟩ = some (.slice A0_13 l0_13.length c0_13) := (blk_cell BK296.out 13).trans rfl
      have hcz21_14 : w3.cell? ⟨gb296, 14, none⟩ = some (.slice A0_14 l0_14.length c0_14) := (blk_cell BK296.out 14).trans rfl
      have hfz21_0 := blk_frozen BK296.out 0
      have hfz21_1 := blk_frozen BK296.out 1
      have hfz21_2 := blk_frozen BK296.out 2
      have hfz21_3 := blk_frozen BK296.out 3
      have hfz21_4 := blk_frozen BK296.out 4
      have hfz21_5 := blk_frozen BK296.out 5
      have hfz21_6 := blk_frozen BK296.out 6
      have hfz21_7 := blk_frozen BK296.out 7
      have hfz21_8 := blk_frozen BK296.out 8
      have hfz21_9 := blk_frozen BK296.out 9
      have hfz21_10 := blk_frozen BK296.out 10
      have hfz21_11 := blk_frozen BK296.out 11
      have hfz21_12 := blk_frozen BK296.out 12
      have hfz21_13 := blk_frozen BK296.out 13
      have hfz21_14 := blk_frozen BK296.out 14
      go_wp2_with (first | ((with_reducible refine gate_dst (N := 15) rfl ?_); (try (refine gate_guard (by rfl) ?_; dsimp only)); refine Kd.R_lit (Kd.int .i64) _ 3 ?hg (N := 15) ?hd (xs := ([a0_0, a0_1, a0_5, a0_6, ji4] : List Int)) (inner := [.int .i64 a0_0, .int .i64 a0_1, .int .i64 a0_5, .int .i64 a0_6, .int .i64 ji4]) (ok := fun _ => True) (okp := fun _ => True) ?hr ?hp (fun _ hk => hk) trivial (Below.refl _ _) (Nat.le_refl _) (by simp) ?_; (case hd => rfl); (case hg => rfl); (case hr => first | (go_simp; done) | (go_simp; rfl)); (case hp => exact (Reps.one (show Kd.M (Kd.int .i64) _ _ _ a0_0 [.int .i64 a0_0] from rfl) (Reps.one (show Kd.M (Kd.int .i64) _ _ _ a0_1 [.int .i64 a0_1] from rfl) (Reps.one (show Kd.M (Kd.int .i64) _ _ _ a0_5 [.int .i64 a0_5] from rfl) (Reps.one (show Kd.M (Kd.int .i64) _ _ _ a0_6 [.int .i64 a0_6] from rfl) (Reps.one (show Kd.M (Kd.int .i64) _ _ _ ji4 [.int .i64 ji4] from rfl) (Reps.none _ _))))))); intro v298 w22 ho23 hb hg_ hnew_; clear hg_ hnew_; (first | rw [← Ny297.out] at ho23 | (simp only [Int.reduceToNat] at ho23; rw [← Ny297.out] at ho23)); have n0_ := Aside0.mk (Kd.R_lower ho23 (below_size (by repeat (first | (with_reducible first | exact HB.out | apply below_alloc | apply pw_below_drewN | apply below_drew1 | refine below_set ?_ GE296.out) | exact HB.out)))); have n1_ := Aside0.mk (blk_below (g := gb296) (o := .cells #[.int .i64 a0_0, .int .i64 a0_1, .int .u32 a0_2, .int .u32 a0_3, .int .i64 a0_4, .int .i64 a0_5, .int .i64 a0_6, .int .i64 a0_7, .int .i64 a0_8, .bool a0_9, .bool a0_10, .int .u32 a0_11, .int .u32 a0_12, .slice A0_13 l0_13.length c0_13, .slice A0_14 l0_14.length c0_14] 26 (0, 0)) (by (with_reducible repeat (first | refine blk_drewN ?_ _ | refine blk_drew ?_ | refine blk_alloc ?_ _)); exact BK296.out) hb); have n2_ := Aside0.mk (below_step (by repeat (first | (with_reducible first | exact HB.out | apply below_alloc | apply pw_below_drewN | apply below_drew1 | refine below_set ?_ GE296.out) | exact HB.out)) hb); clear BK296; clear HB; have HO299 := n0_; have BK296 := n1_; have HB := n2_; clear n0_ n1_ n2_; clear hb ho23; obtain ⟨Ao24, co24, eo24⟩ := Kd.R_slice HO299.out; subst eo24) | ((with_reducible refine gate_callee (f := 24) rfl ?_); refine goesL_ (some 16) rfl rfl Try.func24 (by kernel_rfl) rfl #[.slice Ao24 y297.length co24] rfl (by (try simp only [List.map_toArray, List.map_cons, List.map_nil]); first | done | rfl | (simp only [List.length_drop, List.length_take]; rfl)) ?_; (with_reducible refine (wire_words.calls k _ _ y297 true _ ?side1 ?side2 A5.out).mono ?_); (case side1 => repeat (first | exact (Kd.R_reads' HO299.out).2.2 | (with_reducible refine Kd.C_alloc ?_ _) | (with_reducible refine Kd.C_drewN ?_ _) | (with_reducible refine Kd.C_drew ?_))); (case side2 => exact (Kd.R_reads' HO299.out).2.1); rintro e w' ⟨rfl, ⟨nd, rfl⟩⟩; refine ⟨_, rfl, ?_⟩; have hcz25_0 : w22.cell? ⟨gb296, 0, none⟩ = some (.int .i64 a0_0) := (blk_cell BK296.out 0).trans rfl; have hcz25_1 : w22.cell? ⟨gb296, 1, none⟩ = some (.int .i64 a0_1) := (blk_cell BK296.out 1).trans rfl; have hcz25_2 : w22.cell? ⟨gb296, 2, none⟩ = some (.int .u32 a0_2) := (blk_cell BK296.out 2).trans rfl; have hcz25_3 : w22.cell? ⟨gb296, 3, none⟩ = some (.int .u32 a0_3) := (blk_cell BK296.out 3).trans rfl; have hcz25_4 : w22.cell? ⟨gb296, 4, none⟩ = some (.int .i64 a0_4) := (blk_cell BK296.out 4).trans rfl; have hcz25_5 : w22.cell? ⟨gb296, 5, none⟩ = some (.int .i64 a0_5) := (blk_cell BK296.out 5).trans rfl; have hcz25_6 : w22.cell? ⟨gb296, 6, none⟩ = some (.int .i64 a0_6) := (blk_cell BK296.out 6).trans rfl; have hcz25_7 : w22.cell? ⟨gb296, 7, none⟩ = some (.int .i64 a0_7) := (blk_cell BK296.out 7).trans rfl; have hcz25_8 : w22.cell? ⟨gb296, 8, none⟩ = some (.int .i64 a0_8) := (blk_cell BK296.out 8).trans rfl; have hcz25_9 : w22.cell? ⟨gb296, 9, none⟩ = some (.bool a0_9) := (blk_cell BK296.out 9).trans rfl; have hcz25_10 : w22.cell? ⟨gb296, 10, none⟩ = some (.bool a0_10) := (blk_cell BK296.out 10).trans rfl; have hcz25_11 : w22.cell? ⟨gb296, 11, none⟩ = some (.int .u32 a0_11) := (blk_cell BK296.out 11).trans rfl; have hcz25_12 : w22.cell? ⟨gb296, 12, none⟩ = some (.int .u32 a0_12) := (blk_cell BK296.out 12).trans rfl; have hcz25_13 : w22.cell? ⟨gb296, 13, none⟩ = some (.slice A0_13 l0_13.length c0_13) := (blk_cell BK296.out 13).trans rfl; have hcz25_14 : w22.cell? ⟨gb296, 14, none⟩ = some (.slice A0_14 l0_14.length c0_14) := (blk_cell BK296.out 14).trans rfl; have hfz25_0 := blk_frozen BK296.out 0; have hfz25_1 := blk_frozen BK296.out 1; have hfz25_2 := blk_frozen BK296.out 2; have hfz25_3 := blk_frozen BK296.out 3; have hfz25_4 := blk_frozen BK296.out 4; have hfz25_5 := blk_frozen BK296.out 5; have hfz25_6 := blk_frozen BK296.out 6; have hfz25_7 := blk_frozen BK296.out 7; have hfz25_8 := blk_frozen BK296.out 8; have hfz25_9 := blk_frozen BK296.out 9; have hfz25_10 := blk_frozen BK296.out 10; have hfz25_11 := blk_frozen BK296.out 11; have hfz25_12 := blk_frozen BK296.out 12; have hfz25_13 := blk_frozen BK296.out 13; have hfz25_14 := blk_frozen BK296.out 14))
      go_meet
      case rel => exact ⟨_, (false), (by first | rfl | (simp; done) | (simp [*]; done)), H', ⟨by first | omega | exact Nat.le_refl _⟩, ⟨by (with_reducible repeat (first | refine blk_drewN ?_ _ | refine blk_drew ?_ | refine blk_alloc ?_ _)); exact BK296.out⟩, ⟨by repeat (first | (with_reducible first | exact HB.out | apply below_alloc | apply pw_below_drewN | apply below_drew1 | refine below_set ?_ GE296.out) | exact HB.out)⟩⟩
    ·rw [if_neg c8] at H
     have c8b0 : decide (0 ≤ a0_4) = false := decide_eq_false c8
     clear c8
     have H' := Aside0.mk H
     clear H
     have hcz26_0 : w3.cell? ⟨gb296, 0, none⟩ = some (.int .i64 a0_0) := (blk_cell BK296.out 0).trans rfl
     have hcz26_1 : w3.cell? ⟨gb296, 1, none⟩ = some (.int .i64 a0_1) := (blk_cell BK296.out 1).trans rfl
     have hcz26_2 : w3.cell? ⟨gb296, 2, none⟩ = some (.int .u32 a0_2) := (blk_cell BK296.out 2).trans rfl
     have hcz26_3 : w3.cell? ⟨gb296, 3, none⟩ = some (.int .u32 a0_3) := (blk_cell BK296.out 3).trans rfl
     have hcz26_4 : w3.cell? ⟨gb296, 4, none⟩ = some (.int .i64 a0_4) := (blk_cell BK296.out 4).trans rfl
     have hcz26_5 : w3.cell? ⟨gb296, 5, none⟩ = some (.int .i64 a0_5) := (blk_cell BK296.out 5).trans rfl
     have hcz26_6 : w3.cell? ⟨gb296, 6, none⟩ = some (.int .i64 a0_6) := (blk_cell BK296.out 6).trans rfl
     have hcz26_7 : w3.cell? ⟨gb296, 7, none⟩ = some (.int .i64 a0_7) := (blk_cell BK296.out 7).trans rfl
     have hcz26_8 : w3.cell? ⟨gb296, 8, none⟩ = some (.int .i64 a0_8) := (blk_cell BK296.out 8).trans rfl
     have hcz26_9 : w3.cell? ⟨gb296, 9, none⟩ = some (.bool a0_9) := (blk_cell BK296.out 9).trans rfl
     have hcz26_10 : w3.cell? ⟨gb296, 10, none⟩ = some (.bool a0_10) := (blk_cell BK296.out 10).trans rfl
     have hcz26_11 : w3.cell? ⟨gb296, 11, none⟩ = some (.int .u32 a0_11) := (blk_cell BK296.out 11).trans rfl
     have hcz26_12 : w3.cell? ⟨gb296, 12, none⟩ = some (.int .u32 a0_12) := (blk_cell BK296.out 12).trans rfl
     have hcz26_13 : w3.cell? ⟨gb296, 13, none⟩ = some (.slice A0_13 l0_13.length c0_13) := (blk_cell BK296.out 13).trans rfl
     have hcz26_14 : w3.cell? ⟨gb296, 14, none⟩ = some (.slice A0_14 l0_14.length c0_14) := (blk_cell BK296.out 14).trans rfl
     have hfz26_0 := blk_frozen BK296.out 0
     have hfz26_1 := blk_frozen BK296.out 1
     have hfz26_2 := blk_frozen BK296.out 2
     have hfz26_3 := blk_frozen BK296.out 3
     have hfz26_4 := blk_frozen BK296.out 4
     have hfz26_5 := blk_frozen BK296.out 5
     have hfz26_6 := blk_frozen BK296.out 6
     have hfz26_7 := blk_frozen BK296.out 7
     have hfz26_8 := blk_frozen BK296.out 8
     have hfz26_9 := blk_frozen BK296.out 9
     have hfz26_10 := blk_frozen BK296.out 10
     have hfz26_11 := blk_frozen BK296.out 11
     have hfz26_12 := blk_frozen BK296.out 12
     have hfz26_13 := blk_frozen BK296.out 13
     have hfz26_14 := blk_frozen BK296.out 14
     go_wp2_with (first | ((with_reducible refine gate_dst (N := 15) rfl ?_); (try (refine gate_guard (by rfl) ?_; dsimp only)); refine Kd.R_lit (Kd.int .i64) _ 3 ?hg (N := 15) ?hd (xs := ([a0_0, a0_1, a0_5, a0_6, ji4] : List Int)) (inner := [.int .i64 a0_0, .int .i64 a0_1, .int .i64 a0_5, .int .i64 a0_6, .int .i64 ji4]) (ok := fun _ => True) (okp := fun _ => True) ?hr ?hp (fun _ hk => hk) trivial (Below.refl _ _) (Nat.le_refl _) (by simp) ?_; (case hd => rfl); (case hg => rfl); (case hr => first | (go_simp; done) | (go_simp; rfl)); (case hp => exact (Reps.one (show Kd.M (Kd.int .i64) _ _ _ a0_0 [.int .i64 a0_0] from rfl) (Reps.one (show Kd.M (Kd.int .i64) _ _ _ a0_1 [.int .i64 a0_1] from rfl) (Reps.one (show Kd.M (Kd.int .i64) _ _ _ a0_5 [.int .i64 a0_5] from rfl) (Reps.one (show Kd.M (Kd.int .i64) _ _ _ a0_6 [.int .i64 a0_6] from rfl) (Reps.one (show Kd.M (Kd.int .i64) _ _ _ ji4 [.int .i64 ji4] from rfl) (Reps.none _ _))))))); intro v298 w27 ho28 hb hg_ hnew_; clear hg_ hnew_; (first | rw [← Ny297.out] at ho28 | (simp only [Int.reduceToNat] at ho28; rw [← Ny297.out] at ho28)); have n0_ := Aside0.mk (Kd.R_lower ho28 (below_size (by repeat (first | (with_reducible first | exact HB.out | apply below_alloc | apply pw_below_drewN | apply below_drew1 | refine below_set ?_ GE296.out) | exact HB.out)))); have n1_ := Aside0.mk (blk_below (g := gb296) (o := .cells #[.int .i64 a0_0, .int .i64 a0_1, .int .u32 a0_2, .int .u32 a0_3, .int .i64 a0_4, .int .i64 a0_5, .int .i64 a0_6, .int .i64 a0_7, .int .i64 a0_8, .bool a0_9, .bool a0_10, .int .u32 a0_11, .int .u32 a0_12, .slice A0_13 l0_13.length c0_13, .slice A0_14 l0_14.length c0_14] 26 (0, 0)) (by (with_reducible repeat (first | refine blk_drewN ?_ _ | refine blk_drew ?_ | refine blk_alloc ?_ _)); exact BK296.out) hb); have n2_ := Aside0.mk (below_step (by repeat (first | (with_reducible first | exact HB.out | apply below_alloc | apply pw_below_drewN | apply below_drew1 | refine below_set ?_ GE296.out) | exact HB.out)) hb); clear BK296; clear HB; have HO299 := n0_; have BK296 := n1_; have HB := n2_; clear n0_ n1_ n2_; clear hb ho28; obtain ⟨Ao29, co29, eo29⟩ := Kd.R_slice HO299.out; subst eo29) | ((with_reducible refine gate_callee (f := 24) rfl ?_); refine goesL_ (some 16) rfl rfl Try.func24 (by kernel_rfl) rfl #[.slice Ao29 y297.length co29] rfl (by (try simp only [List.map_toArray, List.map_cons, List.map_nil]); first | done | rfl | (simp only [List.length_drop, List.length_take]; rfl)) ?_; (with_reducible refine (wire_words.calls k _ _ y297 true _ ?side1 ?side2 A5.out).mono ?_); (case side1 => repeat (first | exact (Kd.R_reads' HO299.out).2.2 | (with_reducible refine Kd.C_alloc ?_ _) | (with_reducible refine Kd.C_drewN ?_ _) | (with_reducible refine Kd.C_drew ?_))); (case side2 => exact (Kd.R_reads' HO299.out).2.1); rintro e w' ⟨rfl, ⟨nd, rfl⟩⟩; refine ⟨_, rfl, ?_⟩; have hcz30_0 : w27.cell? ⟨gb296, 0, none⟩ = some (.int .i64 a0_0) := (blk_cell BK296.out 0).trans rfl; have hcz30_1 : w27.cell? ⟨gb296, 1, none⟩ = some (.int .i64 a0_1) := (blk_cell BK296.out 1).trans rfl; have hcz30_2 : w27.cell? ⟨gb296, 2, none⟩ = some (.int .u32 a0_2) := (blk_cell BK296.out 2).trans rfl; have hcz30_3 : w27.cell? ⟨gb296, 3, none⟩ = some (.int .u32 a0_3) := (blk_cell BK296.out 3).trans rfl; have hcz30_4 : w27.cell? ⟨gb296, 4, none⟩ = some (.int .i64 a0_4) := (blk_cell BK296.out 4).trans rfl; have hcz30_5 : w27.cell? ⟨gb296, 5, none⟩ = some (.int .i64 a0_5) := (blk_cell BK296.out 5).trans rfl; have hcz30_6 : w27.cell? ⟨gb296, 6, none⟩ = some (.int .i64 a0_6) := (blk_cell BK296.out 6).trans rfl; have hcz30_7 : w27.cell? ⟨gb296, 7, none⟩ = some (.int .i64 a0_7) := (blk_cell BK296.out 7).trans rfl; have hcz30_8 : w27.cell? ⟨gb296, 8, none⟩ = some (.int .i64 a0_8) := (blk_cell BK296.out 8).trans rfl; have hcz30_9 : w27.cell? ⟨gb296, 9, none⟩ = some (.bool a0_9) := (blk_cell BK296.out 9).trans rfl; have hcz30_10 : w27.cell? ⟨gb296, 10, none⟩ = some (.bool a0_10) := (blk_cell BK296.out 10).trans rfl; have hcz30_11 : w27.cell? ⟨gb296, 11, none⟩ = some (.int .u32 a0_11) := (blk_cell BK296.out 11).trans rfl; have hcz30_12 : w27.cell? ⟨gb296, 12, none⟩ = some (.int .u32 a0_12) := (blk_cell BK296.out 12).trans rfl; have hcz30_13 : w27.cell? ⟨gb296, 13, none⟩ = some (.slice A0_13 l0_13.length c0_13) := (blk_cell BK296.out 13).trans rfl; have hcz30_14 : w27.cell? ⟨gb296, 14, none⟩ = some (.slice A0_14 l0_14.length c0_14) := (blk_cell BK296.out 14).trans rfl; have hfz30_0 := blk_frozen BK296.out 0; have hfz30_1 := blk_frozen BK296.out 1; have hfz30_2 := blk_frozen BK296.out 2; have hfz30_3 := blk_frozen BK296.out 3; have hfz30_4 := blk_frozen BK296.out 4; have hfz30_5 := blk_frozen BK296.out 5; have hfz30_6 := blk_frozen BK296.out 6; have hfz30_7 := blk_frozen BK296.out 7; have hfz30_8 := blk_frozen BK296.out 8; have hfz30_9 := blk_frozen BK296.out 9; have hfz30_10 := blk_frozen BK296.out 10; have hfz30_11 := blk_frozen BK296.out 11; have hfz30_12 := blk_frozen BK296.out 12; have hfz30_13 := blk_frozen BK296.out 13; have hfz30_14 := blk_frozen BK296.out 14))
     go_meet
     case rel => exact ⟨_, (false), (by first | rfl | (simp; done) | (simp [*]; done)), H', ⟨by first | omega | exact Nat.le_refl _⟩, ⟨by (with_reducible repeat (first | refine blk_drewN ?_ _ | refine blk_drew ?_ | refine blk_alloc ?_ _)); exact BK296.out⟩, ⟨by repeat (first | (with_reducible first | exact HB.out | apply below_alloc | apply pw_below_drewN | apply below_drew1 | refine below_set ?_ GE296.out) | exact HB.out)⟩⟩
   ·rw [if_neg c7] at H
    have c7b0 : decide ((-1) ≤ a0_7) = false := decide_eq_false c7
    clear c7
    (first | rw [c7b0] | (simp only [i64_w, i32_w]; rw [c7b0]) | skip)
    have H' := Aside0.mk H
    clear H
    have hcz31_0 : w3.cell? ⟨gb296, 0, none⟩ = some (.int .i64 a0_0) := (blk_cell BK296.out 0).trans rfl
    have hcz31_1 : w3.cell? ⟨gb296, 1, none⟩ = some (.int .i64 a0_1) := (blk_cell BK296.out 1).trans rfl
    have hcz31_2 : w3.cell? ⟨gb296, 2, none⟩ = some (.int .u32 a0_2) := (blk_cell BK296.out 2).trans rfl
    have hcz31_3 : w3.cell? ⟨gb296, 3, none⟩ = some (.int .u32 a0_3) := (blk_cell BK296.out 3).trans rfl
    have hcz31_4 : w3.cell? ⟨gb296, 4, none⟩ = some (.int .i64 a0_4) := (blk_cell BK296.out 4).trans rfl
    have hcz31_5 : w3.cell? ⟨gb296, 5, none⟩ = some (.int .i64 a0_5) := (blk_cell BK296.out 5).trans rfl
    have hcz31_6 : w3.cell? ⟨gb296, 6, none⟩ = some (.int .i64 a0_6) := (blk_cell BK296.out 6).trans rfl
    have hcz31_7 : w3.cell? ⟨gb296, 7, none⟩ = some (.int .i64 a0_7) := (blk_cell BK296.out 7).trans rfl
    have hcz31_8 : w3.cell? ⟨gb296, 8, none⟩ = some (.int .i64 a0_8) := (blk_cell BK296.out 8).trans rfl
    have hcz31_9 : w3.cell? ⟨gb296, 9, none⟩ = some (.bool a0_9) := (blk_cell BK296.out 9).trans rfl
    have hcz31_10 : w3.cell? ⟨gb296, 10, none⟩ = some (.bool a0_10) := (blk_cell BK296.out 10).trans rfl
    have hcz31_11 : w3.cell? ⟨gb296, 11, none⟩ = some (.int .u32 a0_11) := (blk_cell BK296.out 11).trans rfl
    have hcz31_12 : w3.cell? ⟨gb296, 12, none⟩ = some (.int .u32 a0_12) := (blk_cell BK296.out 12).trans rfl
    have hcz31_13 : w3.cell? ⟨gb296, 13, none⟩ = some (.slice A0_13 l0_13.length c0_13) := (blk_cell BK296.out 13).trans rfl
    have hcz31_14 : w3.cell? ⟨gb296, 14, none⟩ = some (.slice A0_14 l0_14.length c0_14) := (blk_cell BK296.out 14).trans rfl
    have hfz31_0 := blk_frozen BK296.out 0
    have hfz31_1 := blk_frozen BK296.out 1
    have hfz31_2 := blk_frozen BK296.out 2
    have hfz31_3 := blk_frozen BK296.out 3
    have hfz31_4 := blk_frozen BK296.out 4
    have hfz31_5 := blk_frozen BK296.out 5
    have hfz31_6 := blk_frozen BK296.out 6
    have hfz31_7 := blk_frozen BK296.out 7
    have hfz31_8 := blk_frozen BK296.out 8
    have hfz31_9 := blk_frozen BK296.out 9
    have hfz31_10 := blk_frozen BK296.out 10
    have hfz31_11 := blk_frozen BK296.out 11
    have hfz31_12 := blk_frozen BK296.out 12
    have hfz31_13 := blk_frozen BK296.out 13
    have hfz31_14 := blk_frozen BK296.out 14
    go_wp2_with (first | ((with_reducible refine gate_dst (N := 15) rfl ?_); (try (refine gate_guard (by rfl) ?_; dsimp only)); refine Kd.R_lit (Kd.int .i64) _ 3 ?hg (N := 15) ?hd (xs := ([a0_0, a0_1, a0_5, a0_6, ji4] : List Int)) (inner := [.int .i64 a0_0, .int .i64 a0_1, .int .i64 a0_5, .int .i64 a0_6, .int .i64 ji4]) (ok := fun _ => True) (okp := fun _ => True) ?hr ?hp (fun _ hk => hk) trivial (Below.refl _ _) (Nat.le_refl _) (by simp) ?_; (case hd => rfl); (case hg => rfl); (case hr => first | (go_simp; done) | (go_simp; rfl)); (case hp => exact (Reps.one (show Kd.M (Kd.int .i64) _ _ _ a0_0 [.int .i64 a0_0] from rfl) (Reps.one (show Kd.M (Kd.int .i64) _ _ _ a0_1 [.int .i64 a0_1] from rfl) (Reps.one (show Kd.M (Kd.int .i64) _ _ _ a0_5 [.int .i64 a0_5] from rfl) (Reps.one (show Kd.M (Kd.int .i64) _ _ _ a0_6 [.int .i64 a0_6] from rfl) (Reps.one (show Kd.M (Kd.int .i64) _ _ _ ji4 [.int .i64 ji4] from rfl) (Reps.none _ _))))))); intro v298 w32 ho33 hb hg_ hnew_; clear hg_ hnew_; (first | rw [← Ny297.out] at ho33 | (simp only [Int.reduceToNat] at ho33; rw [← Ny297.out] at ho33)); have n0_ := Aside0.mk (Kd.R_lower ho33 (below_size (by repeat (first | (with_reducible first | exact HB.out | apply below_alloc | apply pw_below_drewN | apply below_drew1 | refine below_set ?_ GE296.out) | exact HB.out)))); have n1_ := Aside0.mk (blk_below (g := gb296) (o := .cells #[.int .i64 a0_0, .int .i64 a0_1, .int .u32 a0_2, .int .u32 a0_3, .int .i64 a0_4, .int .i64 a0_5, .int .i64 a0_6, .int .i64 a0_7, .int .i64 a0_8, .bool a0_9, .bool a0_10, .int .u32 a0_11, .int .u32 a0_12, .slice A0_13 l0_13.length c0_13, .slice A0_14 l0_14.length c0_14] 26 (0, 0)) (by (with_reducible repeat (first | refine blk_drewN ?_ _ | refine blk_drew ?_ | refine blk_alloc ?_ _)); exact BK296.out) hb); have n2_ := Aside0.mk (below_step (by repeat (first | (with_reducible first | exact HB.out | apply below_alloc | apply pw_below_drewN | apply below_drew1 | refine below_set ?_ GE296.out) | exact HB.out)) hb); clear BK296; clear HB; have HO299 := n0_; have BK296 := n1_; have HB := n2_; clear n0_ n1_ n2_; clear hb ho33; obtain ⟨Ao34, co34, eo34⟩ := Kd.R_slice HO299.out; subst eo34) | ((with_reducible refine gate_callee (f := 24) rfl ?_); refine goesL_ (some 16) rfl rfl Try.func24 (by kernel_rfl) rfl #[.slice Ao34 y297.length co34] rfl (by (try simp only [List.map_toArray, List.map_cons, List.map_nil]); first | done | rfl | (simp only [List.length_drop, List.length_take]; rfl)) ?_; (with_reducible refine (wire_words.calls k _ _ y297 true _ ?side1 ?side2 A5.out).mono ?_); (case side1 => repeat (first | exact (Kd.R_reads' HO299.out).2.2 | (with_reducible refine Kd.C_alloc ?_ _) | (with_reducible refine Kd.C_drewN ?_ _) | (with_reducible refine Kd.C_drew ?_))); (case side2 => exact (Kd.R_reads' HO299.out).2.1); rintro e w' ⟨rfl, ⟨nd, rfl⟩⟩; refine ⟨_, rfl, ?_⟩; have hcz35_0 : w32.cell? ⟨gb296, 0, none⟩ = some (.int .i64 a0_0) := (blk_cell BK296.out 0).trans rfl; have hcz35_1 : w32.cell? ⟨gb296, 1, none⟩ = some (.int .i64 a0_1) := (blk_cell BK296.out 1).trans rfl; have hcz35_2 : w32.cell? ⟨gb296, 2, none⟩ = some (.int .u32 a0_2) := (blk_cell BK296.out 2).trans rfl; have hcz35_3 : w32.cell? ⟨gb296, 3, none⟩ = some (.int .u32 a0_3) := (blk_cell BK296.out 3).trans rfl; have hcz35_4 : w32.cell? ⟨gb296, 4, none⟩ = some (.int .i64 a0_4) := (blk_cell BK296.out 4).trans rfl; have hcz35_5 : w32.cell? ⟨gb296, 5, none⟩ = some (.int .i64 a0_5) := (blk_cell BK296.out 5).trans rfl; have hcz35_6 : w32.cell? ⟨gb296, 6, none⟩ = some (.int .i64 a0_6) := (blk_cell BK296.out 6).trans rfl; have hcz35_7 : w32.cell? ⟨gb296, 7, none⟩ = some (.int .i64 a0_7) := (blk_cell BK296.out 7).trans rfl; have hcz35_8 : w32.cell? ⟨gb296, 8, none⟩ = some (.int .i64 a0_8) := (blk_cell BK296.out 8).trans rfl; have hcz35_9 : w32.cell? ⟨gb296, 9, none⟩ = some (.bool a0_9) := (blk_cell BK296.out 9).trans rfl; have hcz35_10 : w32.cell? ⟨gb296, 10, none⟩ = some (.bool a0_10) := (blk_cell BK296.out 10).trans rfl; have hcz35_11 : w32.cell? ⟨gb296, 11, none⟩ = some (.int .u32 a0_11) := (blk_cell BK296.out 11).trans rfl; have hcz35_12 : w32.cell? ⟨gb296, 12, none⟩ = some (.int .u32 a0_12) := (blk_cell BK296.out 12).trans rfl; have hcz35_13 : w32.cell? ⟨gb296, 13, none⟩ = some (.slice A0_13 l0_13.length c0_13) := (blk_cell BK296.out 13).trans rfl; have hcz35_14 : w32.cell? ⟨gb296, 14, none⟩ = some (.slice A0_14 l0_14.length c0_14) := (blk_cell BK296.out 14).trans rfl; have hfz35_0 := blk_frozen BK296.out 0; have hfz35_1 := blk_frozen BK296.out 1; have hfz35_2 := blk_frozen BK296.out 2; have hfz35_3 := blk_frozen BK296.out 3; have hfz35_4 := blk_frozen BK296.out 4; have hfz35_5 := blk_frozen BK296.out 5; have hfz35_6 := blk_frozen BK296.out 6; have hfz35_7 := blk_frozen BK296.out 7; have hfz35_8 := blk_frozen BK296.out 8; have hfz35_9 := blk_frozen BK296.out 9; have hfz35_10 := blk_frozen BK296.out 10; have hfz35_11 := blk_frozen BK296.out 11; have hfz35_12 := blk_frozen BK296.out 12; have hfz35_13 := blk_frozen BK296.out 13; have hfz35_14 := blk_frozen BK296.out 14))
    go_meet
    case rel => exact ⟨_, (false), (by first | rfl | (simp; done) | (simp [*]; done)), H', ⟨by first | omega | exact Nat.le_refl _⟩, ⟨by (with_reducible repeat (first | refine blk_drewN ?_ _ | refine blk_drew ?_ | refine blk_alloc ?_ _)); exact BK296.out⟩, ⟨by repeat (first | (with_reducible first | exact HB.out | apply below_alloc | apply pw_below_drewN | apply below_drew1 | refine below_set ?_ GE296.out) | exact HB.out)⟩⟩
  ·replace c6 := Bool.eq_false_iff.mpr c6
   subst c6
   have H1 : (wire_Check.j0 k false a0_0 a0_1 a0_2 a0_3 a0_4 a0_5 a0_6 a0_7 a0_8 a0_9 a0_10 a0_11 a0_12 l0_13 l0_14) = some r := by rw [if_neg (show ¬ (false = true) by decide)] at H; exact H
   clear H
   have H := H1
   clear H1
   have H' := Aside0.mk H
   clear H
   have hcz36_0 : w3.cell? ⟨gb296, 0, none⟩ = some (.int .i64 a0_0) := (blk_cell BK296.out 0).trans rfl
   have hcz36_1 : w3.cell? ⟨gb296, 1, none⟩ = some (.int .i64 a0_1) := (blk_cell BK296.out 1).trans rfl
   have hcz36_2 : w3.cell? ⟨gb296, 2, none⟩ = some (.int .u32 a0_2) := (blk_cell BK296.out 2).trans rfl
   have hcz36_3 : w3.cell? ⟨gb296, 3, none⟩ = some (.int .u32 a0_3) := (blk_cell BK296.out 3).trans rfl
   have hcz36_4 : w3.cell? ⟨gb296, 4, none⟩ = some (.int .i64 a0_4) := (blk_cell BK296.out 4).trans rfl
   have hcz36_5 : w3.cell? ⟨gb296, 5, none⟩ = some (.int .i64 a0_5) := (blk_cell BK296.out 5).trans rfl
   have hcz36_6 : w3.cell? ⟨gb296, 6, none⟩ = some (.int .i64 a0_6) := (blk_cell BK296.out 6).trans rfl
   have hcz36_7 : w3.cell? ⟨gb296, 7, none⟩ = some (.int .i64 a0_7) := (blk_cell BK296.out 7).trans rfl
   have hcz36_8 : w3.cell? ⟨gb296, 8, none⟩ = some (.int .i64 a0_8) := (blk_cell BK296.out 8).trans rfl
   have hcz36_9 : w3.cell? ⟨gb296, 9, none⟩ = some (.bool a0_9) := (blk_cell BK296.out 9).trans rfl
   have hcz36_10 : w3.cell? ⟨gb296, 10, none⟩ = some (.bool a0_10) := (blk_cell BK296.out 10).trans rfl
   have hcz36_11 : w3.cell? ⟨gb296, 11, none⟩ = some (.int .u32 a0_11) := (blk_cell BK296.out 11).trans rfl
   have hcz36_12 : w3.cell? ⟨gb296, 12, none⟩ = some (.int .u32 a0_12) := (blk_cell BK296.out 12).trans rfl
   have hcz36_13 : w3.cell? ⟨gb296, 13, none⟩ = some (.slice A0_13 l0_13.length c0_13) := (blk_cell BK296.out 13).trans rfl
   have hcz36_14 : w3.cell? ⟨gb296, 14, none⟩ = some (.slice A0_14 l0_14.length c0_14) := (blk_cell BK296.out 14).trans rfl
   have hfz36_0 := blk_frozen BK296.out 0
   have hfz36_1 := blk_frozen BK296.out 1
   have hfz36_2 := blk_frozen BK296.out 2
   have hfz36_3 := blk_frozen BK296.out 3
   have hfz36_4 := blk_frozen BK296.out 4
   have hfz36_5 := blk_frozen BK296.out 5
   have hfz36_6 := blk_frozen BK296.out 6
   have hfz36_7 := blk_frozen BK296.out 7
   have hfz36_8 := blk_frozen BK296.out 8
   have hfz36_9 := blk_frozen BK296.out 9
   have hfz36_10 := blk_frozen BK296.out 10
   have hfz36_11 := blk_frozen BK296.out 11
   have hfz36_12 := blk_frozen BK296.out 12
   have hfz36_13 := blk_frozen BK296.out 13
   have hfz36_14 := blk_frozen BK296.out 14
   go_wp2_with (first | ((with_reducible refine gate_dst (N := 15) rfl ?_); (try (refine gate_guard (by rfl) ?_; dsimp only)); refine Kd.R_lit (Kd.int .i64) _ 3 ?hg (N := 15) ?hd (xs := ([a0_0, a0_1, a0_5, a0_6, ji4] : List Int)) (inner := [.int .i64 a0_0, .int .i64 a0_1, .int .i64 a0_5, .int .i64 a0_6, .int .i64 ji4]) (ok := fun _ => True) (okp := fun _ => True) ?hr ?hp (fun _ hk => hk) trivial (Below.refl _ _) (Nat.le_refl _) (by simp) ?_; (case hd => rfl); (case hg => rfl); (case hr => first | (go_simp; done) | (go_simp; rfl)); (case hp => exact (Reps.one (show Kd.M (Kd.int .i64) _ _ _ a0_0 [.int .i64 a0_0] from rfl) (Reps.one (show Kd.M (Kd.int .i64) _ _ _ a0_1 [.int .i64 a0_1] from rfl) (Reps.one (show Kd.M (Kd.int .i64) _ _ _ a0_5 [.int .i64 a0_5] from rfl) (Reps.one (show Kd.M (Kd.int .i64) _ _ _ a0_6 [.int .i64 a0_6] from rfl) (Reps.one (show Kd.M (Kd.int .i64) _ _ _ ji4 [.int .i64 ji4] from rfl) (Reps.none _ _))))))); intro v298 w37 ho38 hb hg_ hnew_; clear hg_ hnew_; (first | rw [← Ny297.out] at ho38 | (simp only [Int.reduceToNat] at ho38; rw [← Ny297.out] at ho38)); have n0_ := Aside0.mk (Kd.R_lower ho38 (below_size (by repeat (first | (with_reducible first | exact HB.out | apply below_alloc | apply pw_below_drewN | apply below_drew1 | refine below_set ?_ GE296.out) | exact HB.out)))); have n1_ := Aside0.mk (blk_below (g := gb296) (o := .cells #[.int .i64 a0_0, .int .i64 a0_1, .int .u32 a0_2, .int .u32 a0_3, .int .i64 a0_4, .int .i64 a0_5, .int .i64 a0_6, .int .i64 a0_7, .int .i64 a0_8, .bool a0_9, .bool a0_10, .int .u32 a0_11, .int .u32 a0_12, .slice A0_13 l0_13.length c0_13, .slice A0_14 l0_14.length c0_14] 26 (0, 0)) (by (with_reducible repeat (first | refine blk_drewN ?_ _ | refine blk_drew ?_ | refine blk_alloc ?_ _)); exact BK296.out) hb); have n2_ := Aside0.mk (below_step (by repeat (first | (with_reducible first | exact HB.out | apply below_alloc | apply pw_below_drewN | apply below_drew1 | refine below_set ?_ GE296.out) | exact HB.out)) hb); clear BK296; clear HB; have HO299 := n0_; have BK296 := n1_; have HB := n2_; clear n0_ n1_ n2_; clear hb ho38; obtain ⟨Ao39, co39, eo39⟩ := Kd.R_slice HO299.out; subst eo39) | ((with_reducible refine gate_callee (f := 24) rfl ?_); refine goesL_ (some 16) rfl rfl Try.func24 (by kernel_rfl) rfl #[.slice Ao39 y297.length co39] rfl (by (try simp only [List.map_toArray, List.map_cons, List.map_nil]); first | done | rfl | (simp only [List.length_drop, List.length_take]; rfl)) ?_; (with_reducible refine (wire_words.calls k _ _ y297 false _ ?side1 ?side2 A5.out).mono ?_); (case side1 => repeat (first | exact (Kd.R_reads' HO299.out).2.2 | (with_reducible refine Kd.C_alloc ?_ _) | (with_reducible refine Kd.C_drewN ?_ _) | (with_reducible refine Kd.C_drew ?_))); (case side2 => exact (Kd.R_reads' HO299.out).2.1); rintro e w' ⟨rfl, ⟨nd, rfl⟩⟩; refine ⟨_, rfl, ?_⟩))
   go_meet
   case rel => exact ⟨_, (false), (by first | rfl | (simp; done) | (simp [*]; done)), H', ⟨by first | omega | exact Nat.le_refl _⟩, ⟨by (with_reducible repeat (first | refine blk_drewN ?_ _ | refine blk_drew ?_ | refine blk_alloc ?_ _)); exact BK296.out⟩, ⟨by repeat (first | (with_reducible first | exact HB.out | apply below_alloc | apply pw_below_drewN | apply below_drew1 | refine below_set ?_ GE296.out) | exact HB.out)⟩⟩
 case rest =>
  clear HC2
  try clear c1
  try clear c2
  try clear p2
  try clear c6
  try clear c7
  try clear c7b0
  try clear c8
  try clear c8b0
  try clear c9
  try clear c9b0
  try clear c10
  try clear c10b0
  try clear c14
  try clear c24
  try clear hcz11_0
  try clear hcz11_1
  try clear hcz11_10
  try clear hcz11_11
  try clear hcz11_12
  try clear hcz11_13
  try clear hcz11_14
  try clear hcz11_2
  try clear hcz11_3
  try clear hcz11_4
  try clear hcz11_5
  try clear hcz11_6
  try clear hcz11_7
  try clear hcz11_8
  try clear hcz11_9
  try clear hcz15_0
  try clear hcz15_1
  try clear hcz15_10
  try clear hcz15_11
  try clear hcz15_12
  try clear hcz15_13
  try clear hcz15_14
  try clear hcz15_2
  try clear hcz15_3
  try clear hcz15_4
  try clear hcz15_5
  try clear hcz15_6
  try clear hcz15_7
  try clear hcz15_8
  try clear hcz15_9
  try clear hcz16_0
  try clear hcz16_1
  try clear hcz16_10
  try clear hcz16_11
  try clear hcz16_12
  try clear hcz16_13
  try clear hcz16_14
  try clear hcz16_2
  try clear hcz16_3
  try clear hcz16_4
  try clear hcz16_5
  try clear hcz16_6
  try clear hcz16_7
  try clear hcz16_8
  try clear hcz16_9
  try clear hcz20_0
  try clear hcz20_1
  try clear hcz20_10
  try clear hcz20_11
  try clear hcz20_12
  try clear hcz20_13
  try clear hcz20_14
  try clear hcz20_2
  try clear hcz20_3
  try clear hcz20_4
  try clear hcz20_5
  try clear hcz20_6
  try clear hcz20_7
  try clear hcz20_8
  try clear hcz20_9
  try clear hcz21_0
  try clear hcz21_1
  try clear hcz21_10
  try clear hcz21_11
  try clear hcz21_12
  try clear hcz21_13
  try clear hcz21_14
  try clear hcz21_2
  try clear hcz21_3
  try clear hcz21_4
  try clear hcz21_5
  try clear hcz21_6
  try clear hcz21_7
  try clear hcz21_8
  try clear hcz21_9
  try clear hcz25_0
  try clear hcz25_1
  try clear hcz25_10
  try clear hcz25_11
  try clear hcz25_12
  try clear hcz25_13
  try clear hcz25_14
  try clear hcz25_2
  try clear hcz25_3
  try clear hcz25_4
  try clear hcz25_5
  try clear hcz25_6
  try clear hcz25_7
  try clear hcz25_8
  try clear hcz25_9
  try clear hcz26_0
  try clear hcz26_1
  try clear hcz26_10
  try clear hcz26_11
  try clear hcz26_12
  try clear hcz26_13
  try clear hcz26_14
  try clear hcz26_2
  try clear hcz26_3
  try clear hcz26_4
  try clear hcz26_5
  try clear hcz26_6
  try clear hcz26_7
  try clear hcz26_8
  try clear hcz26_9
  try clear hcz30_0
  try clear hcz30_1
  try clear hcz30_10
  try clear hcz30_11
  try clear hcz30_12
  try clear hcz30_13
  try clear hcz30_14
  try clear hcz30_2
  try clear hcz30_3
  try clear hcz30_4
  try clear hcz30_5
  try clear hcz30_6
  try clear hcz30_7
  try clear hcz30_8
  try clear hcz30_9
  try clear hcz31_0
  try clear hcz31_1
  try clear hcz31_10
  try clear hcz31_11
  try clear hcz31_12
  try clear hcz31_13
  try clear hcz31_14
  try clear hcz31_2
  try clear hcz31_3
  try clear hcz31_4
  try clear hcz31_5
  try clear hcz31_6
  try clear hcz31_7
  try clear hcz31_8
  try clear hcz31_9
  try clear hcz35_0
  try clear hcz35_1
  try clear hcz35_10
  try clear hcz35_11
  try clear hcz35_12
  try clear hcz35_13
  try clear hcz35_14
  try clear hcz35_2
  try clear hcz35_3
  try clear hcz35_4
  try clear hcz35_5
  try clear hcz35_6
  try clear hcz35_7
  try clear hcz35_8
  try clear hcz35_9
  try clear hcz36_0
  try clear hcz36_1
  try clear hcz36_10
  try clear hcz36_11
  try clear hcz36_12
  try clear hcz36_13
  try clear hcz36_14
  try clear hcz36_2
  try clear hcz36_3
  try clear hcz36_4
  try clear hcz36_5
  try clear hcz36_6
  try clear hcz36_7
  try clear hcz36_8
  try clear hcz36_9
  try clear hfz11_0
  try clear hfz11_1
  try clear hfz11_10
  try clear hfz11_11
  try clear hfz11_12
  try clear hfz11_13
  try clear hfz11_14
  try clear hfz11_2
  try clear hfz11_3
  try clear hfz11_4
  try clear hfz11_5
  try clear hfz11_6
  try clear hfz11_7
  try clear hfz11_8
  try clear hfz11_9
  try clear hfz15_0
  try clear hfz15_1
  try clear hfz15_10
  try clear hfz15_11
  try clear hfz15_12
  try clear hfz15_13
  try clear hfz15_14
  try clear hfz15_2
  try clear hfz15_3
  try clear hfz15_4
  try clear hfz15_5
  try clear hfz15_6
  try clear hfz15_7
  try clear hfz15_8
  try clear hfz15_9
  try clear hfz16_0
  try clear hfz16_1
  try clear hfz16_10
  try clear hfz16_11
  try clear hfz16_12
  try clear hfz16_13
  try clear hfz16_14
  try clear hfz16_2
  try clear hfz16_3
  try clear hfz16_4
  try clear hfz16_5
  try clear hfz16_6
  try clear hfz16_7
  try clear hfz16_8
  try clear hfz16_9
  try clear hfz20_0
  try clear hfz20_1
  try clear hfz20_10
  try clear hfz20_11
  try clear hfz20_12
  try clear hfz20_13
  try clear hfz20_14
  try clear hfz20_2
  try clear hfz20_3
  try clear hfz20_4
  try clear hfz20_5
  try clear hfz20_6
  try clear hfz20_7
  try clear hfz20_8
  try clear hfz20_9
  try clear hfz21_0
  try clear hfz21_1
  try clear hfz21_10
  try clear hfz21_11
  try clear hfz21_12
  try clear hfz21_13
  try clear hfz21_14
  try clear hfz21_2
  try clear hfz21_3
  try clear hfz21_4
  try clear hfz21_5
  try clear hfz21_6
  try clear hfz21_7
  try clear hfz21_8
  try clear hfz21_9
  try clear hfz25_0
  try clear hfz25_1
  try clear hfz25_10
  try clear hfz25_11
  try clear hfz25_12
  try clear hfz25_13
  try clear hfz25_14
  try clear hfz25_2
  try clear hfz25_3
  try clear hfz25_4
  try clear hfz25_5
  try clear hfz25_6
  try clear hfz25_7
  try clear hfz25_8
  try clear hfz25_9
  try clear hfz26_0
  try clear hfz26_1
  try clear hfz26_10
  try clear hfz26_11
  try clear hfz26_12
  try clear hfz26_13
  try clear hfz26_14
  try clear hfz26_2
  try clear hfz26_3
  try clear hfz26_4
  try clear hfz26_5
  try clear hfz26_6
  try clear hfz26_7
  try clear hfz26_8
  try clear hfz26_9
  try clear hfz30_0
  try clear hfz30_1
  try clear hfz30_10
  try clear hfz30_11
  try clear hfz30_12
  try clear hfz30_13
  try clear hfz30_14
  try clear hfz30_2
  try clear hfz30_3
  try clear hfz30_4
  try clear hfz30_5
  try clear hfz30_6
  try clear hfz30_7
  try clear hfz30_8
  try clear hfz30_9
  try clear hfz31_0
  try clear hfz31_1
  try clear hfz31_10
  try clear hfz31_11
  try clear hfz31_12
  try clear hfz31_13
  try clear hfz31_14
  try clear hfz31_2
  try clear hfz31_3
  try clear hfz31_4
  try clear hfz31_5
  try clear hfz31_6
  try clear hfz31_7
  try clear hfz31_8
  try clear hfz31_9
  try clear hfz35_0
  try clear hfz35_1
  try clear hfz35_10
  try clear hfz35_11
  try clear hfz35_12
  try clear hfz35_13
  try clear hfz35_14
  try clear hfz35_2
  try clear hfz35_3
  try clear hfz35_4
  try clear hfz35_5
  try clear hfz35_6
  try clear hfz35_7
  try clear hfz35_8
  try clear hfz35_9
  try clear hfz36_0
  try clear hfz36_1
  try clear hfz36_10
  try clear hfz36_11
  try clear hfz36_12
  try clear hfz36_13
  try clear hfz36_14
  try clear hfz36_2
  try clear hfz36_3
  try clear hfz36_4
  try clear hfz36_5
  try clear hfz36_6
  try clear hfz36_7
  try clear hfz36_8
  try clear hfz36_9
  obtain ⟨kq, x3_1, rfl, HA, HJ1, BK296, HB⟩ := hcut
  cases kq with
  | zero => exact absurd HA.out (by simp [wire_Check.j0])
  | succ kj1 =>
   have H := HA.out
   clear HA
   simp only [wire_Check.j0] at H
   have HC40 := Aside0.mk H
   clear H
   go_upto_region 2 with (fail)
   go_cut [74] (fun v74 wc => ∃ (kq : Nat) (x74_39 : Bool), v74 = .bool x74_39 ∧ Aside0 (wire_Check.j1 kq x74_39 = some r) ∧ Aside0 (kq ≤ kj1) ∧ Aside0 (wc.heap[gb296]? = some (.cells #[.int .i64 a0_0, .int .i64 a0_1, .int .u32 a0_2, .int .u32 a0_3, .int .i64 a0_4, .int .i64 a0_5, .int .i64 a0_6, .int .i64 a0_7, .int .i64 a0_8, .bool a0_9, .bool a0_10, .int .u32 a0_11, .int .u32 a0_12, (.slice A0_13 l0_13.length c0_13), (.slice A0_14 l0_14.length c0_14)] 26 (0, 0))) ∧ Aside0 (Below w.heap.size w wc))
   case first =>
    have H := HC40.out
    clear HC40
    by_cases c41 : x3_1 = true
    ·subst c41
     have H1 : (if (l0_13.length : Int) > 4 then (wire_Check.j1 kj1 true) else (if (l0_14.length : Int) > 65000 then (wire_Check.j1 kj1 true) else (if a0_10 = true then ((wire_Options.f kj1 a0_0 a0_1 a0_2 a0_3 a0_4 a0_5 a0_6 a0_7 a0_8 a0_9 a0_10 a0_11 a0_12 l0_13 l0_14).bind fun t301 => (wire_Check.j1 kj1 (decide ((t301.length : Int) > 40)))) else (if (Go.bits .or .u32 a0_11 a0_12) = 0 then ((wire_Options.f kj1 a0_0 a0_1 a0_2 a0_3 a0_4 a0_5 a0_6 a0_7 a0_8 a0_9 a0_10 a0_11 a0_12 l0_13 l0_14).bind fun t304 => (wire_Check.j1 kj1 (decide ((t304.length : Int) > 40)))) else (wire_Check.j1 kj1 true))))) = some r := by rw [if_pos rfl] at H; exact H
     clear H
     have H := H1
     clear H1
     by_cases c42 : (l0_13.length : Int) > 4
     ·rw [if_pos c42] at H
      have c42b0 : decide (4 < (l0_13.length : Int)) = true := decide_eq_true c42
      have c42b1 : decide (4 < l0_13.length) = true := decide_eq_true (by omega)
      clear c42
      (first | rw [c42b0] | (simp only [i64_w, i32_w]; rw [c42b0]) | skip)
      have H' := Aside0.mk H
      clear H
      have hcz43_0 : wc.cell? ⟨gb296, 0, none⟩ = some (.int .i64 a0_0) := (blk_cell BK296.out 0).trans rfl
      have hcz43_1 : wc.cell? ⟨gb296, 1, none⟩ = some (.int .i64 a0_1) := (blk_cell BK296.out 1).trans rfl
      have hcz43_2 : wc.cell? ⟨gb296, 2, none⟩ = some (.int .u32 a0_2) := (blk_cell BK296.out 2).trans rfl
      have hcz43_3 : wc.cell? ⟨gb296, 3, none⟩ = some (.int .u32 a0_3) := (blk_cell BK296.out 3).trans rfl
      have hcz43_4 : wc.cell? ⟨gb296, 4, none⟩ = some (.int .i64 a0_4) := (blk_cell BK296.out 4).trans rfl
      have hcz43_5 : wc.cell? ⟨gb296, 5, none⟩ = some (.int .i64 a0_5) := (blk_cell BK296.out 5).trans rfl
      have hcz43_6 : wc.cell? ⟨gb296, 6, none⟩ = some (.int .i64 a0_6) := (blk_cell BK296.out 6).trans rfl
      have hcz43_7 : wc.cell? ⟨gb296, 7, none⟩ = some (.int .i64 a0_7) := (blk_cell BK296.out 7).trans rfl
      have hcz43_8 : wc.cell? ⟨gb296, 8, none⟩ = some (.int .i64 a0_8) := (blk_cell BK296.out 8).trans rfl
      have hcz43_9 : wc.cell? ⟨gb296, 9, none⟩ = some (.bool a0_9) := (blk_cell BK296.out 9).trans rfl
      have hcz43_10 : wc.cell? ⟨gb296, 10, none⟩ = some (.bool a0_10) := (blk_cell BK296.out 10).trans rfl
      have hcz43_11 : wc.cell? ⟨gb296, 11, none⟩ = some (.int .u32 a0_11) := (blk_cell BK296.out 11).trans rfl
      have hcz43_12 : wc.cell? ⟨gb296, 12, none⟩ = some (.int .u32 a0_12) := (blk_cell BK296.out 12).trans rfl
      have hcz43_13 : wc.cell? ⟨gb296, 13, none⟩ = some (.slice A0_13 l0_13.length c0_13) := (blk_cell BK296.out 13).trans rfl
      have hcz43_14 : wc.cell? ⟨gb296, 14, none⟩ = some (.slice A0_14 l0_14.length c0_14) := (blk_cell BK296.out 14).trans rfl
      have hfz43_0 := blk_frozen BK296.out 0
      have hfz43_1 := blk_frozen BK296.out 1
      have hfz43_2 := blk_frozen BK296.out 2
      have hfz43_3 := blk_frozen BK296.out 3
      have hfz43_4 := blk_frozen BK296.out 4
      have hfz43_5 := blk_frozen BK296.out 5
      have hfz43_6 := blk_frozen BK296.out 6
      have hfz43_7 := blk_frozen BK296.out 7
      have hfz43_8 := blk_frozen BK296.out 8
      have hfz43_9 := blk_frozen BK296.out 9
      have hfz43_10 := blk_frozen BK296.out 10
      have hfz43_11 := blk_frozen BK296.out 11
      have hfz43_12 := blk_frozen BK296.out 12
      have hfz43_13 := blk_frozen BK296.out 13
      have hfz43_14 := blk_frozen BK296.out 14
      go_wp2
      go_meet
      case rel => exact ⟨_, (true), (by first | rfl | (simp; done) | (simp [*]; done)), H', ⟨by have := HJ1.out; first | omega | exact Nat.le_refl _⟩, ⟨by (with_reducible repeat (first | refine blk_drewN ?_ _ | refine blk_drew ?_ | refine blk_alloc ?_ _)); exact BK296.out⟩, ⟨by repeat (first | (with_reducible first | exact HB.out | apply below_alloc | apply pw_below_drewN | apply below_drew1 | refine below_set ?_ GE296.out) | exact HB.out)⟩⟩
     ·rw [if_neg c42] at H
      have c42b0 : decide (4 < (l0_13.length : Int)) = false := decide_eq_false c42
      have c42b1 : decide (4 < l0_13.length) = false := decide_eq_false (by omega)
      clear c42
      (first | rw [c42b0] | (simp only [i64_w, i32_w]; rw [c42b0]) | skip)
      by_cases c44 : (l0_14.length : Int) > 65000
      ·rw [if_pos c44] at H
       have c44b0 : decide (65000 < (l0_14.length : Int)) = true := decide_eq_true c44
       have c44b1 : decide (65000 < l0_14.length) = true := decide_eq_true (by omega)
       clear c44
       have H' := Aside0.mk H
       clear H
       have hcz45_0 : wc.cell? ⟨gb296, 0, none⟩ = some (.int .i64 a0_0) := (blk_cell BK296.out 0).trans rfl
       have hcz45_1 : wc.cell? ⟨gb296, 1, none⟩ = some (.int .i64 a0_1) := (blk_cell BK296.out 1).trans rfl
       have hcz45_2 : wc.cell? ⟨gb296, 2, none⟩ = some (.int .u32 a0_2) := (blk_cell BK296.out 2).trans rfl
       have hcz45_3 : wc.cell? ⟨gb296, 3, none⟩ = some (.int .u32 a0_3) := (blk_cell BK296.out 3).trans rfl
       have hcz45_4 : wc.cell? ⟨gb296, 4, none⟩ = some (.int .i64 a0_4) := (blk_cell BK296.out 4).trans rfl
       have hcz45_5 : wc.cell? ⟨gb296, 5, none⟩ = some (.int .i64 a0_5) := (blk_cell BK296.out 5).trans rfl
       have hcz45_6 : wc.cell? ⟨gb296, 6, none⟩ = some (.int .i64 a0_6) := (blk_cell BK296.out 6).trans rfl
       have hcz45_7 : wc.cell? ⟨gb296, 7, none⟩ = some (.int .i64 a0_7) := (blk_cell BK296.out 7).trans rfl
       have hcz45_8 : wc.cell? ⟨gb296, 8, none⟩ = some (.int .i64 a0_8) := (blk_cell BK296.out 8).trans rfl
       have hcz45_9 : wc.cell? ⟨gb296, 9, none⟩ = some (.bool a0_9) := (blk_cell BK296.out 9).trans rfl
       have hcz45_10 : wc.cell? ⟨gb296, 10, none⟩ = some (.bool a0_10) := (blk_cell BK296.out 10).trans rfl
       have hcz45_11 : wc.cell? ⟨gb296, 11, none⟩ = some (.int .u32 a0_11) := (blk_cell BK296.out 11).trans rfl
       have hcz45_12 : wc.cell? ⟨gb296, 12, none⟩ = some (.int .u32 a0_12) := (blk_cell BK296.out 12).trans rfl
       have hcz45_13 : wc.cell? ⟨gb296, 13, none⟩ = some (.slice A0_13 l0_13.length c0_13) := (blk_cell BK296.out 13).trans rfl
       have hcz45_14 : wc.cell? ⟨gb296, 14, none⟩ = some (.slice A0_14 l0_14.length c0_14) := (blk_cell BK296.out 14).trans rfl
       have hfz45_0 := blk_frozen BK296.out 0
       have hfz45_1 := blk_frozen BK296.out 1
       have hfz45_2 := blk_frozen BK296.out 2
       have hfz45_3 := blk_frozen BK296.out 3
       have hfz45_4 := blk_frozen BK296.out 4
       have hfz45_5 := blk_frozen BK296.out 5
       have hfz45_6 := blk_frozen BK296.out 6
       have hfz45_7 := blk_frozen BK296.out 7
       have hfz45_8 := blk_frozen BK296.out 8
       have hfz45_9 := blk_frozen BK296.out 9
       have hfz45_10 := blk_frozen BK296.out 10
       have hfz45_11 := blk_frozen BK296.out 11
       have hfz45_12 := blk_frozen BK296.out 12
       have hfz45_13 := blk_frozen BK296.out 13
       have hfz45_14 := blk_frozen BK296.out 14
       go_wp2
       go_meet
       case rel => exact ⟨_, (true), (by first | rfl | (simp; done) | (simp [*]; done)), H', ⟨by have := HJ1.out; first | omega | exact Nat.le_refl _⟩, ⟨by (with_reducible repeat (first | refine blk_drewN ?_ _ | refine blk_drew ?_ | refine blk_alloc ?_ _)); exact BK296.out⟩, ⟨by repeat (first | (with_reducible first | exact HB.out | apply below_alloc | apply pw_below_drewN | apply below_drew1 | refine below_set ?_ GE296.out) | exact HB.out)⟩⟩
      ·rw [if_neg c44] at H
       have c44b0 : decide (65000 < (l0_14.length : Int)) = false := decide_eq_false c44
       have c44b1 : decide (65000 < l0_14.length) = false := decide_eq_false (by omega)
       clear c44
       by_cases c46 : a0_10 = true
       ·subst c46
        have H1 : ((wire_Options.f kj1 a0_0 a0_1 a0_2 a0_3 a0_4 a0_5 a0_6 a0_7 a0_8 a0_9 true a0_11 a0_12 l0_13 l0_14).bind fun t301 => (wire_Check.j1 kj1 (decide ((t301.length : Int) > 40)))) = some r := by rw [if_pos rfl] at H; exact H
        clear H
        have H := H1
        clear H1
        replace H := Option.bind_eq_some_iff.mp H
        obtain ⟨t301, A470, H⟩ := H
        replace H : (wire_Check.j1 kj1 (decide ((t301.length : Int) > 40))) = some r := H
        have A47 := Aside0.mk A470
        clear A470
        have H' := Aside0.mk H
        clear H
        have hcz48_0 : wc.cell? ⟨gb296, 0, none⟩ = some (.int .i64 a0_0) := (blk_cell BK296.out 0).trans rfl
        have hcz48_1 : wc.cell? ⟨gb296, 1, none⟩ = some (.int .i64 a0_1) := (blk_cell BK296.out 1).trans rfl
        have hcz48_2 : wc.cell? ⟨gb296, 2, none⟩ = some (.int .u32 a0_2) := (blk_cell BK296.out 2).trans rfl
        have hcz48_3 : wc.cell? ⟨gb296, 3, none⟩ = some (.int .u32 a0_3) := (blk_cell BK296.out 3).trans rfl
        have hcz48_4 : wc.cell? ⟨gb296, 4, none⟩ = some (.int .i64 a0_4) := (blk_cell BK296.out 4).trans rfl
        have hcz48_5 : wc.cell? ⟨gb296, 5, none⟩ = some (.int .i64 a0_5) := (blk_cell BK296.out 5).trans rfl
        have hcz48_6 : wc.cell? ⟨gb296, 6, none⟩ = some (.int .i64 a0_6) := (blk_cell BK296.out 6).trans rfl
        have hcz48_7 : wc.cell? ⟨gb296, 7, none⟩ = some (.int .i64 a0_7) := (blk_cell BK296.out 7).trans rfl
        have hcz48_8 : wc.cell? ⟨gb296, 8, none⟩ = some (.int .i64 a0_8) := (blk_cell BK296.out 8).trans rfl
        have hcz48_9 : wc.cell? ⟨gb296, 9, none⟩ = some (.bool a0_9) := (blk_cell BK296.out 9).trans rfl
        have hcz48_10 : wc.cell? ⟨gb296, 10, none⟩ = some (.bool true) := (blk_cell BK296.out 10).trans rfl
        have hcz48_11 : wc.cell? ⟨gb296, 11, none⟩ = some (.int .u32 a0_11) := (blk_cell BK296.out 11).trans rfl
        have hcz48_12 : wc.cell? ⟨gb296, 12, none⟩ = some (.int .u32 a0_12) := (blk_cell BK296.out 12).trans rfl
        have hcz48_13 : wc.cell? ⟨gb296, 13, none⟩ = some (.slice A0_13 l0_13.length c0_13) := (blk_cell BK296.out 13).trans rfl
        have hcz48_14 : wc.cell? ⟨gb296, 14, none⟩ = some (.slice A0_14 l0_14.length c0_14) := (blk_cell BK296.out 14).trans rfl
        have hfz48_0 := blk_frozen BK296.out 0
        have hfz48_1 := blk_frozen BK296.out 1
        have hfz48_2 := blk_frozen BK296.out 2
        have hfz48_3 := blk_frozen BK296.out 3
        have hfz48_4 := blk_frozen BK296.out 4
        have hfz48_5 := blk_frozen BK296.out 5
        have hfz48_6 := blk_frozen BK296.out 6
        have hfz48_7 := blk_frozen BK296.out 7
        have hfz48_8 := blk_frozen BK296.out 8
        have hfz48_9 := blk_frozen BK296.out 9
        have hfz48_10 := blk_frozen BK296.out 10
        have hfz48_11 := blk_frozen BK296.out 11
        have hfz48_12 := blk_frozen BK296.out 12
        have hfz48_13 := blk_frozen BK296.out 13
        have hfz48_14 := blk_frozen BK296.out 14
        go_wp2_with (first | (go_at_call 16; (with_reducible refine (wire_Options.calls kj1 a0_0 a0_1 a0_2 a0_3 a0_4 a0_5 a0_6 a0_7 a0_8 a0_9 true a0_11 a0_12 _ _ l0_13 _ _ l0_14 t301 _ ?side1 ?side2 ?side3 ?side4 A47.out).mono ?_); (case side1 => repeat (first | exact (Kd.C_below HR0_13.out HB.out) | exact HR0_13.out | (with_reducible refine Kd.C_alloc ?_ _) | (with_reducible refine Kd.C_drewN ?_ _) | (with_reducible refine Kd.C_drew ?_))); (case side2 => exact HC0_13.out); (case side3 => repeat (first | exact (Kd.C_below HR0_14.out HB.out) | exact HR0_14.out | (with_reducible refine Kd.C_alloc ?_ _) | (with_reducible refine Kd.C_drewN ?_ _) | (with_reducible refine Kd.C_drew ?_))); (case side4 => exact HC0_14.out); rintro e w49 ⟨v302, rfl, ho0, hb⟩; have n0_ := Aside0.mk (Kd.R_lower ho0 (below_size (by repeat (first | (with_reducible first | exact HB.out | apply below_alloc | apply pw_below_drewN | apply below_drew1 | refine below_set ?_ GE296.out) | exact HB.out)))); have n1_ := Aside0.mk (blk_below (g := gb296) (o := .cells #[.int .i64 a0_0, .int .i64 a0_1, .int .u32 a0_2, .int .u32 a0_3, .int .i64 a0_4, .int .i64 a0_5, .int .i64 a0_6, .int .i64 a0_7, .int .i64 a0_8, .bool a0_9, .bool true, .int .u32 a0_11, .int .u32 a0_12, .slice A0_13 l0_13.length c0_13, .slice A0_14 l0_14.length c0_14] 26 (0, 0)) (by (with_reducible repeat (first | refine blk_drewN ?_ _ | refine blk_drew ?_ | refine blk_alloc ?_ _)); exact BK296.out) hb); have n2_ := Aside0.mk (below_step (by repeat (first | (with_reducible first | exact HB.out | apply below_alloc | apply pw_below_drewN | apply below_drew1 | refine below_set ?_ GE296.out) | exact HB.out)) hb); clear BK296; clear HB; have HO303 := n0_; have BK296 := n1_; have HB := n2_; clear n0_ n1_ n2_; (try clear hb); (try clear hb2); (try clear hk); (try clear hi); (try clear ho0); obtain ⟨Ao50, co50, eo50⟩ := Kd.R_slice HO303.out; subst eo50))
        go_meet
        case rel => exact ⟨_, (decide ((t301.length : Int) > 40)), (by first | rfl | (simp; done) | (simp [*]; done)), H', ⟨by have := HJ1.out; first | omega | exact Nat.le_refl _⟩, ⟨by (with_reducible repeat (first | refine blk_drewN ?_ _ | refine blk_drew ?_ | refine blk_alloc ?_ _)); exact BK296.out⟩, ⟨by repeat (first | (with_reducible first | exact HB.out | apply below_alloc | apply pw_below_drewN | apply below_drew1 | refine below_set ?_ GE296.out) | exact HB.out)⟩⟩
       ·replace c46 := Bool.eq_false_iff.mpr c46
        subst c46
        have H1 : (if (Go.bits .or .u32 a0_11 a0_12) = 0 then ((wire_Options.f kj1 a0_0 a0_1 a0_2 a0_3 a0_4 a0_5 a0_6 a0_7 a0_8 a0_9 false a0_11 a0_12 l0_13 l0_14).bind fun t304 => (wire_Check.j1 kj1 (decide ((t304.length : Int) > 40)))) else (wire_Check.j1 kj1 true)) = some r := by rw [if_neg (show ¬ (false = true) by decide)] at H; exact H
        clear H
        have H := H1
        clear H1
        by_cases c51 : (Go.bits .or .u32 a0_11 a0_12) = 0
        ·rw [if_pos c51] at H
         have c51b0 : ((Go.bits .or .u32 a0_11 a0_12) == 0) = true := beq_iff_eq.mpr c51
         have c51b1 : ((Go.bits .or .u32 a0_11 a0_12) != 0) = false := bne_eq_false_iff_eq.mpr c51
         clear c51
         replace H := Option.bind_eq_some_iff.mp H
         obtain ⟨t304, A520, H⟩ := H
         replace H : (wire_Check.j1 kj1 (decide ((t304.length : Int) > 40))) = some r := H
         have A52 := Aside0.mk A520
         clear A520
         have H' := Aside0.mk H
         clear H
         have hcz53_0 : wc.cell? ⟨gb296, 0, none⟩ = some (.int .i64 a0_0) := (blk_cell BK296.out 0).trans rfl
         have hcz53_1 : wc.cell? ⟨gb296, 1, none⟩ = some (.int .i64 a0_1) := (blk_cell BK296.out 1).trans rfl
         have hcz53_2 : wc.cell? ⟨gb296, 2, none⟩ = some (.int .u32 a0_2) := (blk_cell BK296.out 2).trans rfl
         have hcz53_3 : wc.cell? ⟨gb296, 3, none⟩ = some (.int .u32 a0_3) := (blk_cell BK296.out 3).trans rfl
         have hcz53_4 : wc.cell? ⟨gb296, 4, none⟩ = some (.int .i64 a0_4) := (blk_cell BK296.out 4).trans rfl
         have hcz53_5 : wc.cell? ⟨gb296, 5, none⟩ = some (.int .i64 a0_5) := (blk_cell BK296.out 5).trans rfl
         have hcz53_6 : wc.cell? ⟨gb296, 6, none⟩ = some (.int .i64 a0_6) := (blk_cell BK296.out 6).trans rfl
         have hcz53_7 : wc.cell? ⟨gb296, 7, none⟩ = some (.int .i64 a0_7) := (blk_cell BK296.out 7).trans rfl
         have hcz53_8 : wc.cell? ⟨gb296, 8, none⟩ = some (.int .i64 a0_8) := (blk_cell BK296.out 8).trans rfl
         have hcz53_9 : wc.cell? ⟨gb296, 9, none⟩ = some (.bool a0_9) := (blk_cell BK296.out 9).trans rfl
         have hcz53_10 : wc.cell? ⟨gb296, 10, none⟩ = some (.bool false) := (blk_cell BK296.out 10).trans rfl
         have hcz53_11 : wc.cell? ⟨gb296, 11, none⟩ = some (.int .u32 a0_11) := (blk_cell BK296.out 11).trans rfl
         have hcz53_12 : wc.cell? ⟨gb296, 12, none⟩ = some (.int .u32 a0_12) := (blk_cell BK296.out 12).trans rfl
         have hcz53_13 : wc.cell? ⟨gb296, 13, none⟩ = some (.slice A0_13 l0_13.length c0_13) := (blk_cell BK296.out 13).trans rfl
         have hcz53_14 : wc.cell? ⟨gb296, 14, none⟩ = some (.slice A0_14 l0_14.length c0_14) := (blk_cell BK296.out 14).trans rfl
         have hfz53_0 := blk_frozen BK296.out 0
         have hfz53_1 := blk_frozen BK296.out 1
         have hfz53_2 := blk_frozen BK296.out 2
         have hfz53_3 := blk_frozen BK296.out 3
         have hfz53_4 := blk_frozen BK296.out 4
         have hfz53_5 := blk_frozen BK296.out 5
         have hfz53_6 := blk_frozen BK296.out 6
         have hfz53_7 := blk_frozen BK296.out 7
         have hfz53_8 := blk_frozen BK296.out 8
         have hfz53_9 := blk_frozen BK296.out 9
         have hfz53_10 := blk_frozen BK296.out 10
         have hfz53_11 := blk_frozen BK296.out 11
         have hfz53_12 := blk_frozen BK296.out 12
         have hfz53_13 := blk_frozen BK296.out 13
         have hfz53_14 := blk_frozen BK296.out 14
         go_wp2_with (first | (go_at_call 16; (with_reducible refine (wire_Options.calls kj1 a0_0 a0_1 a0_2 a0_3 a0_4 a0_5 a0_6 a0_7 a0_8 a0_9 false a0_11 a0_12 _ _ l0_13 _ _ l0_14 t304 _ ?side1 ?side2 ?side3 ?side4 A52.out).mono ?_); (case side1 => repeat (first | exact (Kd.C_below HR0_13.out HB.out) | exact HR0_13.out | (with_reducible refine Kd.C_alloc ?_ _) | (with_reducible refine Kd.C_drewN ?_ _) | (with_reducible refine Kd.C_drew ?_))); (case side2 => exact HC0_13.out); (case side3 => repeat (first | exact (Kd.C_below HR0_14.out HB.out) | exact HR0_14.out | (with_reducible refine Kd.C_alloc ?_ _) | (with_reducible refine Kd.C_drewN ?_ _) | (with_reducible refine Kd.C_drew ?_))); (case side4 => exact HC0_14.out); rintro e w54 ⟨v305, rfl, ho0, hb⟩; have n0_ := Aside0.mk (Kd.R_lower ho0 (below_size (by repeat (first | (with_reducible first | exact HB.out | apply below_alloc | apply pw_below_drewN | apply below_drew1 | refine below_set ?_ GE296.out) | exact HB.out)))); have n1_ := Aside0.mk (blk_below (g := gb296) (o := .cells #[.int .i64 a0_0, .int .i64 a0_1, .int .u32 a0_2, .int .u32 a0_3, .int .i64 a0_4, .int .i64 a0_5, .int .i64 a0_6, .int .i64 a0_7, .int .i64 a0_8, .bool a0_9, .bool false, .int .u32 a0_11, .int .u32 a0_12, .slice A0_13 l0_13.length c0_13, .slice A0_14 l0_14.length c0_14] 26 (0, 0)) (by (with_reducible repeat (first | refine blk_drewN ?_ _ | refine blk_drew ?_ | refine blk_alloc ?_ _)); exact BK296.out) hb); have n2_ := Aside0.mk (below_step (by repeat (first | (with_reducible first | exact HB.out | apply below_alloc | apply pw_below_drewN | apply below_drew1 | refine below_set ?_ GE296.out) | exact HB.out)) hb); clear BK296; clear HB; have HO306 := n0_; have BK296 := n1_; have HB := n2_; clear n0_ n1_ n2_; (try clear hb); (try clear hb2); (try clear hk); (try clear hi); (try clear ho0); obtain ⟨Ao55, co55, eo55⟩ := Kd.R_slice HO306.out; subst eo55))
         go_meet
         case rel => exact ⟨_, (decide ((t304.length : Int) > 40)), (by first | rfl | (simp; done) | (simp [*]; done)), H', ⟨by have := HJ1.out; first | omega | exact Nat.le_refl _⟩, ⟨by (with_reducible repeat (first | refine blk_drewN ?_ _ | refine blk_drew ?_ | refine blk_alloc ?_ _)); exact BK296.out⟩, ⟨by repeat (first | (with_reducible first | exact HB.out | apply below_alloc | apply pw_below_drewN | apply below_drew1 | refine below_set ?_ GE296.out) | exact HB.out)⟩⟩
        ·rw [if_neg c51] at H
         have c51b0 : ((Go.bits .or .u32 a0_11 a0_12) == 0) = false := beq_eq_false_iff_ne.mpr c51
         have c51b1 : ((Go.bits .or .u32 a0_11 a0_12) != 0) = true := bne_iff_ne.mpr c51
         have H' := Aside0.mk H
         clear H
         have hcz56_0 : wc.cell? ⟨gb296, 0, none⟩ = some (.int .i64 a0_0) := (blk_cell BK296.out 0).trans rfl
         have hcz56_1 : wc.cell? ⟨gb296, 1, none⟩ = some (.int .i64 a0_1) := (blk_cell BK296.out 1).trans rfl
         have hcz56_2 : wc.cell? ⟨gb296, 2, none⟩ = some (.int .u32 a0_2) := (blk_cell BK296.out 2).trans rfl
         have hcz56_3 : wc.cell? ⟨gb296, 3, none⟩ = some (.int .u32 a0_3) := (blk_cell BK296.out 3).trans rfl
         have hcz56_4 : wc.cell? ⟨gb296, 4, none⟩ = some (.int .i64 a0_4) := (blk_cell BK296.out 4).trans rfl
         have hcz56_5 : wc.cell? ⟨gb296, 5, none⟩ = some (.int .i64 a0_5) := (blk_cell BK296.out 5).trans rfl
         have hcz56_6 : wc.cell? ⟨gb296, 6, none⟩ = some (.int .i64 a0_6) := (blk_cell BK296.out 6).trans rfl
         have hcz56_7 : wc.cell? ⟨gb296, 7, none⟩ = some (.int .i64 a0_7) := (blk_cell BK296.out 7).trans rfl
         have hcz56_8 : wc.cell? ⟨gb296, 8, none⟩ = some (.int .i64 a0_8) := (blk_cell BK296.out 8).trans rfl
         have hcz56_9 : wc.cell? ⟨gb296, 9, none⟩ = some (.bool a0_9) := (blk_cell BK296.out 9).trans rfl
         have hcz56_10 : wc.cell? ⟨gb296, 10, none⟩ = some (.bool false) := (blk_cell BK296.out 10).trans rfl
         have hcz56_11 : wc.cell? ⟨gb296, 11, none⟩ = some (.int .u32 a0_11) := (blk_cell BK296.out 11).trans rfl
         have hcz56_12 : wc.cell? ⟨gb296, 12, none⟩ = some (.int .u32 a0_12) := (blk_cell BK296.out 12).trans rfl
         have hcz56_13 : wc.cell? ⟨gb296, 13, none⟩ = some (.slice A0_13 l0_13.length c0_13) := (blk_cell BK296.out 13).trans rfl
         have hcz56_14 : wc.cell? ⟨gb296, 14, none⟩ = some (.slice A0_14 l0_14.length c0_14) := (blk_cell BK296.out 14).trans rfl
         have hfz56_0 := blk_frozen BK296.out 0
         have hfz56_1 := blk_frozen BK296.out 1
         have hfz56_2 := blk_frozen BK296.out 2
         have hfz56_3 := blk_frozen BK296.out 3
         have hfz56_4 := blk_frozen BK296.out 4
         have hfz56_5 := blk_frozen BK296.out 5
         have hfz56_6 := blk_frozen BK296.out 6
         have hfz56_7 := blk_frozen BK296.out 7
         have hfz56_8 := blk_frozen BK296.out 8
         have hfz56_9 := blk_frozen BK296.out 9
         have hfz56_10 := blk_frozen BK296.out 10
         have hfz56_11 := blk_frozen BK296.out 11
         have hfz56_12 := blk_frozen BK296.out 12
         have hfz56_13 := blk_frozen BK296.out 13
         have hfz56_14 := blk_frozen BK296.out 14
         go_wp2
         go_meet
         case rel => exact ⟨_, (true), (by first | rfl | (simp; done) | (simp [*]; done)), H', ⟨by have := HJ1.out; first | omega | exact Nat.le_refl _⟩, ⟨by (with_reducible repeat (first | refine blk_drewN ?_ _ | refine blk_drew ?_ | refine blk_alloc ?_ _)); exact BK296.out⟩, ⟨by repeat (first | (with_reducible first | exact HB.out | apply below_alloc | apply pw_below_drewN | apply below_drew1 | refine below_set ?_ GE296.out) | exact HB.out)⟩⟩
    ·replace c41 := Bool.eq_false_iff.mpr c41
     subst c41
     have H1 : (wire_Check.j1 kj1 true) = some r := by rw [if_neg (show ¬ (false = true) by decide)] at H; exact H
     clear H
     have H := H1
     clear H1
     have H' := Aside0.mk H
     clear H
     go_wp2
     go_meet
     case rel => exact ⟨_, (true), (by first | rfl | (simp; done) | (simp [*]; done)), H', ⟨by have := HJ1.out; first | omega | exact Nat.le_refl _⟩, ⟨by (with_reducible repeat (first | refine blk_drewN ?_ _ | refine blk_drew ?_ | refine blk_alloc ?_ _)); exact BK296.out⟩, ⟨by repeat (first | (with_reducible first | exact HB.out | apply below_alloc | apply pw_below_drewN | apply below_drew1 | refine below_set ?_ GE296.out) | exact HB.out)⟩⟩
   case rest =>
    clear HC40
    try clear c1
    try clear c2
    try clear p2
    try clear c4
    try clear c5
    try clear c6
    try clear c7
    try clear c7b0
    try clear c8
    try clear c8b0
    try clear c9
    try clear c9b0
    try clear c10
    try clear c10b0
    try clear c14
    try clear c24
    try clear c41
    try clear c42
    try clear c42b0
    try clear c42b1
    try clear c44
    try clear c44b0
    try clear c44b1
    try clear c46
    try clear c51
    try clear c51b0
    try clear c51b1
    try clear hcz11_0
    try clear hcz11_1
    try clear hcz11_10
    try clear hcz11_11
    try clear hcz11_12
    try clear hcz11_13
    try clear hcz11_14
    try clear hcz11_2
    try clear hcz11_3
    try clear hcz11_4
    try clear hcz11_5
    try clear hcz11_6
    try clear hcz11_7
    try clear hcz11_8
    try clear hcz11_9
    try clear hcz15_0
    try clear hcz15_1
    try clear hcz15_10
    try clear hcz15_11
    try clear hcz15_12
    try clear hcz15_13
    try clear hcz15_14
    try clear hcz15_2
    try clear hcz15_3
    try clear hcz15_4
    try clear hcz15_5
    try clear hcz15_6
    try clear hcz15_7
    try clear hcz15_8
    try clear hcz15_9
    try clear hcz16_0
    try clear hcz16_1
    try clear hcz16_10
    try clear hcz16_11
    try clear hcz16_12
    try clear hcz16_13
    try clear hcz16_14
    try clear hcz16_2
    try clear hcz16_3
    try clear hcz16_4
    try clear hcz16_5
    try clear hcz16_6
    try clear hcz16_7
    try clear hcz16_8
    try clear hcz16_9
    try clear hcz20_0
    try clear hcz20_1
    try clear hcz20_10
    try clear hcz20_11
    try clear hcz20_12
    try clear hcz20_13
    try clear hcz20_14
    try clear hcz20_2
    try clear hcz20_3
    try clear hcz20_4
    try clear hcz20_5
    try clear hcz20_6
    try clear hcz20_7
    try clear hcz20_8
    try clear hcz20_9
    try clear hcz21_0
    try clear hcz21_1
    try clear hcz21_10
    try clear hcz21_11
    try clear hcz21_12
    try clear hcz21_13
    try clear hcz21_14
    try clear hcz21_2
    try clear hcz21_3
    try clear hcz21_4
    try clear hcz21_5
    try clear hcz21_6
    try clear hcz21_7
    try clear hcz21_8
    try clear hcz21_9
    try clear hcz25_0
    try clear hcz25_1
    try clear hcz25_10
    try clear hcz25_11
    try clear hcz25_12
    try clear hcz25_13
    try clear hcz25_14
    try clear hcz25_2
    try clear hcz25_3
    try clear hcz25_4
    try clear hcz25_5
    try clear hcz25_6
    try clear hcz25_7
    try clear hcz25_8
    try clear hcz25_9
    try clear hcz26_0
    try clear hcz26_1
    try clear hcz26_10
    try clear hcz26_11
    try clear hcz26_12
    try clear hcz26_13
    try clear hcz26_14
    try clear hcz26_2
    try clear hcz26_3
    try clear hcz26_4
    try clear hcz26_5
    try clear hcz26_6
    try clear hcz26_7
    try clear hcz26_8
    try clear hcz26_9
    try clear hcz30_0
    try clear hcz30_1
    try clear hcz30_10
    try clear hcz30_11
    try clear hcz30_12
    try clear hcz30_13
    try clear hcz30_14
    try clear hcz30_2
    try clear hcz30_3
    try clear hcz30_4
    try clear hcz30_5
    try clear hcz30_6
    try clear hcz30_7
    try clear hcz30_8
    try clear hcz30_9
    try clear hcz31_0
    try clear hcz31_1
    try clear hcz31_10
    try clear hcz31_11
    try clear hcz31_12
    try clear hcz31_13
    try clear hcz31_14
    try clear hcz31_2
    try clear hcz31_3
    try clear hcz31_4
    try clear hcz31_5
    try clear hcz31_6
    try clear hcz31_7
    try clear hcz31_8
    try clear hcz31_9
    try clear hcz35_0
    try clear hcz35_1
    try clear hcz35_10
    try clear hcz35_11
    try clear hcz35_12
    try clear hcz35_13
    try clear hcz35_14
    try clear hcz35_2
    try clear hcz35_3
    try clear hcz35_4
    try clear hcz35_5
    try clear hcz35_6
    try clear hcz35_7
    try clear hcz35_8
    try clear hcz35_9
    try clear hcz36_0
    try clear hcz36_1
    try clear hcz36_10
    try clear hcz36_11
    try clear hcz36_12
    try clear hcz36_13
    try clear hcz36_14
    try clear hcz36_2
    try clear hcz36_3
    try clear hcz36_4
    try clear hcz36_5
    try clear hcz36_6
    try clear hcz36_7
    try clear hcz36_8
    try clear hcz36_9
    try clear hcz43_0
    try clear hcz43_1
    try clear hcz43_10
    try clear hcz43_11
    try clear hcz43_12
    try clear hcz43_13
    try clear hcz43_14
    try clear hcz43_2
    try clear hcz43_3
    try clear hcz43_4
    try clear hcz43_5
    try clear hcz43_6
    try clear hcz43_7
    try clear hcz43_8
    try clear hcz43_9
    try clear hcz45_0
    try clear hcz45_1
    try clear hcz45_10
    try clear hcz45_11
    try clear hcz45_12
    try clear hcz45_13
    try clear hcz45_14
    try clear hcz45_2
    try clear hcz45_3
    try clear hcz45_4
    try clear hcz45_5
    try clear hcz45_6
    try clear hcz45_7
    try clear hcz45_8
    try clear hcz45_9
    try clear hcz48_0
    try clear hcz48_1
    try clear hcz48_10
    try clear hcz48_11
    try clear hcz48_12
    try clear hcz48_13
    try clear hcz48_14
    try clear hcz48_2
    try clear hcz48_3
    try clear hcz48_4
    try clear hcz48_5
    try clear hcz48_6
    try clear hcz48_7
    try clear hcz48_8
    try clear hcz48_9
    try clear hcz53_0
    try clear hcz53_1
    try clear hcz53_10
    try clear hcz53_11
    try clear hcz53_12
    try clear hcz53_13
    try clear hcz53_14
    try clear hcz53_2
    try clear hcz53_3
    try clear hcz53_4
    try clear hcz53_5
    try clear hcz53_6
    try clear hcz53_7
    try clear hcz53_8
    try clear hcz53_9
    try clear hcz56_0
    try clear hcz56_1
    try clear hcz56_10
    try clear hcz56_11
    try clear hcz56_12
    try clear hcz56_13
    try clear hcz56_14
    try clear hcz56_2
    try clear hcz56_3
    try clear hcz56_4
    try clear hcz56_5
    try clear hcz56_6
    try clear hcz56_7
    try clear hcz56_8
    try clear hcz56_9
    try clear hfz11_0
    try clear hfz11_1
    try clear hfz11_10
    try clear hfz11_11
    try clear hfz11_12
    try clear hfz11_13
    try clear hfz11_14
    try clear hfz11_2
    try clear hfz11_3
    try clear hfz11_4
    try clear hfz11_5
    try clear hfz11_6
    try clear hfz11_7
    try clear hfz11_8
    try clear hfz11_9
    try clear hfz15_0
    try clear hfz15_1
    try clear hfz15_10
    try clear hfz15_11
    try clear hfz15_12
    try clear hfz15_13
    try clear hfz15_14
    try clear hfz15_2
    try clear hfz15_3
    try clear hfz15_4
    try clear hfz15_5
    try clear hfz15_6
    try clear hfz15_7
    try clear hfz15_8
    try clear hfz15_9
    try clear hfz16_0
    try clear hfz16_1
    try clear hfz16_10
    try clear hfz16_11
    try clear hfz16_12
    try clear hfz16_13
    try clear hfz16_14
    try clear hfz16_2
    try clear hfz16_3
    try clear hfz16_4
    try clear hfz16_5
    try clear hfz16_6
    try clear hfz16_7
    try clear hfz16_8
    try clear hfz16_9
    try clear hfz20_0
    try clear hfz20_1
    try clear hfz20_10
    try clear hfz20_11
    try clear hfz20_12
    try clear hfz20_13
    try clear hfz20_14
    try clear hfz20_2
    try clear hfz20_3
    try clear hfz20_4
    try clear hfz20_5
    try clear hfz20_6
    try clear hfz20_7
    try clear hfz20_8
    try clear hfz20_9
    try clear hfz21_0
    try clear hfz21_1
    try clear hfz21_10
    try clear hfz21_11
    try clear hfz21_12
    try clear hfz21_13
    try clear hfz21_14
    try clear hfz21_2
    try clear hfz21_3
    try clear hfz21_4
    try clear hfz21_5
    try clear hfz21_6
    try clear hfz21_7
    try clear hfz21_8
    try clear hfz21_9
    try clear hfz25_0
    try clear hfz25_1
    try clear hfz25_10
    try clear hfz25_11
    try clear hfz25_12
    try clear hfz25_13
    try clear hfz25_14
    try clear hfz25_2
    try clear hfz25_3
    try clear hfz25_4
    try clear hfz25_5
    try clear hfz25_6
    try clear hfz25_7
    try clear hfz25_8
    try clear hfz25_9
    try clear hfz26_0
    try clear hfz26_1
    try clear hfz26_10
    try clear hfz26_11
    try clear hfz26_12
    try clear hfz26_13
    try clear hfz26_14
    try clear hfz26_2
    try clear hfz26_3
    try clear hfz26_4
    try clear hfz26_5
    try clear hfz26_6
    try clear hfz26_7
    try clear hfz26_8
    try clear hfz26_9
    try clear hfz30_0
    try clear hfz30_1
    try clear hfz30_10
    try clear hfz30_11
    try clear hfz30_12
    try clear hfz30_13
    try clear hfz30_14
    try clear hfz30_2
    try clear hfz30_3
    try clear hfz30_4
    try clear hfz30_5
    try clear hfz30_6
    try clear hfz30_7
    try clear hfz30_8
    try clear hfz30_9
    try clear hfz31_0
    try clear hfz31_1
    try clear hfz31_10
    try clear hfz31_11
    try clear hfz31_12
    try clear hfz31_13
    try clear hfz31_14
    try clear hfz31_2
    try clear hfz31_3
    try clear hfz31_4
    try clear hfz31_5
    try clear hfz31_6
    try clear hfz31_7
    try clear hfz31_8
    try clear hfz31_9
    try clear hfz35_0
    try clear hfz35_1
    try clear hfz35_10
    try clear hfz35_11
    try clear hfz35_12
    try clear hfz35_13
    try clear hfz35_14
    try clear hfz35_2
    try clear hfz35_3
    try clear hfz35_4
    try clear hfz35_5
    try clear hfz35_6
    try clear hfz35_7
    try clear hfz35_8
    try clear hfz35_9
    try clear hfz36_0
    try clear hfz36_1
    try clear hfz36_10
    try clear hfz36_11
    try clear hfz36_12
    try clear hfz36_13
    try clear hfz36_14
    try clear hfz36_2
    try clear hfz36_3
    try clear hfz36_4
    try clear hfz36_5
    try clear hfz36_6
    try clear hfz36_7
    try clear hfz36_8
    try clear hfz36_9
    try clear hfz43_0
    try clear hfz43_1
    try clear hfz43_10
    try clear hfz43_11
    try clear hfz43_12
    try clear hfz43_13
    try clear hfz43_14
    try clear hfz43_2
    try clear hfz43_3
    try clear hfz43_4
    try clear hfz43_5
    try clear hfz43_6
    try clear hfz43_7
    try clear hfz43_8
    try clear hfz43_9
    try clear hfz45_0
    try clear hfz45_1
    try clear hfz45_10
    try clear hfz45_11
    try clear hfz45_12
    try clear hfz45_13
    try clear hfz45_14
    try clear hfz45_2
    try clear hfz45_3
    try clear hfz45_4
    try clear hfz45_5
    try clear hfz45_6
    try clear hfz45_7
    try clear hfz45_8
    try clear hfz45_9
    try clear hfz48_0
    try clear hfz48_1
    try clear hfz48_10
    try clear hfz48_11
    try clear hfz48_12
    try clear hfz48_13
    try clear hfz48_14
    try clear hfz48_2
    try clear hfz48_3
    try clear hfz48_4
    try clear hfz48_5
    try clear hfz48_6
    try clear hfz48_7
    try clear hfz48_8
    try clear hfz48_9
    try clear hfz53_0
    try clear hfz53_1
    try clear hfz53_10
    try clear hfz53_11
    try clear hfz53_12
    try clear hfz53_13
    try clear hfz53_14
    try clear hfz53_2
    try clear hfz53_3
    try clear hfz53_4
    try clear hfz53_5
    try clear hfz53_6
    try clear hfz53_7
    try clear hfz53_8
    try clear hfz53_9
    try clear hfz56_0
    try clear hfz56_1
    try clear hfz56_10
    try clear hfz56_11
    try clear hfz56_12
    try clear hfz56_13
    try clear hfz56_14
    try clear hfz56_2
    try clear hfz56_3
    try clear hfz56_4
    try clear hfz56_5
    try clear hfz56_6
    try clear hfz56_7
    try clear hfz56_8
    try clear hfz56_9
    try clear p2
    obtain ⟨kq, x74_39, rfl, HA, HJ39, BK296, HB⟩ := hcut
    cases kq with
    | zero => exact absurd HA.out (by simp [wire_Check.j1])
    | succ kj39 =>
     have H := HA.out
     clear HA
     simp only [wire_Check.j1] at H
     by_cases c57 : x74_39 = true
     ·subst c57
      have H1 : (some 2) = some r := by rw [if_pos rfl] at H; exact H
      clear H
      have H := H1
      clear H1
      obtain rfl := Option.some.inj H
      go_wp2
      go_ret
      exact ⟨by first | rfl | (simp [errW_none, errW_some] <;> rfl) | (simp [*, errW_none, errW_some] <;> rfl), by repeat (first | (with_reducible first | exact HB.out | apply below_alloc | apply pw_below_drewN | apply below_drew1 | refine below_set ?_ GE296.out) | exact HB.out)⟩
     ·replace c57 := Bool.eq_false_iff.mpr c57
      subst c57
      have H1 : (some 0) = some r := by rw [if_neg (show ¬ (false = true) by decide)] at H; exact H
      clear H
      have H := H1
      clear H1
      obtain rfl := Option.some.inj H
      go_wp2
      go_ret
      exact ⟨by first | rfl | (simp [errW_none, errW_some] <;> rfl) | (simp [*, errW_none, errW_some] <;> rfl), by repeat (first | (with_reducible first | exact HB.out | apply below_alloc | apply pw_below_drewN | apply below_drew1 | refine below_set ?_ GE296.out) | exact HB.out)⟩

end Go.Proofs.Ytenpekakmkemeaa.PA

-- Written for the seat Ytenpekakmkemeaa by this session's program hyb.py (the print's functions, with externals typed by hand).
import Derived.Test.YtenpekakmkemeaaPAx0
import Derived.Test.YtenpekakmkemeaaPAx1
import Derived.Test.YtenpekakmkemeaaPAx5
namespace Go.Proofs.Ytenpekakmkemeaa.PA
open Go.RowKit Go.Proofs.YtenpekakmkemeaaW.PrintWords Go.Proofs.YtenpekakmkemeaaW.PrintLast Go.Proofs.YtenpekakmkemeaaW.PrintMore
attribute [local go_sem] max2_int min2_int max_two min_two max_three min_three max_four min_four   -- for this text's walks alone
set_option linter.unusedVariables false
set_option linter.unusedSimpArgs false

attribute [local go_sem high] eqA56
/-! ### tidewayref03_Same: function 10 -/
mutual
def tidewayref03_Same.j0 : Nat → Bool → Int → Int → Int → Int → Int → Int → Int → Int → Int → Bool → Bool → Int → Int → List (S56) → List Int → Int → Int → Int → Int → Int → Int → Int → Int → Int → Bool → Bool → Int → Int → List (S56) → List Int → Option (Bool)
 | 0, _, _, _, _, _, _, _, _, _, _, _, _, _, _, _, _, _, _, _, _, _, _, _, _, _, _, _, _, _, _, _ => none
 | k + 1, x52, x234000, x234001, x234002, x234003, x234004, x234005, x234006, x234007, x234008, x234009, x234010, x234011, x234012, x234013, x234014, x235000, x235001, x235002, x235003, x235004, x235005, x235006, x235007, x235008, x235009, x235010, x235011, x235012, x235013, x235014 => if x52 = true then (some false) else (if x234007 = x235007 then (if x234008 = x235008 then (if (x234009 != x235009) = true then (tidewayref03_Same.j1 k true x234000 x234001 x234002 x234003 x234004 x234005 x234006 x234007 x234008 x234009 x234010 x234011 x234012 x234013 x234014 x235000 x235001 x235002 x235003 x235004 x235005 x235006 x235007 x235008 x235009 x235010 x235011 x235012 x235013 x235014) else (if (x234010 != x235010) = true then (tidewayref03_Same.j1 k true x234000 x234001 x234002 x234003 x234004 x234005 x234006 x234007 x234008 x234009 x234010 x234011 x234012 x234013 x234014 x235000 x235001 x235002 x235003 x235004 x235005 x235006 x235007 x235008 x235009 x235010 x235011 x235012 x235013 x235014) else (if x234011 = x235011 then (if x234012 = x235012 then (tidewayref03_Same.j1 k ((x234013.length : Int) != (x235013.length : Int)) x234000 x234001 x234002 x234003 x234004 x234005 x234006 x234007 x234008 x234009 x234010 x234011 x234012 x234013 x234014 x235000 x235001 x235002 x235003 x235004 x235005 x235006 x235007 x235008 x235009 x235010 x235011 x235012 x235013 x235014) else (tidewayref03_Same.j1 k true x234000 x234001 x234002 x234003 x234004 x234005 x234006 x234007 x234008 x234009 x234010 x234011 x234012 x234013 x234014 x235000 x235001 x235002 x235003 x235004 x235005 x235006 x235007 x235008 x235009 x235010 x235011 x235012 x235013 x235014)) else (tidewayref03_Same.j1 k true x234000 x234001 x234002 x234003 x234004 x234005 x234006 x234007 x234008 x234009 x234010 x234011 x234012 x234013 x234014 x235000 x235001 x235002 x235003 x235004 x235005 x235006 x235007 x235008 x235009 x235010 x235011 x235012 x235013 x235014)))) else (tidewayref03_Same.j1 k true x234000 x234001 x234002 x234003 x234004 x234005 x234006 x234007 x234008 x234009 x234010 x234011 x234012 x234013 x234014 x235000 x235001 x235002 x235003 x235004 x235005 x235006 x235007 x235008 x235009 x235010 x235011 x235012 x235013 x235014)) else (tidewayref03_Same.j1 k true x234000 x234001 x234002 x234003 x234004 x234005 x234006 x234007 x234008 x234009 x234010 x234011 x234012 x234013 x234014 x235000 x235001 x235002 x235003 x235004 x235005 x235006 x235007 x235008 x235009 x235010 x235011 x235012 x235013 x235014))
def tidewayref03_Same.j1 : Nat → Bool → Int → Int → Int → Int → Int → Int → Int → Int → Int → Bool → Bool → Int → Int → List (S56) → List Int → Int → Int → Int → Int → Int → Int → Int → Int → Int → Bool → Bool → Int → Int → List (S56) → List Int → Option (Bool)
 | 0, _, _, _, _, _, _, _, _, _, _, _, _, _, _, _, _, _, _, _, _, _, _, _, _, _, _, _, _, _, _, _ => none
 | k + 1, x101, x234000, x234001, x234002, x234003, x234004, x234005, x234006, x234007, x234008, x234009, x234010, x234011, x234012, x234013, x234014, x235000, x235001, x235002, x235003, x235004, x235005, x235006, x235007, x235008, x235009, x235010, x235011, x235012, x235013, x235014 => if x101 = true then (some false) else (tidewayref03_Same.l0 k 0 x234000 x234001 x234002 x234003 x234004 x234005 x234006 x234007 x234008 x234009 x234010 x234011 x234012 x234013 x234014 x235000 x235001 x235002 x235003 x235004 x235005 x235006 x235007 x235008 x235009 x235010 x235011 x235012 x235013 x235014)
def tidewayref03_Same.l0 : Nat → Int → Int → Int → Int → Int → Int → Int → Int → Int → Int → Bool → Bool → Int → Int → List (S56) → List Int → Int → Int → Int → Int → Int → Int → Int → Int → Int → Bool → Bool → Int → Int → List (S56) → List Int → Option (Bool)
 | 0, _, _, _, _, _, _, _, _, _, _, _, _, _, _, _, _, _, _, _, _, _, _, _, _, _, _, _, _, _, _, _ => none
 | k + 1, x5, x234000, x234001, x234002, x234003, x234004, x234005, x234006, x234007, x234008, x234009, x234010, x234011, x234012, x234013, x234014, x235000, x235001, x235002, x235003, x235004, x235005, x235006, x235007, x235008, x235009, x235010, x235011, x235012, x235013, x235014 => if x5 < (x234013.length : Int) then (if 0 ≤ x5 then (if x5 < (x235013.length : Int) then (if (!(((rd_T56 x234013 x5).f0) == ((rd_T56 x235013 x5).f0)) || (!(((rd_T56 x234013 x5).f1) == ((rd_T56 x235013 x5).f1)))) = true then (some false) else (tidewayref03_Same.l0 k (wrap64 (x5 + 1)) x234000 x234001 x234002 x234003 x234004 x234005 x234006 x234007 x234008 x234009 x234010 x234011 x234012 x234013 x234014 x235000 x235001 x235002 x235003 x235004 x235005 x235006 x235007 x235008 x235009 x235010 x235011 x235012 x235013 x235014)) else (none)) else (none)) else ((tidewayref02_Same.f x234014 x235014).bind fun t235 => (some t235))
end
def tidewayref03_Same.f (k : Nat) (a0_0 : Int) (a0_1 : Int) (a0_2 : Int) (a0_3 : Int) (a0_4 : Int) (a0_5 : Int) (a0_6 : Int) (a0_7 : Int) (a0_8 : Int) (a0_9 : Bool) (a0_10 : Bool) (a0_11 : Int) (a0_12 : Int) (l0_13 : List (S56)) (l0_14 : List Int) (a1_0 : Int) (a1_1 : Int) (a1_2 : Int) (a1_3 : Int) (a1_4 : Int) (a1_5 : Int) (a1_6 : Int) (a1_7 : Int) (a1_8 : Int) (a1_9 : Bool) (a1_10 : Bool) (a1_11 : Int) (a1_12 : Int) (l1_13 : List (S56)) (l1_14 : List Int) : Option (Bool) := if a0_0 = a1_0 then (if a0_1 = a1_1 then (if a0_2 = a1_2 then (if a0_3 = a1_3 then (if a0_4 = a1_4 then (if a0_5 = a1_5 then (tidewayref03_Same.j0 k (a0_6 != a1_6) a0_0 a0_1 a0_2 a0_3 a0_4 a0_5 a0_6 a0_7 a0_8 a0_9 a0_10 a0_11 a0_12 l0_13 l0_14 a1_0 a1_1 a1_2 a1_3 a1_4 a1_5 a1_6 a1_7 a1_8 a1_9 a1_10 a1_11 a1_12 l1_13 l1_14) else (tidewayref03_Same.j0 k true a0_0 a0_1 a0_2 a0_3 a0_4 a0_5 a0_6 a0_7 a0_8 a0_9 a0_10 a0_11 a0_12 l0_13 l0_14 a1_0 a1_1 a1_2 a1_3 a1_4 a1_5 a1_6 a1_7 a1_8 a1_9 a1_10 a1_11 a1_12 l1_13 l1_14)) else (tidewayref03_Same.j0 k true a0_0 a0_1 a0_2 a0_3 a0_4 a0_5 a0_6 a0_7 a0_8 a0_9 a0_10 a0_11 a0_12 l0_13 l0_14 a1_0 a1_1 a1_2 a1_3 a1_4 a1_5 a1_6 a1_7 a1_8 a1_9 a1_10 a1_11 a1_12 l1_13 l1_14)) else (tidewayref03_Same.j0 k true a0_0 a0_1 a0_2 a0_3 a0_4 a0_5 a0_6 a0_7 a0_8 a0_9 a0_10 a0_11 a0_12 l0_13 l0_14 a1_0 a1_1 a1_2 a1_3 a1_4 a1_5 a1_6 a1_7 a1_8 a1_9 a1_10 a1_11 a1_12 l1_13 l1_14)) else (tidewayref03_Same.j0 k true a0_0 a0_1 a0_2 a0_3 a0_4 a0_5 a0_6 a0_7 a0_8 a0_9 a0_10 a0_11 a0_12 l0_13 l0_14 a1_0 a1_1 a1_2 a1_3 a1_4 a1_5 a1_6 a1_7 a1_8 a1_9 a1_10 a1_11 a1_12 l1_13 l1_14)) else (tidewayref03_Same.j0 k true a0_0 a0_1 a0_2 a0_3 a0_4 a0_5 a0_6 a0_7 a0_8 a0_9 a0_10 a0_11 a0_12 l0_13 l0_14 a1_0 a1_1 a1_2 a1_3 a1_4 a1_5 a1_6 a1_7 a1_8 a1_9 a1_10 a1_11 a1_12 l1_13 l1_14)) else (tidewayref03_Same.j0 k true a0_0 a0_1 a0_2 a0_3 a0_4 a0_5 a0_6 a0_7 a0_8 a0_9 a0_10 a0_11 a0_12 l0_13 l0_14 a1_0 a1_1 a1_2 a1_3 a1_4 a1_5 a1_6 a1_7 a1_8 a1_9 a1_10 a1_11 a1_12 l1_13 l1_14)
set_option maxHeartbeats 8000000 in
set_option maxRecDepth 100000 in
theorem tidewayref03_Same.calls (k : Nat) (a0_0 : Int) (a0_1 : Int) (a0_2 : Int) (a0_3 : Int) (a0_4 : Int) (a0_5 : Int) (a0_6 : Int) (a0_7 : Int) (a0_8 : Int) (a0_9 : Bool) (a0_10 : Bool) (a0_11 : Int) (a0_12 : Int) (A0_13 : Option Addr) (c0_13 : Nat) (l0_13 : List (S56)) (A0_14 : Option Addr) (c0_14 : Nat) (l0_14 : List Int) (a1_0 : Int) (a1_1 : Int) (a1_2 : Int) (a1_3 : Int) (a1_4 : Int) (a1_5 : Int) (a1_6 : Int) (a1_7 : Int) (a1_8 : Int) (a1_9 : Bool) (a1_10 : Bool) (a1_11 : Int) (a1_12 : Int) (A1_13 : Option Addr) (c1_13 : Nat) (l1_13 : List (S56)) (A1_14 : Option Addr) (c1_14 : Nat) (l1_14 : List Int) (r : Bool) (w : World) (hr0_13 : Kd.C k56 w A0_13 l0_13.length l0_13) (hc0_13 : l0_13.length ≤ c0_13) (hr0_14 : Kd.C (Kd.int .u8) w A0_14 l0_14.length l0_14) (hc0_14 : l0_14.length ≤ c0_14) (hr1_13 : Kd.C k56 w A1_13 l1_13.length l1_13) (hc1_13 : l1_13.length ≤ c1_13) (hr1_14 : Kd.C (Kd.int .u8) w A1_14 l1_14.length l1_14) (hc1_14 : l1_14.length ≤ c1_14) (h : tidewayref03_Same.f k a0_0 a0_1 a0_2 a0_3 a0_4 a0_5 a0_6 a0_7 a0_8 a0_9 a0_10 a0_11 a0_12 l0_13 l0_14 a1_0 a1_1 a1_2 a1_3 a1_4 a1_5 a1_6 a1_7 a1_8 a1_9 a1_10 a1_11 a1_12 l1_13 l1_14 = some r) :
  Calls Try.prog 10 #[.agg #[.int .i64 a0_0, .int .i64 a0_1, .int .u32 a0_2, .int .u32 a0_3, .int .i64 a0_4, .int .i64 a0_5, .int .i64 a0_6, .int .i64 a0_7, .int .i64 a0_8, .bool a0_9, .bool a0_10, .int .u32 a0_11, .int .u32 a0_12, .slice A0_13 l0_13.length c0_13, .slice A0_14 l0_14.length c0_14], .agg #[.int .i64 a1_0, .int .i64 a1_1, .int .u32 a1_2, .int .u32 a1_3, .int .i64 a1_4, .int .i64 a1_5, .int .i64 a1_6, .int .i64 a1_7, .int .i64 a1_8, .bool a1_9, .bool a1_10, .int .u32 a1_11, .int .u32 a1_12, .slice A1_13 l1_13.length c1_13, .slice A1_14 l1_14.length c1_14]] w fun e w' => e = .returned (.bool r) ∧ Below w.heap.size w w' := by
 have hu26 := Try.underlying26
 have hu56 := Try.underlying56
 have HR0_13 := Aside0.mk hr0_13
 have HC0_13 := Aside0.mk hc0_13
 clear hr0_13 hc0_13
 have HR0_14 := Aside0.mk hr0_14
 have HC0_14 := Aside0.mk hc0_14
 clear hr0_14 hc0_14
 have HR1_13 := Aside0.mk hr1_13
 have HC1_13 := Aside0.mk hc1_13
 clear hr1_13 hc1_13
 have HR1_14 := Aside0.mk hr1_14
 have HC1_14 := Aside0.mk hc1_14
 clear hr1_14 hc1_14
 have HB := Aside0.mk (Below.refl w.heap.size w)
 have H : (if a0_0 = a1_0 then (if a0_1 = a1_1 then (if a0_2 = a1_2 then (if a0_3 = a1_3 then (if a0_4 = a1_4 then (if a0_5 = a1_5 then (tidewayref03_Same.j0 k (a0_6 != a1_6) a0_0 a0_1 a0_2 a0_3 a0_4 a0_5 a0_6 a0_7 a0_8 a0_9 a0_10 a0_11 a0_12 l0_13 l0_14 a1_0 a1_1 a1_2 a1_3 a1_4 a1_5 a1_6 a1_7 a1_8 a1_9 a1_10 a1_11 a1_12 l1_13 l1_14) else (tidewayref03_Same.j0 k true a0_0 a0_1 a0_2 a0_3 a0_4 a0_5 a0_6 a0_7 a0_8 a0_9 a0_10 a0_11 a0_12 l0_13 l0_14 a1_0 a1_1 a1_2 a1_3 a1_4 a1_5 a1_6 a1_7 a1_8 a1_9 a1_10 a1_11 a1_12 l1_13 l1_14)) else (tidewayref03_Same.j0 k true a0_0 a0_1 a0_2 a0_3 a0_4 a0_5 a0_6 a0_7 a0_8 a0_9 a0_10 a0_11 a0_12 l0_13 l0_14 a1_0 a1_1 a1_2 a1_3 a1_4 a1_5 a1_6 a1_7 a1_8 a1_9 a1_10 a1_11 a1_12 l1_13 l1_14)) else (tidewayref03_Same.j0 k true a0_0 a0_1 a0_2 a0_3 a0_4 a0_5 a0_6 a0_7 a0_8 a0_9 a0_10 a0_11 a0_12 l0_13 l0_14 a1_0 a1_1 a1_2 a1_3 a1_4 a1_5 a1_6 a1_7 a1_8 a1_9 a1_10 a1_11 a1_12 l1_13 l1_14)) else (tidewayref03_Same.j0 k true a0_0 a0_1 a0_2 a0_3 a0_4 a0_5 a0_6 a0_7 a0_8 a0_9 a0_10 a0_11 a0_12 l0_13 l0_14 a1_0 a1_1 a1_2 a1_3 a1_4 a1_5 a1_6 a1_7 a1_8 a1_9 a1_10 a1_11 a1_12 l1_13 l1_14)) else (tidewayref03_Same.j0 k true a0_0 a0_1 a0_2 a0_3 a0_4 a0_5 a0_6 a0_7 a0_8 a0_9 a0_10 a0_11 a0_12 l0_13 l0_14 a1_0 a1_1 a1_2 a1_3 a1_4 a1_5 a1_6 a1_7 a1_8 a1_9 a1_10 a1_11 a1_12 l1_13 l1_14)) else (tidewayref03_Same.j0 k true a0_0 a0_1 a0_2 a0_3 a0_4 a0_5 a0_6 a0_7 a0_8 a0_9 a0_10 a0_11 a0_12 l0_13 l0_14 a1_0 a1_1 a1_2 a1_3 a1_4 a1_5 a1_6 a1_7 a1_8 a1_9 a1_10 a1_11 a1_12 l1_13 l1_14)) = some r := h
 clear h
 have HC3 := Aside0.mk H
 clear H
 go_enter Try.func10, Try.ntmps10
 go_upto_region 1 with (first | ((with_reducible refine gate_dst (N := 2) rfl ?_); (try (refine gate_guard (by rfl) ?_; dsimp only)); refine box_event ?hg (N := 2) ?hd (cs := #[.int .i64 a0_0, .int .i64 a0_1, .int .u32 a0_2, .int .u32 a0_3, .int .i64 a0_4, .int .i64 a0_5, .int .i64 a0_6, .int .i64 a0_7, .int .i64 a0_8, .bool a0_9, .bool a0_10, .int .u32 a0_11, .int .u32 a0_12, .slice A0_13 l0_13.length c0_13, .slice A0_14 l0_14.length c0_14]) (t := 26) ?hr ?_; (case hd => rfl); (case hg => rfl); (case hr => first | (go_simp; done) | (go_simp; rfl)); intro gb233 hg w4 hbox hb; have n0_ := Aside0.mk (below_step (by repeat (first | (with_reducible first | exact HB.out | apply below_alloc | apply pw_below_drewN | apply below_drew1) | exact HB.out | exact Below.refl _ _)) hb); have n1_ := Aside0.mk (hbox); have n2_ := Aside0.mk ((by rw [hg]; exact (below_size (by repeat (first | (with_reducible first | exact HB.out | apply below_alloc | apply pw_below_drewN | apply below_drew1) | exact HB.out | exact Below.refl _ _))) : w.heap.size ≤ gb233)); have n3_ := Aside0.mk ((by rw [hg]; exact (below_size (by repeat (first | (with_reducible first | exact HB.out | apply below_alloc | apply pw_below_drewN | apply below_drew1) | exact HB.out | exact Below.refl _ _))) : w.heap.size ≤ gb233)); clear HB; have HB := n0_; have BK233 := n1_; have GW233 := n2_; have GE233 := n3_; clear n0_ n1_ n2_ n3_; clear hb hbox hg) | ((with_reducible refine gate_dst (N := 3) rfl ?_); (try (refine gate_guard (by rfl) ?_; dsimp only)); refine box_event ?hg (N := 3) ?hd (cs := #[.int .i64 a1_0, .int .i64 a1_1, .int .u32 a1_2, .int .u32 a1_3, .int .i64 a1_4, .int .i64 a1_5, .int .i64 a1_6, .int .i64 a1_7, .int .i64 a1_8, .bool a1_9, .bool a1_10, .int .u32 a1_11, .int .u32 a1_12, .slice A1_13 l1_13.length c1_13, .slice A1_14 l1_14.length c1_14]) (t := 26) ?hr ?_; (case hd => rfl); (case hg => rfl); (case hr => first | (go_simp; done) | (go_simp; rfl)); intro gb234 hg w5 hbox hb; have n0_ := Aside0.mk (blk_below (g := gb233) (o := .cells #[.int .i64 a0_0, .int .i64 a0_1, .int .u32 a0_2, .int .u32 a0_3, .int .i64 a0_4, .int .i64 a0_5, .int .i64 a0_6, .int .i64 a0_7, .int .i64 a0_8, .bool a0_9, .bool a0_10, .int .u32 a0_11, .int .u32 a0_12, .slice A0_13 l0_13.length c0_13, .slice A0_14 l0_14.length c0_14] 26 (0, 0)) (by (with_reducible repeat (first | refine blk_drewN ?_ _ | refine blk_drew ?_ | refine blk_alloc ?_ _)); exact BK233.out) hb); have n1_ := Aside0.mk (below_step (by repeat (first | (with_reducible first | exact HB.out | apply below_alloc | apply pw_below_drewN | apply below_drew1 | refine below_set ?_ GE233.out) | exact HB.out)) hb); have n2_ := Aside0.mk (hbox); have n3_ := Aside0.mk ((by rw [hg]; exact (below_size (by repeat (first | (with_reducible first | exact HB.out | apply below_alloc | apply pw_below_drewN | apply below_drew1 | refine below_set ?_ GE233.out) | exact HB.out))) : w.heap.size ≤ gb234)); have n4_ := Aside0.mk ((by rw [hg]; exact (below_size (by repeat (first | (with_reducible first | exact HB.out | apply below_alloc | apply pw_below_drewN | apply below_drew1 | refine below_set ?_ GE233.out) | exact HB.out))) : w.heap.size ≤ gb234)); have n5_ := Aside0.mk ((by rw [hg]; exact Nat.ne_of_lt (blk_lt (g := gb233) (o := .cells #[.int .i64 a0_0, .int .i64 a0_1, .int .u32 a0_2, .int .u32 a0_3, .int .i64 a0_4, .int .i64 a0_5, .int .i64 a0_6, .int .i64 a0_7, .int .i64 a0_8, .bool a0_9, .bool a0_10, .int .u32 a0_11, .int .u32 a0_12, .slice A0_13 l0_13.length c0_13, .slice A0_14 l0_14.length c0_14] 26 (0, 0)) (by (with_reducible repeat (first | refine blk_drewN ?_ _ | refine blk_drew ?_ | refine blk_alloc ?_ _)); exact BK233.out)) : gb233 ≠ gb234)); have n6_ := Aside0.mk ((by rw [hg]; exact Nat.ne_of_gt (blk_lt (g := gb233) (o := .cells #[.int .i64 a0_0, .int .i64 a0_1, .int .u32 a0_2, .int .u32 a0_3, .int .i64 a0_4, .int .i64 a0_5, .int .i64 a0_6, .int .i64 a0_7, .int .i64 a0_8, .bool a0_9, .bool a0_10, .int .u32 a0_11, .int .u32 a0_12, .slice A0_13 l0_13.length c0_13, .slice A0_14 l0_14.length c0_14] 26 (0, 0)) (by (with_reducible repeat (first | refine blk_drewN ?_ _ | refine blk_drew ?_ | refine blk_alloc ?_ _)); exact BK233.out)) : gb234 ≠ gb233)); clear BK233; clear HB; have BK233 := n0_; have HB := n1_; have BK234 := n2_; have GW234 := n3_; have GE234 := n4_; have NB233_234 := n5_; have NB234_233 := n6_; clear n0_ n1_ n2_ n3_ n4_ n5_ n6_; clear hb hbox hg))
 repeat (go_quiet (first | ((with_reducible refine gate_dst (N := 2) rfl ?_); (try (refine gate_guard (by rfl) ?_; dsimp only)); refine box_event ?hg (N := 2) ?hd (cs := #[.int .i64 a0_0, .int .i64 a0_1, .int .u32 a0_2, .int .u32 a0_3, .int .i64 a0_4, .int .i64 a0_5, .int .i64 a0_6, .int .i64 a0_7, .int .i64 a0_8, .bool a0_9, .bool a0_10, .int .u32 a0_11, .int .u32 a0_12, .slice A0_13 l0_13.length c0_13, .slice A0_14 l0_14.length c0_14]) (t := 26) ?hr ?_; (case hd => rfl); (case hg => rfl); (case hr => first | (go_simp; done) | (go_simp; rfl)); intro gb233 hg w4 hbox hb; have n0_ := Aside0.mk (below_step (by repeat (first | (with_reducible first | exact HB.out | apply below_alloc | apply pw_below_drewN | apply below_drew1) | exact HB.out | exact Below.refl _ _)) hb); have n1_ := Aside0.mk (hbox); have n2_ := Aside0.mk ((by rw [hg]; exact (below_size (by repeat (first | (with_reducible first | exact HB.out | apply below_alloc | apply pw_below_drewN | apply below_drew1) | exact HB.out | exact Below.refl _ _))) : w.heap.size ≤ gb233)); have n3_ := Aside0.mk ((by rw [hg]; exact (below_size (by repeat (first | (with_reducible first | exact HB.out | apply below_alloc | apply pw_below_drewN | apply below_drew1) | exact HB.out | exact Below.refl _ _))) : w.heap.size ≤ gb233)); clear HB; have HB := n0_; have BK233 := n1_; have GW233 := n2_; have GE233 := n3_; clear n0_ n1_ n2_ n3_; clear hb hbox hg) | ((with_reducible refine gate_dst (N := 3) rfl ?_); (try (refine gate_guard (by rfl) ?_; dsimp only)); refine box_event ?hg (N := 3) ?hd (cs := #[.int .i64 a1_0, .int .i64 a1_1, .int .u32 a1_2, .int .u32 a1_3, .int .i64 a1_4, .int .i64 a1_5, .int .i64 a1_6, .int .i64 a1_7, .int .i64 a1_8, .bool a1_9, .bool a1_10, .int .u32 a1_11, .int .u32 a1_12, .slice A1_13 l1_13.length c1_13, .slice A1_14 l1_14.length c1_14]) (t := 26) ?hr ?_; (case hd => rfl); (case hg => rfl); (case hr => first | (go_simp; done) | (go_simp; rfl)); intro gb234 hg w5 hbox hb; have n0_ := Aside0.mk (blk_below (g := gb233) (o := .cells #[.int .i64 a0_0, .int .i64 a0_1, .int .u32 a0_2, .int .u32 a0_3, .int .i64 a0_4, .int .i64 a0_5, .int .i64 a0_6, .int .i64 a0_7, .int .i64 a0_8, .bool a0_9, .bool a0_10, .int .u32 a0_11, .int .u32 a0_12, .slice A0_13 l0_13.length c0_13, .slice A0_14 l0_14.length c0_14] 26 (0, 0)) (by (with_reducible repeat (first | refine blk_drewN ?_ _ | refine blk_drew ?_ | refine blk_alloc ?_ _)); exact BK233.out) hb); have n1_ := Aside0.mk (below_step (by repeat (first | (with_reducible first | exact HB.out | apply below_alloc | apply pw_below_drewN | apply below_drew1 | refine below_set ?_ GE233.out) | exact HB.out)) hb); have n2_ := Aside0.mk (hbox); have n3_ := Aside0.mk ((by rw [hg]; exact (below_size (by repeat (first | (with_reducible first | exact HB.out | apply below_alloc | apply pw_below_drewN | apply below_drew1 | refine below_set ?_ GE233.out) | exact HB.out))) : w.heap.size ≤ gb234)); have n4_ := Aside0.mk ((by rw [hg]; exact (below_size (by repeat (first | (with_reducible first | exact HB.out | apply below_alloc | apply pw_below_drewN | apply below_drew1 | refine below_set ?_ GE233.out) | exact HB.out))) : w.heap.size ≤ gb234)); have n5_ := Aside0.mk ((by rw [hg]; exact Nat.ne_of_lt (blk_lt (g := gb233) (o := .cells #[.int .i64 a0_0, .int .i64 a0_1, .int .u32 a0_2, .int .u32 a0_3, .int .i64 a0_4, .int .i64 a0_5, .int .i64 a0_6, .int .i64 a0_7, .int .i64 a0_8, .bool a0_9, .bool a0_10, .int .u32 a0_11, .int .u32 a0_12, .slice A0_13 l0_13.length c0_13, .slice A0_14 l0_14.length c0_14] 26 (0, 0)) (by (with_reducible repeat (first | refine blk_drewN ?_ _ | refine blk_drew ?_ | refine blk_alloc ?_ _)); exact BK233.out)) : gb233 ≠ gb234)); have n6_ := Aside0.mk ((by rw [hg]; exact Nat.ne_of_gt (blk_lt (g := gb233) (o := .cells #[.int .i64 a0_0, .int .i64 a0_1, .int .u32 a0_2, .int .u32 a0_3, .int .i64 a0_4, .int .i64 a0_5, .int .i64 a0_6, .int .i64 a0_7, .int .i64 a0_8, .bool a0_9, .bool a0_10, .int .u32 a0_11, .int .u32 a0_12, .slice A0_13 l0_13.length c0_13, .slice A0_14 l0_14.length c0_14] 26 (0, 0)) (by (with_reducible repeat (first | refine blk_drewN ?_ _ | refine blk_drew ?_ | refine blk_alloc ?_ _)); exact BK233.out)) : gb234 ≠ gb233)); clear BK233; clear HB; have BK233 := n0_; have HB := n1_; have BK234 := n2_; have GW234 := n3_; have GE234 := n4_; have NB233_234 := n5_; have NB234_233 := n6_; clear n0_ n1_ n2_ n3_ n4_ n5_ n6_; clear hb hbox hg)); go_upto_region 1 with (first | ((with_reducible refine gate_dst (N := 2) rfl ?_); (try (refine gate_guard (by rfl) ?_; dsimp only)); refine box_event ?hg (N := 2) ?hd (cs := #[.int .i64 a0_0, .int .i64 a0_1, .int .u32 a0_2, .int .u32 a0_3, .int .i64 a0_4, .int .i64 a0_5, .int .i64 a0_6, .int .i64 a0_7, .int .i64 a0_8, .bool a0_9, .bool a0_10, .int .u32 a0_11, .int .u32 a0_12, .slice A0_13 l0_13.length c0_13, .slice A0_14 l0_14.length c0_14]) (t := 26) ?hr ?_; (case hd => rfl); (case hg => rfl); (case hr => first | (go_simp; done) | (go_simp; rfl)); intro gb233 hg w4 hbox hb; have n0_ := Aside0.mk (below_step (by repeat (first | (with_reducible first | exact HB.out | apply below_alloc | apply pw_below_drewN | apply below_drew1) | exact HB.out | exact Below.refl _ _)) hb); have n1_ := Aside0.mk (hbox); have n2_ := Aside0.mk ((by rw [hg]; exact (below_size (by repeat (first | (with_reducible first | exact HB.out | apply below_alloc | apply pw_below_drewN | apply below_drew1) | exact HB.out | exact Below.refl _ _))) : w.heap.size ≤ gb233)); have n3_ := Aside0.mk ((by rw [hg]; exact (below_size (by repeat (first | (with_reducible first | exact HB.out | apply below_alloc | apply pw_below_drewN | apply below_drew1) | exact HB.out | exact Below.refl _ _))) : w.heap.size ≤ gb233)); clear HB; have HB := n0_; have BK233 := n1_; have GW233 := n2_; have GE233 := n3_; clear n0_ n1_ n2_ n3_; clear hb hbox hg) | ((with_reducible refine gate_dst (N := 3) rfl ?_); (try (refine gate_guard (by rfl) ?_; dsimp only)); refine box_event ?hg (N := 3) ?hd (cs := #[.int .i64 a1_0, .int .i64 a1_1, .int .u32 a1_2, .int .u32 a1_3, .int .i64 a1_4, .int .i64 a1_5, .int .i64 a1_6, .int .i64 a1_7, .int .i64 a1_8, .bool a1_9, .bool a1_10, .int .u32 a1_11, .int .u32 a1_12, .slice A1_13 l1_13.length c1_13, .slice A1_14 l1_14.length c1_14]) (t := 26) ?hr ?_; (case hd => rfl); (case hg => rfl); (case hr => first | (go_simp; done) | (go_simp; rfl)); intro gb234 hg w5 hbox hb; have n0_ := Aside0.mk (blk_below (g := gb233) (o := .cells #[.int .i64 a0_0, .int .i64 a0_1, .int .u32 a0_2, .int .u32 a0_3, .int .i64 a0_4, .int .i64 a0_5, .int .i64 a0_6, .int .i64 a0_7, .int .i64 a0_8, .bool a0_9, .bool a0_10, .int .u32 a0_11, .int .u32 a0_12, .slice A0_13 l0_13.length c0_13, .slice A0_14 l0_14.length c0_14] 26 (0, 0)) (by (with_reducible repeat (first | refine blk_drewN ?_ _ | refine blk_drew ?_ | refine blk_alloc ?_ _)); exact BK233.out) hb); have n1_ := Aside0.mk (below_step (by repeat (first | (with_reducible first | exact HB.out | apply below_alloc | apply pw_below_drewN | apply below_drew1 | refine below_set ?_ GE233.out) | exact HB.out)) hb); have n2_ := Aside0.mk (hbox); have n3_ := Aside0.mk ((by rw [hg]; exact (below_size (by repeat (first | (with_reducible first | exact HB.out | apply below_alloc | apply pw_below_drewN | apply below_drew1 | refine below_set ?_ GE233.out) | exact HB.out))) : w.heap.size ≤ gb234)); have n4_ := Aside0.mk ((by rw [hg]; exact (below_size (by repeat (first | (with_reducible first | exact HB.out | apply below_alloc | apply pw_below_drewN | apply below_drew1 | refine below_set ?_ GE233.out) | exact HB.out))) : w.heap.size ≤ gb234)); have n5_ := Aside0.mk ((by rw [hg]; exact Nat.ne_of_lt (blk_lt (g := gb233) (o := .cells #[.int .i64 a0_0, .int .i64 a0_1, .int .u32 a0_2, .int .u32 a0_3, .int .i64 a0_4, .int .i64 a0_5, .int .i64 a0_6, .int .i64 a0_7, .int .i64 a0_8, .bool a0_9, .bool a0_10, .int .u32 a0_11, .int .u32 a0_12, .slice A0_13 l0_13.length c0_13, .slice A0_14 l0_14.length c0_14] 26 (0, 0)) (by (with_reducible repeat (first | refine blk_drewN ?_ _ | refine blk_drew ?_ | refine blk_alloc ?_ _)); exact BK233.out)) : gb233 ≠ gb234)); have n6_ := Aside0.mk ((by rw [hg]; exact Nat.ne_of_gt (blk_lt (g := gb233) (o := .cells #[.int .i64 a0_0, .int .i64 a0_1, .int .u32 a0_2, .int .u32 a0_3, .int .i64 a0_4, .int .i64 a0_5, .int .i64 a0_6, .int .i64 a0_7, .int .i64 a0_8, .bool a0_9, .bool a0_10, .int .u32 a0_11, .int .u32 a0_12, .slice A0_13 l0_13.length c0_13, .slice A0_14 l0_14.length c0_14] 26 (0, 0)) (by (with_reducible repeat (first | refine blk_drewN ?_ _ | refine blk_drew ?_ | refine blk_alloc ?_ _)); exact BK233.out)) : gb234 ≠ gb233)); clear BK233; clear HB; have BK233 := n0_; have HB := n1_; have BK234 := n2_; have GW234 := n3_; have GE234 := n4_; have NB233_234 := n5_; have NB234_233 := n6_; clear n0_ n1_ n2_ n3_ n4_ n5_ n6_; clear hb hbox hg)))
 (try simp only [Act.put, List.setIfInBounds_toArray, List.set_cons_zero, List.set_cons_succ])
 go_cut [52] (fun v52 wc => ∃ (kq : Nat) (x52_2 : Bool), v52 = .bool x52_2 ∧ Aside0 (tidewayref03_Same.j0 kq x52_2 a0_0 a0_1 a0_2 a0_3 a0_4 a0_5 a0_6 a0_7 a0_8 a0_9 a0_10 a0_11 a0_12 l0_13 l0_14 a1_0 a1_1 a1_2 a1_3 a1_4 a1_5 a1_6 a1_7 a1_8 a1_9 a1_10 a1_11 a1_12 l1_13 l1_14 = some r) ∧ Aside0 (kq ≤ k) ∧ Aside0 (wc.heap[gb233]? = some (.cells #[.int .i64 a0_0, .int .i64 a0_1, .int .u32 a0_2, .int .u32 a0_3, .int .i64 a0_4, .int .i64 a0_5, .int .i64 a0_6, .int .i64 a0_7, .int .i64 a0_8, .bool a0_9, .bool a0_10, .int .u32 a0_11, .int .u32 a0_12, (.slice A0_13 l0_13.length c0_13), (.slice A0_14 l0_14.length c0_14)] 26 (0, 0))) ∧ Aside0 (wc.heap[gb234]? = some (.cells #[.int .i64 a1_0, .int .i64 a1_1, .int .u32 a1_2, .int .u32 a1_3, .int .i64 a1_4, .int .i64 a1_5, .int .i64 a1_6, .int .i64 a1_7, .int .i64 a1_8, .bool a1_9, .bool a1_10, .int .u32 a1_11, .int .u32 a1_12, (.slice A1_13 l1_13.length c1_13), (.slice A1_14 l1_14.length c1_14)] 26 (0, 0))) ∧ Aside0 (Below w.heap.size w wc))
 case first =>
  have H := HC3.out
  clear HC3
  by_cases c6 : a0_0 = a1_0
  ·rw [if_pos c6] at H
   have c6b0 : (a0_0 == a1_0) = true := beq_iff_eq.mpr c6
   have c6b1 : (a0_0 != a1_0) = false := bne_eq_false_iff_eq.mpr c6
   clear c6
   (first | rw [c6b0] | (simp only [i64_w, i32_w]; rw [c6b0]) | skip)
   by_cases c7 : a0_1 = a1_1
   ·rw [if_pos c7] at H
    have c7b0 : (a0_1 == a1_1) = true := beq_iff_eq.mpr c7
    have c7b1 : (a0_1 != a1_1) = false := bne_eq_false_iff_eq.mpr c7
    clear c7
    by_cases c8 : a0_2 = a1_2
    ·rw [if_pos c8] at H
     have c8b0 : (a0_2 == a1_2) = true := beq_iff_eq.mpr c8
     have c8b1 : (a0_2 != a1_2) = false := bne_eq_false_iff_eq.mpr c8
     clear c8
     by_cases c9 : a0_3 = a1_3
     ·rw [if_pos c9] at H
      have c9b0 : (a0_3 == a1_3) = true := beq_iff_eq.mpr c9
      have c9b1 : (a0_3 != a1_3) = false := bne_eq_false_iff_eq.mpr c9
      clear c9
      by_cases c10 : a0_4 = a1_4
      ·rw [if_pos c10] at H
       have c10b0 : (a0_4 == a1_4) = true := beq_iff_eq.mpr c10
       have c10b1 : (a0_4 != a1_4) = false := bne_eq_false_iff_eq.mpr c10
       clear c10
       by_cases c11 : a0_5 = a1_5
       ·rw [if_pos c11] at H
        have c11b0 : (a0_5 == a1_5) = true := beq_iff_eq.mpr c11
        have c11b1 : (a0_5 != a1_5) = false := bne_eq_false_iff_eq.mpr c11
        clear c11
        have H' := Aside0.mk H
        clear H
        have hnb12 := NB233_234.out
        have hnc12 := NB234_233.out
        have hcz13_0 : w5.cell? ⟨gb233, 0, none⟩ = some (.int .i64 a0_0) := (blk_cell BK233.out 0).trans rfl
        have hcz13_1 : w5.cell? ⟨gb233, 1, none⟩ = some (.int .i64 a0_1) := (blk_cell BK233.out 1).trans rfl
        have hcz13_2 : w5.cell? ⟨gb233, 2, none⟩ = some (.int .u32 a0_2) := (blk_cell BK233.out 2).trans rfl
        have hcz13_3 : w5.cell? ⟨gb233, 3, none⟩ = some (.int .u32 a0_3) := (blk_cell BK233.out 3).trans rfl
        have hcz13_4 : w5.cell? ⟨gb233, 4, none⟩ = some (.int .i64 a0_4) := (blk_cell BK233.out 4).trans rfl
        have hcz13_5 : w5.cell? ⟨gb233, 5, none⟩ = some (.int .i64 a0_5) := (blk_cell BK233.out 5).trans rfl
        have hcz13_6 : w5.cell? ⟨gb233, 6, none⟩ = some (.int .i64 a0_6) := (blk_cell BK233.out 6).trans rfl
        have hcz13_7 : w5.cell? ⟨gb233, 7, none⟩ = some (.int .i64 a0_7) := (blk_cell BK233.out 7).trans rfl
        have hcz13_8 : w5.cell? ⟨gb233, 8, none⟩ = some (.int .i64 a0_8) := (blk_cell BK233.out 8).trans rfl
        have hcz13_9 : w5.cell? ⟨gb233, 9, none⟩ = some (.bool a0_9) := (blk_cell BK233.out 9).trans rfl
        have hcz13_10 : w5.cell? ⟨gb233, 10, none⟩ = some (.bool a0_10) := (blk_cell BK233.out 10).trans rfl
        have hcz13_11 : w5.cell? ⟨gb233, 11, none⟩ = some (.int .u32 a0_11) := (blk_cell BK233.out 11).trans rfl
        have hcz13_12 : w5.cell? ⟨gb233, 12, none⟩ = some (.int .u32 a0_12) := (blk_cell BK233.out 12).trans rfl
        have hcz13_13 : w5.cell? ⟨gb233, 13, none⟩ = some (.slice A0_13 l0_13.length c0_13) := (blk_cell BK233.out 13).trans rfl
        have hcz13_14 : w5.cell? ⟨gb233, 14, none⟩ = some (.slice A0_14 l0_14.length c0_14) := (blk_cell BK233.out 14).trans rfl
        have hfz13_0 := blk_frozen BK233.out 0
        have hfz13_1 := blk_frozen BK233.out 1
        have hfz13_2 := blk_frozen BK233.out 2
        have hfz13_3 := blk_frozen BK233.out 3
        have hfz13_4 := blk_frozen BK233.out 4
        have hfz13_5 := blk_frozen BK233.out 5
        have hfz13_6 := blk_frozen BK233.out 6
        have hfz13_7 := blk_frozen BK233.out 7
        have hfz13_8 := blk_frozen BK233.out 8
        have hfz13_9 := blk_frozen BK233.out 9
        have hfz13_10 := blk_frozen BK233.out 10
        have hfz13_11 := blk_frozen BK233.out 11
        have hfz13_12 := blk_frozen BK233.out 12
        have hfz13_13 := blk_frozen BK233.out 13
        have hfz13_14 := blk_frozen BK233.out 14
        have hcz14_0 : w5.cell? ⟨gb234, 0, none⟩ = some (.int .i64 a1_0) := (blk_cell BK234.out 0).trans rfl
        have hcz14_1 : w5.cell? ⟨gb234, 1, none⟩ = some (.int .i64 a1_1) := (blk_cell BK234.out 1).trans rfl
        have hcz14_2 : w5.cell? ⟨gb234, 2, none⟩ = some (.int .u32 a1_2) := (blk_cell BK234.out 2).trans rfl
        have hcz14_3 : w5.cell? ⟨gb234, 3, none⟩ = some (.int .u32 a1_3) := (blk_cell BK234.out 3).trans rfl
        have hcz14_4 : w5.cell? ⟨gb234, 4, none⟩ = some (.int .i64 a1_4) := (blk_cell BK234.out 4).trans rfl
        have hcz14_5 : w5.cell? ⟨gb234, 5, none⟩ = some (.int .i64 a1_5) := (blk_cell BK234.out 5).trans rfl
        have hcz14_6 : w5.cell? ⟨gb234, 6, none⟩ = some (.int .i64 a1_6) := (blk_cell BK234.out 6).trans rfl
        have hcz14_7 : w5.cell? ⟨gb234, 7, none⟩ = some (.int .i64 a1_7) := (blk_cell BK234.out 7).trans rfl
        have hcz14_8 : w5.cell? ⟨gb234, 8, none⟩ = some (.int .i64 a1_8) := (blk_cell BK234.out 8).trans rfl
        have hcz14_9 : w5.cell? ⟨gb234, 9, none⟩ = some (.bool a1_9) := (blk_cell BK234.out 9).trans rfl
        have hcz14_10 : w5.cell? ⟨gb234, 10, none⟩ = some (.bool a1_10) := (blk_cell BK234.out 10).trans rfl
        have hcz14_11 : w5.cell? ⟨gb234, 11, none⟩ = some (.int .u32 a1_11) := (blk_cell BK234.out 11).trans rfl
        have hcz14_12 : w5.cell? ⟨gb234, 12, none⟩ = some (.int .u32 a1_12) := (blk_cell BK234.out 12).trans rfl
        have hcz14_13 : w5.cell? ⟨gb234, 13, none⟩ = some (.slice A1_13 l1_13.length c1_13) := (blk_cell BK234.out 13).trans rfl
        have hcz14_14 : w5.cell? ⟨gb234, 14, none⟩ = some (.slice A1_14 l1_14.length c1_14) := (blk_cell BK234.out 14).trans rfl
        have hfz14_0 := blk_frozen BK234.out 0
        have hfz14_1 := blk_frozen BK234.out 1
        have hfz14_2 := blk_frozen BK234.out 2
        have hfz14_3 := blk_frozen BK234.out 3
        have hfz14_4 := blk_frozen BK234.out 4
        have hfz14_5 := blk_frozen BK234.out 5
        have hfz14_6 := blk_frozen BK234.out 6
        have hfz14_7 := blk_frozen BK234.out 7
        have hfz14_8 := blk_frozen BK234.out 8
        have hfz14_9 := blk_frozen BK234.out 9
        have hfz14_10 := blk_frozen BK234.out 10
        have hfz14_11 := blk_frozen BK234.out 11
        have hfz14_12 := blk_frozen BK234.out 12
        have hfz14_13 := blk_frozen BK234.out 13
        have hfz14_14 := blk_frozen BK234.out 14
        go_wp2
        repeat (go_quiet (fail); try go_wp2)
        go_meet
        case rel => exact ⟨_, ((a0_6 != a1_6)), (by first | rfl | (simp; done) | (simp [*]; done)), H', ⟨by first | omega | exact Nat.le_refl _⟩, ⟨by (with_reducible repeat (first | refine blk_drewN ?_ _ | refine blk_drew ?_ | refine blk_alloc ?_ _)); exact BK233.out⟩, ⟨by (with_reducible repeat (first | refine blk_drewN ?_ _ | refine blk_drew ?_ | refine blk_alloc ?_ _)); exact BK234.out⟩, ⟨by repeat (first | (with_reducible first | exact HB.out | apply below_alloc | apply pw_below_drewN | apply below_drew1 | refine below_set ?_ GE233.out | refine below_set ?_ GE234.out) | exact HB.out)⟩⟩
       ·rw [if_neg c11] at H
        have c11b0 : (a0_5 == a1_5) = false := beq_eq_false_iff_ne.mpr c11
        have c11b1 : (a0_5 != a1_5) = true := bne_iff_ne.mpr c11
        have H' := Aside0.mk H
        clear H
        have hnb15 := NB233_234.out
        have hnc15 := NB234_233.out
        have hcz16_0 : w5.cell? ⟨gb233, 0, none⟩ = some (.int .i64 a0_0) := (blk_cell BK233.out 0).trans rfl
        have hcz16_1 : w5.cell? ⟨gb233, 1, none⟩ = some (.int .i64 a0_1) := (blk_cell BK233.out 1).trans rfl
        have hcz16_2 : w5.cell? ⟨gb233, 2, none⟩ = some (.int .u32 a0_2) := (blk_cell BK233.out 2).trans rfl
        have hcz16_3 : w5.cell? ⟨gb233, 3, none⟩ = some (.int .u32 a0_3) := (blk_cell BK233.out 3).trans rfl
        have hcz16_4 : w5.cell? ⟨gb233, 4, none⟩ = some (.int .i64 a0_4) := (blk_cell BK233.out 4).trans rfl
        have hcz16_5 : w5.cell? ⟨gb233, 5, none⟩ = some (.int .i64 a0_5) := (blk_cell BK233.out 5).trans rfl
        have hcz16_6 : w5.cell? ⟨gb233, 6, none⟩ = some (.int .i64 a0_6) := (blk_cell BK233.out 6).trans rfl
        have hcz16_7 : w5.cell? ⟨gb233, 7, none⟩ = some (.int .i64 a0_7) := (blk_cell BK233.out 7).trans rfl
        have hcz16_8 : w5.cell? ⟨gb233, 8, none⟩ = some (.int .i64 a0_8) := (blk_cell BK233.out 8).trans rfl
        have hcz16_9 : w5.cell? ⟨gb233, 9, none⟩ = some (.bool a0_9) := (blk_cell BK233.out 9).trans rfl
        have hcz16_10 : w5.cell? ⟨gb233, 10, none⟩ = some (.bool a0_10) := (blk_cell BK233.out 10).trans rfl
        have hcz16_11 : w5.cell? ⟨gb233, 11, none⟩ = some (.int .u32 a0_11) := (blk_cell BK233.out 11).trans rfl
        have hcz16_12 : w5.cell? ⟨gb233, 12, none⟩ = some (.int .u32 a0_12) := (blk_cell BK233.out 12).trans rfl
        have hcz16_13 : w5.cell? ⟨gb233, 13, none⟩ = some (.slice A0_13 l0_13.length c0_13) := (blk_cell BK233.out 13).trans rfl
        have hcz16_14 : w5.cell? ⟨gb233, 14, none⟩ = some (.slice A0_14 l0_14.length c0_14) := (blk_cell BK233.out 14).trans rfl
        have hfz16_0 := blk_frozen BK233.out 0
        have hfz16_1 := blk_frozen BK233.out 1
        have hfz16_2 := blk_frozen BK233.out 2
        have hfz16_3 := blk_frozen BK233.out 3
        have hfz16_4 := blk_frozen BK233.out 4
        have hfz16_5 := blk_frozen BK233.out 5
        have hfz16_6 := blk_frozen BK233.out 6
        have hfz16_7 := blk_frozen BK233.out 7
        have hfz16_8 := blk_frozen BK233.out 8
        have hfz16_9 := blk_frozen BK233.out 9
        have hfz16_10 := blk_frozen BK233.out 10
        have hfz16_11 := blk_frozen BK233.out 11
        have hfz16_12 := blk_frozen BK233.out 12
        have hfz16_13 := blk_frozen BK233.out 13
        have hfz16_14 := blk_frozen BK233.out 14
        have hcz17_0 : w5.cell? ⟨gb234, 0, none⟩ = some (.int .i64 a1_0) := (blk_cell BK234.out 0).trans rfl
        have hcz17_1 : w5.cell? ⟨gb234, 1, none⟩ = some (.int .i64 a1_1) := (blk_cell BK234.out 1).trans rfl
        have hcz17_2 : w5.cell? ⟨gb234, 2, none⟩ = some (.int .u32 a1_2) := (blk_cell BK234.out 2).trans rfl
        have hcz17_3 : w5.cell? ⟨gb234, 3, none⟩ = some (.int .u32 a1_3) := (blk_cell BK234.out 3).trans rfl
        have hcz17_4 : w5.cell? ⟨gb234, 4, none⟩ = some (.int .i64 a1_4) := (blk_cell BK234.out 4).trans rfl
        have hcz17_5 : w5.cell? ⟨gb234, 5, none⟩ = some (.int .i64 a1_5) := (blk_cell BK234.out 5).trans rfl
        have hcz17_6 : w5.cell? ⟨gb234, 6, none⟩ = some (.int .i64 a1_6) := (blk_cell BK234.out 6).trans rfl
        have hcz17_7 : w5.cell? ⟨gb234, 7, none⟩ = some (.int .i64 a1_7) := (blk_cell BK234.out 7).trans rfl
        have hcz17_8 : w5.cell? ⟨gb234, 8, none⟩ = some (.int .i64 a1_8) := (blk_cell BK234.out 8).trans rfl
        have hcz17_9 : w5.cell? ⟨gb234, 9, none⟩ = some (.bool a1_9) := (blk_cell BK234.out 9).trans rfl
        have hcz17_10 : w5.cell? ⟨gb234, 10, none⟩ = some (.bool a1_10) := (blk_cell BK234.out 10).trans rfl
        have hcz17_11 : w5.cell? ⟨gb234, 11, none⟩ = some (.int .u32 a1_11) := (blk_cell BK234.out 11).trans rfl
        have hcz17_12 : w5.cell? ⟨gb234, 12, none⟩ = some (.int .u32 a1_12) := (blk_cell BK234.out 12).trans rfl
        have hcz17_13 : w5.cell? ⟨gb234, 13, none⟩ = some (.slice A1_13 l1_13.length c1_13) := (blk_cell BK234.out 13).trans rfl
        have hcz17_14 : w5.cell? ⟨gb234, 14, none⟩ = some (.slice A1_14 l1_14.length c1_14) := (blk_cell BK234.out 14).trans rfl
        have hfz17_0 := blk_frozen BK234.out 0
        have hfz17_1 := blk_frozen BK234.out 1
        have hfz17_2 := blk_frozen BK234.out 2
        have hfz17_3 := blk_frozen BK234.out 3
        have hfz17_4 := blk_frozen BK234.out 4
        have hfz17_5 := blk_frozen BK234.out 5
        have hfz17_6 := blk_frozen BK234.out 6
        have hfz17_7 := blk_frozen BK234.out 7
        have hfz17_8 := blk_frozen BK234.out 8
        have hfz17_9 := blk_frozen BK234.out 9
        have hfz17_10 := blk_frozen BK234.out 10
        have hfz17_11 := blk_frozen BK234.out 11
        have hfz17_12 := blk_frozen BK234.out 12
        have hfz17_13 := blk_frozen BK234.out 13
        have hfz17_14 := blk_frozen BK234.out 14
        go_wp2
        repeat (go_quiet (fail); try go_wp2)
        go_meet
        case rel => exact ⟨_, (true), (by first | rfl | (simp; done) | (simp [*]; done)), H', ⟨by first | omega | exact Nat.le_refl _⟩, ⟨by (with_reducible repeat (first | refine blk_drewN ?_ _ | refine blk_drew ?_ | refine blk_alloc ?_ _)); exact BK233.out⟩, ⟨by (with_reducible repeat (first | refine blk_drewN ?_ _ | refine blk_drew ?_ | refine blk_alloc ?_ _)); exact BK234.out⟩, ⟨by repeat (first | (with_reducible first | exact HB.out | apply below_alloc | apply pw_below_drewN | apply below_drew1 | refine below_set ?_ GE233.out | refine below_set ?_ GE234.out) | exact HB.out)⟩⟩
      ·rw [if_neg c10] at H
       have c10b0 : (a0_4 == a1_4) = false := beq_eq_false_iff_ne.mpr c10
       have c10b1 : (a0_4 != a1_4) = true := bne_iff_ne.mpr c10
       have H' := Aside0.mk H
       clear H
       have hnb18 := NB233_234.out
       have hnc18 := NB234_233.out
       have hcz19_0 : w5.cell? ⟨gb233, 0, none⟩ = some (.int .i64 a0_0) := (blk_cell BK233.out 0).trans rfl
       have hcz19_1 : w5.cell? ⟨gb233, 1, none⟩ = some (.int .i64 a0_1) := (blk_cell BK233.out 1).trans rfl
       have hcz19_2 : w5.cell? ⟨gb233, 2, none⟩ = some (.int .u32 a0_2) := (blk_cell BK233.out 2).trans rfl
       have hcz19_3 : w5.cell? ⟨gb233, 3, none⟩ = some (.int .u32 a0_3) := (blk_cell BK233.out 3).trans rfl
       have hcz19_4 : w5.cell? ⟨gb233, 4, none⟩ = some (.int .i64 a0_4) := (blk_cell BK233.out 4).trans rfl
       have hcz19_5 : w5.cell? ⟨gb233, 5, none⟩ = some (.int .i64 a0_5) := (blk_cell BK233.out 5).trans rfl
       have hcz19_6 : w5.cell? ⟨gb233, 6, none⟩ = some (.int .i64 a0_6) := (blk_cell BK233.out 6).trans rfl
       have hcz19_7 : w5.cell? ⟨gb233, 7, none⟩ = some (.int .i64 a0_7) := (blk_cell BK233.out 7).trans rfl
       have hcz19_8 : w5.cell? ⟨gb233, 8, none⟩ = some (.int .i64 a0_8) := (blk_cell BK233.out 8).trans rfl
       have hcz19_9 : w5.cell? ⟨gb233, 9, none⟩ = some (.bool a0_9) := (blk_cell BK233.out 9).trans rfl
       have hcz19_10 : w5.cell? ⟨gb233, 10, none⟩ = some (.bool a0_10) := (blk_cell BK233.out 10).trans rfl
       have hcz19_11 : w5.cell? ⟨gb233, 11, none⟩ = some (.int .u32 a0_11) := (blk_cell BK233.out 11).trans rfl
       have hcz19_12 : w5.cell? ⟨gb233, 12, none⟩ = some (.int .u32 a0_12) := (blk_cell BK233.out 12).trans rfl
       have hcz19_13 : w5.cell? ⟨gb233, 13, none⟩ = some (.slice A0_13 l0_13.length c0_13) := (blk_cell BK233.out 13).trans rfl
       have hcz19_14 : w5.cell? ⟨gb233, 14, none⟩ = some (.slice A0_14 l0_14.length c0_14) := (blk_cell BK233.out 14).trans rfl
       have hfz19_0 := blk_frozen BK233.out 0
       have hfz19_1 := blk_frozen BK233.out 1
       have hfz19_2 := blk_frozen BK233.out 2
       have hfz19_3 := blk_frozen BK233.out 3
       have hfz19_4 := blk_frozen BK233.out 4
       have hfz19_5 := blk_frozen BK233.out 5
       have hfz19_6 := blk_frozen BK233.out 6
       have hfz19_7 := blk_frozen BK233.out 7
       have hfz19_8 := blk_frozen BK233.out 8
       have hfz19_9 := blk_frozen BK233.out 9
       have hfz19_10 := blk_frozen BK233.out 10
       have hfz19_11 := blk_frozen BK233.out 11
       have hfz19_12 := blk_frozen BK233.out 12
       have hfz19_13 := blk_frozen BK233.out 13
       have hfz19_14 := blk_frozen BK233.out 14
       have hcz20_0 : w5.cell? ⟨gb234, 0, none⟩ = some (.int .i64 a1_0) := (blk_cell BK234.out 0).trans rfl
       have hcz20_1 : w5.cell? ⟨gb234, 1, none⟩ = some (.int .i64 a1_1) := (blk_cell BK234.out 1).trans rfl
       have hcz20_2 : w5.cell? ⟨gb234, 2, none⟩ = some (.int .u32 a1_2) := (blk_cell BK234.out 2).trans rfl
       have hcz20_3 : w5.cell? ⟨gb234, 3, none⟩ = some (.int .u32 a1_3) := (blk_cell BK234.out 3).trans rfl
       have hcz20_4 : w5.cell? ⟨gb234, 4, none⟩ = some (.int .i64 a1_4) := (blk_cell BK234.out 4).trans rfl
       have hcz20_5 : w5.cell? ⟨gb234, 5, none⟩ = some (.int .i64 a1_5) := (blk_cell BK234.out 5).trans rfl
       have hcz20_6 : w5.cell? ⟨gb234, 6, none⟩ = some (.int .i64 a1_6) := (blk_cell BK234.out 6).trans rfl
       have hcz20_7 : w5.cell? ⟨gb234, 7, none⟩ = some (.int .i64 a1_7) := (blk_cell BK234.out 7).trans rfl
       have hcz20_8 : w5.cell? ⟨gb234, 8, none⟩ = some (.int .i64 a1_8) := (blk_cell BK234.out 8).trans rfl
       have hcz20_9 : w5.cell? ⟨gb234, 9, none⟩ = some (.bool a1_9) := (blk_cell BK234.out 9).trans rfl
       have hcz20_10 : w5.cell? ⟨gb234, 10, none⟩ = some (.bool a1_10) := (blk_cell BK234.out 10).trans rfl
       have hcz20_11 : w5.cell? ⟨gb234, 11, none⟩ = some (.int .u32 a1_11) := (blk_cell BK234.out 11).trans rfl
       have hcz20_12 : w5.cell? ⟨gb234, 12, none⟩ = some (.int .u32 a1_12) := (blk_cell BK234.out 12).trans rfl
       have hcz20_13 : w5.cell? ⟨gb234, 13, none⟩ = some (.slice A1_13 l1_13.length c1_13) := (blk_cell BK234.out 13).trans rfl
       have hcz20_14 : w5.cell? ⟨gb234, 14, none⟩ = some (.slice A1_14 l1_14.length c1_14) := (blk_cell BK234.out 14).trans rfl
       have hfz20_0 := blk_frozen BK234.out 0
       have hfz20_1 := blk_frozen BK234.out 1
       have hfz20_2 := blk_frozen BK234.out 2
       have hfz20_3 := blk_frozen BK234.out 3
       have hfz20_4 := blk_frozen BK234.out 4
       have hfz20_5 := blk_frozen BK234.out 5
       have hfz20_6 := blk_frozen BK234.out 6
       have hfz20_7 := blk_frozen BK234.out 7
       have hfz20_8 := blk_frozen BK234.out 8
       have hfz20_9 := blk_frozen BK234.out 9
       have hfz20_10 := blk_frozen BK234.out 10
       have hfz20_11 := blk_frozen BK234.out 11
       have hfz20_12 := blk_frozen BK234.out 12
       have hfz20_13 := blk_frozen BK234.out 13
       have hfz20_14 := blk_frozen BK234.out 14
       go_wp2
       repeat (go_quiet (fail); try go_wp2)
       go_meet
       case rel => exact ⟨_, (true), (by first | rfl | (simp; done) | (simp [*]; done)), H', ⟨by first | omega | exact Nat.le_refl _⟩, ⟨by (with_reducible repeat (first | refine blk_drewN ?_ _ | refine blk_drew ?_ | refine blk_alloc ?_ _)); exact BK233.out⟩, ⟨by (with_reducible repeat (first | refine blk_drewN ?_ _ | refine blk_drew ?_ | refine blk_alloc ?_ _)); exact BK234.out⟩, ⟨by repeat (first | (with_reducible first | exact HB.out | apply below_alloc | apply pw_below_drewN | apply below_drew1 | refine below_set ?_ GE233.out | refine below_set ?_ GE234.out) | exact HB.out)⟩⟩
     ·rw [if_neg c9] at H
      have c9b0 : (a0_3 == a1_3) = false := beq_eq_false_iff_ne.mpr c9
      have c9b1 : (a0_3 != a1_3) = true := bne_iff_ne.mpr c9
      have H' := Aside0.mk H
      clear H
      have hnb21 := NB233_234.out
      have hnc21 := NB234_233.out
      have hcz22_0 : w5.cell? ⟨gb233, 0, none⟩ = some (.int .i64 a0_0) := (blk_cell BK233.out 0).trans rfl
      have hcz22_1 : w5.cell? ⟨gb233, 1, none⟩ = some (.int .i64 a0_1) := (blk_cell BK233.out 1).trans rfl
      have hcz22_2 : w5.cell? ⟨gb233, 2, none⟩ = some (.int .u32 a0_2) := (blk_cell BK233.out 2).trans rfl
      have hcz22_3 : w5.cell? ⟨gb233, 3, none⟩ = some (.int .u32 a0_3) := (blk_cell BK233.out 3).trans rfl
      have hcz22_4 : w5.cell? ⟨gb233, 4, none⟩ = some (.int .i64 a0_4) := (blk_cell BK233.out 4).trans rfl
      have hcz22_5 : w5.cell? ⟨gb233, 5, none⟩ = some (.int .i64 a0_5) := (blk_cell BK233.out 5).trans rfl
      have hcz22_6 : w5.cell? ⟨gb233, 6, none⟩ = some (.int .i64 a0_6) := (blk_cell BK233.out 6).trans rfl
      have hcz22_7 : w5.cell? ⟨gb233, 7, none⟩ = some (.int .i64 a0_7) := (blk_cell BK233.out 7).trans rfl
      have hcz22_8 : w5.cell? ⟨gb233, 8, none⟩ = some (.int .i64 a0_8) := (blk_cell BK233.out 8).trans rfl
      have hcz22_9 : w5.cell? ⟨gb233, 9, none⟩ = some (.bool a0_9) := (blk_cell BK233.out 9).trans rfl
      have hcz22_10 : w5.cell? ⟨gb233, 10, none⟩ = some (.bool a0_10) := (blk_cell BK233.out 10).trans rfl
      have hcz22_11 : w5.cell? ⟨gb233, 11, none⟩ = some (.int .u32 a0_11) := (blk_cell BK233.out 11).trans rfl
      have hcz22_12 : w5.cell? ⟨gb233, 12, none⟩ = some (.int .u32 a0_12) := (blk_cell BK233.out 12).trans rfl
      have hcz22_13 : w5.cell? ⟨gb233, 13, none⟩ = some (.slice A0_13 l0_13.length c0_13) := (blk_cell BK233.out 13).trans rfl
      have hcz22_14 : w5.cell? ⟨gb233, 14, none⟩ = some (.slice A0_14 l0_14.length c0_14) := (blk_cell BK233.out 14).trans rfl
      have hfz22_0 := blk_frozen BK233.out 0
      have hfz22_1 := blk_frozen BK233.out 1
      have hfz22_2 := blk_frozen BK233.out 2
      have hfz22_3 := blk_frozen BK233.out 3
      have hfz22_4 := blk_frozen BK233.out 4
      have hfz22_5 := blk_frozen BK233.out 5
      have hfz22_6 := blk_frozen BK233.out 6
      have hfz22_7 := blk_frozen BK233.out 7
      have hfz22_8 := blk_frozen BK233.out 8
      have hfz22_9 := blk_frozen BK233.out 9
      have hfz22_10 := blk_frozen BK233.out 10
      have hfz22_11 := blk_frozen BK233.out 11
      have hfz22_12 := blk_frozen BK233.out 12
      have hfz22_13 := blk_frozen BK233.out 13
      have hfz22_14 := blk_frozen BK233.out 14
      have hcz23_0 : w5.cell? ⟨gb234, 0, none⟩ = some (.int .i64 a1_0) := (blk_cell BK234.out 0).trans rfl
      have hcz23_1 : w5.cell? ⟨gb234, 1, none⟩ = some (.int .i64 a1_1) := (blk_cell BK234.out 1).trans rfl
      have hcz23_2 : w5.cell? ⟨gb234, 2, none⟩ = some (.int .u32 a1_2) := (blk_cell BK234.out 2).trans rfl
      have hcz23_3 : w5.cell? ⟨gb234, 3, none⟩ = some (.int .u32 a1_3) := (blk_cell BK234.out 3).trans rfl
      have hcz23_4 : w5.cell? ⟨gb234, 4, none⟩ = some (.int .i64 a1_4) := (blk_cell BK234.out 4).trans rfl
      have hcz23_5 : w5.cell? ⟨gb234, 5, none⟩ = some (.int .i64 a1_5) := (blk_cell BK234.out 5).trans rfl
      have hcz23_6 : w5.cell? ⟨gb234, 6, none⟩ = some (.int .i64 a1_6) := (blk_cell BK234.out 6).trans rfl
      have hcz23_7 : w5.cell? ⟨gb234, 7, none⟩ = some (.int .i64 a1_7) := (blk_cell BK234.out 7).trans rfl
      have hcz23_8 : w5.cell? ⟨gb234, 8, none⟩ = some (.int .i64 a1_8) := (blk_cell BK234.out 8).trans rfl
      have hcz23_9 : w5.cell? ⟨gb234, 9, none⟩ = some (.bool a1_9) := (blk_cell BK234.out 9).trans rfl
      have hcz23_10 : w5.cell? ⟨gb234, 10, none⟩ = some (.bool a1_10) := (blk_cell BK234.out 10).trans rfl
      have hcz23_11 : w5.cell? ⟨gb234, 11, none⟩ = some (.int .u32 a1_11) := (blk_cell BK234.out 11).trans rfl
      have hcz23_12 : w5.cell? ⟨gb234, 12, none⟩ = some (.int .u32 a1_12) := (blk_cell BK234.out 12).trans rfl
      have hcz23_13 : w5.cell? ⟨gb234, 13, none⟩ = some (.slice A1_13 l1_13.length c1_13) := (blk_cell BK234.out 13).trans rfl
      have hcz23_14 : w5.cell? ⟨gb234, 14, none⟩ = some (.slice A1_14 l1_14.length c1_14) := (blk_cell BK234.out 14).trans rfl
      have hfz23_0 := blk_frozen BK234.out 0
      have hfz23_1 := blk_frozen BK234.out 1
      have hfz23_2 := blk_frozen BK234.out 2
      have hfz23_3 := blk_frozen BK234.out 3
      have hfz23_4 := blk_frozen BK234.out 4
      have hfz23_5 := blk_frozen BK234.out 5
      have hfz23_6 := blk_frozen BK234.out 6
      have hfz23_7 := blk_frozen BK234.out 7
      have hfz23_8 := blk_frozen BK234.out 8
      have hfz23_9 := blk_frozen BK234.out 9
      have hfz23_10 := blk_frozen BK234.out 10
      have hfz23_11 := blk_frozen BK234.out 11
      have hfz23_12 := blk_frozen BK234.out 12
      have hfz23_13 := blk_frozen BK234.out 13
      have hfz23_14 := blk_frozen BK234.out 14
      go_wp2
      repeat (go_quiet (fail); try go_wp2)
      go_meet
      case rel => exact ⟨_, (true), (by first | rfl | (simp; done) | (simp [*]; done)), H', ⟨by first | omega | exact Nat.le_refl _⟩, ⟨by (with_reducible repeat (first | refine blk_drewN ?_ _ | refine blk_drew ?_ | refine blk_alloc ?_ _)); exact BK233.out⟩, ⟨by (with_reducible repeat (first | refine blk_drewN ?_ _ | refine blk_drew ?_ | refine blk_alloc ?_ _)); exact BK234.out⟩, ⟨by repeat (first | (with_reducible first | exact HB.out | apply below_alloc | apply pw_below_drewN | apply below_drew1 | refine below_set ?_ GE233.out | refine below_set ?_ GE234.out) | exact HB.out)⟩⟩
    ·rw [if_neg c8] at H
     have c8b0 : (a0_2 == a1_2) = false := beq_eq_false_iff_ne.mpr c8
     have c8b1 : (a0_2 != a1_2) = true := bne_iff_ne.mpr c8
     have H' := Aside0.mk H
     clear H
     have hnb24 := NB233_234.out
     have hnc24 := NB234_233.out
     have hcz25_0 : w5.cell? ⟨gb233, 0, none⟩ = some (.int .i64 a0_0) := (blk_cell BK233.out 0).trans rfl
     have hcz25_1 : w5.cell? ⟨gb233, 1, none⟩ = some (.int .i64 a0_1) := (blk_cell BK233.out 1).trans rfl
     have hcz25_2 : w5.cell? ⟨gb233, 2, none⟩ = some (.int .u32 a0_2) := (blk_cell BK233.out 2).trans rfl
     have hcz25_3 : w5.cell? ⟨gb233, 3, none⟩ = some (.int .u32 a0_3) := (blk_cell BK233.out 3).trans rfl
     have hcz25_4 : w5.cell? ⟨gb233, 4, none⟩ = some (.int .i64 a0_4) := (blk_cell BK233.out 4).trans rfl
     have hcz25_5 : w5.cell? ⟨gb233, 5, none⟩ = some (.int .i64 a0_5) := (blk_cell BK233.out 5).trans rfl
     have hcz25_6 : w5.cell? ⟨gb233, 6, none⟩ = some (.int .i64 a0_6) := (blk_cell BK233.out 6).trans rfl
     have hcz25_7 : w5.cell? ⟨gb233, 7, none⟩ = some (.int .i64 a0_7) := (blk_cell BK233.out 7).trans rfl
     have hcz25_8 : w5.cell? ⟨gb233, 8, none⟩ = some (.int .i64 a0_8) := (blk_cell BK233.out 8).trans rfl
     have hcz25_9 : w5.cell? ⟨gb233, 9, none⟩ = some (.bool a0_9) := (blk_cell BK233.out 9).trans rfl
     have hcz25_10 : w5.cell? ⟨gb233, 10, none⟩ = some (.bool a0_10) := (blk_cell BK233.out 10).trans rfl
     have hcz25_11 : w5.cell? ⟨gb233, 11, none⟩ = some (.int .u32 a0_11) := (blk_cell BK233.out 11).trans rfl
     have hcz25_12 : w5.cell? ⟨gb233, 12, none⟩ = some (.int .u32 a0_12) := (blk_cell BK233.out 12).trans rfl
     have hcz25_13 : w5.cell? ⟨gb233, 13, none⟩ = some (.slice A0_13 l0_13.length c0_13) := (blk_cell BK233.out 13).trans rfl
     have hcz25_14 : w5.cell? ⟨gb233, 14, none⟩ = some (.slice A0_14 l0_14.length c0_14) := (blk_cell BK233.out 14).trans rfl
     have hfz25_0 := blk_frozen BK233.out 0
     have hfz25_1 := blk_frozen BK233.out 1
     have hfz25_2 := blk_frozen BK233.out 2
     have hfz25_3 := blk_frozen BK233.out 3
     have hfz25_4 := blk_frozen BK233.out 4
     have hfz25_5 := blk_frozen BK233.out 5
     have hfz25_6 := blk_frozen BK233.out 6
     have hfz25_7 := blk_frozen BK233.out 7
     have hfz25_8 := blk_frozen BK233.out 8
     have hfz25_9 := blk_frozen BK233.out 9
     have hfz25_10 := blk_frozen BK233.out 10
     have hfz25_11 := blk_frozen BK233.out 11
     have hfz25_12 := blk_frozen BK233.out 12
     have hfz25_13 := blk_frozen BK233.out 13
     have hfz25_14 := blk_frozen BK233.out 14
     have hcz26_0 : w5.cell? ⟨gb234, 0, none⟩ = some (.int .i64 a1_0) := (blk_cell BK234.out 0).trans rfl
     have hcz26_1 : w5.cell? ⟨gb234, 1, none⟩ = some (.int .i64 a1_1) := (blk_cell BK234.out 1).trans rfl
     have hcz26_2 : w5.cell? ⟨gb234, 2, none⟩ = some (.int .u32 a1_2) := (blk_cell BK234.out 2).trans rfl
     have hcz26_3 : w5.cell? ⟨gb234, 3, none⟩ = some (.int .u32 a1_3) := (blk_cell BK234.out 3).trans rfl
     have hcz26_4 : w5.cell? ⟨gb234, 4, none⟩ = some (.int .i64 a1_4) := (blk_cell BK234.out 4).trans rfl
     have hcz26_5 : w5.cell? ⟨gb234, 5, none⟩ = some (.int .i64 a1_5) := (blk_cell BK234.out 5).trans rfl
     have hcz26_6 : w5.cell? ⟨gb234, 6, none⟩ = some (.int .i64 a1_6) := (blk_cell BK234.out 6).trans rfl
     have hcz26_7 : w5.cell? ⟨gb234, 7, none⟩ = some (.int .i64 a1_7) := (blk_cell BK234.out 7).trans rfl
     have hcz26_8 : w5.cell? ⟨gb234, 8, none⟩ = some (.int .i64 a1_8) := (blk_cell BK234.out 8).trans rfl
     have hcz26_9 : w5.cell? ⟨gb234, 9, none⟩ = some (.bool a1_9) := (blk_cell BK234.out 9).trans rfl
     have hcz26_10 : w5.cell? ⟨gb234, 10, none⟩ = some (.bool a1_10) := (blk_cell BK234.out 10).trans rfl
     have hcz26_11 : w5.cell? ⟨gb234, 11, none⟩ = some (.int .u32 a1_11) := (blk_cell BK234.out 11).trans rfl
     have hcz26_12 : w5.cell? ⟨gb234, 12, none⟩ = some (.int .u32 a1_12) := (blk_cell BK234.out 12).trans rfl
     have hcz26_13 : w5.cell? ⟨gb234, 13, none⟩ = some (.slice A1_13 l1_13.length c1_13) := (blk_cell BK234.out 13).trans rfl
     have hcz26_14 : w5.cell? ⟨gb234, 14, none⟩ = some (.slice A1_14 l1_14.length c1_14) := (blk_cell BK234.out 14).trans rfl
     have hfz26_0 := blk_frozen BK234.out 0
     have hfz26_1 := blk_frozen BK234.out 1
     have hfz26_2 := blk_frozen BK234.out 2
     have hfz26_3 := blk_frozen BK234.out 3
     have hfz26_4 := blk_frozen BK234.out 4
     have hfz26_5 := blk_frozen BK234.out 5
     have hfz26_6 := blk_frozen BK234.out 6
     have hfz26_7 := blk_frozen BK234.out 7
     have hfz26_8 := blk_frozen BK234.out 8
     have hfz26_9 := blk_frozen BK234.out 9
     have hfz26_10 := blk_frozen BK234.out 10
     have hfz26_11 := blk_frozen BK234.out 11
     have hfz26_12 := blk_frozen BK234.out 12
     have hfz26_13 := blk_frozen BK234.out 13
     have hfz26_14 := blk_frozen BK234.out 14
     go_wp2
     repeat (go_quiet (fail); try go_wp2)
     go_meet
     case rel => exact ⟨_, (true), (by first | rfl | (simp; done) | (simp [*]; done)), H', ⟨by first | omega | exact Nat.le_refl _⟩, ⟨by (with_reducible repeat (first | refine blk_drewN ?_ _ | refine blk_drew ?_ | refine blk_alloc ?_ _)); exact BK233.out⟩, ⟨by (with_reducible repeat (first | refine blk_drewN ?_ _ | refine blk_drew ?_ | refine blk_alloc ?_ _)); exact BK234.out⟩, ⟨by repeat (first | (with_reducible first | exact HB.out | apply below_alloc | apply pw_below_drewN | apply below_drew1 | refine below_set ?_ GE233.out | refine below_set ?_ GE234.out) | exact HB.out)⟩⟩
   ·rw [if_neg c7] at H
    have c7b0 : (a0_1 == a1_1) = false := beq_eq_false_iff_ne.mpr c7
    have c7b1 : (a0_1 != a1_1) = true := bne_iff_ne.mpr c7
    have H' := Aside0.mk H
    clear H
    have hnb27 := NB233_234.out
    have hnc27 := NB234_233.out
    have hcz28_0 : w5.cell? ⟨gb233, 0, none⟩ = some (.int .i64 a0_0) := (blk_cell BK233.out 0).trans rfl
    have hcz28_1 : w5.cell? ⟨gb233, 1, none⟩ = some (.int .i64 a0_1) := (blk_cell BK233.out 1).trans rfl
    have hcz28_2 : w5.cell? ⟨gb233, 2, none⟩ = some (.int .u32 a0_2) := (blk_cell BK233.out 2).trans rfl
    have hcz28_3 : w5.cell? ⟨gb233, 3, none⟩ = some (.int .u32 a0_3) := (blk_cell BK233.out 3).trans rfl
    have hcz28_4 : w5.cell? ⟨gb233, 4, none⟩ = some (.int .i64 a0_4) := (blk_cell BK233.out 4).trans rfl
    have hcz28_5 : w5.cell? ⟨gb233, 5, none⟩ = some (.int .i64 a0_5) := (blk_cell BK233.out 5).trans rfl
    have hcz28_6 : w5.cell? ⟨gb233, 6, none⟩ = some (.int .i64 a0_6) := (blk_cell BK233.out 6).trans rfl
    have hcz28_7 : w5.cell? ⟨gb233, 7, none⟩ = some (.int .i64 a0_7) := (blk_cell BK233.out 7).trans rfl
    have hcz28_8 : w5.cell? ⟨gb233, 8, none⟩ = some (.int .i64 a0_8) := (blk_cell BK233.out 8).trans rfl
    have hcz28_9 : w5.cell? ⟨gb233, 9, none⟩ = some (.bool a0_9) := (blk_cell BK233.out 9).trans rfl
    have hcz28_10 : w5.cell? ⟨gb233, 10, none⟩ = some (.bool a0_10) := (blk_cell BK233.out 10).trans rfl
    have hcz28_11 : w5.cell? ⟨gb233, 11, none⟩ = some (.int .u32 a0_11) := (blk_cell BK233.out 11).trans rfl
    have hcz28_12 : w5.cell? ⟨gb233, 12, none⟩ = some (.int .u32 a0_12) := (blk_cell BK233.out 12).trans rfl
    have hcz28_13 : w5.cell? ⟨gb233, 13, none⟩ = some (.slice A0_13 l0_13.length c0_13) := (blk_cell BK233.out 13).trans rfl
    have hcz28_14 : w5.cell? ⟨gb233, 14, none⟩ = some (.slice A0_14 l0_14.length c0_14) := (blk_cell BK233.out 14).trans rfl
    have hfz28_0 := blk_frozen BK233.out 0
    have hfz28_1 := blk_frozen BK233.out 1
    have hfz28_2 := blk_frozen BK233.out 2
    have hfz28_3 := blk_frozen BK233.out 3
    have hfz28_4 := blk_frozen BK233.out 4
    have hfz28_5 := blk_frozen BK233.out 5
    have hfz28_6 := blk_frozen BK233.out 6
    have hfz28_7 := blk_frozen BK233.out 7
    have hfz28_8 := blk_frozen BK233.out 8
    have hfz28_9 := blk_frozen BK233.out 9
    have hfz28_10 := blk_frozen BK233.out 10
    have hfz28_11 := blk_frozen BK233.out 11
    have hfz28_12 := blk_frozen BK233.out 12
    have hfz28_13 := blk_frozen BK233.out 13
    have hfz28_14 := blk_frozen BK233.out 14
    have hcz29_0 : w5.cell? ⟨gb234, 0, none⟩ = some (.int .i64 a1_0) := (blk_cell BK234.out 0).trans rfl
    have hcz29_1 : w5.cell? ⟨gb234, 1, none⟩ = some (.int .i64 a1_1) := (blk_cell BK234.out 1).trans rfl
    have hcz29_2 : w5.cell? ⟨gb234, 2, none⟩ = some (.int .u32 a1_2) := (blk_cell BK234.out 2).trans rfl
    have hcz29_3 : w5.cell? ⟨gb234, 3, none⟩ = some (.int .u32 a1_3) := (blk_cell BK234.out 3).trans rfl
    have hcz29_4 : w5.cell? ⟨gb234, 4, none⟩ = some (.int .i64 a1_4) := (blk_cell BK234.out 4).trans rfl
    have hcz29_5 : w5.cell? ⟨gb234, 5, none⟩ = some (.int .i64 a1_5) := (blk_cell BK234.out 5).trans rfl
    have hcz29_6 : w5.cell? ⟨gb234, 6, none⟩ = some (.int .i64 a1_6) := (blk_cell BK234.out 6).trans rfl
    have hcz29_7 : w5.cell? ⟨gb234, 7, none⟩ = some (.int .i64 a1_7) := (blk_cell BK234.out 7).trans rfl
    have hcz29_8 : w5.cell? ⟨gb234, 8, none⟩ = some (.int .i64 a1_8) := (blk_cell BK234.out 8).trans rfl
    have hcz29_9 : w5.cell? ⟨gb234, 9, none⟩ = some (.bool a1_9) := (blk_cell BK234.out 9).trans rfl
    have hcz29_10 : w5.cell? ⟨gb234, 10, none⟩ = some (.bool a1_10) := (blk_cell BK234.out 10).trans rfl
    have hcz29_11 : w5.cell? ⟨gb234, 11, none⟩ = some (.int .u32 a1_11) := (blk_cell BK234.out 11).trans rfl
    have hcz29_12 : w5.cell? ⟨gb234, 12, none⟩ = some (.int .u32 a1_12) := (blk_cell BK234.out 12).trans rfl
    have hcz29_13 : w5.cell? ⟨gb234, 13, none⟩ = some (.slice A1_13 l1_13.length c1_13) := (blk_cell BK234.out 13).trans rfl
    have hcz29_14 : w5.cell? ⟨gb234, 14, none⟩ = some (.slice A1_14 l1_14.length c1_14) := (blk_cell BK234.out 14).trans rfl
    have hfz29_0 := blk_frozen BK234.out 0
    have hfz29_1 := blk_frozen BK234.out 1
    have hfz29_2 := blk_frozen BK234.out 2
    have hfz29_3 := blk_frozen BK234.out 3
    have hfz29_4 := blk_frozen BK234.out 4
    have hfz29_5 := blk_frozen BK234.out 5
    have hfz29_6 := blk_frozen BK234.out 6
    have hfz29_7 := blk_frozen BK234.out 7
    have hfz29_8 := blk_frozen BK234.out 8
    have hfz29_9 := blk_frozen BK234.out 9
    have hfz29_10 := blk_frozen BK234.out 10
    have hfz29_11 := blk_frozen BK234.out 11
    have hfz29_12 := blk_frozen BK234.out 12
    have hfz29_13 := blk_frozen BK234.out 13
    have hfz29_14 := blk_frozen BK234.out 14
    go_wp2
    repeat (go_quiet (fail); try go_wp2)
    go_meet
    case rel => exact ⟨_, (true), (by first | rfl | (simp; done) | (simp [*]; done)), H', ⟨by first | omega | exact Nat.le_refl _⟩, ⟨by (with_reducible repeat (first | refine blk_drewN ?_ _ | refine blk_drew ?_ | refine blk_alloc ?_ _)); exact BK233.out⟩, ⟨by (with_reducible repeat (first | refine blk_drewN ?_ _ | refine blk_drew ?_ | refine blk_alloc ?_ _)); exact BK234.out⟩, ⟨by repeat (first | (with_reducible first | exact HB.out | apply below_alloc | apply pw_below_drewN | apply below_drew1 | refine below_set ?_ GE233.out | refine below_set ?_ GE234.out) | exact HB.out)⟩⟩
  ·rw [if_neg c6] at H
   have c6b0 : (a0_0 == a1_0) = false := beq_eq_false_iff_ne.mpr c6
   have c6b1 : (a0_0 != a1_0) = true := bne_iff_ne.mpr c6
   (first | rw [c6b0] | (simp only [i64_w, i32_w]; rw [c6b0]) | skip)
   have H' := Aside0.mk H
   clear H
   have hnb30 := NB233_234.out
   have hnc30 := NB234_233.out
   have hcz31_0 : w5.cell? ⟨gb233, 0, none⟩ = some (.int .i64 a0_0) := (blk_cell BK233.out 0).trans rfl
   have hcz31_1 : w5.cell? ⟨gb233, 1, none⟩ = some (.int .i64 a0_1) := (blk_cell BK233.out 1).trans rfl
   have hcz31_2 : w5.cell? ⟨gb233, 2, none⟩ = some (.int .u32 a0_2) := (blk_cell BK233.out 2).trans rfl
   have hcz31_3 : w5.cell? ⟨gb233, 3, none⟩ = some (.int .u32 a0_3) := (blk_cell BK233.out 3).trans rfl
   have hcz31_4 : w5.cell? ⟨gb233, 4, none⟩ = some (.int .i64 a0_4) := (blk_cell BK233.out 4).trans rfl
   have hcz31_5 : w5.cell? ⟨gb233, 5, none⟩ = some (.int .i64 a0_5) := (blk_cell BK233.out 5).trans rfl
   have hcz31_6 : w5.cell? ⟨gb233, 6, none⟩ = some (.int .i64 a0_6) := (blk_cell BK233.out 6).trans rfl
   have hcz31_7 : w5.cell? ⟨gb233, 7, none⟩ = some (.int .i64 a0_7) := (blk_cell BK233.out 7).trans rfl
   have hcz31_8 : w5.cell? ⟨gb233, 8, none⟩ = some (.int .i64 a0_8) := (blk_cell BK233.out 8).trans rfl
   have hcz31_9 : w5.cell? ⟨gb233, 9, none⟩ = some (.bool a0_9) := (blk_cell BK233.out 9).trans rfl
   have hcz31_10 : w5.cell? ⟨gb233, 10, none⟩ = some (.bool a0_10) := (blk_cell BK233.out 10).trans rfl
   have hcz31_11 : w5.cell? ⟨gb233, 11, none⟩ = some (.int .u32 a0_11) := (blk_cell BK233.out 11).trans rfl
   have hcz31_12 : w5.cell? ⟨gb233, 12, none⟩ = some (.int .u32 a0_12) := (blk_cell BK233.out 12).trans rfl
   have hcz31_13 : w5.cell? ⟨gb233, 13, none⟩ = some (.slice A0_13 l0_13.length c0_13) := (blk_cell BK233.out 13).trans rfl
   have hcz31_14 : w5.cell? ⟨gb233, 14, none⟩ = some (.slice A0_14 l0_14.length c0_14) := (blk_cell BK233.out 14).trans rfl
   have hfz31_0 := blk_frozen BK233.out 0
   have hfz31_1 := blk_frozen BK233.out 1
   have hfz31_2 := blk_frozen BK233.out 2
   have hfz31_3 := blk_frozen BK233.out 3
   have hfz31_4 := blk_frozen BK233.out 4
   have hfz31_5 := blk_frozen BK233.out 5
   have hfz31_6 := blk_frozen BK233.out 6
   have hfz31_7 := blk_frozen BK233.out 7
   have hfz31_8 := blk_frozen BK233.out 8
   have hfz31_9 := blk_frozen BK233.out 9
   have hfz31_10 := blk_frozen BK233.out 10
   have hfz31_11 := blk_frozen BK233.out 11
   have hfz31_12 := blk_frozen BK233.out 12
   have hfz31_13 := blk_frozen BK233.out 13
   have hfz31_14 := blk_frozen BK233.out 14
   have hcz32_0 : w5.cell? ⟨gb234, 0, none⟩ = some (.int .i64 a1_0) := (blk_cell BK234.out 0).trans rfl
   have hcz32_1 : w5.cell? ⟨gb234, 1, none⟩ = some (.int .i64 a1_1) := (blk_cell BK234.out 1).trans rfl
   have hcz32_2 : w5.cell? ⟨gb234, 2, none⟩ = some (.int .u32 a1_2) := (blk_cell BK234.out 2).trans rfl
   have hcz32_3 : w5.cell? ⟨gb234, 3, none⟩ = some (.int .u32 a1_3) := (blk_cell BK234.out 3).trans rfl
   have hcz32_4 : w5.cell? ⟨gb234, 4, none⟩ = some (.int .i64 a1_4) := (blk_cell BK234.out 4).trans rfl
   have hcz32_5 : w5.cell? ⟨gb234, 5, none⟩ = some (.int .i64 a1_5) := (blk_cell BK234.out 5).trans rfl
   have hcz32_6 : w5.cell? ⟨gb234, 6, none⟩ = some (.int .i64 a1_6) := (blk_cell BK234.out 6).trans rfl
   have hcz32_7 : w5.cell? ⟨gb234, 7, none⟩ = some (.int .i64 a1_7) := (blk_cell BK234.out 7).trans rfl
   have hcz32_8 : w5.cell? ⟨gb234, 8, none⟩ = some (.int .i64 a1_8) := (blk_cell BK234.out 8).trans rfl
   have hcz32_9 : w5.cell? ⟨gb234, 9, none⟩ = some (.bool a1_9) := (blk_cell BK234.out 9).trans rfl
   have hcz32_10 : w5.cell? ⟨gb234, 10, none⟩ = some (.bool a1_10) := (blk_cell BK234.out 10).trans rfl
   have hcz32_11 : w5.cell? ⟨gb234, 11, none⟩ = some (.int .u32 a1_11) := (blk_cell BK234.out 11).trans rfl
   have hcz32_12 : w5.cell? ⟨gb234, 12, none⟩ = some (.int .u32 a1_12) := (blk_cell BK234.out 12).trans rfl
   have hcz32_13 : w5.cell? ⟨gb234, 13, none⟩ = some (.slice A1_13 l1_13.length c1_13) := (blk_cell BK234.out 13).trans rfl
   have hcz32_14 : w5.cell? ⟨gb234, 14, none⟩ = some (.slice A1_14 l1_14.length c1_14) := (blk_cell BK234.out 14).trans rfl
   have hfz32_0 := blk_frozen BK234.out 0
   have hfz32_1 := blk_frozen BK234.out 1
   have hfz32_2 := blk_frozen BK234.out 2
   have hfz32_3 := blk_frozen BK234.out 3
   have hfz32_4 := blk_frozen BK234.out 4
   have hfz32_5 := blk_frozen BK234.out 5
   have hfz32_6 := blk_frozen BK234.out 6
   have hfz32_7 := blk_frozen BK234.out 7
   have hfz32_8 := blk_frozen BK234.out 8
   have hfz32_9 := blk_frozen BK234.out 9
   have hfz32_10 := blk_frozen BK234.out 10
   have hfz32_11 := blk_frozen BK234.out 11
   have hfz32_12 := blk_frozen BK234.out 12
   have hfz32_13 := blk_frozen BK234.out 13
   have hfz32_14 := blk_frozen BK234.out 14
   go_wp2
   repeat (go_quiet (fail); try go_wp2)
   go_meet
   case rel => exact ⟨_, (true), (by first | rfl | (simp; done) | (simp [*]; done)), H', ⟨by first | omega | exact Nat.le_refl _⟩, ⟨by (with_reducible repeat (first | refine blk_drewN ?_ _ | refine blk_drew ?_ | refine blk_alloc ?_ _)); exact BK233.out⟩, ⟨by (with_reducible repeat (first | refine blk_drewN ?_ _ | refine blk_drew ?_ | refine blk_alloc ?_ _)); exact BK234.out⟩, ⟨by repeat (first | (with_reducible first | exact HB.out | apply below_alloc | apply pw_below_drewN | apply below_drew1 | refine below_set ?_ GE233.out | refine below_set ?_ GE234.out) | exact HB.out)⟩⟩
 case rest =>
  clear HC3
  try clear c1
  try clear c2
  try clear p2
  try clear c3
  try clear c6
  try clear c6b0
  try clear c6b1
  try clear c7
  try clear c7b0
  try clear c7b1
  try clear c8
  try clear c8b0
  try clear c8b1
  try clear c9
  try clear c9b0
  try clear c9b1
  try clear c10
  try clear c10b0
  try clear c10b1
  try clear c11
  try clear c11b0
  try clear c11b1
  try clear c12
  try clear c15
  try clear c18
  try clear c21
  try clear c24
  try clear c27
  try clear c30
  try clear hcz13_0
  try clear hcz13_1
  try clear hcz13_10
  try clear hcz13_11
  try clear hcz13_12
  try clear hcz13_13
  try clear hcz13_14
  try clear hcz13_2
  try clear hcz13_3
  try clear hcz13_4
  try clear hcz13_5
  try clear hcz13_6
  try clear hcz13_7
  try clear hcz13_8
  try clear hcz13_9
  try clear hcz14_0
  try clear hcz14_1
  try clear hcz14_10
  try clear hcz14_11
  try clear hcz14_12
  try clear hcz14_13
  try clear hcz14_14
  try clear hcz14_2
  try clear hcz14_3
  try clear hcz14_4
  try clear hcz14_5
  try clear hcz14_6
  try clear hcz14_7
  try clear hcz14_8
  try clear hcz14_9
  try clear hcz16_0
  try clear hcz16_1
  try clear hcz16_10
  try clear hcz16_11
  try clear hcz16_12
  try clear hcz16_13
  try clear hcz16_14
  try clear hcz16_2
  try clear hcz16_3
  try clear hcz16_4
  try clear hcz16_5
  try clear hcz16_6
  try clear hcz16_7
  try clear hcz16_8
  try clear hcz16_9
  try clear hcz17_0
  try clear hcz17_1
  try clear hcz17_10
  try clear hcz17_11
  try clear hcz17_12
  try clear hcz17_13
  try clear hcz17_14
  try clear hcz17_2
  try clear hcz17_3
  try clear hcz17_4
  try clear hcz17_5
  try clear hcz17_6
  try clear hcz17_7
  try clear hcz17_8
  try clear hcz17_9
  try clear hcz19_0
  try clear hcz19_1
  try clear hcz19_10
  try clear hcz19_11
  try clear hcz19_12
  try clear hcz19_13
  try clear hcz19_14
  try clear hcz19_2
  try clear hcz19_3
  try clear hcz19_4
  try clear hcz19_5
  try clear hcz19_6
  try clear hcz19_7
  try clear hcz19_8
  try clear hcz19_9
  try clear hcz20_0
  try clear hcz20_1
  try clear hcz20_10
  try clear hcz20_11
  try clear hcz20_12
  try clear hcz20_13
  try clear hcz20_14
  try clear hcz20_2
  try clear hcz20_3
  try clear hcz20_4
  try clear hcz20_5
  try clear hcz20_6
  try clear hcz20_7
  try clear hcz20_8
  try clear hcz20_9
  try clear hcz22_0
  try clear hcz22_1
  try clear hcz22_10
  try clear hcz22_11
  try clear hcz22_12
  try clear hcz22_13
  try clear hcz22_14
  try clear hcz22_2
  try clear hcz22_3
  try clear hcz22_4
  try clear hcz22_5
  try clear hcz22_6
  try clear hcz22_7
  try clear hcz22_8
  try clear hcz22_9
  try clear hcz23_0
  try clear hcz23_1
  try clear hcz23_10
  try clear hcz23_11
  try clear hcz23_12
  try clear hcz23_13
  try clear hcz23_14
  try clear hcz23_2
  try clear hcz23_3
  try clear hcz23_4
  try clear hcz23_5
  try clear hcz23_6
  try clear hcz23_7
  try clear hcz23_8
  try clear hcz23_9
  try clear hcz25_0
  try clear hcz25_1
  try clear hcz25_10
  try clear hcz25_11
  try clear hcz25_12
  try clear hcz25_13
  try clear hcz25_14
  try clear hcz25_2
  try clear hcz25_3
  try clear hcz25_4
  try clear hcz25_5
  try clear hcz25_6
  try clear hcz25_7
  try clear hcz25_8
  try clear hcz25_9
  try clear hcz26_0
  try clear hcz26_1
  try clear hcz26_10
  try clear hcz26_11
  try clear hcz26_12
  try clear hcz26_13
  try clear hcz26_14
  try clear hcz26_2
  try clear hcz26_3
  try clear hcz26_4
  try clear hcz26_5
  try clear hcz26_6
  try clear hcz26_7
  try clear hcz26_8
  try clear hcz26_9
  try clear hcz28_0
  try clear hcz28_1
  try clear hcz28_10
  try clear hcz28_11
  try clear hcz28_12
  try clear hcz28_13
  try clear hcz28_14
  try clear hcz28_2
  try clear hcz28_3
  try clear hcz28_4
  try clear hcz28_5
  try clear hcz28_6
  try clear hcz28_7
  try clear hcz28_8
  try clear hcz28_9
  try clear hcz29_0
  try clear hcz29_1
  try clear hcz29_10
  try clear hcz29_11
  try clear hcz29_12
  try clear hcz29_13
  try clear hcz29_14
  try clear hcz29_2
  try clear hcz29_3
  try clear hcz29_4
  try clear hcz29_5
  try clear hcz29_6
  try clear hcz29_7
  try clear hcz29_8
  try clear hcz29_9
  try clear hcz31_0
  try clear hcz31_1
  try clear hcz31_10
  try clear hcz31_11
  try clear hcz31_12
  try clear hcz31_13
  try clear hcz31_14
  try clear hcz31_2
  try clear hcz31_3
  try clear hcz31_4
  try clear hcz31_5
  try clear hcz31_6
  try clear hcz31_7
  try clear hcz31_8
  try clear hcz31_9
  try clear hcz32_0
  try clear hcz32_1
  try clear hcz32_10
  try clear hcz32_11
  try clear hcz32_12
  try clear hcz32_13
  try clear hcz32_14
  try clear hcz32_2
  try clear hcz32_3
  try clear hcz32_4
  try clear hcz32_5
  try clear hcz32_6
  try clear hcz32_7
  try clear hcz32_8
  try clear hcz32_9
  try clear hfz13_0
  try clear hfz13_1
  try clear hfz13_10
  try clear hfz13_11
  try clear hfz13_12
  try clear hfz13_13
  try clear hfz13_14
  try clear hfz13_2
  try clear hfz13_3
  try clear hfz13_4
  try clear hfz13_5
  try clear hfz13_6
  try clear hfz13_7
  try clear hfz13_8
  try clear hfz13_9
  try clear hfz14_0
  try clear hfz14_1
  try clear hfz14_10
  try clear hfz14_11
  try clear hfz14_12
  try clear hfz14_13
  try clear hfz14_14
  try clear hfz14_2
  try clear hfz14_3
  try clear hfz14_4
  try clear hfz14_5
  try clear hfz14_6
  try clear hfz14_7
  try clear hfz14_8
  try clear hfz14_9
  try clear hfz16_0
  try clear hfz16_1
  try clear hfz16_10
  try clear hfz16_11
  try clear hfz16_12
  try clear hfz16_13
  try clear hfz16_14
  try clear hfz16_2
  try clear hfz16_3
  try clear hfz16_4
  try clear hfz16_5
  try clear hfz16_6
  try clear hfz16_7
  try clear hfz16_8
  try clear hfz16_9
  try clear hfz17_0
  try clear hfz17_1
  try clear hfz17_10
  try clear hfz17_11
  try clear hfz17_12
  try clear hfz17_13
  try clear hfz17_14
  try clear hfz17_2
  try clear hfz17_3
  try clear hfz17_4
  try clear hfz17_5
  try clear hfz17_6
  try clear hfz17_7
  try clear hfz17_8
  try clear hfz17_9
  try clear hfz19_0
  try clear hfz19_1
  try clear hfz19_10
  try clear hfz19_11
  try clear hfz19_12
  try clear hfz19_13
  try clear hfz19_14
  try clear hfz19_2
  try clear hfz19_3
  try clear hfz19_4
  try clear hfz19_5
  try clear hfz19_6
  try clear hfz19_7
  try clear hfz19_8
  try clear hfz19_9
  try clear hfz20_0
  try clear hfz20_1
  try clear hfz20_10
  try clear hfz20_11
  try clear hfz20_12
  try clear hfz20_13
  try clear hfz20_14
  try clear hfz20_2
  try clear hfz20_3
  try clear hfz20_4
  try clear hfz20_5
  try clear hfz20_6
  try clear hfz20_7
  try clear hfz20_8
  try clear hfz20_9
  try clear hfz22_0
  try clear hfz22_1
  try clear hfz22_10
  try clear hfz22_11
  try clear hfz22_12
  try clear hfz22_13
  try clear hfz22_14
  try clear hfz22_2
  try clear hfz22_3
  try clear hfz22_4
  try clear hfz22_5
  try clear hfz22_6
  try clear hfz22_7
  try clear hfz22_8
  try clear hfz22_9
  try clear hfz23_0
  try clear hfz23_1
  try clear hfz23_10
  try clear hfz23_11
  try clear hfz23_12
  try clear hfz23_13
  try clear hfz23_14
  try clear hfz23_2
  try clear hfz23_3
  try clear hfz23_4
  try clear hfz23_5
  try clear hfz23_6
  try clear hfz23_7
  try clear hfz23_8
  try clear hfz23_9
  try clear hfz25_0
  try clear hfz25_1
  try clear hfz25_10
  try clear hfz25_11
  try clear hfz25_12
  try clear hfz25_13
  try clear hfz25_14
  try clear hfz25_2
  try clear hfz25_3
  try clear hfz25_4
  try clear hfz25_5
  try clear hfz25_6
  try clear hfz25_7
  try clear hfz25_8
  try clear hfz25_9
  try clear hfz26_0
  try clear hfz26_1
  try clear hfz26_10
  try clear hfz26_11
  try clear hfz26_12
  try clear hfz26_13
  try clear hfz26_14
  try clear hfz26_2
  try clear hfz26_3
  try clear hfz26_4
  try clear hfz26_5
  try clear hfz26_6
  try clear hfz26_7
  try clear hfz26_8
  try clear hfz26_9
  try clear hfz28_0
  try clear hfz28_1
  try clear hfz28_10
  try clear hfz28_11
  try clear hfz28_12
  try clear hfz28_13
  try clear hfz28_14
  try clear hfz28_2
  try clear hfz28_3
  try clear hfz28_4
  try clear hfz28_5
  try clear hfz28_6
  try clear hfz28_7
  try clear hfz28_8
  try clear hfz28_9
  try clear hfz29_0
  try clear hfz29_1
  try clear hfz29_10
  try clear hfz29_11
  try clear hfz29_12
  try clear hfz29_13
  try clear hfz29_14
  try clear hfz29_2
  try clear hfz29_3
  try clear hfz29_4
  try clear hfz29_5
  try clear hfz29_6
  try clear hfz29_7
  try clear hfz29_8
  try clear hfz29_9
  try clear hfz31_0
  try clear hfz31_1
  try clear hfz31_10
  try clear hfz31_11
  try clear hfz31_12
  try clear hfz31_13
  try clear hfz31_14
  try clear hfz31_2
  try clear hfz31_3
  try clear hfz31_4
  try clear hfz31_5
  try clear hfz31_6
  try clear hfz31_7
  try clear hfz31_8
  try clear hfz31_9
  try clear hfz32_0
  try clear hfz32_1
  try clear hfz32_10
  try clear hfz32_11
  try clear hfz32_12
  try clear hfz32_13
  try clear hfz32_14
  try clear hfz32_2
  try clear hfz32_3
  try clear hfz32_4
  try clear hfz32_5
  try clear hfz32_6
  try clear hfz32_7
  try clear hfz32_8
  try clear hfz32_9
  obtain ⟨kq, x52_2, rfl, HA, HJ2, BK233, BK234, HB⟩ := hcut
  cases kq with
  | zero => exact absurd HA.out (by simp [tidewayref03_Same.j0])
  | succ kj2 =>
   have H := HA.out
   clear HA
   simp only [tidewayref03_Same.j0] at H
   by_cases c33 : x52_2 = true
   ·subst c33
    have H1 : (some false) = some r := by rw [if_pos rfl] at H; exact H
    clear H
    have H := H1
    clear H1
    obtain rfl := Option.some.inj H
    go_wp2
    repeat (go_quiet (fail); try go_wp2)
    go_ret
    exact ⟨by first | rfl | (simp [errW_none, errW_some] <;> rfl) | (simp [*, errW_none, errW_some] <;> rfl), by repeat (first | (with_reducible first | exact HB.out | apply below_alloc | apply pw_below_drewN | apply below_drew1 | refine below_set ?_ GE233.out | refine below_set ?_ GE234.out) | exact HB.out)⟩
   ·replace c33 := Bool.eq_false_iff.mpr c33
    subst c33
    have H1 : (if a0_7 = a1_7 then (if a0_8 = a1_8 then (if (a0_9 != a1_9) = true then (tidewayref03_Same.j1 kj2 true a0_0 a0_1 a0_2 a0_3 a0_4 a0_5 a0_6 a0_7 a0_8 a0_9 a0_10 a0_11 a0_12 l0_13 l0_14 a1_0 a1_1 a1_2 a1_3 a1_4 a1_5 a1_6 a1_7 a1_8 a1_9 a1_10 a1_11 a1_12 l1_13 l1_14) else (if (a0_10 != a1_10) = true then (tidewayref03_Same.j1 kj2 true a0_0 a0_1 a0_2 a0_3 a0_4 a0_5 a0_6 a0_7 a0_8 a0_9 a0_10 a0_11 a0_12 l0_13 l0_14 a1_0 a1_1 a1_2 a1_3 a1_4 a1_5 a1_6 a1_7 a1_8 a1_9 a1_10 a1_11 a1_12 l1_13 l1_14) else (if a0_11 = a1_11 then (if a0_12 = a1_12 then (tidewayref03_Same.j1 kj2 ((l0_13.length : Int) != (l1_13.length : Int)) a0_0 a0_1 a0_2 a0_3 a0_4 a0_5 a0_6 a0_7 a0_8 a0_9 a0_10 a0_11 a0_12 l0_13 l0_14 a1_0 a1_1 a1_2 a1_3 a1_4 a1_5 a1_6 a1_7 a1_8 a1_9 a1_10 a1_11 a1_12 l1_13 l1_14) else (tidewayref03_Same.j1 kj2 true a0_0 a0_1 a0_2 a0_3 a0_4 a0_5 a0_6 a0_7 a0_8 a0_9 a0_10 a0_11 a0_12 l0_13 l0_14 a1_0 a1_1 a1_2 a1_3 a1_4 a1_5 a1_6 a1_7 a1_8 a1_9 a1_10 a1_11 a1_12 l1_13 l1_14)) else (tidewayref03_Same.j1 kj2 true a0_0 a0_1 a0_2 a0_3 a0_4 a0_5 a0_6 a0_7 a0_8 a0_9 a0_10 a0_11 a0_12 l0_13 l0_14 a1_0 a1_1 a1_2 a1_3 a1_4 a1_5 a1_6 a1_7 a1_8 a1_9 a1_10 a1_11 a1_12 l1_13 l1_14)))) else (tidewayref03_Same.j1 kj2 true a0_0 a0_1 a0_2 a0_3 a0_4 a0_5 a0_6 a0_7 a0_8 a0_9 a0_10 a0_11 a0_12 l0_13 l0_14 a1_0 a1_1 a1_2 a1_3 a1_4 a1_5 a1_6 a1_7 a1_8 a1_9 a1_10 a1_11 a1_12 l1_13 l1_14)) else (tidewayref03_Same.j1 kj2 true a0_0 a0_1 a0_2 a0_3 a0_4 a0_5 a0_6 a0_7 a0_8 a0_9 a0_10 a0_11 a0_12 l0_13 l0_14 a1_0 a1_1 a1_2 a1_3 a1_4 a1_5 a1_6 a1_7 a1_8 a1_9 a1_10 a1_11 a1_12 l1_13 l1_14)) = some r := by rw [if_neg (show ¬ (false = true) by decide)] at H; exact H
    clear H
    have H := H1
    clear H1
    have HC34 := Aside0.mk H
    clear H
    go_upto_region 3 with (fail)
    repeat (go_quiet (fail); go_upto_region 3 with (fail))
    go_cut [101] (fun v101 wc => ∃ (kq : Nat) (x101_33 : Bool), v101 = .bool x101_33 ∧ Aside0 (tidewayref03_Same.j1 kq x101_33 a0_0 a0_1 a0_2 a0_3 a0_4 a0_5 a0_6 a0_7 a0_8 a0_9 a0_10 a0_11 a0_12 l0_13 l0_14 a1_0 a1_1 a1_2 a1_3 a1_4 a1_5 a1_6 a1_7 a1_8 a1_9 a1_10 a1_11 a1_12 l1_13 l1_14 = some r) ∧ Aside0 (kq ≤ kj2) ∧ Aside0 (wc.heap[gb233]? = some (.cells #[.int .i64 a0_0, .int .i64 a0_1, .int .u32 a0_2, .int .u32 a0_3, .int .i64 a0_4, .int .i64 a0_5, .int .i64 a0_6, .int .i64 a0_7, .int .i64 a0_8, .bool a0_9, .bool a0_10, .int .u32 a0_11, .int .u32 a0_12, (.slice A0_13 l0_13.length c0_13), (.slice A0_14 l0_14.length c0_14)] 26 (0, 0))) ∧ Aside0 (wc.heap[gb234]? = some (.cells #[.int .i64 a1_0, .int .i64 a1_1, .int .u32 a1_2, .int .u32 a1_3, .int .i64 a1_4, .int .i64 a1_5, .int .i64 a1_6, .int .i64 a1_7, .int .i64 a1_8, .bool a1_9, .bool a1_10, .int .u32 a1_11, .int .u32 a1_12, (.slice A1_13 l1_13.length c1_13), (.slice A1_14 l1_14.length c1_14)] 26 (0, 0))) ∧ Aside0 (Below w.heap.size w wc))
    case first =>
     have H := HC34.out
     clear HC34
     by_cases c35 : a0_7 = a1_7
     ·rw [if_pos c35] at H
      have c35b0 : (a0_7 == a1_7) = true := beq_iff_eq.mpr c35
      have c35b1 : (a0_7 != a1_7) = false := bne_eq_false_iff_eq.mpr c35
      clear c35
      (first | rw [c35b0] | (simp only [i64_w, i32_w]; rw [c35b0]) | skip)
      by_cases c36 : a0_8 = a1_8
      ·rw [if_pos c36] at H
       have c36b0 : (a0_8 == a1_8) = true := beq_iff_eq.mpr c36
       have c36b1 : (a0_8 != a1_8) = false := bne_eq_false_iff_eq.mpr c36
       clear c36
       by_cases c37 : (a0_9 != a1_9) = true
       ·rw [if_pos c37] at H
        have c37b0 : (a0_9 != a1_9) = true := c37
        (try (have c37b1 : decide (a0_9 = a1_9) = false := by simpa using c37))
        (try (have c37b2 : (a0_9 == a1_9) = false := by simpa using c37))
        (try (have c37b3 : ¬ (a0_9 = a1_9) := by simpa using c37))
        clear c37
        have H' := Aside0.mk H
        clear H
        have hnb38 := NB233_234.out
        have hnc38 := NB234_233.out
        have hcz39_0 : wc.cell? ⟨gb233, 0, none⟩ = some (.int .i64 a0_0) := (blk_cell BK233.out 0).trans rfl
        have hcz39_1 : wc.cell? ⟨gb233, 1, none⟩ = some (.int .i64 a0_1) := (blk_cell BK233.out 1).trans rfl
        have hcz39_2 : wc.cell? ⟨gb233, 2, none⟩ = some (.int .u32 a0_2) := (blk_cell BK233.out 2).trans rfl
        have hcz39_3 : wc.cell? ⟨gb233, 3, none⟩ = some (.int .u32 a0_3) := (blk_cell BK233.out 3).trans rfl
        have hcz39_4 : wc.cell? ⟨gb233, 4, none⟩ = some (.int .i64 a0_4) := (blk_cell BK233.out 4).trans rfl
        have hcz39_5 : wc.cell? ⟨gb233, 5, none⟩ = some (.int .i64 a0_5) := (blk_cell BK233.out 5).trans rfl
        have hcz39_6 : wc.cell? ⟨gb233, 6, none⟩ = some (.int .i64 a0_6) := (blk_cell BK233.out 6).trans rfl
        have hcz39_7 : wc.cell? ⟨gb233, 7, none⟩ = some (.int .i64 a0_7) := (blk_cell BK233.out 7).trans rfl
        have hcz39_8 : wc.cell? ⟨gb233, 8, none⟩ = some (.int .i64 a0_8) := (blk_cell BK233.out 8).trans rfl
        have hcz39_9 : wc.cell? ⟨gb233, 9, none⟩ = some (.bool a0_9) := (blk_cell BK233.out 9).trans rfl
        have hcz39_10 : wc.cell? ⟨gb233, 10, none⟩ = some (.bool a0_10) := (blk_cell BK233.out 10).trans rfl
        have hcz39_11 : wc.cell? ⟨gb233, 11, none⟩ = some (.int .u32 a0_11) := (blk_cell BK233.out 11).trans rfl
        have hcz39_12 : wc.cell? ⟨gb233, 12, none⟩ = some (.int .u32 a0_12) := (blk_cell BK233.out 12).trans rfl
        have hcz39_13 : wc.cell? ⟨gb233, 13, none⟩ = some (.slice A0_13 l0_13.length c0_13) := (blk_cell BK233.out 13).trans rfl
        have hcz39_14 : wc.cell? ⟨gb233, 14, none⟩ = some (.slice A0_14 l0_14.length c0_14) := (blk_cell BK233.out 14).trans rfl
        have hfz39_0 := blk_frozen BK233.out 0
        have hfz39_1 := blk_frozen BK233.out 1
        have hfz39_2 := blk_frozen BK233.out 2
        have hfz39_3 := blk_frozen BK233.out 3
        have hfz39_4 := blk_frozen BK233.out 4
        have hfz39_5 := blk_frozen BK233.out 5
        have hfz39_6 := blk_frozen BK233.out 6
        have hfz39_7 := blk_frozen BK233.out 7
        have hfz39_8 := blk_frozen BK233.out 8
        have hfz39_9 := blk_frozen BK233.out 9
        have hfz39_10 := blk_frozen BK233.out 10
        have hfz39_11 := blk_frozen BK233.out 11
        have hfz39_12 := blk_frozen BK233.out 12
        have hfz39_13 := blk_frozen BK233.out 13
        have hfz39_14 := blk_frozen BK233.out 14
        have hcz40_0 : wc.cell? ⟨gb234, 0, none⟩ = some (.int .i64 a1_0) := (blk_cell BK234.out 0).trans rfl
        have hcz40_1 : wc.cell? ⟨gb234, 1, none⟩ = some (.int .i64 a1_1) := (blk_cell BK234.out 1).trans rfl
        have hcz40_2 : wc.cell? ⟨gb234, 2, none⟩ = some (.int .u32 a1_2) := (blk_cell BK234.out 2).trans rfl
        have hcz40_3 : wc.cell? ⟨gb234, 3, none⟩ = some (.int .u32 a1_3) := (blk_cell BK234.out 3).trans rfl
        have hcz40_4 : wc.cell? ⟨gb234, 4, none⟩ = some (.int .i64 a1_4) := (blk_cell BK234.out 4).trans rfl
        have hcz40_5 : wc.cell? ⟨gb234, 5, none⟩ = some (.int .i64 a1_5) := (blk_cell BK234.out 5).trans rfl
        have hcz40_6 : wc.cell? ⟨gb234, 6, none⟩ = some (.int .i64 a1_6) := (blk_cell BK234.out 6).trans rfl
        have hcz40_7 : wc.cell? ⟨gb234, 7, none⟩ = some (.int .i64 a1_7) := (blk_cell BK234.out 7).trans rfl
        have hcz40_8 : wc.cell? ⟨gb234, 8, none⟩ = some (.int .i64 a1_8) := (blk_cell BK234.out 8).trans rfl
        have hcz40_9 : wc.cell? ⟨gb234, 9, none⟩ = some (.bool a1_9) := (blk_cell BK234.out 9).trans rfl
        have hcz40_10 : wc.cell? ⟨gb234, 10, none⟩ = some (.bool a1_10) := (blk_cell BK234.out 10).trans rfl
        have hcz40_11 : wc.cell? ⟨gb234, 11, none⟩ = some (.int .u32 a1_11) := (blk_cell BK234.out 11).trans rfl
        have hcz40_12 : wc.cell? ⟨gb234, 12, none⟩ = some (.int .u32 a1_12) := (blk_cell BK234.out 12).trans rfl
        have hcz40_13 : wc.cell? ⟨gb234, 13, none⟩ = some (.slice A1_13 l1_13.length c1_13) := (blk_cell BK234.out 13).trans rfl
        have hcz40_14 : wc.cell? ⟨gb234, 14, none⟩ = some (.slice A1_14 l1_14.length c1_14) := (blk_cell BK234.out 14).trans rfl
        have hfz40_0 := blk_frozen BK234.out 0
        have hfz40_1 := blk_frozen BK234.out 1
        have hfz40_2 := blk_frozen BK234.out 2
        have hfz40_3 := blk_frozen BK234.out 3
        have hfz40_4 := blk_frozen BK234.out 4
        have hfz40_5 := blk_frozen BK234.out 5
        have hfz40_6 := blk_frozen BK234.out 6
        have hfz40_7 := blk_frozen BK234.out 7
        have hfz40_8 := blk_frozen BK234.out 8
        have hfz40_9 := blk_frozen BK234.out 9
        have hfz40_10 := blk_frozen BK234.out 10
        have hfz40_11 := blk_frozen BK234.out 11
        have hfz40_12 := blk_frozen BK234.out 12
        have hfz40_13 := blk_frozen BK234.out 13
        have hfz40_14 := blk_frozen BK234.out 14
        go_wp2
        repeat (go_quiet (fail); try go_wp2)
        go_meet
        case rel => exact ⟨_, (true), (by first | rfl | (simp; done) | (simp [*]; done)), H', ⟨by have := HJ2.out; first | omega | exact Nat.le_refl _⟩, ⟨by (with_reducible repeat (first | refine blk_drewN ?_ _ | refine blk_drew ?_ | refine blk_alloc ?_ _)); exact BK233.out⟩, ⟨by (with_reducible repeat (first | refine blk_drewN ?_ _ | refine blk_drew ?_ | refine blk_alloc ?_ _)); exact BK234.out⟩, ⟨by repeat (first | (with_reducible first | exact HB.out | apply below_alloc | apply pw_below_drewN | apply below_drew1 | refine below_set ?_ GE233.out | refine below_set ?_ GE234.out) | exact HB.out)⟩⟩
       ·rw [if_neg c37] at H
        have c37b0 : (a0_9 != a1_9) = false := by simpa using c37
        (try (have c37b1 : decide (a0_9 = a1_9) = true := by simpa using c37))
        (try (have c37b2 : (a0_9 == a1_9) = true := by simpa using c37))
        clear c37
        by_cases c41 : (a0_10 != a1_10) = true
        ·rw [if_pos c41] at H
         have c41b0 : (a0_10 != a1_10) = true := c41
         (try (have c41b1 : decide (a0_10 = a1_10) = false := by simpa using c41))
         (try (have c41b2 : (a0_10 == a1_10) = false := by simpa using c41))
         (try (have c41b3 : ¬ (a0_10 = a1_10) := by simpa using c41))
         clear c41
         have H' := Aside0.mk H
         clear H
         have hnb42 := NB233_234.out
         have hnc42 := NB234_233.out
         have hcz43_0 : wc.cell? ⟨gb233, 0, none⟩ = some (.int .i64 a0_0) := (blk_cell BK233.out 0).trans rfl
         have hcz43_1 : wc.cell? ⟨gb233, 1, none⟩ = some (.int .i64 a0_1) := (blk_cell BK233.out 1).trans rfl
         have hcz43_2 : wc.cell? ⟨gb233, 2, none⟩ = some (.int .u32 a0_2) := (blk_cell BK233.out 2).trans rfl
         have hcz43_3 : wc.cell? ⟨gb233, 3, none⟩ = some (.int .u32 a0_3) := (blk_cell BK233.out 3).trans rfl
         have hcz43_4 : wc.cell? ⟨gb233, 4, none⟩ = some (.int .i64 a0_4) := (blk_cell BK233.out 4).trans rfl
         have hcz43_5 : wc.cell? ⟨gb233, 5, none⟩ = some (.int .i64 a0_5) := (blk_cell BK233.out 5).trans rfl
         have hcz43_6 : wc.cell? ⟨gb233, 6, none⟩ = some (.int .i64 a0_6) := (blk_cell BK233.out 6).trans rfl
         have hcz43_7 : wc.cell? ⟨gb233, 7, none⟩ = some (.int .i64 a0_7) := (blk_cell BK233.out 7).trans rfl
         have hcz43_8 : wc.cell? ⟨gb233, 8, none⟩ = some (.int .i64 a0_8) := (blk_cell BK233.out 8).trans rfl
         have hcz43_9 : wc.cell? ⟨gb233, 9, none⟩ = some (.bool a0_9) := (blk_cell BK233.out 9).trans rfl
         have hcz43_10 : wc.cell? ⟨gb233, 10, none⟩ = some (.bool a0_10) := (blk_cell BK233.out 10).trans rfl
         have hcz43_11 : wc.cell? ⟨gb233, 11, none⟩ = some (.int .u32 a0_11) := (blk_cell BK233.out 11).trans rfl
         have hcz43_12 : wc.cell? ⟨gb233, 12, none⟩ = some (.int .u32 a0_12) := (blk_cell BK233.out 12).trans rfl
         have hcz43_13 : wc.cell? ⟨gb233, 13, none⟩ = some (.slice A0_13 l0_13.length c0_13) := (blk_cell BK233.out 13).trans rfl
         have hcz43_14 : wc.cell? ⟨gb233, 14, none⟩ = some (.slice A0_14 l0_14.length c0_14) := (blk_cell BK233.out 14).trans rfl
         have hfz43_0 := blk_frozen BK233.out 0
         have hfz43_1 := blk_frozen BK233.out 1
         have hfz43_2 := blk_frozen BK233.out 2
         have hfz43_3 := blk_frozen BK233.out 3
         have hfz43_4 := blk_frozen BK233.out 4
         have hfz43_5 := blk_frozen BK233.out 5
         have hfz43_6 := blk_frozen BK233.out 6
         have hfz43_7 := blk_frozen BK233.out 7
         have hfz43_8 := blk_frozen BK233.out 8
         have hfz43_9 := blk_frozen BK233.out 9
         have hfz43_10 := blk_frozen BK233.out 10
         have hfz43_11 := blk_frozen BK233.out 11
         have hfz43_12 := blk_frozen BK233.out 12
         have hfz43_13 := blk_frozen BK233.out 13
         have hfz43_14 := blk_frozen BK233.out 14
         have hcz44_0 : wc.cell? ⟨gb234, 0, none⟩ = some (.int .i64 a1_0) := (blk_cell BK234.out 0).trans rfl
         have hcz44_1 : wc.cell? ⟨gb234, 1, none⟩ = some (.int .i64 a1_1) := (blk_cell BK234.out 1).trans rfl
         have hcz44_2 : wc.cell? ⟨gb234, 2, none⟩ = some (.int .u32 a1_2) := (blk_cell BK234.out 2).trans rfl
         have hcz44_3 : wc.cell? ⟨gb234, 3, none⟩ = some (.int .u32 a1_3) := (blk_cell BK234.out 3).trans rfl
         have hcz44_4 : wc.cell? ⟨gb234, 4, none⟩ = some (.int .i64 a1_4) := (blk_cell BK234.out 4).trans rfl
         have hcz44_5 : wc.cell? ⟨gb234, 5, none⟩ = some (.int .i64 a1_5) := (blk_cell BK234.out 5).trans rfl
         have hcz44_6 : wc.cell? ⟨gb234, 6, none⟩ = some (.int .i64 a1_6) := (blk_cell BK234.out 6).trans rfl
         have hcz44_7 : wc.cell? ⟨gb234, 7, none⟩ = some (.int .i64 a1_7) := (blk_cell BK234.out 7).trans rfl
         have hcz44_8 : wc.cell? ⟨gb234, 8, none⟩ = some (.int .i64 a1_8) := (blk_cell BK234.out 8).trans rfl
         have hcz44_9 : wc.cell? ⟨gb234, 9, none⟩ = some (.bool a1_9) := (blk_cell BK234.out 9).trans rfl
         have hcz44_10 : wc.cell? ⟨gb234, 10, none⟩ = some (.bool a1_10) := (blk_cell BK234.out 10).trans rfl
         have hcz44_11 : wc.cell? ⟨gb234, 11, none⟩ = some (.int .u32 a1_11) := (blk_cell BK234.out 11).trans rfl
         have hcz44_12 : wc.cell? ⟨gb234, 12, none⟩ = some (.int .u32 a1_12) := (blk_cell BK234.out 12).trans rfl
         have hcz44_13 : wc.cell? ⟨gb234, 13, none⟩ = some (.slice A1_13 l1_13.length c1_13) := (blk_cell BK234.out 13).trans rfl
         have hcz44_14 : wc.cell? ⟨gb234, 14, none⟩ = some (.slice A1_14 l1_14.length c1_14) := (blk_cell BK234.out 14).trans rfl
         have hfz44_0 := blk_frozen BK234.out 0
         have hfz44_1 := blk_frozen BK234.out 1
         have hfz44_2 := blk_frozen BK234.out 2
         have hfz44_3 := blk_frozen BK234.out 3
         have hfz44_4 := blk_frozen BK234.out 4
         have hfz44_5 := blk_frozen BK234.out 5
         have hfz44_6 := blk_frozen BK234.out 6
         have hfz44_7 := blk_frozen BK234.out 7
         have hfz44_8 := blk_frozen BK234.out 8
         have hfz44_9 := blk_frozen BK234.out 9
         have hfz44_10 := blk_frozen BK234.out 10
         have hfz44_11 := blk_frozen BK234.out 11
         have hfz44_12 := blk_frozen BK234.out 12
         have hfz44_13 := blk_frozen BK234.out 13
         have hfz44_14 := blk_frozen BK234.out 14
         go_wp2
         repeat (go_quiet (fail); try go_wp2)
         go_meet
         case rel => exact ⟨_, (true), (by first | rfl | (simp; done) | (simp [*]; done)), H', ⟨by have := HJ2.out; first | omega | exact Nat.le_refl _⟩, ⟨by (with_reducible repeat (first | refine blk_drewN ?_ _ | refine blk_drew ?_ | refine blk_alloc ?_ _)); exact BK233.out⟩, ⟨by (with_reducible repeat (first | refine blk_drewN ?_ _ | refine blk_drew ?_ | refine blk_alloc ?_ _)); exact BK234.out⟩, ⟨by repeat (first | (with_reducible first | exact HB.out | apply below_alloc | apply pw_below_drewN | apply below_drew1 | refine below_set ?_ GE233.out | refine below_set ?_ GE234.out) | exact HB.out)⟩⟩
        ·rw [if_neg c41] at H
         have c41b0 : (a0_10 != a1_10) = false := by simpa using c41
         (try (have c41b1 : decide (a0_10 = a1_10) = true := by simpa using c41))
         (try (have c41b2 : (a0_10 == a1_10) = true := by simpa using c41))
         clear c41
         by_cases c45 : a0_11 = a1_11
         ·rw [if_pos c45] at H
          have c45b0 : (a0_11 == a1_11) = true := beq_iff_eq.mpr c45
          have c45b1 : (a0_11 != a1_11) = false := bne_eq_false_iff_eq.mpr c45
          clear c45
          by_cases c46 : a0_12 = a1_12
          ·rw [if_pos c46] at H
           have c46b0 : (a0_12 == a1_12) = true := beq_iff_eq.mpr c46
           have c46b1 : (a0_12 != a1_12) = false := bne_eq_false_iff_eq.mpr c46
           clear c46
           have H' := Aside0.mk H
           clear H
           have hnb47 := NB233_234.out
           have hnc47 := NB234_233.out
           have hcz48_0 : wc.cell? ⟨gb233, 0, none⟩ = some (.int .i64 a0_0) := (blk_cell BK233.out 0).trans rfl
           have hcz48_1 : wc.cell? ⟨gb233, 1, none⟩ = some (.int .i64 a0_1) := (blk_cell BK233.out 1).trans rfl
           have hcz48_2 : wc.cell? ⟨gb233, 2, none⟩ = some (.int .u32 a0_2) := (blk_cell BK233.out 2).trans rfl
           have hcz48_3 : wc.cell? ⟨gb233, 3, none⟩ = some (.int .u32 a0_3) := (blk_cell BK233.out 3).trans rfl
           have hcz48_4 : wc.cell? ⟨gb233, 4, none⟩ = some (.int .i64 a0_4) := (blk_cell BK233.out 4).trans rfl
           have hcz48_5 : wc.cell? ⟨gb233, 5, none⟩ = some (.int .i64 a0_5) := (blk_cell BK233.out 5).trans rfl
           have hcz48_6 : wc.cell? ⟨gb233, 6, none⟩ = some (.int .i64 a0_6) := (blk_cell BK233.out 6).trans rfl
           have hcz48_7 : wc.cell? ⟨gb233, 7, none⟩ = some (.int .i64 a0_7) := (blk_cell BK233.out 7).trans rfl
           have hcz48_8 : wc.cell? ⟨gb233, 8, none⟩ = some (.int .i64 a0_8) := (blk_cell BK233.out 8).trans rfl
           have hcz48_9 : wc.cell? ⟨gb233, 9, none⟩ = some (.bool a0_9) := (blk_cell BK233.out 9).trans rfl
           have hcz48_10 : wc.cell? ⟨gb233, 10, none⟩ = some (.bool a0_10) := (blk_cell BK233.out 10).trans rfl
           have hcz48_11 : wc.cell? ⟨gb233, 11, none⟩ = some (.int .u32 a0_11) := (blk_cell BK233.out 11).trans rfl
           have hcz48_12 : wc.cell? ⟨gb233, 12, none⟩ = some (.int .u32 a0_12) := (blk_cell BK233.out 12).trans rfl
           have hcz48_13 : wc.cell? ⟨gb233, 13, none⟩ = some (.slice A0_13 l0_13.length c0_13) := (blk_cell BK233.out 13).trans rfl
           have hcz48_14 : wc.cell? ⟨gb233, 14, none⟩ = some (.slice A0_14 l0_14.length c0_14) := (blk_cell BK233.out 14).trans rfl
           have hfz48_0 := blk_frozen BK233.out 0
           have hfz48_1 := blk_frozen BK233.out 1
           have hfz48_2 := blk_frozen BK233.out 2
           have hfz48_3 := blk_frozen BK233.out 3
           have hfz48_4 := blk_frozen BK233.out 4
           have hfz48_5 := blk_frozen BK233.out 5
           have hfz48_6 := blk_frozen BK233.out 6
           have hfz48_7 := blk_frozen BK233.out 7
           have hfz48_8 := blk_frozen BK233.out 8
           have hfz48_9 := blk_frozen BK233.out 9
           have hfz48_10 := blk_frozen BK233.out 10
           have hfz48_11 := blk_frozen BK233.out 11
           have hfz48_12 := blk_frozen BK233.out 12
           have hfz48_13 := blk_frozen BK233.out 13
           have hfz48_14 := blk_frozen BK233.out 14
           have hcz49_0 : wc.cell? ⟨gb234, 0, none⟩ = some (.int .i64 a1_0) := (blk_cell BK234.out 0).trans rfl
           have hcz49_1 : wc.cell? ⟨gb234, 1, none⟩ = some (.int .i64 a1_1) := (blk_cell BK234.out 1).trans rfl
           have hcz49_2 : wc.cell? ⟨gb234, 2, none⟩ = some (.int .u32 a1_2) := (blk_cell BK234.out 2).trans rfl
           have hcz49_3 : wc.cell? ⟨gb234, 3, none⟩ = some (.int .u32 a1_3) := (blk_cell BK234.out 3).trans rfl
           have hcz49_4 : wc.cell? ⟨gb234, 4, none⟩ = some (.int .i64 a1_4) := (blk_cell BK234.out 4).trans rfl
           have hcz49_5 : wc.cell? ⟨gb234, 5, none⟩ = some (.int .i64 a1_5) := (blk_cell BK234.out 5).trans rfl
           have hcz49_6 : wc.cell? ⟨gb234, 6, none⟩ = some (.int .i64 a1_6) := (blk_cell BK234.out 6).trans rfl
           have hcz49_7 : wc.cell? ⟨gb234, 7, none⟩ = some (.int .i64 a1_7) := (blk_cell BK234.out 7).trans rfl
           have hcz49_8 : wc.cell? ⟨gb234, 8, none⟩ = some (.int .i64 a1_8) := (blk_cell BK234.out 8).trans rfl
           have hcz49_9 : wc.cell? ⟨gb234, 9, none⟩ = some (.bool a1_9) := (blk_cell BK234.out 9).trans rfl
           have hcz49_10 : wc.cell? ⟨gb234, 10, none⟩ = some (.bool a1_10) := (blk_cell BK234.out 10).trans rfl
           have hcz49_11 : wc.cell? ⟨gb234, 11, none⟩ = some (.int .u32 a1_11) := (blk_cell BK234.out 11).trans rfl
           have hcz49_12 : wc.cell? ⟨gb234, 12, none⟩ = some (.int .u32 a1_12) := (blk_cell BK234.out 12).trans rfl
           have hcz49_13 : wc.cell? ⟨gb234, 13, none⟩ = some (.slice A1_13 l1_13.length c1_13) := (blk_cell BK234.out 13).trans rfl
           have hcz49_14 : wc.cell? ⟨gb234, 14, none⟩ = some (.slice A1_14 l1_14.length c1_14) := (blk_cell BK234.out 14).trans rfl
           have hfz49_0 := blk_frozen BK234.out 0
           have hfz49_1 := blk_frozen BK234.out 1
           have hfz49_2 := blk_frozen BK234.out 2
           have hfz49_3 := blk_frozen BK234.out 3
           have hfz49_4 := blk_frozen BK234.out 4
           have hfz49_5 := blk_frozen BK234.out 5
           have hfz49_6 := blk_frozen BK234.out 6
           have hfz49_7 := blk_frozen BK234.out 7
           have hfz49_8 := blk_frozen BK234.out 8
           have hfz49_9 := blk_frozen BK234.out 9
           have hfz49_10 := blk_frozen BK234.out 10
           have hfz49_11 := blk_frozen BK234.out 11
           have hfz49_12 := blk_frozen BK234.out 12
           have hfz49_13 := blk_frozen BK234.out 13
           have hfz49_14 := blk_frozen BK234.out 14
           go_wp2
           repeat (go_quiet (fail); try go_wp2)
           go_meet
           case rel => exact ⟨_, (((l0_13.length : Int) != (l1_13.length : Int))), (by first | rfl | (simp; done) | (simp [*]; done)), H', ⟨by have := HJ2.out; first | omega | exact Nat.le_refl _⟩, ⟨by (with_reducible repeat (first | refine blk_drewN ?_ _ | refine blk_drew ?_ | refine blk_alloc ?_ _)); exact BK233.out⟩, ⟨by (with_reducible repeat (first | refine blk_drewN ?_ _ | refine blk_drew ?_ | refine blk_alloc ?_ _)); exact BK234.out⟩, ⟨by repeat (first | (with_reducible first | exact HB.out | apply below_alloc | apply pw_below_drewN | apply below_drew1 | refine below_set ?_ GE233.out | refine below_set ?_ GE234.out) | exact HB.out)⟩⟩
          ·rw [if_neg c46] at H
           have c46b0 : (a0_12 == a1_12) = false := beq_eq_false_iff_ne.mpr c46
           have c46b1 : (a0_12 != a1_12) = true := bne_iff_ne.mpr c46
           have H' := Aside0.mk H
           clear H
           have hnb50 := NB233_234.out
           have hnc50 := NB234_233.out
           have hcz51_0 : wc.cell? ⟨gb233, 0, none⟩ = some (.int .i64 a0_0) := (blk_cell BK233.out 0).trans rfl
           have hcz51_1 : wc.cell? ⟨gb233, 1, none⟩ = some (.int .i64 a0_1) := (blk_cell BK233.out 1).trans rfl
           have hcz51_2 : wc.cell? ⟨gb233, 2, none⟩ = some (.int .u32 a0_2) := (blk_cell BK233.out 2).trans rfl
           have hcz51_3 : wc.cell? ⟨gb233, 3, none⟩ = some (.int .u32 a0_3) := (blk_cell BK233.out 3).trans rfl
           have hcz51_4 : wc.cell? ⟨gb233, 4, none⟩ = some (.int .i64 a0_4) := (blk_cell BK233.out 4).trans rfl
           have hcz51_5 : wc.cell? ⟨gb233, 5, none⟩ = some (.int .i64 a0_5) := (blk_cell BK233.out 5).trans rfl
           have hcz51_6 : wc.cell? ⟨gb233, 6, none⟩ = some (.int .i64 a0_6) := (blk_cell BK233.out 6).trans rfl
           have hcz51_7 : wc.cell? ⟨gb233, 7, none⟩ = some (.int .i64 a0_7) := (blk_cell BK233.out 7).trans rfl
           have hcz51_8 : wc.cell? ⟨gb233, 8, none⟩ = some (.int .i64 a0_8) := (blk_cell BK233.out 8).trans rfl
           have hcz51_9 : wc.cell? ⟨gb233, 9, none⟩ = some (.bool a0_9) := (blk_cell BK233.out 9).trans rfl
           have hcz51_10 : wc.cell? ⟨gb233, 10, none⟩ = some (.bool a0_10) := (blk_cell BK233.out 10).trans rfl
           have hcz51_11 : wc.cell? ⟨gb233, 11, none⟩ = some (.int .u32 a0_11) := (blk_cell BK233.out 11).trans rfl
           have hcz51_12 : wc.cell? ⟨gb233, 12, none⟩ = some (.int .u32 a0_12) := (blk_cell BK233.out 12).trans rfl
           have hcz51_13 : wc.cell? ⟨gb233, 13, none⟩ = some (.slice A0_13 l0_13.length c0_13) := (blk_cell BK233.out 13).trans rfl
           have hcz51_14 : wc.cell? ⟨gb233, 14, none⟩ = some (.slice A0_14 l0_14.length c0_14) := (blk_cell BK233.out 14).trans rfl
           have hfz51_0 := blk_frozen BK233.out 0
           have hfz51_1 := blk_frozen BK233.out 1
           have hfz51_2 := blk_frozen BK233.out 2
           have hfz51_3 := blk_frozen BK233.out 3
           have hfz51_4 := blk_frozen BK233.out 4
           have hfz51_5 := blk_frozen BK233.out 5
           have hfz51_6 := blk_frozen BK233.out 6
           have hfz51_7 := blk_frozen BK233.out 7
           have hfz51_8 := blk_frozen BK233.out 8
           have hfz51_9 := blk_frozen BK233.out 9
           have hfz51_10 := blk_frozen BK233.out 10
           have hfz51_11 := blk_frozen BK233.out 11
           have hfz51_12 := blk_frozen BK233.out 12
           have hfz51_13 := blk_frozen BK233.out 13
           have hfz51_14 := blk_frozen BK233.out 14
           have hcz52_0 : wc.cell? ⟨gb234, 0, none⟩ = some (.int .i64 a1_0) := (blk_cell BK234.out 0).trans rfl
           have hcz52_1 : wc.cell? ⟨gb234, 1, none⟩ = some (.int .i64 a1_1) := (blk_cell BK234.out 1).trans rfl
           have hcz52_2 : wc.cell? ⟨gb234, 2, none⟩ = some (.int .u32 a1_2) := (blk_cell BK234.out 2).trans rfl
           have hcz52_3 : wc.cell? ⟨gb234, 3, none⟩ = some (.int .u32 a1_3) := (blk_cell BK234.out 3).trans rfl
           have hcz52_4 : wc.cell? ⟨gb234, 4, none⟩ = some (.int .i64 a1_4) := (blk_cell BK234.out 4).trans rfl
           have hcz52_5 : wc.cell? ⟨gb234, 5, none⟩ = some (.int .i64 a1_5) := (blk_cell BK234.out 5).trans rfl
           have hcz52_6 : wc.cell? ⟨gb234, 6, none⟩ = some (.int .i64 a1_6) := (blk_cell BK234.out 6).trans rfl
           have hcz52_7 : wc.cell? ⟨gb234, 7, none⟩ = some (.int .i64 a1_7) := (blk_cell BK234.out 7).trans rfl
           have hcz52_8 : wc.cell? ⟨gb234, 8, none⟩ = some (.int .i64 a1_8) := (blk_cell BK234.out 8).trans rfl
           have hcz52_9 : wc.cell? ⟨gb234, 9, none⟩ = some (.bool a1_9) := (blk_cell BK234.out 9).trans rfl
           have hcz52_10 : wc.cell? ⟨gb234, 10, none⟩ = some (.bool a1_10) := (blk_cell BK234.out 10).trans rfl
           have hcz52_11 : wc.cell? ⟨gb234, 11, none⟩ = some (.int .u32 a1_11) := (blk_cell BK234.out 11).trans rfl
           have hcz52_12 : wc.cell? ⟨gb234, 12, none⟩ = some (.int .u32 a1_12) := (blk_cell BK234.out 12).trans rfl
           have hcz52_13 : wc.cell? ⟨gb234, 13, none⟩ = some (.slice A1_13 l1_13.length c1_13) := (blk_cell BK234.out 13).trans rfl
           have hcz52_14 : wc.cell? ⟨gb234, 14, none⟩ = some (.slice A1_14 l1_14.length c1_14) := (blk_cell BK234.out 14).trans rfl
           have hfz52_0 := blk_frozen BK234.out 0
           have hfz52_1 := blk_frozen BK234.out 1
           have hfz52_2 := blk_frozen BK234.out 2
           have hfz52_3 := blk_frozen BK234.out 3
           have hfz52_4 := blk_frozen BK234.out 4
           have hfz52_5 := blk_frozen BK234.out 5
           have hfz52_6 := blk_frozen BK234.out 6
           have hfz52_7 := blk_frozen BK234.out 7
           have hfz52_8 := blk_frozen BK234.out 8
           have hfz52_9 := blk_frozen BK234.out 9
           have hfz52_10 := blk_frozen BK234.out 10
           have hfz52_11 := blk_frozen BK234.out 11
           have hfz52_12 := blk_frozen BK234.out 12
           have hfz52_13 := blk_frozen BK234.out 13
           have hfz52_14 := blk_frozen BK234.out 14
           go_wp2
           repeat (go_quiet (fail); try go_wp2)
           go_meet
           case rel => exact ⟨_, (true), (by first | rfl | (simp; done) | (simp [*]; done)), H', ⟨by have := HJ2.out; first | omega | exact Nat.le_refl _⟩, ⟨by (with_reducible repeat (first | refine blk_drewN ?_ _ | refine blk_drew ?_ | refine blk_alloc ?_ _)); exact BK233.out⟩, ⟨by (with_reducible repeat (first | refine blk_drewN ?_ _ | refine blk_drew ?_ | refine blk_alloc ?_ _)); exact BK234.out⟩, ⟨by repeat (first | (with_reducible first | exact HB.out | apply below_alloc | apply pw_below_drewN | apply below_drew1 | refine below_set ?_ GE233.out | refine below_set ?_ GE234.out) | exact HB.out)⟩⟩
         ·rw [if_neg c45] at H
          have c45b0 : (a0_11 == a1_11) = false := beq_eq_false_iff_ne.mpr c45
          have c45b1 : (a0_11 != a1_11) = true := bne_iff_ne.mpr c45
          have H' := Aside0.mk H
          clear H
          have hnb53 := NB233_234.out
          have hnc53 := NB234_233.out
          have hcz54_0 : wc.cell? ⟨gb233, 0, none⟩ = some (.int .i64 a0_0) := (blk_cell BK233.out 0).trans rfl
          have hcz54_1 : wc.cell? ⟨gb233, 1, none⟩ = some (.int .i64 a0_1) := (blk_cell BK233.out 1).trans rfl
          have hcz54_2 : wc.cell? ⟨gb233, 2, none⟩ = some (.int .u32 a0_2) := (blk_cell BK233.out 2).trans rfl
          have hcz54_3 : wc.cell? ⟨gb233, 3, none⟩ = some (.int .u32 a0_3) := (blk_cell BK233.out 3).trans rfl
          have hcz54_4 : wc.cell? ⟨gb233, 4, none⟩ = some (.int .i64 a0_4) := (blk_cell BK233.out 4).trans rfl
          have hcz54_5 : wc.cell? ⟨gb233, 5, none⟩ = some (.int .i64 a0_5) := (blk_cell BK233.out 5).trans rfl
          have hcz54_6 : wc.cell? ⟨gb233, 6, none⟩ = some (.int .i64 a0_6) := (blk_cell BK233.out 6).trans rfl
          have hcz54_7 : wc.cell? ⟨gb233, 7, none⟩ = some (.int .i64 a0_7) := (blk_cell BK233.out 7).trans rfl
          have hcz54_8 : wc.cell? ⟨gb233, 8, none⟩ = some (.int .i64 a0_8) := (blk_cell BK233.out 8).trans rfl
          have hcz54_9 : wc.cell? ⟨gb233, 9, none⟩ = some (.bool a0_9) := (blk_cell BK233.out 9).trans rfl
          have hcz54_10 : wc.cell? ⟨gb233, 10, none⟩ = some (.bool a0_10) := (blk_cell BK233.out 10).trans rfl
          have hcz54_11 : wc.cell? ⟨gb233, 11, none⟩ = some (.int .u32 a0_11) := (blk_cell BK233.out 11).trans rfl
          have hcz54_12 : wc.cell? ⟨gb233, 12, none⟩ = some (.int .u32 a0_12) := (blk_cell BK233.out 12).trans rfl
          have hcz54_13 : wc.cell? ⟨gb233, 13, none⟩ = some (.slice A0_13 l0_13.length c0_13) := (blk_cell BK233.out 13).trans rfl
          have hcz54_14 : wc.cell? ⟨gb233, 14, none⟩ = some (.slice A0_14 l0_14.length c0_14) := (blk_cell BK233.out 14).trans rfl
          have hfz54_0 := blk_frozen BK233.out 0
          have hfz54_1 := blk_frozen BK233.out 1
          have hfz54_2 := blk_frozen BK233.out 2
          have hfz54_3 := blk_frozen BK233.out 3
          have hfz54_4 := blk_frozen BK233.out 4
          have hfz54_5 := blk_frozen BK233.out 5
          have hfz54_6 := blk_frozen BK233.out 6
          have hfz54_7 := blk_frozen BK233.out 7
          have hfz54_8 := blk_frozen BK233.out 8
          have hfz54_9 := blk_frozen BK233.out 9
          have hfz54_10 := blk_frozen BK233.out 10
          have hfz54_11 := blk_frozen BK233.out 11
          have hfz54_12 := blk_frozen BK233.out 12
          have hfz54_13 := blk_frozen BK233.out 13
          have hfz54_14 := blk_frozen BK233.out 14
          have hcz55_0 : wc.cell? ⟨gb234, 0, none⟩ = some (.int .i64 a1_0) := (blk_cell BK234.out 0).trans rfl
          have hcz55_1 : wc.cell? ⟨gb234, 1, none⟩ = some (.int .i64 a1_1) := (blk_cell BK234.out 1).trans rfl
          have hcz55_2 : wc.cell? ⟨gb234, 2, none⟩ = some (.int .u32 a1_2) := (blk_cell BK234.out 2).trans rfl
          have hcz55_3 : wc.cell? ⟨gb234, 3, none⟩ = some (.int .u32 a1_3) := (blk_cell BK234.out 3).trans rfl
          have hcz55_4 : wc.cell? ⟨gb234, 4, none⟩ = some (.int .i64 a1_4) := (blk_cell BK234.out 4).trans rfl
          have hcz55_5 : wc.cell? ⟨gb234, 5, none⟩ = some (.int .i64 a1_5) := (blk_cell BK234.out 5).trans rfl
          have hcz55_6 : wc.cell? ⟨gb234, 6, none⟩ = some (.int .i64 a1_6) := (blk_cell BK234.out 6).trans rfl
          have hcz55_7 : wc.cell? ⟨gb234, 7, none⟩ = some (.int .i64 a1_7) := (blk_cell BK234.out 7).trans rfl
          have hcz55_8 : wc.cell? ⟨gb234, 8, none⟩ = some (.int .i64 a1_8) := (blk_cell BK234.out 8).trans rfl
          have hcz55_9 : wc.cell? ⟨gb234, 9, none⟩ = some (.bool a1_9) := (blk_cell BK234.out 9).trans rfl
          have hcz55_10 : wc.cell? ⟨gb234, 10, none⟩ = some (.bool a1_10) := (blk_cell BK234.out 10).trans rfl
          have hcz55_11 : wc.cell? ⟨gb234, 11, none⟩ = some (.int .u32 a1_11) := (blk_cell BK234.out 11).trans rfl
          have hcz55_12 : wc.cell? ⟨gb234, 12, none⟩ = some (.int .u32 a1_12) := (blk_cell BK234.out 12).trans rfl
          have hcz55_13 : wc.cell? ⟨gb234, 13, none⟩ = some (.slice A1_13 l1_13.length c1_13) := (blk_cell BK234.out 13).trans rfl
          have hcz55_14 : wc.cell? ⟨gb234, 14, none⟩ = some (.slice A1_14 l1_14.length c1_14) := (blk_cell BK234.out 14).trans rfl
          have hfz55_0 := blk_frozen BK234.out 0
          have hfz55_1 := blk_frozen BK234.out 1
          have hfz55_2 := blk_frozen BK234.out 2
          have hfz55_3 := blk_frozen BK234.out 3
          have hfz55_4 := blk_frozen BK234.out 4
          have hfz55_5 := blk_frozen BK234.out 5
          have hfz55_6 := blk_frozen BK234.out 6
          have hfz55_7 := blk_frozen BK234.out 7
          have hfz55_8 := blk_frozen BK234.out 8
          have hfz55_9 := blk_frozen BK234.out 9
          have hfz55_10 := blk_frozen BK234.out 10
          have hfz55_11 := blk_frozen BK234.out 11
          have hfz55_12 := blk_frozen BK234.out 12
          have hfz55_13 := blk_frozen BK234.out 13
          have hfz55_14 := blk_frozen BK234.out 14
          go_wp2
          repeat (go_quiet (fail); try go_wp2)
          go_meet
          case rel => exact ⟨_, (true), (by first | rfl | (simp; done) | (simp [*]; done)), H', ⟨by have := HJ2.out; first | omega | exact Nat.le_refl _⟩, ⟨by (with_reducible repeat (first | refine blk_drewN ?_ _ | refine blk_drew ?_ | refine blk_alloc ?_ _)); exact BK233.out⟩, ⟨by (with_reducible repeat (first | refine blk_drewN ?_ _ | refine blk_drew ?_ | refine blk_alloc ?_ _)); exact BK234.out⟩, ⟨by repeat (first | (with_reducible first | exact HB.out | apply below_alloc | apply pw_below_drewN | apply below_drew1 | refine below_set ?_ GE233.out | refine below_set ?_ GE234.out) | exact HB.out)⟩⟩
      ·rw [if_neg c36] at H
       have c36b0 : (a0_8 == a1_8) = false := beq_eq_false_iff_ne.mpr c36
       have c36b1 : (a0_8 != a1_8) = true := bne_iff_ne.mpr c36
       have H' := Aside0.mk H
       clear H
       have hnb56 := NB233_234.out
       have hnc56 := NB234_233.out
       have hcz57_0 : wc.cell? ⟨gb233, 0, none⟩ = some (.int .i64 a0_0) := (blk_cell BK233.out 0).trans rfl
       have hcz57_1 : wc.cell? ⟨gb233, 1, none⟩ = some (.int .i64 a0_1) := (blk_cell BK233.out 1).trans rfl
       have hcz57_2 : wc.cell? ⟨gb233, 2, none⟩ = some (.int .u32 a0_2) := (blk_cell BK233.out 2).trans rfl
       have hcz57_3 : wc.cell? ⟨gb233, 3, none⟩ = some (.int .u32 a0_3) := (blk_cell BK233.out 3).trans rfl
       have hcz57_4 : wc.cell? ⟨gb233, 4, none⟩ = some (.int .i64 a0_4) := (blk_cell BK233.out 4).trans rfl
       have hcz57_5 : wc.cell? ⟨gb233, 5, none⟩ = some (.int .i64 a0_5) := (blk_cell BK233.out 5).trans rfl
       have hcz57_6 : wc.cell? ⟨gb233, 6, none⟩ = some (.int .i64 a0_6) := (blk_cell BK233.out 6).trans rfl
       have hcz57_7 : wc.cell? ⟨gb233, 7, none⟩ = some (.int .i64 a0_7) := (blk_cell BK233.out 7).trans rfl
       have hcz57_8 : wc.cell? ⟨gb233, 8, none⟩ = some (.int .i64 a0_8) := (blk_cell BK233.out 8).trans rfl
       have hcz57_9 : wc.cell? ⟨gb233, 9, none⟩ = some (.bool a0_9) := (blk_cell BK233.out 9).trans rfl
       have hcz57_10 : wc.cell? ⟨gb233, 10, none⟩ = some (.bool a0_10) := (blk_cell BK233.out 10).trans rfl
       have hcz57_11 : wc.cell? ⟨gb233, 11, none⟩ = some (.int .u32 a0_11) := (blk_cell BK233.out 11).trans rfl
       have hcz57_12 : wc.cell? ⟨gb233, 12, none⟩ = some (.int .u32 a0_12) := (blk_cell BK233.out 12).trans rfl
       have hcz57_13 : wc.cell? ⟨gb233, 13, none⟩ = some (.slice A0_13 l0_13.length c0_13) := (blk_cell BK233.out 13).trans rfl
       have hcz57_14 : wc.cell? ⟨gb233, 14, none⟩ = some (.slice A0_14 l0_14.length c0_14) := (blk_cell BK233.out 14).trans rfl
       have hfz57_0 := blk_frozen BK233.out 0
       have hfz57_1 := blk_frozen BK233.out 1
       have hfz57_2 := blk_frozen BK233.out 2
       have hfz57_3 := blk_frozen BK233.out 3
       have hfz57_4 := blk_frozen BK233.out 4
       have hfz57_5 := blk_frozen BK233.out 5
       have hfz57_6 := blk_frozen BK233.out 6
       have hfz57_7 := blk_frozen BK233.out 7
       have hfz57_8 := blk_frozen BK233.out 8
       have hfz57_9 := blk_frozen BK233.out 9
       have hfz57_10 := blk_frozen BK233.out 10
       have hfz57_11 := blk_frozen BK233.out 11
       have hfz57_12 := blk_frozen BK233.out 12
       have hfz57_13 := blk_frozen BK233.out 13
       have hfz57_14 := blk_frozen BK233.out 14
       have hcz58_0 : wc.cell? ⟨gb234, 0, none⟩ = some (.int .i64 a1_0) := (blk_cell BK234.out 0).trans rfl
       have hcz58_1 : wc.cell? ⟨gb234, 1, none⟩ = some (.int .i64 a1_1) := (blk_cell BK234.out 1).trans rfl
       have hcz58_2 : wc.cell? ⟨gb234, 2, none⟩ = some (.int .u32 a1_2) := (blk_cell BK234.out 2).trans rfl
       have hcz58_3 : wc.cell? ⟨gb234, 3, none⟩ = some (.int .u32 a1_3) := (blk_cell BK234.out 3).trans rfl
       have hcz58_4 : wc.cell? ⟨gb234, 4, none⟩ = some (.int .i64 a1_4) := (blk_cell BK234.out 4).trans rfl
       have hcz58_5 : wc.cell? ⟨gb234, 5, none⟩ = some (.int .i64 a1_5) := (blk_cell BK234.out 5).trans rfl
       have hcz58_6 : wc.cell? ⟨gb234, 6, none⟩ = some (.int .i64 a1_6) := (blk_cell BK234.out 6).trans rfl
       have hcz58_7 : wc.cell? ⟨gb234, 7, none⟩ = some (.int .i64 a1_7) := (blk_cell BK234.out 7).trans rfl
       have hcz58_8 : wc.cell? ⟨gb234, 8, none⟩ = some (.int .i64 a1_8) := (blk_cell BK234.out 8).trans rfl
       have hcz58_9 : wc.cell? ⟨gb234, 9, none⟩ = some (.bool a1_9) := (blk_cell BK234.out 9).trans rfl
       have hcz58_10 : wc.cell? ⟨gb234, 10, none⟩ = some (.bool a1_10) := (blk_cell BK234.out 10).trans rfl
       have hcz58_11 : wc.cell? ⟨gb234, 11, none⟩ = some (.int .u32 a1_11) := (blk_cell BK234.out 11).trans rfl
       have hcz58_12 : wc.cell? ⟨gb234, 12, none⟩ = some (.int .u32 a1_12) := (blk_cell BK234.out 12).trans rfl
       have hcz58_13 : wc.cell? ⟨gb234, 13, none⟩ = some (.slice A1_13 l1_13.length c1_13) := (blk_cell BK234.out 13).trans rfl
       have hcz58_14 : wc.cell? ⟨gb234, 14, none⟩ = some (.slice A1_14 l1_14.length c1_14) := (blk_cell BK234.out 14).trans rfl
       have hfz58_0 := blk_frozen BK234.out 0
       have hfz58_1 := blk_frozen BK234.out 1
       have hfz58_2 := blk_frozen BK234.out 2
       have hfz58_3 := blk_frozen BK234.out 3
       have hfz58_4 := blk_frozen BK234.out 4
       have hfz58_5 := blk_frozen BK234.out 5
       have hfz58_6 := blk_frozen BK234.out 6
       have hfz58_7 := blk_frozen BK234.out 7
       have hfz58_8 := blk_frozen BK234.out 8
       have hfz58_9 := blk_frozen BK234.out 9
       have hfz58_10 := blk_frozen BK234.out 10
       have hfz58_11 := blk_frozen BK234.out 11
       have hfz58_12 := blk_frozen BK234.out 12
       have hfz58_13 := blk_frozen BK234.out 13
       have hfz58_14 := blk_frozen BK234.out 14
       go_wp2
       repeat (go_quiet (fail); try go_wp2)
       go_meet
       case rel => exact ⟨_, (true), (by first | rfl | (simp; done) | (simp [*]; done)), H', ⟨by have := HJ2.out; first | omega | exact Nat.le_refl _⟩, ⟨by (with_reducible repeat (first | refine blk_drewN ?_ _ | refine blk_drew ?_ | refine blk_alloc ?_ _)); exact BK233.out⟩, ⟨by (with_reducible repeat (first | refine blk_drewN ?_ _ | refine blk_drew ?_ | refine blk_alloc ?_ _)); exact BK234.out⟩, ⟨by repeat (first | (with_reducible first | exact HB.out | apply below_alloc | apply pw_below_drewN | apply below_drew1 | refine below_set ?_ GE233.out | refine below_set ?_ GE234.out) | exact HB.out)⟩⟩
     ·rw [if_neg c35] at H
      have c35b0 : (a0_7 == a1_7) = false := beq_eq_false_iff_ne.mpr c35
      have c35b1 : (a0_7 != a1_7) = true := bne_iff_ne.mpr c35
      (first | rw [c35b0] | (simp only [i64_w, i32_w]; rw [c35b0]) | skip)
      have H' := Aside0.mk H
      clear H
      have hnb59 := NB233_234.out
      have hnc59 := NB234_233.out
      have hcz60_0 : wc.cell? ⟨gb233, 0, none⟩ = some (.int .i64 a0_0) := (blk_cell BK233.out 0).trans rfl
      have hcz60_1 : wc.cell? ⟨gb233, 1, none⟩ = some (.int .i64 a0_1) := (blk_cell BK233.out 1).trans rfl
      have hcz60_2 : wc.cell? ⟨gb233, 2, none⟩ = some (.int .u32 a0_2) := (blk_cell BK233.out 2).trans rfl
      have hcz60_3 : wc.cell? ⟨gb233, 3, none⟩ = some (.int .u32 a0_3) := (blk_cell BK233.out 3).trans rfl
      have hcz60_4 : wc.cell? ⟨gb233, 4, none⟩ = some (.int .i64 a0_4) := (blk_cell BK233.out 4).trans rfl
      have hcz60_5 : wc.cell? ⟨gb233, 5, none⟩ = some (.int .i64 a0_5) := (blk_cell BK233.out 5).trans rfl
      have hcz60_6 : wc.cell? ⟨gb233, 6, none⟩ = some (.int .i64 a0_6) := (blk_cell BK233.out 6).trans rfl
      have hcz60_7 : wc.cell? ⟨gb233, 7, none⟩ = some (.int .i64 a0_7) := (blk_cell BK233.out 7).trans rfl
      have hcz60_8 : wc.cell? ⟨gb233, 8, none⟩ = some (.int .i64 a0_8) := (blk_cell BK233.out 8).trans rfl
      have hcz60_9 : wc.cell? ⟨gb233, 9, none⟩ = some (.bool a0_9) := (blk_cell BK233.out 9).trans rfl
      have hcz60_10 : wc.cell? ⟨gb233, 10, none⟩ = some (.bool a0_10) := (blk_cell BK233.out 10).trans rfl
      have hcz60_11 : wc.cell? ⟨gb233, 11, none⟩ = some (.int .u32 a0_11) := (blk_cell BK233.out 11).trans rfl
      have hcz60_12 : wc.cell? ⟨gb233, 12, none⟩ = some (.int .u32 a0_12) := (blk_cell BK233.out 12).trans rfl
      have hcz60_13 : wc.cell? ⟨gb233, 13, none⟩ = some (.slice A0_13 l0_13.length c0_13) := (blk_cell BK233.out 13).trans rfl
      have hcz60_14 : wc.cell? ⟨gb233, 14, none⟩ = some (.slice A0_14 l0_14.length c0_14) := (blk_cell BK233.out 14).trans rfl
      have hfz60_0 := blk_frozen BK233.out 0
      have hfz60_1 := blk_frozen BK233.out 1
      have hfz60_2 := blk_frozen BK233.out 2
      have hfz60_3 := blk_frozen BK233.out 3
      have hfz60_4 := blk_frozen BK233.out 4
      have hfz60_5 := blk_frozen BK233.out 5
      have hfz60_6 := blk_frozen BK233.out 6
      have hfz60_7 := blk_frozen BK233.out 7
      have hfz60_8 := blk_frozen BK233.out 8
      have hfz60_9 := blk_frozen BK233.out 9
      have hfz60_10 := blk_frozen BK233.out 10
      have hfz60_11 := blk_frozen BK233.out 11
      have hfz60_12 := blk_frozen BK233.out 12
      have hfz60_13 := blk_frozen BK233.out 13
      have hfz60_14 := blk_frozen BK233.out 14
      have hcz61_0 : wc.cell? ⟨gb234, 0, none⟩ = some (.int .i64 a1_0) := (blk_cell BK234.out 0).trans rfl
      have hcz61_1 : wc.cell? ⟨gb234, 1, none⟩ = some (.int .i64 a1_1) := (blk_cell BK234.out 1).trans rfl
      have hcz61_2 : wc.cell? ⟨gb234, 2, none⟩ = some (.int .u32 a1_2) := (blk_cell BK234.out 2).trans rfl
      have hcz61_3 : wc.cell? ⟨gb234, 3, none⟩ = some (.int .u32 a1_3) := (blk_cell BK234.out 3).trans rfl
      have hcz61_4 : wc.cell? ⟨gb234, 4, none⟩ = some (.int .i64 a1_4) := (blk_cell BK234.out 4).trans rfl
      have hcz61_5 : wc.cell? ⟨gb234, 5, none⟩ = some (.int .i64 a1_5) := (blk_cell BK234.out 5).trans rfl
      have hcz61_6 : wc.cell? ⟨gb234, 6, none⟩ = some (.int .i64 a1_6) := (blk_cell BK234.out 6).trans rfl
      have hcz61_7 : wc.cell? ⟨gb234, 7, none⟩ = some (.int .i64 a1_7) := (blk_cell BK234.out 7).trans rfl
      have hcz61_8 : wc.cell? ⟨gb234, 8, none⟩ = some (.int .i64 a1_8) := (blk_cell BK234.out 8).trans rfl
      have hcz61_9 : wc.cell? ⟨gb234, 9, none⟩ = some (.bool a1_9) := (blk_cell BK234.out 9).trans rfl
      have hcz61_10 : wc.cell? ⟨gb234, 10, none⟩ = some (.bool a1_10) := (blk_cell BK234.out 10).trans rfl
      have hcz61_11 : wc.cell? ⟨gb234, 11, none⟩ = some (.int .u32 a1_11) := (blk_cell BK234.out 11).trans rfl
      have hcz61_12 : wc.cell? ⟨gb234, 12, none⟩ = some (.int .u32 a1_12) := (blk_cell BK234.out 12).trans rfl
      have hcz61_13 : wc.cell? ⟨gb234, 13, none⟩ = some (.slice A1_13 l1_13.length c1_13) := (blk_cell BK234.out 13).trans rfl
      have hcz61_14 : wc.cell? ⟨gb234, 14, none⟩ = some (.slice A1_14 l1_14.length c1_14) := (blk_cell BK234.out 14).trans rfl
      have hfz61_0 := blk_frozen BK234.out 0
      have hfz61_1 := blk_frozen BK234.out 1
      have hfz61_2 := blk_frozen BK234.out 2
      have hfz61_3 := blk_frozen BK234.out 3
      have hfz61_4 := blk_frozen BK234.out 4
      have hfz61_5 := blk_frozen BK234.out 5
      have hfz61_6 := blk_frozen BK234.out 6
      have hfz61_7 := blk_frozen BK234.out 7
      have hfz61_8 := blk_frozen BK234.out 8
      have hfz61_9 := blk_frozen BK234.out 9
      have hfz61_10 := blk_frozen BK234.out 10
      have hfz61_11 := blk_frozen BK234.out 11
      have hfz61_12 := blk_frozen BK234.out 12
      have hfz61_13 := blk_frozen BK234.out 13
      have hfz61_14 := blk_frozen BK234.out 14
      go_wp2
      repeat (go_quiet (fail); try go_wp2)
      go_meet
      case rel => exact ⟨_, (true), (by first | rfl | (simp; done) | (simp [*]; done)), H', ⟨by have := HJ2.out; first | omega | exact Nat.le_refl _⟩, ⟨by (with_reducible repeat (first | refine blk_drewN ?_ _ | refine blk_drew ?_ | refine blk_alloc ?_ _)); exact BK233.out⟩, ⟨by (with_reducible repeat (first | refine blk_drewN ?_ _ | refine blk_drew ?_ | refine blk_alloc ?_ _)); exact BK234.out⟩, ⟨by repeat (first | (with_reducible first | exact HB.out | apply below_alloc | apply pw_below_drewN | apply below_drew1 | refine below_set ?_ GE233.out | refine below_set ?_ GE234.out) | exact HB.out)⟩⟩
    case rest =>
     clear HC34
     try clear c1
     try clear p2
     try clear c3
     try clear c4
     try clear c5
     try clear c33
     try clear c35
     try clear c35b0
     try clear c35b1
     try clear c36
     try clear c36b0
     try clear c36b1
     try clear c37
     try clear c37b0
     try clear c37b1
     try clear c37b2
     try clear c38
     try clear c41
     try clear c41b0
     try clear c41b1
     try clear c41b2
     try clear c42
     try clear c45
     try clear c45b0
     try clear c45b1
     try clear c46
     try clear c46b0
     try clear c46b1
     try clear c47
     try clear c50
     try clear c53
     try clear c56
     try clear c59
     try clear hcz39_0
     try clear hcz39_1
     try clear hcz39_10
     try clear hcz39_11
     try clear hcz39_12
     try clear hcz39_13
     try clear hcz39_14
     try clear hcz39_2
     try clear hcz39_3
     try clear hcz39_4
     try clear hcz39_5
     try clear hcz39_6
     try clear hcz39_7
     try clear hcz39_8
     try clear hcz39_9
     try clear hcz40_0
     try clear hcz40_1
     try clear hcz40_10
     try clear hcz40_11
     try clear hcz40_12
     try clear hcz40_13
     try clear hcz40_14
     try clear hcz40_2
     try clear hcz40_3
     try clear hcz40_4
     try clear hcz40_5
     try clear hcz40_6
     try clear hcz40_7
     try clear hcz40_8
     try clear hcz40_9
     try clear hcz43_0
     try clear hcz43_1
     try clear hcz43_10
     try clear hcz43_11
     try clear hcz43_12
     try clear hcz43_13
     try clear hcz43_14
     try clear hcz43_2
     try clear hcz43_3
     try clear hcz43_4
     try clear hcz43_5
     try clear hcz43_6
     try clear hcz43_7
     try clear hcz43_8
     try clear hcz43_9
     try clear hcz44_0
     try clear hcz44_1
     try clear hcz44_10
     try clear hcz44_11
     try clear hcz44_12
     try clear hcz44_13
     try clear hcz44_14
     try clear hcz44_2
     try clear hcz44_3
     try clear hcz44_4
     try clear hcz44_5
     try clear hcz44_6
     try clear hcz44_7
     try clear hcz44_8
     try clear hcz44_9
     try clear hcz48_0
     try clear hcz48_1
     try clear hcz48_10
     try clear hcz48_11
     try clear hcz48_12
     try clear hcz48_13
     try clear hcz48_14
     try clear hcz48_2
     try clear hcz48_3
     try clear hcz48_4
     try clear hcz48_5
     try clear hcz48_6
     try clear hcz48_7
     try clear hcz48_8
     try clear hcz48_9
     try clear hcz49_0
     try clear hcz49_1
     try clear hcz49_10
     try clear hcz49_11
     try clear hcz49_12
     try clear hcz49_13
     try clear hcz49_14
     try clear hcz49_2
     try clear hcz49_3
     try clear hcz49_4
     try clear hcz49_5
     try clear hcz49_6
     try clear hcz49_7
     try clear hcz49_8
     try clear hcz49_9
     try clear hcz51_0
     try clear hcz51_1
     try clear hcz51_10
     try clear hcz51_11
     try clear hcz51_12
     try clear hcz51_13
     try clear hcz51_14
     try clear hcz51_2
     try clear hcz51_3
     try clear hcz51_4
     try clear hcz51_5
     try clear hcz51_6
     try clear hcz51_7
     try clear hcz51_8
     try clear hcz51_9
     try clear hcz52_0
     try clear hcz52_1
     try clear hcz52_10
     try clear hcz52_11
     try clear hcz52_12
     try clear hcz52_13
     try clear hcz52_14
     try clear hcz52_2
     try clear hcz52_3
     try clear hcz52_4
     try clear hcz52_5
     try clear hcz52_6
     try clear hcz52_7
     try clear hcz52_8
     try clear hcz52_9
     try clear hcz54_0
     try clear hcz54_1
     try clear hcz54_10
     try clear hcz54_11
     try clear hcz54_12
     try clear hcz54_13
     try clear hcz54_14
     try clear hcz54_2
     try clear hcz54_3
     try clear hcz54_4
     try clear hcz54_5
     try clear hcz54_6
     try clear hcz54_7
     try clear hcz54_8
     try clear hcz54_9
     try clear hcz55_0
     try clear hcz55_1
     try clear hcz55_10
     try clear hcz55_11
     try clear hcz55_12
     try clear hcz55_13
     try clear hcz55_14
     try clear hcz55_2
     try clear hcz55_3
     try clear hcz55_4
     try clear hcz55_5
     try clear hcz55_6
     try clear hcz55_7
     try clear hcz55_8
     try clear hcz55_9
     try clear hcz57_0
     try clear hcz57_1
     try clear hcz57_10
     try clear hcz57_11
     try clear hcz57_12
     try clear hcz57_13
     try clear hcz57_14
     try clear hcz57_2
     try clear hcz57_3
     try clear hcz57_4
     try clear hcz57_5
     try clear hcz57_6
     try clear hcz57_7
     try clear hcz57_8
     try clear hcz57_9
     try clear hcz58_0
     try clear hcz58_1
     try clear hcz58_10
     try clear hcz58_11
     try clear hcz58_12
     try clear hcz58_13
     try clear hcz58_14
     try clear hcz58_2
     try clear hcz58_3
     try clear hcz58_4
     try clear hcz58_5
     try clear hcz58_6
     try clear hcz58_7
     try clear hcz58_8
     try clear hcz58_9
     try clear hcz60_0
     try clear hcz60_1
     try clear hcz60_10
     try clear hcz60_11
     try clear hcz60_12
     try clear hcz60_13
     try clear hcz60_14
     try clear hcz60_2
     try clear hcz60_3
     try clear hcz60_4
     try clear hcz60_5
     try clear hcz60_6
     try clear hcz60_7
     try clear hcz60_8
     try clear hcz60_9
     try clear hcz61_0
     try clear hcz61_1
     try clear hcz61_10
     try clear hcz61_11
     try clear hcz61_12
     try clear hcz61_13
     try clear hcz61_14
     try clear hcz61_2
     try clear hcz61_3
     try clear hcz61_4
     try clear hcz61_5
     try clear hcz61_6
     try clear hcz61_7
     try clear hcz61_8
     try clear hcz61_9
     try clear hfz29_8
     try clear hfz29_9
     try clear hfz31_0
     try clear hfz31_1
     try clear hfz31_10
     try clear hfz31_11
     try clear hfz31_12
     try clear hfz31_13
     try clear hfz31_14
     try clear hfz31_2
     try clear hfz31_3
     try clear hfz31_4
     try clear hfz31_5
     try clear hfz31_6
     try clear hfz31_7
     try clear hfz31_8
     try clear hfz31_9
     try clear hfz32_0
     try clear hfz32_1
     try clear hfz32_10
     try clear hfz32_11
     try clear hfz32_12
     try clear hfz32_13
     try clear hfz32_14
     try clear hfz32_2
     try clear hfz32_3
     try clear hfz32_4
     try clear hfz32_5
     try clear hfz32_6
     try clear hfz32_7
     try clear hfz32_8
     try clear hfz32_9
     try clear hfz39_0
     try clear hfz39_1
     try clear hfz39_10
     try clear hfz39_11
     try clear hfz39_12
     try clear hfz39_13
     try clear hfz39_14
     try clear hfz39_2
     try clear hfz39_3
     try clear hfz39_4
     try clear hfz39_5
     try clear hfz39_6
     try clear hfz39_7
     try clear hfz39_8
     try clear hfz39_9
     try clear hfz40_0
     try clear hfz40_1
     try clear hfz40_10
     try clear hfz40_11
     try clear hfz40_12
     try clear hfz40_13
     try clear hfz40_14
     try clear hfz40_2
     try clear hfz40_3
     try clear hfz40_4
     try clear hfz40_5
     try clear hfz40_6
     try clear hfz40_7
     try clear hfz40_8
     try clear hfz40_9
     try clear hfz43_0
     try clear hfz43_1
     try clear hfz43_10
     try clear hfz43_11
     try clear hfz43_12
     try clear hfz43_13
     try clear hfz43_14
     try clear hfz43_2
     try clear hfz43_3
     try clear hfz43_4
     try clear hfz43_5
     try clear hfz43_6
     try clear hfz43_7
     try clear hfz43_8
     try clear hfz43_9
     try clear hfz44_0
     try clear hfz44_1
     try clear hfz44_10
     try clear hfz44_11
     try clear hfz44_12
     try clear hfz44_13
     try clear hfz44_14
     try clear hfz44_2
     try clear hfz44_3
     try clear hfz44_4
     try clear hfz44_5
     try clear hfz44_6
     try clear hfz44_7
     try clear hfz44_8
     try clear hfz44_9
     try clear hfz48_0
     try clear hfz48_1
     try clear hfz48_10
     try clear hfz48_11
     try clear hfz48_12
     try clear hfz48_13
     try clear hfz48_14
     try clear hfz48_2
     try clear hfz48_3
     try clear hfz48_4
     try clear hfz48_5
     try clear hfz48_6
     try clear hfz48_7
     try clear hfz48_8
     try clear hfz48_9
     try clear hfz49_0
     try clear hfz49_1
     try clear hfz49_10
     try clear hfz49_11
     try clear hfz49_12
     try clear hfz49_13
     try clear hfz49_14
     try clear hfz49_2
     try clear hfz49_3
     try clear hfz49_4
     try clear hfz49_5
     try clear hfz49_6
     try clear hfz49_7
     try clear hfz49_8
     try clear hfz49_9
     try clear hfz51_0
     try clear hfz51_1
     try clear hfz51_10
     try clear hfz51_11
     try clear hfz51_12
     try clear hfz51_13
     try clear hfz51_14
     try clear hfz51_2
     try clear hfz51_3
     try clear hfz51_4
     try clear hfz51_5
     try clear hfz51_6
     try clear hfz51_7
     try clear hfz51_8
     try clear hfz51_9
     try clear hfz52_0
     try clear hfz52_1
     try clear hfz52_10
     try clear hfz52_11
     try clear hfz52_12
     try clear hfz52_13
     try clear hfz52_14
     try clear hfz52_2
     try clear hfz52_3
     try clear hfz52_4
     try clear hfz52_5
     try clear hfz52_6
     try clear hfz52_7
     try clear hfz52_8
     try clear hfz52_9
     try clear hfz54_0
     try clear hfz54_1
     try clear hfz54_10
     try clear hfz54_11
     try clear hfz54_12
     try clear hfz54_13
     try clear hfz54_14
     try clear hfz54_2
     try clear hfz54_3
     try clear hfz54_4
     try clear hfz54_5
     try clear hfz54_6
     try clear hfz54_7
     try clear hfz54_8
     try clear hfz54_9
     try clear hfz55_0
     try clear hfz55_1
     try clear hfz55_10
     try clear hfz55_11
     try clear hfz55_12
     try clear hfz55_13
     try clear hfz55_14
     try clear hfz55_2
     try clear hfz55_3
     try clear hfz55_4
     try clear hfz55_5
     try clear hfz55_6
     try clear hfz55_7
     try clear hfz55_8
     try clear hfz55_9
     try clear hfz57_0
     try clear hfz57_1
     try clear hfz57_10
     try clear hfz57_11
     try clear hfz57_12
     try clear hfz57_13
     try clear hfz57_14
     try clear hfz57_2
     try clear hfz57_3
     try clear hfz57_4
     try clear hfz57_5
     try clear hfz57_6
     try clear hfz57_7
     try clear hfz57_8
     try clear hfz57_9
     try clear hfz58_0
     try clear hfz58_1
     try clear hfz58_10
     try clear hfz58_11
     try clear hfz58_12
     try clear hfz58_13
     try clear hfz58_14
     try clear hfz58_2
     try clear hfz58_3
     try clear hfz58_4
     try clear hfz58_5
     try clear hfz58_6
     try clear hfz58_7
     try clear hfz58_8
     try clear hfz58_9
     try clear hfz60_0
     try clear hfz60_1
     try clear hfz60_10
     try clear hfz60_11
     try clear hfz60_12
     try clear hfz60_13
     try clear hfz60_14
     try clear hfz60_2
     try clear hfz60_3
     try clear hfz60_4
     try clear hfz60_5
     try clear hfz60_6
     try clear hfz60_7
     try clear hfz60_8
     try clear hfz60_9
     try clear hfz61_0
     try clear hfz61_1
     try clear hfz61_10
     try clear hfz61_11
     try clear hfz61_12
     try clear hfz61_13
     try clear hfz61_14
     try clear hfz61_2
     try clear hfz61_3
     try clear hfz61_4
     try clear hfz61_5
     try clear hfz61_6
     try clear hfz61_7
     try clear hfz61_8
     try clear hfz61_9
     obtain ⟨kq, x101_33, rfl, HA, HJ33, BK233, BK234, HB⟩ := hcut
     cases kq with
     | zero => exact absurd HA.out (by simp [tidewayref03_Same.j1])
     | succ kj33 =>
      have H := HA.out
      clear HA
      simp only [tidewayref03_Same.j1] at H
      by_cases c62 : x101_33 = true
      ·subst c62
       have H1 : (some false) = some r := by rw [if_pos rfl] at H; exact H
       clear H
       have H := H1
       clear H1
       obtain rfl := Option.some.inj H
       go_wp2
       repeat (go_quiet (fail); try go_wp2)
       go_ret
       exact ⟨by first | rfl | (simp [errW_none, errW_some] <;> rfl) | (simp [*, errW_none, errW_some] <;> rfl), by repeat (first | (with_reducible first | exact HB.out | apply below_alloc | apply pw_below_drewN | apply below_drew1 | refine below_set ?_ GE233.out | refine below_set ?_ GE234.out) | exact HB.out)⟩
      ·replace c62 := Bool.eq_false_iff.mpr c62
       subst c62
       have H1 : (tidewayref03_Same.l0 kj33 0 a0_0 a0_1 a0_2 a0_3 a0_4 a0_5 a0_6 a0_7 a0_8 a0_9 a0_10 a0_11 a0_12 l0_13 l0_14 a1_0 a1_1 a1_2 a1_3 a1_4 a1_5 a1_6 a1_7 a1_8 a1_9 a1_10 a1_11 a1_12 l1_13 l1_14) = some r := by rw [if_neg (show ¬ (false = true) by decide)] at H; exact H
       clear H
       have H := H1
       clear H1
       have H' := Aside0.mk H
       clear H
       go_wp2
       repeat (go_quiet (fail); try go_wp2)
       go_loopg [5] kj33 (fun kq v5 w' => ∃ (x5_3 : Int), v5 = .int .i64 x5_3 ∧ Aside0 (tidewayref03_Same.l0 kq x5_3 a0_0 a0_1 a0_2 a0_3 a0_4 a0_5 a0_6 a0_7 a0_8 a0_9 a0_10 a0_11 a0_12 l0_13 l0_14 a1_0 a1_1 a1_2 a1_3 a1_4 a1_5 a1_6 a1_7 a1_8 a1_9 a1_10 a1_11 a1_12 l1_13 l1_14 = some r) ∧ Aside0 (kq ≤ kj33) ∧ Aside0 (w'.heap[gb233]? = some (.cells #[.int .i64 a0_0, .int .i64 a0_1, .int .u32 a0_2, .int .u32 a0_3, .int .i64 a0_4, .int .i64 a0_5, .int .i64 a0_6, .int .i64 a0_7, .int .i64 a0_8, .bool a0_9, .bool a0_10, .int .u32 a0_11, .int .u32 a0_12, (.slice A0_13 l0_13.length c0_13), (.slice A0_14 l0_14.length c0_14)] 26 (0, 0))) ∧ Aside0 (w'.heap[gb234]? = some (.cells #[.int .i64 a1_0, .int .i64 a1_1, .int .u32 a1_2, .int .u32 a1_3, .int .i64 a1_4, .int .i64 a1_5, .int .i64 a1_6, .int .i64 a1_7, .int .i64 a1_8, .bool a1_9, .bool a1_10, .int .u32 a1_11, .int .u32 a1_12, (.slice A1_13 l1_13.length c1_13), (.slice A1_14 l1_14.length c1_14)] 26 (0, 0))) ∧ Aside0 (Below w.heap.size w w'))
       case atStart => exact ⟨(0), (by first | rfl | (simp; done) | (simp [*]; done)), H', ⟨Nat.le_refl _⟩, ⟨by (with_reducible repeat (first | refine blk_drewN ?_ _ | refine blk_drew ?_ | refine blk_alloc ?_ _)); exact BK233.out⟩, ⟨by (with_reducible repeat (first | refine blk_drewN ?_ _ | refine blk_drew ?_ | refine blk_alloc ?_ _)); exact BK234.out⟩, ⟨by repeat (first | (with_reducible first | exact HB.out | apply below_alloc | apply pw_below_drewN | apply below_drew1 | refine below_set ?_ GE233.out | refine below_set ?_ GE234.out) | exact HB.out)⟩⟩
       case round =>
        clear H'
        try clear c1
        try clear p2
        try clear c3
        try clear c4
        try clear c5
        try clear c6
        try clear c33
        try clear c35
        try clear c35b0
        try clear c35b1
        try clear c36
        try clear c36b0
        try clear c36b1
        try clear c37
        try clear c37b0
        try clear c37b1
        try clear c37b2
        try clear c38
        try clear c41
        try clear c41b0
        try clear c41b1
        try clear c41b2
        try clear c42
        try clear c45
        try clear c45b0
        try clear c45b1
        try clear c46
        try clear c46b0
        try clear c46b1
        try clear c47
        try clear c50
        try clear c53
        try clear c56
        try clear c59
        try clear c62
        try clear hcz39_0
        try clear hcz39_1
        try clear hcz39_10
        try clear hcz39_11
        try clear hcz39_12
        try clear hcz39_13
        try clear hcz39_14
        try clear hcz39_2
        try clear hcz39_3
        try clear hcz39_4
        try clear hcz39_5
        try clear hcz39_6
        try clear hcz39_7
        try clear hcz39_8
        try clear hcz39_9
        try clear hcz40_0
        try clear hcz40_1
        try clear hcz40_10
        try clear hcz40_11
        try clear hcz40_12
        try clear hcz40_13
        try clear hcz40_14
        try clear hcz40_2
        try clear hcz40_3
        try clear hcz40_4
        try clear hcz40_5
        try clear hcz40_6
        try clear hcz40_7
        try clear hcz40_8
        try clear hcz40_9
        try clear hcz43_0
        try clear hcz43_1
        try clear hcz43_10
        try clear hcz43_11
        try clear hcz43_12
        try clear hcz43_13
        try clear hcz43_14
        try clear hcz43_2
        try clear hcz43_3
        try clear hcz43_4
        try clear hcz43_5
        try clear hcz43_6
        try clear hcz43_7
        try clear hcz43_8
        try clear hcz43_9
        try clear hcz44_0
        try clear hcz44_1
        try clear hcz44_10
        try clear hcz44_11
        try clear hcz44_12
        try clear hcz44_13
        try clear hcz44_14
        try clear hcz44_2
        try clear hcz44_3
        try clear hcz44_4
        try clear hcz44_5
        try clear hcz44_6
        try clear hcz44_7
        try clear hcz44_8
        try clear hcz44_9
        try clear hcz48_0
        try clear hcz48_1
        try clear hcz48_10
        try clear hcz48_11
        try clear hcz48_12
        try clear hcz48_13
        try clear hcz48_14
        try clear hcz48_2
        try clear hcz48_3
        try clear hcz48_4
        try clear hcz48_5
        try clear hcz48_6
        try clear hcz48_7
        try clear hcz48_8
        try clear hcz48_9
        try clear hcz49_0
        try clear hcz49_1
        try clear hcz49_10
        try clear hcz49_11
        try clear hcz49_12
        try clear hcz49_13
        try clear hcz49_14
        try clear hcz49_2
        try clear hcz49_3
        try clear hcz49_4
        try clear hcz49_5
        try clear hcz49_6
        try clear hcz49_7
        try clear hcz49_8
        try clear hcz49_9
        try clear hcz51_0
        try clear hcz51_1
        try clear hcz51_10
        try clear hcz51_11
        try clear hcz51_12
        try clear hcz51_13
        try clear hcz51_14
        try clear hcz51_2
        try clear hcz51_3
        try clear hcz51_4
        try clear hcz51_5
        try clear hcz51_6
        try clear hcz51_7
        try clear hcz51_8
        try clear hcz51_9
        try clear hcz52_0
        try clear hcz52_1
        try clear hcz52_10
        try clear hcz52_11
        try clear hcz52_12
        try clear hcz52_13
        try clear hcz52_14
        try clear hcz52_2
        try clear hcz52_3
        try clear hcz52_4
        try clear hcz52_5
        try clear hcz52_6
        try clear hcz52_7
        try clear hcz52_8
        try clear hcz52_9
        try clear hcz54_0
        try clear hcz54_1
        try clear hcz54_10
        try clear hcz54_11
        try clear hcz54_12
        try clear hcz54_13
        try clear hcz54_14
        try clear hcz54_2
        try clear hcz54_3
        try clear hcz54_4
        try clear hcz54_5
        try clear hcz54_6
        try clear hcz54_7
        try clear hcz54_8
        try clear hcz54_9
        try clear hcz55_0
        try clear hcz55_1
        try clear hcz55_10
        try clear hcz55_11
        try clear hcz55_12
        try clear hcz55_13
        try clear hcz55_14
        try clear hcz55_2
        try clear hcz55_3
        try clear hcz55_4
        try clear hcz55_5
        try clear hcz55_6
        try clear hcz55_7
        try clear hcz55_8
        try clear hcz55_9
        try clear hcz57_0
        try clear hcz57_1
        try clear hcz57_10
        try clear hcz57_11
        try clear hcz57_12
        try clear hcz57_13
        try clear hcz57_14
        try clear hcz57_2
        try clear hcz57_3
        try clear hcz57_4
        try clear hcz57_5
        try clear hcz57_6
        try clear hcz57_7
        try clear hcz57_8
        try clear hcz57_9
        try clear hcz58_0
        try clear hcz58_1
        try clear hcz58_10
        try clear hcz58_11
        try clear hcz58_12
        try clear hcz58_13
        try clear hcz58_14
        try clear hcz58_2
        try clear hcz58_3
        try clear hcz58_4
        try clear hcz58_5
        try clear hcz58_6
        try clear hcz58_7
        try clear hcz58_8
        try clear hcz58_9
        try clear hcz60_0
        try clear hcz60_1
        try clear hcz60_10
        try clear hcz60_11
        try clear hcz60_12
        try clear hcz60_13
        try clear hcz60_14
        try clear hcz60_2
        try clear hcz60_3
        try clear hcz60_4
        try clear hcz60_5
        try clear hcz60_6
        try clear hcz60_7
        try clear hcz60_8
        try clear hcz60_9
        try clear hcz61_0
        try clear hcz61_1
        try clear hcz61_10
        try clear hcz61_11
        try clear hcz61_12
        try clear hcz61_13
        try clear hcz61_14
        try clear hcz61_2
        try clear hcz61_3
        try clear hcz61_4
        try clear hcz61_5
        try clear hcz61_6
        try clear hcz61_7
        try clear hcz61_8
        try clear hcz61_9
        try clear hfz29_8
        try clear hfz29_9
        try clear hfz31_0
        try clear hfz31_1
        try clear hfz31_10
        try clear hfz31_11
        try clear hfz31_12
        try clear hfz31_13
        try clear hfz31_14
        try clear hfz31_2
        try clear hfz31_3
        try clear hfz31_4
        try clear hfz31_5
        try clear hfz31_6
        try clear hfz31_7
        try clear hfz31_8
        try clear hfz31_9
        try clear hfz32_0
        try clear hfz32_1
        try clear hfz32_10
        try clear hfz32_11
        try clear hfz32_12
        try clear hfz32_13
        try clear hfz32_14
        try clear hfz32_2
        try clear hfz32_3
        try clear hfz32_4
        try clear hfz32_5
        try clear hfz32_6
        try clear hfz32_7
        try clear hfz32_8
        try clear hfz32_9
        try clear hfz39_0
        try clear hfz39_1
        try clear hfz39_10
        try clear hfz39_11
        try clear hfz39_12
        try clear hfz39_13
        try clear hfz39_14
        try clear hfz39_2
        try clear hfz39_3
        try clear hfz39_4
        try clear hfz39_5
        try clear hfz39_6
        try clear hfz39_7
        try clear hfz39_8
        try clear hfz39_9
        try clear hfz40_0
        try clear hfz40_1
        try clear hfz40_10
        try clear hfz40_11
        try clear hfz40_12
        try clear hfz40_13
        try clear hfz40_14
        try clear hfz40_2
        try clear hfz40_3
        try clear hfz40_4
        try clear hfz40_5
        try clear hfz40_6
        try clear hfz40_7
        try clear hfz40_8
        try clear hfz40_9
        try clear hfz43_0
        try clear hfz43_1
        try clear hfz43_10
        try clear hfz43_11
        try clear hfz43_12
        try clear hfz43_13
        try clear hfz43_14
        try clear hfz43_2
        try clear hfz43_3
        try clear hfz43_4
        try clear hfz43_5
        try clear hfz43_6
        try clear hfz43_7
        try clear hfz43_8
        try clear hfz43_9
        try clear hfz44_0
        try clear hfz44_1
        try clear hfz44_10
        try clear hfz44_11
        try clear hfz44_12
        try clear hfz44_13
        try clear hfz44_14
        try clear hfz44_2
        try clear hfz44_3
        try clear hfz44_4
        try clear hfz44_5
        try clear hfz44_6
        try clear hfz44_7
        try clear hfz44_8
        try clear hfz44_9
        try clear hfz48_0
        try clear hfz48_1
        try clear hfz48_10
        try clear hfz48_11
        try clear hfz48_12
        try clear hfz48_13
        try clear hfz48_14
        try clear hfz48_2
        try clear hfz48_3
        try clear hfz48_4
        try clear hfz48_5
        try clear hfz48_6
        try clear hfz48_7
        try clear hfz48_8
        try clear hfz48_9
        try clear hfz49_0
        try clear hfz49_1
        try clear hfz49_10
        try clear hfz49_11
        try clear hfz49_12
        try clear hfz49_13
        try clear hfz49_14
        try clear hfz49_2
        try clear hfz49_3
        try clear hfz49_4
        try clear hfz49_5
        try clear hfz49_6
        try clear hfz49_7
        try clear hfz49_8
        try clear hfz49_9
        try clear hfz51_0
        try clear hfz51_1
        try clear hfz51_10
        try clear hfz51_11
        try clear hfz51_12
        try clear hfz51_13
        try clear hfz51_14
        try clear hfz51_2
        try clear hfz51_3
        try clear hfz51_4
        try clear hfz51_5
        try clear hfz51_6
        try clear hfz51_7
        try clear hfz51_8
        try clear hfz51_9
        try clear hfz52_0
        try clear hfz52_1
        try clear hfz52_10
        try clear hfz52_11
        try clear hfz52_12
        try clear hfz52_13
        try clear hfz52_14
        try clear hfz52_2
        try clear hfz52_3
        try clear hfz52_4
        try clear hfz52_5
        try clear hfz52_6
        try clear hfz52_7
        try clear hfz52_8
        try clear hfz52_9
        try clear hfz54_0
        try clear hfz54_1
        try clear hfz54_10
        try clear hfz54_11
        try clear hfz54_12
        try clear hfz54_13
        try clear hfz54_14
        try clear hfz54_2
        try clear hfz54_3
        try clear hfz54_4
        try clear hfz54_5
        try clear hfz54_6
        try clear hfz54_7
        try clear hfz54_8
        try clear hfz54_9
        try clear hfz55_0
        try clear hfz55_1
        try clear hfz55_10
        try clear hfz55_11
        try clear hfz55_12
        try clear hfz55_13
        try clear hfz55_14
        try clear hfz55_2
        try clear hfz55_3
        try clear hfz55_4
        try clear hfz55_5
        try clear hfz55_6
        try clear hfz55_7
        try clear hfz55_8
        try clear hfz55_9
        try clear hfz57_0
        try clear hfz57_1
        try clear hfz57_10
        try clear hfz57_11
        try clear hfz57_12
        try clear hfz57_13
        try clear hfz57_14
        try clear hfz57_2
        try clear hfz57_3
        try clear hfz57_4
        try clear hfz57_5
        try clear hfz57_6
        try clear hfz57_7
        try clear hfz57_8
        try clear hfz57_9
        try clear hfz58_0
        try clear hfz58_1
        try clear hfz58_10
        try clear hfz58_11
        try clear hfz58_12
        try clear hfz58_13
        try clear hfz58_14
        try clear hfz58_2
        try clear hfz58_3
        try clear hfz58_4
        try clear hfz58_5
        try clear hfz58_6
        try clear hfz58_7
        try clear hfz58_8
        try clear hfz58_9
        try clear hfz60_0
        try clear hfz60_1
        try clear hfz60_10
        try clear hfz60_11
        try clear hfz60_12
        try clear hfz60_13
        try clear hfz60_14
        try clear hfz60_2
        try clear hfz60_3
        try clear hfz60_4
        try clear hfz60_5
        try clear hfz60_6
        try clear hfz60_7
        try clear hfz60_8
        try clear hfz60_9
        try clear hfz61_0
        try clear hfz61_1
        try clear hfz61_10
        try clear hfz61_11
        try clear hfz61_12
        try clear hfz61_13
        try clear hfz61_14
        try clear hfz61_2
        try clear hfz61_3
        try clear hfz61_4
        try clear hfz61_5
        try clear hfz61_6
        try clear hfz61_7
        try clear hfz61_8
        try clear hfz61_9
        try clear p2
        obtain ⟨x5_3, rfl, HA, HK3, BK233, BK234, HB⟩ := hrel
        cases gk with
        | zero => exact absurd HA.out (by simp [tidewayref03_Same.l0])
        | succ k3 =>
         have H := HA.out
         clear HA
         simp only [tidewayref03_Same.l0] at H
         by_cases c63 : x5_3 < (l0_13.length : Int)
         ·rw [if_pos c63] at H
          have c63b0 : decide (x5_3 < (l0_13.length : Int)) = true := decide_eq_true c63
          clear c63
          by_cases c64 : 0 ≤ x5_3
          ·rw [if_pos c64] at H
           have c64b0 : decide (0 ≤ x5_3) = true := decide_eq_true c64
           clear c64
           by_cases c65 : x5_3 < (l1_13.length : Int)
           ·rw [if_pos c65] at H
            have c65b0 : decide (x5_3 < (l1_13.length : Int)) = true := decide_eq_true c65
            clear c65
            by_cases c66 : (!(((rd_T56 l0_13 x5_3).f0) == ((rd_T56 l1_13 x5_3).f0)) || (!(((rd_T56 l0_13 x5_3).f1) == ((rd_T56 l1_13 x5_3).f1)))) = true
            ·rw [if_pos c66] at H
             have c66b0 : (!(((rd_T56 l0_13 x5_3).f0) == ((rd_T56 l1_13 x5_3).f0)) || (!(((rd_T56 l0_13 x5_3).f1) == ((rd_T56 l1_13 x5_3).f1)))) = true := c66
             clear c66
             obtain rfl := Option.some.inj H
             have hnb67 := NB233_234.out
             have hnc67 := NB234_233.out
             have hcz68_0 : wr.cell? ⟨gb233, 0, none⟩ = some (.int .i64 a0_0) := (blk_cell BK233.out 0).trans rfl
             have hcz68_1 : wr.cell? ⟨gb233, 1, none⟩ = some (.int .i64 a0_1) := (blk_cell BK233.out 1).trans rfl
             have hcz68_2 : wr.cell? ⟨gb233, 2, none⟩ = some (.int .u32 a0_2) := (blk_cell BK233.out 2).trans rfl
             have hcz68_3 : wr.cell? ⟨gb233, 3, none⟩ = some (.int .u32 a0_3) := (blk_cell BK233.out 3).trans rfl
             have hcz68_4 : wr.cell? ⟨gb233, 4, none⟩ = some (.int .i64 a0_4) := (blk_cell BK233.out 4).trans rfl
             have hcz68_5 : wr.cell? ⟨gb233, 5, none⟩ = some (.int .i64 a0_5) := (blk_cell BK233.out 5).trans rfl
             have hcz68_6 : wr.cell? ⟨gb233, 6, none⟩ = some (.int .i64 a0_6) := (blk_cell BK233.out 6).trans rfl
             have hcz68_7 : wr.cell? ⟨gb233, 7, none⟩ = some (.int .i64 a0_7) := (blk_cell BK233.out 7).trans rfl
             have hcz68_8 : wr.cell? ⟨gb233, 8, none⟩ = some (.int .i64 a0_8) := (blk_cell BK233.out 8).trans rfl
             have hcz68_9 : wr.cell? ⟨gb233, 9, none⟩ = some (.bool a0_9) := (blk_cell BK233.out 9).trans rfl
             have hcz68_10 : wr.cell? ⟨gb233, 10, none⟩ = some (.bool a0_10) := (blk_cell BK233.out 10).trans rfl
             have hcz68_11 : wr.cell? ⟨gb233, 11, none⟩ = some (.int .u32 a0_11) := (blk_cell BK233.out 11).trans rfl
             have hcz68_12 : wr.cell? ⟨gb233, 12, none⟩ = some (.int .u32 a0_12) := (blk_cell BK233.out 12).trans rfl
             have hcz68_13 : wr.cell? ⟨gb233, 13, none⟩ = some (.slice A0_13 l0_13.length c0_13) := (blk_cell BK233.out 13).trans rfl
             have hcz68_14 : wr.cell? ⟨gb233, 14, none⟩ = some (.slice A0_14 l0_14.length c0_14) := (blk_cell BK233.out 14).trans rfl
             have hfz68_0 := blk_frozen BK233.out 0
             have hfz68_1 := blk_frozen BK233.out 1
             have hfz68_2 := blk_frozen BK233.out 2
             have hfz68_3 := blk_frozen BK233.out 3
             have hfz68_4 := blk_frozen BK233.out 4
             have hfz68_5 := blk_frozen BK233.out 5
             have hfz68_6 := blk_frozen BK233.out 6
             have hfz68_7 := blk_frozen BK233.out 7
             have hfz68_8 := blk_frozen BK233.out 8
             have hfz68_9 := blk_frozen BK233.out 9
             have hfz68_10 := blk_frozen BK233.out 10
             have hfz68_11 := blk_frozen BK233.out 11
             have hfz68_12 := blk_frozen BK233.out 12
             have hfz68_13 := blk_frozen BK233.out 13
             have hfz68_14 := blk_frozen BK233.out 14
             have p236 : 0 ≤ (x5_3 : Int) := of_decide_eq_true (by first | (with_reducible assumption) | assumption)
             have q236 : x5_3 < (l0_13.length : Int) := of_decide_eq_true (by first | (with_reducible assumption) | assumption)
             obtain ⟨ad236, e236, hx236_0, hx236_1⟩ := at_T56 HR0_13.out x5_3 p236 q236
             cases e236
             replace hx236_0 := (HB.out.cell (World.block_lt_of_cell? w _ hx236_0)).trans hx236_0
             replace hx236_1 := (HB.out.cell (World.block_lt_of_cell? w _ hx236_1)).trans hx236_1
             replace p236 := eq_true p236
             replace q236 := eq_true q236
             have hcz69_0 : wr.cell? ⟨gb234, 0, none⟩ = some (.int .i64 a1_0) := (blk_cell BK234.out 0).trans rfl
             have hcz69_1 : wr.cell? ⟨gb234, 1, none⟩ = some (.int .i64 a1_1) := (blk_cell BK234.out 1).trans rfl
             have hcz69_2 : wr.cell? ⟨gb234, 2, none⟩ = some (.int .u32 a1_2) := (blk_cell BK234.out 2).trans rfl
             have hcz69_3 : wr.cell? ⟨gb234, 3, none⟩ = some (.int .u32 a1_3) := (blk_cell BK234.out 3).trans rfl
             have hcz69_4 : wr.cell? ⟨gb234, 4, none⟩ = some (.int .i64 a1_4) := (blk_cell BK234.out 4).trans rfl
             have hcz69_5 : wr.cell? ⟨gb234, 5, none⟩ = some (.int .i64 a1_5) := (blk_cell BK234.out 5).trans rfl
             have hcz69_6 : wr.cell? ⟨gb234, 6, none⟩ = some (.int .i64 a1_6) := (blk_cell BK234.out 6).trans rfl
             have hcz69_7 : wr.cell? ⟨gb234, 7, none⟩ = some (.int .i64 a1_7) := (blk_cell BK234.out 7).trans rfl
             have hcz69_8 : wr.cell? ⟨gb234, 8, none⟩ = some (.int .i64 a1_8) := (blk_cell BK234.out 8).trans rfl
             have hcz69_9 : wr.cell? ⟨gb234, 9, none⟩ = some (.bool a1_9) := (blk_cell BK234.out 9).trans rfl
             have hcz69_10 : wr.cell? ⟨gb234, 10, none⟩ = some (.bool a1_10) := (blk_cell BK234.out 10).trans rfl
             have hcz69_11 : wr.cell? ⟨gb234, 11, none⟩ = some (.int .u32 a1_11) := (blk_cell BK234.out 11).trans rfl
             have hcz69_12 : wr.cell? ⟨gb234, 12, none⟩ = some (.int .u32 a1_12) := (blk_cell BK234.out 12).trans rfl
             have hcz69_13 : wr.cell? ⟨gb234, 13, none⟩ = some (.slice A1_13 l1_13.length c1_13) := (blk_cell BK234.out 13).trans rfl
             have hcz69_14 : wr.cell? ⟨gb234, 14, none⟩ = some (.slice A1_14 l1_14.length c1_14) := (blk_cell BK234.out 14).trans rfl
             have hfz69_0 := blk_frozen BK234.out 0
             have hfz69_1 := blk_frozen BK234.out 1
             have hfz69_2 := blk_frozen BK234.out 2
             have hfz69_3 := blk_frozen BK234.out 3
             have hfz69_4 := blk_frozen BK234.out 4
             have hfz69_5 := blk_frozen BK234.out 5
             have hfz69_6 := blk_frozen BK234.out 6
             have hfz69_7 := blk_frozen BK234.out 7
             have hfz69_8 := blk_frozen BK234.out 8
             have hfz69_9 := blk_frozen BK234.out 9
             have hfz69_10 := blk_frozen BK234.out 10
             have hfz69_11 := blk_frozen BK234.out 11
             have hfz69_12 := blk_frozen BK234.out 12
             have hfz69_13 := blk_frozen BK234.out 13
             have hfz69_14 := blk_frozen BK234.out 14
             have p237 : 0 ≤ (x5_3 : Int) := of_decide_eq_true (by first | (with_reducible assumption) | assumption)
             have q237 : x5_3 < (l1_13.length : Int) := of_decide_eq_true (by first | (with_reducible assumption) | assumption)
             obtain ⟨ad237, e237, hx237_0, hx237_1⟩ := at_T56 HR1_13.out x5_3 p237 q237
             cases e237
             replace hx237_0 := (HB.out.cell (World.block_lt_of_cell? w _ hx237_0)).trans hx237_0
             replace hx237_1 := (HB.out.cell (World.block_lt_of_cell? w _ hx237_1)).trans hx237_1
             replace p237 := eq_true p237
             replace q237 := eq_true q237
             go_wp2
             repeat (go_quiet (fail); try go_wp2)
             go_ret
             exact ⟨by first | rfl | (simp [errW_none, errW_some] <;> rfl) | (simp [*, errW_none, errW_some] <;> rfl), by repeat (first | (with_reducible first | exact HB.out | apply below_alloc | apply pw_below_drewN | apply below_drew1 | refine below_set ?_ GE233.out | refine below_set ?_ GE234.out) | exact HB.out)⟩
            ·rw [if_neg c66] at H
             have c66b0 : (!(((rd_T56 l0_13 x5_3).f0) == ((rd_T56 l1_13 x5_3).f0)) || (!(((rd_T56 l0_13 x5_3).f1) == ((rd_T56 l1_13 x5_3).f1)))) = false := by simpa using c66
             clear c66
             have H' := Aside0.mk H
             clear H
             have hnb70 := NB233_234.out
             have hnc70 := NB234_233.out
             have hcz71_0 : wr.cell? ⟨gb233, 0, none⟩ = some (.int .i64 a0_0) := (blk_cell BK233.out 0).trans rfl
             have hcz71_1 : wr.cell? ⟨gb233, 1, none⟩ = some (.int .i64 a0_1) := (blk_cell BK233.out 1).trans rfl
             have hcz71_2 : wr.cell? ⟨gb233, 2, none⟩ = some (.int .u32 a0_2) := (blk_cell BK233.out 2).trans rfl
             have hcz71_3 : wr.cell? ⟨gb233, 3, none⟩ = some (.int .u32 a0_3) := (blk_cell BK233.out 3).trans rfl
             have hcz71_4 : wr.cell? ⟨gb233, 4, none⟩ = some (.int .i64 a0_4) := (blk_cell BK233.out 4).trans rfl
             have hcz71_5 : wr.cell? ⟨gb233, 5, none⟩ = some (.int .i64 a0_5) := (blk_cell BK233.out 5).trans rfl
             have hcz71_6 : wr.cell? ⟨gb233, 6, none⟩ = some (.int .i64 a0_6) := (blk_cell BK233.out 6).trans rfl
             have hcz71_7 : wr.cell? ⟨gb233, 7, none⟩ = some (.int .i64 a0_7) := (blk_cell BK233.out 7).trans rfl
             have hcz71_8 : wr.cell? ⟨gb233, 8, none⟩ = some (.int .i64 a0_8) := (blk_cell BK233.out 8).trans rfl
             have hcz71_9 : wr.cell? ⟨gb233, 9, none⟩ = some (.bool a0_9) := (blk_cell BK233.out 9).trans rfl
             have hcz71_10 : wr.cell? ⟨gb233, 10, none⟩ = some (.bool a0_10) := (blk_cell BK233.out 10).trans rfl
             have hcz71_11 : wr.cell? ⟨gb233, 11, none⟩ = some (.int .u32 a0_11) := (blk_cell BK233.out 11).trans rfl
             have hcz71_12 : wr.cell? ⟨gb233, 12, none⟩ = some (.int .u32 a0_12) := (blk_cell BK233.out 12).trans rfl
             have hcz71_13 : wr.cell? ⟨gb233, 13, none⟩ = some (.slice A0_13 l0_13.length c0_13) := (blk_cell BK233.out 13).trans rfl
             have hcz71_14 : wr.cell? ⟨gb233, 14, none⟩ = some (.slice A0_14 l0_14.length c0_14) := (blk_cell BK233.out 14).trans rfl
             have hfz71_0 := blk_frozen BK233.out 0
             have hfz71_1 := blk_frozen BK233.out 1
             have hfz71_2 := blk_frozen BK233.out 2
             have hfz71_3 := blk_frozen BK233.out 3
             have hfz71_4 := blk_frozen BK233.out 4
             have hfz71_5 := blk_frozen BK233.out 5
             have hfz71_6 := blk_frozen BK233.out 6
             have hfz71_7 := blk_frozen BK233.out 7
             have hfz71_8 := blk_frozen BK233.out 8
             have hfz71_9 := blk_frozen BK233.out 9
             have hfz71_10 := blk_frozen BK233.out 10
             have hfz71_11 := blk_frozen BK233.out 11
             have hfz71_12 := blk_frozen BK233.out 12
             have hfz71_13 := blk_frozen BK233.out 13
             have hfz71_14 := blk_frozen BK233.out 14
             have p236 : 0 ≤ (x5_3 : Int) := of_decide_eq_true (by first | (with_reducible assumption) | assumption)
             have q236 : x5_3 < (l0_13.length : Int) := of_decide_eq_true (by first | (with_reducible assumption) | assumption)
             obtain ⟨ad236, e236, hx236_0, hx236_1⟩ := at_T56 HR0_13.out x5_3 p236 q236
             cases e236
             replace hx236_0 := (HB.out.cell (World.block_lt_of_cell? w _ hx236_0)).trans hx236_0
             replace hx236_1 := (HB.out.cell (World.block_lt_of_cell? w _ hx236_1)).trans hx236_1
             replace p236 := eq_true p236
             replace q236 := eq_true q236
             have hcz72_0 : wr.cell? ⟨gb234, 0, none⟩ = some (.int .i64 a1_0) := (blk_cell BK234.out 0).trans rfl
             have hcz72_1 : wr.cell? ⟨gb234, 1, none⟩ = some (.int .i64 a1_1) := (blk_cell BK234.out 1).trans rfl
             have hcz72_2 : wr.cell? ⟨gb234, 2, none⟩ = some (.int .u32 a1_2) := (blk_cell BK234.out 2).trans rfl
             have hcz72_3 : wr.cell? ⟨gb234, 3, none⟩ = some (.int .u32 a1_3) := (blk_cell BK234.out 3).trans rfl
             have hcz72_4 : wr.cell? ⟨gb234, 4, none⟩ = some (.int .i64 a1_4) := (blk_cell BK234.out 4).trans rfl
             have hcz72_5 : wr.cell? ⟨gb234, 5, none⟩ = some (.int .i64 a1_5) := (blk_cell BK234.out 5).trans rfl
             have hcz72_6 : wr.cell? ⟨gb234, 6, none⟩ = some (.int .i64 a1_6) := (blk_cell BK234.out 6).trans rfl
             have hcz72_7 : wr.cell? ⟨gb234, 7, none⟩ = some (.int .i64 a1_7) := (blk_cell BK234.out 7).trans rfl
             have hcz72_8 : wr.cell? ⟨gb234, 8, none⟩ = some (.int .i64 a1_8) := (blk_cell BK234.out 8).trans rfl
             have hcz72_9 : wr.cell? ⟨gb234, 9, none⟩ = some (.bool a1_9) := (blk_cell BK234.out 9).trans rfl
             have hcz72_10 : wr.cell? ⟨gb234, 10, none⟩ = some (.bool a1_10) := (blk_cell BK234.out 10).trans rfl
             have hcz72_11 : wr.cell? ⟨gb234, 11, none⟩ = some (.int .u32 a1_11) := (blk_cell BK234.out 11).trans rfl
             have hcz72_12 : wr.cell? ⟨gb234, 12, none⟩ = some (.int .u32 a1_12) := (blk_cell BK234.out 12).trans rfl
             have hcz72_13 : wr.cell? ⟨gb234, 13, none⟩ = some (.slice A1_13 l1_13.length c1_13) := (blk_cell BK234.out 13).trans rfl
             have hcz72_14 : wr.cell? ⟨gb234, 14, none⟩ = some (.slice A1_14 l1_14.length c1_14) := (blk_cell BK234.out 14).trans rfl
             have hfz72_0 := blk_frozen BK234.out 0
             have hfz72_1 := blk_frozen BK234.out 1
             have hfz72_2 := blk_frozen BK234.out 2
             have hfz72_3 := blk_frozen BK234.out 3
             have hfz72_4 := blk_frozen BK234.out 4
             have hfz72_5 := blk_frozen BK234.out 5
             have hfz72_6 := blk_frozen BK234.out 6
             have hfz72_7 := blk_frozen BK234.out 7
             have hfz72_8 := blk_frozen BK234.out 8
             have hfz72_9 := blk_frozen BK234.out 9
             have hfz72_10 := blk_frozen BK234.out 10
             have hfz72_11 := blk_frozen BK234.out 11
             have hfz72_12 := blk_frozen BK234.out 12
             have hfz72_13 := blk_frozen BK234.out 13
             have hfz72_14 := blk_frozen BK234.out 14
             have p237 : 0 ≤ (x5_3 : Int) := of_decide_eq_true (by first | (with_reducible assumption) | assumption)
             have q237 : x5_3 < (l1_13.length : Int) := of_decide_eq_true (by first | (with_reducible assumption) | assumption)
             obtain ⟨ad237, e237, hx237_0, hx237_1⟩ := at_T56 HR1_13.out x5_3 p237 q237
             cases e237
             replace hx237_0 := (HB.out.cell (World.block_lt_of_cell? w _ hx237_0)).trans hx237_0
             replace hx237_1 := (HB.out.cell (World.block_lt_of_cell? w _ hx237_1)).trans hx237_1
             replace p237 := eq_true p237
             replace q237 := eq_true q237
             go_wp2
             repeat (go_quiet (fail); try go_wp2)
             go_roundg k3
             case measure => have := HJ2.out; have := HJ33.out; have := HK3.out; omega
             case rel => exact ⟨(wrap64 (x5_3 + 1)), (by first | rfl | (simp; done) | (simp [*]; done)), H', ⟨by have := HJ2.out; have := HJ33.out; have := HK3.out; omega⟩, ⟨by (with_reducible repeat (first | refine blk_drewN ?_ _ | refine blk_drew ?_ | refine blk_alloc ?_ _)); exact BK233.out⟩, ⟨by (with_reducible repeat (first | refine blk_drewN ?_ _ | refine blk_drew ?_ | refine blk_alloc ?_ _)); exact BK234.out⟩, ⟨by repeat (first | (with_reducible first | exact HB.out | apply below_alloc | apply pw_below_drewN | apply below_drew1 | refine below_set ?_ GE233.out | refine below_set ?_ GE234.out) | exact HB.out)⟩⟩
           ·rw [if_neg c65] at H
            exact absurd H (by simp)
          ·rw [if_neg c64] at H
           exact absurd H (by simp)
         ·rw [if_neg c63] at H
          have c63b0 : decide (x5_3 < (l0_13.length : Int)) = false := decide_eq_false c63
          clear c63
          replace H := Option.bind_eq_some_iff.mp H
          obtain ⟨t235, A730, H⟩ := H
          replace H : (some t235) = some r := H
          have A73 := Aside0.mk A730
          clear A730
          obtain rfl := Option.some.inj H
          have hnb74 := NB233_234.out
          have hnc74 := NB234_233.out
          have hcz75_0 : wr.cell? ⟨gb233, 0, none⟩ = some (.int .i64 a0_0) := (blk_cell BK233.out 0).trans rfl
          have hcz75_1 : wr.cell? ⟨gb233, 1, none⟩ = some (.int .i64 a0_1) := (blk_cell BK233.out 1).trans rfl
          have hcz75_2 : wr.cell? ⟨gb233, 2, none⟩ = some (.int .u32 a0_2) := (blk_cell BK233.out 2).trans rfl
          have hcz75_3 : wr.cell? ⟨gb233, 3, none⟩ = some (.int .u32 a0_3) := (blk_cell BK233.out 3).trans rfl
          have hcz75_4 : wr.cell? ⟨gb233, 4, none⟩ = some (.int .i64 a0_4) := (blk_cell BK233.out 4).trans rfl
          have hcz75_5 : wr.cell? ⟨gb233, 5, none⟩ = some (.int .i64 a0_5) := (blk_cell BK233.out 5).trans rfl
          have hcz75_6 : wr.cell? ⟨gb233, 6, none⟩ = some (.int .i64 a0_6) := (blk_cell BK233.out 6).trans rfl
          have hcz75_7 : wr.cell? ⟨gb233, 7, none⟩ = some (.int .i64 a0_7) := (blk_cell BK233.out 7).trans rfl
          have hcz75_8 : wr.cell? ⟨gb233, 8, none⟩ = some (.int .i64 a0_8) := (blk_cell BK233.out 8).trans rfl
          have hcz75_9 : wr.cell? ⟨gb233, 9, none⟩ = some (.bool a0_9) := (blk_cell BK233.out 9).trans rfl
          have hcz75_10 : wr.cell? ⟨gb233, 10, none⟩ = some (.bool a0_10) := (blk_cell BK233.out 10).trans rfl
          have hcz75_11 : wr.cell? ⟨gb233, 11, none⟩ = some (.int .u32 a0_11) := (blk_cell BK233.out 11).trans rfl
          have hcz75_12 : wr.cell? ⟨gb233, 12, none⟩ = some (.int .u32 a0_12) := (blk_cell BK233.out 12).trans rfl
          have hcz75_13 : wr.cell? ⟨gb233, 13, none⟩ = some (.slice A0_13 l0_13.length c0_13) := (blk_cell BK233.out 13).trans rfl
          have hcz75_14 : wr.cell? ⟨gb233, 14, none⟩ = some (.slice A0_14 l0_14.length c0_14) := (blk_cell BK233.out 14).trans rfl
          have hfz75_0 := blk_frozen BK233.out 0
          have hfz75_1 := blk_frozen BK233.out 1
          have hfz75_2 := blk_frozen BK233.out 2
          have hfz75_3 := blk_frozen BK233.out 3
          have hfz75_4 := blk_frozen BK233.out 4
          have hfz75_5 := blk_frozen BK233.out 5
          have hfz75_6 := blk_frozen BK233.out 6
          have hfz75_7 := blk_frozen BK233.out 7
          have hfz75_8 := blk_frozen BK233.out 8
          have hfz75_9 := blk_frozen BK233.out 9
          have hfz75_10 := blk_frozen BK233.out 10
          have hfz75_11 := blk_frozen BK233.out 11
          have hfz75_12 := blk_frozen BK233.out 12
          have hfz75_13 := blk_frozen BK233.out 13
          have hfz75_14 := blk_frozen BK233.out 14
          have hcz76_0 : wr.cell? ⟨gb234, 0, none⟩ = some (.int .i64 a1_0) := (blk_cell BK234.out 0).trans rfl
          have hcz76_1 : wr.cell? ⟨gb234, 1, none⟩ = some (.int .i64 a1_1) := (blk_cell BK234.out 1).trans rfl
          have hcz76_2 : wr.cell? ⟨gb234, 2, none⟩ = some (.int .u32 a1_2) := (blk_cell BK234.out 2).trans rfl
          have hcz76_3 : wr.cell? ⟨gb234, 3, none⟩ = some (.int .u32 a1_3) := (blk_cell BK234.out 3).trans rfl
          have hcz76_4 : wr.cell? ⟨gb234, 4, none⟩ = some (.int .i64 a1_4) := (blk_cell BK234.out 4).trans rfl
          have hcz76_5 : wr.cell? ⟨gb234, 5, none⟩ = some (.int .i64 a1_5) := (blk_cell BK234.out 5).trans rfl
          have hcz76_6 : wr.cell? ⟨gb234, 6, none⟩ = some (.int .i64 a1_6) := (blk_cell BK234.out 6).trans rfl
          have hcz76_7 : wr.cell? ⟨gb234, 7, none⟩ = some (.int .i64 a1_7) := (blk_cell BK234.out 7).trans rfl
          have hcz76_8 : wr.cell? ⟨gb234, 8, none⟩ = some (.int .i64 a1_8) := (blk_cell BK234.out 8).trans rfl
          have hcz76_9 : wr.cell? ⟨gb234, 9, none⟩ = some (.bool a1_9) := (blk_cell BK234.out 9).trans rfl
          have hcz76_10 : wr.cell? ⟨gb234, 10, none⟩ = some (.bool a1_10) := (blk_cell BK234.out 10).trans rfl
          have hcz76_11 : wr.cell? ⟨gb234, 11, none⟩ = some (.int .u32 a1_11) := (blk_cell BK234.out 11).trans rfl
          have hcz76_12 : wr.cell? ⟨gb234, 12, none⟩ = some (.int .u32 a1_12) := (blk_cell BK234.out 12).trans rfl
          have hcz76_13 : wr.cell? ⟨gb234, 13, none⟩ = some (.slice A1_13 l1_13.length c1_13) := (blk_cell BK234.out 13).trans rfl
          have hcz76_14 : wr.cell? ⟨gb234, 14, none⟩ = some (.slice A1_14 l1_14.length c1_14) := (blk_cell BK234.out 14).trans rfl
          have hfz76_0 := blk_frozen BK234.out 0
          have hfz76_1 := blk_frozen BK234.out 1
          have hfz76_2 := blk_frozen BK234.out 2
          have hfz76_3 := blk_frozen BK234.out 3
          have hfz76_4 := blk_frozen BK234.out 4
          have hfz76_5 := blk_frozen BK234.out 5
          have hfz76_6 := blk_frozen BK234.out 6
          have hfz76_7 := blk_frozen BK234.out 7
          have hfz76_8 := blk_frozen BK234.out 8
          have hfz76_9 := blk_frozen BK234.out 9
          have hfz76_10 := blk_frozen BK234.out 10
          have hfz76_11 := blk_frozen BK234.out 11
          have hfz76_12 := blk_frozen BK234.out 12
          have hfz76_13 := blk_frozen BK234.out 13
          have hfz76_14 := blk_frozen BK234.out 14
          go_wp2_with (first | (go_at_call 21; (with_reducible refine (tidewayref02_Same.calls _ _ l0_14 _ _ l1_14 t235 _ ?side1 ?side2 ?side3 ?side4 A73.out).mono ?_); (case side1 => repeat (first | exact (Kd.C_below HR0_14.out HB.out) | exact HR0_14.out | (with_reducible refine Kd.C_alloc ?_ _) | (with_reducible refine Kd.C_drewN ?_ _) | (with_reducible refine Kd.C_drew ?_))); (case side2 => exact HC0_14.out); (case side3 => repeat (first | exact (Kd.C_below HR1_14.out HB.out) | exact HR1_14.out | (with_reducible refine Kd.C_alloc ?_ _) | (with_reducible refine Kd.C_drewN ?_ _) | (with_reducible refine Kd.C_drew ?_))); (case side4 => exact HC1_14.out); rintro e w' ⟨rfl, ⟨nd, rfl⟩⟩; (try first | exact ⟨rfl, _, World.drewN_drewN _ _ _⟩ | exact ⟨rfl, _, Eq.trans (World.drewN_drewN _ _ _) (congrArg (World.drewN _) (Nat.add_assoc _ _ _))⟩)))
          repeat (go_quiet (first | (go_at_call 21; (with_reducible refine (tidewayref02_Same.calls _ _ l0_14 _ _ l1_14 t235 _ ?side1 ?side2 ?side3 ?side4 A73.out).mono ?_); (case side1 => repeat (first | exact (Kd.C_below HR0_14.out HB.out) | exact HR0_14.out | (with_reducible refine Kd.C_alloc ?_ _) | (with_reducible refine Kd.C_drewN ?_ _) | (with_reducible refine Kd.C_drew ?_))); (case side2 => exact HC0_14.out); (case side3 => repeat (first | exact (Kd.C_below HR1_14.out HB.out) | exact HR1_14.out | (with_reducible refine Kd.C_alloc ?_ _) | (with_reducible refine Kd.C_drewN ?_ _) | (with_reducible refine Kd.C_drew ?_))); (case side4 => exact HC1_14.out); rintro e w' ⟨rfl, ⟨nd, rfl⟩⟩; (try first | exact ⟨rfl, _, World.drewN_drewN _ _ _⟩ | exact ⟨rfl, _, Eq.trans (World.drewN_drewN _ _ _) (congrArg (World.drewN _) (Nat.add_assoc _ _ _))⟩))); try go_wp2_with (first | (go_at_call 21; (with_reducible refine (tidewayref02_Same.calls _ _ l0_14 _ _ l1_14 t235 _ ?side1 ?side2 ?side3 ?side4 A73.out).mono ?_); (case side1 => repeat (first | exact (Kd.C_below HR0_14.out HB.out) | exact HR0_14.out | (with_reducible refine Kd.C_alloc ?_ _) | (with_reducible refine Kd.C_drewN ?_ _) | (with_reducible refine Kd.C_drew ?_))); (case side2 => exact HC0_14.out); (case side3 => repeat (first | exact (Kd.C_below HR1_14.out HB.out) | exact HR1_14.out | (with_reducible refine Kd.C_alloc ?_ _) | (with_reducible refine Kd.C_drewN ?_ _) | (with_reducible refine Kd.C_drew ?_))); (case side4 => exact HC1_14.out); rintro e w' ⟨rfl, ⟨nd, rfl⟩⟩; (try first | exact ⟨rfl, _, World.drewN_drewN _ _ _⟩ | exact ⟨rfl, _, Eq.trans (World.drewN_drewN _ _ _) (congrArg (World.drewN _) (Nat.add_assoc _ _ _))⟩))))
          go_ret
          exact ⟨by first | rfl | (simp [errW_none, errW_some] <;> rfl) | (simp [*, errW_none, errW_some] <;> rfl), by repeat (first | (with_reducible first | exact HB.out | apply below_alloc | apply pw_below_drewN | apply below_drew1 | refine below_set ?_ GE233.out | refine below_set ?_ GE234.out) | exact HB.out)⟩

end Go.Proofs.Ytenpekakmkemeaa.PA

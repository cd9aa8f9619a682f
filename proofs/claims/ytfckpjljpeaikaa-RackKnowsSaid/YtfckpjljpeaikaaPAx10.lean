-- Written for the seat Ytfckpjljpeaikaa by this session's program hyb.py (the print's functions, with externals typed by hand).
import Derived.Lib.Hide
import Derived.Test.YtfckpjljpeaikaaPAx0
import Derived.Test.YtfckpjljpeaikaaPAx5
import Derived.Test.YtfckpjljpeaikaaPAx6
import Derived.Test.YtfckpjljpeaikaaPAx8
import Derived.Test.YtfckpjljpeaikaaPAx9
namespace Go.Proofs.Ytfckpjljpeaikaa.PA
open Go.RowKit Go.Proofs.YtfckpjljpeaikaaW.PrintWords Go.Proofs.YtfckpjljpeaikaaW.PrintLast Go.Proofs.YtfckpjljpeaikaaW.PrintMore
attribute [local go_sem] max2_int min2_int max_two min_two max_three min_three max_four min_four   -- for this text's walks alone
set_option linter.unusedVariables false
set_option linter.unusedSimpArgs false

/-! ### tidewaylaw13_heads: function 14 (typed by hand) -/
theorem rh_one (W : World) (x : S25) : Kd.C k25 (W.alloc (.cells #[.int .i64 x.f0, .int .i64 x.f1, .bool x.f2, .int .i64 x.f3, .int .i64 x.f4, .bool x.f5, .bool x.f6, .bool x.f7, .int .i64 x.f8, .int .i64 x.f9, .int .i64 x.f10, .bool x.f11] 25)) (some ⟨W.heap.size, 0, none⟩) [x].length [x] := by
 have hb := blk_new W (.cells #[.int .i64 x.f0, .int .i64 x.f1, .bool x.f2, .int .i64 x.f3, .int .i64 x.f4, .bool x.f5, .bool x.f6, .bool x.f7, .int .i64 x.f8, .int .i64 x.f9, .int .i64 x.f10, .bool x.f11] 25)
 refine ⟨rfl, by simp, fun _ => ⟨_, rfl, fun j p hj => ⟨_, rfl, k25_mk _ p, fun i u hu => ?_⟩⟩⟩
 match j, hj with
 | 0, hj =>
  obtain rfl : x = p := by simpa using hj
  have h9 : i < 12 := by have := List.getElem?_eq_some_iff.1 hu; obtain ⟨h, _⟩ := this; simpa using h
  have h8 : (⟨W.heap.size, 0, none⟩ : Addr).add (0 * (k25).sz + i) = ⟨W.heap.size, i, none⟩ := by rw [Nat.zero_mul, Nat.zero_add]; unfold Addr.add; split <;> simp_all
  rw [h8]
  exact (blk_cell hb i).trans (by simpa using hu)
def tidewaylaw13_heads.f : Option Bool := some true
set_option maxRecDepth 100000 in
set_option maxHeartbeats 8000000 in
theorem tidewaylaw13_heads.calls (r : Bool) (w : World) (h : tidewaylaw13_heads.f = some r) : Calls Try.prog 14 #[] w fun e w' => e = .returned (.bool r) ∧ Below w.heap.size w w' := by
 obtain rfl := Option.some.inj h
 have HM1 := Lib.hid (show rack_Mark.f 100 20 50 false 0 1 0 0 [(⟨0, 10, false, 90, 1, false, false, false, 0, 0, 0, false⟩ : S25)] 160 0 = some ([(⟨0, 10, false, 90, 1, false, true, false, 0, 0, 0, false⟩ : S25)], 0, 0) from by kernel_rfl)
 have HM2 := Lib.hid (show rack_Mark.f 100 20 50 false 0 1 0 0 [(⟨0, 10, false, 90, 1, false, false, false, 0, 0, 0, false⟩ : S25)] 160 30 = some ([(⟨0, 10, false, 90, 1, false, false, false, 0, 0, 0, false⟩ : S25)], 10, 0) from by kernel_rfl)
 have HN := Lib.hid (show rack_New.f = some (0, 0, 0, false, 0, 1, 0, 0) from rfl)
 have HG1 := Lib.hid (show rack_Given.f 9 0 0 0 false 0 1 0 0 0 5 false 3 1 false false false 0 0 0 false 9 0 = some (3, 5, 6, false, 5, 1, 0, 0, 0) from by kernel_rfl)
 have HG2 := Lib.hid (show rack_Given.f 9 0 0 0 false 0 0 0 0 0 0 false 0 0 false false false 0 0 0 false 0 0 = some (0, 0, 0, false, 0, 0, 0, 0, 230) from by kernel_rfl)
 have HP := Lib.hid (show rack_Probe.f 9 10 100 false = some 20 from by kernel_rfl)
 clear h
 go_enter Try.func14, Try.ntmps14
 have hw0 : Below w.heap.size w ((w.alloc (.cells #[.int .i64 100, .int .i64 20, .int .i64 50, .bool false, .int .i64 0, .int .i64 1, .int .i64 0, .int .i64 0] 23)).alloc (.cells #[.int .i64 0, .int .i64 10, .bool false, .int .i64 90, .int .i64 1, .bool false, .bool false, .bool false, .int .i64 0, .int .i64 0, .int .i64 0, .bool false] 25)) := below_alloc (below_alloc (Below.refl _ _) _) _
 have hrow := rh_one (w.alloc (.cells #[.int .i64 100, .int .i64 20, .int .i64 50, .bool false, .int .i64 0, .int .i64 1, .int .i64 0, .int .i64 0] 23)) (⟨0, 10, false, 90, 1, false, false, false, 0, 0, 0, false⟩ : S25)
 rw [World.size_alloc] at hrow
 have hkb : ((w.alloc (.cells #[.int .i64 100, .int .i64 20, .int .i64 50, .bool false, .int .i64 0, .int .i64 1, .int .i64 0, .int .i64 0] 23)).alloc (.cells #[.int .i64 0, .int .i64 10, .bool false, .int .i64 90, .int .i64 1, .bool false, .bool false, .bool false, .int .i64 0, .int .i64 0, .int .i64 0, .bool false] 25)).heap[w.heap.size]? = some (.cells #[.int .i64 100, .int .i64 20, .int .i64 50, .bool false, .int .i64 0, .int .i64 1, .int .i64 0, .int .i64 0] 23 (0, 0)) := blk_alloc (blk_new w _) _
 have HROW := Lib.hid hrow; have HKB := Lib.hid hkb; have HW0 := Lib.hid hw0
 clear hrow hkb hw0
 go_wp2_with fail
 refine (rack_Mark.calls 100 20 50 false 0 1 0 0 _ _ [(⟨0, 10, false, 90, 1, false, false, false, 0, 0, 0, false⟩ : S25)] 160 0 [(⟨0, 10, false, 90, 1, false, true, false, 0, 0, 0, false⟩ : S25)] 0 0 _ HROW.out (Nat.le_refl _) HM1.out).mono ?_
 rintro e W1 ⟨v1, rfl, hR, hb⟩
 obtain ⟨A1, c1, rfl, hle1, hC⟩ := Kd.R_reads hR
 have HC1 := Lib.hid hC; have HB1 := Lib.hid (below_step HW0.out hb); have HROW1 := Lib.hid (Kd.C_below HROW.out hb); have HKB1 := Lib.hid (blk_below HKB.out hb)
 clear hR hb hC hle1
 have k0 : W1.cell? ⟨w.heap.size, 0, none⟩ = some (.int .i64 100) := (blk_cell HKB1.out 0).trans rfl
 have k1 : W1.cell? ⟨w.heap.size, 1, none⟩ = some (.int .i64 20) := (blk_cell HKB1.out 1).trans rfl
 have k2 : W1.cell? ⟨w.heap.size, 2, none⟩ = some (.int .i64 50) := (blk_cell HKB1.out 2).trans rfl
 have k3 : W1.cell? ⟨w.heap.size, 3, none⟩ = some (.bool false) := (blk_cell HKB1.out 3).trans rfl
 have k4 : W1.cell? ⟨w.heap.size, 4, none⟩ = some (.int .i64 0) := (blk_cell HKB1.out 4).trans rfl
 have k5 : W1.cell? ⟨w.heap.size, 5, none⟩ = some (.int .i64 1) := (blk_cell HKB1.out 5).trans rfl
 have k6 : W1.cell? ⟨w.heap.size, 6, none⟩ = some (.int .i64 0) := (blk_cell HKB1.out 6).trans rfl
 have k7 : W1.cell? ⟨w.heap.size, 7, none⟩ = some (.int .i64 0) := (blk_cell HKB1.out 7).trans rfl
 go_wp2_with fail
 refine (rack_Mark.calls 100 20 50 false 0 1 0 0 _ _ [(⟨0, 10, false, 90, 1, false, false, false, 0, 0, 0, false⟩ : S25)] 160 30 [(⟨0, 10, false, 90, 1, false, false, false, 0, 0, 0, false⟩ : S25)] 10 0 _ HROW1.out (Nat.le_refl _) HM2.out).mono ?_
 rintro e W2 ⟨v2, rfl, hR, hb⟩
 obtain ⟨A2, c2, rfl, hle2, hC⟩ := Kd.R_reads hR
 have HC2 := Lib.hid hC; have HB2 := Lib.hid (below_step HB1.out hb); have HC12 := Lib.hid (Kd.C_below HC1.out hb)
 clear hR hb hC hle2 k0 k1 k2 k3 k4 k5 k6 k7
 go_wp2_with fail
 refine (rack_New.calls _ _ _ _ _ _ _ _ _ HN.out).mono ?_
 rintro e W3 ⟨rfl, hb⟩
 have HB3 := Lib.hid (below_step HB2.out hb); have HC13 := Lib.hid (Kd.C_below HC12.out hb); have HC23 := Lib.hid (Kd.C_below HC2.out hb)
 clear hb
 go_wp2_with fail
 refine (rack_Given.calls 9 0 0 0 false 0 1 0 0 0 5 false 3 1 false false false 0 0 0 false 9 0 3 5 6 false 5 1 0 0 0 _ HG1.out).mono ?_
 rintro e W4 ⟨rfl, hb⟩
 have HB4 := Lib.hid (below_step HB3.out hb); have HC14 := Lib.hid (Kd.C_below HC13.out hb); have HC24 := Lib.hid (Kd.C_below HC23.out hb)
 have HG4 := Lib.hid (blk_new W4 (.cells #[.int .i64 3, .int .i64 5, .int .i64 6, .bool false, .int .i64 5, .int .i64 1, .int .i64 0, .int .i64 0] 23)); have hb4 : Below W4.heap.size W4 (W4.alloc (.cells #[.int .i64 3, .int .i64 5, .int .i64 6, .bool false, .int .i64 5, .int .i64 1, .int .i64 0, .int .i64 0] 23)) := below_alloc (Below.refl _ _) _
 have HBN := Lib.hid hb4
 clear hb hb4
 go_wp2_with fail
 refine (rack_Given.calls 9 0 0 0 false 0 0 0 0 0 0 false 0 0 false false false 0 0 0 false 0 0 0 0 0 false 0 0 0 0 230 _ HG2.out).mono ?_
 rintro e W5 ⟨rfl, hb⟩
 have HB5 := Lib.hid (below_step (below_alloc HB4.out _) hb); have hc1 := Kd.C_alloc (Kd.C_below (Kd.C_below HC14.out HBN.out) hb) (.cells #[.int .i64 0, .int .i64 0, .int .i64 0, .bool false, .int .i64 0, .int .i64 0, .int .i64 0, .int .i64 0] 23); have hc2 := Kd.C_alloc (Kd.C_below (Kd.C_below HC24.out HBN.out) hb) (.cells #[.int .i64 0, .int .i64 0, .int .i64 0, .bool false, .int .i64 0, .int .i64 0, .int .i64 0, .int .i64 0] 23); have hg5 := blk_alloc (blk_below HG4.out hb) (.cells #[.int .i64 0, .int .i64 0, .int .i64 0, .bool false, .int .i64 0, .int .i64 0, .int .i64 0, .int .i64 0] 23)
 clear hb
 obtain ⟨ad1, e1, m0, m1, m2, m3, m4, m5, m6, m7, m8, m9, m10, m11⟩ := at_T25 hc1 (0 : Int) (by omega) (by decide)
 obtain ⟨ad2, e2, n0, n1, n2, n3, n4, n5, n6, n7, n8, n9, n10, n11⟩ := at_T25 hc2 (0 : Int) (by omega) (by decide)
 obtain rfl := e1
 obtain rfl := e2
 simp only [Int.toNat_zero, Nat.zero_mul, Addr.add_zero'] at m6 n6
 have g0 := (blk_cell hg5 0).trans rfl
 have g2 := (blk_cell hg5 2).trans rfl
 have g4 := (blk_cell hg5 4).trans rfl
 clear hc1 hc2 hg5 m0 m1 m2 m3 m4 m5 m7 m8 m9 m10 m11 n0 n1 n2 n3 n4 n5 n7 n8 n9 n10 n11
 go_wp2_with fail
 refine (rack_Probe.calls 9 10 100 false 20 _ HP.out).mono ?_
 rintro e W6 ⟨rfl, hb⟩
 have HB6 := Lib.hid (below_step (below_alloc HB5.out _) hb)
 clear hb
 go_wp2
 go_ret
 exact ⟨rfl, HB6.out⟩


end Go.Proofs.Ytfckpjljpeaikaa.PA

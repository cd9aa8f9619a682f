-- Written for the seat Ytfckpjljpeaikaa by this session's program hyb.py (the print's functions, with externals typed by hand).
import Derived.Test.YtfckpjljpeaikaaPAx0
import Derived.Test.YtfckpjljpeaikaaPAx11
namespace Go.Proofs.Ytfckpjljpeaikaa.PA
open Go.RowKit Go.Proofs.YtfckpjljpeaikaaW.PrintWords Go.Proofs.YtfckpjljpeaikaaW.PrintLast Go.Proofs.YtfckpjljpeaikaaW.PrintMore
attribute [local go_sem] max2_int min2_int max_two min_two max_three min_three max_four min_four   -- for this text's walks alone
set_option linter.unusedVariables false
set_option linter.unusedSimpArgs false

/-! ### tidewayref13_Mark: function 17 -/
mutual
def tidewayref13_Mark.j0 : Nat → List (S25) → Int → Int → Bool → Int → Int → Int → Bool → Int → Int → Int → Int → Option ((List (S25)) × Int × Int)
  | 0, _, _, _, _, _, _, _, _, _, _, _, _ => none
  | k + 1, x1, x2, x3, x26, x152000, x152001, x152002, x152003, x152004, x152005, x152006, x152007 => if x26 = true then (some (([] : List (S25)), 0, 2)) else (tidewayref13_Mark.l0 k x1 x2 x3 0 x152000 x152001 x152002 x152003 x152004 x152005 x152006 x152007)
def tidewayref13_Mark.l0 : Nat → List (S25) → Int → Int → Int → Int → Int → Int → Bool → Int → Int → Int → Int → Option ((List (S25)) × Int × Int)
  | 0, _, _, _, _, _, _, _, _, _, _, _, _ => none
  | k + 1, x1, x2, x3, x11, x152000, x152001, x152002, x152003, x152004, x152005, x152006, x152007 => if x11 < (x1.length : Int) then (if 0 ≤ x11 then ((tidewayref13_rec.f ((rd_T25 x1 x11).f0) ((rd_T25 x1 x11).f1) ((rd_T25 x1 x11).f2) ((rd_T25 x1 x11).f3) ((rd_T25 x1 x11).f4) ((rd_T25 x1 x11).f5) ((rd_T25 x1 x11).f6) ((rd_T25 x1 x11).f7) ((rd_T25 x1 x11).f8) ((rd_T25 x1 x11).f9) ((rd_T25 x1 x11).f10) ((rd_T25 x1 x11).f11) x2).bind fun t156 => (if t156 = true then (tidewayref13_Mark.l0 k x1 x2 x3 (wrap64 (x11 + 1)) x152000 x152001 x152002 x152003 x152004 x152005 x152006 x152007) else (some (([] : List (S25)), 0, 2)))) else (none)) else ((some (([] : List (S25)) : List (S25))).bind fun y157 => (if y157.length + x1.length < 1759218604441 then (tidewayref13_Mark.l1 k x2 x3 (y157 ++ x1) 0 0 x152000 x152001 x152002 x152003 x152004 x152005 x152006 x152007) else (none)))
def tidewayref13_Mark.l1 : Nat → Int → Int → List (S25) → Int → Int → Int → Int → Int → Bool → Int → Int → Int → Int → Option ((List (S25)) × Int × Int)
  | 0, _, _, _, _, _, _, _, _, _, _, _, _, _ => none
  | k + 1, x2, x3, x12, x13, x14, x152000, x152001, x152002, x152003, x152004, x152005, x152006, x152007 => if x14 < (x12.length : Int) then (if 0 ≤ x14 then (if (rd_T25 x12 x14).f5 = true then (tidewayref13_Mark.j3 k x2 x3 x12 x13 x14 true x152000 x152001 x152002 x152003 x152004 x152005 x152006 x152007) else (if (rd_T25 x12 x14).f6 = true then (if ((rd_T25 x12 x14).f7 = true) then ((tidewayref13_Ahead.f x152000 x152001 x152002 x152003 x152004 x152005 x152006 x152007 ((rd_T25 x12 x14).f0) ((rd_T25 x12 x14).f1) ((rd_T25 x12 x14).f2) ((rd_T25 x12 x14).f3) ((rd_T25 x12 x14).f4) ((rd_T25 x12 x14).f5) ((rd_T25 x12 x14).f6) ((rd_T25 x12 x14).f7) ((rd_T25 x12 x14).f8) ((rd_T25 x12 x14).f9) ((rd_T25 x12 x14).f10) ((rd_T25 x12 x14).f11)).bind fun t167 => (tidewayref13_Mark.j3 k x2 x3 x12 x13 x14 (!t167) x152000 x152001 x152002 x152003 x152004 x152005 x152006 x152007)) else (tidewayref13_Mark.j3 k x2 x3 x12 x13 x14 true x152000 x152001 x152002 x152003 x152004 x152005 x152006 x152007)) else ((tidewayref13_Ahead.f x152000 x152001 x152002 x152003 x152004 x152005 x152006 x152007 ((rd_T25 x12 x14).f0) ((rd_T25 x12 x14).f1) ((rd_T25 x12 x14).f2) ((rd_T25 x12 x14).f3) ((rd_T25 x12 x14).f4) ((rd_T25 x12 x14).f5) ((rd_T25 x12 x14).f6) ((rd_T25 x12 x14).f7) ((rd_T25 x12 x14).f8) ((rd_T25 x12 x14).f9) ((rd_T25 x12 x14).f10) ((rd_T25 x12 x14).f11)).bind fun t169 => (tidewayref13_Mark.j3 k x2 x3 x12 x13 x14 (!t169) x152000 x152001 x152002 x152003 x152004 x152005 x152006 x152007)))) else (none)) else (some (x12, x13, 0))
def tidewayref13_Mark.j3 : Nat → Int → Int → List (S25) → Int → Int → Bool → Int → Int → Int → Bool → Int → Int → Int → Int → Option ((List (S25)) × Int × Int)
  | 0, _, _, _, _, _, _, _, _, _, _, _, _, _, _ => none
  | k + 1, x2, x3, x12, x13, x14, x77, x152000, x152001, x152002, x152003, x152004, x152005, x152006, x152007 => if x77 = true then (tidewayref13_Mark.l1 k x2 x3 x12 x13 (wrap64 (x14 + 1)) x152000 x152001 x152002 x152003 x152004 x152005 x152006 x152007) else (if 0 ≤ x14 then (if x14 < (x12.length : Int) then (if (wrap64 ((wrap64 (((rd_T25 x12 x14).f3) + x152002)) + x3)) ≤ x2 then ((some (x12.set (x14 : Int).toNat (⟨(rd_T25 x12 x14).f0, (rd_T25 x12 x14).f1, (rd_T25 x12 x14).f2, (rd_T25 x12 x14).f3, (rd_T25 x12 x14).f4, (rd_T25 x12 x14).f5, true, (rd_T25 x12 x14).f7, (rd_T25 x12 x14).f8, (rd_T25 x12 x14).f9, (rd_T25 x12 x14).f10, (rd_T25 x12 x14).f11⟩ : S25) : List (S25))).bind fun y171 => (tidewayref13_Mark.l1 k x2 x3 (y171.set (x14 : Int).toNat (⟨(rd_T25 y171 x14).f0, (rd_T25 y171 x14).f1, (rd_T25 y171 x14).f2, (rd_T25 y171 x14).f3, (rd_T25 y171 x14).f4, (rd_T25 y171 x14).f5, (rd_T25 y171 x14).f6, false, (rd_T25 y171 x14).f8, (rd_T25 y171 x14).f9, (rd_T25 y171 x14).f10, (rd_T25 y171 x14).f11⟩ : S25)) x13 (wrap64 (x14 + 1)) x152000 x152001 x152002 x152003 x152004 x152005 x152006 x152007)) else (tidewayref13_Mark.l1 k x2 x3 x12 (mx x13 (wrap64 ((wrap64 ((wrap64 (((rd_T25 x12 x14).f3) + x152002)) + x3)) - x2))) (wrap64 (x14 + 1)) x152000 x152001 x152002 x152003 x152004 x152005 x152006 x152007)) else (none)) else (none))
end
def tidewayref13_Mark.f (k : Nat) (a0_0 : Int) (a0_1 : Int) (a0_2 : Int) (a0_3 : Bool) (a0_4 : Int) (a0_5 : Int) (a0_6 : Int) (a0_7 : Int) (l1 : List (S25)) (a2 : Int) (a3 : Int) : Option ((List (S25)) × Int × Int) := (tidewayref13_Check.f k a0_0 a0_1 a0_2 a0_3 a0_4 a0_5 a0_6 a0_7).bind fun t152 => (if t152 = 0 then ((tidewayref13_time.f a2).bind fun t153 => (if t153 = true then ((tidewayref13_time.f a3).bind fun t154 => (tidewayref13_Mark.j0 k l1 a2 a3 (!t154) a0_0 a0_1 a0_2 a0_3 a0_4 a0_5 a0_6 a0_7)) else (tidewayref13_Mark.j0 k l1 a2 a3 true a0_0 a0_1 a0_2 a0_3 a0_4 a0_5 a0_6 a0_7))) else (some (([] : List (S25)), 0, 230)))
theorem tidewayref13_Mark.mono_l : ∀ k, (∀ y0 y1 y2 y3 y4 y5 y6 y7 y8 y9 y10 y11, LeO (tidewayref13_Mark.j0 k y0 y1 y2 y3 y4 y5 y6 y7 y8 y9 y10 y11) (tidewayref13_Mark.j0 (k + 1) y0 y1 y2 y3 y4 y5 y6 y7 y8 y9 y10 y11)) ∧ (∀ y0 y1 y2 y3 y4 y5 y6 y7 y8 y9 y10 y11, LeO (tidewayref13_Mark.l0 k y0 y1 y2 y3 y4 y5 y6 y7 y8 y9 y10 y11) (tidewayref13_Mark.l0 (k + 1) y0 y1 y2 y3 y4 y5 y6 y7 y8 y9 y10 y11)) ∧ (∀ y0 y1 y2 y3 y4 y5 y6 y7 y8 y9 y10 y11 y12, LeO (tidewayref13_Mark.l1 k y0 y1 y2 y3 y4 y5 y6 y7 y8 y9 y10 y11 y12) (tidewayref13_Mark.l1 (k + 1) y0 y1 y2 y3 y4 y5 y6 y7 y8 y9 y10 y11 y12)) ∧ (∀ y0 y1 y2 y3 y4 y5 y6 y7 y8 y9 y10 y11 y12 y13, LeO (tidewayref13_Mark.j3 k y0 y1 y2 y3 y4 y5 y6 y7 y8 y9 y10 y11 y12 y13) (tidewayref13_Mark.j3 (k + 1) y0 y1 y2 y3 y4 y5 y6 y7 y8 y9 y10 y11 y12 y13))
  | 0 => ⟨fun _ _ _ _ _ _ _ _ _ _ _ _ r h => by simp [tidewayref13_Mark.j0] at h, fun _ _ _ _ _ _ _ _ _ _ _ _ r h => by simp [tidewayref13_Mark.l0] at h, fun _ _ _ _ _ _ _ _ _ _ _ _ _ r h => by simp [tidewayref13_Mark.l1] at h, fun _ _ _ _ _ _ _ _ _ _ _ _ _ _ r h => by simp [tidewayref13_Mark.j3] at h⟩
  | k + 1 => by
    obtain ⟨ih0, ih1, ih2, ih3⟩ := tidewayref13_Mark.mono_l k
    refine ⟨?_, ?_, ?_, ?_⟩
    · intro y0 y1 y2 y3 y4 y5 y6 y7 y8 y9 y10 y11
      unfold tidewayref13_Mark.j0
      repeat' first
      | (with_reducible exact ih0 _ _ _ _ _ _ _ _ _ _ _ _)
      | (with_reducible exact ih1 _ _ _ _ _ _ _ _ _ _ _ _)
      | (with_reducible exact ih2 _ _ _ _ _ _ _ _ _ _ _ _ _)
      | (with_reducible exact ih3 _ _ _ _ _ _ _ _ _ _ _ _ _ _)
      | (with_reducible exact tidewayref13_Check.mono _ _ _ _ _ _ _ _ _)
      | (with_reducible exact LeO.refl _)
      | (with_reducible exact LeO.none _)
      | (with_reducible refine LeO.ite ?_ ?_)
      | (with_reducible refine LeO.bind ?_ (fun _ => ?_))
      | exact ih0 _ _ _ _ _ _ _ _ _ _ _ _
      | exact ih1 _ _ _ _ _ _ _ _ _ _ _ _
      | exact ih2 _ _ _ _ _ _ _ _ _ _ _ _ _
      | exact ih3 _ _ _ _ _ _ _ _ _ _ _ _ _ _
      | exact tidewayref13_Check.mono _ _ _ _ _ _ _ _ _
      | exact LeO.none _
      | refine LeO.ite ?_ ?_
      | refine LeO.bind ?_ (fun _ => ?_)
    · intro y0 y1 y2 y3 y4 y5 y6 y7 y8 y9 y10 y11
      unfold tidewayref13_Mark.l0
      repeat' first
      | (with_reducible exact ih0 _ _ _ _ _ _ _ _ _ _ _ _)
      | (with_reducible exact ih1 _ _ _ _ _ _ _ _ _ _ _ _)
      | (with_reducible exact ih2 _ _ _ _ _ _ _ _ _ _ _ _ _)
      | (with_reducible exact ih3 _ _ _ _ _ _ _ _ _ _ _ _ _ _)
      | (with_reducible exact tidewayref13_Check.mono _ _ _ _ _ _ _ _ _)
      | (with_reducible exact LeO.refl _)
      | (with_reducible exact LeO.none _)
      | (with_reducible refine LeO.ite ?_ ?_)
      | (with_reducible refine LeO.bind ?_ (fun _ => ?_))
      | exact ih0 _ _ _ _ _ _ _ _ _ _ _ _
      | exact ih1 _ _ _ _ _ _ _ _ _ _ _ _
      | exact ih2 _ _ _ _ _ _ _ _ _ _ _ _ _
      | exact ih3 _ _ _ _ _ _ _ _ _ _ _ _ _ _
      | exact tidewayref13_Check.mono _ _ _ _ _ _ _ _ _
      | exact LeO.none _
      | refine LeO.ite ?_ ?_
      | refine LeO.bind ?_ (fun _ => ?_)
    · intro y0 y1 y2 y3 y4 y5 y6 y7 y8 y9 y10 y11 y12
      unfold tidewayref13_Mark.l1
      repeat' first
      | (with_reducible exact ih0 _ _ _ _ _ _ _ _ _ _ _ _)
      | (with_reducible exact ih1 _ _ _ _ _ _ _ _ _ _ _ _)
      | (with_reducible exact ih2 _ _ _ _ _ _ _ _ _ _ _ _ _)
      | (with_reducible exact ih3 _ _ _ _ _ _ _ _ _ _ _ _ _ _)
      | (with_reducible exact tidewayref13_Check.mono _ _ _ _ _ _ _ _ _)
      | (with_reducible exact LeO.refl _)
      | (with_reducible exact LeO.none _)
      | (with_reducible refine LeO.ite ?_ ?_)
      | (with_reducible refine LeO.bind ?_ (fun _ => ?_))
      | exact ih0 _ _ _ _ _ _ _ _ _ _ _ _
      | exact ih1 _ _ _ _ _ _ _ _ _ _ _ _
      | exact ih2 _ _ _ _ _ _ _ _ _ _ _ _ _
      | exact ih3 _ _ _ _ _ _ _ _ _ _ _ _ _ _
      | exact tidewayref13_Check.mono _ _ _ _ _ _ _ _ _
      | exact LeO.none _
      | refine LeO.ite ?_ ?_
      | refine LeO.bind ?_ (fun _ => ?_)
    · intro y0 y1 y2 y3 y4 y5 y6 y7 y8 y9 y10 y11 y12 y13
      unfold tidewayref13_Mark.j3
      repeat' first
      | (with_reducible exact ih0 _ _ _ _ _ _ _ _ _ _ _ _)
      | (with_reducible exact ih1 _ _ _ _ _ _ _ _ _ _ _ _)
      | (with_reducible exact ih2 _ _ _ _ _ _ _ _ _ _ _ _ _)
      | (with_reducible exact ih3 _ _ _ _ _ _ _ _ _ _ _ _ _ _)
      | (with_reducible exact tidewayref13_Check.mono _ _ _ _ _ _ _ _ _)
      | (with_reducible exact LeO.refl _)
      | (with_reducible exact LeO.none _)
      | (with_reducible refine LeO.ite ?_ ?_)
      | (with_reducible refine LeO.bind ?_ (fun _ => ?_))
      | exact ih0 _ _ _ _ _ _ _ _ _ _ _ _
      | exact ih1 _ _ _ _ _ _ _ _ _ _ _ _
      | exact ih2 _ _ _ _ _ _ _ _ _ _ _ _ _
      | exact ih3 _ _ _ _ _ _ _ _ _ _ _ _ _ _
      | exact tidewayref13_Check.mono _ _ _ _ _ _ _ _ _
      | exact LeO.none _
      | refine LeO.ite ?_ ?_
      | refine LeO.bind ?_ (fun _ => ?_)
theorem tidewayref13_Mark.mono : ∀ a0 a1 a2 a3 a4 a5 a6 a7 a8 a9 a10 k, LeO (tidewayref13_Mark.f k a0 a1 a2 a3 a4 a5 a6 a7 a8 a9 a10) (tidewayref13_Mark.f (k + 1) a0 a1 a2 a3 a4 a5 a6 a7 a8 a9 a10) := by
  intro a0 a1 a2 a3 a4 a5 a6 a7 a8 a9 a10 k
  obtain ⟨ih0, ih1, ih2, ih3⟩ := tidewayref13_Mark.mono_l k
  unfold tidewayref13_Mark.f
  repeat' first
      | (with_reducible exact ih0 _ _ _ _ _ _ _ _ _ _ _ _)
      | (with_reducible exact ih1 _ _ _ _ _ _ _ _ _ _ _ _)
      | (with_reducible exact ih2 _ _ _ _ _ _ _ _ _ _ _ _ _)
      | (with_reducible exact ih3 _ _ _ _ _ _ _ _ _ _ _ _ _ _)
      | (with_reducible exact tidewayref13_Check.mono _ _ _ _ _ _ _ _ _)
      | (with_reducible exact LeO.refl _)
      | (with_reducible exact LeO.none _)
      | (with_reducible refine LeO.ite ?_ ?_)
      | (with_reducible refine LeO.bind ?_ (fun _ => ?_))
      | exact ih0 _ _ _ _ _ _ _ _ _ _ _ _
      | exact ih1 _ _ _ _ _ _ _ _ _ _ _ _
      | exact ih2 _ _ _ _ _ _ _ _ _ _ _ _ _
      | exact ih3 _ _ _ _ _ _ _ _ _ _ _ _ _ _
      | exact tidewayref13_Check.mono _ _ _ _ _ _ _ _ _
      | exact LeO.none _
      | refine LeO.ite ?_ ?_
      | refine LeO.bind ?_ (fun _ => ?_)
def tidewayref13_Mark.T15 : Bool × List (List Nat × List Nat) := (true, [([], []), ([], []), ([0, 1], [0, 1]), ([2], [2]), ([3], [3]), ([4], [4]), ([5], [5]), ([5], [5]), ([6, 7, 5], [5, 6, 7]), ([8, 5], [5, 8]), ([9, 5], [5, 9]), ([10, 5, 5], [5, 10]), ([11], [11]), ([11], [11]), ([12, 13, 11], [11, 12, 13]), ([14, 11], [11, 14]), ([15, 11], [11, 15]), ([16, 11], [11, 16]), ([11, 17, 5], [5, 11, 17]), ([5, 18], [5, 18]), ([19, 11], [19]), ([20], [20]), ([20], [20]), ([20], [20]), ([22, 23, 20], [20, 22, 23]), ([24, 20], [20, 24]), ([21, 25, 20, 20], [20, 21, 25]), ([26, 20], [20, 26]), ([20, 27], [20, 27])])
def tidewayref13_Mark.B15 : List Nat := [0, 0, 3, 7, 15, 31, 63, 63, 255, 511, 1023, 2047, 4095, 4095, 16383, 32767, 65535, 131071, 262143, 524287, 1048575, 2097151, 2097151, 2097151, 14680063, 31457279, 67108863, 134217727, 268435455]
theorem tidewayref13_Mark.tab15 : rtab .any (opsOf Try.f17 15) = tidewayref13_Mark.T15 := by kernel_rfl
theorem tidewayref13_Mark.bits15 : waitsOk tidewayref13_Mark.T15.2 tidewayref13_Mark.B15 = true := by kernel_rfl
def tidewayref13_Mark.T16 : Bool × List (List Nat × List Nat) := (true, [([], []), ([], []), ([0, 1], [0, 1]), ([2], [2]), ([3], [3]), ([], []), ([5], [5]), ([4, 6], [4, 6]), ([], []), ([7, 8], [7, 8]), ([9, 0, 1, 2, 3, 4, 5, 6, 7, 8, 9], [9])])
def tidewayref13_Mark.B16 : List Nat := [0, 0, 3, 7, 15, 0, 32, 127, 0, 511, 1023]
theorem tidewayref13_Mark.tab16 : rtab .any (opsOf Try.f17 16) = tidewayref13_Mark.T16 := by kernel_rfl
theorem tidewayref13_Mark.bits16 : waitsOk tidewayref13_Mark.T16.2 tidewayref13_Mark.B16 = true := by kernel_rfl
set_option maxHeartbeats 8000000 in
set_option maxRecDepth 100000 in
theorem tidewayref13_Mark.calls (k : Nat) (a0_0 : Int) (a0_1 : Int) (a0_2 : Int) (a0_3 : Bool) (a0_4 : Int) (a0_5 : Int) (a0_6 : Int) (a0_7 : Int) (A1 : Option Addr) (c1 : Nat) (l1 : List (S25)) (a2 : Int) (a3 : Int) (r1 : List (S25)) (r2 : Int) (r3 : Int) (w : World) (hr1 : Kd.C k25 w A1 l1.length l1) (hc1 : l1.length ≤ c1) (h : tidewayref13_Mark.f k a0_0 a0_1 a0_2 a0_3 a0_4 a0_5 a0_6 a0_7 l1 a2 a3 = some (r1, r2, r3)) :
    Calls Try.prog 17 #[.agg #[.int .i64 a0_0, .int .i64 a0_1, .int .i64 a0_2, .bool a0_3, .int .i64 a0_4, .int .i64 a0_5, .int .i64 a0_6, .int .i64 a0_7], .slice A1 l1.length c1, .int .i64 a2, .int .i64 a3] w fun e w' => ∃ v0_ : Value, e = .returned (.tuple #[v0_, .int .i64 r2, .int .i64 r3]) ∧ Kd.R k25 25 w' w.heap.size (fun _ => True) v0_ r1 ∧ Below w.heap.size w w' := by
  have hu23 := Try.underlying23
  have hu25 := Try.underlying25
  have HR1 := Aside0.mk hr1
  have HC1 := Aside0.mk hc1
  clear hr1 hc1
  have HB := Aside0.mk (Below.refl w.heap.size w)
  have H : ((tidewayref13_Check.f k a0_0 a0_1 a0_2 a0_3 a0_4 a0_5 a0_6 a0_7).bind fun t152 => (if t152 = 0 then ((tidewayref13_time.f a2).bind fun t153 => (if t153 = true then ((tidewayref13_time.f a3).bind fun t154 => (tidewayref13_Mark.j0 k l1 a2 a3 (!t154) a0_0 a0_1 a0_2 a0_3 a0_4 a0_5 a0_6 a0_7)) else (tidewayref13_Mark.j0 k l1 a2 a3 true a0_0 a0_1 a0_2 a0_3 a0_4 a0_5 a0_6 a0_7))) else (some (([] : List (S25)), 0, 230)))) = some (r1, r2, r3) := h
  clear h
  replace H := Option.bind_eq_some_iff.mp H
  obtain ⟨t152, A50, H⟩ := H
  replace H : (if t152 = 0 then ((tidewayref13_time.f a2).bind fun t153 => (if t153 = true then ((tidewayref13_time.f a3).bind fun t154 => (tidewayref13_Mark.j0 k l1 a2 a3 (!t154) a0_0 a0_1 a0_2 a0_3 a0_4 a0_5 a0_6 a0_7)) else (tidewayref13_Mark.j0 k l1 a2 a3 true a0_0 a0_1 a0_2 a0_3 a0_4 a0_5 a0_6 a0_7))) else (some (([] : List (S25)), 0, 230))) = some (r1, r2, r3) := H
  have A5 := Aside0.mk A50
  clear A50
  by_cases c6 : t152 = 0
  · rw [if_pos c6] at H
    have c6b0 : (t152 == 0) = true := beq_iff_eq.mpr c6
    have c6b1 : (t152 != 0) = false := bne_eq_false_iff_eq.mpr c6
    clear c6
    have HC7 := Aside0.mk H
    clear H
    go_enter Try.func17, Try.ntmps17
    go_upto_region 3 with (first | ((with_reducible refine gate_dst (N := 4) rfl ?_); refine box_event ?hg (N := 4) ?hd (cs := #[.int .i64 a0_0, .int .i64 a0_1, .int .i64 a0_2, .bool a0_3, .int .i64 a0_4, .int .i64 a0_5, .int .i64 a0_6, .int .i64 a0_7]) (t := 23) ?hr ?_; (case hd => rfl); (case hg => rfl); (case hr => first | (go_simp; done) | (go_simp; rfl)); intro gb151 hg w8 hbox hb; have n0_ := Aside0.mk (below_step (by repeat (first | (with_reducible first | exact HB.out | apply below_alloc | apply pw_below_drewN | apply below_drew1) | exact HB.out | exact Below.refl _ _)) hb); have n1_ := Aside0.mk (hbox); have n2_ := Aside0.mk ((by rw [hg]; exact (below_size (by repeat (first | (with_reducible first | exact HB.out | apply below_alloc | apply pw_below_drewN | apply below_drew1) | exact HB.out | exact Below.refl _ _))) : w.heap.size ≤ gb151)); have n3_ := Aside0.mk ((by rw [hg]; exact (below_size (by repeat (first | (with_reducible first | exact HB.out | apply below_alloc | apply pw_below_drewN | apply below_drew1) | exact HB.out | exact Below.refl _ _))) : w.heap.size ≤ gb151)); clear HB; have HB := n0_; have BK151 := n1_; have GW151 := n2_; have GE151 := n3_; clear n0_ n1_ n2_ n3_; clear hb hbox hg; have hcz9_0 : w8.cell? ⟨gb151, 0, none⟩ = some (.int .i64 a0_0) := (blk_cell BK151.out 0).trans rfl; have hcz9_1 : w8.cell? ⟨gb151, 1, none⟩ = some (.int .i64 a0_1) := (blk_cell BK151.out 1).trans rfl; have hcz9_2 : w8.cell? ⟨gb151, 2, none⟩ = some (.int .i64 a0_2) := (blk_cell BK151.out 2).trans rfl; have hcz9_3 : w8.cell? ⟨gb151, 3, none⟩ = some (.bool a0_3) := (blk_cell BK151.out 3).trans rfl; have hcz9_4 : w8.cell? ⟨gb151, 4, none⟩ = some (.int .i64 a0_4) := (blk_cell BK151.out 4).trans rfl; have hcz9_5 : w8.cell? ⟨gb151, 5, none⟩ = some (.int .i64 a0_5) := (blk_cell BK151.out 5).trans rfl; have hcz9_6 : w8.cell? ⟨gb151, 6, none⟩ = some (.int .i64 a0_6) := (blk_cell BK151.out 6).trans rfl; have hcz9_7 : w8.cell? ⟨gb151, 7, none⟩ = some (.int .i64 a0_7) := (blk_cell BK151.out 7).trans rfl; have hfz9_0 := blk_frozen BK151.out 0; have hfz9_1 := blk_frozen BK151.out 1; have hfz9_2 := blk_frozen BK151.out 2; have hfz9_3 := blk_frozen BK151.out 3; have hfz9_4 := blk_frozen BK151.out 4; have hfz9_5 := blk_frozen BK151.out 5; have hfz9_6 := blk_frozen BK151.out 6; have hfz9_7 := blk_frozen BK151.out 7) | ((with_reducible refine gate_callee (f := 11) rfl ?_); refine goesL_ (some 17) rfl rfl Try.func11 (by kernel_rfl) rfl #[.agg #[.int .i64 a0_0, .int .i64 a0_1, .int .i64 a0_2, .bool a0_3, .int .i64 a0_4, .int .i64 a0_5, .int .i64 a0_6, .int .i64 a0_7]] rfl (by (try simp only [List.map_toArray, List.map_cons, List.map_nil]); first | done | rfl | (simp only [List.length_drop, List.length_take]; rfl)) ?_; (with_reducible refine (tidewayref13_Check.calls k a0_0 a0_1 a0_2 a0_3 a0_4 a0_5 a0_6 a0_7 t152 _ A5.out).mono ?_); rintro e w10 ⟨rfl, hb⟩; refine ⟨_, rfl, ?_⟩; have n0_ := Aside0.mk (blk_below (g := gb151) (o := .cells #[.int .i64 a0_0, .int .i64 a0_1, .int .i64 a0_2, .bool a0_3, .int .i64 a0_4, .int .i64 a0_5, .int .i64 a0_6, .int .i64 a0_7] 23 (0, 0)) (by (with_reducible repeat (first | refine blk_drewN ?_ _ | refine blk_drew ?_ | refine blk_alloc ?_ _)); exact BK151.out) hb); have n1_ := Aside0.mk (below_step (by repeat (first | (with_reducible first | exact HB.out | apply below_alloc | apply pw_below_drewN | apply below_drew1 | refine below_set ?_ GE151.out) | exact HB.out)) hb); clear BK151; clear HB; have BK151 := n0_; have HB := n1_; clear n0_ n1_; (try clear hb); (try clear hb2); (try clear hk); (try clear hi)))
    (try simp only [Act.put, List.setIfInBounds_toArray, List.set_cons_zero, List.set_cons_succ])
    go_cut [26] (fun v26 wc => ∃ (kq : Nat) (x26_6 : Bool), v26 = .bool x26_6 ∧ Aside0 (tidewayref13_Mark.j0 kq l1 a2 a3 x26_6 a0_0 a0_1 a0_2 a0_3 a0_4 a0_5 a0_6 a0_7 = some (r1, r2, r3)) ∧ Aside0 (kq ≤ k) ∧ Aside0 (wc.heap[gb151]? = some (.cells #[.int .i64 a0_0, .int .i64 a0_1, .int .i64 a0_2, .bool a0_3, .int .i64 a0_4, .int .i64 a0_5, .int .i64 a0_6, .int .i64 a0_7] 23 (0, 0))) ∧ Aside0 (Below w.heap.size w wc))
    case first =>
      have H := HC7.out
      clear HC7
      replace H := Option.bind_eq_some_iff.mp H
      obtain ⟨t153, A110, H⟩ := H
      replace H : (if t153 = true then ((tidewayref13_time.f a3).bind fun t154 => (tidewayref13_Mark.j0 k l1 a2 a3 (!t154) a0_0 a0_1 a0_2 a0_3 a0_4 a0_5 a0_6 a0_7)) else (tidewayref13_Mark.j0 k l1 a2 a3 true a0_0 a0_1 a0_2 a0_3 a0_4 a0_5 a0_6 a0_7)) = some (r1, r2, r3) := H
      have A11 := Aside0.mk A110
      clear A110
      by_cases c12 : t153 = true
      · subst c12
        have H1 : ((tidewayref13_time.f a3).bind fun t154 => (tidewayref13_Mark.j0 k l1 a2 a3 (!t154) a0_0 a0_1 a0_2 a0_3 a0_4 a0_5 a0_6 a0_7)) = some (r1, r2, r3) := by rw [if_pos rfl] at H; exact H
        clear H
        have H := H1
        clear H1
        replace H := Option.bind_eq_some_iff.mp H
        obtain ⟨t154, A130, H⟩ := H
        replace H : (tidewayref13_Mark.j0 k l1 a2 a3 (!t154) a0_0 a0_1 a0_2 a0_3 a0_4 a0_5 a0_6 a0_7) = some (r1, r2, r3) := H
        have A13 := Aside0.mk A130
        clear A130
        have H' := Aside0.mk H
        clear H
        go_wp2_with (first | ((with_reducible refine gate_callee (f := 22) rfl ?_); refine goesL_ (some 20) rfl rfl Try.func22 (by kernel_rfl) rfl #[.int .i64 a2] rfl (by (try simp only [List.map_toArray, List.map_cons, List.map_nil]); first | done | rfl | (simp only [List.length_drop, List.length_take]; rfl)) ?_; (with_reducible refine (tidewayref13_time.calls a2 true _ A11.out).mono ?_); rintro e w' ⟨rfl, ⟨nd, rfl⟩⟩; refine ⟨_, rfl, ?_⟩) | (go_at_call 22; (with_reducible refine (tidewayref13_time.calls a3 t154 _ A13.out).mono ?_); rintro e w' ⟨rfl, ⟨nd, rfl⟩⟩))
        go_meet
        case rel => exact ⟨_, (!t154), (by first | rfl | (simp; done) | (simp [*]; done)), H', ⟨by first | omega | exact Nat.le_refl _⟩, ⟨by (with_reducible repeat (first | refine blk_drewN ?_ _ | refine blk_drew ?_ | refine blk_alloc ?_ _)); exact BK151.out⟩, ⟨by repeat (first | (with_reducible first | exact HB.out | apply below_alloc | apply pw_below_drewN | apply below_drew1 | refine below_set ?_ GE151.out) | exact HB.out)⟩⟩
      · replace c12 := Bool.eq_false_iff.mpr c12
        subst c12
        have H1 : (tidewayref13_Mark.j0 k l1 a2 a3 true a0_0 a0_1 a0_2 a0_3 a0_4 a0_5 a0_6 a0_7) = some (r1, r2, r3) := by rw [if_neg (show ¬ (false = true) by decide)] at H; exact H
        clear H
        have H := H1
        clear H1
        have H' := Aside0.mk H
        clear H
        go_wp2_with (first | ((with_reducible refine gate_callee (f := 22) rfl ?_); refine goesL_ (some 20) rfl rfl Try.func22 (by kernel_rfl) rfl #[.int .i64 a2] rfl (by (try simp only [List.map_toArray, List.map_cons, List.map_nil]); first | done | rfl | (simp only [List.length_drop, List.length_take]; rfl)) ?_; (with_reducible refine (tidewayref13_time.calls a2 false _ A11.out).mono ?_); rintro e w' ⟨rfl, ⟨nd, rfl⟩⟩; refine ⟨_, rfl, ?_⟩))
        go_meet
        case rel => exact ⟨_, (true), (by first | rfl | (simp; done) | (simp [*]; done)), H', ⟨by first | omega | exact Nat.le_refl _⟩, ⟨by (with_reducible repeat (first | refine blk_drewN ?_ _ | refine blk_drew ?_ | refine blk_alloc ?_ _)); exact BK151.out⟩, ⟨by repeat (first | (with_reducible first | exact HB.out | apply below_alloc | apply pw_below_drewN | apply below_drew1 | refine below_set ?_ GE151.out) | exact HB.out)⟩⟩
    case rest =>
      clear HC7
      try clear c1
      try clear c2
      try clear p2
      try clear c6
      try clear c6b0
      try clear c6b1
      try clear c11
      try clear c12
      try clear hcz9_0
      try clear hcz9_1
      try clear hcz9_2
      try clear hcz9_3
      try clear hcz9_4
      try clear hcz9_5
      try clear hcz9_6
      try clear hcz9_7
      try clear hfz9_0
      try clear hfz9_1
      try clear hfz9_2
      try clear hfz9_3
      try clear hfz9_4
      try clear hfz9_5
      try clear hfz9_6
      try clear hfz9_7
      obtain ⟨kq, x26_6, rfl, HA, HJ6, BK151, HB⟩ := hcut
      cases kq with
      | zero => exact absurd HA.out (by simp [tidewayref13_Mark.j0])
      | succ kj6 =>
        have H := HA.out
        clear HA
        simp only [tidewayref13_Mark.j0] at H
        by_cases c14 : x26_6 = true
        · subst c14
          have H1 : (some (([] : List (S25)), 0, 2)) = some (r1, r2, r3) := by rw [if_pos rfl] at H; exact H
          clear H
          have H := H1
          clear H1
          simp only [Option.some.injEq, Prod.mk.injEq] at H
          obtain ⟨rfl, rfl, rfl⟩ := H
          go_wp2
          go_ret3
          exact ⟨_, by first | rfl | (simp [errW_none, errW_some] <;> rfl) | (simp [*, errW_none, errW_some] <;> rfl), by first | exact Kd.R_nil _ _ _ _ _ | exact Kd.N_nil _ _ _ _ _ | exact Kd.V_nil _ _ _ _ _ | exact Kd.Q_nil _ _ _ _ _ | exact Kd.S_nil _ _ _ _ _, by repeat (first | (with_reducible first | exact HB.out | apply below_alloc | apply pw_below_drewN | apply below_drew1 | refine below_set ?_ GE151.out) | exact HB.out)⟩
        · replace c14 := Bool.eq_false_iff.mpr c14
          subst c14
          have H1 : (tidewayref13_Mark.l0 kj6 l1 a2 a3 0 a0_0 a0_1 a0_2 a0_3 a0_4 a0_5 a0_6 a0_7) = some (r1, r2, r3) := by rw [if_neg (show ¬ (false = true) by decide)] at H; exact H
          clear H
          have H := H1
          clear H1
          have H' := Aside0.mk H
          clear H
          go_wp2
          go_loopg [11] kj6 (fun kq v11 w' => ∃ (x11_2 : Int), v11 = .int .i64 x11_2 ∧ Aside0 (tidewayref13_Mark.l0 kq l1 a2 a3 x11_2 a0_0 a0_1 a0_2 a0_3 a0_4 a0_5 a0_6 a0_7 = some (r1, r2, r3)) ∧ Aside0 (kq ≤ kj6) ∧ Aside0 (w'.heap[gb151]? = some (.cells #[.int .i64 a0_0, .int .i64 a0_1, .int .i64 a0_2, .bool a0_3, .int .i64 a0_4, .int .i64 a0_5, .int .i64 a0_6, .int .i64 a0_7] 23 (0, 0))) ∧ Aside0 (Below w.heap.size w w'))
          case atStart => exact ⟨(0), (by first | rfl | (simp; done) | (simp [*]; done)), H', ⟨Nat.le_refl _⟩, ⟨by (with_reducible repeat (first | refine blk_drewN ?_ _ | refine blk_drew ?_ | refine blk_alloc ?_ _)); exact BK151.out⟩, ⟨by repeat (first | (with_reducible first | exact HB.out | apply below_alloc | apply pw_below_drewN | apply below_drew1 | refine below_set ?_ GE151.out) | exact HB.out)⟩⟩
          case round =>
            clear H'
            try clear c1
            try clear c2
            try clear p2
            try clear c6
            try clear c6b0
            try clear c6b1
            try clear c11
            try clear c12
            try clear c14
            try clear hcz9_0
            try clear hcz9_1
            try clear hcz9_2
            try clear hcz9_3
            try clear hcz9_4
            try clear hcz9_5
            try clear hcz9_6
            try clear hcz9_7
            try clear hfz9_0
            try clear hfz9_1
            try clear hfz9_2
            try clear hfz9_3
            try clear hfz9_4
            try clear hfz9_5
            try clear hfz9_6
            try clear hfz9_7
            try clear p2
            obtain ⟨x11_2, rfl, HA, HK2, BK151, HB⟩ := hrel
            cases gk with
            | zero => exact absurd HA.out (by simp [tidewayref13_Mark.l0])
            | succ k2 =>
              have H := HA.out
              clear HA
              simp only [tidewayref13_Mark.l0] at H
              by_cases c15 : x11_2 < (l1.length : Int)
              · rw [if_pos c15] at H
                have c15b0 : decide (x11_2 < (l1.length : Int)) = true := decide_eq_true c15
                clear c15
                by_cases c16 : 0 ≤ x11_2
                · rw [if_pos c16] at H
                  have c16b0 : decide (0 ≤ x11_2) = true := decide_eq_true c16
                  clear c16
                  replace H := Option.bind_eq_some_iff.mp H
                  obtain ⟨t156, A170, H⟩ := H
                  replace H : (if t156 = true then (tidewayref13_Mark.l0 k2 l1 a2 a3 (wrap64 (x11_2 + 1)) a0_0 a0_1 a0_2 a0_3 a0_4 a0_5 a0_6 a0_7) else (some (([] : List (S25)), 0, 2))) = some (r1, r2, r3) := H
                  have A17 := Aside0.mk A170
                  clear A170
                  by_cases c18 : t156 = true
                  · subst c18
                    have H1 : (tidewayref13_Mark.l0 k2 l1 a2 a3 (wrap64 (x11_2 + 1)) a0_0 a0_1 a0_2 a0_3 a0_4 a0_5 a0_6 a0_7) = some (r1, r2, r3) := by rw [if_pos rfl] at H; exact H
                    clear H
                    have H := H1
                    clear H1
                    have H' := Aside0.mk H
                    clear H
                    have p155 : 0 ≤ (x11_2 : Int) := of_decide_eq_true (by first | (with_reducible assumption) | assumption)
                    have q155 : x11_2 < (l1.length : Int) := of_decide_eq_true (by first | (with_reducible assumption) | assumption)
                    obtain ⟨ad155, e155, hx155_0, hx155_1, hx155_2, hx155_3, hx155_4, hx155_5, hx155_6, hx155_7, hx155_8, hx155_9, hx155_10, hx155_11⟩ := at_T25 HR1.out x11_2 p155 q155
                    cases e155
                    replace hx155_0 := (HB.out.cell (World.block_lt_of_cell? w _ hx155_0)).trans hx155_0
                    replace hx155_1 := (HB.out.cell (World.block_lt_of_cell? w _ hx155_1)).trans hx155_1
                    replace hx155_2 := (HB.out.cell (World.block_lt_of_cell? w _ hx155_2)).trans hx155_2
                    replace hx155_3 := (HB.out.cell (World.block_lt_of_cell? w _ hx155_3)).trans hx155_3
                    replace hx155_4 := (HB.out.cell (World.block_lt_of_cell? w _ hx155_4)).trans hx155_4
                    replace hx155_5 := (HB.out.cell (World.block_lt_of_cell? w _ hx155_5)).trans hx155_5
                    replace hx155_6 := (HB.out.cell (World.block_lt_of_cell? w _ hx155_6)).trans hx155_6
                    replace hx155_7 := (HB.out.cell (World.block_lt_of_cell? w _ hx155_7)).trans hx155_7
                    replace hx155_8 := (HB.out.cell (World.block_lt_of_cell? w _ hx155_8)).trans hx155_8
                    replace hx155_9 := (HB.out.cell (World.block_lt_of_cell? w _ hx155_9)).trans hx155_9
                    replace hx155_10 := (HB.out.cell (World.block_lt_of_cell? w _ hx155_10)).trans hx155_10
                    replace hx155_11 := (HB.out.cell (World.block_lt_of_cell? w _ hx155_11)).trans hx155_11
                    replace p155 := eq_true p155
                    replace q155 := eq_true q155
                    go_wp2_with (first | ((with_reducible refine gate_callee (f := 23) rfl ?_); refine goesL_ (some 38) rfl rfl Try.func23 (by kernel_rfl) rfl #[.agg #[.int .i64 ((rd_T25 l1 x11_2).f0), .int .i64 ((rd_T25 l1 x11_2).f1), .bool ((rd_T25 l1 x11_2).f2), .int .i64 ((rd_T25 l1 x11_2).f3), .int .i64 ((rd_T25 l1 x11_2).f4), .bool ((rd_T25 l1 x11_2).f5), .bool ((rd_T25 l1 x11_2).f6), .bool ((rd_T25 l1 x11_2).f7), .int .i64 ((rd_T25 l1 x11_2).f8), .int .i64 ((rd_T25 l1 x11_2).f9), .int .i64 ((rd_T25 l1 x11_2).f10), .bool ((rd_T25 l1 x11_2).f11)], .int .i64 a2] rfl (by (try simp only [List.map_toArray, List.map_cons, List.map_nil]); first | done | rfl | (simp only [List.length_drop, List.length_take]; rfl)) ?_; (with_reducible refine (tidewayref13_rec.calls ((rd_T25 l1 x11_2).f0) ((rd_T25 l1 x11_2).f1) ((rd_T25 l1 x11_2).f2) ((rd_T25 l1 x11_2).f3) ((rd_T25 l1 x11_2).f4) ((rd_T25 l1 x11_2).f5) ((rd_T25 l1 x11_2).f6) ((rd_T25 l1 x11_2).f7) ((rd_T25 l1 x11_2).f8) ((rd_T25 l1 x11_2).f9) ((rd_T25 l1 x11_2).f10) ((rd_T25 l1 x11_2).f11) a2 true _ A17.out).mono ?_); rintro e w19 ⟨rfl, hb⟩; refine ⟨_, rfl, ?_⟩; have n0_ := Aside0.mk (blk_below (g := gb151) (o := .cells #[.int .i64 a0_0, .int .i64 a0_1, .int .i64 a0_2, .bool a0_3, .int .i64 a0_4, .int .i64 a0_5, .int .i64 a0_6, .int .i64 a0_7] 23 (0, 0)) (by (with_reducible repeat (first | refine blk_drewN ?_ _ | refine blk_drew ?_ | refine blk_alloc ?_ _)); exact BK151.out) hb); have n1_ := Aside0.mk (below_step (by repeat (first | (with_reducible first | exact HB.out | apply below_alloc | apply pw_below_drewN | apply below_drew1 | refine below_set ?_ GE151.out) | exact HB.out)) hb); clear BK151; clear HB; have BK151 := n0_; have HB := n1_; clear n0_ n1_; (try clear hb); (try clear hb2); (try clear hk); (try clear hi)))
                    go_roundg k2
                    case measure => have := HJ6.out; have := HK2.out; omega
                    case rel => exact ⟨(wrap64 (x11_2 + 1)), (by first | rfl | (simp; done) | (simp [*]; done)), H', ⟨by have := HJ6.out; have := HK2.out; omega⟩, ⟨by (with_reducible repeat (first | refine blk_drewN ?_ _ | refine blk_drew ?_ | refine blk_alloc ?_ _)); exact BK151.out⟩, ⟨by repeat (first | (with_reducible first | exact HB.out | apply below_alloc | apply pw_below_drewN | apply below_drew1 | refine below_set ?_ GE151.out) | exact HB.out)⟩⟩
                  · replace c18 := Bool.eq_false_iff.mpr c18
                    subst c18
                    have H1 : (some (([] : List (S25)), 0, 2)) = some (r1, r2, r3) := by rw [if_neg (show ¬ (false = true) by decide)] at H; exact H
                    clear H
                    have H := H1
                    clear H1
                    simp only [Option.some.injEq, Prod.mk.injEq] at H
                    obtain ⟨rfl, rfl, rfl⟩ := H
                    have p155 : 0 ≤ (x11_2 : Int) := of_decide_eq_true (by first | (with_reducible assumption) | assumption)
                    have q155 : x11_2 < (l1.length : Int) := of_decide_eq_true (by first | (with_reducible assumption) | assumption)
                    obtain ⟨ad155, e155, hx155_0, hx155_1, hx155_2, hx155_3, hx155_4, hx155_5, hx155_6, hx155_7, hx155_8, hx155_9, hx155_10, hx155_11⟩ := at_T25 HR1.out x11_2 p155 q155
                    cases e155
                    replace hx155_0 := (HB.out.cell (World.block_lt_of_cell? w _ hx155_0)).trans hx155_0
                    replace hx155_1 := (HB.out.cell (World.block_lt_of_cell? w _ hx155_1)).trans hx155_1
                    replace hx155_2 := (HB.out.cell (World.block_lt_of_cell? w _ hx155_2)).trans hx155_2
                    replace hx155_3 := (HB.out.cell (World.block_lt_of_cell? w _ hx155_3)).trans hx155_3
                    replace hx155_4 := (HB.out.cell (World.block_lt_of_cell? w _ hx155_4)).trans hx155_4
                    replace hx155_5 := (HB.out.cell (World.block_lt_of_cell? w _ hx155_5)).trans hx155_5
                    replace hx155_6 := (HB.out.cell (World.block_lt_of_cell? w _ hx155_6)).trans hx155_6
                    replace hx155_7 := (HB.out.cell (World.block_lt_of_cell? w _ hx155_7)).trans hx155_7
                    replace hx155_8 := (HB.out.cell (World.block_lt_of_cell? w _ hx155_8)).trans hx155_8
                    replace hx155_9 := (HB.out.cell (World.block_lt_of_cell? w _ hx155_9)).trans hx155_9
                    replace hx155_10 := (HB.out.cell (World.block_lt_of_cell? w _ hx155_10)).trans hx155_10
                    replace hx155_11 := (HB.out.cell (World.block_lt_of_cell? w _ hx155_11)).trans hx155_11
                    replace p155 := eq_true p155
                    replace q155 := eq_true q155
                    go_wp2_with (first | ((with_reducible refine gate_callee (f := 23) rfl ?_); refine goesL_ (some 38) rfl rfl Try.func23 (by kernel_rfl) rfl #[.agg #[.int .i64 ((rd_T25 l1 x11_2).f0), .int .i64 ((rd_T25 l1 x11_2).f1), .bool ((rd_T25 l1 x11_2).f2), .int .i64 ((rd_T25 l1 x11_2).f3), .int .i64 ((rd_T25 l1 x11_2).f4), .bool ((rd_T25 l1 x11_2).f5), .bool ((rd_T25 l1 x11_2).f6), .bool ((rd_T25 l1 x11_2).f7), .int .i64 ((rd_T25 l1 x11_2).f8), .int .i64 ((rd_T25 l1 x11_2).f9), .int .i64 ((rd_T25 l1 x11_2).f10), .bool ((rd_T25 l1 x11_2).f11)], .int .i64 a2] rfl (by (try simp only [List.map_toArray, List.map_cons, List.map_nil]); first | done | rfl | (simp only [List.length_drop, List.length_take]; rfl)) ?_; (with_reducible refine (tidewayref13_rec.calls ((rd_T25 l1 x11_2).f0) ((rd_T25 l1 x11_2).f1) ((rd_T25 l1 x11_2).f2) ((rd_T25 l1 x11_2).f3) ((rd_T25 l1 x11_2).f4) ((rd_T25 l1 x11_2).f5) ((rd_T25 l1 x11_2).f6) ((rd_T25 l1 x11_2).f7) ((rd_T25 l1 x11_2).f8) ((rd_T25 l1 x11_2).f9) ((rd_T25 l1 x11_2).f10) ((rd_T25 l1 x11_2).f11) a2 false _ A17.out).mono ?_); rintro e w20 ⟨rfl, hb⟩; refine ⟨_, rfl, ?_⟩; have n0_ := Aside0.mk (blk_below (g := gb151) (o := .cells #[.int .i64 a0_0, .int .i64 a0_1, .int .i64 a0_2, .bool a0_3, .int .i64 a0_4, .int .i64 a0_5, .int .i64 a0_6, .int .i64 a0_7] 23 (0, 0)) (by (with_reducible repeat (first | refine blk_drewN ?_ _ | refine blk_drew ?_ | refine blk_alloc ?_ _)); exact BK151.out) hb); have n1_ := Aside0.mk (below_step (by repeat (first | (with_reducible first | exact HB.out | apply below_alloc | apply pw_below_drewN | apply below_drew1 | refine below_set ?_ GE151.out) | exact HB.out)) hb); clear BK151; clear HB; have BK151 := n0_; have HB := n1_; clear n0_ n1_; (try clear hb); (try clear hb2); (try clear hk); (try clear hi)))
                    go_ret3
                    exact ⟨_, by first | rfl | (simp [errW_none, errW_some] <;> rfl) | (simp [*, errW_none, errW_some] <;> rfl), by first | exact Kd.R_nil _ _ _ _ _ | exact Kd.N_nil _ _ _ _ _ | exact Kd.V_nil _ _ _ _ _ | exact Kd.Q_nil _ _ _ _ _ | exact Kd.S_nil _ _ _ _ _, by repeat (first | (with_reducible first | exact HB.out | apply below_alloc | apply pw_below_drewN | apply below_drew1 | refine below_set ?_ GE151.out) | exact HB.out)⟩
                · rw [if_neg c16] at H
                  exact absurd H (by simp)
              · rw [if_neg c15] at H
                have c15b0 : decide (x11_2 < (l1.length : Int)) = false := decide_eq_false c15
                clear c15
                obtain ⟨y157, hy157⟩ : ∃ y_ : List (S25), y_ = (([] : List (S25))) := ⟨_, rfl⟩
                replace H : (if y157.length + l1.length < 1759218604441 then (tidewayref13_Mark.l1 k2 a2 a3 (y157 ++ l1) 0 0 a0_0 a0_1 a0_2 a0_3 a0_4 a0_5 a0_6 a0_7) else (none)) = some (r1, r2, r3) := by first | (rw [hy157]; with_reducible exact H) | (have H2_ := (Option.bind_some _ _).symm.trans H; rw [hy157]; with_reducible exact H2_) | (have H2_ := (Option.bind_some _ _).symm.trans H; with_reducible exact H2_) | with_reducible exact H | (rw [hy157]; exact H) | exact H
                have Ny157 := Aside0.mk hy157
                clear hy157
                by_cases c21 : y157.length + l1.length < 1759218604441
                · rw [if_pos c21] at H
                  have LMc21 := Aside0.mk c21
                  clear c21
                  obtain ⟨y160, hy160⟩ : ∃ y_ : List (S25), y_ = (y157 ++ l1) := ⟨_, rfl⟩
                  replace H : (tidewayref13_Mark.l1 k2 a2 a3 y160 0 0 a0_0 a0_1 a0_2 a0_3 a0_4 a0_5 a0_6 a0_7) = some (r1, r2, r3) := by first | (rw [hy160]; with_reducible exact H) | (have H2_ := (Option.bind_some _ _).symm.trans H; rw [hy160]; with_reducible exact H2_) | (have H2_ := (Option.bind_some _ _).symm.trans H; with_reducible exact H2_) | with_reducible exact H | (rw [hy160]; exact H) | exact H
                  have Ny160 := Aside0.mk hy160
                  clear hy160
                  have H' := Aside0.mk H
                  clear H
                  go_wp2_with (first | ((with_reducible refine gate_dst (N := 40) rfl ?_); refine Kd.R_lit k25 _ 25 ?hg (N := 40) ?hd (xs := ([] : List (S25))) (inner := []) (ok := fun _ => True) (okp := fun _ => True) ?hr ?hp (fun _ hk => hk) trivial (Below.refl _ _) (Nat.le_refl _) (by simp) ?_; (case hd => rfl); (case hg => rfl); (case hr => first | (go_simp; done) | (go_simp; rfl)); (case hp => exact (Reps.none _ _)); intro v158 w22 ho23 hb hg_ hnew_; clear hg_ hnew_; (first | rw [← Ny157.out] at ho23 | (simp only [Int.reduceToNat] at ho23; rw [← Ny157.out] at ho23)); have n0_ := Aside0.mk (Kd.R_lower ho23 (below_size (by repeat (first | (with_reducible first | exact HB.out | apply below_alloc | apply pw_below_drewN | apply below_drew1 | refine below_set ?_ GE151.out) | exact HB.out)))); have n1_ := Aside0.mk (blk_below (g := gb151) (o := .cells #[.int .i64 a0_0, .int .i64 a0_1, .int .i64 a0_2, .bool a0_3, .int .i64 a0_4, .int .i64 a0_5, .int .i64 a0_6, .int .i64 a0_7] 23 (0, 0)) (by (with_reducible repeat (first | refine blk_drewN ?_ _ | refine blk_drew ?_ | refine blk_alloc ?_ _)); exact BK151.out) hb); have n2_ := Aside0.mk (below_step (by repeat (first | (with_reducible first | exact HB.out | apply below_alloc | apply pw_below_drewN | apply below_drew1 | refine below_set ?_ GE151.out) | exact HB.out)) hb); clear BK151; clear HB; have HO159 := n0_; have BK151 := n1_; have HB := n2_; clear n0_ n1_ n2_; clear hb ho23) | ((with_reducible refine gate_builtin (b := .append) (xs := #[.tmp 40, .tmp 41]) rfl ?_); at_builtin; refine Kd.R_append_rows k25 (w0 := w) w.heap.size rfl (.tmp 40) (.tmp 41) 36 25 (.agg #[(.int .i64 0), (.int .i64 0), (.bool false), (.int .i64 0), (.int .i64 0), (.bool false), (.bool false), (.bool false), (.int .i64 0), (.int .i64 0), (.int .i64 0), (.bool false)]) 80 rfl Try.underlying36 info25 rfl (by decide) (by omega) v158 y157 l1 _ _ _ (fun _ => True) (fun _ => False) rfl rfl ?aO ?aR (fun _ _ h => h) (fun _ h => h.elim) ?aF ?aB ?aS ?aL ?_; (case aR => repeat (first | exact (Kd.C_below HR1.out HB.out) | exact HR1.out | (with_reducible refine Kd.C_alloc ?_ _) | (with_reducible refine Kd.C_drewN ?_ _) | (with_reducible refine Kd.C_drew ?_))); (case aB => exact (by repeat (first | (with_reducible first | exact HB.out | apply below_alloc | apply pw_below_drewN | apply below_drew1 | refine below_set ?_ GE151.out) | exact HB.out))); (case aF => exact (fun _ _ => trivial)); (case aO => exact (by (with_reducible repeat (first | apply Kd.R_alloc | apply Kd.R_drewN | apply Kd.R_drew)); exact HO159.out)); (case aS => exact (below_size (by repeat (first | (with_reducible first | exact HB.out | apply below_alloc | apply pw_below_drewN | apply below_drew1 | refine below_set ?_ GE151.out) | exact HB.out)))); (case aL => have := LMc21.out; omega); intro v161 w24 ho hb hg hat; rw [← Ny160.out] at ho; have n0_ := Aside0.mk (blk_grown (g := gb151) (o := .cells #[.int .i64 a0_0, .int .i64 a0_1, .int .i64 a0_2, .bool a0_3, .int .i64 a0_4, .int .i64 a0_5, .int .i64 a0_6, .int .i64 a0_7] 23 (0, 0)) (by (with_reducible repeat (first | refine blk_drewN ?_ _ | refine blk_drew ?_ | refine blk_alloc ?_ _)); exact BK151.out) hg (Kd.R_ne HO159.out BK151.out (by decide))); have n1_ := Aside0.mk (hb); have n2_ := Aside0.mk (ho); clear BK151; clear HB; clear HO159; have BK151 := n0_; have HB := n1_; have HO162 := n2_; clear n0_ n1_ n2_; clear ho hb hg hat))
                  go_loopg [13, 14] k2 (fun kq v13 v14 w' => ∃ (x12_3 : List (S25)) (x13_3 : Int) (x14_3 : Int), v13 = .int .i64 x13_3 ∧ v14 = .int .i64 x14_3 ∧ Aside0 (tidewayref13_Mark.l1 kq a2 a3 x12_3 x13_3 x14_3 a0_0 a0_1 a0_2 a0_3 a0_4 a0_5 a0_6 a0_7 = some (r1, r2, r3)) ∧ Aside0 (kq ≤ k2) ∧ Aside0 (Kd.R k25 25 w' w.heap.size (fun _ => True) v161 x12_3) ∧ Aside0 (w'.heap[gb151]? = some (.cells #[.int .i64 a0_0, .int .i64 a0_1, .int .i64 a0_2, .bool a0_3, .int .i64 a0_4, .int .i64 a0_5, .int .i64 a0_6, .int .i64 a0_7] 23 (0, 0))) ∧ Aside0 (Below w.heap.size w w'))
                  case atStart => exact ⟨(y160), (0), (0), (by first | rfl | (simp; done) | (simp [*]; done)), (by first | rfl | (simp; done) | (simp [*]; done)), H', ⟨Nat.le_refl _⟩, ⟨by (with_reducible repeat (first | apply Kd.R_alloc | apply Kd.R_drewN | apply Kd.R_drew)); exact HO162.out⟩, ⟨by (with_reducible repeat (first | refine blk_drewN ?_ _ | refine blk_drew ?_ | refine blk_alloc ?_ _)); exact BK151.out⟩, ⟨by repeat (first | (with_reducible first | exact HB.out | apply below_alloc | apply pw_below_drewN | apply below_drew1 | refine below_set ?_ GE151.out) | exact HB.out)⟩⟩
                  case round =>
                    clear H'
                    try clear c1
                    try clear p1
                    try clear q1
                    try clear hx1
                    try clear c2
                    try clear p2
                    try clear c6
                    try clear c6b0
                    try clear c6b1
                    try clear p6
                    try clear c11
                    try clear c12
                    try clear c14
                    try clear c15
                    try clear c15b0
                    try clear p15
                    try clear q15
                    try clear hx15
                    try clear c16
                    try clear c16b0
                    try clear c17
                    try clear c18
                    try clear c21
                    try clear c22
                    try clear c23
                    try clear hcz9_0
                    try clear hcz9_1
                    try clear hcz9_2
                    try clear hcz9_3
                    try clear hcz9_4
                    try clear hcz9_5
                    try clear hcz9_6
                    try clear hcz9_7
                    try clear hfz9_0
                    try clear hfz9_1
                    try clear hfz9_2
                    try clear hfz9_3
                    try clear hfz9_4
                    try clear hfz9_5
                    try clear hfz9_6
                    try clear hfz9_7
                    try clear hx155_0
                    try clear hx155_1
                    try clear hx155_10
                    try clear hx155_11
                    try clear hx155_2
                    try clear hx155_3
                    try clear hx155_4
                    try clear hx155_5
                    try clear hx155_6
                    try clear hx155_7
                    try clear hx155_8
                    try clear hx155_9
                    try clear p155
                    try clear p2
                    try clear q155
                    obtain ⟨x12_3, x13_3, x14_3, rfl, rfl, HA, HK3, HO_12, BK151, HB⟩ := hrel
                    cases gk with
                    | zero => exact absurd HA.out (by simp [tidewayref13_Mark.l1])
                    | succ k3 =>
                      have H := HA.out
                      clear HA
                      simp only [tidewayref13_Mark.l1] at H
                      by_cases c25 : x14_3 < (x12_3.length : Int)
                      · rw [if_pos c25] at H
                        have c25b0 : decide (x14_3 < (x12_3.length : Int)) = true := decide_eq_true c25
                        clear c25
                        have HC26 := Aside0.mk H
                        clear H
                        obtain ⟨Ao27, co27, eo27⟩ := Kd.R_slice HO_12.out
                        subst eo27
                        go_upto_region 15 with (fail)
                        go_cut [77] (fun v77 wc => ∃ (kq : Nat) (x77_25 : Bool), v77 = .bool x77_25 ∧ Aside0 (tidewayref13_Mark.j3 kq a2 a3 x12_3 x13_3 x14_3 x77_25 a0_0 a0_1 a0_2 a0_3 a0_4 a0_5 a0_6 a0_7 = some (r1, r2, r3)) ∧ Aside0 (kq ≤ k3) ∧ Aside0 (Kd.R k25 25 wc w.heap.size (fun _ => True) (.slice Ao27 x12_3.length co27) x12_3) ∧ Aside0 (wc.heap[gb151]? = some (.cells #[.int .i64 a0_0, .int .i64 a0_1, .int .i64 a0_2, .bool a0_3, .int .i64 a0_4, .int .i64 a0_5, .int .i64 a0_6, .int .i64 a0_7] 23 (0, 0))) ∧ Aside0 (Below w.heap.size w wc))
                        case first =>
                          have H := HC26.out
                          clear HC26
                          by_cases c28 : 0 ≤ x14_3
                          · rw [if_pos c28] at H
                            have c28b0 : decide (0 ≤ x14_3) = true := decide_eq_true c28
                            clear c28
                            (first | rw [c28b0] | (simp only [i64_w, i32_w]; rw [c28b0]) | skip)
                            obtain ⟨bq29, hbq29⟩ : ∃ b_ : Bool, b_ = ((rd_T25 x12_3 x14_3).f5) := ⟨_, rfl⟩
                            replace H : (if bq29 = true then (tidewayref13_Mark.j3 k3 a2 a3 x12_3 x13_3 x14_3 true a0_0 a0_1 a0_2 a0_3 a0_4 a0_5 a0_6 a0_7) else (if (rd_T25 x12_3 x14_3).f6 = true then (if ((rd_T25 x12_3 x14_3).f7 = true) then ((tidewayref13_Ahead.f a0_0 a0_1 a0_2 a0_3 a0_4 a0_5 a0_6 a0_7 ((rd_T25 x12_3 x14_3).f0) ((rd_T25 x12_3 x14_3).f1) ((rd_T25 x12_3 x14_3).f2) ((rd_T25 x12_3 x14_3).f3) ((rd_T25 x12_3 x14_3).f4) (bq29) ((rd_T25 x12_3 x14_3).f6) ((rd_T25 x12_3 x14_3).f7) ((rd_T25 x12_3 x14_3).f8) ((rd_T25 x12_3 x14_3).f9) ((rd_T25 x12_3 x14_3).f10) ((rd_T25 x12_3 x14_3).f11)).bind fun t167 => (tidewayref13_Mark.j3 k3 a2 a3 x12_3 x13_3 x14_3 (!t167) a0_0 a0_1 a0_2 a0_3 a0_4 a0_5 a0_6 a0_7)) else (tidewayref13_Mark.j3 k3 a2 a3 x12_3 x13_3 x14_3 true a0_0 a0_1 a0_2 a0_3 a0_4 a0_5 a0_6 a0_7)) else ((tidewayref13_Ahead.f a0_0 a0_1 a0_2 a0_3 a0_4 a0_5 a0_6 a0_7 ((rd_T25 x12_3 x14_3).f0) ((rd_T25 x12_3 x14_3).f1) ((rd_T25 x12_3 x14_3).f2) ((rd_T25 x12_3 x14_3).f3) ((rd_T25 x12_3 x14_3).f4) (bq29) ((rd_T25 x12_3 x14_3).f6) ((rd_T25 x12_3 x14_3).f7) ((rd_T25 x12_3 x14_3).f8) ((rd_T25 x12_3 x14_3).f9) ((rd_T25 x12_3 x14_3).f10) ((rd_T25 x12_3 x14_3).f11)).bind fun t169 => (tidewayref13_Mark.j3 k3 a2 a3 x12_3 x13_3 x14_3 (!t169) a0_0 a0_1 a0_2 a0_3 a0_4 a0_5 a0_6 a0_7)))) = some (r1, r2, r3) := by rw [← hbq29] at H; exact H
                            have Nbq29 := Aside0.mk hbq29
                            clear hbq29
                            by_cases c30 : bq29 = true
                            · subst c30
                              have H1 : (tidewayref13_Mark.j3 k3 a2 a3 x12_3 x13_3 x14_3 true a0_0 a0_1 a0_2 a0_3 a0_4 a0_5 a0_6 a0_7) = some (r1, r2, r3) := by rw [if_pos rfl] at H; exact H
                              clear H
                              have H := H1
                              clear H1
                              have H' := Aside0.mk H
                              clear H
                              try go_wp2
                              have n0_ := Aside0.mk (Kd.R_drew HO_12.out)
                              have n1_ := Aside0.mk (blk_drew BK151.out)
                              have n2_ := Aside0.mk (below_drew1 HB.out)
                              clear HO_12
                              clear BK151
                              clear HB
                              have HO_12 := n0_
                              have BK151 := n1_
                              have HB := n2_
                              clear n0_ n1_ n2_
                              have p163 : 0 ≤ (x14_3 : Int) := of_decide_eq_true (by first | (with_reducible assumption) | assumption)
                              have q163 : x14_3 < (x12_3.length : Int) := of_decide_eq_true (by first | (with_reducible assumption) | assumption)
                              obtain ⟨ad163, e163, hx163_0, hx163_1, hx163_2, hx163_3, hx163_4, hx163_5, hx163_6, hx163_7, hx163_8, hx163_9, hx163_10, hx163_11⟩ := at_T25 (Kd.R_reads' HO_12.out).2.2 x14_3 p163 q163
                              (try rw [← Nbq29.out] at hx163_2)
                              (try rw [← Nbq29.out] at hx163_5)
                              (try rw [← Nbq29.out] at hx163_6)
                              (try rw [← Nbq29.out] at hx163_7)
                              (try rw [← Nbq29.out] at hx163_11)
                              cases e163
                              replace p163 := eq_true p163
                              replace q163 := eq_true q163
                              refine start_ (n := 29) (S := fun w' => w'.cell? (ad163.add ((x14_3).toNat * 12)) = some (.int .i64 ((rd_T25 x12_3 x14_3).f0)) ∧ w'.cell? ⟨(ad163.add ((x14_3).toNat * 12)).block, (ad163.add ((x14_3).toNat * 12)).off + 1, none⟩ = some (.int .i64 ((rd_T25 x12_3 x14_3).f1)) ∧ w'.cell? ⟨(ad163.add ((x14_3).toNat * 12)).block, (ad163.add ((x14_3).toNat * 12)).off + 2, none⟩ = some (.bool ((rd_T25 x12_3 x14_3).f2)) ∧ w'.cell? ⟨(ad163.add ((x14_3).toNat * 12)).block, (ad163.add ((x14_3).toNat * 12)).off + 3, none⟩ = some (.int .i64 ((rd_T25 x12_3 x14_3).f3)) ∧ w'.cell? ⟨(ad163.add ((x14_3).toNat * 12)).block, (ad163.add ((x14_3).toNat * 12)).off + 4, none⟩ = some (.int .i64 ((rd_T25 x12_3 x14_3).f4)) ∧ w'.cell? ⟨(ad163.add ((x14_3).toNat * 12)).block, (ad163.add ((x14_3).toNat * 12)).off + 5, none⟩ = some (.bool true) ∧ w'.cell? ⟨(ad163.add ((x14_3).toNat * 12)).block, (ad163.add ((x14_3).toNat * 12)).off + 6, none⟩ = some (.bool ((rd_T25 x12_3 x14_3).f6)) ∧ w'.cell? ⟨(ad163.add ((x14_3).toNat * 12)).block, (ad163.add ((x14_3).toNat * 12)).off + 7, none⟩ = some (.bool ((rd_T25 x12_3 x14_3).f7)) ∧ w'.cell? ⟨(ad163.add ((x14_3).toNat * 12)).block, (ad163.add ((x14_3).toNat * 12)).off + 8, none⟩ = some (.int .i64 ((rd_T25 x12_3 x14_3).f8)) ∧ w'.cell? ⟨(ad163.add ((x14_3).toNat * 12)).block, (ad163.add ((x14_3).toNat * 12)).off + 9, none⟩ = some (.int .i64 ((rd_T25 x12_3 x14_3).f9)) ∧ w'.cell? ⟨(ad163.add ((x14_3).toNat * 12)).block, (ad163.add ((x14_3).toNat * 12)).off + 10, none⟩ = some (.int .i64 ((rd_T25 x12_3 x14_3).f10)) ∧ w'.cell? ⟨(ad163.add ((x14_3).toNat * 12)).block, (ad163.add ((x14_3).toNat * 12)).off + 11, none⟩ = some (.bool ((rd_T25 x12_3 x14_3).f11))) (ds := []) #[false, false, false, false, false, false, false, false, false, false, false, false, false, false, false, false, false, false, false, false, false, false, false, false, false, false, false, false, false] (by kernel_rfl) rfl rfl ⟨hx163_0, hx163_1, hx163_2, hx163_3, hx163_4, hx163_5, hx163_6, hx163_7, hx163_8, hx163_9, hx163_10, hx163_11⟩ (fun hHeld => ?_); refine with_tabW tidewayref13_Mark.tab15 tidewayref13_Mark.bits15 (fun HT_ HW_ => ?_)
                              generalize wr.drew = w31 at HO_12 BK151 HB hx163_0 hx163_1 hx163_10 hx163_11 hx163_2 hx163_3 hx163_4 hx163_5 hx163_6 hx163_7 hx163_8 hx163_9 hHeld ⊢
                              refine pure_ (i := 0) (N := some 49) (v := ?_) (a' := ?_) #[true, false, false, false, false, false, false, false, false, false, false, false, false, false, false, false, false, false, false, false, false, false, false, false, false, false, false, false, false] rfl rfl (any_of HT_.out (by kernel_rfl)) (fun _ _ _ h => h) (Or.inl ⟨by rfl, ?_⟩) ?_ ?_
                              rotate_left
                              · intro w'
                                go_simp
                                with_reducible rfl
                              rotate_left
                              · simp only [Act.put, List.setIfInBounds_toArray, List.set_cons_zero, List.set_cons_succ, i64_w, i32_w]
                                rfl
                              refine pure_ (i := 1) (N := some 50) (v := ?_) (a' := ?_) #[true, true, false, false, false, false, false, false, false, false, false, false, false, false, false, false, false, false, false, false, false, false, false, false, false, false, false, false, false] rfl rfl (any_of HT_.out (by kernel_rfl)) (fun _ _ _ h => h) (Or.inl ⟨by rfl, ?_⟩) ?_ ?_
                              rotate_left
                              · intro w'
                                go_simp
                                with_reducible rfl
                              rotate_left
                              · simp only [Act.put, List.setIfInBounds_toArray, List.set_cons_zero, List.set_cons_succ, i64_w, i32_w]
                                rfl
                              refine pure_ (i := 2) (N := some 51) (v := ?_) (a' := ?_) #[true, true, true, false, false, false, false, false, false, false, false, false, false, false, false, false, false, false, false, false, false, false, false, false, false, false, false, false, false] rfl rfl (any_of HT_.out (by kernel_rfl)) (fun _ _ _ h => h) (Or.inl ⟨by rfl, ?_⟩) ?_ ?_
                              rotate_left
                              · intro w'
                                go_simp
                                with_reducible rfl
                              rotate_left
                              · simp only [Act.put, List.setIfInBounds_toArray, List.set_cons_zero, List.set_cons_succ, i64_w, i32_w]
                                rfl
                              refine pure_ (i := 3) (N := some 52) (v := ?_) (a' := ?_) #[true, true, true, true, false, false, false, false, false, false, false, false, false, false, false, false, false, false, false, false, false, false, false, false, false, false, false, false, false] rfl rfl (any_of HT_.out (by kernel_rfl)) (fun _ _ _ h => h) (Or.inl ⟨by rfl, ?_⟩) ?_ ?_
                              rotate_left
                              · intro w'
                                go_simp
                                with_reducible rfl
                              rotate_left
                              · simp only [Act.put, List.setIfInBounds_toArray, List.set_cons_zero, List.set_cons_succ, i64_w, i32_w]
                                rfl
                              refine take_ (i := 4) (N := some 53) (v := ?_) (a' := ?_) #[true, true, true, true, true, false, false, false, false, false, false, false, false, false, false, false, false, false, false, false, false, false, false, false, false, false, false, false, false] rfl rfl (take_ofW HT_.out HW_.out (by kernel_rfl)) (fun _ _ _ h => h) (Or.inl ⟨by rfl, ?_⟩) hHeld ?_ ?_
                              rotate_left
                              · rintro w' ⟨s0, s1, s2, s3, s4, s5, s6, s7, s8, s9, s10, s11⟩
                                go_simp
                                with_reducible rfl
                              rotate_left
                              · simp only [Act.put, List.setIfInBounds_toArray, List.set_cons_zero, List.set_cons_succ, i64_w, i32_w]
                                rfl
                              refine pure_ (i := 5) (N := some 54) (v := ?_) (a' := ?_) #[true, true, true, true, true, true, false, false, false, false, false, false, false, false, false, false, false, false, false, false, false, false, false, false, false, false, false, false, false] rfl rfl (any_of HT_.out (by kernel_rfl)) (fun _ _ _ h => h) (Or.inl ⟨by rfl, ?_⟩) ?_ ?_
                              rotate_left
                              · intro w'
                                go_simp
                                with_reducible rfl
                              rotate_left
                              · simp only [Act.put, List.setIfInBounds_toArray, List.set_cons_zero, List.set_cons_succ, i64_w, i32_w]
                                rfl
                              refine pure_ (i := 6) (N := some 55) (v := undef) (a' := ?_) #[true, true, true, true, true, true, true, false, false, false, false, false, false, false, false, false, false, false, false, false, false, false, false, false, false, false, false, false, false] rfl rfl (any_of HT_.out (by kernel_rfl)) (fun _ _ _ h => h) (Or.inr ⟨by rfl, rfl⟩) ?_ ?_
                              rotate_left
                              · simp only [Act.put, List.setIfInBounds_toArray, List.set_cons_zero, List.set_cons_succ, i64_w, i32_w]
                                rfl
                              refine pure_ (i := 7) (N := some 56) (v := undef) (a' := ?_) #[true, true, true, true, true, true, true, true, false, false, false, false, false, false, false, false, false, false, false, false, false, false, false, false, false, false, false, false, false] rfl rfl (any_of HT_.out (by kernel_rfl)) (fun _ _ _ h => h) (Or.inr ⟨by rfl, rfl⟩) ?_ ?_
                              rotate_left
                              · simp only [Act.put, List.setIfInBounds_toArray, List.set_cons_zero, List.set_cons_succ, i64_w, i32_w]
                                rfl
                              refine pure_ (i := 8) (N := some 57) (v := undef) (a' := ?_) #[true, true, true, true, true, true, true, true, true, false, false, false, false, false, false, false, false, false, false, false, false, false, false, false, false, false, false, false, false] rfl rfl (any_of HT_.out (by kernel_rfl)) (fun _ _ _ h => h) (Or.inr ⟨by rfl, rfl⟩) ?_ ?_
                              rotate_left
                              · simp only [Act.put, List.setIfInBounds_toArray, List.set_cons_zero, List.set_cons_succ, i64_w, i32_w]
                                rfl
                              refine pure_ (i := 9) (N := some 58) (v := undef) (a' := ?_) #[true, true, true, true, true, true, true, true, true, true, false, false, false, false, false, false, false, false, false, false, false, false, false, false, false, false, false, false, false] rfl rfl (any_of HT_.out (by kernel_rfl)) (fun _ _ _ h => h) (Or.inr ⟨by rfl, rfl⟩) ?_ ?_
                              rotate_left
                              · simp only [Act.put, List.setIfInBounds_toArray, List.set_cons_zero, List.set_cons_succ, i64_w, i32_w]
                                rfl
                              refine pure_ (i := 10) (N := some 59) (v := undef) (a' := ?_) #[true, true, true, true, true, true, true, true, true, true, true, false, false, false, false, false, false, false, false, false, false, false, false, false, false, false, false, false, false] rfl rfl (any_of HT_.out (by kernel_rfl)) (fun _ _ _ h => h) (Or.inr ⟨by rfl, rfl⟩) ?_ ?_
                              rotate_left
                              · simp only [Act.put, List.setIfInBounds_toArray, List.set_cons_zero, List.set_cons_succ, i64_w, i32_w]
                                rfl
                              refine pure_ (i := 11) (N := some 60) (v := undef) (a' := ?_) #[true, true, true, true, true, true, true, true, true, true, true, true, false, false, false, false, false, false, false, false, false, false, false, false, false, false, false, false, false] rfl rfl (any_of HT_.out (by kernel_rfl)) (fun _ _ _ h => h) (Or.inr ⟨by rfl, rfl⟩) ?_ ?_
                              rotate_left
                              · simp only [Act.put, List.setIfInBounds_toArray, List.set_cons_zero, List.set_cons_succ, i64_w, i32_w]
                                rfl
                              refine pure_ (i := 12) (N := some 61) (v := undef) (a' := ?_) #[true, true, true, true, true, true, true, true, true, true, true, true, true, false, false, false, false, false, false, false, false, false, false, false, false, false, false, false, false] rfl rfl (any_of HT_.out (by kernel_rfl)) (fun _ _ _ h => h) (Or.inr ⟨by rfl, rfl⟩) ?_ ?_
                              rotate_left
                              · simp only [Act.put, List.setIfInBounds_toArray, List.set_cons_zero, List.set_cons_succ, i64_w, i32_w]
                                rfl
                              refine pure_ (i := 13) (N := some 62) (v := undef) (a' := ?_) #[true, true, true, true, true, true, true, true, true, true, true, true, true, true, false, false, false, false, false, false, false, false, false, false, false, false, false, false, false] rfl rfl (any_of HT_.out (by kernel_rfl)) (fun _ _ _ h => h) (Or.inr ⟨by rfl, rfl⟩) ?_ ?_
                              rotate_left
                              · simp only [Act.put, List.setIfInBounds_toArray, List.set_cons_zero, List.set_cons_succ, i64_w, i32_w]
                                rfl
                              refine pure_ (i := 14) (N := some 63) (v := undef) (a' := ?_) #[true, true, true, true, true, true, true, true, true, true, true, true, true, true, true, false, false, false, false, false, false, false, false, false, false, false, false, false, false] rfl rfl (any_of HT_.out (by kernel_rfl)) (fun _ _ _ h => h) (Or.inr ⟨by rfl, rfl⟩) ?_ ?_
                              rotate_left
                              · simp only [Act.put, List.setIfInBounds_toArray, List.set_cons_zero, List.set_cons_succ, i64_w, i32_w]
                                rfl
                              refine pure_ (i := 15) (N := some 64) (v := undef) (a' := ?_) #[true, true, true, true, true, true, true, true, true, true, true, true, true, true, true, true, false, false, false, false, false, false, false, false, false, false, false, false, false] rfl rfl (any_of HT_.out (by kernel_rfl)) (fun _ _ _ h => h) (Or.inr ⟨by rfl, rfl⟩) ?_ ?_
                              rotate_left
                              · simp only [Act.put, List.setIfInBounds_toArray, List.set_cons_zero, List.set_cons_succ, i64_w, i32_w]
                                rfl
                              refine pure_ (i := 16) (N := some 65) (v := undef) (a' := ?_) #[true, true, true, true, true, true, true, true, true, true, true, true, true, true, true, true, true, false, false, false, false, false, false, false, false, false, false, false, false] rfl rfl (any_of HT_.out (by kernel_rfl)) (fun _ _ _ h => h) (Or.inr ⟨by rfl, rfl⟩) ?_ ?_
                              rotate_left
                              · simp only [Act.put, List.setIfInBounds_toArray, List.set_cons_zero, List.set_cons_succ, i64_w, i32_w]
                                rfl
                              refine pure_ (i := 17) (N := some 66) (v := undef) (a' := ?_) #[true, true, true, true, true, true, true, true, true, true, true, true, true, true, true, true, true, true, false, false, false, false, false, false, false, false, false, false, false] rfl rfl (any_of HT_.out (by kernel_rfl)) (fun _ _ _ h => h) (Or.inr ⟨by rfl, rfl⟩) ?_ ?_
                              rotate_left
                              · simp only [Act.put, List.setIfInBounds_toArray, List.set_cons_zero, List.set_cons_succ, i64_w, i32_w]
                                rfl
                              refine pure_ (i := 18) (N := some 67) (v := undef) (a' := ?_) #[true, true, true, true, true, true, true, true, true, true, true, true, true, true, true, true, true, true, true, false, false, false, false, false, false, false, false, false, false] rfl rfl (any_of HT_.out (by kernel_rfl)) (fun _ _ _ h => h) (Or.inr ⟨by rfl, rfl⟩) ?_ ?_
                              rotate_left
                              · simp only [Act.put, List.setIfInBounds_toArray, List.set_cons_zero, List.set_cons_succ, i64_w, i32_w]
                                rfl
                              refine pure_ (i := 19) (N := some 68) (v := ?_) (a' := ?_) #[true, true, true, true, true, true, true, true, true, true, true, true, true, true, true, true, true, true, true, true, false, false, false, false, false, false, false, false, false] rfl rfl (any_of HT_.out (by kernel_rfl)) (fun _ _ _ h => h) (Or.inl ⟨by rfl, ?_⟩) ?_ ?_
                              rotate_left
                              · intro w'
                                go_simp
                                with_reducible rfl
                              rotate_left
                              · simp only [Act.put, List.setIfInBounds_toArray, List.set_cons_zero, List.set_cons_succ, i64_w, i32_w]
                                rfl
                              refine pure_ (i := 20) (N := some 69) (v := ?_) (a' := ?_) #[true, true, true, true, true, true, true, true, true, true, true, true, true, true, true, true, true, true, true, true, true, false, false, false, false, false, false, false, false] rfl rfl (any_of HT_.out (by kernel_rfl)) (fun _ _ _ h => h) (Or.inl ⟨by rfl, ?_⟩) ?_ ?_
                              rotate_left
                              · intro w'
                                go_simp
                                with_reducible rfl
                              rotate_left
                              · simp only [Act.put, List.setIfInBounds_toArray, List.set_cons_zero, List.set_cons_succ, i64_w, i32_w]
                                rfl
                              refine pure_ (i := 21) (N := some 70) (v := undef) (a' := ?_) #[true, true, true, true, true, true, true, true, true, true, true, true, true, true, true, true, true, true, true, true, true, true, false, false, false, false, false, false, false] rfl rfl (any_of HT_.out (by kernel_rfl)) (fun _ _ _ h => h) (Or.inr ⟨by rfl, rfl⟩) ?_ ?_
                              rotate_left
                              · simp only [Act.put, List.setIfInBounds_toArray, List.set_cons_zero, List.set_cons_succ, i64_w, i32_w]
                                rfl
                              refine pure_ (i := 22) (N := some 71) (v := undef) (a' := ?_) #[true, true, true, true, true, true, true, true, true, true, true, true, true, true, true, true, true, true, true, true, true, true, true, false, false, false, false, false, false] rfl rfl (any_of HT_.out (by kernel_rfl)) (fun _ _ _ h => h) (Or.inr ⟨by rfl, rfl⟩) ?_ ?_
                              rotate_left
                              · simp only [Act.put, List.setIfInBounds_toArray, List.set_cons_zero, List.set_cons_succ, i64_w, i32_w]
                                rfl
                              refine pure_ (i := 23) (N := some 72) (v := undef) (a' := ?_) #[true, true, true, true, true, true, true, true, true, true, true, true, true, true, true, true, true, true, true, true, true, true, true, true, false, false, false, false, false] rfl rfl (any_of HT_.out (by kernel_rfl)) (fun _ _ _ h => h) (Or.inr ⟨by rfl, rfl⟩) ?_ ?_
                              rotate_left
                              · simp only [Act.put, List.setIfInBounds_toArray, List.set_cons_zero, List.set_cons_succ, i64_w, i32_w]
                                rfl
                              refine pure_ (i := 24) (N := some 73) (v := undef) (a' := ?_) #[true, true, true, true, true, true, true, true, true, true, true, true, true, true, true, true, true, true, true, true, true, true, true, true, true, false, false, false, false] rfl rfl (any_of HT_.out (by kernel_rfl)) (fun _ _ _ h => h) (Or.inr ⟨by rfl, rfl⟩) ?_ ?_
                              rotate_left
                              · simp only [Act.put, List.setIfInBounds_toArray, List.set_cons_zero, List.set_cons_succ, i64_w, i32_w]
                                rfl
                              refine pure_ (i := 25) (N := some 74) (v := undef) (a' := ?_) #[true, true, true, true, true, true, true, true, true, true, true, true, true, true, true, true, true, true, true, true, true, true, true, true, true, true, false, false, false] rfl rfl (any_of HT_.out (by kernel_rfl)) (fun _ _ _ h => h) (Or.inr ⟨by rfl, rfl⟩) ?_ ?_
                              rotate_left
                              · simp only [Act.put, List.setIfInBounds_toArray, List.set_cons_zero, List.set_cons_succ, i64_w, i32_w]
                                rfl
                              refine pure_ (i := 26) (N := some 75) (v := undef) (a' := ?_) #[true, true, true, true, true, true, true, true, true, true, true, true, true, true, true, true, true, true, true, true, true, true, true, true, true, true, true, false, false] rfl rfl (any_of HT_.out (by kernel_rfl)) (fun _ _ _ h => h) (Or.inr ⟨by rfl, rfl⟩) ?_ ?_
                              rotate_left
                              · simp only [Act.put, List.setIfInBounds_toArray, List.set_cons_zero, List.set_cons_succ, i64_w, i32_w]
                                rfl
                              refine pure_ (i := 27) (N := some 76) (v := undef) (a' := ?_) #[true, true, true, true, true, true, true, true, true, true, true, true, true, true, true, true, true, true, true, true, true, true, true, true, true, true, true, true, false] rfl rfl (any_of HT_.out (by kernel_rfl)) (fun _ _ _ h => h) (Or.inr ⟨by rfl, rfl⟩) ?_ ?_
                              rotate_left
                              · simp only [Act.put, List.setIfInBounds_toArray, List.set_cons_zero, List.set_cons_succ, i64_w, i32_w]
                                rfl
                              refine pure_ (i := 28) (N := some 77) (v := ?_) (a' := ?_) #[true, true, true, true, true, true, true, true, true, true, true, true, true, true, true, true, true, true, true, true, true, true, true, true, true, true, true, true, true] rfl rfl (any_of HT_.out (by kernel_rfl)) (fun _ _ _ h => h) (Or.inl ⟨by rfl, ?_⟩) ?_ ?_
                              rotate_left
                              · intro w'
                                go_simp
                                with_reducible rfl
                              rotate_left
                              · simp only [Act.put, List.setIfInBounds_toArray, List.set_cons_zero, List.set_cons_succ, i64_w, i32_w]
                                rfl
                              refine done_ (done_of HT_.out (by kernel_rfl)) ?_
                              try go_wp2
                              go_meet
                              case rel => exact ⟨_, (true), (by first | rfl | (simp; done) | (simp [*]; done)), H', ⟨by have := HJ6.out; have := HK2.out; have := HK3.out; first | omega | exact Nat.le_refl _⟩, ⟨by (with_reducible repeat (first | apply Kd.R_alloc | apply Kd.R_drewN | apply Kd.R_drew)); exact HO_12.out⟩, ⟨by (with_reducible repeat (first | refine blk_drewN ?_ _ | refine blk_drew ?_ | refine blk_alloc ?_ _)); exact BK151.out⟩, ⟨by repeat (first | (with_reducible first | exact HB.out | apply below_alloc | apply pw_below_drewN | apply below_drew1 | refine below_set ?_ GE151.out) | exact HB.out)⟩⟩
                            · replace c30 := Bool.eq_false_iff.mpr c30
                              subst c30
                              have H1 : (if (rd_T25 x12_3 x14_3).f6 = true then (if ((rd_T25 x12_3 x14_3).f7 = true) then ((tidewayref13_Ahead.f a0_0 a0_1 a0_2 a0_3 a0_4 a0_5 a0_6 a0_7 ((rd_T25 x12_3 x14_3).f0) ((rd_T25 x12_3 x14_3).f1) ((rd_T25 x12_3 x14_3).f2) ((rd_T25 x12_3 x14_3).f3) ((rd_T25 x12_3 x14_3).f4) (false) ((rd_T25 x12_3 x14_3).f6) ((rd_T25 x12_3 x14_3).f7) ((rd_T25 x12_3 x14_3).f8) ((rd_T25 x12_3 x14_3).f9) ((rd_T25 x12_3 x14_3).f10) ((rd_T25 x12_3 x14_3).f11)).bind fun t167 => (tidewayref13_Mark.j3 k3 a2 a3 x12_3 x13_3 x14_3 (!t167) a0_0 a0_1 a0_2 a0_3 a0_4 a0_5 a0_6 a0_7)) else (tidewayref13_Mark.j3 k3 a2 a3 x12_3 x13_3 x14_3 true a0_0 a0_1 a0_2 a0_3 a0_4 a0_5 a0_6 a0_7)) else ((tidewayref13_Ahead.f a0_0 a0_1 a0_2 a0_3 a0_4 a0_5 a0_6 a0_7 ((rd_T25 x12_3 x14_3).f0) ((rd_T25 x12_3 x14_3).f1) ((rd_T25 x12_3 x14_3).f2) ((rd_T25 x12_3 x14_3).f3) ((rd_T25 x12_3 x14_3).f4) (false) ((rd_T25 x12_3 x14_3).f6) ((rd_T25 x12_3 x14_3).f7) ((rd_T25 x12_3 x14_3).f8) ((rd_T25 x12_3 x14_3).f9) ((rd_T25 x12_3 x14_3).f10) ((rd_T25 x12_3 x14_3).f11)).bind fun t169 => (tidewayref13_Mark.j3 k3 a2 a3 x12_3 x13_3 x14_3 (!t169) a0_0 a0_1 a0_2 a0_3 a0_4 a0_5 a0_6 a0_7))) = some (r1, r2, r3) := by rw [if_neg (show ¬ (false = true) by decide)] at H; exact H
                              clear H
                              have H := H1
                              clear H1
                              obtain ⟨bq32, hbq32⟩ : ∃ b_ : Bool, b_ = ((rd_T25 x12_3 x14_3).f6) := ⟨_, rfl⟩
                              replace H : (if bq32 = true then (if ((rd_T25 x12_3 x14_3).f7 = true) then ((tidewayref13_Ahead.f a0_0 a0_1 a0_2 a0_3 a0_4 a0_5 a0_6 a0_7 ((rd_T25 x12_3 x14_3).f0) ((rd_T25 x12_3 x14_3).f1) ((rd_T25 x12_3 x14_3).f2) ((rd_T25 x12_3 x14_3).f3) ((rd_T25 x12_3 x14_3).f4) (false) (bq32) ((rd_T25 x12_3 x14_3).f7) ((rd_T25 x12_3 x14_3).f8) ((rd_T25 x12_3 x14_3).f9) ((rd_T25 x12_3 x14_3).f10) ((rd_T25 x12_3 x14_3).f11)).bind fun t167 => (tidewayref13_Mark.j3 k3 a2 a3 x12_3 x13_3 x14_3 (!t167) a0_0 a0_1 a0_2 a0_3 a0_4 a0_5 a0_6 a0_7)) else (tidewayref13_Mark.j3 k3 a2 a3 x12_3 x13_3 x14_3 true a0_0 a0_1 a0_2 a0_3 a0_4 a0_5 a0_6 a0_7)) else ((tidewayref13_Ahead.f a0_0 a0_1 a0_2 a0_3 a0_4 a0_5 a0_6 a0_7 ((rd_T25 x12_3 x14_3).f0) ((rd_T25 x12_3 x14_3).f1) ((rd_T25 x12_3 x14_3).f2) ((rd_T25 x12_3 x14_3).f3) ((rd_T25 x12_3 x14_3).f4) (false) (bq32) ((rd_T25 x12_3 x14_3).f7) ((rd_T25 x12_3 x14_3).f8) ((rd_T25 x12_3 x14_3).f9) ((rd_T25 x12_3 x14_3).f10) ((rd_T25 x12_3 x14_3).f11)).bind fun t169 => (tidewayref13_Mark.j3 k3 a2 a3 x12_3 x13_3 x14_3 (!t169) a0_0 a0_1 a0_2 a0_3 a0_4 a0_5 a0_6 a0_7))) = some (r1, r2, r3) := by rw [← hbq32] at H; exact H
                              have Nbq32 := Aside0.mk hbq32
                              clear hbq32
                              by_cases c33 : bq32 = true
                              · subst c33
                                have H1 : (if ((rd_T25 x12_3 x14_3).f7 = true) then ((tidewayref13_Ahead.f a0_0 a0_1 a0_2 a0_3 a0_4 a0_5 a0_6 a0_7 ((rd_T25 x12_3 x14_3).f0) ((rd_T25 x12_3 x14_3).f1) ((rd_T25 x12_3 x14_3).f2) ((rd_T25 x12_3 x14_3).f3) ((rd_T25 x12_3 x14_3).f4) (false) (true) ((rd_T25 x12_3 x14_3).f7) ((rd_T25 x12_3 x14_3).f8) ((rd_T25 x12_3 x14_3).f9) ((rd_T25 x12_3 x14_3).f10) ((rd_T25 x12_3 x14_3).f11)).bind fun t167 => (tidewayref13_Mark.j3 k3 a2 a3 x12_3 x13_3 x14_3 (!t167) a0_0 a0_1 a0_2 a0_3 a0_4 a0_5 a0_6 a0_7)) else (tidewayref13_Mark.j3 k3 a2 a3 x12_3 x13_3 x14_3 true a0_0 a0_1 a0_2 a0_3 a0_4 a0_5 a0_6 a0_7)) = some (r1, r2, r3) := by rw [if_pos rfl] at H; exact H
                                clear H
                                have H := H1
                                clear H1
                                obtain ⟨bq34, hbq34⟩ : ∃ b_ : Bool, b_ = ((rd_T25 x12_3 x14_3).f7) := ⟨_, rfl⟩
                                replace H : (if (bq34 = true) then ((tidewayref13_Ahead.f a0_0 a0_1 a0_2 a0_3 a0_4 a0_5 a0_6 a0_7 ((rd_T25 x12_3 x14_3).f0) ((rd_T25 x12_3 x14_3).f1) ((rd_T25 x12_3 x14_3).f2) ((rd_T25 x12_3 x14_3).f3) ((rd_T25 x12_3 x14_3).f4) (false) (true) (bq34) ((rd_T25 x12_3 x14_3).f8) ((rd_T25 x12_3 x14_3).f9) ((rd_T25 x12_3 x14_3).f10) ((rd_T25 x12_3 x14_3).f11)).bind fun t167 => (tidewayref13_Mark.j3 k3 a2 a3 x12_3 x13_3 x14_3 (!t167) a0_0 a0_1 a0_2 a0_3 a0_4 a0_5 a0_6 a0_7)) else (tidewayref13_Mark.j3 k3 a2 a3 x12_3 x13_3 x14_3 true a0_0 a0_1 a0_2 a0_3 a0_4 a0_5 a0_6 a0_7)) = some (r1, r2, r3) := by rw [← hbq34] at H; exact H
                                have Nbq34 := Aside0.mk hbq34
                                clear hbq34
                                by_cases c35 : (bq34 = true)
                                · subst c35
                                  have H1 : ((tidewayref13_Ahead.f a0_0 a0_1 a0_2 a0_3 a0_4 a0_5 a0_6 a0_7 ((rd_T25 x12_3 x14_3).f0) ((rd_T25 x12_3 x14_3).f1) ((rd_T25 x12_3 x14_3).f2) ((rd_T25 x12_3 x14_3).f3) ((rd_T25 x12_3 x14_3).f4) (false) (true) (true) ((rd_T25 x12_3 x14_3).f8) ((rd_T25 x12_3 x14_3).f9) ((rd_T25 x12_3 x14_3).f10) ((rd_T25 x12_3 x14_3).f11)).bind fun t167 => (tidewayref13_Mark.j3 k3 a2 a3 x12_3 x13_3 x14_3 (!t167) a0_0 a0_1 a0_2 a0_3 a0_4 a0_5 a0_6 a0_7)) = some (r1, r2, r3) := by rw [if_pos rfl] at H; exact H
                                  clear H
                                  have H := H1
                                  clear H1
                                  replace H := Option.bind_eq_some_iff.mp H
                                  obtain ⟨t167, A360, H⟩ := H
                                  replace H : (tidewayref13_Mark.j3 k3 a2 a3 x12_3 x13_3 x14_3 (!t167) a0_0 a0_1 a0_2 a0_3 a0_4 a0_5 a0_6 a0_7) = some (r1, r2, r3) := H
                                  have A36 := Aside0.mk A360
                                  clear A360
                                  have H' := Aside0.mk H
                                  clear H
                                  try go_wp2
                                  have n0_ := Aside0.mk (Kd.R_drew HO_12.out)
                                  have n1_ := Aside0.mk (blk_drew BK151.out)
                                  have n2_ := Aside0.mk (below_drew1 HB.out)
                                  clear HO_12
                                  clear BK151
                                  clear HB
                                  have HO_12 := n0_
                                  have BK151 := n1_
                                  have HB := n2_
                                  clear n0_ n1_ n2_
                                  have p163 : 0 ≤ (x14_3 : Int) := of_decide_eq_true (by first | (with_reducible assumption) | assumption)
                                  have q163 : x14_3 < (x12_3.length : Int) := of_decide_eq_true (by first | (with_reducible assumption) | assumption)
                                  obtain ⟨ad163, e163, hx163_0, hx163_1, hx163_2, hx163_3, hx163_4, hx163_5, hx163_6, hx163_7, hx163_8, hx163_9, hx163_10, hx163_11⟩ := at_T25 (Kd.R_reads' HO_12.out).2.2 x14_3 p163 q163
                                  (try rw [← Nbq29.out] at hx163_2)
                                  (try rw [← Nbq32.out] at hx163_2)
                                  (try rw [← Nbq34.out] at hx163_2)
                                  (try rw [← Nbq29.out] at hx163_5)
                                  (try rw [← Nbq32.out] at hx163_5)
                                  (try rw [← Nbq34.out] at hx163_5)
                                  (try rw [← Nbq29.out] at hx163_6)
                                  (try rw [← Nbq32.out] at hx163_6)
                                  (try rw [← Nbq34.out] at hx163_6)
                                  (try rw [← Nbq29.out] at hx163_7)
                                  (try rw [← Nbq32.out] at hx163_7)
                                  (try rw [← Nbq34.out] at hx163_7)
                                  (try rw [← Nbq29.out] at hx163_11)
                                  (try rw [← Nbq32.out] at hx163_11)
                                  (try rw [← Nbq34.out] at hx163_11)
                                  cases e163
                                  replace p163 := eq_true p163
                                  replace q163 := eq_true q163
                                  have p164 : 0 ≤ (x14_3 : Int) := of_decide_eq_true (by first | (with_reducible assumption) | assumption)
                                  have q164 : x14_3 < (x12_3.length : Int) := of_decide_eq_true (by first | (with_reducible assumption) | assumption)
                                  obtain ⟨ad164, e164, hx164_0, hx164_1, hx164_2, hx164_3, hx164_4, hx164_5, hx164_6, hx164_7, hx164_8, hx164_9, hx164_10, hx164_11⟩ := at_T25 (Kd.R_reads' HO_12.out).2.2 x14_3 p164 q164
                                  (try rw [← Nbq29.out] at hx164_2)
                                  (try rw [← Nbq32.out] at hx164_2)
                                  (try rw [← Nbq34.out] at hx164_2)
                                  (try rw [← Nbq29.out] at hx164_5)
                                  (try rw [← Nbq32.out] at hx164_5)
                                  (try rw [← Nbq34.out] at hx164_5)
                                  (try rw [← Nbq29.out] at hx164_6)
                                  (try rw [← Nbq32.out] at hx164_6)
                                  (try rw [← Nbq34.out] at hx164_6)
                                  (try rw [← Nbq29.out] at hx164_7)
                                  (try rw [← Nbq32.out] at hx164_7)
                                  (try rw [← Nbq34.out] at hx164_7)
                                  (try rw [← Nbq29.out] at hx164_11)
                                  (try rw [← Nbq32.out] at hx164_11)
                                  (try rw [← Nbq34.out] at hx164_11)
                                  obtain rfl : ad163 = ad164 := (by injection e164)
                                  replace p164 := eq_true p164
                                  replace q164 := eq_true q164
                                  have p165 : 0 ≤ (x14_3 : Int) := of_decide_eq_true (by first | (with_reducible assumption) | assumption)
                                  have q165 : x14_3 < (x12_3.length : Int) := of_decide_eq_true (by first | (with_reducible assumption) | assumption)
                                  obtain ⟨ad165, e165, hx165_0, hx165_1, hx165_2, hx165_3, hx165_4, hx165_5, hx165_6, hx165_7, hx165_8, hx165_9, hx165_10, hx165_11⟩ := at_T25 (Kd.R_reads' HO_12.out).2.2 x14_3 p165 q165
                                  (try rw [← Nbq29.out] at hx165_2)
                                  (try rw [← Nbq32.out] at hx165_2)
                                  (try rw [← Nbq34.out] at hx165_2)
                                  (try rw [← Nbq29.out] at hx165_5)
                                  (try rw [← Nbq32.out] at hx165_5)
                                  (try rw [← Nbq34.out] at hx165_5)
                                  (try rw [← Nbq29.out] at hx165_6)
                                  (try rw [← Nbq32.out] at hx165_6)
                                  (try rw [← Nbq34.out] at hx165_6)
                                  (try rw [← Nbq29.out] at hx165_7)
                                  (try rw [← Nbq32.out] at hx165_7)
                                  (try rw [← Nbq34.out] at hx165_7)
                                  (try rw [← Nbq29.out] at hx165_11)
                                  (try rw [← Nbq32.out] at hx165_11)
                                  (try rw [← Nbq34.out] at hx165_11)
                                  obtain rfl : ad163 = ad165 := (by injection e165)
                                  replace p165 := eq_true p165
                                  replace q165 := eq_true q165
                                  have p166 : 0 ≤ (x14_3 : Int) := of_decide_eq_true (by first | (with_reducible assumption) | assumption)
                                  have q166 : x14_3 < (x12_3.length : Int) := of_decide_eq_true (by first | (with_reducible assumption) | assumption)
                                  obtain ⟨ad166, e166, hx166_0, hx166_1, hx166_2, hx166_3, hx166_4, hx166_5, hx166_6, hx166_7, hx166_8, hx166_9, hx166_10, hx166_11⟩ := at_T25 (Kd.R_reads' HO_12.out).2.2 x14_3 p166 q166
                                  (try rw [← Nbq29.out] at hx166_2)
                                  (try rw [← Nbq32.out] at hx166_2)
                                  (try rw [← Nbq34.out] at hx166_2)
                                  (try rw [← Nbq29.out] at hx166_5)
                                  (try rw [← Nbq32.out] at hx166_5)
                                  (try rw [← Nbq34.out] at hx166_5)
                                  (try rw [← Nbq29.out] at hx166_6)
                                  (try rw [← Nbq32.out] at hx166_6)
                                  (try rw [← Nbq34.out] at hx166_6)
                                  (try rw [← Nbq29.out] at hx166_7)
                                  (try rw [← Nbq32.out] at hx166_7)
                                  (try rw [← Nbq34.out] at hx166_7)
                                  (try rw [← Nbq29.out] at hx166_11)
                                  (try rw [← Nbq32.out] at hx166_11)
                                  (try rw [← Nbq34.out] at hx166_11)
                                  obtain rfl : ad163 = ad166 := (by injection e166)
                                  replace p166 := eq_true p166
                                  replace q166 := eq_true q166
                                  refine start_ (n := 29) (S := fun w' => w'.cell? ⟨gb151, 0, none⟩ = some (.int .i64 a0_0) ∧ w'.cell? ⟨gb151, 1, none⟩ = some (.int .i64 a0_1) ∧ w'.cell? ⟨gb151, 2, none⟩ = some (.int .i64 a0_2) ∧ w'.cell? ⟨gb151, 3, none⟩ = some (.bool a0_3) ∧ w'.cell? ⟨gb151, 4, none⟩ = some (.int .i64 a0_4) ∧ w'.cell? ⟨gb151, 5, none⟩ = some (.int .i64 a0_5) ∧ w'.cell? ⟨gb151, 6, none⟩ = some (.int .i64 a0_6) ∧ w'.cell? ⟨gb151, 7, none⟩ = some (.int .i64 a0_7) ∧ w'.cell? (ad163.add ((x14_3).toNat * 12)) = some (.int .i64 ((rd_T25 x12_3 x14_3).f0)) ∧ w'.cell? ⟨(ad163.add ((x14_3).toNat * 12)).block, (ad163.add ((x14_3).toNat * 12)).off + 1, none⟩ = some (.int .i64 ((rd_T25 x12_3 x14_3).f1)) ∧ w'.cell? ⟨(ad163.add ((x14_3).toNat * 12)).block, (ad163.add ((x14_3).toNat * 12)).off + 2, none⟩ = some (.bool ((rd_T25 x12_3 x14_3).f2)) ∧ w'.cell? ⟨(ad163.add ((x14_3).toNat * 12)).block, (ad163.add ((x14_3).toNat * 12)).off + 3, none⟩ = some (.int .i64 ((rd_T25 x12_3 x14_3).f3)) ∧ w'.cell? ⟨(ad163.add ((x14_3).toNat * 12)).block, (ad163.add ((x14_3).toNat * 12)).off + 4, none⟩ = some (.int .i64 ((rd_T25 x12_3 x14_3).f4)) ∧ w'.cell? ⟨(ad163.add ((x14_3).toNat * 12)).block, (ad163.add ((x14_3).toNat * 12)).off + 5, none⟩ = some (.bool false) ∧ w'.cell? ⟨(ad163.add ((x14_3).toNat * 12)).block, (ad163.add ((x14_3).toNat * 12)).off + 6, none⟩ = some (.bool true) ∧ w'.cell? ⟨(ad163.add ((x14_3).toNat * 12)).block, (ad163.add ((x14_3).toNat * 12)).off + 7, none⟩ = some (.bool true) ∧ w'.cell? ⟨(ad163.add ((x14_3).toNat * 12)).block, (ad163.add ((x14_3).toNat * 12)).off + 8, none⟩ = some (.int .i64 ((rd_T25 x12_3 x14_3).f8)) ∧ w'.cell? ⟨(ad163.add ((x14_3).toNat * 12)).block, (ad163.add ((x14_3).toNat * 12)).off + 9, none⟩ = some (.int .i64 ((rd_T25 x12_3 x14_3).f9)) ∧ w'.cell? ⟨(ad163.add ((x14_3).toNat * 12)).block, (ad163.add ((x14_3).toNat * 12)).off + 10, none⟩ = some (.int .i64 ((rd_T25 x12_3 x14_3).f10)) ∧ w'.cell? ⟨(ad163.add ((x14_3).toNat * 12)).block, (ad163.add ((x14_3).toNat * 12)).off + 11, none⟩ = some (.bool ((rd_T25 x12_3 x14_3).f11)) ∧ w'.cell? (ad163.add ((x14_3).toNat * 12)) = some (.int .i64 ((rd_T25 x12_3 x14_3).f0)) ∧ w'.cell? ⟨(ad163.add ((x14_3).toNat * 12)).block, (ad163.add ((x14_3).toNat * 12)).off + 1, none⟩ = some (.int .i64 ((rd_T25 x12_3 x14_3).f1)) ∧ w'.cell? ⟨(ad163.add ((x14_3).toNat * 12)).block, (ad163.add ((x14_3).toNat * 12)).off + 2, none⟩ = some (.bool ((rd_T25 x12_3 x14_3).f2)) ∧ w'.cell? ⟨(ad163.add ((x14_3).toNat * 12)).block, (ad163.add ((x14_3).toNat * 12)).off + 3, none⟩ = some (.int .i64 ((rd_T25 x12_3 x14_3).f3)) ∧ w'.cell? ⟨(ad163.add ((x14_3).toNat * 12)).block, (ad163.add ((x14_3).toNat * 12)).off + 4, none⟩ = some (.int .i64 ((rd_T25 x12_3 x14_3).f4)) ∧ w'.cell? ⟨(ad163.add ((x14_3).toNat * 12)).block, (ad163.add ((x14_3).toNat * 12)).off + 5, none⟩ = some (.bool (false)) ∧ w'.cell? ⟨(ad163.add ((x14_3).toNat * 12)).block, (ad163.add ((x14_3).toNat * 12)).off + 6, none⟩ = some (.bool true) ∧ w'.cell? ⟨(ad163.add ((x14_3).toNat * 12)).block, (ad163.add ((x14_3).toNat * 12)).off + 7, none⟩ = some (.bool true) ∧ w'.cell? ⟨(ad163.add ((x14_3).toNat * 12)).block, (ad163.add ((x14_3).toNat * 12)).off + 8, none⟩ = some (.int .i64 ((rd_T25 x12_3 x14_3).f8)) ∧ w'.cell? ⟨(ad163.add ((x14_3).toNat * 12)).block, (ad163.add ((x14_3).toNat * 12)).off + 9, none⟩ = some (.int .i64 ((rd_T25 x12_3 x14_3).f9)) ∧ w'.cell? ⟨(ad163.add ((x14_3).toNat * 12)).block, (ad163.add ((x14_3).toNat * 12)).off + 10, none⟩ = some (.int .i64 ((rd_T25 x12_3 x14_3).f10)) ∧ w'.cell? ⟨(ad163.add ((x14_3).toNat * 12)).block, (ad163.add ((x14_3).toNat * 12)).off + 11, none⟩ = some (.bool ((rd_T25 x12_3 x14_3).f11)) ∧ w'.cell? (ad163.add ((x14_3).toNat * 12)) = some (.int .i64 ((rd_T25 x12_3 x14_3).f0)) ∧ w'.cell? ⟨(ad163.add ((x14_3).toNat * 12)).block, (ad163.add ((x14_3).toNat * 12)).off + 1, none⟩ = some (.int .i64 ((rd_T25 x12_3 x14_3).f1)) ∧ w'.cell? ⟨(ad163.add ((x14_3).toNat * 12)).block, (ad163.add ((x14_3).toNat * 12)).off + 2, none⟩ = some (.bool ((rd_T25 x12_3 x14_3).f2)) ∧ w'.cell? ⟨(ad163.add ((x14_3).toNat * 12)).block, (ad163.add ((x14_3).toNat * 12)).off + 3, none⟩ = some (.int .i64 ((rd_T25 x12_3 x14_3).f3)) ∧ w'.cell? ⟨(ad163.add ((x14_3).toNat * 12)).block, (ad163.add ((x14_3).toNat * 12)).off + 4, none⟩ = some (.int .i64 ((rd_T25 x12_3 x14_3).f4)) ∧ w'.cell? ⟨(ad163.add ((x14_3).toNat * 12)).block, (ad163.add ((x14_3).toNat * 12)).off + 5, none⟩ = some (.bool (false)) ∧ w'.cell? ⟨(ad163.add ((x14_3).toNat * 12)).block, (ad163.add ((x14_3).toNat * 12)).off + 6, none⟩ = some (.bool (true)) ∧ w'.cell? ⟨(ad163.add ((x14_3).toNat * 12)).block, (ad163.add ((x14_3).toNat * 12)).off + 7, none⟩ = some (.bool true) ∧ w'.cell? ⟨(ad163.add ((x14_3).toNat * 12)).block, (ad163.add ((x14_3).toNat * 12)).off + 8, none⟩ = some (.int .i64 ((rd_T25 x12_3 x14_3).f8)) ∧ w'.cell? ⟨(ad163.add ((x14_3).toNat * 12)).block, (ad163.add ((x14_3).toNat * 12)).off + 9, none⟩ = some (.int .i64 ((rd_T25 x12_3 x14_3).f9)) ∧ w'.cell? ⟨(ad163.add ((x14_3).toNat * 12)).block, (ad163.add ((x14_3).toNat * 12)).off + 10, none⟩ = some (.int .i64 ((rd_T25 x12_3 x14_3).f10)) ∧ w'.cell? ⟨(ad163.add ((x14_3).toNat * 12)).block, (ad163.add ((x14_3).toNat * 12)).off + 11, none⟩ = some (.bool ((rd_T25 x12_3 x14_3).f11)) ∧ w'.cell? (ad163.add ((x14_3).toNat * 12)) = some (.int .i64 ((rd_T25 x12_3 x14_3).f0)) ∧ w'.cell? ⟨(ad163.add ((x14_3).toNat * 12)).block, (ad163.add ((x14_3).toNat * 12)).off + 1, none⟩ = some (.int .i64 ((rd_T25 x12_3 x14_3).f1)) ∧ w'.cell? ⟨(ad163.add ((x14_3).toNat * 12)).block, (ad163.add ((x14_3).toNat * 12)).off + 2, none⟩ = some (.bool ((rd_T25 x12_3 x14_3).f2)) ∧ w'.cell? ⟨(ad163.add ((x14_3).toNat * 12)).block, (ad163.add ((x14_3).toNat * 12)).off + 3, none⟩ = some (.int .i64 ((rd_T25 x12_3 x14_3).f3)) ∧ w'.cell? ⟨(ad163.add ((x14_3).toNat * 12)).block, (ad163.add ((x14_3).toNat * 12)).off + 4, none⟩ = some (.int .i64 ((rd_T25 x12_3 x14_3).f4)) ∧ w'.cell? ⟨(ad163.add ((x14_3).toNat * 12)).block, (ad163.add ((x14_3).toNat * 12)).off + 5, none⟩ = some (.bool (false)) ∧ w'.cell? ⟨(ad163.add ((x14_3).toNat * 12)).block, (ad163.add ((x14_3).toNat * 12)).off + 6, none⟩ = some (.bool (true)) ∧ w'.cell? ⟨(ad163.add ((x14_3).toNat * 12)).block, (ad163.add ((x14_3).toNat * 12)).off + 7, none⟩ = some (.bool (true)) ∧ w'.cell? ⟨(ad163.add ((x14_3).toNat * 12)).block, (ad163.add ((x14_3).toNat * 12)).off + 8, none⟩ = some (.int .i64 ((rd_T25 x12_3 x14_3).f8)) ∧ w'.cell? ⟨(ad163.add ((x14_3).toNat * 12)).block, (ad163.add ((x14_3).toNat * 12)).off + 9, none⟩ = some (.int .i64 ((rd_T25 x12_3 x14_3).f9)) ∧ w'.cell? ⟨(ad163.add ((x14_3).toNat * 12)).block, (ad163.add ((x14_3).toNat * 12)).off + 10, none⟩ = some (.int .i64 ((rd_T25 x12_3 x14_3).f10)) ∧ w'.cell? ⟨(ad163.add ((x14_3).toNat * 12)).block, (ad163.add ((x14_3).toNat * 12)).off + 11, none⟩ = some (.bool ((rd_T25 x12_3 x14_3).f11))) (ds := []) #[false, false, false, false, false, false, false, false, false, false, false, false, false, false, false, false, false, false, false, false, false, false, false, false, false, false, false, false, false] (by kernel_rfl) rfl rfl ⟨(blk_cell BK151.out 0).trans rfl, (blk_cell BK151.out 1).trans rfl, (blk_cell BK151.out 2).trans rfl, (blk_cell BK151.out 3).trans rfl, (blk_cell BK151.out 4).trans rfl, (blk_cell BK151.out 5).trans rfl, (blk_cell BK151.out 6).trans rfl, (blk_cell BK151.out 7).trans rfl, hx163_0, hx163_1, hx163_2, hx163_3, hx163_4, hx163_5, hx163_6, hx163_7, hx163_8, hx163_9, hx163_10, hx163_11, hx164_0, hx164_1, hx164_2, hx164_3, hx164_4, hx164_5, hx164_6, hx164_7, hx164_8, hx164_9, hx164_10, hx164_11, hx165_0, hx165_1, hx165_2, hx165_3, hx165_4, hx165_5, hx165_6, hx165_7, hx165_8, hx165_9, hx165_10, hx165_11, hx166_0, hx166_1, hx166_2, hx166_3, hx166_4, hx166_5, hx166_6, hx166_7, hx166_8, hx166_9, hx166_10, hx166_11⟩ (fun hHeld => ?_); refine with_tabW tidewayref13_Mark.tab15 tidewayref13_Mark.bits15 (fun HT_ HW_ => ?_)
                                  generalize wr.drew = w37 at HO_12 BK151 HB hx163_0 hx163_1 hx163_10 hx163_11 hx163_2 hx163_3 hx163_4 hx163_5 hx163_6 hx163_7 hx163_8 hx163_9 hx164_0 hx164_1 hx164_10 hx164_11 hx164_2 hx164_3 hx164_4 hx164_5 hx164_6 hx164_7 hx164_8 hx164_9 hx165_0 hx165_1 hx165_10 hx165_11 hx165_2 hx165_3 hx165_4 hx165_5 hx165_6 hx165_7 hx165_8 hx165_9 hx166_0 hx166_1 hx166_10 hx166_11 hx166_2 hx166_3 hx166_4 hx166_5 hx166_6 hx166_7 hx166_8 hx166_9 hHeld ⊢
                                  refine pure_ (i := 0) (N := some 49) (v := ?_) (a' := ?_) #[true, false, false, false, false, false, false, false, false, false, false, false, false, false, false, false, false, false, false, false, false, false, false, false, false, false, false, false, false] rfl rfl (any_of HT_.out (by kernel_rfl)) (fun _ _ _ h => h) (Or.inl ⟨by rfl, ?_⟩) ?_ ?_
                                  rotate_left
                                  · intro w'
                                    go_simp
                                    with_reducible rfl
                                  rotate_left
                                  · simp only [Act.put, List.setIfInBounds_toArray, List.set_cons_zero, List.set_cons_succ, i64_w, i32_w]
                                    rfl
                                  refine pure_ (i := 1) (N := some 50) (v := ?_) (a' := ?_) #[true, true, false, false, false, false, false, false, false, false, false, false, false, false, false, false, false, false, false, false, false, false, false, false, false, false, false, false, false] rfl rfl (any_of HT_.out (by kernel_rfl)) (fun _ _ _ h => h) (Or.inl ⟨by rfl, ?_⟩) ?_ ?_
                                  rotate_left
                                  · intro w'
                                    go_simp
                                    with_reducible rfl
                                  rotate_left
                                  · simp only [Act.put, List.setIfInBounds_toArray, List.set_cons_zero, List.set_cons_succ, i64_w, i32_w]
                                    rfl
                                  refine pure_ (i := 2) (N := some 51) (v := ?_) (a' := ?_) #[true, true, true, false, false, false, false, false, false, false, false, false, false, false, false, false, false, false, false, false, false, false, false, false, false, false, false, false, false] rfl rfl (any_of HT_.out (by kernel_rfl)) (fun _ _ _ h => h) (Or.inl ⟨by rfl, ?_⟩) ?_ ?_
                                  rotate_left
                                  · intro w'
                                    go_simp
                                    with_reducible rfl
                                  rotate_left
                                  · simp only [Act.put, List.setIfInBounds_toArray, List.set_cons_zero, List.set_cons_succ, i64_w, i32_w]
                                    rfl
                                  refine pure_ (i := 3) (N := some 52) (v := ?_) (a' := ?_) #[true, true, true, true, false, false, false, false, false, false, false, false, false, false, false, false, false, false, false, false, false, false, false, false, false, false, false, false, false] rfl rfl (any_of HT_.out (by kernel_rfl)) (fun _ _ _ h => h) (Or.inl ⟨by rfl, ?_⟩) ?_ ?_
                                  rotate_left
                                  · intro w'
                                    go_simp
                                    with_reducible rfl
                                  rotate_left
                                  · simp only [Act.put, List.setIfInBounds_toArray, List.set_cons_zero, List.set_cons_succ, i64_w, i32_w]
                                    rfl
                                  refine take_ (i := 4) (N := some 53) (v := ?_) (a' := ?_) #[true, true, true, true, true, false, false, false, false, false, false, false, false, false, false, false, false, false, false, false, false, false, false, false, false, false, false, false, false] rfl rfl (take_ofW HT_.out HW_.out (by kernel_rfl)) (fun _ _ _ h => h) (Or.inl ⟨by rfl, ?_⟩) hHeld ?_ ?_
                                  rotate_left
                                  · rintro w' ⟨s0, s1, s2, s3, s4, s5, s6, s7, s8, s9, s10, s11, s12, s13, s14, s15, s16, s17, s18, s19, s20, s21, s22, s23, s24, s25, s26, s27, s28, s29, s30, s31, s32, s33, s34, s35, s36, s37, s38, s39, s40, s41, s42, s43, s44, s45, s46, s47, s48, s49, s50, s51, s52, s53, s54, s55⟩
                                    go_simp
                                    with_reducible rfl
                                  rotate_left
                                  · simp only [Act.put, List.setIfInBounds_toArray, List.set_cons_zero, List.set_cons_succ, i64_w, i32_w]
                                    rfl
                                  refine pure_ (i := 5) (N := some 54) (v := ?_) (a' := ?_) #[true, true, true, true, true, true, false, false, false, false, false, false, false, false, false, false, false, false, false, false, false, false, false, false, false, false, false, false, false] rfl rfl (any_of HT_.out (by kernel_rfl)) (fun _ _ _ h => h) (Or.inl ⟨by rfl, ?_⟩) ?_ ?_
                                  rotate_left
                                  · intro w'
                                    go_simp
                                    with_reducible rfl
                                  rotate_left
                                  · simp only [Act.put, List.setIfInBounds_toArray, List.set_cons_zero, List.set_cons_succ, i64_w, i32_w]
                                    rfl
                                  refine pure_ (i := 6) (N := some 55) (v := ?_) (a' := ?_) #[true, true, true, true, true, true, true, false, false, false, false, false, false, false, false, false, false, false, false, false, false, false, false, false, false, false, false, false, false] rfl rfl (any_of HT_.out (by kernel_rfl)) (fun _ _ _ h => h) (Or.inl ⟨by rfl, ?_⟩) ?_ ?_
                                  rotate_left
                                  · intro w'
                                    go_simp
                                    with_reducible rfl
                                  rotate_left
                                  · simp only [Act.put, List.setIfInBounds_toArray, List.set_cons_zero, List.set_cons_succ, i64_w, i32_w]
                                    rfl
                                  refine pure_ (i := 7) (N := some 56) (v := ?_) (a' := ?_) #[true, true, true, true, true, true, true, true, false, false, false, false, false, false, false, false, false, false, false, false, false, false, false, false, false, false, false, false, false] rfl rfl (any_of HT_.out (by kernel_rfl)) (fun _ _ _ h => h) (Or.inl ⟨by rfl, ?_⟩) ?_ ?_
                                  rotate_left
                                  · intro w'
                                    go_simp
                                    with_reducible rfl
                                  rotate_left
                                  · simp only [Act.put, List.setIfInBounds_toArray, List.set_cons_zero, List.set_cons_succ, i64_w, i32_w]
                                    rfl
                                  refine pure_ (i := 8) (N := some 57) (v := ?_) (a' := ?_) #[true, true, true, true, true, true, true, true, true, false, false, false, false, false, false, false, false, false, false, false, false, false, false, false, false, false, false, false, false] rfl rfl (any_of HT_.out (by kernel_rfl)) (fun _ _ _ h => h) (Or.inl ⟨by rfl, ?_⟩) ?_ ?_
                                  rotate_left
                                  · intro w'
                                    go_simp
                                    with_reducible rfl
                                  rotate_left
                                  · simp only [Act.put, List.setIfInBounds_toArray, List.set_cons_zero, List.set_cons_succ, i64_w, i32_w]
                                    rfl
                                  refine pure_ (i := 9) (N := some 58) (v := ?_) (a' := ?_) #[true, true, true, true, true, true, true, true, true, true, false, false, false, false, false, false, false, false, false, false, false, false, false, false, false, false, false, false, false] rfl rfl (any_of HT_.out (by kernel_rfl)) (fun _ _ _ h => h) (Or.inl ⟨by rfl, ?_⟩) ?_ ?_
                                  rotate_left
                                  · intro w'
                                    go_simp
                                    with_reducible rfl
                                  rotate_left
                                  · simp only [Act.put, List.setIfInBounds_toArray, List.set_cons_zero, List.set_cons_succ, i64_w, i32_w]
                                    rfl
                                  refine take_ (i := 10) (N := some 59) (v := ?_) (a' := ?_) #[true, true, true, true, true, true, true, true, true, true, true, false, false, false, false, false, false, false, false, false, false, false, false, false, false, false, false, false, false] rfl rfl (take_ofW HT_.out HW_.out (by kernel_rfl)) (fun _ _ _ h => h) (Or.inl ⟨by rfl, ?_⟩) hHeld ?_ ?_
                                  rotate_left
                                  · rintro w' ⟨s0, s1, s2, s3, s4, s5, s6, s7, s8, s9, s10, s11, s12, s13, s14, s15, s16, s17, s18, s19, s20, s21, s22, s23, s24, s25, s26, s27, s28, s29, s30, s31, s32, s33, s34, s35, s36, s37, s38, s39, s40, s41, s42, s43, s44, s45, s46, s47, s48, s49, s50, s51, s52, s53, s54, s55⟩
                                    go_simp
                                    with_reducible rfl
                                  rotate_left
                                  · simp only [Act.put, List.setIfInBounds_toArray, List.set_cons_zero, List.set_cons_succ, i64_w, i32_w]
                                    rfl
                                  refine pure_ (i := 11) (N := some 60) (v := ?_) (a' := ?_) #[true, true, true, true, true, true, true, true, true, true, true, true, false, false, false, false, false, false, false, false, false, false, false, false, false, false, false, false, false] rfl rfl (any_of HT_.out (by kernel_rfl)) (fun _ _ _ h => h) (Or.inl ⟨by rfl, ?_⟩) ?_ ?_
                                  rotate_left
                                  · intro w'
                                    go_simp
                                    with_reducible rfl
                                  rotate_left
                                  · simp only [Act.put, List.setIfInBounds_toArray, List.set_cons_zero, List.set_cons_succ, i64_w, i32_w]
                                    rfl
                                  refine pure_ (i := 12) (N := some 61) (v := ?_) (a' := ?_) #[true, true, true, true, true, true, true, true, true, true, true, true, true, false, false, false, false, false, false, false, false, false, false, false, false, false, false, false, false] rfl rfl (any_of HT_.out (by kernel_rfl)) (fun _ _ _ h => h) (Or.inl ⟨by rfl, ?_⟩) ?_ ?_
                                  rotate_left
                                  · intro w'
                                    go_simp
                                    with_reducible rfl
                                  rotate_left
                                  · simp only [Act.put, List.setIfInBounds_toArray, List.set_cons_zero, List.set_cons_succ, i64_w, i32_w]
                                    rfl
                                  refine pure_ (i := 13) (N := some 62) (v := ?_) (a' := ?_) #[true, true, true, true, true, true, true, true, true, true, true, true, true, true, false, false, false, false, false, false, false, false, false, false, false, false, false, false, false] rfl rfl (any_of HT_.out (by kernel_rfl)) (fun _ _ _ h => h) (Or.inl ⟨by rfl, ?_⟩) ?_ ?_
                                  rotate_left
                                  · intro w'
                                    go_simp
                                    with_reducible rfl
                                  rotate_left
                                  · simp only [Act.put, List.setIfInBounds_toArray, List.set_cons_zero, List.set_cons_succ, i64_w, i32_w]
                                    rfl
                                  refine pure_ (i := 14) (N := some 63) (v := ?_) (a' := ?_) #[true, true, true, true, true, true, true, true, true, true, true, true, true, true, true, false, false, false, false, false, false, false, false, false, false, false, false, false, false] rfl rfl (any_of HT_.out (by kernel_rfl)) (fun _ _ _ h => h) (Or.inl ⟨by rfl, ?_⟩) ?_ ?_
                                  rotate_left
                                  · intro w'
                                    go_simp
                                    with_reducible rfl
                                  rotate_left
                                  · simp only [Act.put, List.setIfInBounds_toArray, List.set_cons_zero, List.set_cons_succ, i64_w, i32_w]
                                    rfl
                                  refine pure_ (i := 15) (N := some 64) (v := ?_) (a' := ?_) #[true, true, true, true, true, true, true, true, true, true, true, true, true, true, true, true, false, false, false, false, false, false, false, false, false, false, false, false, false] rfl rfl (any_of HT_.out (by kernel_rfl)) (fun _ _ _ h => h) (Or.inl ⟨by rfl, ?_⟩) ?_ ?_
                                  rotate_left
                                  · intro w'
                                    go_simp
                                    with_reducible rfl
                                  rotate_left
                                  · simp only [Act.put, List.setIfInBounds_toArray, List.set_cons_zero, List.set_cons_succ, i64_w, i32_w]
                                    rfl
                                  refine take_ (i := 16) (N := some 65) (v := ?_) (a' := ?_) #[true, true, true, true, true, true, true, true, true, true, true, true, true, true, true, true, true, false, false, false, false, false, false, false, false, false, false, false, false] rfl rfl (take_ofW HT_.out HW_.out (by kernel_rfl)) (fun _ _ _ h => h) (Or.inl ⟨by rfl, ?_⟩) hHeld ?_ ?_
                                  rotate_left
                                  · rintro w' ⟨s0, s1, s2, s3, s4, s5, s6, s7, s8, s9, s10, s11, s12, s13, s14, s15, s16, s17, s18, s19, s20, s21, s22, s23, s24, s25, s26, s27, s28, s29, s30, s31, s32, s33, s34, s35, s36, s37, s38, s39, s40, s41, s42, s43, s44, s45, s46, s47, s48, s49, s50, s51, s52, s53, s54, s55⟩
                                    go_simp
                                    with_reducible rfl
                                  rotate_left
                                  · simp only [Act.put, List.setIfInBounds_toArray, List.set_cons_zero, List.set_cons_succ, i64_w, i32_w]
                                    rfl
                                  refine pure_ (i := 17) (N := some 66) (v := ?_) (a' := ?_) #[true, true, true, true, true, true, true, true, true, true, true, true, true, true, true, true, true, true, false, false, false, false, false, false, false, false, false, false, false] rfl rfl (any_of HT_.out (by kernel_rfl)) (fun _ _ _ h => h) (Or.inl ⟨by rfl, ?_⟩) ?_ ?_
                                  rotate_left
                                  · intro w'
                                    go_simp
                                    with_reducible rfl
                                  rotate_left
                                  · simp only [Act.put, List.setIfInBounds_toArray, List.set_cons_zero, List.set_cons_succ, i64_w, i32_w]
                                    rfl
                                  refine pure_ (i := 18) (N := some 67) (v := ?_) (a' := ?_) #[true, true, true, true, true, true, true, true, true, true, true, true, true, true, true, true, true, true, true, false, false, false, false, false, false, false, false, false, false] rfl rfl (any_of HT_.out (by kernel_rfl)) (fun _ _ _ h => h) (Or.inl ⟨by rfl, ?_⟩) ?_ ?_
                                  rotate_left
                                  · intro w'
                                    go_simp
                                    with_reducible rfl
                                  rotate_left
                                  · simp only [Act.put, List.setIfInBounds_toArray, List.set_cons_zero, List.set_cons_succ, i64_w, i32_w]
                                    rfl
                                  refine pure_ (i := 19) (N := some 68) (v := ?_) (a' := ?_) #[true, true, true, true, true, true, true, true, true, true, true, true, true, true, true, true, true, true, true, true, false, false, false, false, false, false, false, false, false] rfl rfl (any_of HT_.out (by kernel_rfl)) (fun _ _ _ h => h) (Or.inl ⟨by rfl, ?_⟩) ?_ ?_
                                  rotate_left
                                  · intro w'
                                    go_simp
                                    with_reducible rfl
                                  rotate_left
                                  · simp only [Act.put, List.setIfInBounds_toArray, List.set_cons_zero, List.set_cons_succ, i64_w, i32_w]
                                    rfl
                                  refine pure_ (i := 20) (N := some 69) (v := ?_) (a' := ?_) #[true, true, true, true, true, true, true, true, true, true, true, true, true, true, true, true, true, true, true, true, true, false, false, false, false, false, false, false, false] rfl rfl (any_of HT_.out (by kernel_rfl)) (fun _ _ _ h => h) (Or.inl ⟨by rfl, ?_⟩) ?_ ?_
                                  rotate_left
                                  · intro w'
                                    go_simp
                                    with_reducible rfl
                                  rotate_left
                                  · simp only [Act.put, List.setIfInBounds_toArray, List.set_cons_zero, List.set_cons_succ, i64_w, i32_w]
                                    rfl
                                  refine pure_ (i := 22) (N := some 71) (v := ?_) (a' := ?_) #[true, true, true, true, true, true, true, true, true, true, true, true, true, true, true, true, true, true, true, true, true, false, true, false, false, false, false, false, false] rfl rfl (any_of HT_.out (by kernel_rfl)) (fun _ _ _ h => h) (Or.inl ⟨by rfl, ?_⟩) ?_ ?_
                                  rotate_left
                                  · intro w'
                                    go_simp
                                    with_reducible rfl
                                  rotate_left
                                  · simp only [Act.put, List.setIfInBounds_toArray, List.set_cons_zero, List.set_cons_succ, i64_w, i32_w]
                                    rfl
                                  refine pure_ (i := 23) (N := some 72) (v := ?_) (a' := ?_) #[true, true, true, true, true, true, true, true, true, true, true, true, true, true, true, true, true, true, true, true, true, false, true, true, false, false, false, false, false] rfl rfl (any_of HT_.out (by kernel_rfl)) (fun _ _ _ h => h) (Or.inl ⟨by rfl, ?_⟩) ?_ ?_
                                  rotate_left
                                  · intro w'
                                    go_simp
                                    with_reducible rfl
                                  rotate_left
                                  · simp only [Act.put, List.setIfInBounds_toArray, List.set_cons_zero, List.set_cons_succ, i64_w, i32_w]
                                    rfl
                                  refine pure_ (i := 24) (N := some 73) (v := ?_) (a' := ?_) #[true, true, true, true, true, true, true, true, true, true, true, true, true, true, true, true, true, true, true, true, true, false, true, true, true, false, false, false, false] rfl rfl (any_of HT_.out (by kernel_rfl)) (fun _ _ _ h => h) (Or.inl ⟨by rfl, ?_⟩) ?_ ?_
                                  rotate_left
                                  · intro w'
                                    go_simp
                                    with_reducible rfl
                                  rotate_left
                                  · simp only [Act.put, List.setIfInBounds_toArray, List.set_cons_zero, List.set_cons_succ, i64_w, i32_w]
                                    rfl
                                  refine take_ (i := 21) (N := some 70) (v := ?_) (a' := ?_) #[true, true, true, true, true, true, true, true, true, true, true, true, true, true, true, true, true, true, true, true, true, true, true, true, true, false, false, false, false] rfl rfl (take_ofW HT_.out HW_.out (by kernel_rfl)) (fun _ _ _ h => h) (Or.inl ⟨by rfl, ?_⟩) hHeld ?_ ?_
                                  rotate_left
                                  · rintro w' ⟨s0, s1, s2, s3, s4, s5, s6, s7, s8, s9, s10, s11, s12, s13, s14, s15, s16, s17, s18, s19, s20, s21, s22, s23, s24, s25, s26, s27, s28, s29, s30, s31, s32, s33, s34, s35, s36, s37, s38, s39, s40, s41, s42, s43, s44, s45, s46, s47, s48, s49, s50, s51, s52, s53, s54, s55⟩
                                    go_simp
                                    with_reducible rfl
                                  rotate_left
                                  · simp only [Act.put, List.setIfInBounds_toArray, List.set_cons_zero, List.set_cons_succ, i64_w, i32_w]
                                    rfl
                                  refine take_ (i := 25) (N := some 74) (v := ?_) (a' := ?_) #[true, true, true, true, true, true, true, true, true, true, true, true, true, true, true, true, true, true, true, true, true, true, true, true, true, true, false, false, false] rfl rfl (take_ofW HT_.out HW_.out (by kernel_rfl)) (fun _ _ _ h => h) (Or.inl ⟨by rfl, ?_⟩) hHeld ?_ ?_
                                  rotate_left
                                  · rintro w' ⟨s0, s1, s2, s3, s4, s5, s6, s7, s8, s9, s10, s11, s12, s13, s14, s15, s16, s17, s18, s19, s20, s21, s22, s23, s24, s25, s26, s27, s28, s29, s30, s31, s32, s33, s34, s35, s36, s37, s38, s39, s40, s41, s42, s43, s44, s45, s46, s47, s48, s49, s50, s51, s52, s53, s54, s55⟩
                                    go_simp
                                    with_reducible rfl
                                  rotate_left
                                  · simp only [Act.put, List.setIfInBounds_toArray, List.set_cons_zero, List.set_cons_succ, i64_w, i32_w]
                                    rfl
                                  refine one_ (i := 26) (N := some 75) #[true, true, true, true, true, true, true, true, true, true, true, true, true, true, true, true, true, true, true, true, true, true, true, true, true, true, true, false, false] rfl rfl (one_of HT_.out (by kernel_rfl)) (by decide) (fun K hK => ?_)
                                  refine goes_ Try.func30 (by kernel_rfl) rfl #[.agg #[.int .i64 a0_0, .int .i64 a0_1, .int .i64 a0_2, .bool a0_3, .int .i64 a0_4, .int .i64 a0_5, .int .i64 a0_6, .int .i64 a0_7], .agg #[.int .i64 ((rd_T25 x12_3 x14_3).f0), .int .i64 ((rd_T25 x12_3 x14_3).f1), .bool ((rd_T25 x12_3 x14_3).f2), .int .i64 ((rd_T25 x12_3 x14_3).f3), .int .i64 ((rd_T25 x12_3 x14_3).f4), .bool false, .bool true, .bool true, .int .i64 ((rd_T25 x12_3 x14_3).f8), .int .i64 ((rd_T25 x12_3 x14_3).f9), .int .i64 ((rd_T25 x12_3 x14_3).f10), .bool ((rd_T25 x12_3 x14_3).f11)]] (by rfl) rfl rfl (by (try simp only [List.map_toArray, List.map_cons, List.map_nil]); first | done | rfl | (simp only [List.length_drop, List.length_take]; rfl)) ?_
                                  with_reducible refine (tidewayref13_Ahead.calls a0_0 a0_1 a0_2 a0_3 a0_4 a0_5 a0_6 a0_7 ((rd_T25 x12_3 x14_3).f0) ((rd_T25 x12_3 x14_3).f1) ((rd_T25 x12_3 x14_3).f2) ((rd_T25 x12_3 x14_3).f3) ((rd_T25 x12_3 x14_3).f4) false true true ((rd_T25 x12_3 x14_3).f8) ((rd_T25 x12_3 x14_3).f9) ((rd_T25 x12_3 x14_3).f10) ((rd_T25 x12_3 x14_3).f11) t167 _ A36.out).mono ?_
                                  rintro e w38 ⟨rfl, hb⟩
                                  have HS8_ := (hb.cell (World.block_lt_of_cell? _ _ (hHeld.2.2.2.2.2.2.2.2.1))).trans (hHeld.2.2.2.2.2.2.2.2.1)
                                  have HS9_ := (hb.cell (World.block_lt_of_cell? _ _ (hHeld.2.2.2.2.2.2.2.2.2.1))).trans (hHeld.2.2.2.2.2.2.2.2.2.1)
                                  have HS10_ := (hb.cell (World.block_lt_of_cell? _ _ (hHeld.2.2.2.2.2.2.2.2.2.2.1))).trans (hHeld.2.2.2.2.2.2.2.2.2.2.1)
                                  have HS11_ := (hb.cell (World.block_lt_of_cell? _ _ (hHeld.2.2.2.2.2.2.2.2.2.2.2.1))).trans (hHeld.2.2.2.2.2.2.2.2.2.2.2.1)
                                  have HS12_ := (hb.cell (World.block_lt_of_cell? _ _ (hHeld.2.2.2.2.2.2.2.2.2.2.2.2.1))).trans (hHeld.2.2.2.2.2.2.2.2.2.2.2.2.1)
                                  have HS13_ := (hb.cell (World.block_lt_of_cell? _ _ (hHeld.2.2.2.2.2.2.2.2.2.2.2.2.2.1))).trans (hHeld.2.2.2.2.2.2.2.2.2.2.2.2.2.1)
                                  have HS14_ := (hb.cell (World.block_lt_of_cell? _ _ (hHeld.2.2.2.2.2.2.2.2.2.2.2.2.2.2.1))).trans (hHeld.2.2.2.2.2.2.2.2.2.2.2.2.2.2.1)
                                  have HS15_ := (hb.cell (World.block_lt_of_cell? _ _ (hHeld.2.2.2.2.2.2.2.2.2.2.2.2.2.2.2.1))).trans (hHeld.2.2.2.2.2.2.2.2.2.2.2.2.2.2.2.1)
                                  have HS16_ := (hb.cell (World.block_lt_of_cell? _ _ (hHeld.2.2.2.2.2.2.2.2.2.2.2.2.2.2.2.2.1))).trans (hHeld.2.2.2.2.2.2.2.2.2.2.2.2.2.2.2.2.1)
                                  have HS17_ := (hb.cell (World.block_lt_of_cell? _ _ (hHeld.2.2.2.2.2.2.2.2.2.2.2.2.2.2.2.2.2.1))).trans (hHeld.2.2.2.2.2.2.2.2.2.2.2.2.2.2.2.2.2.1)
                                  have HS18_ := (hb.cell (World.block_lt_of_cell? _ _ (hHeld.2.2.2.2.2.2.2.2.2.2.2.2.2.2.2.2.2.2.1))).trans (hHeld.2.2.2.2.2.2.2.2.2.2.2.2.2.2.2.2.2.2.1)
                                  have HS19_ := (hb.cell (World.block_lt_of_cell? _ _ (hHeld.2.2.2.2.2.2.2.2.2.2.2.2.2.2.2.2.2.2.2.1))).trans (hHeld.2.2.2.2.2.2.2.2.2.2.2.2.2.2.2.2.2.2.2.1)
                                  have HS20_ := (hb.cell (World.block_lt_of_cell? _ _ (hHeld.2.2.2.2.2.2.2.2.2.2.2.2.2.2.2.2.2.2.2.2.1))).trans (hHeld.2.2.2.2.2.2.2.2.2.2.2.2.2.2.2.2.2.2.2.2.1)
                                  have HS21_ := (hb.cell (World.block_lt_of_cell? _ _ (hHeld.2.2.2.2.2.2.2.2.2.2.2.2.2.2.2.2.2.2.2.2.2.1))).trans (hHeld.2.2.2.2.2.2.2.2.2.2.2.2.2.2.2.2.2.2.2.2.2.1)
                                  have HS22_ := (hb.cell (World.block_lt_of_cell? _ _ (hHeld.2.2.2.2.2.2.2.2.2.2.2.2.2.2.2.2.2.2.2.2.2.2.1))).trans (hHeld.2.2.2.2.2.2.2.2.2.2.2.2.2.2.2.2.2.2.2.2.2.2.1)
                                  have HS23_ := (hb.cell (World.block_lt_of_cell? _ _ (hHeld.2.2.2.2.2.2.2.2.2.2.2.2.2.2.2.2.2.2.2.2.2.2.2.1))).trans (hHeld.2.2.2.2.2.2.2.2.2.2.2.2.2.2.2.2.2.2.2.2.2.2.2.1)
                                  have HS24_ := (hb.cell (World.block_lt_of_cell? _ _ (hHeld.2.2.2.2.2.2.2.2.2.2.2.2.2.2.2.2.2.2.2.2.2.2.2.2.1))).trans (hHeld.2.2.2.2.2.2.2.2.2.2.2.2.2.2.2.2.2.2.2.2.2.2.2.2.1)
                                  have HS25_ := (hb.cell (World.block_lt_of_cell? _ _ (hHeld.2.2.2.2.2.2.2.2.2.2.2.2.2.2.2.2.2.2.2.2.2.2.2.2.2.1))).trans (hHeld.2.2.2.2.2.2.2.2.2.2.2.2.2.2.2.2.2.2.2.2.2.2.2.2.2.1)
                                  have HS26_ := (hb.cell (World.block_lt_of_cell? _ _ (hHeld.2.2.2.2.2.2.2.2.2.2.2.2.2.2.2.2.2.2.2.2.2.2.2.2.2.2.1))).trans (hHeld.2.2.2.2.2.2.2.2.2.2.2.2.2.2.2.2.2.2.2.2.2.2.2.2.2.2.1)
                                  have HS27_ := (hb.cell (World.block_lt_of_cell? _ _ (hHeld.2.2.2.2.2.2.2.2.2.2.2.2.2.2.2.2.2.2.2.2.2.2.2.2.2.2.2.1))).trans (hHeld.2.2.2.2.2.2.2.2.2.2.2.2.2.2.2.2.2.2.2.2.2.2.2.2.2.2.2.1)
                                  have HS28_ := (hb.cell (World.block_lt_of_cell? _ _ (hHeld.2.2.2.2.2.2.2.2.2.2.2.2.2.2.2.2.2.2.2.2.2.2.2.2.2.2.2.2.1))).trans (hHeld.2.2.2.2.2.2.2.2.2.2.2.2.2.2.2.2.2.2.2.2.2.2.2.2.2.2.2.2.1)
                                  have HS29_ := (hb.cell (World.block_lt_of_cell? _ _ (hHeld.2.2.2.2.2.2.2.2.2.2.2.2.2.2.2.2.2.2.2.2.2.2.2.2.2.2.2.2.2.1))).trans (hHeld.2.2.2.2.2.2.2.2.2.2.2.2.2.2.2.2.2.2.2.2.2.2.2.2.2.2.2.2.2.1)
                                  have HS30_ := (hb.cell (World.block_lt_of_cell? _ _ (hHeld.2.2.2.2.2.2.2.2.2.2.2.2.2.2.2.2.2.2.2.2.2.2.2.2.2.2.2.2.2.2.1))).trans (hHeld.2.2.2.2.2.2.2.2.2.2.2.2.2.2.2.2.2.2.2.2.2.2.2.2.2.2.2.2.2.2.1)
                                  have HS31_ := (hb.cell (World.block_lt_of_cell? _ _ (hHeld.2.2.2.2.2.2.2.2.2.2.2.2.2.2.2.2.2.2.2.2.2.2.2.2.2.2.2.2.2.2.2.1))).trans (hHeld.2.2.2.2.2.2.2.2.2.2.2.2.2.2.2.2.2.2.2.2.2.2.2.2.2.2.2.2.2.2.2.1)
                                  have HS32_ := (hb.cell (World.block_lt_of_cell? _ _ (hHeld.2.2.2.2.2.2.2.2.2.2.2.2.2.2.2.2.2.2.2.2.2.2.2.2.2.2.2.2.2.2.2.2.1))).trans (hHeld.2.2.2.2.2.2.2.2.2.2.2.2.2.2.2.2.2.2.2.2.2.2.2.2.2.2.2.2.2.2.2.2.1)
                                  have HS33_ := (hb.cell (World.block_lt_of_cell? _ _ (hHeld.2.2.2.2.2.2.2.2.2.2.2.2.2.2.2.2.2.2.2.2.2.2.2.2.2.2.2.2.2.2.2.2.2.1))).trans (hHeld.2.2.2.2.2.2.2.2.2.2.2.2.2.2.2.2.2.2.2.2.2.2.2.2.2.2.2.2.2.2.2.2.2.1)
                                  have HS34_ := (hb.cell (World.block_lt_of_cell? _ _ (hHeld.2.2.2.2.2.2.2.2.2.2.2.2.2.2.2.2.2.2.2.2.2.2.2.2.2.2.2.2.2.2.2.2.2.2.1))).trans (hHeld.2.2.2.2.2.2.2.2.2.2.2.2.2.2.2.2.2.2.2.2.2.2.2.2.2.2.2.2.2.2.2.2.2.2.1)
                                  have HS35_ := (hb.cell (World.block_lt_of_cell? _ _ (hHeld.2.2.2.2.2.2.2.2.2.2.2.2.2.2.2.2.2.2.2.2.2.2.2.2.2.2.2.2.2.2.2.2.2.2.2.1))).trans (hHeld.2.2.2.2.2.2.2.2.2.2.2.2.2.2.2.2.2.2.2.2.2.2.2.2.2.2.2.2.2.2.2.2.2.2.2.1)
                                  have HS36_ := (hb.cell (World.block_lt_of_cell? _ _ (hHeld.2.2.2.2.2.2.2.2.2.2.2.2.2.2.2.2.2.2.2.2.2.2.2.2.2.2.2.2.2.2.2.2.2.2.2.2.1))).trans (hHeld.2.2.2.2.2.2.2.2.2.2.2.2.2.2.2.2.2.2.2.2.2.2.2.2.2.2.2.2.2.2.2.2.2.2.2.2.1)
                                  have HS37_ := (hb.cell (World.block_lt_of_cell? _ _ (hHeld.2.2.2.2.2.2.2.2.2.2.2.2.2.2.2.2.2.2.2.2.2.2.2.2.2.2.2.2.2.2.2.2.2.2.2.2.2.1))).trans (hHeld.2.2.2.2.2.2.2.2.2.2.2.2.2.2.2.2.2.2.2.2.2.2.2.2.2.2.2.2.2.2.2.2.2.2.2.2.2.1)
                                  have HS38_ := (hb.cell (World.block_lt_of_cell? _ _ (hHeld.2.2.2.2.2.2.2.2.2.2.2.2.2.2.2.2.2.2.2.2.2.2.2.2.2.2.2.2.2.2.2.2.2.2.2.2.2.2.1))).trans (hHeld.2.2.2.2.2.2.2.2.2.2.2.2.2.2.2.2.2.2.2.2.2.2.2.2.2.2.2.2.2.2.2.2.2.2.2.2.2.2.1)
                                  have HS39_ := (hb.cell (World.block_lt_of_cell? _ _ (hHeld.2.2.2.2.2.2.2.2.2.2.2.2.2.2.2.2.2.2.2.2.2.2.2.2.2.2.2.2.2.2.2.2.2.2.2.2.2.2.2.1))).trans (hHeld.2.2.2.2.2.2.2.2.2.2.2.2.2.2.2.2.2.2.2.2.2.2.2.2.2.2.2.2.2.2.2.2.2.2.2.2.2.2.2.1)
                                  have HS40_ := (hb.cell (World.block_lt_of_cell? _ _ (hHeld.2.2.2.2.2.2.2.2.2.2.2.2.2.2.2.2.2.2.2.2.2.2.2.2.2.2.2.2.2.2.2.2.2.2.2.2.2.2.2.2.1))).trans (hHeld.2.2.2.2.2.2.2.2.2.2.2.2.2.2.2.2.2.2.2.2.2.2.2.2.2.2.2.2.2.2.2.2.2.2.2.2.2.2.2.2.1)
                                  have HS41_ := (hb.cell (World.block_lt_of_cell? _ _ (hHeld.2.2.2.2.2.2.2.2.2.2.2.2.2.2.2.2.2.2.2.2.2.2.2.2.2.2.2.2.2.2.2.2.2.2.2.2.2.2.2.2.2.1))).trans (hHeld.2.2.2.2.2.2.2.2.2.2.2.2.2.2.2.2.2.2.2.2.2.2.2.2.2.2.2.2.2.2.2.2.2.2.2.2.2.2.2.2.2.1)
                                  have HS42_ := (hb.cell (World.block_lt_of_cell? _ _ (hHeld.2.2.2.2.2.2.2.2.2.2.2.2.2.2.2.2.2.2.2.2.2.2.2.2.2.2.2.2.2.2.2.2.2.2.2.2.2.2.2.2.2.2.1))).trans (hHeld.2.2.2.2.2.2.2.2.2.2.2.2.2.2.2.2.2.2.2.2.2.2.2.2.2.2.2.2.2.2.2.2.2.2.2.2.2.2.2.2.2.2.1)
                                  have HS43_ := (hb.cell (World.block_lt_of_cell? _ _ (hHeld.2.2.2.2.2.2.2.2.2.2.2.2.2.2.2.2.2.2.2.2.2.2.2.2.2.2.2.2.2.2.2.2.2.2.2.2.2.2.2.2.2.2.2.1))).trans (hHeld.2.2.2.2.2.2.2.2.2.2.2.2.2.2.2.2.2.2.2.2.2.2.2.2.2.2.2.2.2.2.2.2.2.2.2.2.2.2.2.2.2.2.2.1)
                                  have HS44_ := (hb.cell (World.block_lt_of_cell? _ _ (hHeld.2.2.2.2.2.2.2.2.2.2.2.2.2.2.2.2.2.2.2.2.2.2.2.2.2.2.2.2.2.2.2.2.2.2.2.2.2.2.2.2.2.2.2.2.1))).trans (hHeld.2.2.2.2.2.2.2.2.2.2.2.2.2.2.2.2.2.2.2.2.2.2.2.2.2.2.2.2.2.2.2.2.2.2.2.2.2.2.2.2.2.2.2.2.1)
                                  have HS45_ := (hb.cell (World.block_lt_of_cell? _ _ (hHeld.2.2.2.2.2.2.2.2.2.2.2.2.2.2.2.2.2.2.2.2.2.2.2.2.2.2.2.2.2.2.2.2.2.2.2.2.2.2.2.2.2.2.2.2.2.1))).trans (hHeld.2.2.2.2.2.2.2.2.2.2.2.2.2.2.2.2.2.2.2.2.2.2.2.2.2.2.2.2.2.2.2.2.2.2.2.2.2.2.2.2.2.2.2.2.2.1)
                                  have HS46_ := (hb.cell (World.block_lt_of_cell? _ _ (hHeld.2.2.2.2.2.2.2.2.2.2.2.2.2.2.2.2.2.2.2.2.2.2.2.2.2.2.2.2.2.2.2.2.2.2.2.2.2.2.2.2.2.2.2.2.2.2.1))).trans (hHeld.2.2.2.2.2.2.2.2.2.2.2.2.2.2.2.2.2.2.2.2.2.2.2.2.2.2.2.2.2.2.2.2.2.2.2.2.2.2.2.2.2.2.2.2.2.2.1)
                                  have HS47_ := (hb.cell (World.block_lt_of_cell? _ _ (hHeld.2.2.2.2.2.2.2.2.2.2.2.2.2.2.2.2.2.2.2.2.2.2.2.2.2.2.2.2.2.2.2.2.2.2.2.2.2.2.2.2.2.2.2.2.2.2.2.1))).trans (hHeld.2.2.2.2.2.2.2.2.2.2.2.2.2.2.2.2.2.2.2.2.2.2.2.2.2.2.2.2.2.2.2.2.2.2.2.2.2.2.2.2.2.2.2.2.2.2.2.1)
                                  have HS48_ := (hb.cell (World.block_lt_of_cell? _ _ (hHeld.2.2.2.2.2.2.2.2.2.2.2.2.2.2.2.2.2.2.2.2.2.2.2.2.2.2.2.2.2.2.2.2.2.2.2.2.2.2.2.2.2.2.2.2.2.2.2.2.1))).trans (hHeld.2.2.2.2.2.2.2.2.2.2.2.2.2.2.2.2.2.2.2.2.2.2.2.2.2.2.2.2.2.2.2.2.2.2.2.2.2.2.2.2.2.2.2.2.2.2.2.2.1)
                                  have HS49_ := (hb.cell (World.block_lt_of_cell? _ _ (hHeld.2.2.2.2.2.2.2.2.2.2.2.2.2.2.2.2.2.2.2.2.2.2.2.2.2.2.2.2.2.2.2.2.2.2.2.2.2.2.2.2.2.2.2.2.2.2.2.2.2.1))).trans (hHeld.2.2.2.2.2.2.2.2.2.2.2.2.2.2.2.2.2.2.2.2.2.2.2.2.2.2.2.2.2.2.2.2.2.2.2.2.2.2.2.2.2.2.2.2.2.2.2.2.2.1)
                                  have HS50_ := (hb.cell (World.block_lt_of_cell? _ _ (hHeld.2.2.2.2.2.2.2.2.2.2.2.2.2.2.2.2.2.2.2.2.2.2.2.2.2.2.2.2.2.2.2.2.2.2.2.2.2.2.2.2.2.2.2.2.2.2.2.2.2.2.1))).trans (hHeld.2.2.2.2.2.2.2.2.2.2.2.2.2.2.2.2.2.2.2.2.2.2.2.2.2.2.2.2.2.2.2.2.2.2.2.2.2.2.2.2.2.2.2.2.2.2.2.2.2.2.1)
                                  have HS51_ := (hb.cell (World.block_lt_of_cell? _ _ (hHeld.2.2.2.2.2.2.2.2.2.2.2.2.2.2.2.2.2.2.2.2.2.2.2.2.2.2.2.2.2.2.2.2.2.2.2.2.2.2.2.2.2.2.2.2.2.2.2.2.2.2.2.1))).trans (hHeld.2.2.2.2.2.2.2.2.2.2.2.2.2.2.2.2.2.2.2.2.2.2.2.2.2.2.2.2.2.2.2.2.2.2.2.2.2.2.2.2.2.2.2.2.2.2.2.2.2.2.2.1)
                                  have HS52_ := (hb.cell (World.block_lt_of_cell? _ _ (hHeld.2.2.2.2.2.2.2.2.2.2.2.2.2.2.2.2.2.2.2.2.2.2.2.2.2.2.2.2.2.2.2.2.2.2.2.2.2.2.2.2.2.2.2.2.2.2.2.2.2.2.2.2.1))).trans (hHeld.2.2.2.2.2.2.2.2.2.2.2.2.2.2.2.2.2.2.2.2.2.2.2.2.2.2.2.2.2.2.2.2.2.2.2.2.2.2.2.2.2.2.2.2.2.2.2.2.2.2.2.2.1)
                                  have HS53_ := (hb.cell (World.block_lt_of_cell? _ _ (hHeld.2.2.2.2.2.2.2.2.2.2.2.2.2.2.2.2.2.2.2.2.2.2.2.2.2.2.2.2.2.2.2.2.2.2.2.2.2.2.2.2.2.2.2.2.2.2.2.2.2.2.2.2.2.1))).trans (hHeld.2.2.2.2.2.2.2.2.2.2.2.2.2.2.2.2.2.2.2.2.2.2.2.2.2.2.2.2.2.2.2.2.2.2.2.2.2.2.2.2.2.2.2.2.2.2.2.2.2.2.2.2.2.1)
                                  have HS54_ := (hb.cell (World.block_lt_of_cell? _ _ (hHeld.2.2.2.2.2.2.2.2.2.2.2.2.2.2.2.2.2.2.2.2.2.2.2.2.2.2.2.2.2.2.2.2.2.2.2.2.2.2.2.2.2.2.2.2.2.2.2.2.2.2.2.2.2.2.1))).trans (hHeld.2.2.2.2.2.2.2.2.2.2.2.2.2.2.2.2.2.2.2.2.2.2.2.2.2.2.2.2.2.2.2.2.2.2.2.2.2.2.2.2.2.2.2.2.2.2.2.2.2.2.2.2.2.2.1)
                                  have HS55_ := (hb.cell (World.block_lt_of_cell? _ _ (hHeld.2.2.2.2.2.2.2.2.2.2.2.2.2.2.2.2.2.2.2.2.2.2.2.2.2.2.2.2.2.2.2.2.2.2.2.2.2.2.2.2.2.2.2.2.2.2.2.2.2.2.2.2.2.2.2))).trans (hHeld.2.2.2.2.2.2.2.2.2.2.2.2.2.2.2.2.2.2.2.2.2.2.2.2.2.2.2.2.2.2.2.2.2.2.2.2.2.2.2.2.2.2.2.2.2.2.2.2.2.2.2.2.2.2.2)
                                  refine ⟨_, rfl, ?_⟩
                                  have n0_ := Aside0.mk (Kd.R_below (by (with_reducible repeat (first | apply Kd.R_alloc | apply Kd.R_drewN | apply Kd.R_drew)); exact HO_12.out) hb)
                                  have n1_ := Aside0.mk (blk_below (g := gb151) (o := .cells #[.int .i64 a0_0, .int .i64 a0_1, .int .i64 a0_2, .bool a0_3, .int .i64 a0_4, .int .i64 a0_5, .int .i64 a0_6, .int .i64 a0_7] 23 (0, 0)) (by (with_reducible repeat (first | refine blk_drewN ?_ _ | refine blk_drew ?_ | refine blk_alloc ?_ _)); exact BK151.out) hb)
                                  have n2_ := Aside0.mk (below_step (by repeat (first | (with_reducible first | exact HB.out | apply below_alloc | apply pw_below_drewN | apply below_drew1 | refine below_set ?_ GE151.out) | exact HB.out)) hb)
                                  clear HO_12
                                  clear BK151
                                  clear HB
                                  have HO_12 := n0_
                                  have BK151 := n1_
                                  have HB := n2_
                                  clear n0_ n1_ n2_
                                  (try clear hb)
                                  (try clear hb2)
                                  (try clear hk)
                                  (try clear hi)
                                  refine hK.out _ _ ⟨(blk_cell BK151.out 0).trans rfl, (blk_cell BK151.out 1).trans rfl, (blk_cell BK151.out 2).trans rfl, (blk_cell BK151.out 3).trans rfl, (blk_cell BK151.out 4).trans rfl, (blk_cell BK151.out 5).trans rfl, (blk_cell BK151.out 6).trans rfl, (blk_cell BK151.out 7).trans rfl, HS8_, HS9_, HS10_, HS11_, HS12_, HS13_, HS14_, HS15_, HS16_, HS17_, HS18_, HS19_, HS20_, HS21_, HS22_, HS23_, HS24_, HS25_, HS26_, HS27_, HS28_, HS29_, HS30_, HS31_, HS32_, HS33_, HS34_, HS35_, HS36_, HS37_, HS38_, HS39_, HS40_, HS41_, HS42_, HS43_, HS44_, HS45_, HS46_, HS47_, HS48_, HS49_, HS50_, HS51_, HS52_, HS53_, HS54_, HS55_⟩ (fun hHeld => ?_)
                                  clear hK K
                                  refine norm_ (a' := ?_) ?_ ?_
                                  rotate_left
                                  · show Act.put _ (some 75) _ = _
                                    simp only [Act.put, List.setIfInBounds_toArray, List.set_cons_zero, List.set_cons_succ, i64_w, i32_w]
                                    rfl
                                  refine pure_ (i := 27) (N := some 76) (v := ?_) (a' := ?_) #[true, true, true, true, true, true, true, true, true, true, true, true, true, true, true, true, true, true, true, true, true, true, true, true, true, true, true, true, false] rfl rfl (any_of HT_.out (by kernel_rfl)) (fun _ _ _ h => h) (Or.inl ⟨by rfl, ?_⟩) ?_ ?_
                                  rotate_left
                                  · intro w'
                                    go_simp
                                    with_reducible rfl
                                  rotate_left
                                  · simp only [Act.put, List.setIfInBounds_toArray, List.set_cons_zero, List.set_cons_succ, i64_w, i32_w]
                                    rfl
                                  refine pure_ (i := 28) (N := some 77) (v := ?_) (a' := ?_) #[true, true, true, true, true, true, true, true, true, true, true, true, true, true, true, true, true, true, true, true, true, true, true, true, true, true, true, true, true] rfl rfl (any_of HT_.out (by kernel_rfl)) (fun _ _ _ h => h) (Or.inl ⟨by rfl, ?_⟩) ?_ ?_
                                  rotate_left
                                  · intro w'
                                    go_simp
                                    with_reducible rfl
                                  rotate_left
                                  · simp only [Act.put, List.setIfInBounds_toArray, List.set_cons_zero, List.set_cons_succ, i64_w, i32_w]
                                    rfl
                                  refine done_ (done_of HT_.out (by kernel_rfl)) ?_
                                  try go_wp2
                                  go_meet
                                  case rel => exact ⟨_, (!t167), (by first | rfl | (simp; done) | (simp [*]; done)), H', ⟨by have := HJ6.out; have := HK2.out; have := HK3.out; first | omega | exact Nat.le_refl _⟩, ⟨by (with_reducible repeat (first | apply Kd.R_alloc | apply Kd.R_drewN | apply Kd.R_drew)); exact HO_12.out⟩, ⟨by (with_reducible repeat (first | refine blk_drewN ?_ _ | refine blk_drew ?_ | refine blk_alloc ?_ _)); exact BK151.out⟩, ⟨by repeat (first | (with_reducible first | exact HB.out | apply below_alloc | apply pw_below_drewN | apply below_drew1 | refine below_set ?_ GE151.out) | exact HB.out)⟩⟩
                                · replace c35 := Bool.eq_false_iff.mpr c35
                                  subst c35
                                  have H1 : (tidewayref13_Mark.j3 k3 a2 a3 x12_3 x13_3 x14_3 true a0_0 a0_1 a0_2 a0_3 a0_4 a0_5 a0_6 a0_7) = some (r1, r2, r3) := by rw [if_neg (show ¬ (false = true) by decide)] at H; exact H
                                  clear H
                                  have H := H1
                                  clear H1
                                  have H' := Aside0.mk H
                                  clear H
                                  try go_wp2
                                  have n0_ := Aside0.mk (Kd.R_drew HO_12.out)
                                  have n1_ := Aside0.mk (blk_drew BK151.out)
                                  have n2_ := Aside0.mk (below_drew1 HB.out)
                                  clear HO_12
                                  clear BK151
                                  clear HB
                                  have HO_12 := n0_
                                  have BK151 := n1_
                                  have HB := n2_
                                  clear n0_ n1_ n2_
                                  have p163 : 0 ≤ (x14_3 : Int) := of_decide_eq_true (by first | (with_reducible assumption) | assumption)
                                  have q163 : x14_3 < (x12_3.length : Int) := of_decide_eq_true (by first | (with_reducible assumption) | assumption)
                                  obtain ⟨ad163, e163, hx163_0, hx163_1, hx163_2, hx163_3, hx163_4, hx163_5, hx163_6, hx163_7, hx163_8, hx163_9, hx163_10, hx163_11⟩ := at_T25 (Kd.R_reads' HO_12.out).2.2 x14_3 p163 q163
                                  (try rw [← Nbq29.out] at hx163_2)
                                  (try rw [← Nbq32.out] at hx163_2)
                                  (try rw [← Nbq34.out] at hx163_2)
                                  (try rw [← Nbq29.out] at hx163_5)
                                  (try rw [← Nbq32.out] at hx163_5)
                                  (try rw [← Nbq34.out] at hx163_5)
                                  (try rw [← Nbq29.out] at hx163_6)
                                  (try rw [← Nbq32.out] at hx163_6)
                                  (try rw [← Nbq34.out] at hx163_6)
                                  (try rw [← Nbq29.out] at hx163_7)
                                  (try rw [← Nbq32.out] at hx163_7)
                                  (try rw [← Nbq34.out] at hx163_7)
                                  (try rw [← Nbq29.out] at hx163_11)
                                  (try rw [← Nbq32.out] at hx163_11)
                                  (try rw [← Nbq34.out] at hx163_11)
                                  cases e163
                                  replace p163 := eq_true p163
                                  replace q163 := eq_true q163
                                  have p164 : 0 ≤ (x14_3 : Int) := of_decide_eq_true (by first | (with_reducible assumption) | assumption)
                                  have q164 : x14_3 < (x12_3.length : Int) := of_decide_eq_true (by first | (with_reducible assumption) | assumption)
                                  obtain ⟨ad164, e164, hx164_0, hx164_1, hx164_2, hx164_3, hx164_4, hx164_5, hx164_6, hx164_7, hx164_8, hx164_9, hx164_10, hx164_11⟩ := at_T25 (Kd.R_reads' HO_12.out).2.2 x14_3 p164 q164
                                  (try rw [← Nbq29.out] at hx164_2)
                                  (try rw [← Nbq32.out] at hx164_2)
                                  (try rw [← Nbq34.out] at hx164_2)
                                  (try rw [← Nbq29.out] at hx164_5)
                                  (try rw [← Nbq32.out] at hx164_5)
                                  (try rw [← Nbq34.out] at hx164_5)
                                  (try rw [← Nbq29.out] at hx164_6)
                                  (try rw [← Nbq32.out] at hx164_6)
                                  (try rw [← Nbq34.out] at hx164_6)
                                  (try rw [← Nbq29.out] at hx164_7)
                                  (try rw [← Nbq32.out] at hx164_7)
                                  (try rw [← Nbq34.out] at hx164_7)
                                  (try rw [← Nbq29.out] at hx164_11)
                                  (try rw [← Nbq32.out] at hx164_11)
                                  (try rw [← Nbq34.out] at hx164_11)
                                  obtain rfl : ad163 = ad164 := (by injection e164)
                                  replace p164 := eq_true p164
                                  replace q164 := eq_true q164
                                  have p165 : 0 ≤ (x14_3 : Int) := of_decide_eq_true (by first | (with_reducible assumption) | assumption)
                                  have q165 : x14_3 < (x12_3.length : Int) := of_decide_eq_true (by first | (with_reducible assumption) | assumption)
                                  obtain ⟨ad165, e165, hx165_0, hx165_1, hx165_2, hx165_3, hx165_4, hx165_5, hx165_6, hx165_7, hx165_8, hx165_9, hx165_10, hx165_11⟩ := at_T25 (Kd.R_reads' HO_12.out).2.2 x14_3 p165 q165
                                  (try rw [← Nbq29.out] at hx165_2)
                                  (try rw [← Nbq32.out] at hx165_2)
                                  (try rw [← Nbq34.out] at hx165_2)
                                  (try rw [← Nbq29.out] at hx165_5)
                                  (try rw [← Nbq32.out] at hx165_5)
                                  (try rw [← Nbq34.out] at hx165_5)
                                  (try rw [← Nbq29.out] at hx165_6)
                                  (try rw [← Nbq32.out] at hx165_6)
                                  (try rw [← Nbq34.out] at hx165_6)
                                  (try rw [← Nbq29.out] at hx165_7)
                                  (try rw [← Nbq32.out] at hx165_7)
                                  (try rw [← Nbq34.out] at hx165_7)
                                  (try rw [← Nbq29.out] at hx165_11)
                                  (try rw [← Nbq32.out] at hx165_11)
                                  (try rw [← Nbq34.out] at hx165_11)
                                  obtain rfl : ad163 = ad165 := (by injection e165)
                                  replace p165 := eq_true p165
                                  replace q165 := eq_true q165
                                  refine start_ (n := 29) (S := fun w' => w'.cell? (ad163.add ((x14_3).toNat * 12)) = some (.int .i64 ((rd_T25 x12_3 x14_3).f0)) ∧ w'.cell? ⟨(ad163.add ((x14_3).toNat * 12)).block, (ad163.add ((x14_3).toNat * 12)).off + 1, none⟩ = some (.int .i64 ((rd_T25 x12_3 x14_3).f1)) ∧ w'.cell? ⟨(ad163.add ((x14_3).toNat * 12)).block, (ad163.add ((x14_3).toNat * 12)).off + 2, none⟩ = some (.bool ((rd_T25 x12_3 x14_3).f2)) ∧ w'.cell? ⟨(ad163.add ((x14_3).toNat * 12)).block, (ad163.add ((x14_3).toNat * 12)).off + 3, none⟩ = some (.int .i64 ((rd_T25 x12_3 x14_3).f3)) ∧ w'.cell? ⟨(ad163.add ((x14_3).toNat * 12)).block, (ad163.add ((x14_3).toNat * 12)).off + 4, none⟩ = some (.int .i64 ((rd_T25 x12_3 x14_3).f4)) ∧ w'.cell? ⟨(ad163.add ((x14_3).toNat * 12)).block, (ad163.add ((x14_3).toNat * 12)).off + 5, none⟩ = some (.bool false) ∧ w'.cell? ⟨(ad163.add ((x14_3).toNat * 12)).block, (ad163.add ((x14_3).toNat * 12)).off + 6, none⟩ = some (.bool true) ∧ w'.cell? ⟨(ad163.add ((x14_3).toNat * 12)).block, (ad163.add ((x14_3).toNat * 12)).off + 7, none⟩ = some (.bool false) ∧ w'.cell? ⟨(ad163.add ((x14_3).toNat * 12)).block, (ad163.add ((x14_3).toNat * 12)).off + 8, none⟩ = some (.int .i64 ((rd_T25 x12_3 x14_3).f8)) ∧ w'.cell? ⟨(ad163.add ((x14_3).toNat * 12)).block, (ad163.add ((x14_3).toNat * 12)).off + 9, none⟩ = some (.int .i64 ((rd_T25 x12_3 x14_3).f9)) ∧ w'.cell? ⟨(ad163.add ((x14_3).toNat * 12)).block, (ad163.add ((x14_3).toNat * 12)).off + 10, none⟩ = some (.int .i64 ((rd_T25 x12_3 x14_3).f10)) ∧ w'.cell? ⟨(ad163.add ((x14_3).toNat * 12)).block, (ad163.add ((x14_3).toNat * 12)).off + 11, none⟩ = some (.bool ((rd_T25 x12_3 x14_3).f11)) ∧ w'.cell? (ad163.add ((x14_3).toNat * 12)) = some (.int .i64 ((rd_T25 x12_3 x14_3).f0)) ∧ w'.cell? ⟨(ad163.add ((x14_3).toNat * 12)).block, (ad163.add ((x14_3).toNat * 12)).off + 1, none⟩ = some (.int .i64 ((rd_T25 x12_3 x14_3).f1)) ∧ w'.cell? ⟨(ad163.add ((x14_3).toNat * 12)).block, (ad163.add ((x14_3).toNat * 12)).off + 2, none⟩ = some (.bool ((rd_T25 x12_3 x14_3).f2)) ∧ w'.cell? ⟨(ad163.add ((x14_3).toNat * 12)).block, (ad163.add ((x14_3).toNat * 12)).off + 3, none⟩ = some (.int .i64 ((rd_T25 x12_3 x14_3).f3)) ∧ w'.cell? ⟨(ad163.add ((x14_3).toNat * 12)).block, (ad163.add ((x14_3).toNat * 12)).off + 4, none⟩ = some (.int .i64 ((rd_T25 x12_3 x14_3).f4)) ∧ w'.cell? ⟨(ad163.add ((x14_3).toNat * 12)).block, (ad163.add ((x14_3).toNat * 12)).off + 5, none⟩ = some (.bool (false)) ∧ w'.cell? ⟨(ad163.add ((x14_3).toNat * 12)).block, (ad163.add ((x14_3).toNat * 12)).off + 6, none⟩ = some (.bool true) ∧ w'.cell? ⟨(ad163.add ((x14_3).toNat * 12)).block, (ad163.add ((x14_3).toNat * 12)).off + 7, none⟩ = some (.bool false) ∧ w'.cell? ⟨(ad163.add ((x14_3).toNat * 12)).block, (ad163.add ((x14_3).toNat * 12)).off + 8, none⟩ = some (.int .i64 ((rd_T25 x12_3 x14_3).f8)) ∧ w'.cell? ⟨(ad163.add ((x14_3).toNat * 12)).block, (ad163.add ((x14_3).toNat * 12)).off + 9, none⟩ = some (.int .i64 ((rd_T25 x12_3 x14_3).f9)) ∧ w'.cell? ⟨(ad163.add ((x14_3).toNat * 12)).block, (ad163.add ((x14_3).toNat * 12)).off + 10, none⟩ = some (.int .i64 ((rd_T25 x12_3 x14_3).f10)) ∧ w'.cell? ⟨(ad163.add ((x14_3).toNat * 12)).block, (ad163.add ((x14_3).toNat * 12)).off + 11, none⟩ = some (.bool ((rd_T25 x12_3 x14_3).f11)) ∧ w'.cell? (ad163.add ((x14_3).toNat * 12)) = some (.int .i64 ((rd_T25 x12_3 x14_3).f0)) ∧ w'.cell? ⟨(ad163.add ((x14_3).toNat * 12)).block, (ad163.add ((x14_3).toNat * 12)).off + 1, none⟩ = some (.int .i64 ((rd_T25 x12_3 x14_3).f1)) ∧ w'.cell? ⟨(ad163.add ((x14_3).toNat * 12)).block, (ad163.add ((x14_3).toNat * 12)).off + 2, none⟩ = some (.bool ((rd_T25 x12_3 x14_3).f2)) ∧ w'.cell? ⟨(ad163.add ((x14_3).toNat * 12)).block, (ad163.add ((x14_3).toNat * 12)).off + 3, none⟩ = some (.int .i64 ((rd_T25 x12_3 x14_3).f3)) ∧ w'.cell? ⟨(ad163.add ((x14_3).toNat * 12)).block, (ad163.add ((x14_3).toNat * 12)).off + 4, none⟩ = some (.int .i64 ((rd_T25 x12_3 x14_3).f4)) ∧ w'.cell? ⟨(ad163.add ((x14_3).toNat * 12)).block, (ad163.add ((x14_3).toNat * 12)).off + 5, none⟩ = some (.bool (false)) ∧ w'.cell? ⟨(ad163.add ((x14_3).toNat * 12)).block, (ad163.add ((x14_3).toNat * 12)).off + 6, none⟩ = some (.bool (true)) ∧ w'.cell? ⟨(ad163.add ((x14_3).toNat * 12)).block, (ad163.add ((x14_3).toNat * 12)).off + 7, none⟩ = some (.bool false) ∧ w'.cell? ⟨(ad163.add ((x14_3).toNat * 12)).block, (ad163.add ((x14_3).toNat * 12)).off + 8, none⟩ = some (.int .i64 ((rd_T25 x12_3 x14_3).f8)) ∧ w'.cell? ⟨(ad163.add ((x14_3).toNat * 12)).block, (ad163.add ((x14_3).toNat * 12)).off + 9, none⟩ = some (.int .i64 ((rd_T25 x12_3 x14_3).f9)) ∧ w'.cell? ⟨(ad163.add ((x14_3).toNat * 12)).block, (ad163.add ((x14_3).toNat * 12)).off + 10, none⟩ = some (.int .i64 ((rd_T25 x12_3 x14_3).f10)) ∧ w'.cell? ⟨(ad163.add ((x14_3).toNat * 12)).block, (ad163.add ((x14_3).toNat * 12)).off + 11, none⟩ = some (.bool ((rd_T25 x12_3 x14_3).f11))) (ds := []) #[false, false, false, false, false, false, false, false, false, false, false, false, false, false, false, false, false, false, false, false, false, false, false, false, false, false, false, false, false] (by kernel_rfl) rfl rfl ⟨hx163_0, hx163_1, hx163_2, hx163_3, hx163_4, hx163_5, hx163_6, hx163_7, hx163_8, hx163_9, hx163_10, hx163_11, hx164_0, hx164_1, hx164_2, hx164_3, hx164_4, hx164_5, hx164_6, hx164_7, hx164_8, hx164_9, hx164_10, hx164_11, hx165_0, hx165_1, hx165_2, hx165_3, hx165_4, hx165_5, hx165_6, hx165_7, hx165_8, hx165_9, hx165_10, hx165_11⟩ (fun hHeld => ?_); refine with_tabW tidewayref13_Mark.tab15 tidewayref13_Mark.bits15 (fun HT_ HW_ => ?_)
                                  generalize wr.drew = w39 at HO_12 BK151 HB hx163_0 hx163_1 hx163_10 hx163_11 hx163_2 hx163_3 hx163_4 hx163_5 hx163_6 hx163_7 hx163_8 hx163_9 hx164_0 hx164_1 hx164_10 hx164_11 hx164_2 hx164_3 hx164_4 hx164_5 hx164_6 hx164_7 hx164_8 hx164_9 hx165_0 hx165_1 hx165_10 hx165_11 hx165_2 hx165_3 hx165_4 hx165_5 hx165_6 hx165_7 hx165_8 hx165_9 hHeld ⊢
                                  refine pure_ (i := 0) (N := some 49) (v := ?_) (a' := ?_) #[true, false, false, false, false, false, false, false, false, false, false, false, false, false, false, false, false, false, false, false, false, false, false, false, false, false, false, false, false] rfl rfl (any_of HT_.out (by kernel_rfl)) (fun _ _ _ h => h) (Or.inl ⟨by rfl, ?_⟩) ?_ ?_
                                  rotate_left
                                  · intro w'
                                    go_simp
                                    with_reducible rfl
                                  rotate_left
                                  · simp only [Act.put, List.setIfInBounds_toArray, List.set_cons_zero, List.set_cons_succ, i64_w, i32_w]
                                    rfl
                                  refine pure_ (i := 1) (N := some 50) (v := ?_) (a' := ?_) #[true, true, false, false, false, false, false, false, false, false, false, false, false, false, false, false, false, false, false, false, false, false, false, false, false, false, false, false, false] rfl rfl (any_of HT_.out (by kernel_rfl)) (fun _ _ _ h => h) (Or.inl ⟨by rfl, ?_⟩) ?_ ?_
                                  rotate_left
                                  · intro w'
                                    go_simp
                                    with_reducible rfl
                                  rotate_left
                                  · simp only [Act.put, List.setIfInBounds_toArray, List.set_cons_zero, List.set_cons_succ, i64_w, i32_w]
                                    rfl
                                  refine pure_ (i := 2) (N := some 51) (v := ?_) (a' := ?_) #[true, true, true, false, false, false, false, false, false, false, false, false, false, false, false, false, false, false, false, false, false, false, false, false, false, false, false, false, false] rfl rfl (any_of HT_.out (by kernel_rfl)) (fun _ _ _ h => h) (Or.inl ⟨by rfl, ?_⟩) ?_ ?_
                                  rotate_left
                                  · intro w'
                                    go_simp
                                    with_reducible rfl
                                  rotate_left
                                  · simp only [Act.put, List.setIfInBounds_toArray, List.set_cons_zero, List.set_cons_succ, i64_w, i32_w]
                                    rfl
                                  refine pure_ (i := 3) (N := some 52) (v := ?_) (a' := ?_) #[true, true, true, true, false, false, false, false, false, false, false, false, false, false, false, false, false, false, false, false, false, false, false, false, false, false, false, false, false] rfl rfl (any_of HT_.out (by kernel_rfl)) (fun _ _ _ h => h) (Or.inl ⟨by rfl, ?_⟩) ?_ ?_
                                  rotate_left
                                  · intro w'
                                    go_simp
                                    with_reducible rfl
                                  rotate_left
                                  · simp only [Act.put, List.setIfInBounds_toArray, List.set_cons_zero, List.set_cons_succ, i64_w, i32_w]
                                    rfl
                                  refine take_ (i := 4) (N := some 53) (v := ?_) (a' := ?_) #[true, true, true, true, true, false, false, false, false, false, false, false, false, false, false, false, false, false, false, false, false, false, false, false, false, false, false, false, false] rfl rfl (take_ofW HT_.out HW_.out (by kernel_rfl)) (fun _ _ _ h => h) (Or.inl ⟨by rfl, ?_⟩) hHeld ?_ ?_
                                  rotate_left
                                  · rintro w' ⟨s0, s1, s2, s3, s4, s5, s6, s7, s8, s9, s10, s11, s12, s13, s14, s15, s16, s17, s18, s19, s20, s21, s22, s23, s24, s25, s26, s27, s28, s29, s30, s31, s32, s33, s34, s35⟩
                                    go_simp
                                    with_reducible rfl
                                  rotate_left
                                  · simp only [Act.put, List.setIfInBounds_toArray, List.set_cons_zero, List.set_cons_succ, i64_w, i32_w]
                                    rfl
                                  refine pure_ (i := 5) (N := some 54) (v := ?_) (a' := ?_) #[true, true, true, true, true, true, false, false, false, false, false, false, false, false, false, false, false, false, false, false, false, false, false, false, false, false, false, false, false] rfl rfl (any_of HT_.out (by kernel_rfl)) (fun _ _ _ h => h) (Or.inl ⟨by rfl, ?_⟩) ?_ ?_
                                  rotate_left
                                  · intro w'
                                    go_simp
                                    with_reducible rfl
                                  rotate_left
                                  · simp only [Act.put, List.setIfInBounds_toArray, List.set_cons_zero, List.set_cons_succ, i64_w, i32_w]
                                    rfl
                                  refine pure_ (i := 6) (N := some 55) (v := ?_) (a' := ?_) #[true, true, true, true, true, true, true, false, false, false, false, false, false, false, false, false, false, false, false, false, false, false, false, false, false, false, false, false, false] rfl rfl (any_of HT_.out (by kernel_rfl)) (fun _ _ _ h => h) (Or.inl ⟨by rfl, ?_⟩) ?_ ?_
                                  rotate_left
                                  · intro w'
                                    go_simp
                                    with_reducible rfl
                                  rotate_left
                                  · simp only [Act.put, List.setIfInBounds_toArray, List.set_cons_zero, List.set_cons_succ, i64_w, i32_w]
                                    rfl
                                  refine pure_ (i := 7) (N := some 56) (v := ?_) (a' := ?_) #[true, true, true, true, true, true, true, true, false, false, false, false, false, false, false, false, false, false, false, false, false, false, false, false, false, false, false, false, false] rfl rfl (any_of HT_.out (by kernel_rfl)) (fun _ _ _ h => h) (Or.inl ⟨by rfl, ?_⟩) ?_ ?_
                                  rotate_left
                                  · intro w'
                                    go_simp
                                    with_reducible rfl
                                  rotate_left
                                  · simp only [Act.put, List.setIfInBounds_toArray, List.set_cons_zero, List.set_cons_succ, i64_w, i32_w]
                                    rfl
                                  refine pure_ (i := 8) (N := some 57) (v := ?_) (a' := ?_) #[true, true, true, true, true, true, true, true, true, false, false, false, false, false, false, false, false, false, false, false, false, false, false, false, false, false, false, false, false] rfl rfl (any_of HT_.out (by kernel_rfl)) (fun _ _ _ h => h) (Or.inl ⟨by rfl, ?_⟩) ?_ ?_
                                  rotate_left
                                  · intro w'
                                    go_simp
                                    with_reducible rfl
                                  rotate_left
                                  · simp only [Act.put, List.setIfInBounds_toArray, List.set_cons_zero, List.set_cons_succ, i64_w, i32_w]
                                    rfl
                                  refine pure_ (i := 9) (N := some 58) (v := ?_) (a' := ?_) #[true, true, true, true, true, true, true, true, true, true, false, false, false, false, false, false, false, false, false, false, false, false, false, false, false, false, false, false, false] rfl rfl (any_of HT_.out (by kernel_rfl)) (fun _ _ _ h => h) (Or.inl ⟨by rfl, ?_⟩) ?_ ?_
                                  rotate_left
                                  · intro w'
                                    go_simp
                                    with_reducible rfl
                                  rotate_left
                                  · simp only [Act.put, List.setIfInBounds_toArray, List.set_cons_zero, List.set_cons_succ, i64_w, i32_w]
                                    rfl
                                  refine take_ (i := 10) (N := some 59) (v := ?_) (a' := ?_) #[true, true, true, true, true, true, true, true, true, true, true, false, false, false, false, false, false, false, false, false, false, false, false, false, false, false, false, false, false] rfl rfl (take_ofW HT_.out HW_.out (by kernel_rfl)) (fun _ _ _ h => h) (Or.inl ⟨by rfl, ?_⟩) hHeld ?_ ?_
                                  rotate_left
                                  · rintro w' ⟨s0, s1, s2, s3, s4, s5, s6, s7, s8, s9, s10, s11, s12, s13, s14, s15, s16, s17, s18, s19, s20, s21, s22, s23, s24, s25, s26, s27, s28, s29, s30, s31, s32, s33, s34, s35⟩
                                    go_simp
                                    with_reducible rfl
                                  rotate_left
                                  · simp only [Act.put, List.setIfInBounds_toArray, List.set_cons_zero, List.set_cons_succ, i64_w, i32_w]
                                    rfl
                                  refine pure_ (i := 11) (N := some 60) (v := ?_) (a' := ?_) #[true, true, true, true, true, true, true, true, true, true, true, true, false, false, false, false, false, false, false, false, false, false, false, false, false, false, false, false, false] rfl rfl (any_of HT_.out (by kernel_rfl)) (fun _ _ _ h => h) (Or.inl ⟨by rfl, ?_⟩) ?_ ?_
                                  rotate_left
                                  · intro w'
                                    go_simp
                                    with_reducible rfl
                                  rotate_left
                                  · simp only [Act.put, List.setIfInBounds_toArray, List.set_cons_zero, List.set_cons_succ, i64_w, i32_w]
                                    rfl
                                  refine pure_ (i := 12) (N := some 61) (v := ?_) (a' := ?_) #[true, true, true, true, true, true, true, true, true, true, true, true, true, false, false, false, false, false, false, false, false, false, false, false, false, false, false, false, false] rfl rfl (any_of HT_.out (by kernel_rfl)) (fun _ _ _ h => h) (Or.inl ⟨by rfl, ?_⟩) ?_ ?_
                                  rotate_left
                                  · intro w'
                                    go_simp
                                    with_reducible rfl
                                  rotate_left
                                  · simp only [Act.put, List.setIfInBounds_toArray, List.set_cons_zero, List.set_cons_succ, i64_w, i32_w]
                                    rfl
                                  refine pure_ (i := 13) (N := some 62) (v := ?_) (a' := ?_) #[true, true, true, true, true, true, true, true, true, true, true, true, true, true, false, false, false, false, false, false, false, false, false, false, false, false, false, false, false] rfl rfl (any_of HT_.out (by kernel_rfl)) (fun _ _ _ h => h) (Or.inl ⟨by rfl, ?_⟩) ?_ ?_
                                  rotate_left
                                  · intro w'
                                    go_simp
                                    with_reducible rfl
                                  rotate_left
                                  · simp only [Act.put, List.setIfInBounds_toArray, List.set_cons_zero, List.set_cons_succ, i64_w, i32_w]
                                    rfl
                                  refine pure_ (i := 14) (N := some 63) (v := ?_) (a' := ?_) #[true, true, true, true, true, true, true, true, true, true, true, true, true, true, true, false, false, false, false, false, false, false, false, false, false, false, false, false, false] rfl rfl (any_of HT_.out (by kernel_rfl)) (fun _ _ _ h => h) (Or.inl ⟨by rfl, ?_⟩) ?_ ?_
                                  rotate_left
                                  · intro w'
                                    go_simp
                                    with_reducible rfl
                                  rotate_left
                                  · simp only [Act.put, List.setIfInBounds_toArray, List.set_cons_zero, List.set_cons_succ, i64_w, i32_w]
                                    rfl
                                  refine pure_ (i := 15) (N := some 64) (v := ?_) (a' := ?_) #[true, true, true, true, true, true, true, true, true, true, true, true, true, true, true, true, false, false, false, false, false, false, false, false, false, false, false, false, false] rfl rfl (any_of HT_.out (by kernel_rfl)) (fun _ _ _ h => h) (Or.inl ⟨by rfl, ?_⟩) ?_ ?_
                                  rotate_left
                                  · intro w'
                                    go_simp
                                    with_reducible rfl
                                  rotate_left
                                  · simp only [Act.put, List.setIfInBounds_toArray, List.set_cons_zero, List.set_cons_succ, i64_w, i32_w]
                                    rfl
                                  refine take_ (i := 16) (N := some 65) (v := ?_) (a' := ?_) #[true, true, true, true, true, true, true, true, true, true, true, true, true, true, true, true, true, false, false, false, false, false, false, false, false, false, false, false, false] rfl rfl (take_ofW HT_.out HW_.out (by kernel_rfl)) (fun _ _ _ h => h) (Or.inl ⟨by rfl, ?_⟩) hHeld ?_ ?_
                                  rotate_left
                                  · rintro w' ⟨s0, s1, s2, s3, s4, s5, s6, s7, s8, s9, s10, s11, s12, s13, s14, s15, s16, s17, s18, s19, s20, s21, s22, s23, s24, s25, s26, s27, s28, s29, s30, s31, s32, s33, s34, s35⟩
                                    go_simp
                                    with_reducible rfl
                                  rotate_left
                                  · simp only [Act.put, List.setIfInBounds_toArray, List.set_cons_zero, List.set_cons_succ, i64_w, i32_w]
                                    rfl
                                  refine pure_ (i := 17) (N := some 66) (v := ?_) (a' := ?_) #[true, true, true, true, true, true, true, true, true, true, true, true, true, true, true, true, true, true, false, false, false, false, false, false, false, false, false, false, false] rfl rfl (any_of HT_.out (by kernel_rfl)) (fun _ _ _ h => h) (Or.inl ⟨by rfl, ?_⟩) ?_ ?_
                                  rotate_left
                                  · intro w'
                                    go_simp
                                    with_reducible rfl
                                  rotate_left
                                  · simp only [Act.put, List.setIfInBounds_toArray, List.set_cons_zero, List.set_cons_succ, i64_w, i32_w]
                                    rfl
                                  refine pure_ (i := 18) (N := some 67) (v := ?_) (a' := ?_) #[true, true, true, true, true, true, true, true, true, true, true, true, true, true, true, true, true, true, true, false, false, false, false, false, false, false, false, false, false] rfl rfl (any_of HT_.out (by kernel_rfl)) (fun _ _ _ h => h) (Or.inl ⟨by rfl, ?_⟩) ?_ ?_
                                  rotate_left
                                  · intro w'
                                    go_simp
                                    with_reducible rfl
                                  rotate_left
                                  · simp only [Act.put, List.setIfInBounds_toArray, List.set_cons_zero, List.set_cons_succ, i64_w, i32_w]
                                    rfl
                                  refine pure_ (i := 19) (N := some 68) (v := ?_) (a' := ?_) #[true, true, true, true, true, true, true, true, true, true, true, true, true, true, true, true, true, true, true, true, false, false, false, false, false, false, false, false, false] rfl rfl (any_of HT_.out (by kernel_rfl)) (fun _ _ _ h => h) (Or.inl ⟨by rfl, ?_⟩) ?_ ?_
                                  rotate_left
                                  · intro w'
                                    go_simp
                                    with_reducible rfl
                                  rotate_left
                                  · simp only [Act.put, List.setIfInBounds_toArray, List.set_cons_zero, List.set_cons_succ, i64_w, i32_w]
                                    rfl
                                  refine pure_ (i := 20) (N := some 69) (v := ?_) (a' := ?_) #[true, true, true, true, true, true, true, true, true, true, true, true, true, true, true, true, true, true, true, true, true, false, false, false, false, false, false, false, false] rfl rfl (any_of HT_.out (by kernel_rfl)) (fun _ _ _ h => h) (Or.inl ⟨by rfl, ?_⟩) ?_ ?_
                                  rotate_left
                                  · intro w'
                                    go_simp
                                    with_reducible rfl
                                  rotate_left
                                  · simp only [Act.put, List.setIfInBounds_toArray, List.set_cons_zero, List.set_cons_succ, i64_w, i32_w]
                                    rfl
                                  refine pure_ (i := 21) (N := some 70) (v := undef) (a' := ?_) #[true, true, true, true, true, true, true, true, true, true, true, true, true, true, true, true, true, true, true, true, true, true, false, false, false, false, false, false, false] rfl rfl (any_of HT_.out (by kernel_rfl)) (fun _ _ _ h => h) (Or.inr ⟨by rfl, rfl⟩) ?_ ?_
                                  rotate_left
                                  · simp only [Act.put, List.setIfInBounds_toArray, List.set_cons_zero, List.set_cons_succ, i64_w, i32_w]
                                    rfl
                                  refine pure_ (i := 22) (N := some 71) (v := undef) (a' := ?_) #[true, true, true, true, true, true, true, true, true, true, true, true, true, true, true, true, true, true, true, true, true, true, true, false, false, false, false, false, false] rfl rfl (any_of HT_.out (by kernel_rfl)) (fun _ _ _ h => h) (Or.inr ⟨by rfl, rfl⟩) ?_ ?_
                                  rotate_left
                                  · simp only [Act.put, List.setIfInBounds_toArray, List.set_cons_zero, List.set_cons_succ, i64_w, i32_w]
                                    rfl
                                  refine pure_ (i := 23) (N := some 72) (v := undef) (a' := ?_) #[true, true, true, true, true, true, true, true, true, true, true, true, true, true, true, true, true, true, true, true, true, true, true, true, false, false, false, false, false] rfl rfl (any_of HT_.out (by kernel_rfl)) (fun _ _ _ h => h) (Or.inr ⟨by rfl, rfl⟩) ?_ ?_
                                  rotate_left
                                  · simp only [Act.put, List.setIfInBounds_toArray, List.set_cons_zero, List.set_cons_succ, i64_w, i32_w]
                                    rfl
                                  refine pure_ (i := 24) (N := some 73) (v := undef) (a' := ?_) #[true, true, true, true, true, true, true, true, true, true, true, true, true, true, true, true, true, true, true, true, true, true, true, true, true, false, false, false, false] rfl rfl (any_of HT_.out (by kernel_rfl)) (fun _ _ _ h => h) (Or.inr ⟨by rfl, rfl⟩) ?_ ?_
                                  rotate_left
                                  · simp only [Act.put, List.setIfInBounds_toArray, List.set_cons_zero, List.set_cons_succ, i64_w, i32_w]
                                    rfl
                                  refine pure_ (i := 25) (N := some 74) (v := undef) (a' := ?_) #[true, true, true, true, true, true, true, true, true, true, true, true, true, true, true, true, true, true, true, true, true, true, true, true, true, true, false, false, false] rfl rfl (any_of HT_.out (by kernel_rfl)) (fun _ _ _ h => h) (Or.inr ⟨by rfl, rfl⟩) ?_ ?_
                                  rotate_left
                                  · simp only [Act.put, List.setIfInBounds_toArray, List.set_cons_zero, List.set_cons_succ, i64_w, i32_w]
                                    rfl
                                  refine pure_ (i := 26) (N := some 75) (v := undef) (a' := ?_) #[true, true, true, true, true, true, true, true, true, true, true, true, true, true, true, true, true, true, true, true, true, true, true, true, true, true, true, false, false] rfl rfl (any_of HT_.out (by kernel_rfl)) (fun _ _ _ h => h) (Or.inr ⟨by rfl, rfl⟩) ?_ ?_
                                  rotate_left
                                  · simp only [Act.put, List.setIfInBounds_toArray, List.set_cons_zero, List.set_cons_succ, i64_w, i32_w]
                                    rfl
                                  refine pure_ (i := 27) (N := some 76) (v := undef) (a' := ?_) #[true, true, true, true, true, true, true, true, true, true, true, true, true, true, true, true, true, true, true, true, true, true, true, true, true, true, true, true, false] rfl rfl (any_of HT_.out (by kernel_rfl)) (fun _ _ _ h => h) (Or.inr ⟨by rfl, rfl⟩) ?_ ?_
                                  rotate_left
                                  · simp only [Act.put, List.setIfInBounds_toArray, List.set_cons_zero, List.set_cons_succ, i64_w, i32_w]
                                    rfl
                                  refine pure_ (i := 28) (N := some 77) (v := ?_) (a' := ?_) #[true, true, true, true, true, true, true, true, true, true, true, true, true, true, true, true, true, true, true, true, true, true, true, true, true, true, true, true, true] rfl rfl (any_of HT_.out (by kernel_rfl)) (fun _ _ _ h => h) (Or.inl ⟨by rfl, ?_⟩) ?_ ?_
                                  rotate_left
                                  · intro w'
                                    go_simp
                                    with_reducible rfl
                                  rotate_left
                                  · simp only [Act.put, List.setIfInBounds_toArray, List.set_cons_zero, List.set_cons_succ, i64_w, i32_w]
                                    rfl
                                  refine done_ (done_of HT_.out (by kernel_rfl)) ?_
                                  try go_wp2
                                  go_meet
                                  case rel => exact ⟨_, (true), (by first | rfl | (simp; done) | (simp [*]; done)), H', ⟨by have := HJ6.out; have := HK2.out; have := HK3.out; first | omega | exact Nat.le_refl _⟩, ⟨by (with_reducible repeat (first | apply Kd.R_alloc | apply Kd.R_drewN | apply Kd.R_drew)); exact HO_12.out⟩, ⟨by (with_reducible repeat (first | refine blk_drewN ?_ _ | refine blk_drew ?_ | refine blk_alloc ?_ _)); exact BK151.out⟩, ⟨by repeat (first | (with_reducible first | exact HB.out | apply below_alloc | apply pw_below_drewN | apply below_drew1 | refine below_set ?_ GE151.out) | exact HB.out)⟩⟩
                              · replace c33 := Bool.eq_false_iff.mpr c33
                                subst c33
                                have H1 : ((tidewayref13_Ahead.f a0_0 a0_1 a0_2 a0_3 a0_4 a0_5 a0_6 a0_7 ((rd_T25 x12_3 x14_3).f0) ((rd_T25 x12_3 x14_3).f1) ((rd_T25 x12_3 x14_3).f2) ((rd_T25 x12_3 x14_3).f3) ((rd_T25 x12_3 x14_3).f4) (false) (false) ((rd_T25 x12_3 x14_3).f7) ((rd_T25 x12_3 x14_3).f8) ((rd_T25 x12_3 x14_3).f9) ((rd_T25 x12_3 x14_3).f10) ((rd_T25 x12_3 x14_3).f11)).bind fun t169 => (tidewayref13_Mark.j3 k3 a2 a3 x12_3 x13_3 x14_3 (!t169) a0_0 a0_1 a0_2 a0_3 a0_4 a0_5 a0_6 a0_7)) = some (r1, r2, r3) := by rw [if_neg (show ¬ (false = true) by decide)] at H; exact H
                                clear H
                                have H := H1
                                clear H1
                                replace H := Option.bind_eq_some_iff.mp H
                                obtain ⟨t169, A400, H⟩ := H
                                replace H : (tidewayref13_Mark.j3 k3 a2 a3 x12_3 x13_3 x14_3 (!t169) a0_0 a0_1 a0_2 a0_3 a0_4 a0_5 a0_6 a0_7) = some (r1, r2, r3) := H
                                have A40 := Aside0.mk A400
                                clear A400
                                have H' := Aside0.mk H
                                clear H
                                try go_wp2
                                have n0_ := Aside0.mk (Kd.R_drew HO_12.out)
                                have n1_ := Aside0.mk (blk_drew BK151.out)
                                have n2_ := Aside0.mk (below_drew1 HB.out)
                                clear HO_12
                                clear BK151
                                clear HB
                                have HO_12 := n0_
                                have BK151 := n1_
                                have HB := n2_
                                clear n0_ n1_ n2_
                                have p163 : 0 ≤ (x14_3 : Int) := of_decide_eq_true (by first | (with_reducible assumption) | assumption)
                                have q163 : x14_3 < (x12_3.length : Int) := of_decide_eq_true (by first | (with_reducible assumption) | assumption)
                                obtain ⟨ad163, e163, hx163_0, hx163_1, hx163_2, hx163_3, hx163_4, hx163_5, hx163_6, hx163_7, hx163_8, hx163_9, hx163_10, hx163_11⟩ := at_T25 (Kd.R_reads' HO_12.out).2.2 x14_3 p163 q163
                                (try rw [← Nbq29.out] at hx163_2)
                                (try rw [← Nbq32.out] at hx163_2)
                                (try rw [← Nbq29.out] at hx163_5)
                                (try rw [← Nbq32.out] at hx163_5)
                                (try rw [← Nbq29.out] at hx163_6)
                                (try rw [← Nbq32.out] at hx163_6)
                                (try rw [← Nbq29.out] at hx163_7)
                                (try rw [← Nbq32.out] at hx163_7)
                                (try rw [← Nbq29.out] at hx163_11)
                                (try rw [← Nbq32.out] at hx163_11)
                                cases e163
                                replace p163 := eq_true p163
                                replace q163 := eq_true q163
                                have p164 : 0 ≤ (x14_3 : Int) := of_decide_eq_true (by first | (with_reducible assumption) | assumption)
                                have q164 : x14_3 < (x12_3.length : Int) := of_decide_eq_true (by first | (with_reducible assumption) | assumption)
                                obtain ⟨ad164, e164, hx164_0, hx164_1, hx164_2, hx164_3, hx164_4, hx164_5, hx164_6, hx164_7, hx164_8, hx164_9, hx164_10, hx164_11⟩ := at_T25 (Kd.R_reads' HO_12.out).2.2 x14_3 p164 q164
                                (try rw [← Nbq29.out] at hx164_2)
                                (try rw [← Nbq32.out] at hx164_2)
                                (try rw [← Nbq29.out] at hx164_5)
                                (try rw [← Nbq32.out] at hx164_5)
                                (try rw [← Nbq29.out] at hx164_6)
                                (try rw [← Nbq32.out] at hx164_6)
                                (try rw [← Nbq29.out] at hx164_7)
                                (try rw [← Nbq32.out] at hx164_7)
                                (try rw [← Nbq29.out] at hx164_11)
                                (try rw [← Nbq32.out] at hx164_11)
                                obtain rfl : ad163 = ad164 := (by injection e164)
                                replace p164 := eq_true p164
                                replace q164 := eq_true q164
                                have p168 : 0 ≤ (x14_3 : Int) := of_decide_eq_true (by first | (with_reducible assumption) | assumption)
                                have q168 : x14_3 < (x12_3.length : Int) := of_decide_eq_true (by first | (with_reducible assumption) | assumption)
                                obtain ⟨ad168, e168, hx168_0, hx168_1, hx168_2, hx168_3, hx168_4, hx168_5, hx168_6, hx168_7, hx168_8, hx168_9, hx168_10, hx168_11⟩ := at_T25 (Kd.R_reads' HO_12.out).2.2 x14_3 p168 q168
                                (try rw [← Nbq29.out] at hx168_2)
                                (try rw [← Nbq32.out] at hx168_2)
                                (try rw [← Nbq29.out] at hx168_5)
                                (try rw [← Nbq32.out] at hx168_5)
                                (try rw [← Nbq29.out] at hx168_6)
                                (try rw [← Nbq32.out] at hx168_6)
                                (try rw [← Nbq29.out] at hx168_7)
                                (try rw [← Nbq32.out] at hx168_7)
                                (try rw [← Nbq29.out] at hx168_11)
                                (try rw [← Nbq32.out] at hx168_11)
                                obtain rfl : ad163 = ad168 := (by injection e168)
                                replace p168 := eq_true p168
                                replace q168 := eq_true q168
                                refine start_ (n := 29) (S := fun w' => w'.cell? ⟨gb151, 0, none⟩ = some (.int .i64 a0_0) ∧ w'.cell? ⟨gb151, 1, none⟩ = some (.int .i64 a0_1) ∧ w'.cell? ⟨gb151, 2, none⟩ = some (.int .i64 a0_2) ∧ w'.cell? ⟨gb151, 3, none⟩ = some (.bool a0_3) ∧ w'.cell? ⟨gb151, 4, none⟩ = some (.int .i64 a0_4) ∧ w'.cell? ⟨gb151, 5, none⟩ = some (.int .i64 a0_5) ∧ w'.cell? ⟨gb151, 6, none⟩ = some (.int .i64 a0_6) ∧ w'.cell? ⟨gb151, 7, none⟩ = some (.int .i64 a0_7) ∧ w'.cell? (ad163.add ((x14_3).toNat * 12)) = some (.int .i64 ((rd_T25 x12_3 x14_3).f0)) ∧ w'.cell? ⟨(ad163.add ((x14_3).toNat * 12)).block, (ad163.add ((x14_3).toNat * 12)).off + 1, none⟩ = some (.int .i64 ((rd_T25 x12_3 x14_3).f1)) ∧ w'.cell? ⟨(ad163.add ((x14_3).toNat * 12)).block, (ad163.add ((x14_3).toNat * 12)).off + 2, none⟩ = some (.bool ((rd_T25 x12_3 x14_3).f2)) ∧ w'.cell? ⟨(ad163.add ((x14_3).toNat * 12)).block, (ad163.add ((x14_3).toNat * 12)).off + 3, none⟩ = some (.int .i64 ((rd_T25 x12_3 x14_3).f3)) ∧ w'.cell? ⟨(ad163.add ((x14_3).toNat * 12)).block, (ad163.add ((x14_3).toNat * 12)).off + 4, none⟩ = some (.int .i64 ((rd_T25 x12_3 x14_3).f4)) ∧ w'.cell? ⟨(ad163.add ((x14_3).toNat * 12)).block, (ad163.add ((x14_3).toNat * 12)).off + 5, none⟩ = some (.bool false) ∧ w'.cell? ⟨(ad163.add ((x14_3).toNat * 12)).block, (ad163.add ((x14_3).toNat * 12)).off + 6, none⟩ = some (.bool false) ∧ w'.cell? ⟨(ad163.add ((x14_3).toNat * 12)).block, (ad163.add ((x14_3).toNat * 12)).off + 7, none⟩ = some (.bool ((rd_T25 x12_3 x14_3).f7)) ∧ w'.cell? ⟨(ad163.add ((x14_3).toNat * 12)).block, (ad163.add ((x14_3).toNat * 12)).off + 8, none⟩ = some (.int .i64 ((rd_T25 x12_3 x14_3).f8)) ∧ w'.cell? ⟨(ad163.add ((x14_3).toNat * 12)).block, (ad163.add ((x14_3).toNat * 12)).off + 9, none⟩ = some (.int .i64 ((rd_T25 x12_3 x14_3).f9)) ∧ w'.cell? ⟨(ad163.add ((x14_3).toNat * 12)).block, (ad163.add ((x14_3).toNat * 12)).off + 10, none⟩ = some (.int .i64 ((rd_T25 x12_3 x14_3).f10)) ∧ w'.cell? ⟨(ad163.add ((x14_3).toNat * 12)).block, (ad163.add ((x14_3).toNat * 12)).off + 11, none⟩ = some (.bool ((rd_T25 x12_3 x14_3).f11)) ∧ w'.cell? (ad163.add ((x14_3).toNat * 12)) = some (.int .i64 ((rd_T25 x12_3 x14_3).f0)) ∧ w'.cell? ⟨(ad163.add ((x14_3).toNat * 12)).block, (ad163.add ((x14_3).toNat * 12)).off + 1, none⟩ = some (.int .i64 ((rd_T25 x12_3 x14_3).f1)) ∧ w'.cell? ⟨(ad163.add ((x14_3).toNat * 12)).block, (ad163.add ((x14_3).toNat * 12)).off + 2, none⟩ = some (.bool ((rd_T25 x12_3 x14_3).f2)) ∧ w'.cell? ⟨(ad163.add ((x14_3).toNat * 12)).block, (ad163.add ((x14_3).toNat * 12)).off + 3, none⟩ = some (.int .i64 ((rd_T25 x12_3 x14_3).f3)) ∧ w'.cell? ⟨(ad163.add ((x14_3).toNat * 12)).block, (ad163.add ((x14_3).toNat * 12)).off + 4, none⟩ = some (.int .i64 ((rd_T25 x12_3 x14_3).f4)) ∧ w'.cell? ⟨(ad163.add ((x14_3).toNat * 12)).block, (ad163.add ((x14_3).toNat * 12)).off + 5, none⟩ = some (.bool (false)) ∧ w'.cell? ⟨(ad163.add ((x14_3).toNat * 12)).block, (ad163.add ((x14_3).toNat * 12)).off + 6, none⟩ = some (.bool false) ∧ w'.cell? ⟨(ad163.add ((x14_3).toNat * 12)).block, (ad163.add ((x14_3).toNat * 12)).off + 7, none⟩ = some (.bool ((rd_T25 x12_3 x14_3).f7)) ∧ w'.cell? ⟨(ad163.add ((x14_3).toNat * 12)).block, (ad163.add ((x14_3).toNat * 12)).off + 8, none⟩ = some (.int .i64 ((rd_T25 x12_3 x14_3).f8)) ∧ w'.cell? ⟨(ad163.add ((x14_3).toNat * 12)).block, (ad163.add ((x14_3).toNat * 12)).off + 9, none⟩ = some (.int .i64 ((rd_T25 x12_3 x14_3).f9)) ∧ w'.cell? ⟨(ad163.add ((x14_3).toNat * 12)).block, (ad163.add ((x14_3).toNat * 12)).off + 10, none⟩ = some (.int .i64 ((rd_T25 x12_3 x14_3).f10)) ∧ w'.cell? ⟨(ad163.add ((x14_3).toNat * 12)).block, (ad163.add ((x14_3).toNat * 12)).off + 11, none⟩ = some (.bool ((rd_T25 x12_3 x14_3).f11)) ∧ w'.cell? (ad163.add ((x14_3).toNat * 12)) = some (.int .i64 ((rd_T25 x12_3 x14_3).f0)) ∧ w'.cell? ⟨(ad163.add ((x14_3).toNat * 12)).block, (ad163.add ((x14_3).toNat * 12)).off + 1, none⟩ = some (.int .i64 ((rd_T25 x12_3 x14_3).f1)) ∧ w'.cell? ⟨(ad163.add ((x14_3).toNat * 12)).block, (ad163.add ((x14_3).toNat * 12)).off + 2, none⟩ = some (.bool ((rd_T25 x12_3 x14_3).f2)) ∧ w'.cell? ⟨(ad163.add ((x14_3).toNat * 12)).block, (ad163.add ((x14_3).toNat * 12)).off + 3, none⟩ = some (.int .i64 ((rd_T25 x12_3 x14_3).f3)) ∧ w'.cell? ⟨(ad163.add ((x14_3).toNat * 12)).block, (ad163.add ((x14_3).toNat * 12)).off + 4, none⟩ = some (.int .i64 ((rd_T25 x12_3 x14_3).f4)) ∧ w'.cell? ⟨(ad163.add ((x14_3).toNat * 12)).block, (ad163.add ((x14_3).toNat * 12)).off + 5, none⟩ = some (.bool (false)) ∧ w'.cell? ⟨(ad163.add ((x14_3).toNat * 12)).block, (ad163.add ((x14_3).toNat * 12)).off + 6, none⟩ = some (.bool (false)) ∧ w'.cell? ⟨(ad163.add ((x14_3).toNat * 12)).block, (ad163.add ((x14_3).toNat * 12)).off + 7, none⟩ = some (.bool ((rd_T25 x12_3 x14_3).f7)) ∧ w'.cell? ⟨(ad163.add ((x14_3).toNat * 12)).block, (ad163.add ((x14_3).toNat * 12)).off + 8, none⟩ = some (.int .i64 ((rd_T25 x12_3 x14_3).f8)) ∧ w'.cell? ⟨(ad163.add ((x14_3).toNat * 12)).block, (ad163.add ((x14_3).toNat * 12)).off + 9, none⟩ = some (.int .i64 ((rd_T25 x12_3 x14_3).f9)) ∧ w'.cell? ⟨(ad163.add ((x14_3).toNat * 12)).block, (ad163.add ((x14_3).toNat * 12)).off + 10, none⟩ = some (.int .i64 ((rd_T25 x12_3 x14_3).f10)) ∧ w'.cell? ⟨(ad163.add ((x14_3).toNat * 12)).block, (ad163.add ((x14_3).toNat * 12)).off + 11, none⟩ = some (.bool ((rd_T25 x12_3 x14_3).f11))) (ds := []) #[false, false, false, false, false, false, false, false, false, false, false, false, false, false, false, false, false, false, false, false, false, false, false, false, false, false, false, false, false] (by kernel_rfl) rfl rfl ⟨(blk_cell BK151.out 0).trans rfl, (blk_cell BK151.out 1).trans rfl, (blk_cell BK151.out 2).trans rfl, (blk_cell BK151.out 3).trans rfl, (blk_cell BK151.out 4).trans rfl, (blk_cell BK151.out 5).trans rfl, (blk_cell BK151.out 6).trans rfl, (blk_cell BK151.out 7).trans rfl, hx163_0, hx163_1, hx163_2, hx163_3, hx163_4, hx163_5, hx163_6, hx163_7, hx163_8, hx163_9, hx163_10, hx163_11, hx164_0, hx164_1, hx164_2, hx164_3, hx164_4, hx164_5, hx164_6, hx164_7, hx164_8, hx164_9, hx164_10, hx164_11, hx168_0, hx168_1, hx168_2, hx168_3, hx168_4, hx168_5, hx168_6, hx168_7, hx168_8, hx168_9, hx168_10, hx168_11⟩ (fun hHeld => ?_); refine with_tabW tidewayref13_Mark.tab15 tidewayref13_Mark.bits15 (fun HT_ HW_ => ?_)
                                generalize wr.drew = w41 at HO_12 BK151 HB hx163_0 hx163_1 hx163_10 hx163_11 hx163_2 hx163_3 hx163_4 hx163_5 hx163_6 hx163_7 hx163_8 hx163_9 hx164_0 hx164_1 hx164_10 hx164_11 hx164_2 hx164_3 hx164_4 hx164_5 hx164_6 hx164_7 hx164_8 hx164_9 hx168_0 hx168_1 hx168_10 hx168_11 hx168_2 hx168_3 hx168_4 hx168_5 hx168_6 hx168_7 hx168_8 hx168_9 hHeld ⊢
                                refine pure_ (i := 0) (N := some 49) (v := ?_) (a' := ?_) #[true, false, false, false, false, false, false, false, false, false, false, false, false, false, false, false, false, false, false, false, false, false, false, false, false, false, false, false, false] rfl rfl (any_of HT_.out (by kernel_rfl)) (fun _ _ _ h => h) (Or.inl ⟨by rfl, ?_⟩) ?_ ?_
                                rotate_left
                                · intro w'
                                  go_simp
                                  with_reducible rfl
                                rotate_left
                                · simp only [Act.put, List.setIfInBounds_toArray, List.set_cons_zero, List.set_cons_succ, i64_w, i32_w]
                                  rfl
                                refine pure_ (i := 1) (N := some 50) (v := ?_) (a' := ?_) #[true, true, false, false, false, false, false, false, false, false, false, false, false, false, false, false, false, false, false, false, false, false, false, false, false, false, false, false, false] rfl rfl (any_of HT_.out (by kernel_rfl)) (fun _ _ _ h => h) (Or.inl ⟨by rfl, ?_⟩) ?_ ?_
                                rotate_left
                                · intro w'
                                  go_simp
                                  with_reducible rfl
                                rotate_left
                                · simp only [Act.put, List.setIfInBounds_toArray, List.set_cons_zero, List.set_cons_succ, i64_w, i32_w]
                                  rfl
                                refine pure_ (i := 2) (N := some 51) (v := ?_) (a' := ?_) #[true, true, true, false, false, false, false, false, false, false, false, false, false, false, false, false, false, false, false, false, false, false, false, false, false, false, false, false, false] rfl rfl (any_of HT_.out (by kernel_rfl)) (fun _ _ _ h => h) (Or.inl ⟨by rfl, ?_⟩) ?_ ?_
                                rotate_left
                                · intro w'
                                  go_simp
                                  with_reducible rfl
                                rotate_left
                                · simp only [Act.put, List.setIfInBounds_toArray, List.set_cons_zero, List.set_cons_succ, i64_w, i32_w]
                                  rfl
                                refine pure_ (i := 3) (N := some 52) (v := ?_) (a' := ?_) #[true, true, true, true, false, false, false, false, false, false, false, false, false, false, false, false, false, false, false, false, false, false, false, false, false, false, false, false, false] rfl rfl (any_of HT_.out (by kernel_rfl)) (fun _ _ _ h => h) (Or.inl ⟨by rfl, ?_⟩) ?_ ?_
                                rotate_left
                                · intro w'
                                  go_simp
                                  with_reducible rfl
                                rotate_left
                                · simp only [Act.put, List.setIfInBounds_toArray, List.set_cons_zero, List.set_cons_succ, i64_w, i32_w]
                                  rfl
                                refine take_ (i := 4) (N := some 53) (v := ?_) (a' := ?_) #[true, true, true, true, true, false, false, false, false, false, false, false, false, false, false, false, false, false, false, false, false, false, false, false, false, false, false, false, false] rfl rfl (take_ofW HT_.out HW_.out (by kernel_rfl)) (fun _ _ _ h => h) (Or.inl ⟨by rfl, ?_⟩) hHeld ?_ ?_
                                rotate_left
                                · rintro w' ⟨s0, s1, s2, s3, s4, s5, s6, s7, s8, s9, s10, s11, s12, s13, s14, s15, s16, s17, s18, s19, s20, s21, s22, s23, s24, s25, s26, s27, s28, s29, s30, s31, s32, s33, s34, s35, s36, s37, s38, s39, s40, s41, s42, s43⟩
                                  go_simp
                                  with_reducible rfl
                                rotate_left
                                · simp only [Act.put, List.setIfInBounds_toArray, List.set_cons_zero, List.set_cons_succ, i64_w, i32_w]
                                  rfl
                                refine pure_ (i := 5) (N := some 54) (v := ?_) (a' := ?_) #[true, true, true, true, true, true, false, false, false, false, false, false, false, false, false, false, false, false, false, false, false, false, false, false, false, false, false, false, false] rfl rfl (any_of HT_.out (by kernel_rfl)) (fun _ _ _ h => h) (Or.inl ⟨by rfl, ?_⟩) ?_ ?_
                                rotate_left
                                · intro w'
                                  go_simp
                                  with_reducible rfl
                                rotate_left
                                · simp only [Act.put, List.setIfInBounds_toArray, List.set_cons_zero, List.set_cons_succ, i64_w, i32_w]
                                  rfl
                                refine pure_ (i := 6) (N := some 55) (v := ?_) (a' := ?_) #[true, true, true, true, true, true, true, false, false, false, false, false, false, false, false, false, false, false, false, false, false, false, false, false, false, false, false, false, false] rfl rfl (any_of HT_.out (by kernel_rfl)) (fun _ _ _ h => h) (Or.inl ⟨by rfl, ?_⟩) ?_ ?_
                                rotate_left
                                · intro w'
                                  go_simp
                                  with_reducible rfl
                                rotate_left
                                · simp only [Act.put, List.setIfInBounds_toArray, List.set_cons_zero, List.set_cons_succ, i64_w, i32_w]
                                  rfl
                                refine pure_ (i := 7) (N := some 56) (v := ?_) (a' := ?_) #[true, true, true, true, true, true, true, true, false, false, false, false, false, false, false, false, false, false, false, false, false, false, false, false, false, false, false, false, false] rfl rfl (any_of HT_.out (by kernel_rfl)) (fun _ _ _ h => h) (Or.inl ⟨by rfl, ?_⟩) ?_ ?_
                                rotate_left
                                · intro w'
                                  go_simp
                                  with_reducible rfl
                                rotate_left
                                · simp only [Act.put, List.setIfInBounds_toArray, List.set_cons_zero, List.set_cons_succ, i64_w, i32_w]
                                  rfl
                                refine pure_ (i := 8) (N := some 57) (v := ?_) (a' := ?_) #[true, true, true, true, true, true, true, true, true, false, false, false, false, false, false, false, false, false, false, false, false, false, false, false, false, false, false, false, false] rfl rfl (any_of HT_.out (by kernel_rfl)) (fun _ _ _ h => h) (Or.inl ⟨by rfl, ?_⟩) ?_ ?_
                                rotate_left
                                · intro w'
                                  go_simp
                                  with_reducible rfl
                                rotate_left
                                · simp only [Act.put, List.setIfInBounds_toArray, List.set_cons_zero, List.set_cons_succ, i64_w, i32_w]
                                  rfl
                                refine pure_ (i := 9) (N := some 58) (v := ?_) (a' := ?_) #[true, true, true, true, true, true, true, true, true, true, false, false, false, false, false, false, false, false, false, false, false, false, false, false, false, false, false, false, false] rfl rfl (any_of HT_.out (by kernel_rfl)) (fun _ _ _ h => h) (Or.inl ⟨by rfl, ?_⟩) ?_ ?_
                                rotate_left
                                · intro w'
                                  go_simp
                                  with_reducible rfl
                                rotate_left
                                · simp only [Act.put, List.setIfInBounds_toArray, List.set_cons_zero, List.set_cons_succ, i64_w, i32_w]
                                  rfl
                                refine take_ (i := 10) (N := some 59) (v := ?_) (a' := ?_) #[true, true, true, true, true, true, true, true, true, true, true, false, false, false, false, false, false, false, false, false, false, false, false, false, false, false, false, false, false] rfl rfl (take_ofW HT_.out HW_.out (by kernel_rfl)) (fun _ _ _ h => h) (Or.inl ⟨by rfl, ?_⟩) hHeld ?_ ?_
                                rotate_left
                                · rintro w' ⟨s0, s1, s2, s3, s4, s5, s6, s7, s8, s9, s10, s11, s12, s13, s14, s15, s16, s17, s18, s19, s20, s21, s22, s23, s24, s25, s26, s27, s28, s29, s30, s31, s32, s33, s34, s35, s36, s37, s38, s39, s40, s41, s42, s43⟩
                                  go_simp
                                  with_reducible rfl
                                rotate_left
                                · simp only [Act.put, List.setIfInBounds_toArray, List.set_cons_zero, List.set_cons_succ, i64_w, i32_w]
                                  rfl
                                refine pure_ (i := 11) (N := some 60) (v := ?_) (a' := ?_) #[true, true, true, true, true, true, true, true, true, true, true, true, false, false, false, false, false, false, false, false, false, false, false, false, false, false, false, false, false] rfl rfl (any_of HT_.out (by kernel_rfl)) (fun _ _ _ h => h) (Or.inl ⟨by rfl, ?_⟩) ?_ ?_
                                rotate_left
                                · intro w'
                                  go_simp
                                  with_reducible rfl
                                rotate_left
                                · simp only [Act.put, List.setIfInBounds_toArray, List.set_cons_zero, List.set_cons_succ, i64_w, i32_w]
                                  rfl
                                refine pure_ (i := 12) (N := some 61) (v := undef) (a' := ?_) #[true, true, true, true, true, true, true, true, true, true, true, true, true, false, false, false, false, false, false, false, false, false, false, false, false, false, false, false, false] rfl rfl (any_of HT_.out (by kernel_rfl)) (fun _ _ _ h => h) (Or.inr ⟨by rfl, rfl⟩) ?_ ?_
                                rotate_left
                                · simp only [Act.put, List.setIfInBounds_toArray, List.set_cons_zero, List.set_cons_succ, i64_w, i32_w]
                                  rfl
                                refine pure_ (i := 13) (N := some 62) (v := undef) (a' := ?_) #[true, true, true, true, true, true, true, true, true, true, true, true, true, true, false, false, false, false, false, false, false, false, false, false, false, false, false, false, false] rfl rfl (any_of HT_.out (by kernel_rfl)) (fun _ _ _ h => h) (Or.inr ⟨by rfl, rfl⟩) ?_ ?_
                                rotate_left
                                · simp only [Act.put, List.setIfInBounds_toArray, List.set_cons_zero, List.set_cons_succ, i64_w, i32_w]
                                  rfl
                                refine pure_ (i := 14) (N := some 63) (v := undef) (a' := ?_) #[true, true, true, true, true, true, true, true, true, true, true, true, true, true, true, false, false, false, false, false, false, false, false, false, false, false, false, false, false] rfl rfl (any_of HT_.out (by kernel_rfl)) (fun _ _ _ h => h) (Or.inr ⟨by rfl, rfl⟩) ?_ ?_
                                rotate_left
                                · simp only [Act.put, List.setIfInBounds_toArray, List.set_cons_zero, List.set_cons_succ, i64_w, i32_w]
                                  rfl
                                refine pure_ (i := 15) (N := some 64) (v := undef) (a' := ?_) #[true, true, true, true, true, true, true, true, true, true, true, true, true, true, true, true, false, false, false, false, false, false, false, false, false, false, false, false, false] rfl rfl (any_of HT_.out (by kernel_rfl)) (fun _ _ _ h => h) (Or.inr ⟨by rfl, rfl⟩) ?_ ?_
                                rotate_left
                                · simp only [Act.put, List.setIfInBounds_toArray, List.set_cons_zero, List.set_cons_succ, i64_w, i32_w]
                                  rfl
                                refine pure_ (i := 16) (N := some 65) (v := undef) (a' := ?_) #[true, true, true, true, true, true, true, true, true, true, true, true, true, true, true, true, true, false, false, false, false, false, false, false, false, false, false, false, false] rfl rfl (any_of HT_.out (by kernel_rfl)) (fun _ _ _ h => h) (Or.inr ⟨by rfl, rfl⟩) ?_ ?_
                                rotate_left
                                · simp only [Act.put, List.setIfInBounds_toArray, List.set_cons_zero, List.set_cons_succ, i64_w, i32_w]
                                  rfl
                                refine pure_ (i := 17) (N := some 66) (v := undef) (a' := ?_) #[true, true, true, true, true, true, true, true, true, true, true, true, true, true, true, true, true, true, false, false, false, false, false, false, false, false, false, false, false] rfl rfl (any_of HT_.out (by kernel_rfl)) (fun _ _ _ h => h) (Or.inr ⟨by rfl, rfl⟩) ?_ ?_
                                rotate_left
                                · simp only [Act.put, List.setIfInBounds_toArray, List.set_cons_zero, List.set_cons_succ, i64_w, i32_w]
                                  rfl
                                refine pure_ (i := 18) (N := some 67) (v := ?_) (a' := ?_) #[true, true, true, true, true, true, true, true, true, true, true, true, true, true, true, true, true, true, true, false, false, false, false, false, false, false, false, false, false] rfl rfl (any_of HT_.out (by kernel_rfl)) (fun _ _ _ h => h) (Or.inl ⟨by rfl, ?_⟩) ?_ ?_
                                rotate_left
                                · intro w'
                                  go_simp
                                  with_reducible rfl
                                rotate_left
                                · simp only [Act.put, List.setIfInBounds_toArray, List.set_cons_zero, List.set_cons_succ, i64_w, i32_w]
                                  rfl
                                refine pure_ (i := 19) (N := some 68) (v := ?_) (a' := ?_) #[true, true, true, true, true, true, true, true, true, true, true, true, true, true, true, true, true, true, true, true, false, false, false, false, false, false, false, false, false] rfl rfl (any_of HT_.out (by kernel_rfl)) (fun _ _ _ h => h) (Or.inl ⟨by rfl, ?_⟩) ?_ ?_
                                rotate_left
                                · intro w'
                                  go_simp
                                  with_reducible rfl
                                rotate_left
                                · simp only [Act.put, List.setIfInBounds_toArray, List.set_cons_zero, List.set_cons_succ, i64_w, i32_w]
                                  rfl
                                refine pure_ (i := 20) (N := some 69) (v := ?_) (a' := ?_) #[true, true, true, true, true, true, true, true, true, true, true, true, true, true, true, true, true, true, true, true, true, false, false, false, false, false, false, false, false] rfl rfl (any_of HT_.out (by kernel_rfl)) (fun _ _ _ h => h) (Or.inl ⟨by rfl, ?_⟩) ?_ ?_
                                rotate_left
                                · intro w'
                                  go_simp
                                  with_reducible rfl
                                rotate_left
                                · simp only [Act.put, List.setIfInBounds_toArray, List.set_cons_zero, List.set_cons_succ, i64_w, i32_w]
                                  rfl
                                refine pure_ (i := 22) (N := some 71) (v := ?_) (a' := ?_) #[true, true, true, true, true, true, true, true, true, true, true, true, true, true, true, true, true, true, true, true, true, false, true, false, false, false, false, false, false] rfl rfl (any_of HT_.out (by kernel_rfl)) (fun _ _ _ h => h) (Or.inl ⟨by rfl, ?_⟩) ?_ ?_
                                rotate_left
                                · intro w'
                                  go_simp
                                  with_reducible rfl
                                rotate_left
                                · simp only [Act.put, List.setIfInBounds_toArray, List.set_cons_zero, List.set_cons_succ, i64_w, i32_w]
                                  rfl
                                refine pure_ (i := 23) (N := some 72) (v := ?_) (a' := ?_) #[true, true, true, true, true, true, true, true, true, true, true, true, true, true, true, true, true, true, true, true, true, false, true, true, false, false, false, false, false] rfl rfl (any_of HT_.out (by kernel_rfl)) (fun _ _ _ h => h) (Or.inl ⟨by rfl, ?_⟩) ?_ ?_
                                rotate_left
                                · intro w'
                                  go_simp
                                  with_reducible rfl
                                rotate_left
                                · simp only [Act.put, List.setIfInBounds_toArray, List.set_cons_zero, List.set_cons_succ, i64_w, i32_w]
                                  rfl
                                refine pure_ (i := 24) (N := some 73) (v := ?_) (a' := ?_) #[true, true, true, true, true, true, true, true, true, true, true, true, true, true, true, true, true, true, true, true, true, false, true, true, true, false, false, false, false] rfl rfl (any_of HT_.out (by kernel_rfl)) (fun _ _ _ h => h) (Or.inl ⟨by rfl, ?_⟩) ?_ ?_
                                rotate_left
                                · intro w'
                                  go_simp
                                  with_reducible rfl
                                rotate_left
                                · simp only [Act.put, List.setIfInBounds_toArray, List.set_cons_zero, List.set_cons_succ, i64_w, i32_w]
                                  rfl
                                refine take_ (i := 21) (N := some 70) (v := ?_) (a' := ?_) #[true, true, true, true, true, true, true, true, true, true, true, true, true, true, true, true, true, true, true, true, true, true, true, true, true, false, false, false, false] rfl rfl (take_ofW HT_.out HW_.out (by kernel_rfl)) (fun _ _ _ h => h) (Or.inl ⟨by rfl, ?_⟩) hHeld ?_ ?_
                                rotate_left
                                · rintro w' ⟨s0, s1, s2, s3, s4, s5, s6, s7, s8, s9, s10, s11, s12, s13, s14, s15, s16, s17, s18, s19, s20, s21, s22, s23, s24, s25, s26, s27, s28, s29, s30, s31, s32, s33, s34, s35, s36, s37, s38, s39, s40, s41, s42, s43⟩
                                  go_simp
                                  with_reducible rfl
                                rotate_left
                                · simp only [Act.put, List.setIfInBounds_toArray, List.set_cons_zero, List.set_cons_succ, i64_w, i32_w]
                                  rfl
                                refine take_ (i := 25) (N := some 74) (v := ?_) (a' := ?_) #[true, true, true, true, true, true, true, true, true, true, true, true, true, true, true, true, true, true, true, true, true, true, true, true, true, true, false, false, false] rfl rfl (take_ofW HT_.out HW_.out (by kernel_rfl)) (fun _ _ _ h => h) (Or.inl ⟨by rfl, ?_⟩) hHeld ?_ ?_
                                rotate_left
                                · rintro w' ⟨s0, s1, s2, s3, s4, s5, s6, s7, s8, s9, s10, s11, s12, s13, s14, s15, s16, s17, s18, s19, s20, s21, s22, s23, s24, s25, s26, s27, s28, s29, s30, s31, s32, s33, s34, s35, s36, s37, s38, s39, s40, s41, s42, s43⟩
                                  go_simp
                                  with_reducible rfl
                                rotate_left
                                · simp only [Act.put, List.setIfInBounds_toArray, List.set_cons_zero, List.set_cons_succ, i64_w, i32_w]
                                  rfl
                                refine one_ (i := 26) (N := some 75) #[true, true, true, true, true, true, true, true, true, true, true, true, true, true, true, true, true, true, true, true, true, true, true, true, true, true, true, false, false] rfl rfl (one_of HT_.out (by kernel_rfl)) (by decide) (fun K hK => ?_)
                                refine goes_ Try.func30 (by kernel_rfl) rfl #[.agg #[.int .i64 a0_0, .int .i64 a0_1, .int .i64 a0_2, .bool a0_3, .int .i64 a0_4, .int .i64 a0_5, .int .i64 a0_6, .int .i64 a0_7], .agg #[.int .i64 ((rd_T25 x12_3 x14_3).f0), .int .i64 ((rd_T25 x12_3 x14_3).f1), .bool ((rd_T25 x12_3 x14_3).f2), .int .i64 ((rd_T25 x12_3 x14_3).f3), .int .i64 ((rd_T25 x12_3 x14_3).f4), .bool false, .bool false, .bool ((rd_T25 x12_3 x14_3).f7), .int .i64 ((rd_T25 x12_3 x14_3).f8), .int .i64 ((rd_T25 x12_3 x14_3).f9), .int .i64 ((rd_T25 x12_3 x14_3).f10), .bool ((rd_T25 x12_3 x14_3).f11)]] (by rfl) rfl rfl (by (try simp only [List.map_toArray, List.map_cons, List.map_nil]); first | done | rfl | (simp only [List.length_drop, List.length_take]; rfl)) ?_
                                with_reducible refine (tidewayref13_Ahead.calls a0_0 a0_1 a0_2 a0_3 a0_4 a0_5 a0_6 a0_7 ((rd_T25 x12_3 x14_3).f0) ((rd_T25 x12_3 x14_3).f1) ((rd_T25 x12_3 x14_3).f2) ((rd_T25 x12_3 x14_3).f3) ((rd_T25 x12_3 x14_3).f4) false false ((rd_T25 x12_3 x14_3).f7) ((rd_T25 x12_3 x14_3).f8) ((rd_T25 x12_3 x14_3).f9) ((rd_T25 x12_3 x14_3).f10) ((rd_T25 x12_3 x14_3).f11) t169 _ A40.out).mono ?_
                                rintro e w42 ⟨rfl, hb⟩
                                have HS8_ := (hb.cell (World.block_lt_of_cell? _ _ (hHeld.2.2.2.2.2.2.2.2.1))).trans (hHeld.2.2.2.2.2.2.2.2.1)
                                have HS9_ := (hb.cell (World.block_lt_of_cell? _ _ (hHeld.2.2.2.2.2.2.2.2.2.1))).trans (hHeld.2.2.2.2.2.2.2.2.2.1)
                                have HS10_ := (hb.cell (World.block_lt_of_cell? _ _ (hHeld.2.2.2.2.2.2.2.2.2.2.1))).trans (hHeld.2.2.2.2.2.2.2.2.2.2.1)
                                have HS11_ := (hb.cell (World.block_lt_of_cell? _ _ (hHeld.2.2.2.2.2.2.2.2.2.2.2.1))).trans (hHeld.2.2.2.2.2.2.2.2.2.2.2.1)
                                have HS12_ := (hb.cell (World.block_lt_of_cell? _ _ (hHeld.2.2.2.2.2.2.2.2.2.2.2.2.1))).trans (hHeld.2.2.2.2.2.2.2.2.2.2.2.2.1)
                                have HS13_ := (hb.cell (World.block_lt_of_cell? _ _ (hHeld.2.2.2.2.2.2.2.2.2.2.2.2.2.1))).trans (hHeld.2.2.2.2.2.2.2.2.2.2.2.2.2.1)
                                have HS14_ := (hb.cell (World.block_lt_of_cell? _ _ (hHeld.2.2.2.2.2.2.2.2.2.2.2.2.2.2.1))).trans (hHeld.2.2.2.2.2.2.2.2.2.2.2.2.2.2.1)
                                have HS15_ := (hb.cell (World.block_lt_of_cell? _ _ (hHeld.2.2.2.2.2.2.2.2.2.2.2.2.2.2.2.1))).trans (hHeld.2.2.2.2.2.2.2.2.2.2.2.2.2.2.2.1)
                                have HS16_ := (hb.cell (World.block_lt_of_cell? _ _ (hHeld.2.2.2.2.2.2.2.2.2.2.2.2.2.2.2.2.1))).trans (hHeld.2.2.2.2.2.2.2.2.2.2.2.2.2.2.2.2.1)
                                have HS17_ := (hb.cell (World.block_lt_of_cell? _ _ (hHeld.2.2.2.2.2.2.2.2.2.2.2.2.2.2.2.2.2.1))).trans (hHeld.2.2.2.2.2.2.2.2.2.2.2.2.2.2.2.2.2.1)
                                have HS18_ := (hb.cell (World.block_lt_of_cell? _ _ (hHeld.2.2.2.2.2.2.2.2.2.2.2.2.2.2.2.2.2.2.1))).trans (hHeld.2.2.2.2.2.2.2.2.2.2.2.2.2.2.2.2.2.2.1)
                                have HS19_ := (hb.cell (World.block_lt_of_cell? _ _ (hHeld.2.2.2.2.2.2.2.2.2.2.2.2.2.2.2.2.2.2.2.1))).trans (hHeld.2.2.2.2.2.2.2.2.2.2.2.2.2.2.2.2.2.2.2.1)
                                have HS20_ := (hb.cell (World.block_lt_of_cell? _ _ (hHeld.2.2.2.2.2.2.2.2.2.2.2.2.2.2.2.2.2.2.2.2.1))).trans (hHeld.2.2.2.2.2.2.2.2.2.2.2.2.2.2.2.2.2.2.2.2.1)
                                have HS21_ := (hb.cell (World.block_lt_of_cell? _ _ (hHeld.2.2.2.2.2.2.2.2.2.2.2.2.2.2.2.2.2.2.2.2.2.1))).trans (hHeld.2.2.2.2.2.2.2.2.2.2.2.2.2.2.2.2.2.2.2.2.2.1)
                                have HS22_ := (hb.cell (World.block_lt_of_cell? _ _ (hHeld.2.2.2.2.2.2.2.2.2.2.2.2.2.2.2.2.2.2.2.2.2.2.1))).trans (hHeld.2.2.2.2.2.2.2.2.2.2.2.2.2.2.2.2.2.2.2.2.2.2.1)
                                have HS23_ := (hb.cell (World.block_lt_of_cell? _ _ (hHeld.2.2.2.2.2.2.2.2.2.2.2.2.2.2.2.2.2.2.2.2.2.2.2.1))).trans (hHeld.2.2.2.2.2.2.2.2.2.2.2.2.2.2.2.2.2.2.2.2.2.2.2.1)
                                have HS24_ := (hb.cell (World.block_lt_of_cell? _ _ (hHeld.2.2.2.2.2.2.2.2.2.2.2.2.2.2.2.2.2.2.2.2.2.2.2.2.1))).trans (hHeld.2.2.2.2.2.2.2.2.2.2.2.2.2.2.2.2.2.2.2.2.2.2.2.2.1)
                                have HS25_ := (hb.cell (World.block_lt_of_cell? _ _ (hHeld.2.2.2.2.2.2.2.2.2.2.2.2.2.2.2.2.2.2.2.2.2.2.2.2.2.1))).trans (hHeld.2.2.2.2.2.2.2.2.2.2.2.2.2.2.2.2.2.2.2.2.2.2.2.2.2.1)
                                have HS26_ := (hb.cell (World.block_lt_of_cell? _ _ (hHeld.2.2.2.2.2.2.2.2.2.2.2.2.2.2.2.2.2.2.2.2.2.2.2.2.2.2.1))).trans (hHeld.2.2.2.2.2.2.2.2.2.2.2.2.2.2.2.2.2.2.2.2.2.2.2.2.2.2.1)
                                have HS27_ := (hb.cell (World.block_lt_of_cell? _ _ (hHeld.2.2.2.2.2.2.2.2.2.2.2.2.2.2.2.2.2.2.2.2.2.2.2.2.2.2.2.1))).trans (hHeld.2.2.2.2.2.2.2.2.2.2.2.2.2.2.2.2.2.2.2.2.2.2.2.2.2.2.2.1)
                                have HS28_ := (hb.cell (World.block_lt_of_cell? _ _ (hHeld.2.2.2.2.2.2.2.2.2.2.2.2.2.2.2.2.2.2.2.2.2.2.2.2.2.2.2.2.1))).trans (hHeld.2.2.2.2.2.2.2.2.2.2.2.2.2.2.2.2.2.2.2.2.2.2.2.2.2.2.2.2.1)
                                have HS29_ := (hb.cell (World.block_lt_of_cell? _ _ (hHeld.2.2.2.2.2.2.2.2.2.2.2.2.2.2.2.2.2.2.2.2.2.2.2.2.2.2.2.2.2.1))).trans (hHeld.2.2.2.2.2.2.2.2.2.2.2.2.2.2.2.2.2.2.2.2.2.2.2.2.2.2.2.2.2.1)
                                have HS30_ := (hb.cell (World.block_lt_of_cell? _ _ (hHeld.2.2.2.2.2.2.2.2.2.2.2.2.2.2.2.2.2.2.2.2.2.2.2.2.2.2.2.2.2.2.1))).trans (hHeld.2.2.2.2.2.2.2.2.2.2.2.2.2.2.2.2.2.2.2.2.2.2.2.2.2.2.2.2.2.2.1)
                                have HS31_ := (hb.cell (World.block_lt_of_cell? _ _ (hHeld.2.2.2.2.2.2.2.2.2.2.2.2.2.2.2.2.2.2.2.2.2.2.2.2.2.2.2.2.2.2.2.1))).trans (hHeld.2.2.2.2.2.2.2.2.2.2.2.2.2.2.2.2.2.2.2.2.2.2.2.2.2.2.2.2.2.2.2.1)
                                have HS32_ := (hb.cell (World.block_lt_of_cell? _ _ (hHeld.2.2.2.2.2.2.2.2.2.2.2.2.2.2.2.2.2.2.2.2.2.2.2.2.2.2.2.2.2.2.2.2.1))).trans (hHeld.2.2.2.2.2.2.2.2.2.2.2.2.2.2.2.2.2.2.2.2.2.2.2.2.2.2.2.2.2.2.2.2.1)
                                have HS33_ := (hb.cell (World.block_lt_of_cell? _ _ (hHeld.2.2.2.2.2.2.2.2.2.2.2.2.2.2.2.2.2.2.2.2.2.2.2.2.2.2.2.2.2.2.2.2.2.1))).trans (hHeld.2.2.2.2.2.2.2.2.2.2.2.2.2.2.2.2.2.2.2.2.2.2.2.2.2.2.2.2.2.2.2.2.2.1)
                                have HS34_ := (hb.cell (World.block_lt_of_cell? _ _ (hHeld.2.2.2.2.2.2.2.2.2.2.2.2.2.2.2.2.2.2.2.2.2.2.2.2.2.2.2.2.2.2.2.2.2.2.1))).trans (hHeld.2.2.2.2.2.2.2.2.2.2.2.2.2.2.2.2.2.2.2.2.2.2.2.2.2.2.2.2.2.2.2.2.2.2.1)
                                have HS35_ := (hb.cell (World.block_lt_of_cell? _ _ (hHeld.2.2.2.2.2.2.2.2.2.2.2.2.2.2.2.2.2.2.2.2.2.2.2.2.2.2.2.2.2.2.2.2.2.2.2.1))).trans (hHeld.2.2.2.2.2.2.2.2.2.2.2.2.2.2.2.2.2.2.2.2.2.2.2.2.2.2.2.2.2.2.2.2.2.2.2.1)
                                have HS36_ := (hb.cell (World.block_lt_of_cell? _ _ (hHeld.2.2.2.2.2.2.2.2.2.2.2.2.2.2.2.2.2.2.2.2.2.2.2.2.2.2.2.2.2.2.2.2.2.2.2.2.1))).trans (hHeld.2.2.2.2.2.2.2.2.2.2.2.2.2.2.2.2.2.2.2.2.2.2.2.2.2.2.2.2.2.2.2.2.2.2.2.2.1)
                                have HS37_ := (hb.cell (World.block_lt_of_cell? _ _ (hHeld.2.2.2.2.2.2.2.2.2.2.2.2.2.2.2.2.2.2.2.2.2.2.2.2.2.2.2.2.2.2.2.2.2.2.2.2.2.1))).trans (hHeld.2.2.2.2.2.2.2.2.2.2.2.2.2.2.2.2.2.2.2.2.2.2.2.2.2.2.2.2.2.2.2.2.2.2.2.2.2.1)
                                have HS38_ := (hb.cell (World.block_lt_of_cell? _ _ (hHeld.2.2.2.2.2.2.2.2.2.2.2.2.2.2.2.2.2.2.2.2.2.2.2.2.2.2.2.2.2.2.2.2.2.2.2.2.2.2.1))).trans (hHeld.2.2.2.2.2.2.2.2.2.2.2.2.2.2.2.2.2.2.2.2.2.2.2.2.2.2.2.2.2.2.2.2.2.2.2.2.2.2.1)
                                have HS39_ := (hb.cell (World.block_lt_of_cell? _ _ (hHeld.2.2.2.2.2.2.2.2.2.2.2.2.2.2.2.2.2.2.2.2.2.2.2.2.2.2.2.2.2.2.2.2.2.2.2.2.2.2.2.1))).trans (hHeld.2.2.2.2.2.2.2.2.2.2.2.2.2.2.2.2.2.2.2.2.2.2.2.2.2.2.2.2.2.2.2.2.2.2.2.2.2.2.2.1)
                                have HS40_ := (hb.cell (World.block_lt_of_cell? _ _ (hHeld.2.2.2.2.2.2.2.2.2.2.2.2.2.2.2.2.2.2.2.2.2.2.2.2.2.2.2.2.2.2.2.2.2.2.2.2.2.2.2.2.1))).trans (hHeld.2.2.2.2.2.2.2.2.2.2.2.2.2.2.2.2.2.2.2.2.2.2.2.2.2.2.2.2.2.2.2.2.2.2.2.2.2.2.2.2.1)
                                have HS41_ := (hb.cell (World.block_lt_of_cell? _ _ (hHeld.2.2.2.2.2.2.2.2.2.2.2.2.2.2.2.2.2.2.2.2.2.2.2.2.2.2.2.2.2.2.2.2.2.2.2.2.2.2.2.2.2.1))).trans (hHeld.2.2.2.2.2.2.2.2.2.2.2.2.2.2.2.2.2.2.2.2.2.2.2.2.2.2.2.2.2.2.2.2.2.2.2.2.2.2.2.2.2.1)
                                have HS42_ := (hb.cell (World.block_lt_of_cell? _ _ (hHeld.2.2.2.2.2.2.2.2.2.2.2.2.2.2.2.2.2.2.2.2.2.2.2.2.2.2.2.2.2.2.2.2.2.2.2.2.2.2.2.2.2.2.1))).trans (hHeld.2.2.2.2.2.2.2.2.2.2.2.2.2.2.2.2.2.2.2.2.2.2.2.2.2.2.2.2.2.2.2.2.2.2.2.2.2.2.2.2.2.2.1)
                                have HS43_ := (hb.cell (World.block_lt_of_cell? _ _ (hHeld.2.2.2.2.2.2.2.2.2.2.2.2.2.2.2.2.2.2.2.2.2.2.2.2.2.2.2.2.2.2.2.2.2.2.2.2.2.2.2.2.2.2.2))).trans (hHeld.2.2.2.2.2.2.2.2.2.2.2.2.2.2.2.2.2.2.2.2.2.2.2.2.2.2.2.2.2.2.2.2.2.2.2.2.2.2.2.2.2.2.2)
                                refine ⟨_, rfl, ?_⟩
                                have n0_ := Aside0.mk (Kd.R_below (by (with_reducible repeat (first | apply Kd.R_alloc | apply Kd.R_drewN | apply Kd.R_drew)); exact HO_12.out) hb)
                                have n1_ := Aside0.mk (blk_below (g := gb151) (o := .cells #[.int .i64 a0_0, .int .i64 a0_1, .int .i64 a0_2, .bool a0_3, .int .i64 a0_4, .int .i64 a0_5, .int .i64 a0_6, .int .i64 a0_7] 23 (0, 0)) (by (with_reducible repeat (first | refine blk_drewN ?_ _ | refine blk_drew ?_ | refine blk_alloc ?_ _)); exact BK151.out) hb)
                                have n2_ := Aside0.mk (below_step (by repeat (first | (with_reducible first | exact HB.out | apply below_alloc | apply pw_below_drewN | apply below_drew1 | refine below_set ?_ GE151.out) | exact HB.out)) hb)
                                clear HO_12
                                clear BK151
                                clear HB
                                have HO_12 := n0_
                                have BK151 := n1_
                                have HB := n2_
                                clear n0_ n1_ n2_
                                (try clear hb)
                                (try clear hb2)
                                (try clear hk)
                                (try clear hi)
                                refine hK.out _ _ ⟨(blk_cell BK151.out 0).trans rfl, (blk_cell BK151.out 1).trans rfl, (blk_cell BK151.out 2).trans rfl, (blk_cell BK151.out 3).trans rfl, (blk_cell BK151.out 4).trans rfl, (blk_cell BK151.out 5).trans rfl, (blk_cell BK151.out 6).trans rfl, (blk_cell BK151.out 7).trans rfl, HS8_, HS9_, HS10_, HS11_, HS12_, HS13_, HS14_, HS15_, HS16_, HS17_, HS18_, HS19_, HS20_, HS21_, HS22_, HS23_, HS24_, HS25_, HS26_, HS27_, HS28_, HS29_, HS30_, HS31_, HS32_, HS33_, HS34_, HS35_, HS36_, HS37_, HS38_, HS39_, HS40_, HS41_, HS42_, HS43_⟩ (fun hHeld => ?_)
                                clear hK K
                                refine norm_ (a' := ?_) ?_ ?_
                                rotate_left
                                · show Act.put _ (some 75) _ = _
                                  simp only [Act.put, List.setIfInBounds_toArray, List.set_cons_zero, List.set_cons_succ, i64_w, i32_w]
                                  rfl
                                refine pure_ (i := 27) (N := some 76) (v := ?_) (a' := ?_) #[true, true, true, true, true, true, true, true, true, true, true, true, true, true, true, true, true, true, true, true, true, true, true, true, true, true, true, true, false] rfl rfl (any_of HT_.out (by kernel_rfl)) (fun _ _ _ h => h) (Or.inl ⟨by rfl, ?_⟩) ?_ ?_
                                rotate_left
                                · intro w'
                                  go_simp
                                  with_reducible rfl
                                rotate_left
                                · simp only [Act.put, List.setIfInBounds_toArray, List.set_cons_zero, List.set_cons_succ, i64_w, i32_w]
                                  rfl
                                refine pure_ (i := 28) (N := some 77) (v := ?_) (a' := ?_) #[true, true, true, true, true, true, true, true, true, true, true, true, true, true, true, true, true, true, true, true, true, true, true, true, true, true, true, true, true] rfl rfl (any_of HT_.out (by kernel_rfl)) (fun _ _ _ h => h) (Or.inl ⟨by rfl, ?_⟩) ?_ ?_
                                rotate_left
                                · intro w'
                                  go_simp
                                  with_reducible rfl
                                rotate_left
                                · simp only [Act.put, List.setIfInBounds_toArray, List.set_cons_zero, List.set_cons_succ, i64_w, i32_w]
                                  rfl
                                refine done_ (done_of HT_.out (by kernel_rfl)) ?_
                                try go_wp2
                                go_meet
                                case rel => exact ⟨_, (!t169), (by first | rfl | (simp; done) | (simp [*]; done)), H', ⟨by have := HJ6.out; have := HK2.out; have := HK3.out; first | omega | exact Nat.le_refl _⟩, ⟨by (with_reducible repeat (first | apply Kd.R_alloc | apply Kd.R_drewN | apply Kd.R_drew)); exact HO_12.out⟩, ⟨by (with_reducible repeat (first | refine blk_drewN ?_ _ | refine blk_drew ?_ | refine blk_alloc ?_ _)); exact BK151.out⟩, ⟨by repeat (first | (with_reducible first | exact HB.out | apply below_alloc | apply pw_below_drewN | apply below_drew1 | refine below_set ?_ GE151.out) | exact HB.out)⟩⟩
                          · rw [if_neg c28] at H
                            exact absurd H (by simp)
                        case rest =>
                          clear HC26
                          try clear p1
                          try clear q1
                          try clear hx1
                          try clear c2
                          try clear p2
                          try clear q2
                          try clear c3
                          try clear q3
                          try clear p16
                          try clear q16
                          try clear hx16
                          try clear c28
                          try clear q29
                          try clear c30
                          try clear q32
                          try clear c33
                          try clear q34
                          try clear hx163_0
                          try clear hx163_1
                          try clear hx163_10
                          try clear hx163_11
                          try clear hx163_2
                          try clear hx163_3
                          try clear hx163_4
                          try clear hx163_5
                          try clear hx163_6
                          try clear hx163_7
                          try clear hx163_8
                          try clear hx163_9
                          try clear hx164_0
                          try clear hx164_1
                          try clear hx164_10
                          try clear hx164_11
                          try clear hx164_2
                          try clear hx164_3
                          try clear hx164_4
                          try clear hx164_5
                          try clear hx164_6
                          try clear hx164_7
                          try clear hx164_8
                          try clear hx164_9
                          try clear hx165_0
                          try clear hx165_1
                          try clear hx165_10
                          try clear hx165_11
                          try clear hx165_2
                          try clear hx165_3
                          try clear hx165_4
                          try clear hx165_5
                          try clear hx165_6
                          try clear hx165_7
                          try clear hx165_8
                          try clear hx165_9
                          try clear hx168_0
                          try clear hx168_1
                          try clear hx168_10
                          try clear hx168_11
                          try clear hx168_2
                          try clear hx168_3
                          try clear hx168_4
                          try clear hx168_5
                          try clear hx168_6
                          try clear hx168_7
                          try clear hx168_8
                          try clear hx168_9
                          try clear p163
                          try clear p164
                          try clear p165
                          try clear p168
                          try clear q163
                          try clear q164
                          try clear q165
                          try clear q168
                          obtain ⟨kq, x77_25, rfl, HA, HJ25, HO_12, BK151, HB⟩ := hcut
                          cases kq with
                          | zero => exact absurd HA.out (by simp [tidewayref13_Mark.j3])
                          | succ kj25 =>
                            have H := HA.out
                            clear HA
                            simp only [tidewayref13_Mark.j3] at H
                            by_cases c43 : x77_25 = true
                            · subst c43
                              have H1 : (tidewayref13_Mark.l1 kj25 a2 a3 x12_3 x13_3 (wrap64 (x14_3 + 1)) a0_0 a0_1 a0_2 a0_3 a0_4 a0_5 a0_6 a0_7) = some (r1, r2, r3) := by rw [if_pos rfl] at H; exact H
                              clear H
                              have H := H1
                              clear H1
                              have H' := Aside0.mk H
                              clear H
                              go_wp2
                              go_roundg kj25
                              case measure => have := HJ6.out; have := HK2.out; have := HK3.out; have := HJ25.out; omega
                              case rel => exact ⟨(x12_3), (x13_3), (wrap64 (x14_3 + 1)), (by first | rfl | (simp; done) | (simp [*]; done)), (by first | rfl | (simp; done) | (simp [*]; done)), H', ⟨by have := HJ6.out; have := HK2.out; have := HK3.out; have := HJ25.out; omega⟩, ⟨by (with_reducible repeat (first | apply Kd.R_alloc | apply Kd.R_drewN | apply Kd.R_drew)); exact HO_12.out⟩, ⟨by (with_reducible repeat (first | refine blk_drewN ?_ _ | refine blk_drew ?_ | refine blk_alloc ?_ _)); exact BK151.out⟩, ⟨by repeat (first | (with_reducible first | exact HB.out | apply below_alloc | apply pw_below_drewN | apply below_drew1 | refine below_set ?_ GE151.out) | exact HB.out)⟩⟩
                            · replace c43 := Bool.eq_false_iff.mpr c43
                              subst c43
                              have H1 : (if 0 ≤ x14_3 then (if x14_3 < (x12_3.length : Int) then (if (wrap64 ((wrap64 (((rd_T25 x12_3 x14_3).f3) + a0_2)) + a3)) ≤ a2 then ((some (x12_3.set (x14_3 : Int).toNat (⟨(rd_T25 x12_3 x14_3).f0, (rd_T25 x12_3 x14_3).f1, (rd_T25 x12_3 x14_3).f2, (rd_T25 x12_3 x14_3).f3, (rd_T25 x12_3 x14_3).f4, (rd_T25 x12_3 x14_3).f5, true, (rd_T25 x12_3 x14_3).f7, (rd_T25 x12_3 x14_3).f8, (rd_T25 x12_3 x14_3).f9, (rd_T25 x12_3 x14_3).f10, (rd_T25 x12_3 x14_3).f11⟩ : S25) : List (S25))).bind fun y171 => (tidewayref13_Mark.l1 kj25 a2 a3 (y171.set (x14_3 : Int).toNat (⟨(rd_T25 y171 x14_3).f0, (rd_T25 y171 x14_3).f1, (rd_T25 y171 x14_3).f2, (rd_T25 y171 x14_3).f3, (rd_T25 y171 x14_3).f4, (rd_T25 y171 x14_3).f5, (rd_T25 y171 x14_3).f6, false, (rd_T25 y171 x14_3).f8, (rd_T25 y171 x14_3).f9, (rd_T25 y171 x14_3).f10, (rd_T25 y171 x14_3).f11⟩ : S25)) x13_3 (wrap64 (x14_3 + 1)) a0_0 a0_1 a0_2 a0_3 a0_4 a0_5 a0_6 a0_7)) else (tidewayref13_Mark.l1 kj25 a2 a3 x12_3 (mx x13_3 (wrap64 ((wrap64 ((wrap64 (((rd_T25 x12_3 x14_3).f3) + a0_2)) + a3)) - a2))) (wrap64 (x14_3 + 1)) a0_0 a0_1 a0_2 a0_3 a0_4 a0_5 a0_6 a0_7)) else (none)) else (none)) = some (r1, r2, r3) := by rw [if_neg (show ¬ (false = true) by decide)] at H; exact H
                              clear H
                              have H := H1
                              clear H1
                              by_cases c44 : 0 ≤ x14_3
                              · rw [if_pos c44] at H
                                have c44b0 : decide (0 ≤ x14_3) = true := decide_eq_true c44
                                clear c44
                                by_cases c45 : x14_3 < (x12_3.length : Int)
                                · rw [if_pos c45] at H
                                  have c45b0 : decide (x14_3 < (x12_3.length : Int)) = true := decide_eq_true c45
                                  clear c45
                                  by_cases c46 : (wrap64 ((wrap64 (((rd_T25 x12_3 x14_3).f3) + a0_2)) + a3)) ≤ a2
                                  · rw [if_pos c46] at H
                                    have c46b0 : decide ((wrap64 ((wrap64 (((rd_T25 x12_3 x14_3).f3) + a0_2)) + a3)) ≤ a2) = true := decide_eq_true c46
                                    clear c46
                                    obtain ⟨y171, hy171⟩ : ∃ y_ : List (S25), y_ = (x12_3.set (x14_3 : Int).toNat (⟨(rd_T25 x12_3 x14_3).f0, (rd_T25 x12_3 x14_3).f1, (rd_T25 x12_3 x14_3).f2, (rd_T25 x12_3 x14_3).f3, (rd_T25 x12_3 x14_3).f4, (rd_T25 x12_3 x14_3).f5, true, (rd_T25 x12_3 x14_3).f7, (rd_T25 x12_3 x14_3).f8, (rd_T25 x12_3 x14_3).f9, (rd_T25 x12_3 x14_3).f10, (rd_T25 x12_3 x14_3).f11⟩ : S25)) := ⟨_, rfl⟩
                                    replace H : (tidewayref13_Mark.l1 kj25 a2 a3 (y171.set (x14_3 : Int).toNat (⟨(rd_T25 y171 x14_3).f0, (rd_T25 y171 x14_3).f1, (rd_T25 y171 x14_3).f2, (rd_T25 y171 x14_3).f3, (rd_T25 y171 x14_3).f4, (rd_T25 y171 x14_3).f5, (rd_T25 y171 x14_3).f6, false, (rd_T25 y171 x14_3).f8, (rd_T25 y171 x14_3).f9, (rd_T25 y171 x14_3).f10, (rd_T25 y171 x14_3).f11⟩ : S25)) x13_3 (wrap64 (x14_3 + 1)) a0_0 a0_1 a0_2 a0_3 a0_4 a0_5 a0_6 a0_7) = some (r1, r2, r3) := by first | (rw [hy171]; with_reducible exact H) | (have H2_ := (Option.bind_some _ _).symm.trans H; rw [hy171]; with_reducible exact H2_) | (have H2_ := (Option.bind_some _ _).symm.trans H; with_reducible exact H2_) | with_reducible exact H | (rw [hy171]; exact H) | exact H
                                    have Ny171 := Aside0.mk hy171
                                    clear hy171
                                    obtain ⟨y172, hy172⟩ : ∃ y_ : List (S25), y_ = (y171.set (x14_3 : Int).toNat (⟨(rd_T25 y171 x14_3).f0, (rd_T25 y171 x14_3).f1, (rd_T25 y171 x14_3).f2, (rd_T25 y171 x14_3).f3, (rd_T25 y171 x14_3).f4, (rd_T25 y171 x14_3).f5, (rd_T25 y171 x14_3).f6, false, (rd_T25 y171 x14_3).f8, (rd_T25 y171 x14_3).f9, (rd_T25 y171 x14_3).f10, (rd_T25 y171 x14_3).f11⟩ : S25)) := ⟨_, rfl⟩
                                    replace H : (tidewayref13_Mark.l1 kj25 a2 a3 y172 x13_3 (wrap64 (x14_3 + 1)) a0_0 a0_1 a0_2 a0_3 a0_4 a0_5 a0_6 a0_7) = some (r1, r2, r3) := by first | (rw [hy172]; with_reducible exact H) | (have H2_ := (Option.bind_some _ _).symm.trans H; rw [hy172]; with_reducible exact H2_) | (have H2_ := (Option.bind_some _ _).symm.trans H; with_reducible exact H2_) | with_reducible exact H | (rw [hy172]; exact H) | exact H
                                    have Ny172 := Aside0.mk hy172
                                    clear hy172
                                    have H' := Aside0.mk H
                                    clear H
                                    try go_wp2
                                    have n0_ := Aside0.mk (Kd.R_drew HO_12.out)
                                    have n1_ := Aside0.mk (blk_drew BK151.out)
                                    have n2_ := Aside0.mk (below_drew1 HB.out)
                                    clear HO_12
                                    clear BK151
                                    clear HB
                                    have HO_12 := n0_
                                    have BK151 := n1_
                                    have HB := n2_
                                    clear n0_ n1_ n2_
                                    have p170 : 0 ≤ (x14_3 : Int) := of_decide_eq_true (by first | (with_reducible assumption) | assumption)
                                    have q170 : x14_3 < (x12_3.length : Int) := of_decide_eq_true (by first | (with_reducible assumption) | assumption)
                                    obtain ⟨ad170, e170, hx170_0, hx170_1, hx170_2, hx170_3, hx170_4, hx170_5, hx170_6, hx170_7, hx170_8, hx170_9, hx170_10, hx170_11⟩ := at_T25 (Kd.R_reads' HO_12.out).2.2 x14_3 p170 q170
                                    cases e170
                                    replace p170 := eq_true p170
                                    replace q170 := eq_true q170
                                    refine start_ (n := 11) (S := fun w' => w'.cell? ⟨gb151, 0, none⟩ = some (.int .i64 a0_0) ∧ w'.cell? ⟨gb151, 1, none⟩ = some (.int .i64 a0_1) ∧ w'.cell? ⟨gb151, 2, none⟩ = some (.int .i64 a0_2) ∧ w'.cell? ⟨gb151, 3, none⟩ = some (.bool a0_3) ∧ w'.cell? ⟨gb151, 4, none⟩ = some (.int .i64 a0_4) ∧ w'.cell? ⟨gb151, 5, none⟩ = some (.int .i64 a0_5) ∧ w'.cell? ⟨gb151, 6, none⟩ = some (.int .i64 a0_6) ∧ w'.cell? ⟨gb151, 7, none⟩ = some (.int .i64 a0_7) ∧ w'.cell? (ad170.add ((x14_3).toNat * 12)) = some (.int .i64 ((rd_T25 x12_3 x14_3).f0)) ∧ w'.cell? ⟨(ad170.add ((x14_3).toNat * 12)).block, (ad170.add ((x14_3).toNat * 12)).off + 1, none⟩ = some (.int .i64 ((rd_T25 x12_3 x14_3).f1)) ∧ w'.cell? ⟨(ad170.add ((x14_3).toNat * 12)).block, (ad170.add ((x14_3).toNat * 12)).off + 2, none⟩ = some (.bool ((rd_T25 x12_3 x14_3).f2)) ∧ w'.cell? ⟨(ad170.add ((x14_3).toNat * 12)).block, (ad170.add ((x14_3).toNat * 12)).off + 3, none⟩ = some (.int .i64 ((rd_T25 x12_3 x14_3).f3)) ∧ w'.cell? ⟨(ad170.add ((x14_3).toNat * 12)).block, (ad170.add ((x14_3).toNat * 12)).off + 4, none⟩ = some (.int .i64 ((rd_T25 x12_3 x14_3).f4)) ∧ w'.cell? ⟨(ad170.add ((x14_3).toNat * 12)).block, (ad170.add ((x14_3).toNat * 12)).off + 5, none⟩ = some (.bool ((rd_T25 x12_3 x14_3).f5)) ∧ w'.cell? ⟨(ad170.add ((x14_3).toNat * 12)).block, (ad170.add ((x14_3).toNat * 12)).off + 6, none⟩ = some (.bool ((rd_T25 x12_3 x14_3).f6)) ∧ w'.cell? ⟨(ad170.add ((x14_3).toNat * 12)).block, (ad170.add ((x14_3).toNat * 12)).off + 7, none⟩ = some (.bool ((rd_T25 x12_3 x14_3).f7)) ∧ w'.cell? ⟨(ad170.add ((x14_3).toNat * 12)).block, (ad170.add ((x14_3).toNat * 12)).off + 8, none⟩ = some (.int .i64 ((rd_T25 x12_3 x14_3).f8)) ∧ w'.cell? ⟨(ad170.add ((x14_3).toNat * 12)).block, (ad170.add ((x14_3).toNat * 12)).off + 9, none⟩ = some (.int .i64 ((rd_T25 x12_3 x14_3).f9)) ∧ w'.cell? ⟨(ad170.add ((x14_3).toNat * 12)).block, (ad170.add ((x14_3).toNat * 12)).off + 10, none⟩ = some (.int .i64 ((rd_T25 x12_3 x14_3).f10)) ∧ w'.cell? ⟨(ad170.add ((x14_3).toNat * 12)).block, (ad170.add ((x14_3).toNat * 12)).off + 11, none⟩ = some (.bool ((rd_T25 x12_3 x14_3).f11))) (ds := []) #[false, false, false, false, false, false, false, false, false, false, false] (by kernel_rfl) rfl rfl ⟨(blk_cell BK151.out 0).trans rfl, (blk_cell BK151.out 1).trans rfl, (blk_cell BK151.out 2).trans rfl, (blk_cell BK151.out 3).trans rfl, (blk_cell BK151.out 4).trans rfl, (blk_cell BK151.out 5).trans rfl, (blk_cell BK151.out 6).trans rfl, (blk_cell BK151.out 7).trans rfl, hx170_0, hx170_1, hx170_2, hx170_3, hx170_4, hx170_5, hx170_6, hx170_7, hx170_8, hx170_9, hx170_10, hx170_11⟩ (fun hHeld => ?_); refine with_tabW tidewayref13_Mark.tab16 tidewayref13_Mark.bits16 (fun HT_ HW_ => ?_)
                                    generalize wc.drew = w49 at HO_12 BK151 HB hx170_0 hx170_1 hx170_10 hx170_11 hx170_2 hx170_3 hx170_4 hx170_5 hx170_6 hx170_7 hx170_8 hx170_9 hHeld ⊢
                                    refine pure_ (i := 0) (N := some 78) (v := ?_) (a' := ?_) #[true, false, false, false, false, false, false, false, false, false, false] rfl rfl (any_of HT_.out (by kernel_rfl)) (fun _ _ _ h => h) (Or.inl ⟨by rfl, ?_⟩) ?_ ?_
                                    rotate_left
                                    · intro w'
                                      go_simp
                                      with_reducible rfl
                                    rotate_left
                                    · simp only [Act.put, List.setIfInBounds_toArray, List.set_cons_zero, List.set_cons_succ, i64_w, i32_w]
                                      rfl
                                    refine pure_ (i := 1) (N := some 79) (v := ?_) (a' := ?_) #[true, true, false, false, false, false, false, false, false, false, false] rfl rfl (any_of HT_.out (by kernel_rfl)) (fun _ _ _ h => h) (Or.inl ⟨by rfl, ?_⟩) ?_ ?_
                                    rotate_left
                                    · intro w'
                                      go_simp
                                      with_reducible rfl
                                    rotate_left
                                    · simp only [Act.put, List.setIfInBounds_toArray, List.set_cons_zero, List.set_cons_succ, i64_w, i32_w]
                                      rfl
                                    refine pure_ (i := 2) (N := some 80) (v := ?_) (a' := ?_) #[true, true, true, false, false, false, false, false, false, false, false] rfl rfl (any_of HT_.out (by kernel_rfl)) (fun _ _ _ h => h) (Or.inl ⟨by rfl, ?_⟩) ?_ ?_
                                    rotate_left
                                    · intro w'
                                      go_simp
                                      with_reducible rfl
                                    rotate_left
                                    · simp only [Act.put, List.setIfInBounds_toArray, List.set_cons_zero, List.set_cons_succ, i64_w, i32_w]
                                      rfl
                                    refine pure_ (i := 3) (N := some 81) (v := ?_) (a' := ?_) #[true, true, true, true, false, false, false, false, false, false, false] rfl rfl (any_of HT_.out (by kernel_rfl)) (fun _ _ _ h => h) (Or.inl ⟨by rfl, ?_⟩) ?_ ?_
                                    rotate_left
                                    · intro w'
                                      go_simp
                                      with_reducible rfl
                                    rotate_left
                                    · simp only [Act.put, List.setIfInBounds_toArray, List.set_cons_zero, List.set_cons_succ, i64_w, i32_w]
                                      rfl
                                    refine pure_ (i := 5) (N := some 83) (v := ?_) (a' := ?_) #[true, true, true, true, false, true, false, false, false, false, false] rfl rfl (any_of HT_.out (by kernel_rfl)) (fun _ _ _ h => h) (Or.inl ⟨by rfl, ?_⟩) ?_ ?_
                                    rotate_left
                                    · intro w'
                                      go_simp
                                      with_reducible rfl
                                    rotate_left
                                    · simp only [Act.put, List.setIfInBounds_toArray, List.set_cons_zero, List.set_cons_succ, i64_w, i32_w]
                                      rfl
                                    refine pure_ (i := 8) (N := some 86) (v := ?_) (a' := ?_) #[true, true, true, true, false, true, false, false, true, false, false] rfl rfl (any_of HT_.out (by kernel_rfl)) (fun _ _ _ h => h) (Or.inl ⟨by rfl, ?_⟩) ?_ ?_
                                    rotate_left
                                    · intro w'
                                      go_simp
                                      with_reducible rfl
                                    rotate_left
                                    · simp only [Act.put, List.setIfInBounds_toArray, List.set_cons_zero, List.set_cons_succ, i64_w, i32_w]
                                      rfl
                                    refine take_ (i := 4) (N := some 82) (v := ?_) (a' := ?_) #[true, true, true, true, true, true, false, false, true, false, false] rfl rfl (take_ofW HT_.out HW_.out (by kernel_rfl)) (fun _ _ _ h => h) (Or.inl ⟨by rfl, ?_⟩) hHeld ?_ ?_
                                    rotate_left
                                    · rintro w' ⟨s0, s1, s2, s3, s4, s5, s6, s7, s8, s9, s10, s11, s12, s13, s14, s15, s16, s17, s18, s19⟩
                                      go_simp
                                      with_reducible rfl
                                    rotate_left
                                    · simp only [Act.put, List.setIfInBounds_toArray, List.set_cons_zero, List.set_cons_succ, i64_w, i32_w]
                                      rfl
                                    refine take_ (i := 6) (N := some 84) (v := ?_) (a' := ?_) #[true, true, true, true, true, true, true, false, true, false, false] rfl rfl (take_ofW HT_.out HW_.out (by kernel_rfl)) (fun _ _ _ h => h) (Or.inl ⟨by rfl, ?_⟩) hHeld ?_ ?_
                                    rotate_left
                                    · rintro w' ⟨s0, s1, s2, s3, s4, s5, s6, s7, s8, s9, s10, s11, s12, s13, s14, s15, s16, s17, s18, s19⟩
                                      go_simp
                                      with_reducible rfl
                                    rotate_left
                                    · simp only [Act.put, List.setIfInBounds_toArray, List.set_cons_zero, List.set_cons_succ, i64_w, i32_w]
                                      rfl
                                    refine pure_ (i := 7) (N := some 85) (v := ?_) (a' := ?_) #[true, true, true, true, true, true, true, true, true, false, false] rfl rfl (any_of HT_.out (by kernel_rfl)) (fun _ _ _ h => h) (Or.inl ⟨by rfl, ?_⟩) ?_ ?_
                                    rotate_left
                                    · intro w'
                                      go_simp
                                      with_reducible rfl
                                    rotate_left
                                    · simp only [Act.put, List.setIfInBounds_toArray, List.set_cons_zero, List.set_cons_succ, i64_w, i32_w]
                                      rfl
                                    refine pure_ (i := 9) (N := some 87) (v := ?_) (a' := ?_) #[true, true, true, true, true, true, true, true, true, true, false] rfl rfl (any_of HT_.out (by kernel_rfl)) (fun _ _ _ h => h) (Or.inl ⟨by rfl, ?_⟩) ?_ ?_
                                    rotate_left
                                    · intro w'
                                      go_simp
                                      with_reducible rfl
                                    rotate_left
                                    · simp only [Act.put, List.setIfInBounds_toArray, List.set_cons_zero, List.set_cons_succ, i64_w, i32_w]
                                      rfl
                                    refine pure_ (i := 10) (N := some 15) (v := ?_) (a' := ?_) #[true, true, true, true, true, true, true, true, true, true, true] rfl rfl (any_of HT_.out (by kernel_rfl)) (fun _ _ _ h => h) (Or.inl ⟨by rfl, ?_⟩) ?_ ?_
                                    rotate_left
                                    · intro w'
                                      go_simp
                                      with_reducible rfl
                                    rotate_left
                                    · simp only [Act.put, List.setIfInBounds_toArray, List.set_cons_zero, List.set_cons_succ, i64_w, i32_w]
                                      rfl
                                    refine done_ (done_of HT_.out (by kernel_rfl)) ?_
                                    have p47 : 0 ≤ (x14_3 : Int) := of_decide_eq_true (by first | (with_reducible assumption) | assumption)
                                    have q47 : (x14_3 : Int) < ((x12_3.length : Int) : Int) := of_decide_eq_true (by first | (with_reducible assumption) | assumption)
                                    obtain ⟨go47, co47, eo47, gb47, gl47, cl47, HG47⟩ := Kd.R_form HO_12.out (by omega)
                                    (first | cases eo47 | (injection eo47 with ea_ en_ ec_; (first | subst ea_ | (injection ea_ with ea_; subst ea_)); subst ec_; clear en_))
                                    have GB47 := Aside0.mk gb47
                                    have GG47 := Aside0.mk HG47
                                    clear gb47 gl47 HG47
                                    (first | simp only [add_plain] at hx170_0 | skip)
                                    (first | simp only [add_plain] at hx170_1 | skip)
                                    (first | simp only [add_plain] at hx170_2 | skip)
                                    (first | simp only [add_plain] at hx170_3 | skip)
                                    (first | simp only [add_plain] at hx170_4 | skip)
                                    (first | simp only [add_plain] at hx170_5 | skip)
                                    (first | simp only [add_plain] at hx170_6 | skip)
                                    (first | simp only [add_plain] at hx170_7 | skip)
                                    (first | simp only [add_plain] at hx170_8 | skip)
                                    (first | simp only [add_plain] at hx170_9 | skip)
                                    (first | simp only [add_plain] at hx170_10 | skip)
                                    (first | simp only [add_plain] at hx170_11 | skip)
                                    obtain ⟨ce47, hcl47, hM47, hcc47, hfr47⟩ := Kd.R_elem HO_12.out z25 (x14_3 : Int) p47 q47
                                    obtain rfl := k25_openM hM47
                                    have hx47_0 : w49.cell? ⟨go47, (x14_3 : Int).toNat * 12, none⟩ = some (.int .i64 ((rd_T25 x12_3 x14_3).f0)) := hcc47 0 _ rfl
                                    have hx47_1 : w49.cell? ⟨go47, (x14_3 : Int).toNat * 12 + 1, none⟩ = some (.int .i64 ((rd_T25 x12_3 x14_3).f1)) := hcc47 1 _ rfl
                                    have hx47_2 : w49.cell? ⟨go47, (x14_3 : Int).toNat * 12 + 2, none⟩ = some (.bool ((rd_T25 x12_3 x14_3).f2)) := hcc47 2 _ rfl
                                    have hx47_3 : w49.cell? ⟨go47, (x14_3 : Int).toNat * 12 + 3, none⟩ = some (.int .i64 ((rd_T25 x12_3 x14_3).f3)) := hcc47 3 _ rfl
                                    have hx47_4 : w49.cell? ⟨go47, (x14_3 : Int).toNat * 12 + 4, none⟩ = some (.int .i64 ((rd_T25 x12_3 x14_3).f4)) := hcc47 4 _ rfl
                                    have hx47_5 : w49.cell? ⟨go47, (x14_3 : Int).toNat * 12 + 5, none⟩ = some (.bool ((rd_T25 x12_3 x14_3).f5)) := hcc47 5 _ rfl
                                    have hx47_6 : w49.cell? ⟨go47, (x14_3 : Int).toNat * 12 + 6, none⟩ = some (.bool ((rd_T25 x12_3 x14_3).f6)) := hcc47 6 _ rfl
                                    have hx47_7 : w49.cell? ⟨go47, (x14_3 : Int).toNat * 12 + 7, none⟩ = some (.bool ((rd_T25 x12_3 x14_3).f7)) := hcc47 7 _ rfl
                                    have hx47_8 : w49.cell? ⟨go47, (x14_3 : Int).toNat * 12 + 8, none⟩ = some (.int .i64 ((rd_T25 x12_3 x14_3).f8)) := hcc47 8 _ rfl
                                    have hx47_9 : w49.cell? ⟨go47, (x14_3 : Int).toNat * 12 + 9, none⟩ = some (.int .i64 ((rd_T25 x12_3 x14_3).f9)) := hcc47 9 _ rfl
                                    have hx47_10 : w49.cell? ⟨go47, (x14_3 : Int).toNat * 12 + 10, none⟩ = some (.int .i64 ((rd_T25 x12_3 x14_3).f10)) := hcc47 10 _ rfl
                                    have hx47_11 : w49.cell? ⟨go47, (x14_3 : Int).toNat * 12 + 11, none⟩ = some (.bool ((rd_T25 x12_3 x14_3).f11)) := hcc47 11 _ rfl
                                    have hf47_0 : w49.frozen? ⟨go47, (x14_3 : Int).toNat * 12, none⟩ = false := hfr47 0
                                    have hf47_1 : w49.frozen? ⟨go47, (x14_3 : Int).toNat * 12 + 1, none⟩ = false := hfr47 1
                                    have hf47_2 : w49.frozen? ⟨go47, (x14_3 : Int).toNat * 12 + 2, none⟩ = false := hfr47 2
                                    have hf47_3 : w49.frozen? ⟨go47, (x14_3 : Int).toNat * 12 + 3, none⟩ = false := hfr47 3
                                    have hf47_4 : w49.frozen? ⟨go47, (x14_3 : Int).toNat * 12 + 4, none⟩ = false := hfr47 4
                                    have hf47_5 : w49.frozen? ⟨go47, (x14_3 : Int).toNat * 12 + 5, none⟩ = false := hfr47 5
                                    have hf47_6 : w49.frozen? ⟨go47, (x14_3 : Int).toNat * 12 + 6, none⟩ = false := hfr47 6
                                    have hf47_7 : w49.frozen? ⟨go47, (x14_3 : Int).toNat * 12 + 7, none⟩ = false := hfr47 7
                                    have hf47_8 : w49.frozen? ⟨go47, (x14_3 : Int).toNat * 12 + 8, none⟩ = false := hfr47 8
                                    have hf47_9 : w49.frozen? ⟨go47, (x14_3 : Int).toNat * 12 + 9, none⟩ = false := hfr47 9
                                    have hf47_10 : w49.frozen? ⟨go47, (x14_3 : Int).toNat * 12 + 10, none⟩ = false := hfr47 10
                                    have hf47_11 : w49.frozen? ⟨go47, (x14_3 : Int).toNat * 12 + 11, none⟩ = false := hfr47 11
                                    clear hcl47 hcc47 hfr47 hM47
                                    replace p47 := eq_true p47
                                    replace q47 := eq_true q47
                                    have HX50 := Aside0.mk (show Kd.R k25 25 w49 w.heap.size (fun _ => True) (.slice (some ⟨go47, 0, none⟩) x12_3.length co27) x12_3 from (by (with_reducible repeat (first | apply Kd.R_alloc | apply Kd.R_drewN | apply Kd.R_drew)); exact HO_12.out))
                                    obtain ⟨ce50, hcl50, hM50, hcc50, hfr50⟩ := Kd.R_elem HX50.out z25 (x14_3 : Int) (of_decide_eq_true (by first | (with_reducible assumption) | assumption)) (by have h_ : (x14_3 : Int) < ((x12_3.length : Int) : Int) := of_decide_eq_true (by first | (with_reducible assumption) | assumption); first | exact h_ | (have e_ := (Kd.R_reads' HO_12.out).1; omega) | simpa using h_)
                                    obtain rfl := k25_openM hM50
                                    have HP50 := Kd.R_seg HX50.out (x14_3 : Int) (of_decide_eq_true (by first | (with_reducible assumption) | assumption)) (by have h_ : (x14_3 : Int) < ((x12_3.length : Int) : Int) := of_decide_eq_true (by first | (with_reducible assumption) | assumption); first | exact h_ | (have e_ := (Kd.R_reads' HO_12.out).1; omega) | simpa using h_) (seg := [.bool true]) (j := 6) hcl50 hcc50 (show 7 ≤ 12 from by decide) (x' := (⟨(rd_T25 x12_3 x14_3).f0, (rd_T25 x12_3 x14_3).f1, (rd_T25 x12_3 x14_3).f2, (rd_T25 x12_3 x14_3).f3, (rd_T25 x12_3 x14_3).f4, (rd_T25 x12_3 x14_3).f5, true, (rd_T25 x12_3 x14_3).f7, (rd_T25 x12_3 x14_3).f8, (rd_T25 x12_3 x14_3).f9, (rd_T25 x12_3 x14_3).f10, (rd_T25 x12_3 x14_3).f11⟩ : S25)) (k25_mkM _ _ _ (⟨(rd_T25 x12_3 x14_3).f0, (rd_T25 x12_3 x14_3).f1, (rd_T25 x12_3 x14_3).f2, (rd_T25 x12_3 x14_3).f3, (rd_T25 x12_3 x14_3).f4, (rd_T25 x12_3 x14_3).f5, true, (rd_T25 x12_3 x14_3).f7, (rd_T25 x12_3 x14_3).f8, (rd_T25 x12_3 x14_3).f9, (rd_T25 x12_3 x14_3).f10, (rd_T25 x12_3 x14_3).f11⟩ : S25) ) (fun _ hk => hk)
                                    have hx50_6 := hcc50 6 _ rfl
                                    (try simp only [show (k25).sz = 12 from rfl, Nat.mul_one, Nat.add_zero] at hx50_6)
                                    have hf50_6 := hfr50 6
                                    (try simp only [show (k25).sz = 12 from rfl, Nat.mul_one, Nat.add_zero] at hf50_6)
                                    clear hcl50 hcc50 hfr50 hM50
                                    try go_wp2_with (first | ((with_reducible refine gate_store (t := 4) (p := 94) rfl ?_); refine store_event (t := 4) (p := 94) (v := ?vo_w51) (w1 := (w49.setCell ⟨go47, (x14_3 : Int).toNat * 12 + 6, none⟩ (.bool true))) ?hg ?ho ?hn ?hr ?_; (case ho => rfl); (case hg => rfl); (case hn => rfl); (case hr => first | (go_simp; done) | (go_simp; rfl)); intro w51 hw; have hg : w49.grownBy w51 (some go47) := (by rw [hw]; exact HP50.2); have hp_ : Kd.R k25 25 w51 w.heap.size (fun _ => True) (.slice (some ⟨go47, 0, none⟩) x12_3.length co27) y171 := (by rw [hw, Ny171.out]; exact HP50.1); clear HP50; have n0_ := Aside0.mk (hp_); have n1_ := Aside0.mk (blk_grown (g := gb151) (o := .cells #[.int .i64 a0_0, .int .i64 a0_1, .int .i64 a0_2, .bool a0_3, .int .i64 a0_4, .int .i64 a0_5, .int .i64 a0_6, .int .i64 a0_7] 23 (0, 0)) (by (with_reducible repeat (first | refine blk_drewN ?_ _ | refine blk_drew ?_ | refine blk_alloc ?_ _)); exact BK151.out) hg (Kd.R_ne HO_12.out BK151.out (by decide))); have n2_ := Aside0.mk ((by rw [hw]; exact below_set (HB.out) GB47.out : Below w.heap.size w w51)); clear HO_12; clear BK151; clear HB; have HO_12 := n0_; have BK151 := n1_; have HB := n2_; clear n0_ n1_ n2_; clear hg hw hp_; have p48 : 0 ≤ (x14_3 : Int) := of_decide_eq_true (by first | (with_reducible assumption) | assumption); have q48 : (x14_3 : Int) < ((x12_3.length : Int) : Int) := of_decide_eq_true (by first | (with_reducible assumption) | assumption); obtain ⟨ce48, hcl48, hM48, hcc48, hfr48⟩ := Kd.R_elem HO_12.out z25 (x14_3 : Int) p48 q48; obtain rfl := k25_openM hM48; have hx48_0 : w51.cell? ⟨go47, (x14_3 : Int).toNat * 12, none⟩ = some (.int .i64 ((rd_T25 y171 x14_3).f0)) := hcc48 0 _ rfl; have hx48_1 : w51.cell? ⟨go47, (x14_3 : Int).toNat * 12 + 1, none⟩ = some (.int .i64 ((rd_T25 y171 x14_3).f1)) := hcc48 1 _ rfl; have hx48_2 : w51.cell? ⟨go47, (x14_3 : Int).toNat * 12 + 2, none⟩ = some (.bool ((rd_T25 y171 x14_3).f2)) := hcc48 2 _ rfl; have hx48_3 : w51.cell? ⟨go47, (x14_3 : Int).toNat * 12 + 3, none⟩ = some (.int .i64 ((rd_T25 y171 x14_3).f3)) := hcc48 3 _ rfl; have hx48_4 : w51.cell? ⟨go47, (x14_3 : Int).toNat * 12 + 4, none⟩ = some (.int .i64 ((rd_T25 y171 x14_3).f4)) := hcc48 4 _ rfl; have hx48_5 : w51.cell? ⟨go47, (x14_3 : Int).toNat * 12 + 5, none⟩ = some (.bool ((rd_T25 y171 x14_3).f5)) := hcc48 5 _ rfl; have hx48_6 : w51.cell? ⟨go47, (x14_3 : Int).toNat * 12 + 6, none⟩ = some (.bool ((rd_T25 y171 x14_3).f6)) := hcc48 6 _ rfl; have hx48_7 : w51.cell? ⟨go47, (x14_3 : Int).toNat * 12 + 7, none⟩ = some (.bool ((rd_T25 y171 x14_3).f7)) := hcc48 7 _ rfl; have hx48_8 : w51.cell? ⟨go47, (x14_3 : Int).toNat * 12 + 8, none⟩ = some (.int .i64 ((rd_T25 y171 x14_3).f8)) := hcc48 8 _ rfl; have hx48_9 : w51.cell? ⟨go47, (x14_3 : Int).toNat * 12 + 9, none⟩ = some (.int .i64 ((rd_T25 y171 x14_3).f9)) := hcc48 9 _ rfl; have hx48_10 : w51.cell? ⟨go47, (x14_3 : Int).toNat * 12 + 10, none⟩ = some (.int .i64 ((rd_T25 y171 x14_3).f10)) := hcc48 10 _ rfl; have hx48_11 : w51.cell? ⟨go47, (x14_3 : Int).toNat * 12 + 11, none⟩ = some (.bool ((rd_T25 y171 x14_3).f11)) := hcc48 11 _ rfl; have hf48_0 : w51.frozen? ⟨go47, (x14_3 : Int).toNat * 12, none⟩ = false := hfr48 0; have hf48_1 : w51.frozen? ⟨go47, (x14_3 : Int).toNat * 12 + 1, none⟩ = false := hfr48 1; have hf48_2 : w51.frozen? ⟨go47, (x14_3 : Int).toNat * 12 + 2, none⟩ = false := hfr48 2; have hf48_3 : w51.frozen? ⟨go47, (x14_3 : Int).toNat * 12 + 3, none⟩ = false := hfr48 3; have hf48_4 : w51.frozen? ⟨go47, (x14_3 : Int).toNat * 12 + 4, none⟩ = false := hfr48 4; have hf48_5 : w51.frozen? ⟨go47, (x14_3 : Int).toNat * 12 + 5, none⟩ = false := hfr48 5; have hf48_6 : w51.frozen? ⟨go47, (x14_3 : Int).toNat * 12 + 6, none⟩ = false := hfr48 6; have hf48_7 : w51.frozen? ⟨go47, (x14_3 : Int).toNat * 12 + 7, none⟩ = false := hfr48 7; have hf48_8 : w51.frozen? ⟨go47, (x14_3 : Int).toNat * 12 + 8, none⟩ = false := hfr48 8; have hf48_9 : w51.frozen? ⟨go47, (x14_3 : Int).toNat * 12 + 9, none⟩ = false := hfr48 9; have hf48_10 : w51.frozen? ⟨go47, (x14_3 : Int).toNat * 12 + 10, none⟩ = false := hfr48 10; have hf48_11 : w51.frozen? ⟨go47, (x14_3 : Int).toNat * 12 + 11, none⟩ = false := hfr48 11; clear hcl48 hcc48 hfr48 hM48; replace p48 := eq_true p48; replace q48 := eq_true q48; have HX52 := Aside0.mk (show Kd.R k25 25 w51 w.heap.size (fun _ => True) (.slice (some ⟨go47, 0, none⟩) x12_3.length co27) y171 from (by (with_reducible repeat (first | apply Kd.R_alloc | apply Kd.R_drewN | apply Kd.R_drew)); exact HO_12.out)); obtain ⟨ce52, hcl52, hM52, hcc52, hfr52⟩ := Kd.R_elem HX52.out z25 (x14_3 : Int) (of_decide_eq_true (by first | (with_reducible assumption) | assumption)) (by have h_ : (x14_3 : Int) < ((x12_3.length : Int) : Int) := of_decide_eq_true (by first | (with_reducible assumption) | assumption); first | exact h_ | (have e_ := (Kd.R_reads' HO_12.out).1; omega) | simpa using h_); obtain rfl := k25_openM hM52; have HP52 := Kd.R_seg HX52.out (x14_3 : Int) (of_decide_eq_true (by first | (with_reducible assumption) | assumption)) (by have h_ : (x14_3 : Int) < ((x12_3.length : Int) : Int) := of_decide_eq_true (by first | (with_reducible assumption) | assumption); first | exact h_ | (have e_ := (Kd.R_reads' HO_12.out).1; omega) | simpa using h_) (seg := [.bool false]) (j := 7) hcl52 hcc52 (show 8 ≤ 12 from by decide) (x' := (⟨(rd_T25 y171 x14_3).f0, (rd_T25 y171 x14_3).f1, (rd_T25 y171 x14_3).f2, (rd_T25 y171 x14_3).f3, (rd_T25 y171 x14_3).f4, (rd_T25 y171 x14_3).f5, (rd_T25 y171 x14_3).f6, false, (rd_T25 y171 x14_3).f8, (rd_T25 y171 x14_3).f9, (rd_T25 y171 x14_3).f10, (rd_T25 y171 x14_3).f11⟩ : S25)) (k25_mkM _ _ _ (⟨(rd_T25 y171 x14_3).f0, (rd_T25 y171 x14_3).f1, (rd_T25 y171 x14_3).f2, (rd_T25 y171 x14_3).f3, (rd_T25 y171 x14_3).f4, (rd_T25 y171 x14_3).f5, (rd_T25 y171 x14_3).f6, false, (rd_T25 y171 x14_3).f8, (rd_T25 y171 x14_3).f9, (rd_T25 y171 x14_3).f10, (rd_T25 y171 x14_3).f11⟩ : S25) ) (fun _ hk => hk); have hx52_7 := hcc52 7 _ rfl; (try simp only [show (k25).sz = 12 from rfl, Nat.mul_one, Nat.add_zero] at hx52_7); have hf52_7 := hfr52 7; (try simp only [show (k25).sz = 12 from rfl, Nat.mul_one, Nat.add_zero] at hf52_7); clear hcl52 hcc52 hfr52 hM52) | ((with_reducible refine gate_store (t := 4) (p := 98) rfl ?_); refine store_event (t := 4) (p := 98) (v := ?vo_w53) (w1 := (w51.setCell ⟨go47, (x14_3 : Int).toNat * 12 + 7, none⟩ (.bool false))) ?hg ?ho ?hn ?hr ?_; (case ho => rfl); (case hg => rfl); (case hn => rfl); (case hr => first | (go_simp; done) | (go_simp; rfl)); intro w53 hw; have hg : w51.grownBy w53 (some go47) := (by rw [hw]; exact HP52.2); have hp_ : Kd.R k25 25 w53 w.heap.size (fun _ => True) (.slice (some ⟨go47, 0, none⟩) x12_3.length co27) y172 := (by rw [hw, Ny172.out]; exact HP52.1); clear HP52; have n0_ := Aside0.mk (hp_); have n1_ := Aside0.mk (blk_grown (g := gb151) (o := .cells #[.int .i64 a0_0, .int .i64 a0_1, .int .i64 a0_2, .bool a0_3, .int .i64 a0_4, .int .i64 a0_5, .int .i64 a0_6, .int .i64 a0_7] 23 (0, 0)) (by (with_reducible repeat (first | refine blk_drewN ?_ _ | refine blk_drew ?_ | refine blk_alloc ?_ _)); exact BK151.out) hg (Kd.R_ne HO_12.out BK151.out (by decide))); have n2_ := Aside0.mk ((by rw [hw]; exact below_set (HB.out) GB47.out : Below w.heap.size w w53)); clear HO_12; clear BK151; clear HB; have HO_12 := n0_; have BK151 := n1_; have HB := n2_; clear n0_ n1_ n2_; clear hg hw hp_))
                                    go_roundg kj25
                                    case measure => have := HJ6.out; have := HK2.out; have := HK3.out; have := HJ25.out; omega
                                    case rel => exact ⟨(y172), (x13_3), (wrap64 (x14_3 + 1)), (by first | rfl | (simp; done) | (simp [*]; done)), (by first | rfl | (simp; done) | (simp [*]; done)), H', ⟨by have := HJ6.out; have := HK2.out; have := HK3.out; have := HJ25.out; omega⟩, ⟨by (with_reducible repeat (first | apply Kd.R_alloc | apply Kd.R_drewN | apply Kd.R_drew)); exact HO_12.out⟩, ⟨by (with_reducible repeat (first | refine blk_drewN ?_ _ | refine blk_drew ?_ | refine blk_alloc ?_ _)); exact BK151.out⟩, ⟨by repeat (first | (with_reducible first | exact HB.out | apply below_alloc | apply pw_below_drewN | apply below_drew1 | refine below_set ?_ GE151.out) | exact HB.out)⟩⟩
                                  · rw [if_neg c46] at H
                                    have c46b0 : decide ((wrap64 ((wrap64 (((rd_T25 x12_3 x14_3).f3) + a0_2)) + a3)) ≤ a2) = false := decide_eq_false c46
                                    clear c46
                                    obtain ⟨ji54, hji54⟩ : ∃ j_ : Int, (mx x13_3 (wrap64 ((wrap64 ((wrap64 (((rd_T25 x12_3 x14_3).f3) + a0_2)) + a3)) - a2))) = j_ := ⟨_, rfl⟩
                                    replace H : (tidewayref13_Mark.l1 kj25 a2 a3 x12_3 ji54 (wrap64 (x14_3 + 1)) a0_0 a0_1 a0_2 a0_3 a0_4 a0_5 a0_6 a0_7) = some (r1, r2, r3) := by first | (rw [hji54] at H; exact H) | (simp only [hji54] at H ⊢; exact H)
                                    have hji54_ : (if x13_3 < (wrap64 ((wrap64 ((wrap64 (((rd_T25 x12_3 x14_3).f3) + a0_2)) + a3)) - a2)) then (wrap64 ((wrap64 ((wrap64 (((rd_T25 x12_3 x14_3).f3) + a0_2)) + a3)) - a2)) else x13_3) = ji54 := hji54
                                    have hwr54_1 : IntKind.i64.wrap ((wrap64 ((wrap64 (((rd_T25 x12_3 x14_3).f3) + a0_2)) + a3)) - a2) = wrap64 ((wrap64 ((wrap64 (((rd_T25 x12_3 x14_3).f3) + a0_2)) + a3)) - a2) := i64_w _
                                    have hwr54_2 : IntKind.i64.wrap ((wrap64 (((rd_T25 x12_3 x14_3).f3) + a0_2)) + a3) = wrap64 ((wrap64 (((rd_T25 x12_3 x14_3).f3) + a0_2)) + a3) := i64_w _
                                    have hwr54_3 : IntKind.i64.wrap (((rd_T25 x12_3 x14_3).f3) + a0_2) = wrap64 (((rd_T25 x12_3 x14_3).f3) + a0_2) := i64_w _
                                    have H' := Aside0.mk H
                                    clear H
                                    try go_wp2
                                    have n0_ := Aside0.mk (Kd.R_drew HO_12.out)
                                    have n1_ := Aside0.mk (blk_drew BK151.out)
                                    have n2_ := Aside0.mk (below_drew1 HB.out)
                                    clear HO_12
                                    clear BK151
                                    clear HB
                                    have HO_12 := n0_
                                    have BK151 := n1_
                                    have HB := n2_
                                    clear n0_ n1_ n2_
                                    have p170 : 0 ≤ (x14_3 : Int) := of_decide_eq_true (by first | (with_reducible assumption) | assumption)
                                    have q170 : x14_3 < (x12_3.length : Int) := of_decide_eq_true (by first | (with_reducible assumption) | assumption)
                                    obtain ⟨ad170, e170, hx170_0, hx170_1, hx170_2, hx170_3, hx170_4, hx170_5, hx170_6, hx170_7, hx170_8, hx170_9, hx170_10, hx170_11⟩ := at_T25 (Kd.R_reads' HO_12.out).2.2 x14_3 p170 q170
                                    cases e170
                                    replace p170 := eq_true p170
                                    replace q170 := eq_true q170
                                    refine start_ (n := 11) (S := fun w' => w'.cell? ⟨gb151, 0, none⟩ = some (.int .i64 a0_0) ∧ w'.cell? ⟨gb151, 1, none⟩ = some (.int .i64 a0_1) ∧ w'.cell? ⟨gb151, 2, none⟩ = some (.int .i64 a0_2) ∧ w'.cell? ⟨gb151, 3, none⟩ = some (.bool a0_3) ∧ w'.cell? ⟨gb151, 4, none⟩ = some (.int .i64 a0_4) ∧ w'.cell? ⟨gb151, 5, none⟩ = some (.int .i64 a0_5) ∧ w'.cell? ⟨gb151, 6, none⟩ = some (.int .i64 a0_6) ∧ w'.cell? ⟨gb151, 7, none⟩ = some (.int .i64 a0_7) ∧ w'.cell? (ad170.add ((x14_3).toNat * 12)) = some (.int .i64 ((rd_T25 x12_3 x14_3).f0)) ∧ w'.cell? ⟨(ad170.add ((x14_3).toNat * 12)).block, (ad170.add ((x14_3).toNat * 12)).off + 1, none⟩ = some (.int .i64 ((rd_T25 x12_3 x14_3).f1)) ∧ w'.cell? ⟨(ad170.add ((x14_3).toNat * 12)).block, (ad170.add ((x14_3).toNat * 12)).off + 2, none⟩ = some (.bool ((rd_T25 x12_3 x14_3).f2)) ∧ w'.cell? ⟨(ad170.add ((x14_3).toNat * 12)).block, (ad170.add ((x14_3).toNat * 12)).off + 3, none⟩ = some (.int .i64 ((rd_T25 x12_3 x14_3).f3)) ∧ w'.cell? ⟨(ad170.add ((x14_3).toNat * 12)).block, (ad170.add ((x14_3).toNat * 12)).off + 4, none⟩ = some (.int .i64 ((rd_T25 x12_3 x14_3).f4)) ∧ w'.cell? ⟨(ad170.add ((x14_3).toNat * 12)).block, (ad170.add ((x14_3).toNat * 12)).off + 5, none⟩ = some (.bool ((rd_T25 x12_3 x14_3).f5)) ∧ w'.cell? ⟨(ad170.add ((x14_3).toNat * 12)).block, (ad170.add ((x14_3).toNat * 12)).off + 6, none⟩ = some (.bool ((rd_T25 x12_3 x14_3).f6)) ∧ w'.cell? ⟨(ad170.add ((x14_3).toNat * 12)).block, (ad170.add ((x14_3).toNat * 12)).off + 7, none⟩ = some (.bool ((rd_T25 x12_3 x14_3).f7)) ∧ w'.cell? ⟨(ad170.add ((x14_3).toNat * 12)).block, (ad170.add ((x14_3).toNat * 12)).off + 8, none⟩ = some (.int .i64 ((rd_T25 x12_3 x14_3).f8)) ∧ w'.cell? ⟨(ad170.add ((x14_3).toNat * 12)).block, (ad170.add ((x14_3).toNat * 12)).off + 9, none⟩ = some (.int .i64 ((rd_T25 x12_3 x14_3).f9)) ∧ w'.cell? ⟨(ad170.add ((x14_3).toNat * 12)).block, (ad170.add ((x14_3).toNat * 12)).off + 10, none⟩ = some (.int .i64 ((rd_T25 x12_3 x14_3).f10)) ∧ w'.cell? ⟨(ad170.add ((x14_3).toNat * 12)).block, (ad170.add ((x14_3).toNat * 12)).off + 11, none⟩ = some (.bool ((rd_T25 x12_3 x14_3).f11))) (ds := []) #[false, false, false, false, false, false, false, false, false, false, false] (by kernel_rfl) rfl rfl ⟨(blk_cell BK151.out 0).trans rfl, (blk_cell BK151.out 1).trans rfl, (blk_cell BK151.out 2).trans rfl, (blk_cell BK151.out 3).trans rfl, (blk_cell BK151.out 4).trans rfl, (blk_cell BK151.out 5).trans rfl, (blk_cell BK151.out 6).trans rfl, (blk_cell BK151.out 7).trans rfl, hx170_0, hx170_1, hx170_2, hx170_3, hx170_4, hx170_5, hx170_6, hx170_7, hx170_8, hx170_9, hx170_10, hx170_11⟩ (fun hHeld => ?_); refine with_tabW tidewayref13_Mark.tab16 tidewayref13_Mark.bits16 (fun HT_ HW_ => ?_)
                                    generalize wc.drew = w55 at HO_12 BK151 HB hx170_0 hx170_1 hx170_10 hx170_11 hx170_2 hx170_3 hx170_4 hx170_5 hx170_6 hx170_7 hx170_8 hx170_9 hHeld ⊢
                                    refine pure_ (i := 0) (N := some 78) (v := ?_) (a' := ?_) #[true, false, false, false, false, false, false, false, false, false, false] rfl rfl (any_of HT_.out (by kernel_rfl)) (fun _ _ _ h => h) (Or.inl ⟨by rfl, ?_⟩) ?_ ?_
                                    rotate_left
                                    · intro w'
                                      go_simp
                                      with_reducible rfl
                                    rotate_left
                                    · simp only [Act.put, List.setIfInBounds_toArray, List.set_cons_zero, List.set_cons_succ, i64_w, i32_w]
                                      rfl
                                    refine pure_ (i := 1) (N := some 79) (v := ?_) (a' := ?_) #[true, true, false, false, false, false, false, false, false, false, false] rfl rfl (any_of HT_.out (by kernel_rfl)) (fun _ _ _ h => h) (Or.inl ⟨by rfl, ?_⟩) ?_ ?_
                                    rotate_left
                                    · intro w'
                                      go_simp
                                      with_reducible rfl
                                    rotate_left
                                    · simp only [Act.put, List.setIfInBounds_toArray, List.set_cons_zero, List.set_cons_succ, i64_w, i32_w]
                                      rfl
                                    refine pure_ (i := 2) (N := some 80) (v := ?_) (a' := ?_) #[true, true, true, false, false, false, false, false, false, false, false] rfl rfl (any_of HT_.out (by kernel_rfl)) (fun _ _ _ h => h) (Or.inl ⟨by rfl, ?_⟩) ?_ ?_
                                    rotate_left
                                    · intro w'
                                      go_simp
                                      with_reducible rfl
                                    rotate_left
                                    · simp only [Act.put, List.setIfInBounds_toArray, List.set_cons_zero, List.set_cons_succ, i64_w, i32_w]
                                      rfl
                                    refine pure_ (i := 3) (N := some 81) (v := ?_) (a' := ?_) #[true, true, true, true, false, false, false, false, false, false, false] rfl rfl (any_of HT_.out (by kernel_rfl)) (fun _ _ _ h => h) (Or.inl ⟨by rfl, ?_⟩) ?_ ?_
                                    rotate_left
                                    · intro w'
                                      go_simp
                                      with_reducible rfl
                                    rotate_left
                                    · simp only [Act.put, List.setIfInBounds_toArray, List.set_cons_zero, List.set_cons_succ, i64_w, i32_w]
                                      rfl
                                    refine pure_ (i := 5) (N := some 83) (v := ?_) (a' := ?_) #[true, true, true, true, false, true, false, false, false, false, false] rfl rfl (any_of HT_.out (by kernel_rfl)) (fun _ _ _ h => h) (Or.inl ⟨by rfl, ?_⟩) ?_ ?_
                                    rotate_left
                                    · intro w'
                                      go_simp
                                      with_reducible rfl
                                    rotate_left
                                    · simp only [Act.put, List.setIfInBounds_toArray, List.set_cons_zero, List.set_cons_succ, i64_w, i32_w]
                                      rfl
                                    refine pure_ (i := 8) (N := some 86) (v := ?_) (a' := ?_) #[true, true, true, true, false, true, false, false, true, false, false] rfl rfl (any_of HT_.out (by kernel_rfl)) (fun _ _ _ h => h) (Or.inl ⟨by rfl, ?_⟩) ?_ ?_
                                    rotate_left
                                    · intro w'
                                      go_simp
                                      with_reducible rfl
                                    rotate_left
                                    · simp only [Act.put, List.setIfInBounds_toArray, List.set_cons_zero, List.set_cons_succ, i64_w, i32_w]
                                      rfl
                                    refine take_ (i := 4) (N := some 82) (v := ?_) (a' := ?_) #[true, true, true, true, true, true, false, false, true, false, false] rfl rfl (take_ofW HT_.out HW_.out (by kernel_rfl)) (fun _ _ _ h => h) (Or.inl ⟨by rfl, ?_⟩) hHeld ?_ ?_
                                    rotate_left
                                    · rintro w' ⟨s0, s1, s2, s3, s4, s5, s6, s7, s8, s9, s10, s11, s12, s13, s14, s15, s16, s17, s18, s19⟩
                                      go_simp
                                      with_reducible rfl
                                    rotate_left
                                    · simp only [Act.put, List.setIfInBounds_toArray, List.set_cons_zero, List.set_cons_succ, i64_w, i32_w]
                                      rfl
                                    refine take_ (i := 6) (N := some 84) (v := ?_) (a' := ?_) #[true, true, true, true, true, true, true, false, true, false, false] rfl rfl (take_ofW HT_.out HW_.out (by kernel_rfl)) (fun _ _ _ h => h) (Or.inl ⟨by rfl, ?_⟩) hHeld ?_ ?_
                                    rotate_left
                                    · rintro w' ⟨s0, s1, s2, s3, s4, s5, s6, s7, s8, s9, s10, s11, s12, s13, s14, s15, s16, s17, s18, s19⟩
                                      go_simp
                                      with_reducible rfl
                                    rotate_left
                                    · simp only [Act.put, List.setIfInBounds_toArray, List.set_cons_zero, List.set_cons_succ, i64_w, i32_w]
                                      rfl
                                    refine pure_ (i := 7) (N := some 85) (v := ?_) (a' := ?_) #[true, true, true, true, true, true, true, true, true, false, false] rfl rfl (any_of HT_.out (by kernel_rfl)) (fun _ _ _ h => h) (Or.inl ⟨by rfl, ?_⟩) ?_ ?_
                                    rotate_left
                                    · intro w'
                                      go_simp
                                      with_reducible rfl
                                    rotate_left
                                    · simp only [Act.put, List.setIfInBounds_toArray, List.set_cons_zero, List.set_cons_succ, i64_w, i32_w]
                                      rfl
                                    refine pure_ (i := 9) (N := some 87) (v := ?_) (a' := ?_) #[true, true, true, true, true, true, true, true, true, true, false] rfl rfl (any_of HT_.out (by kernel_rfl)) (fun _ _ _ h => h) (Or.inl ⟨by rfl, ?_⟩) ?_ ?_
                                    rotate_left
                                    · intro w'
                                      go_simp
                                      with_reducible rfl
                                    rotate_left
                                    · simp only [Act.put, List.setIfInBounds_toArray, List.set_cons_zero, List.set_cons_succ, i64_w, i32_w]
                                      rfl
                                    refine pure_ (i := 10) (N := some 15) (v := ?_) (a' := ?_) #[true, true, true, true, true, true, true, true, true, true, true] rfl rfl (any_of HT_.out (by kernel_rfl)) (fun _ _ _ h => h) (Or.inl ⟨by rfl, ?_⟩) ?_ ?_
                                    rotate_left
                                    · intro w'
                                      go_simp
                                      with_reducible rfl
                                    rotate_left
                                    · simp only [Act.put, List.setIfInBounds_toArray, List.set_cons_zero, List.set_cons_succ, i64_w, i32_w]
                                      rfl
                                    refine done_ (done_of HT_.out (by kernel_rfl)) ?_
                                    try go_wp2
                                    go_roundg kj25
                                    case measure => have := HJ6.out; have := HK2.out; have := HK3.out; have := HJ25.out; omega
                                    case rel => exact ⟨(x12_3), (ji54), (wrap64 (x14_3 + 1)), (by first | rfl | (simp; done) | (simp only [← hji54] <;> (first | rfl | simp)) | (simp [*]; done)), (by first | rfl | (simp; done) | (simp [*]; done)), H', ⟨by have := HJ6.out; have := HK2.out; have := HK3.out; have := HJ25.out; omega⟩, ⟨by (with_reducible repeat (first | apply Kd.R_alloc | apply Kd.R_drewN | apply Kd.R_drew)); exact HO_12.out⟩, ⟨by (with_reducible repeat (first | refine blk_drewN ?_ _ | refine blk_drew ?_ | refine blk_alloc ?_ _)); exact BK151.out⟩, ⟨by repeat (first | (with_reducible first | exact HB.out | apply below_alloc | apply pw_below_drewN | apply below_drew1 | refine below_set ?_ GE151.out) | exact HB.out)⟩⟩
                                · rw [if_neg c45] at H
                                  exact absurd H (by simp)
                              · rw [if_neg c44] at H
                                exact absurd H (by simp)
                      · rw [if_neg c25] at H
                        have c25b0 : decide (x14_3 < (x12_3.length : Int)) = false := decide_eq_false c25
                        clear c25
                        simp only [Option.some.injEq, Prod.mk.injEq] at H
                        obtain ⟨rfl, rfl, rfl⟩ := H
                        obtain ⟨Ao56, co56, eo56⟩ := Kd.R_slice HO_12.out
                        subst eo56
                        go_wp2
                        go_ret3
                        exact ⟨_, by first | rfl | (simp [errW_none, errW_some] <;> rfl) | (simp [*, errW_none, errW_some] <;> rfl), by (with_reducible repeat (first | apply Kd.R_alloc | apply Kd.R_drewN | apply Kd.R_drew)); exact HO_12.out, by repeat (first | (with_reducible first | exact HB.out | apply below_alloc | apply pw_below_drewN | apply below_drew1 | refine below_set ?_ GE151.out) | exact HB.out)⟩
                · rw [if_neg c21] at H
                  exact absurd H (by simp)
  · rw [if_neg c6] at H
    have c6b0 : (t152 == 0) = false := beq_eq_false_iff_ne.mpr c6
    have c6b1 : (t152 != 0) = true := bne_iff_ne.mpr c6
    simp only [Option.some.injEq, Prod.mk.injEq] at H
    obtain ⟨rfl, rfl, rfl⟩ := H
    go_enter Try.func17, Try.ntmps17
    go_wp2_with (first | ((with_reducible refine gate_dst (N := 4) rfl ?_); refine box_event ?hg (N := 4) ?hd (cs := #[.int .i64 a0_0, .int .i64 a0_1, .int .i64 a0_2, .bool a0_3, .int .i64 a0_4, .int .i64 a0_5, .int .i64 a0_6, .int .i64 a0_7]) (t := 23) ?hr ?_; (case hd => rfl); (case hg => rfl); (case hr => first | (go_simp; done) | (go_simp; rfl)); intro gb151 hg w57 hbox hb; have n0_ := Aside0.mk (below_step (by repeat (first | (with_reducible first | exact HB.out | apply below_alloc | apply pw_below_drewN | apply below_drew1) | exact HB.out | exact Below.refl _ _)) hb); have n1_ := Aside0.mk (hbox); have n2_ := Aside0.mk ((by rw [hg]; exact (below_size (by repeat (first | (with_reducible first | exact HB.out | apply below_alloc | apply pw_below_drewN | apply below_drew1) | exact HB.out | exact Below.refl _ _))) : w.heap.size ≤ gb151)); have n3_ := Aside0.mk ((by rw [hg]; exact (below_size (by repeat (first | (with_reducible first | exact HB.out | apply below_alloc | apply pw_below_drewN | apply below_drew1) | exact HB.out | exact Below.refl _ _))) : w.heap.size ≤ gb151)); clear HB; have HB := n0_; have BK151 := n1_; have GW151 := n2_; have GE151 := n3_; clear n0_ n1_ n2_ n3_; clear hb hbox hg; have hcz58_0 : w57.cell? ⟨gb151, 0, none⟩ = some (.int .i64 a0_0) := (blk_cell BK151.out 0).trans rfl; have hcz58_1 : w57.cell? ⟨gb151, 1, none⟩ = some (.int .i64 a0_1) := (blk_cell BK151.out 1).trans rfl; have hcz58_2 : w57.cell? ⟨gb151, 2, none⟩ = some (.int .i64 a0_2) := (blk_cell BK151.out 2).trans rfl; have hcz58_3 : w57.cell? ⟨gb151, 3, none⟩ = some (.bool a0_3) := (blk_cell BK151.out 3).trans rfl; have hcz58_4 : w57.cell? ⟨gb151, 4, none⟩ = some (.int .i64 a0_4) := (blk_cell BK151.out 4).trans rfl; have hcz58_5 : w57.cell? ⟨gb151, 5, none⟩ = some (.int .i64 a0_5) := (blk_cell BK151.out 5).trans rfl; have hcz58_6 : w57.cell? ⟨gb151, 6, none⟩ = some (.int .i64 a0_6) := (blk_cell BK151.out 6).trans rfl; have hcz58_7 : w57.cell? ⟨gb151, 7, none⟩ = some (.int .i64 a0_7) := (blk_cell BK151.out 7).trans rfl; have hfz58_0 := blk_frozen BK151.out 0; have hfz58_1 := blk_frozen BK151.out 1; have hfz58_2 := blk_frozen BK151.out 2; have hfz58_3 := blk_frozen BK151.out 3; have hfz58_4 := blk_frozen BK151.out 4; have hfz58_5 := blk_frozen BK151.out 5; have hfz58_6 := blk_frozen BK151.out 6; have hfz58_7 := blk_frozen BK151.out 7) | ((with_reducible refine gate_callee (f := 11) rfl ?_); refine goesL_ (some 17) rfl rfl Try.func11 (by kernel_rfl) rfl #[.agg #[.int .i64 a0_0, .int .i64 a0_1, .int .i64 a0_2, .bool a0_3, .int .i64 a0_4, .int .i64 a0_5, .int .i64 a0_6, .int .i64 a0_7]] rfl (by (try simp only [List.map_toArray, List.map_cons, List.map_nil]); first | done | rfl | (simp only [List.length_drop, List.length_take]; rfl)) ?_; (with_reducible refine (tidewayref13_Check.calls k a0_0 a0_1 a0_2 a0_3 a0_4 a0_5 a0_6 a0_7 t152 _ A5.out).mono ?_); rintro e w59 ⟨rfl, hb⟩; refine ⟨_, rfl, ?_⟩; have n0_ := Aside0.mk (blk_below (g := gb151) (o := .cells #[.int .i64 a0_0, .int .i64 a0_1, .int .i64 a0_2, .bool a0_3, .int .i64 a0_4, .int .i64 a0_5, .int .i64 a0_6, .int .i64 a0_7] 23 (0, 0)) (by (with_reducible repeat (first | refine blk_drewN ?_ _ | refine blk_drew ?_ | refine blk_alloc ?_ _)); exact BK151.out) hb); have n1_ := Aside0.mk (below_step (by repeat (first | (with_reducible first | exact HB.out | apply below_alloc | apply pw_below_drewN | apply below_drew1 | refine below_set ?_ GE151.out) | exact HB.out)) hb); clear BK151; clear HB; have BK151 := n0_; have HB := n1_; clear n0_ n1_; (try clear hb); (try clear hb2); (try clear hk); (try clear hi)))
    go_ret3
    exact ⟨_, by first | rfl | (simp [errW_none, errW_some] <;> rfl) | (simp [*, errW_none, errW_some] <;> rfl), by first | exact Kd.R_nil _ _ _ _ _ | exact Kd.N_nil _ _ _ _ _ | exact Kd.V_nil _ _ _ _ _ | exact Kd.Q_nil _ _ _ _ _ | exact Kd.S_nil _ _ _ _ _, by repeat (first | (with_reducible first | exact HB.out | apply below_alloc | apply pw_below_drewN | apply below_drew1 | refine below_set ?_ GE151.out) | exact HB.out)⟩

end Go.Proofs.Ytfckpjljpeaikaa.PA

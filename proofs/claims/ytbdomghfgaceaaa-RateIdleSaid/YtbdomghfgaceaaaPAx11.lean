-- Written for the seat Ytbdomghfgaceaaa by this session's program hyb.py (the print's functions, with externals typed by hand).
import Derived.Test.YtbdomghfgaceaaaPAx0
import Derived.Test.YtbdomghfgaceaaaPAx7
import Derived.Test.YtbdomghfgaceaaaPAx8
import Derived.Test.YtbdomghfgaceaaaPAx9
namespace Go.Proofs.Ytbdomghfgaceaaa.PA
open Go.RowKit Go.Proofs.YtbdomghfgaceaaaW.PrintWords Go.Proofs.YtbdomghfgaceaaaW.PrintLast Go.Proofs.YtbdomghfgaceaaaW.PrintMore
attribute [local go_sem] max2_int min2_int max_two min_two max_three min_three max_four min_four   -- for this text's walks alone
set_option linter.unusedVariables false
set_option linter.unusedSimpArgs false

/-! ### tidewaylaw17_RateIdle: function 4 -/
def tidewaylaw17_RateIdle.j0 : Nat → Bool → Int → Int → Int → Int → Int → Int → Bool → Int → Int → Bool → Bool → Bool → Int → Int → Int → Bool → Int → Int → Int → Int → Int → Int → Bool → Int → Int → Bool → Bool → Bool → Int → Int → Int → Bool → Int → Int → Bool → Int → Int → Bool → Bool → Bool → Int → Int → Int → Bool → Option (Bool)
  | 0, _, _, _, _, _, _, _, _, _, _, _, _, _, _, _, _, _, _, _, _, _, _, _, _, _, _, _, _, _, _, _, _, _, _, _, _, _, _, _, _, _, _, _, _, _ => none
  | k + 1, x48, x168000, x168001, x168002, x168003, x169000, x169001, x169002, x169003, x169004, x169005, x169006, x169007, x169008, x169009, x169010, x169011, x175000, x175001, x175002, x175003, x194000, x194001, x194002, x194003, x194004, x194005, x194006, x194007, x194008, x194009, x194010, x194011, x213000, x213001, x213002, x213003, x213004, x213005, x213006, x213007, x213008, x213009, x213010, x213011 => if x48 = true then ((tidewaylaw17_heads.f).bind fun t213 => (some t213)) else (if x194011 = true then (if (x213011 == (decide (x168003 > 0))) = true then (if x194008 = x213008 then (if x194000 = x169000 then (if x194001 = x169001 then (if x175000 = x168000 then ((tidewaylaw17_heads.f).bind fun t214 => (some t214)) else (some false)) else (some false)) else (some false)) else (some false)) else (some false)) else (some false))
def tidewaylaw17_RateIdle.f (k : Nat) (a0_0 : Int) (a0_1 : Int) (a0_2 : Int) (a0_3 : Int) (a1_0 : Int) (a1_1 : Int) (a1_2 : Bool) (a1_3 : Int) (a1_4 : Int) (a1_5 : Bool) (a1_6 : Bool) (a1_7 : Bool) (a1_8 : Int) (a1_9 : Int) (a1_10 : Int) (a1_11 : Bool) (a2 : Int) (a3 : Int) : Option (Bool) := (rate_Idle.f k a0_0 a0_1 a0_2 a0_3 a3).bind fun bt169 => ((rate_Sent.f k bt169.1 bt169.2.1 bt169.2.2.1 bt169.2.2.2.1 a1_0 a1_1 a1_2 a1_3 a1_4 a1_5 a1_6 a1_7 a1_8 a1_9 a1_10 a1_11 a2 false).bind fun bt175 => ((rate_Sent.f k a0_0 a0_1 a0_2 a0_3 a1_0 a1_1 a1_2 a1_3 a1_4 a1_5 a1_6 a1_7 a1_8 a1_9 a1_10 a1_11 a2 false).bind fun bt194 => (if bt169.2.2.2.2 = 0 then (if bt175.2.2.2.2.2.2.2.2.2.2.2.2.2.2.2.2 = 0 then (tidewaylaw17_RateIdle.j0 k (bt194.2.2.2.2.2.2.2.2.2.2.2.2.2.2.2.2 != 0) a0_0 a0_1 a0_2 a0_3 a1_0 a1_1 a1_2 a1_3 a1_4 a1_5 a1_6 a1_7 a1_8 a1_9 a1_10 a1_11 bt169.1 bt169.2.1 bt169.2.2.1 bt169.2.2.2.1 bt175.2.2.2.2.1 bt175.2.2.2.2.2.1 bt175.2.2.2.2.2.2.1 bt175.2.2.2.2.2.2.2.1 bt175.2.2.2.2.2.2.2.2.1 bt175.2.2.2.2.2.2.2.2.2.1 bt175.2.2.2.2.2.2.2.2.2.2.1 bt175.2.2.2.2.2.2.2.2.2.2.2.1 bt175.2.2.2.2.2.2.2.2.2.2.2.2.1 bt175.2.2.2.2.2.2.2.2.2.2.2.2.2.1 bt175.2.2.2.2.2.2.2.2.2.2.2.2.2.2.1 bt175.2.2.2.2.2.2.2.2.2.2.2.2.2.2.2.1 bt194.2.2.2.2.1 bt194.2.2.2.2.2.1 bt194.2.2.2.2.2.2.1 bt194.2.2.2.2.2.2.2.1 bt194.2.2.2.2.2.2.2.2.1 bt194.2.2.2.2.2.2.2.2.2.1 bt194.2.2.2.2.2.2.2.2.2.2.1 bt194.2.2.2.2.2.2.2.2.2.2.2.1 bt194.2.2.2.2.2.2.2.2.2.2.2.2.1 bt194.2.2.2.2.2.2.2.2.2.2.2.2.2.1 bt194.2.2.2.2.2.2.2.2.2.2.2.2.2.2.1 bt194.2.2.2.2.2.2.2.2.2.2.2.2.2.2.2.1) else (tidewaylaw17_RateIdle.j0 k true a0_0 a0_1 a0_2 a0_3 a1_0 a1_1 a1_2 a1_3 a1_4 a1_5 a1_6 a1_7 a1_8 a1_9 a1_10 a1_11 bt169.1 bt169.2.1 bt169.2.2.1 bt169.2.2.2.1 bt175.2.2.2.2.1 bt175.2.2.2.2.2.1 bt175.2.2.2.2.2.2.1 bt175.2.2.2.2.2.2.2.1 bt175.2.2.2.2.2.2.2.2.1 bt175.2.2.2.2.2.2.2.2.2.1 bt175.2.2.2.2.2.2.2.2.2.2.1 bt175.2.2.2.2.2.2.2.2.2.2.2.1 bt175.2.2.2.2.2.2.2.2.2.2.2.2.1 bt175.2.2.2.2.2.2.2.2.2.2.2.2.2.1 bt175.2.2.2.2.2.2.2.2.2.2.2.2.2.2.1 bt175.2.2.2.2.2.2.2.2.2.2.2.2.2.2.2.1 bt194.2.2.2.2.1 bt194.2.2.2.2.2.1 bt194.2.2.2.2.2.2.1 bt194.2.2.2.2.2.2.2.1 bt194.2.2.2.2.2.2.2.2.1 bt194.2.2.2.2.2.2.2.2.2.1 bt194.2.2.2.2.2.2.2.2.2.2.1 bt194.2.2.2.2.2.2.2.2.2.2.2.1 bt194.2.2.2.2.2.2.2.2.2.2.2.2.1 bt194.2.2.2.2.2.2.2.2.2.2.2.2.2.1 bt194.2.2.2.2.2.2.2.2.2.2.2.2.2.2.1 bt194.2.2.2.2.2.2.2.2.2.2.2.2.2.2.2.1)) else (tidewaylaw17_RateIdle.j0 k true a0_0 a0_1 a0_2 a0_3 a1_0 a1_1 a1_2 a1_3 a1_4 a1_5 a1_6 a1_7 a1_8 a1_9 a1_10 a1_11 bt169.1 bt169.2.1 bt169.2.2.1 bt169.2.2.2.1 bt175.2.2.2.2.1 bt175.2.2.2.2.2.1 bt175.2.2.2.2.2.2.1 bt175.2.2.2.2.2.2.2.1 bt175.2.2.2.2.2.2.2.2.1 bt175.2.2.2.2.2.2.2.2.2.1 bt175.2.2.2.2.2.2.2.2.2.2.1 bt175.2.2.2.2.2.2.2.2.2.2.2.1 bt175.2.2.2.2.2.2.2.2.2.2.2.2.1 bt175.2.2.2.2.2.2.2.2.2.2.2.2.2.1 bt175.2.2.2.2.2.2.2.2.2.2.2.2.2.2.1 bt175.2.2.2.2.2.2.2.2.2.2.2.2.2.2.2.1 bt194.2.2.2.2.1 bt194.2.2.2.2.2.1 bt194.2.2.2.2.2.2.1 bt194.2.2.2.2.2.2.2.1 bt194.2.2.2.2.2.2.2.2.1 bt194.2.2.2.2.2.2.2.2.2.1 bt194.2.2.2.2.2.2.2.2.2.2.1 bt194.2.2.2.2.2.2.2.2.2.2.2.1 bt194.2.2.2.2.2.2.2.2.2.2.2.2.1 bt194.2.2.2.2.2.2.2.2.2.2.2.2.2.1 bt194.2.2.2.2.2.2.2.2.2.2.2.2.2.2.1 bt194.2.2.2.2.2.2.2.2.2.2.2.2.2.2.2.1))))
theorem tidewaylaw17_RateIdle.mono_l : ∀ k, (∀ y0 y1 y2 y3 y4 y5 y6 y7 y8 y9 y10 y11 y12 y13 y14 y15 y16 y17 y18 y19 y20 y21 y22 y23 y24 y25 y26 y27 y28 y29 y30 y31 y32 y33 y34 y35 y36 y37 y38 y39 y40 y41 y42 y43 y44, LeO (tidewaylaw17_RateIdle.j0 k y0 y1 y2 y3 y4 y5 y6 y7 y8 y9 y10 y11 y12 y13 y14 y15 y16 y17 y18 y19 y20 y21 y22 y23 y24 y25 y26 y27 y28 y29 y30 y31 y32 y33 y34 y35 y36 y37 y38 y39 y40 y41 y42 y43 y44) (tidewaylaw17_RateIdle.j0 (k + 1) y0 y1 y2 y3 y4 y5 y6 y7 y8 y9 y10 y11 y12 y13 y14 y15 y16 y17 y18 y19 y20 y21 y22 y23 y24 y25 y26 y27 y28 y29 y30 y31 y32 y33 y34 y35 y36 y37 y38 y39 y40 y41 y42 y43 y44))
  | 0 => fun _ _ _ _ _ _ _ _ _ _ _ _ _ _ _ _ _ _ _ _ _ _ _ _ _ _ _ _ _ _ _ _ _ _ _ _ _ _ _ _ _ _ _ _ _ r h => by simp [tidewaylaw17_RateIdle.j0] at h
  | k + 1 => by
    have ih0 := tidewaylaw17_RateIdle.mono_l k
    · intro y0 y1 y2 y3 y4 y5 y6 y7 y8 y9 y10 y11 y12 y13 y14 y15 y16 y17 y18 y19 y20 y21 y22 y23 y24 y25 y26 y27 y28 y29 y30 y31 y32 y33 y34 y35 y36 y37 y38 y39 y40 y41 y42 y43 y44
      unfold tidewaylaw17_RateIdle.j0
      repeat' first
      | (with_reducible exact ih0 _ _ _ _ _ _ _ _ _ _ _ _ _ _ _ _ _ _ _ _ _ _ _ _ _ _ _ _ _ _ _ _ _ _ _ _ _ _ _ _ _ _ _ _ _)
      | (with_reducible exact rate_Idle.mono _ _ _ _ _ _)
      | (with_reducible exact rate_Sent.mono _ _ _ _ _ _ _ _ _ _ _ _ _ _ _ _ _ _ _)
      | (with_reducible exact LeO.refl _)
      | (with_reducible exact LeO.none _)
      | (with_reducible refine LeO.ite ?_ ?_)
      | (with_reducible refine LeO.bind ?_ (fun _ => ?_))
      | exact ih0 _ _ _ _ _ _ _ _ _ _ _ _ _ _ _ _ _ _ _ _ _ _ _ _ _ _ _ _ _ _ _ _ _ _ _ _ _ _ _ _ _ _ _ _ _
      | exact rate_Idle.mono _ _ _ _ _ _
      | exact rate_Sent.mono _ _ _ _ _ _ _ _ _ _ _ _ _ _ _ _ _ _ _
      | exact LeO.none _
      | refine LeO.ite ?_ ?_
      | refine LeO.bind ?_ (fun _ => ?_)
theorem tidewaylaw17_RateIdle.mono : ∀ a0 a1 a2 a3 a4 a5 a6 a7 a8 a9 a10 a11 a12 a13 a14 a15 a16 a17 k, LeO (tidewaylaw17_RateIdle.f k a0 a1 a2 a3 a4 a5 a6 a7 a8 a9 a10 a11 a12 a13 a14 a15 a16 a17) (tidewaylaw17_RateIdle.f (k + 1) a0 a1 a2 a3 a4 a5 a6 a7 a8 a9 a10 a11 a12 a13 a14 a15 a16 a17) := by
  intro a0 a1 a2 a3 a4 a5 a6 a7 a8 a9 a10 a11 a12 a13 a14 a15 a16 a17 k
  have ih0 := tidewaylaw17_RateIdle.mono_l k
  unfold tidewaylaw17_RateIdle.f
  repeat' first
      | (with_reducible exact ih0 _ _ _ _ _ _ _ _ _ _ _ _ _ _ _ _ _ _ _ _ _ _ _ _ _ _ _ _ _ _ _ _ _ _ _ _ _ _ _ _ _ _ _ _ _)
      | (with_reducible exact rate_Idle.mono _ _ _ _ _ _)
      | (with_reducible exact rate_Sent.mono _ _ _ _ _ _ _ _ _ _ _ _ _ _ _ _ _ _ _)
      | (with_reducible exact LeO.refl _)
      | (with_reducible exact LeO.none _)
      | (with_reducible refine LeO.ite ?_ ?_)
      | (with_reducible refine LeO.bind ?_ (fun _ => ?_))
      | exact ih0 _ _ _ _ _ _ _ _ _ _ _ _ _ _ _ _ _ _ _ _ _ _ _ _ _ _ _ _ _ _ _ _ _ _ _ _ _ _ _ _ _ _ _ _ _
      | exact rate_Idle.mono _ _ _ _ _ _
      | exact rate_Sent.mono _ _ _ _ _ _ _ _ _ _ _ _ _ _ _ _ _ _ _
      | exact LeO.none _
      | refine LeO.ite ?_ ?_
      | refine LeO.bind ?_ (fun _ => ?_)
set_option maxHeartbeats 8000000 in
set_option maxRecDepth 100000 in
theorem tidewaylaw17_RateIdle.calls (k : Nat) (a0_0 : Int) (a0_1 : Int) (a0_2 : Int) (a0_3 : Int) (a1_0 : Int) (a1_1 : Int) (a1_2 : Bool) (a1_3 : Int) (a1_4 : Int) (a1_5 : Bool) (a1_6 : Bool) (a1_7 : Bool) (a1_8 : Int) (a1_9 : Int) (a1_10 : Int) (a1_11 : Bool) (a2 : Int) (a3 : Int) (r : Bool) (w : World) (h : tidewaylaw17_RateIdle.f k a0_0 a0_1 a0_2 a0_3 a1_0 a1_1 a1_2 a1_3 a1_4 a1_5 a1_6 a1_7 a1_8 a1_9 a1_10 a1_11 a2 a3 = some r) :
    Calls Try.prog 4 #[.agg #[.int .i64 a0_0, .int .i64 a0_1, .int .i64 a0_2, .int .i64 a0_3], .agg #[.int .i64 a1_0, .int .i64 a1_1, .bool a1_2, .int .i64 a1_3, .int .i64 a1_4, .bool a1_5, .bool a1_6, .bool a1_7, .int .i64 a1_8, .int .i64 a1_9, .int .i64 a1_10, .bool a1_11], .int .i64 a2, .int .i64 a3] w fun e w' => e = .returned (.bool r) ∧ Below w.heap.size w w' := by
  have hu23 := Try.underlying23
  have hu33 := Try.underlying33
  have HB := Aside0.mk (Below.refl w.heap.size w)
  have H : ((rate_Idle.f k a0_0 a0_1 a0_2 a0_3 a3).bind fun bt169 => ((rate_Sent.f k bt169.1 bt169.2.1 bt169.2.2.1 bt169.2.2.2.1 a1_0 a1_1 a1_2 a1_3 a1_4 a1_5 a1_6 a1_7 a1_8 a1_9 a1_10 a1_11 a2 false).bind fun bt175 => ((rate_Sent.f k a0_0 a0_1 a0_2 a0_3 a1_0 a1_1 a1_2 a1_3 a1_4 a1_5 a1_6 a1_7 a1_8 a1_9 a1_10 a1_11 a2 false).bind fun bt194 => (if bt169.2.2.2.2 = 0 then (if bt175.2.2.2.2.2.2.2.2.2.2.2.2.2.2.2.2 = 0 then (tidewaylaw17_RateIdle.j0 k (bt194.2.2.2.2.2.2.2.2.2.2.2.2.2.2.2.2 != 0) a0_0 a0_1 a0_2 a0_3 a1_0 a1_1 a1_2 a1_3 a1_4 a1_5 a1_6 a1_7 a1_8 a1_9 a1_10 a1_11 bt169.1 bt169.2.1 bt169.2.2.1 bt169.2.2.2.1 bt175.2.2.2.2.1 bt175.2.2.2.2.2.1 bt175.2.2.2.2.2.2.1 bt175.2.2.2.2.2.2.2.1 bt175.2.2.2.2.2.2.2.2.1 bt175.2.2.2.2.2.2.2.2.2.1 bt175.2.2.2.2.2.2.2.2.2.2.1 bt175.2.2.2.2.2.2.2.2.2.2.2.1 bt175.2.2.2.2.2.2.2.2.2.2.2.2.1 bt175.2.2.2.2.2.2.2.2.2.2.2.2.2.1 bt175.2.2.2.2.2.2.2.2.2.2.2.2.2.2.1 bt175.2.2.2.2.2.2.2.2.2.2.2.2.2.2.2.1 bt194.2.2.2.2.1 bt194.2.2.2.2.2.1 bt194.2.2.2.2.2.2.1 bt194.2.2.2.2.2.2.2.1 bt194.2.2.2.2.2.2.2.2.1 bt194.2.2.2.2.2.2.2.2.2.1 bt194.2.2.2.2.2.2.2.2.2.2.1 bt194.2.2.2.2.2.2.2.2.2.2.2.1 bt194.2.2.2.2.2.2.2.2.2.2.2.2.1 bt194.2.2.2.2.2.2.2.2.2.2.2.2.2.1 bt194.2.2.2.2.2.2.2.2.2.2.2.2.2.2.1 bt194.2.2.2.2.2.2.2.2.2.2.2.2.2.2.2.1) else (tidewaylaw17_RateIdle.j0 k true a0_0 a0_1 a0_2 a0_3 a1_0 a1_1 a1_2 a1_3 a1_4 a1_5 a1_6 a1_7 a1_8 a1_9 a1_10 a1_11 bt169.1 bt169.2.1 bt169.2.2.1 bt169.2.2.2.1 bt175.2.2.2.2.1 bt175.2.2.2.2.2.1 bt175.2.2.2.2.2.2.1 bt175.2.2.2.2.2.2.2.1 bt175.2.2.2.2.2.2.2.2.1 bt175.2.2.2.2.2.2.2.2.2.1 bt175.2.2.2.2.2.2.2.2.2.2.1 bt175.2.2.2.2.2.2.2.2.2.2.2.1 bt175.2.2.2.2.2.2.2.2.2.2.2.2.1 bt175.2.2.2.2.2.2.2.2.2.2.2.2.2.1 bt175.2.2.2.2.2.2.2.2.2.2.2.2.2.2.1 bt175.2.2.2.2.2.2.2.2.2.2.2.2.2.2.2.1 bt194.2.2.2.2.1 bt194.2.2.2.2.2.1 bt194.2.2.2.2.2.2.1 bt194.2.2.2.2.2.2.2.1 bt194.2.2.2.2.2.2.2.2.1 bt194.2.2.2.2.2.2.2.2.2.1 bt194.2.2.2.2.2.2.2.2.2.2.1 bt194.2.2.2.2.2.2.2.2.2.2.2.1 bt194.2.2.2.2.2.2.2.2.2.2.2.2.1 bt194.2.2.2.2.2.2.2.2.2.2.2.2.2.1 bt194.2.2.2.2.2.2.2.2.2.2.2.2.2.2.1 bt194.2.2.2.2.2.2.2.2.2.2.2.2.2.2.2.1)) else (tidewaylaw17_RateIdle.j0 k true a0_0 a0_1 a0_2 a0_3 a1_0 a1_1 a1_2 a1_3 a1_4 a1_5 a1_6 a1_7 a1_8 a1_9 a1_10 a1_11 bt169.1 bt169.2.1 bt169.2.2.1 bt169.2.2.2.1 bt175.2.2.2.2.1 bt175.2.2.2.2.2.1 bt175.2.2.2.2.2.2.1 bt175.2.2.2.2.2.2.2.1 bt175.2.2.2.2.2.2.2.2.1 bt175.2.2.2.2.2.2.2.2.2.1 bt175.2.2.2.2.2.2.2.2.2.2.1 bt175.2.2.2.2.2.2.2.2.2.2.2.1 bt175.2.2.2.2.2.2.2.2.2.2.2.2.1 bt175.2.2.2.2.2.2.2.2.2.2.2.2.2.1 bt175.2.2.2.2.2.2.2.2.2.2.2.2.2.2.1 bt175.2.2.2.2.2.2.2.2.2.2.2.2.2.2.2.1 bt194.2.2.2.2.1 bt194.2.2.2.2.2.1 bt194.2.2.2.2.2.2.1 bt194.2.2.2.2.2.2.2.1 bt194.2.2.2.2.2.2.2.2.1 bt194.2.2.2.2.2.2.2.2.2.1 bt194.2.2.2.2.2.2.2.2.2.2.1 bt194.2.2.2.2.2.2.2.2.2.2.2.1 bt194.2.2.2.2.2.2.2.2.2.2.2.2.1 bt194.2.2.2.2.2.2.2.2.2.2.2.2.2.1 bt194.2.2.2.2.2.2.2.2.2.2.2.2.2.2.1 bt194.2.2.2.2.2.2.2.2.2.2.2.2.2.2.2.1))))) = some r := h
  clear h
  replace H := Option.bind_eq_some_iff.mp H
  obtain ⟨⟨t169, t170, t171, t172, t173⟩, A50, H⟩ := H
  replace H : ((rate_Sent.f k t169 t170 t171 t172 a1_0 a1_1 a1_2 a1_3 a1_4 a1_5 a1_6 a1_7 a1_8 a1_9 a1_10 a1_11 a2 false).bind fun bt175 => ((rate_Sent.f k a0_0 a0_1 a0_2 a0_3 a1_0 a1_1 a1_2 a1_3 a1_4 a1_5 a1_6 a1_7 a1_8 a1_9 a1_10 a1_11 a2 false).bind fun bt194 => (if t173 = 0 then (if bt175.2.2.2.2.2.2.2.2.2.2.2.2.2.2.2.2 = 0 then (tidewaylaw17_RateIdle.j0 k (bt194.2.2.2.2.2.2.2.2.2.2.2.2.2.2.2.2 != 0) a0_0 a0_1 a0_2 a0_3 a1_0 a1_1 a1_2 a1_3 a1_4 a1_5 a1_6 a1_7 a1_8 a1_9 a1_10 a1_11 t169 t170 t171 t172 bt175.2.2.2.2.1 bt175.2.2.2.2.2.1 bt175.2.2.2.2.2.2.1 bt175.2.2.2.2.2.2.2.1 bt175.2.2.2.2.2.2.2.2.1 bt175.2.2.2.2.2.2.2.2.2.1 bt175.2.2.2.2.2.2.2.2.2.2.1 bt175.2.2.2.2.2.2.2.2.2.2.2.1 bt175.2.2.2.2.2.2.2.2.2.2.2.2.1 bt175.2.2.2.2.2.2.2.2.2.2.2.2.2.1 bt175.2.2.2.2.2.2.2.2.2.2.2.2.2.2.1 bt175.2.2.2.2.2.2.2.2.2.2.2.2.2.2.2.1 bt194.2.2.2.2.1 bt194.2.2.2.2.2.1 bt194.2.2.2.2.2.2.1 bt194.2.2.2.2.2.2.2.1 bt194.2.2.2.2.2.2.2.2.1 bt194.2.2.2.2.2.2.2.2.2.1 bt194.2.2.2.2.2.2.2.2.2.2.1 bt194.2.2.2.2.2.2.2.2.2.2.2.1 bt194.2.2.2.2.2.2.2.2.2.2.2.2.1 bt194.2.2.2.2.2.2.2.2.2.2.2.2.2.1 bt194.2.2.2.2.2.2.2.2.2.2.2.2.2.2.1 bt194.2.2.2.2.2.2.2.2.2.2.2.2.2.2.2.1) else (tidewaylaw17_RateIdle.j0 k true a0_0 a0_1 a0_2 a0_3 a1_0 a1_1 a1_2 a1_3 a1_4 a1_5 a1_6 a1_7 a1_8 a1_9 a1_10 a1_11 t169 t170 t171 t172 bt175.2.2.2.2.1 bt175.2.2.2.2.2.1 bt175.2.2.2.2.2.2.1 bt175.2.2.2.2.2.2.2.1 bt175.2.2.2.2.2.2.2.2.1 bt175.2.2.2.2.2.2.2.2.2.1 bt175.2.2.2.2.2.2.2.2.2.2.1 bt175.2.2.2.2.2.2.2.2.2.2.2.1 bt175.2.2.2.2.2.2.2.2.2.2.2.2.1 bt175.2.2.2.2.2.2.2.2.2.2.2.2.2.1 bt175.2.2.2.2.2.2.2.2.2.2.2.2.2.2.1 bt175.2.2.2.2.2.2.2.2.2.2.2.2.2.2.2.1 bt194.2.2.2.2.1 bt194.2.2.2.2.2.1 bt194.2.2.2.2.2.2.1 bt194.2.2.2.2.2.2.2.1 bt194.2.2.2.2.2.2.2.2.1 bt194.2.2.2.2.2.2.2.2.2.1 bt194.2.2.2.2.2.2.2.2.2.2.1 bt194.2.2.2.2.2.2.2.2.2.2.2.1 bt194.2.2.2.2.2.2.2.2.2.2.2.2.1 bt194.2.2.2.2.2.2.2.2.2.2.2.2.2.1 bt194.2.2.2.2.2.2.2.2.2.2.2.2.2.2.1 bt194.2.2.2.2.2.2.2.2.2.2.2.2.2.2.2.1)) else (tidewaylaw17_RateIdle.j0 k true a0_0 a0_1 a0_2 a0_3 a1_0 a1_1 a1_2 a1_3 a1_4 a1_5 a1_6 a1_7 a1_8 a1_9 a1_10 a1_11 t169 t170 t171 t172 bt175.2.2.2.2.1 bt175.2.2.2.2.2.1 bt175.2.2.2.2.2.2.1 bt175.2.2.2.2.2.2.2.1 bt175.2.2.2.2.2.2.2.2.1 bt175.2.2.2.2.2.2.2.2.2.1 bt175.2.2.2.2.2.2.2.2.2.2.1 bt175.2.2.2.2.2.2.2.2.2.2.2.1 bt175.2.2.2.2.2.2.2.2.2.2.2.2.1 bt175.2.2.2.2.2.2.2.2.2.2.2.2.2.1 bt175.2.2.2.2.2.2.2.2.2.2.2.2.2.2.1 bt175.2.2.2.2.2.2.2.2.2.2.2.2.2.2.2.1 bt194.2.2.2.2.1 bt194.2.2.2.2.2.1 bt194.2.2.2.2.2.2.1 bt194.2.2.2.2.2.2.2.1 bt194.2.2.2.2.2.2.2.2.1 bt194.2.2.2.2.2.2.2.2.2.1 bt194.2.2.2.2.2.2.2.2.2.2.1 bt194.2.2.2.2.2.2.2.2.2.2.2.1 bt194.2.2.2.2.2.2.2.2.2.2.2.2.1 bt194.2.2.2.2.2.2.2.2.2.2.2.2.2.1 bt194.2.2.2.2.2.2.2.2.2.2.2.2.2.2.1 bt194.2.2.2.2.2.2.2.2.2.2.2.2.2.2.2.1)))) = some r := H
  have A5 := Aside0.mk A50
  clear A50
  replace H := Option.bind_eq_some_iff.mp H
  obtain ⟨⟨t175, t176, t177, t178, t179, t180, t181, t182, t183, t184, t185, t186, t187, t188, t189, t190, t191⟩, A60, H⟩ := H
  replace H : ((rate_Sent.f k a0_0 a0_1 a0_2 a0_3 a1_0 a1_1 a1_2 a1_3 a1_4 a1_5 a1_6 a1_7 a1_8 a1_9 a1_10 a1_11 a2 false).bind fun bt194 => (if t173 = 0 then (if t191 = 0 then (tidewaylaw17_RateIdle.j0 k (bt194.2.2.2.2.2.2.2.2.2.2.2.2.2.2.2.2 != 0) a0_0 a0_1 a0_2 a0_3 a1_0 a1_1 a1_2 a1_3 a1_4 a1_5 a1_6 a1_7 a1_8 a1_9 a1_10 a1_11 t169 t170 t171 t172 t179 t180 t181 t182 t183 t184 t185 t186 t187 t188 t189 t190 bt194.2.2.2.2.1 bt194.2.2.2.2.2.1 bt194.2.2.2.2.2.2.1 bt194.2.2.2.2.2.2.2.1 bt194.2.2.2.2.2.2.2.2.1 bt194.2.2.2.2.2.2.2.2.2.1 bt194.2.2.2.2.2.2.2.2.2.2.1 bt194.2.2.2.2.2.2.2.2.2.2.2.1 bt194.2.2.2.2.2.2.2.2.2.2.2.2.1 bt194.2.2.2.2.2.2.2.2.2.2.2.2.2.1 bt194.2.2.2.2.2.2.2.2.2.2.2.2.2.2.1 bt194.2.2.2.2.2.2.2.2.2.2.2.2.2.2.2.1) else (tidewaylaw17_RateIdle.j0 k true a0_0 a0_1 a0_2 a0_3 a1_0 a1_1 a1_2 a1_3 a1_4 a1_5 a1_6 a1_7 a1_8 a1_9 a1_10 a1_11 t169 t170 t171 t172 t179 t180 t181 t182 t183 t184 t185 t186 t187 t188 t189 t190 bt194.2.2.2.2.1 bt194.2.2.2.2.2.1 bt194.2.2.2.2.2.2.1 bt194.2.2.2.2.2.2.2.1 bt194.2.2.2.2.2.2.2.2.1 bt194.2.2.2.2.2.2.2.2.2.1 bt194.2.2.2.2.2.2.2.2.2.2.1 bt194.2.2.2.2.2.2.2.2.2.2.2.1 bt194.2.2.2.2.2.2.2.2.2.2.2.2.1 bt194.2.2.2.2.2.2.2.2.2.2.2.2.2.1 bt194.2.2.2.2.2.2.2.2.2.2.2.2.2.2.1 bt194.2.2.2.2.2.2.2.2.2.2.2.2.2.2.2.1)) else (tidewaylaw17_RateIdle.j0 k true a0_0 a0_1 a0_2 a0_3 a1_0 a1_1 a1_2 a1_3 a1_4 a1_5 a1_6 a1_7 a1_8 a1_9 a1_10 a1_11 t169 t170 t171 t172 t179 t180 t181 t182 t183 t184 t185 t186 t187 t188 t189 t190 bt194.2.2.2.2.1 bt194.2.2.2.2.2.1 bt194.2.2.2.2.2.2.1 bt194.2.2.2.2.2.2.2.1 bt194.2.2.2.2.2.2.2.2.1 bt194.2.2.2.2.2.2.2.2.2.1 bt194.2.2.2.2.2.2.2.2.2.2.1 bt194.2.2.2.2.2.2.2.2.2.2.2.1 bt194.2.2.2.2.2.2.2.2.2.2.2.2.1 bt194.2.2.2.2.2.2.2.2.2.2.2.2.2.1 bt194.2.2.2.2.2.2.2.2.2.2.2.2.2.2.1 bt194.2.2.2.2.2.2.2.2.2.2.2.2.2.2.2.1))) = some r := H
  have A6 := Aside0.mk A60
  clear A60
  replace H := Option.bind_eq_some_iff.mp H
  obtain ⟨⟨t194, t195, t196, t197, t198, t199, t200, t201, t202, t203, t204, t205, t206, t207, t208, t209, t210⟩, A70, H⟩ := H
  replace H : (if t173 = 0 then (if t191 = 0 then (tidewaylaw17_RateIdle.j0 k (t210 != 0) a0_0 a0_1 a0_2 a0_3 a1_0 a1_1 a1_2 a1_3 a1_4 a1_5 a1_6 a1_7 a1_8 a1_9 a1_10 a1_11 t169 t170 t171 t172 t179 t180 t181 t182 t183 t184 t185 t186 t187 t188 t189 t190 t198 t199 t200 t201 t202 t203 t204 t205 t206 t207 t208 t209) else (tidewaylaw17_RateIdle.j0 k true a0_0 a0_1 a0_2 a0_3 a1_0 a1_1 a1_2 a1_3 a1_4 a1_5 a1_6 a1_7 a1_8 a1_9 a1_10 a1_11 t169 t170 t171 t172 t179 t180 t181 t182 t183 t184 t185 t186 t187 t188 t189 t190 t198 t199 t200 t201 t202 t203 t204 t205 t206 t207 t208 t209)) else (tidewaylaw17_RateIdle.j0 k true a0_0 a0_1 a0_2 a0_3 a1_0 a1_1 a1_2 a1_3 a1_4 a1_5 a1_6 a1_7 a1_8 a1_9 a1_10 a1_11 t169 t170 t171 t172 t179 t180 t181 t182 t183 t184 t185 t186 t187 t188 t189 t190 t198 t199 t200 t201 t202 t203 t204 t205 t206 t207 t208 t209)) = some r := H
  have A7 := Aside0.mk A70
  clear A70
  have HC8 := Aside0.mk H
  clear H
  go_enter Try.func4, Try.ntmps4
  go_upto_region 4 with (first | ((with_reducible refine gate_dst (N := 4) rfl ?_); refine box_event ?hg (N := 4) ?hd (cs := #[.int .i64 a0_0, .int .i64 a0_1, .int .i64 a0_2, .int .i64 a0_3]) (t := 23) ?hr ?_; (case hd => rfl); (case hg => rfl); (case hr => first | (go_simp; done) | (go_simp; rfl)); intro gb167 hg w9 hbox hb; have n0_ := Aside0.mk (below_step (by repeat (first | (with_reducible first | exact HB.out | apply below_alloc | apply pw_below_drewN | apply below_drew1) | exact HB.out | exact Below.refl _ _)) hb); have n1_ := Aside0.mk (hbox); have n2_ := Aside0.mk ((by rw [hg]; exact (below_size (by repeat (first | (with_reducible first | exact HB.out | apply below_alloc | apply pw_below_drewN | apply below_drew1) | exact HB.out | exact Below.refl _ _))) : w.heap.size ≤ gb167)); have n3_ := Aside0.mk ((by rw [hg]; exact (below_size (by repeat (first | (with_reducible first | exact HB.out | apply below_alloc | apply pw_below_drewN | apply below_drew1) | exact HB.out | exact Below.refl _ _))) : w.heap.size ≤ gb167)); clear HB; have HB := n0_; have BK167 := n1_; have GW167 := n2_; have GE167 := n3_; clear n0_ n1_ n2_ n3_; clear hb hbox hg) | ((with_reducible refine gate_dst (N := 5) rfl ?_); refine box_event ?hg (N := 5) ?hd (cs := #[.int .i64 a1_0, .int .i64 a1_1, .bool a1_2, .int .i64 a1_3, .int .i64 a1_4, .bool a1_5, .bool a1_6, .bool a1_7, .int .i64 a1_8, .int .i64 a1_9, .int .i64 a1_10, .bool a1_11]) (t := 33) ?hr ?_; (case hd => rfl); (case hg => rfl); (case hr => first | (go_simp; done) | (go_simp; rfl)); intro gb168 hg w10 hbox hb; have n0_ := Aside0.mk (blk_below (g := gb167) (o := .cells #[.int .i64 a0_0, .int .i64 a0_1, .int .i64 a0_2, .int .i64 a0_3] 23 (0, 0)) (by (with_reducible repeat (first | refine blk_drewN ?_ _ | refine blk_drew ?_ | refine blk_alloc ?_ _)); exact BK167.out) hb); have n1_ := Aside0.mk (below_step (by repeat (first | (with_reducible first | exact HB.out | apply below_alloc | apply pw_below_drewN | apply below_drew1 | refine below_set ?_ GE167.out) | exact HB.out)) hb); have n2_ := Aside0.mk (hbox); have n3_ := Aside0.mk ((by rw [hg]; exact (below_size (by repeat (first | (with_reducible first | exact HB.out | apply below_alloc | apply pw_below_drewN | apply below_drew1 | refine below_set ?_ GE167.out) | exact HB.out))) : w.heap.size ≤ gb168)); have n4_ := Aside0.mk ((by rw [hg]; exact (below_size (by repeat (first | (with_reducible first | exact HB.out | apply below_alloc | apply pw_below_drewN | apply below_drew1 | refine below_set ?_ GE167.out) | exact HB.out))) : w.heap.size ≤ gb168)); have n5_ := Aside0.mk ((by rw [hg]; exact Nat.ne_of_lt (blk_lt (g := gb167) (o := .cells #[.int .i64 a0_0, .int .i64 a0_1, .int .i64 a0_2, .int .i64 a0_3] 23 (0, 0)) (by (with_reducible repeat (first | refine blk_drewN ?_ _ | refine blk_drew ?_ | refine blk_alloc ?_ _)); exact BK167.out)) : gb167 ≠ gb168)); have n6_ := Aside0.mk ((by rw [hg]; exact Nat.ne_of_gt (blk_lt (g := gb167) (o := .cells #[.int .i64 a0_0, .int .i64 a0_1, .int .i64 a0_2, .int .i64 a0_3] 23 (0, 0)) (by (with_reducible repeat (first | refine blk_drewN ?_ _ | refine blk_drew ?_ | refine blk_alloc ?_ _)); exact BK167.out)) : gb168 ≠ gb167)); clear BK167; clear HB; have BK167 := n0_; have HB := n1_; have BK168 := n2_; have GW168 := n3_; have GE168 := n4_; have NB167_168 := n5_; have NB168_167 := n6_; clear n0_ n1_ n2_ n3_ n4_ n5_ n6_; clear hb hbox hg; have hnb11 := NB167_168.out; have hnc11 := NB168_167.out; have hcz12_0 : w10.cell? ⟨gb167, 0, none⟩ = some (.int .i64 a0_0) := (blk_cell BK167.out 0).trans rfl; have hcz12_1 : w10.cell? ⟨gb167, 1, none⟩ = some (.int .i64 a0_1) := (blk_cell BK167.out 1).trans rfl; have hcz12_2 : w10.cell? ⟨gb167, 2, none⟩ = some (.int .i64 a0_2) := (blk_cell BK167.out 2).trans rfl; have hcz12_3 : w10.cell? ⟨gb167, 3, none⟩ = some (.int .i64 a0_3) := (blk_cell BK167.out 3).trans rfl; have hfz12_0 := blk_frozen BK167.out 0; have hfz12_1 := blk_frozen BK167.out 1; have hfz12_2 := blk_frozen BK167.out 2; have hfz12_3 := blk_frozen BK167.out 3) | ((with_reducible refine gate_callee (f := 9) rfl ?_); refine goesL_ (some 20) rfl rfl Try.func9 (by kernel_rfl) rfl #[.agg #[.int .i64 a0_0, .int .i64 a0_1, .int .i64 a0_2, .int .i64 a0_3], .int .i64 a3] rfl (by (try simp only [List.map_toArray, List.map_cons, List.map_nil]); first | done | rfl | (simp only [List.length_drop, List.length_take]; rfl)) ?_; (with_reducible refine (rate_Idle.calls k a0_0 a0_1 a0_2 a0_3 a3 t169 t170 t171 t172 t173 _ A5.out).mono ?_); rintro e w13 ⟨rfl, hb⟩; refine ⟨_, rfl, ?_⟩; have n0_ := Aside0.mk (blk_below (g := gb167) (o := .cells #[.int .i64 a0_0, .int .i64 a0_1, .int .i64 a0_2, .int .i64 a0_3] 23 (0, 0)) (by (with_reducible repeat (first | refine blk_drewN ?_ _ | refine blk_drew ?_ | refine blk_alloc ?_ _)); exact BK167.out) hb); have n1_ := Aside0.mk (blk_below (g := gb168) (o := .cells #[.int .i64 a1_0, .int .i64 a1_1, .bool a1_2, .int .i64 a1_3, .int .i64 a1_4, .bool a1_5, .bool a1_6, .bool a1_7, .int .i64 a1_8, .int .i64 a1_9, .int .i64 a1_10, .bool a1_11] 33 (0, 0)) (by (with_reducible repeat (first | refine blk_drewN ?_ _ | refine blk_drew ?_ | refine blk_alloc ?_ _)); exact BK168.out) hb); have n2_ := Aside0.mk (below_step (by repeat (first | (with_reducible first | exact HB.out | apply below_alloc | apply pw_below_drewN | apply below_drew1 | refine below_set ?_ GE167.out | refine below_set ?_ GE168.out) | exact HB.out)) hb); clear BK167; clear BK168; clear HB; have BK167 := n0_; have BK168 := n1_; have HB := n2_; clear n0_ n1_ n2_; (try clear hb); (try clear hb2); (try clear hk); (try clear hi)) | ((with_reducible refine gate_dst (N := 9) rfl ?_); refine box_event ?hg (N := 9) ?hd (cs := #[.int .i64 0, .int .i64 0, .int .i64 0, .int .i64 0]) (t := 23) ?hr ?_; (case hd => rfl); (case hg => rfl); (case hr => first | (go_simp; done) | (go_simp; rfl)); intro gb174 hg w14 hbox hb; have n0_ := Aside0.mk (blk_below (g := gb167) (o := .cells #[.int .i64 a0_0, .int .i64 a0_1, .int .i64 a0_2, .int .i64 a0_3] 23 (0, 0)) (by (with_reducible repeat (first | refine blk_drewN ?_ _ | refine blk_drew ?_ | refine blk_alloc ?_ _)); exact BK167.out) hb); have n1_ := Aside0.mk (blk_below (g := gb168) (o := .cells #[.int .i64 a1_0, .int .i64 a1_1, .bool a1_2, .int .i64 a1_3, .int .i64 a1_4, .bool a1_5, .bool a1_6, .bool a1_7, .int .i64 a1_8, .int .i64 a1_9, .int .i64 a1_10, .bool a1_11] 33 (0, 0)) (by (with_reducible repeat (first | refine blk_drewN ?_ _ | refine blk_drew ?_ | refine blk_alloc ?_ _)); exact BK168.out) hb); have n2_ := Aside0.mk (below_step (by repeat (first | (with_reducible first | exact HB.out | apply below_alloc | apply pw_below_drewN | apply below_drew1 | refine below_set ?_ GE167.out | refine below_set ?_ GE168.out) | exact HB.out)) hb); have n3_ := Aside0.mk (hbox); have n4_ := Aside0.mk ((by rw [hg]; exact (below_size (by repeat (first | (with_reducible first | exact HB.out | apply below_alloc | apply pw_below_drewN | apply below_drew1 | refine below_set ?_ GE167.out | refine below_set ?_ GE168.out) | exact HB.out))) : w.heap.size ≤ gb174)); have n5_ := Aside0.mk ((by rw [hg]; exact (below_size (by repeat (first | (with_reducible first | exact HB.out | apply below_alloc | apply pw_below_drewN | apply below_drew1 | refine below_set ?_ GE167.out | refine below_set ?_ GE168.out) | exact HB.out))) : w.heap.size ≤ gb174)); have n6_ := Aside0.mk ((by rw [hg]; exact Nat.ne_of_lt (blk_lt (g := gb167) (o := .cells #[.int .i64 a0_0, .int .i64 a0_1, .int .i64 a0_2, .int .i64 a0_3] 23 (0, 0)) (by (with_reducible repeat (first | refine blk_drewN ?_ _ | refine blk_drew ?_ | refine blk_alloc ?_ _)); exact BK167.out)) : gb167 ≠ gb174)); have n7_ := Aside0.mk ((by rw [hg]; exact Nat.ne_of_gt (blk_lt (g := gb167) (o := .cells #[.int .i64 a0_0, .int .i64 a0_1, .int .i64 a0_2, .int .i64 a0_3] 23 (0, 0)) (by (with_reducible repeat (first | refine blk_drewN ?_ _ | refine blk_drew ?_ | refine blk_alloc ?_ _)); exact BK167.out)) : gb174 ≠ gb167)); have n8_ := Aside0.mk ((by rw [hg]; exact Nat.ne_of_lt (blk_lt (g := gb168) (o := .cells #[.int .i64 a1_0, .int .i64 a1_1, .bool a1_2, .int .i64 a1_3, .int .i64 a1_4, .bool a1_5, .bool a1_6, .bool a1_7, .int .i64 a1_8, .int .i64 a1_9, .int .i64 a1_10, .bool a1_11] 33 (0, 0)) (by (with_reducible repeat (first | refine blk_drewN ?_ _ | refine blk_drew ?_ | refine blk_alloc ?_ _)); exact BK168.out)) : gb168 ≠ gb174)); have n9_ := Aside0.mk ((by rw [hg]; exact Nat.ne_of_gt (blk_lt (g := gb168) (o := .cells #[.int .i64 a1_0, .int .i64 a1_1, .bool a1_2, .int .i64 a1_3, .int .i64 a1_4, .bool a1_5, .bool a1_6, .bool a1_7, .int .i64 a1_8, .int .i64 a1_9, .int .i64 a1_10, .bool a1_11] 33 (0, 0)) (by (with_reducible repeat (first | refine blk_drewN ?_ _ | refine blk_drew ?_ | refine blk_alloc ?_ _)); exact BK168.out)) : gb174 ≠ gb168)); clear BK167; clear BK168; clear HB; have BK167 := n0_; have BK168 := n1_; have HB := n2_; have BK174 := n3_; have GW174 := n4_; have GE174 := n5_; have NB167_174 := n6_; have NB174_167 := n7_; have NB168_174 := n8_; have NB174_168 := n9_; clear n0_ n1_ n2_ n3_ n4_ n5_ n6_ n7_ n8_ n9_; clear hb hbox hg; have hnb15 := NB174_167.out; have hnc15 := NB167_174.out; have hnb16 := NB174_168.out; have hnc16 := NB168_174.out; have hcz17_0 : w14.cell? ⟨gb174, 0, none⟩ = some (.int .i64 0) := (blk_cell BK174.out 0).trans rfl; have hcz17_1 : w14.cell? ⟨gb174, 1, none⟩ = some (.int .i64 0) := (blk_cell BK174.out 1).trans rfl; have hcz17_2 : w14.cell? ⟨gb174, 2, none⟩ = some (.int .i64 0) := (blk_cell BK174.out 2).trans rfl; have hcz17_3 : w14.cell? ⟨gb174, 3, none⟩ = some (.int .i64 0) := (blk_cell BK174.out 3).trans rfl; have hfz17_0 := blk_frozen BK174.out 0; have hfz17_1 := blk_frozen BK174.out 1; have hfz17_2 := blk_frozen BK174.out 2; have hfz17_3 := blk_frozen BK174.out 3; have hcz18_0 : w14.cell? ⟨gb168, 0, none⟩ = some (.int .i64 a1_0) := (blk_cell BK168.out 0).trans rfl; have hcz18_1 : w14.cell? ⟨gb168, 1, none⟩ = some (.int .i64 a1_1) := (blk_cell BK168.out 1).trans rfl; have hcz18_2 : w14.cell? ⟨gb168, 2, none⟩ = some (.bool a1_2) := (blk_cell BK168.out 2).trans rfl; have hcz18_3 : w14.cell? ⟨gb168, 3, none⟩ = some (.int .i64 a1_3) := (blk_cell BK168.out 3).trans rfl; have hcz18_4 : w14.cell? ⟨gb168, 4, none⟩ = some (.int .i64 a1_4) := (blk_cell BK168.out 4).trans rfl; have hcz18_5 : w14.cell? ⟨gb168, 5, none⟩ = some (.bool a1_5) := (blk_cell BK168.out 5).trans rfl; have hcz18_6 : w14.cell? ⟨gb168, 6, none⟩ = some (.bool a1_6) := (blk_cell BK168.out 6).trans rfl; have hcz18_7 : w14.cell? ⟨gb168, 7, none⟩ = some (.bool a1_7) := (blk_cell BK168.out 7).trans rfl; have hcz18_8 : w14.cell? ⟨gb168, 8, none⟩ = some (.int .i64 a1_8) := (blk_cell BK168.out 8).trans rfl; have hcz18_9 : w14.cell? ⟨gb168, 9, none⟩ = some (.int .i64 a1_9) := (blk_cell BK168.out 9).trans rfl; have hcz18_10 : w14.cell? ⟨gb168, 10, none⟩ = some (.int .i64 a1_10) := (blk_cell BK168.out 10).trans rfl; have hcz18_11 : w14.cell? ⟨gb168, 11, none⟩ = some (.bool a1_11) := (blk_cell BK168.out 11).trans rfl; have hfz18_0 := blk_frozen BK168.out 0; have hfz18_1 := blk_frozen BK168.out 1; have hfz18_2 := blk_frozen BK168.out 2; have hfz18_3 := blk_frozen BK168.out 3; have hfz18_4 := blk_frozen BK168.out 4; have hfz18_5 := blk_frozen BK168.out 5; have hfz18_6 := blk_frozen BK168.out 6; have hfz18_7 := blk_frozen BK168.out 7; have hfz18_8 := blk_frozen BK168.out 8; have hfz18_9 := blk_frozen BK168.out 9; have hfz18_10 := blk_frozen BK168.out 10; have hfz18_11 := blk_frozen BK168.out 11) | ((with_reducible refine gate_callee (f := 10) rfl ?_); refine goesL_ (some 27) rfl rfl Try.func10 (by kernel_rfl) rfl #[.agg #[.int .i64 t169, .int .i64 t170, .int .i64 t171, .int .i64 t172], .agg #[.int .i64 a1_0, .int .i64 a1_1, .bool a1_2, .int .i64 a1_3, .int .i64 a1_4, .bool a1_5, .bool a1_6, .bool a1_7, .int .i64 a1_8, .int .i64 a1_9, .int .i64 a1_10, .bool a1_11], .int .i64 a2, .bool false] rfl (by (try simp only [List.map_toArray, List.map_cons, List.map_nil]); first | done | rfl | (simp only [List.length_drop, List.length_take]; rfl)) ?_; (with_reducible refine (rate_Sent.calls k t169 t170 t171 t172 a1_0 a1_1 a1_2 a1_3 a1_4 a1_5 a1_6 a1_7 a1_8 a1_9 a1_10 a1_11 a2 false t175 t176 t177 t178 t179 t180 t181 t182 t183 t184 t185 t186 t187 t188 t189 t190 t191 _ A6.out).mono ?_); rintro e w19 ⟨rfl, hb⟩; refine ⟨_, rfl, ?_⟩; have n0_ := Aside0.mk (blk_below (g := gb167) (o := .cells #[.int .i64 a0_0, .int .i64 a0_1, .int .i64 a0_2, .int .i64 a0_3] 23 (0, 0)) (by (with_reducible repeat (first | refine blk_drewN ?_ _ | refine blk_drew ?_ | refine blk_alloc ?_ _)); refine blk_far ?_ NB167_174.out _; (with_reducible repeat (first | refine blk_drewN ?_ _ | refine blk_drew ?_ | refine blk_alloc ?_ _)); refine blk_far ?_ NB167_174.out _; (with_reducible repeat (first | refine blk_drewN ?_ _ | refine blk_drew ?_ | refine blk_alloc ?_ _)); refine blk_far ?_ NB167_174.out _; (with_reducible repeat (first | refine blk_drewN ?_ _ | refine blk_drew ?_ | refine blk_alloc ?_ _)); refine blk_far ?_ NB167_174.out _; (with_reducible repeat (first | refine blk_drewN ?_ _ | refine blk_drew ?_ | refine blk_alloc ?_ _)); exact BK167.out) hb); have n1_ := Aside0.mk (blk_below (g := gb168) (o := .cells #[.int .i64 a1_0, .int .i64 a1_1, .bool a1_2, .int .i64 a1_3, .int .i64 a1_4, .bool a1_5, .bool a1_6, .bool a1_7, .int .i64 a1_8, .int .i64 a1_9, .int .i64 a1_10, .bool a1_11] 33 (0, 0)) (by (with_reducible repeat (first | refine blk_drewN ?_ _ | refine blk_drew ?_ | refine blk_alloc ?_ _)); refine blk_far ?_ NB168_174.out _; (with_reducible repeat (first | refine blk_drewN ?_ _ | refine blk_drew ?_ | refine blk_alloc ?_ _)); refine blk_far ?_ NB168_174.out _; (with_reducible repeat (first | refine blk_drewN ?_ _ | refine blk_drew ?_ | refine blk_alloc ?_ _)); refine blk_far ?_ NB168_174.out _; (with_reducible repeat (first | refine blk_drewN ?_ _ | refine blk_drew ?_ | refine blk_alloc ?_ _)); refine blk_far ?_ NB168_174.out _; (with_reducible repeat (first | refine blk_drewN ?_ _ | refine blk_drew ?_ | refine blk_alloc ?_ _)); exact BK168.out) hb); have n2_ := Aside0.mk (blk_below (g := gb174) (o := .cells #[.int .i64 t169, .int .i64 t170, .int .i64 t171, .int .i64 t172] 23 (0, 0)) (by (with_reducible repeat (first | refine blk_drewN ?_ _ | refine blk_drew ?_ | refine blk_alloc ?_ _)); refine blk_put (cs := #[.int .i64 t169, .int .i64 t170, .int .i64 t171, .int .i64 0]) ?_ 3 _ rfl; (with_reducible repeat (first | refine blk_drewN ?_ _ | refine blk_drew ?_ | refine blk_alloc ?_ _)); refine blk_put (cs := #[.int .i64 t169, .int .i64 t170, .int .i64 0, .int .i64 0]) ?_ 2 _ rfl; (with_reducible repeat (first | refine blk_drewN ?_ _ | refine blk_drew ?_ | refine blk_alloc ?_ _)); refine blk_put (cs := #[.int .i64 t169, .int .i64 0, .int .i64 0, .int .i64 0]) ?_ 1 _ rfl; (with_reducible repeat (first | refine blk_drewN ?_ _ | refine blk_drew ?_ | refine blk_alloc ?_ _)); refine blk_put (cs := #[.int .i64 0, .int .i64 0, .int .i64 0, .int .i64 0]) ?_ 0 _ rfl; (with_reducible repeat (first | refine blk_drewN ?_ _ | refine blk_drew ?_ | refine blk_alloc ?_ _)); exact BK174.out) hb); have n3_ := Aside0.mk (below_step (by repeat (first | (with_reducible first | exact HB.out | apply below_alloc | apply pw_below_drewN | apply below_drew1 | refine below_set ?_ GE167.out | refine below_set ?_ GE168.out | refine below_set ?_ GE174.out) | exact HB.out)) hb); clear BK167; clear BK168; clear BK174; clear HB; have BK167 := n0_; have BK168 := n1_; have BK174 := n2_; have HB := n3_; clear n0_ n1_ n2_ n3_; (try clear hb); (try clear hb2); (try clear hk); (try clear hi)) | ((with_reducible refine gate_dst (N := 11) rfl ?_); refine box_event ?hg (N := 11) ?hd (cs := #[.int .i64 0, .int .i64 0, .int .i64 0, .int .i64 0]) (t := 23) ?hr ?_; (case hd => rfl); (case hg => rfl); (case hr => first | (go_simp; done) | (go_simp; rfl)); intro gb192 hg w20 hbox hb; have n0_ := Aside0.mk (blk_below (g := gb167) (o := .cells #[.int .i64 a0_0, .int .i64 a0_1, .int .i64 a0_2, .int .i64 a0_3] 23 (0, 0)) (by (with_reducible repeat (first | refine blk_drewN ?_ _ | refine blk_drew ?_ | refine blk_alloc ?_ _)); exact BK167.out) hb); have n1_ := Aside0.mk (blk_below (g := gb168) (o := .cells #[.int .i64 a1_0, .int .i64 a1_1, .bool a1_2, .int .i64 a1_3, .int .i64 a1_4, .bool a1_5, .bool a1_6, .bool a1_7, .int .i64 a1_8, .int .i64 a1_9, .int .i64 a1_10, .bool a1_11] 33 (0, 0)) (by (with_reducible repeat (first | refine blk_drewN ?_ _ | refine blk_drew ?_ | refine blk_alloc ?_ _)); exact BK168.out) hb); have n2_ := Aside0.mk (blk_below (g := gb174) (o := .cells #[.int .i64 t169, .int .i64 t170, .int .i64 t171, .int .i64 t172] 23 (0, 0)) (by (with_reducible repeat (first | refine blk_drewN ?_ _ | refine blk_drew ?_ | refine blk_alloc ?_ _)); exact BK174.out) hb); have n3_ := Aside0.mk (below_step (by repeat (first | (with_reducible first | exact HB.out | apply below_alloc | apply pw_below_drewN | apply below_drew1 | refine below_set ?_ GE167.out | refine below_set ?_ GE168.out | refine below_set ?_ GE174.out) | exact HB.out)) hb); have n4_ := Aside0.mk (hbox); have n5_ := Aside0.mk ((by rw [hg]; exact (below_size (by repeat (first | (with_reducible first | exact HB.out | apply below_alloc | apply pw_below_drewN | apply below_drew1 | refine below_set ?_ GE167.out | refine below_set ?_ GE168.out | refine below_set ?_ GE174.out) | exact HB.out))) : w.heap.size ≤ gb192)); have n6_ := Aside0.mk ((by rw [hg]; exact (below_size (by repeat (first | (with_reducible first | exact HB.out | apply below_alloc | apply pw_below_drewN | apply below_drew1 | refine below_set ?_ GE167.out | refine below_set ?_ GE168.out | refine below_set ?_ GE174.out) | exact HB.out))) : w.heap.size ≤ gb192)); have n7_ := Aside0.mk ((by rw [hg]; exact Nat.ne_of_lt (blk_lt (g := gb167) (o := .cells #[.int .i64 a0_0, .int .i64 a0_1, .int .i64 a0_2, .int .i64 a0_3] 23 (0, 0)) (by (with_reducible repeat (first | refine blk_drewN ?_ _ | refine blk_drew ?_ | refine blk_alloc ?_ _)); exact BK167.out)) : gb167 ≠ gb192)); have n8_ := Aside0.mk ((by rw [hg]; exact Nat.ne_of_gt (blk_lt (g := gb167) (o := .cells #[.int .i64 a0_0, .int .i64 a0_1, .int .i64 a0_2, .int .i64 a0_3] 23 (0, 0)) (by (with_reducible repeat (first | refine blk_drewN ?_ _ | refine blk_drew ?_ | refine blk_alloc ?_ _)); exact BK167.out)) : gb192 ≠ gb167)); have n9_ := Aside0.mk ((by rw [hg]; exact Nat.ne_of_lt (blk_lt (g := gb168) (o := .cells #[.int .i64 a1_0, .int .i64 a1_1, .bool a1_2, .int .i64 a1_3, .int .i64 a1_4, .bool a1_5, .bool a1_6, .bool a1_7, .int .i64 a1_8, .int .i64 a1_9, .int .i64 a1_10, .bool a1_11] 33 (0, 0)) (by (with_reducible repeat (first | refine blk_drewN ?_ _ | refine blk_drew ?_ | refine blk_alloc ?_ _)); exact BK168.out)) : gb168 ≠ gb192)); have n10_ := Aside0.mk ((by rw [hg]; exact Nat.ne_of_gt (blk_lt (g := gb168) (o := .cells #[.int .i64 a1_0, .int .i64 a1_1, .bool a1_2, .int .i64 a1_3, .int .i64 a1_4, .bool a1_5, .bool a1_6, .bool a1_7, .int .i64 a1_8, .int .i64 a1_9, .int .i64 a1_10, .bool a1_11] 33 (0, 0)) (by (with_reducible repeat (first | refine blk_drewN ?_ _ | refine blk_drew ?_ | refine blk_alloc ?_ _)); exact BK168.out)) : gb192 ≠ gb168)); have n11_ := Aside0.mk ((by rw [hg]; exact Nat.ne_of_lt (blk_lt (g := gb174) (o := .cells #[.int .i64 t169, .int .i64 t170, .int .i64 t171, .int .i64 t172] 23 (0, 0)) (by (with_reducible repeat (first | refine blk_drewN ?_ _ | refine blk_drew ?_ | refine blk_alloc ?_ _)); exact BK174.out)) : gb174 ≠ gb192)); have n12_ := Aside0.mk ((by rw [hg]; exact Nat.ne_of_gt (blk_lt (g := gb174) (o := .cells #[.int .i64 t169, .int .i64 t170, .int .i64 t171, .int .i64 t172] 23 (0, 0)) (by (with_reducible repeat (first | refine blk_drewN ?_ _ | refine blk_drew ?_ | refine blk_alloc ?_ _)); exact BK174.out)) : gb192 ≠ gb174)); clear BK167; clear BK168; clear BK174; clear HB; have BK167 := n0_; have BK168 := n1_; have BK174 := n2_; have HB := n3_; have BK192 := n4_; have GW192 := n5_; have GE192 := n6_; have NB167_192 := n7_; have NB192_167 := n8_; have NB168_192 := n9_; have NB192_168 := n10_; have NB174_192 := n11_; have NB192_174 := n12_; clear n0_ n1_ n2_ n3_ n4_ n5_ n6_ n7_ n8_ n9_ n10_ n11_ n12_; clear hb hbox hg) | ((with_reducible refine gate_dst (N := 12) rfl ?_); refine box_event ?hg (N := 12) ?hd (cs := #[.int .i64 0, .int .i64 0, .bool false, .int .i64 0, .int .i64 0, .bool false, .bool false, .bool false, .int .i64 0, .int .i64 0, .int .i64 0, .bool false]) (t := 33) ?hr ?_; (case hd => rfl); (case hg => rfl); (case hr => first | (go_simp; done) | (go_simp; rfl)); intro gb193 hg w21 hbox hb; have n0_ := Aside0.mk (blk_below (g := gb167) (o := .cells #[.int .i64 a0_0, .int .i64 a0_1, .int .i64 a0_2, .int .i64 a0_3] 23 (0, 0)) (by (with_reducible repeat (first | refine blk_drewN ?_ _ | refine blk_drew ?_ | refine blk_alloc ?_ _)); exact BK167.out) hb); have n1_ := Aside0.mk (blk_below (g := gb168) (o := .cells #[.int .i64 a1_0, .int .i64 a1_1, .bool a1_2, .int .i64 a1_3, .int .i64 a1_4, .bool a1_5, .bool a1_6, .bool a1_7, .int .i64 a1_8, .int .i64 a1_9, .int .i64 a1_10, .bool a1_11] 33 (0, 0)) (by (with_reducible repeat (first | refine blk_drewN ?_ _ | refine blk_drew ?_ | refine blk_alloc ?_ _)); exact BK168.out) hb); have n2_ := Aside0.mk (blk_below (g := gb174) (o := .cells #[.int .i64 t169, .int .i64 t170, .int .i64 t171, .int .i64 t172] 23 (0, 0)) (by (with_reducible repeat (first | refine blk_drewN ?_ _ | refine blk_drew ?_ | refine blk_alloc ?_ _)); exact BK174.out) hb); have n3_ := Aside0.mk (blk_below (g := gb192) (o := .cells #[.int .i64 0, .int .i64 0, .int .i64 0, .int .i64 0] 23 (0, 0)) (by (with_reducible repeat (first | refine blk_drewN ?_ _ | refine blk_drew ?_ | refine blk_alloc ?_ _)); exact BK192.out) hb); have n4_ := Aside0.mk (below_step (by repeat (first | (with_reducible first | exact HB.out | apply below_alloc | apply pw_below_drewN | apply below_drew1 | refine below_set ?_ GE167.out | refine below_set ?_ GE168.out | refine below_set ?_ GE174.out | refine below_set ?_ GE192.out) | exact HB.out)) hb); have n5_ := Aside0.mk (hbox); have n6_ := Aside0.mk ((by rw [hg]; exact (below_size (by repeat (first | (with_reducible first | exact HB.out | apply below_alloc | apply pw_below_drewN | apply below_drew1 | refine below_set ?_ GE167.out | refine below_set ?_ GE168.out | refine below_set ?_ GE174.out | refine below_set ?_ GE192.out) | exact HB.out))) : w.heap.size ≤ gb193)); have n7_ := Aside0.mk ((by rw [hg]; exact (below_size (by repeat (first | (with_reducible first | exact HB.out | apply below_alloc | apply pw_below_drewN | apply below_drew1 | refine below_set ?_ GE167.out | refine below_set ?_ GE168.out | refine below_set ?_ GE174.out | refine below_set ?_ GE192.out) | exact HB.out))) : w.heap.size ≤ gb193)); have n8_ := Aside0.mk ((by rw [hg]; exact Nat.ne_of_lt (blk_lt (g := gb167) (o := .cells #[.int .i64 a0_0, .int .i64 a0_1, .int .i64 a0_2, .int .i64 a0_3] 23 (0, 0)) (by (with_reducible repeat (first | refine blk_drewN ?_ _ | refine blk_drew ?_ | refine blk_alloc ?_ _)); exact BK167.out)) : gb167 ≠ gb193)); have n9_ := Aside0.mk ((by rw [hg]; exact Nat.ne_of_gt (blk_lt (g := gb167) (o := .cells #[.int .i64 a0_0, .int .i64 a0_1, .int .i64 a0_2, .int .i64 a0_3] 23 (0, 0)) (by (with_reducible repeat (first | refine blk_drewN ?_ _ | refine blk_drew ?_ | refine blk_alloc ?_ _)); exact BK167.out)) : gb193 ≠ gb167)); have n10_ := Aside0.mk ((by rw [hg]; exact Nat.ne_of_lt (blk_lt (g := gb168) (o := .cells #[.int .i64 a1_0, .int .i64 a1_1, .bool a1_2, .int .i64 a1_3, .int .i64 a1_4, .bool a1_5, .bool a1_6, .bool a1_7, .int .i64 a1_8, .int .i64 a1_9, .int .i64 a1_10, .bool a1_11] 33 (0, 0)) (by (with_reducible repeat (first | refine blk_drewN ?_ _ | refine blk_drew ?_ | refine blk_alloc ?_ _)); exact BK168.out)) : gb168 ≠ gb193)); have n11_ := Aside0.mk ((by rw [hg]; exact Nat.ne_of_gt (blk_lt (g := gb168) (o := .cells #[.int .i64 a1_0, .int .i64 a1_1, .bool a1_2, .int .i64 a1_3, .int .i64 a1_4, .bool a1_5, .bool a1_6, .bool a1_7, .int .i64 a1_8, .int .i64 a1_9, .int .i64 a1_10, .bool a1_11] 33 (0, 0)) (by (with_reducible repeat (first | refine blk_drewN ?_ _ | refine blk_drew ?_ | refine blk_alloc ?_ _)); exact BK168.out)) : gb193 ≠ gb168)); have n12_ := Aside0.mk ((by rw [hg]; exact Nat.ne_of_lt (blk_lt (g := gb174) (o := .cells #[.int .i64 t169, .int .i64 t170, .int .i64 t171, .int .i64 t172] 23 (0, 0)) (by (with_reducible repeat (first | refine blk_drewN ?_ _ | refine blk_drew ?_ | refine blk_alloc ?_ _)); exact BK174.out)) : gb174 ≠ gb193)); have n13_ := Aside0.mk ((by rw [hg]; exact Nat.ne_of_gt (blk_lt (g := gb174) (o := .cells #[.int .i64 t169, .int .i64 t170, .int .i64 t171, .int .i64 t172] 23 (0, 0)) (by (with_reducible repeat (first | refine blk_drewN ?_ _ | refine blk_drew ?_ | refine blk_alloc ?_ _)); exact BK174.out)) : gb193 ≠ gb174)); have n14_ := Aside0.mk ((by rw [hg]; exact Nat.ne_of_lt (blk_lt (g := gb192) (o := .cells #[.int .i64 0, .int .i64 0, .int .i64 0, .int .i64 0] 23 (0, 0)) (by (with_reducible repeat (first | refine blk_drewN ?_ _ | refine blk_drew ?_ | refine blk_alloc ?_ _)); exact BK192.out)) : gb192 ≠ gb193)); have n15_ := Aside0.mk ((by rw [hg]; exact Nat.ne_of_gt (blk_lt (g := gb192) (o := .cells #[.int .i64 0, .int .i64 0, .int .i64 0, .int .i64 0] 23 (0, 0)) (by (with_reducible repeat (first | refine blk_drewN ?_ _ | refine blk_drew ?_ | refine blk_alloc ?_ _)); exact BK192.out)) : gb193 ≠ gb192)); clear BK167; clear BK168; clear BK174; clear BK192; clear HB; have BK167 := n0_; have BK168 := n1_; have BK174 := n2_; have BK192 := n3_; have HB := n4_; have BK193 := n5_; have GW193 := n6_; have GE193 := n7_; have NB167_193 := n8_; have NB193_167 := n9_; have NB168_193 := n10_; have NB193_168 := n11_; have NB174_193 := n12_; have NB193_174 := n13_; have NB192_193 := n14_; have NB193_192 := n15_; clear n0_ n1_ n2_ n3_ n4_ n5_ n6_ n7_ n8_ n9_ n10_ n11_ n12_ n13_ n14_ n15_; clear hb hbox hg; have hnb22 := NB192_167.out; have hnc22 := NB167_192.out; have hnb23 := NB192_168.out; have hnc23 := NB168_192.out; have hnb24 := NB192_174.out; have hnc24 := NB174_192.out; have hnb25 := NB192_193.out; have hnc25 := NB193_192.out; have hcz26_0 : w21.cell? ⟨gb192, 0, none⟩ = some (.int .i64 0) := (blk_cell BK192.out 0).trans rfl; have hcz26_1 : w21.cell? ⟨gb192, 1, none⟩ = some (.int .i64 0) := (blk_cell BK192.out 1).trans rfl; have hcz26_2 : w21.cell? ⟨gb192, 2, none⟩ = some (.int .i64 0) := (blk_cell BK192.out 2).trans rfl; have hcz26_3 : w21.cell? ⟨gb192, 3, none⟩ = some (.int .i64 0) := (blk_cell BK192.out 3).trans rfl; have hfz26_0 := blk_frozen BK192.out 0; have hfz26_1 := blk_frozen BK192.out 1; have hfz26_2 := blk_frozen BK192.out 2; have hfz26_3 := blk_frozen BK192.out 3; have hnb27 := NB193_167.out; have hnc27 := NB167_193.out; have hnb28 := NB193_168.out; have hnc28 := NB168_193.out; have hnb29 := NB193_174.out; have hnc29 := NB174_193.out; have hcz30_0 : w21.cell? ⟨gb193, 0, none⟩ = some (.int .i64 0) := (blk_cell BK193.out 0).trans rfl; have hcz30_1 : w21.cell? ⟨gb193, 1, none⟩ = some (.int .i64 0) := (blk_cell BK193.out 1).trans rfl; have hcz30_2 : w21.cell? ⟨gb193, 2, none⟩ = some (.bool false) := (blk_cell BK193.out 2).trans rfl; have hcz30_3 : w21.cell? ⟨gb193, 3, none⟩ = some (.int .i64 0) := (blk_cell BK193.out 3).trans rfl; have hcz30_4 : w21.cell? ⟨gb193, 4, none⟩ = some (.int .i64 0) := (blk_cell BK193.out 4).trans rfl; have hcz30_5 : w21.cell? ⟨gb193, 5, none⟩ = some (.bool false) := (blk_cell BK193.out 5).trans rfl; have hcz30_6 : w21.cell? ⟨gb193, 6, none⟩ = some (.bool false) := (blk_cell BK193.out 6).trans rfl; have hcz30_7 : w21.cell? ⟨gb193, 7, none⟩ = some (.bool false) := (blk_cell BK193.out 7).trans rfl; have hcz30_8 : w21.cell? ⟨gb193, 8, none⟩ = some (.int .i64 0) := (blk_cell BK193.out 8).trans rfl; have hcz30_9 : w21.cell? ⟨gb193, 9, none⟩ = some (.int .i64 0) := (blk_cell BK193.out 9).trans rfl; have hcz30_10 : w21.cell? ⟨gb193, 10, none⟩ = some (.int .i64 0) := (blk_cell BK193.out 10).trans rfl; have hcz30_11 : w21.cell? ⟨gb193, 11, none⟩ = some (.bool false) := (blk_cell BK193.out 11).trans rfl; have hfz30_0 := blk_frozen BK193.out 0; have hfz30_1 := blk_frozen BK193.out 1; have hfz30_2 := blk_frozen BK193.out 2; have hfz30_3 := blk_frozen BK193.out 3; have hfz30_4 := blk_frozen BK193.out 4; have hfz30_5 := blk_frozen BK193.out 5; have hfz30_6 := blk_frozen BK193.out 6; have hfz30_7 := blk_frozen BK193.out 7; have hfz30_8 := blk_frozen BK193.out 8; have hfz30_9 := blk_frozen BK193.out 9; have hfz30_10 := blk_frozen BK193.out 10; have hfz30_11 := blk_frozen BK193.out 11; have hcz31_0 : w21.cell? ⟨gb167, 0, none⟩ = some (.int .i64 a0_0) := (blk_cell BK167.out 0).trans rfl; have hcz31_1 : w21.cell? ⟨gb167, 1, none⟩ = some (.int .i64 a0_1) := (blk_cell BK167.out 1).trans rfl; have hcz31_2 : w21.cell? ⟨gb167, 2, none⟩ = some (.int .i64 a0_2) := (blk_cell BK167.out 2).trans rfl; have hcz31_3 : w21.cell? ⟨gb167, 3, none⟩ = some (.int .i64 a0_3) := (blk_cell BK167.out 3).trans rfl; have hfz31_0 := blk_frozen BK167.out 0; have hfz31_1 := blk_frozen BK167.out 1; have hfz31_2 := blk_frozen BK167.out 2; have hfz31_3 := blk_frozen BK167.out 3; have hcz32_0 : w21.cell? ⟨gb168, 0, none⟩ = some (.int .i64 a1_0) := (blk_cell BK168.out 0).trans rfl; have hcz32_1 : w21.cell? ⟨gb168, 1, none⟩ = some (.int .i64 a1_1) := (blk_cell BK168.out 1).trans rfl; have hcz32_2 : w21.cell? ⟨gb168, 2, none⟩ = some (.bool a1_2) := (blk_cell BK168.out 2).trans rfl; have hcz32_3 : w21.cell? ⟨gb168, 3, none⟩ = some (.int .i64 a1_3) := (blk_cell BK168.out 3).trans rfl; have hcz32_4 : w21.cell? ⟨gb168, 4, none⟩ = some (.int .i64 a1_4) := (blk_cell BK168.out 4).trans rfl; have hcz32_5 : w21.cell? ⟨gb168, 5, none⟩ = some (.bool a1_5) := (blk_cell BK168.out 5).trans rfl; have hcz32_6 : w21.cell? ⟨gb168, 6, none⟩ = some (.bool a1_6) := (blk_cell BK168.out 6).trans rfl; have hcz32_7 : w21.cell? ⟨gb168, 7, none⟩ = some (.bool a1_7) := (blk_cell BK168.out 7).trans rfl; have hcz32_8 : w21.cell? ⟨gb168, 8, none⟩ = some (.int .i64 a1_8) := (blk_cell BK168.out 8).trans rfl; have hcz32_9 : w21.cell? ⟨gb168, 9, none⟩ = some (.int .i64 a1_9) := (blk_cell BK168.out 9).trans rfl; have hcz32_10 : w21.cell? ⟨gb168, 10, none⟩ = some (.int .i64 a1_10) := (blk_cell BK168.out 10).trans rfl; have hcz32_11 : w21.cell? ⟨gb168, 11, none⟩ = some (.bool a1_11) := (blk_cell BK168.out 11).trans rfl; have hfz32_0 := blk_frozen BK168.out 0; have hfz32_1 := blk_frozen BK168.out 1; have hfz32_2 := blk_frozen BK168.out 2; have hfz32_3 := blk_frozen BK168.out 3; have hfz32_4 := blk_frozen BK168.out 4; have hfz32_5 := blk_frozen BK168.out 5; have hfz32_6 := blk_frozen BK168.out 6; have hfz32_7 := blk_frozen BK168.out 7; have hfz32_8 := blk_frozen BK168.out 8; have hfz32_9 := blk_frozen BK168.out 9; have hfz32_10 := blk_frozen BK168.out 10; have hfz32_11 := blk_frozen BK168.out 11) | ((with_reducible refine gate_callee (f := 10) rfl ?_); refine goesL_ (some 35) rfl rfl Try.func10 (by kernel_rfl) rfl #[.agg #[.int .i64 a0_0, .int .i64 a0_1, .int .i64 a0_2, .int .i64 a0_3], .agg #[.int .i64 a1_0, .int .i64 a1_1, .bool a1_2, .int .i64 a1_3, .int .i64 a1_4, .bool a1_5, .bool a1_6, .bool a1_7, .int .i64 a1_8, .int .i64 a1_9, .int .i64 a1_10, .bool a1_11], .int .i64 a2, .bool false] rfl (by (try simp only [List.map_toArray, List.map_cons, List.map_nil]); first | done | rfl | (simp only [List.length_drop, List.length_take]; rfl)) ?_; (with_reducible refine (rate_Sent.calls k a0_0 a0_1 a0_2 a0_3 a1_0 a1_1 a1_2 a1_3 a1_4 a1_5 a1_6 a1_7 a1_8 a1_9 a1_10 a1_11 a2 false t194 t195 t196 t197 t198 t199 t200 t201 t202 t203 t204 t205 t206 t207 t208 t209 t210 _ A7.out).mono ?_); rintro e w33 ⟨rfl, hb⟩; refine ⟨_, rfl, ?_⟩; have n0_ := Aside0.mk (blk_below (g := gb167) (o := .cells #[.int .i64 a0_0, .int .i64 a0_1, .int .i64 a0_2, .int .i64 a0_3] 23 (0, 0)) (by (with_reducible repeat (first | refine blk_drewN ?_ _ | refine blk_drew ?_ | refine blk_alloc ?_ _)); refine blk_far ?_ NB167_193.out _; (with_reducible repeat (first | refine blk_drewN ?_ _ | refine blk_drew ?_ | refine blk_alloc ?_ _)); refine blk_far ?_ NB167_193.out _; (with_reducible repeat (first | refine blk_drewN ?_ _ | refine blk_drew ?_ | refine blk_alloc ?_ _)); refine blk_far ?_ NB167_193.out _; (with_reducible repeat (first | refine blk_drewN ?_ _ | refine blk_drew ?_ | refine blk_alloc ?_ _)); refine blk_far ?_ NB167_193.out _; (with_reducible repeat (first | refine blk_drewN ?_ _ | refine blk_drew ?_ | refine blk_alloc ?_ _)); refine blk_far ?_ NB167_193.out _; (with_reducible repeat (first | refine blk_drewN ?_ _ | refine blk_drew ?_ | refine blk_alloc ?_ _)); refine blk_far ?_ NB167_193.out _; (with_reducible repeat (first | refine blk_drewN ?_ _ | refine blk_drew ?_ | refine blk_alloc ?_ _)); refine blk_far ?_ NB167_193.out _; (with_reducible repeat (first | refine blk_drewN ?_ _ | refine blk_drew ?_ | refine blk_alloc ?_ _)); refine blk_far ?_ NB167_193.out _; (with_reducible repeat (first | refine blk_drewN ?_ _ | refine blk_drew ?_ | refine blk_alloc ?_ _)); refine blk_far ?_ NB167_193.out _; (with_reducible repeat (first | refine blk_drewN ?_ _ | refine blk_drew ?_ | refine blk_alloc ?_ _)); refine blk_far ?_ NB167_193.out _; (with_reducible repeat (first | refine blk_drewN ?_ _ | refine blk_drew ?_ | refine blk_alloc ?_ _)); refine blk_far ?_ NB167_193.out _; (with_reducible repeat (first | refine blk_drewN ?_ _ | refine blk_drew ?_ | refine blk_alloc ?_ _)); refine blk_far ?_ NB167_193.out _; (with_reducible repeat (first | refine blk_drewN ?_ _ | refine blk_drew ?_ | refine blk_alloc ?_ _)); refine blk_far ?_ NB167_192.out _; (with_reducible repeat (first | refine blk_drewN ?_ _ | refine blk_drew ?_ | refine blk_alloc ?_ _)); refine blk_far ?_ NB167_192.out _; (with_reducible repeat (first | refine blk_drewN ?_ _ | refine blk_drew ?_ | refine blk_alloc ?_ _)); refine blk_far ?_ NB167_192.out _; (with_reducible repeat (first | refine blk_drewN ?_ _ | refine blk_drew ?_ | refine blk_alloc ?_ _)); refine blk_far ?_ NB167_192.out _; (with_reducible repeat (first | refine blk_drewN ?_ _ | refine blk_drew ?_ | refine blk_alloc ?_ _)); exact BK167.out) hb); have n1_ := Aside0.mk (blk_below (g := gb168) (o := .cells #[.int .i64 a1_0, .int .i64 a1_1, .bool a1_2, .int .i64 a1_3, .int .i64 a1_4, .bool a1_5, .bool a1_6, .bool a1_7, .int .i64 a1_8, .int .i64 a1_9, .int .i64 a1_10, .bool a1_11] 33 (0, 0)) (by (with_reducible repeat (first | refine blk_drewN ?_ _ | refine blk_drew ?_ | refine blk_alloc ?_ _)); refine blk_far ?_ NB168_193.out _; (with_reducible repeat (first | refine blk_drewN ?_ _ | refine blk_drew ?_ | refine blk_alloc ?_ _)); refine blk_far ?_ NB168_193.out _; (with_reducible repeat (first | refine blk_drewN ?_ _ | refine blk_drew ?_ | refine blk_alloc ?_ _)); refine blk_far ?_ NB168_193.out _; (with_reducible repeat (first | refine blk_drewN ?_ _ | refine blk_drew ?_ | refine blk_alloc ?_ _)); refine blk_far ?_ NB168_193.out _; (with_reducible repeat (first | refine blk_drewN ?_ _ | refine blk_drew ?_ | refine blk_alloc ?_ _)); refine blk_far ?_ NB168_193.out _; (with_reducible repeat (first | refine blk_drewN ?_ _ | refine blk_drew ?_ | refine blk_alloc ?_ _)); refine blk_far ?_ NB168_193.out _; (with_reducible repeat (first | refine blk_drewN ?_ _ | refine blk_drew ?_ | refine blk_alloc ?_ _)); refine blk_far ?_ NB168_193.out _; (with_reducible repeat (first | refine blk_drewN ?_ _ | refine blk_drew ?_ | refine blk_alloc ?_ _)); refine blk_far ?_ NB168_193.out _; (with_reducible repeat (first | refine blk_drewN ?_ _ | refine blk_drew ?_ | refine blk_alloc ?_ _)); refine blk_far ?_ NB168_193.out _; (with_reducible repeat (first | refine blk_drewN ?_ _ | refine blk_drew ?_ | refine blk_alloc ?_ _)); refine blk_far ?_ NB168_193.out _; (with_reducible repeat (first | refine blk_drewN ?_ _ | refine blk_drew ?_ | refine blk_alloc ?_ _)); refine blk_far ?_ NB168_193.out _; (with_reducible repeat (first | refine blk_drewN ?_ _ | refine blk_drew ?_ | refine blk_alloc ?_ _)); refine blk_far ?_ NB168_193.out _; (with_reducible repeat (first | refine blk_drewN ?_ _ | refine blk_drew ?_ | refine blk_alloc ?_ _)); refine blk_far ?_ NB168_192.out _; (with_reducible repeat (first | refine blk_drewN ?_ _ | refine blk_drew ?_ | refine blk_alloc ?_ _)); refine blk_far ?_ NB168_192.out _; (with_reducible repeat (first | refine blk_drewN ?_ _ | refine blk_drew ?_ | refine blk_alloc ?_ _)); refine blk_far ?_ NB168_192.out _; (with_reducible repeat (first | refine blk_drewN ?_ _ | refine blk_drew ?_ | refine blk_alloc ?_ _)); refine blk_far ?_ NB168_192.out _; (with_reducible repeat (first | refine blk_drewN ?_ _ | refine blk_drew ?_ | refine blk_alloc ?_ _)); exact BK168.out) hb); have n2_ := Aside0.mk (blk_below (g := gb174) (o := .cells #[.int .i64 t169, .int .i64 t170, .int .i64 t171, .int .i64 t172] 23 (0, 0)) (by (with_reducible repeat (first | refine blk_drewN ?_ _ | refine blk_drew ?_ | refine blk_alloc ?_ _)); refine blk_far ?_ NB174_193.out _; (with_reducible repeat (first | refine blk_drewN ?_ _ | refine blk_drew ?_ | refine blk_alloc ?_ _)); refine blk_far ?_ NB174_193.out _; (with_reducible repeat (first | refine blk_drewN ?_ _ | refine blk_drew ?_ | refine blk_alloc ?_ _)); refine blk_far ?_ NB174_193.out _; (with_reducible repeat (first | refine blk_drewN ?_ _ | refine blk_drew ?_ | refine blk_alloc ?_ _)); refine blk_far ?_ NB174_193.out _; (with_reducible repeat (first | refine blk_drewN ?_ _ | refine blk_drew ?_ | refine blk_alloc ?_ _)); refine blk_far ?_ NB174_193.out _; (with_reducible repeat (first | refine blk_drewN ?_ _ | refine blk_drew ?_ | refine blk_alloc ?_ _)); refine blk_far ?_ NB174_193.out _; (with_reducible repeat (first | refine blk_drewN ?_ _ | refine blk_drew ?_ | refine blk_alloc ?_ _)); refine blk_far ?_ NB174_193.out _; (with_reducible repeat (first | refine blk_drewN ?_ _ | refine blk_drew ?_ | refine blk_alloc ?_ _)); refine blk_far ?_ NB174_193.out _; (with_reducible repeat (first | refine blk_drewN ?_ _ | refine blk_drew ?_ | refine blk_alloc ?_ _)); refine blk_far ?_ NB174_193.out _; (with_reducible repeat (first | refine blk_drewN ?_ _ | refine blk_drew ?_ | refine blk_alloc ?_ _)); refine blk_far ?_ NB174_193.out _; (with_reducible repeat (first | refine blk_drewN ?_ _ | refine blk_drew ?_ | refine blk_alloc ?_ _)); refine blk_far ?_ NB174_193.out _; (with_reducible repeat (first | refine blk_drewN ?_ _ | refine blk_drew ?_ | refine blk_alloc ?_ _)); refine blk_far ?_ NB174_193.out _; (with_reducible repeat (first | refine blk_drewN ?_ _ | refine blk_drew ?_ | refine blk_alloc ?_ _)); refine blk_far ?_ NB174_192.out _; (with_reducible repeat (first | refine blk_drewN ?_ _ | refine blk_drew ?_ | refine blk_alloc ?_ _)); refine blk_far ?_ NB174_192.out _; (with_reducible repeat (first | refine blk_drewN ?_ _ | refine blk_drew ?_ | refine blk_alloc ?_ _)); refine blk_far ?_ NB174_192.out _; (with_reducible repeat (first | refine blk_drewN ?_ _ | refine blk_drew ?_ | refine blk_alloc ?_ _)); refine blk_far ?_ NB174_192.out _; (with_reducible repeat (first | refine blk_drewN ?_ _ | refine blk_drew ?_ | refine blk_alloc ?_ _)); exact BK174.out) hb); have n3_ := Aside0.mk (blk_below (g := gb192) (o := .cells #[.int .i64 t175, .int .i64 t176, .int .i64 t177, .int .i64 t178] 23 (0, 0)) (by (with_reducible repeat (first | refine blk_drewN ?_ _ | refine blk_drew ?_ | refine blk_alloc ?_ _)); refine blk_far ?_ NB192_193.out _; (with_reducible repeat (first | refine blk_drewN ?_ _ | refine blk_drew ?_ | refine blk_alloc ?_ _)); refine blk_far ?_ NB192_193.out _; (with_reducible repeat (first | refine blk_drewN ?_ _ | refine blk_drew ?_ | refine blk_alloc ?_ _)); refine blk_far ?_ NB192_193.out _; (with_reducible repeat (first | refine blk_drewN ?_ _ | refine blk_drew ?_ | refine blk_alloc ?_ _)); refine blk_far ?_ NB192_193.out _; (with_reducible repeat (first | refine blk_drewN ?_ _ | refine blk_drew ?_ | refine blk_alloc ?_ _)); refine blk_far ?_ NB192_193.out _; (with_reducible repeat (first | refine blk_drewN ?_ _ | refine blk_drew ?_ | refine blk_alloc ?_ _)); refine blk_far ?_ NB192_193.out _; (with_reducible repeat (first | refine blk_drewN ?_ _ | refine blk_drew ?_ | refine blk_alloc ?_ _)); refine blk_far ?_ NB192_193.out _; (with_reducible repeat (first | refine blk_drewN ?_ _ | refine blk_drew ?_ | refine blk_alloc ?_ _)); refine blk_far ?_ NB192_193.out _; (with_reducible repeat (first | refine blk_drewN ?_ _ | refine blk_drew ?_ | refine blk_alloc ?_ _)); refine blk_far ?_ NB192_193.out _; (with_reducible repeat (first | refine blk_drewN ?_ _ | refine blk_drew ?_ | refine blk_alloc ?_ _)); refine blk_far ?_ NB192_193.out _; (with_reducible repeat (first | refine blk_drewN ?_ _ | refine blk_drew ?_ | refine blk_alloc ?_ _)); refine blk_far ?_ NB192_193.out _; (with_reducible repeat (first | refine blk_drewN ?_ _ | refine blk_drew ?_ | refine blk_alloc ?_ _)); refine blk_far ?_ NB192_193.out _; (with_reducible repeat (first | refine blk_drewN ?_ _ | refine blk_drew ?_ | refine blk_alloc ?_ _)); refine blk_put (cs := #[.int .i64 t175, .int .i64 t176, .int .i64 t177, .int .i64 0]) ?_ 3 _ rfl; (with_reducible repeat (first | refine blk_drewN ?_ _ | refine blk_drew ?_ | refine blk_alloc ?_ _)); refine blk_put (cs := #[.int .i64 t175, .int .i64 t176, .int .i64 0, .int .i64 0]) ?_ 2 _ rfl; (with_reducible repeat (first | refine blk_drewN ?_ _ | refine blk_drew ?_ | refine blk_alloc ?_ _)); refine blk_put (cs := #[.int .i64 t175, .int .i64 0, .int .i64 0, .int .i64 0]) ?_ 1 _ rfl; (with_reducible repeat (first | refine blk_drewN ?_ _ | refine blk_drew ?_ | refine blk_alloc ?_ _)); refine blk_put (cs := #[.int .i64 0, .int .i64 0, .int .i64 0, .int .i64 0]) ?_ 0 _ rfl; (with_reducible repeat (first | refine blk_drewN ?_ _ | refine blk_drew ?_ | refine blk_alloc ?_ _)); exact BK192.out) hb); have n4_ := Aside0.mk (blk_below (g := gb193) (o := .cells #[.int .i64 t179, .int .i64 t180, .bool t181, .int .i64 t182, .int .i64 t183, .bool t184, .bool t185, .bool t186, .int .i64 t187, .int .i64 t188, .int .i64 t189, .bool t190] 33 (0, 0)) (by (with_reducible repeat (first | refine blk_drewN ?_ _ | refine blk_drew ?_ | refine blk_alloc ?_ _)); refine blk_put (cs := #[.int .i64 t179, .int .i64 t180, .bool t181, .int .i64 t182, .int .i64 t183, .bool t184, .bool t185, .bool t186, .int .i64 t187, .int .i64 t188, .int .i64 t189, .bool false]) ?_ 11 _ rfl; (with_reducible repeat (first | refine blk_drewN ?_ _ | refine blk_drew ?_ | refine blk_alloc ?_ _)); refine blk_put (cs := #[.int .i64 t179, .int .i64 t180, .bool t181, .int .i64 t182, .int .i64 t183, .bool t184, .bool t185, .bool t186, .int .i64 t187, .int .i64 t188, .int .i64 0, .bool false]) ?_ 10 _ rfl; (with_reducible repeat (first | refine blk_drewN ?_ _ | refine blk_drew ?_ | refine blk_alloc ?_ _)); refine blk_put (cs := #[.int .i64 t179, .int .i64 t180, .bool t181, .int .i64 t182, .int .i64 t183, .bool t184, .bool t185, .bool t186, .int .i64 t187, .int .i64 0, .int .i64 0, .bool false]) ?_ 9 _ rfl; (with_reducible repeat (first | refine blk_drewN ?_ _ | refine blk_drew ?_ | refine blk_alloc ?_ _)); refine blk_put (cs := #[.int .i64 t179, .int .i64 t180, .bool t181, .int .i64 t182, .int .i64 t183, .bool t184, .bool t185, .bool t186, .int .i64 0, .int .i64 0, .int .i64 0, .bool false]) ?_ 8 _ rfl; (with_reducible repeat (first | refine blk_drewN ?_ _ | refine blk_drew ?_ | refine blk_alloc ?_ _)); refine blk_put (cs := #[.int .i64 t179, .int .i64 t180, .bool t181, .int .i64 t182, .int .i64 t183, .bool t184, .bool t185, .bool false, .int .i64 0, .int .i64 0, .int .i64 0, .bool false]) ?_ 7 _ rfl; (with_reducible repeat (first | refine blk_drewN ?_ _ | refine blk_drew ?_ | refine blk_alloc ?_ _)); refine blk_put (cs := #[.int .i64 t179, .int .i64 t180, .bool t181, .int .i64 t182, .int .i64 t183, .bool t184, .bool false, .bool false, .int .i64 0, .int .i64 0, .int .i64 0, .bool false]) ?_ 6 _ rfl; (with_reducible repeat (first | refine blk_drewN ?_ _ | refine blk_drew ?_ | refine blk_alloc ?_ _)); refine blk_put (cs := #[.int .i64 t179, .int .i64 t180, .bool t181, .int .i64 t182, .int .i64 t183, .bool false, .bool false, .bool false, .int .i64 0, .int .i64 0, .int .i64 0, .bool false]) ?_ 5 _ rfl; (with_reducible repeat (first | refine blk_drewN ?_ _ | refine blk_drew ?_ | refine blk_alloc ?_ _)); refine blk_put (cs := #[.int .i64 t179, .int .i64 t180, .bool t181, .int .i64 t182, .int .i64 0, .bool false, .bool false, .bool false, .int .i64 0, .int .i64 0, .int .i64 0, .bool false]) ?_ 4 _ rfl; (with_reducible repeat (first | refine blk_drewN ?_ _ | refine blk_drew ?_ | refine blk_alloc ?_ _)); refine blk_put (cs := #[.int .i64 t179, .int .i64 t180, .bool t181, .int .i64 0, .int .i64 0, .bool false, .bool false, .bool false, .int .i64 0, .int .i64 0, .int .i64 0, .bool false]) ?_ 3 _ rfl; (with_reducible repeat (first | refine blk_drewN ?_ _ | refine blk_drew ?_ | refine blk_alloc ?_ _)); refine blk_put (cs := #[.int .i64 t179, .int .i64 t180, .bool false, .int .i64 0, .int .i64 0, .bool false, .bool false, .bool false, .int .i64 0, .int .i64 0, .int .i64 0, .bool false]) ?_ 2 _ rfl; (with_reducible repeat (first | refine blk_drewN ?_ _ | refine blk_drew ?_ | refine blk_alloc ?_ _)); refine blk_put (cs := #[.int .i64 t179, .int .i64 0, .bool false, .int .i64 0, .int .i64 0, .bool false, .bool false, .bool false, .int .i64 0, .int .i64 0, .int .i64 0, .bool false]) ?_ 1 _ rfl; (with_reducible repeat (first | refine blk_drewN ?_ _ | refine blk_drew ?_ | refine blk_alloc ?_ _)); refine blk_put (cs := #[.int .i64 0, .int .i64 0, .bool false, .int .i64 0, .int .i64 0, .bool false, .bool false, .bool false, .int .i64 0, .int .i64 0, .int .i64 0, .bool false]) ?_ 0 _ rfl; (with_reducible repeat (first | refine blk_drewN ?_ _ | refine blk_drew ?_ | refine blk_alloc ?_ _)); refine blk_far ?_ NB193_192.out _; (with_reducible repeat (first | refine blk_drewN ?_ _ | refine blk_drew ?_ | refine blk_alloc ?_ _)); refine blk_far ?_ NB193_192.out _; (with_reducible repeat (first | refine blk_drewN ?_ _ | refine blk_drew ?_ | refine blk_alloc ?_ _)); refine blk_far ?_ NB193_192.out _; (with_reducible repeat (first | refine blk_drewN ?_ _ | refine blk_drew ?_ | refine blk_alloc ?_ _)); refine blk_far ?_ NB193_192.out _; (with_reducible repeat (first | refine blk_drewN ?_ _ | refine blk_drew ?_ | refine blk_alloc ?_ _)); exact BK193.out) hb); have n5_ := Aside0.mk (below_step (by repeat (first | (with_reducible first | exact HB.out | apply below_alloc | apply pw_below_drewN | apply below_drew1 | refine below_set ?_ GE167.out | refine below_set ?_ GE168.out | refine below_set ?_ GE174.out | refine below_set ?_ GE192.out | refine below_set ?_ GE193.out) | exact HB.out)) hb); clear BK167; clear BK168; clear BK174; clear BK192; clear BK193; clear HB; have BK167 := n0_; have BK168 := n1_; have BK174 := n2_; have BK192 := n3_; have BK193 := n4_; have HB := n5_; clear n0_ n1_ n2_ n3_ n4_ n5_; (try clear hb); (try clear hb2); (try clear hk); (try clear hi)) | ((with_reducible refine gate_dst (N := 14) rfl ?_); refine box_event ?hg (N := 14) ?hd (cs := #[.int .i64 0, .int .i64 0, .int .i64 0, .int .i64 0]) (t := 23) ?hr ?_; (case hd => rfl); (case hg => rfl); (case hr => first | (go_simp; done) | (go_simp; rfl)); intro gb211 hg w34 hbox hb; have n0_ := Aside0.mk (blk_below (g := gb167) (o := .cells #[.int .i64 a0_0, .int .i64 a0_1, .int .i64 a0_2, .int .i64 a0_3] 23 (0, 0)) (by (with_reducible repeat (first | refine blk_drewN ?_ _ | refine blk_drew ?_ | refine blk_alloc ?_ _)); exact BK167.out) hb); have n1_ := Aside0.mk (blk_below (g := gb168) (o := .cells #[.int .i64 a1_0, .int .i64 a1_1, .bool a1_2, .int .i64 a1_3, .int .i64 a1_4, .bool a1_5, .bool a1_6, .bool a1_7, .int .i64 a1_8, .int .i64 a1_9, .int .i64 a1_10, .bool a1_11] 33 (0, 0)) (by (with_reducible repeat (first | refine blk_drewN ?_ _ | refine blk_drew ?_ | refine blk_alloc ?_ _)); exact BK168.out) hb); have n2_ := Aside0.mk (blk_below (g := gb174) (o := .cells #[.int .i64 t169, .int .i64 t170, .int .i64 t171, .int .i64 t172] 23 (0, 0)) (by (with_reducible repeat (first | refine blk_drewN ?_ _ | refine blk_drew ?_ | refine blk_alloc ?_ _)); exact BK174.out) hb); have n3_ := Aside0.mk (blk_below (g := gb192) (o := .cells #[.int .i64 t175, .int .i64 t176, .int .i64 t177, .int .i64 t178] 23 (0, 0)) (by (with_reducible repeat (first | refine blk_drewN ?_ _ | refine blk_drew ?_ | refine blk_alloc ?_ _)); exact BK192.out) hb); have n4_ := Aside0.mk (blk_below (g := gb193) (o := .cells #[.int .i64 t179, .int .i64 t180, .bool t181, .int .i64 t182, .int .i64 t183, .bool t184, .bool t185, .bool t186, .int .i64 t187, .int .i64 t188, .int .i64 t189, .bool t190] 33 (0, 0)) (by (with_reducible repeat (first | refine blk_drewN ?_ _ | refine blk_drew ?_ | refine blk_alloc ?_ _)); exact BK193.out) hb); have n5_ := Aside0.mk (below_step (by repeat (first | (with_reducible first | exact HB.out | apply below_alloc | apply pw_below_drewN | apply below_drew1 | refine below_set ?_ GE167.out | refine below_set ?_ GE168.out | refine below_set ?_ GE174.out | refine below_set ?_ GE192.out | refine below_set ?_ GE193.out) | exact HB.out)) hb); have n6_ := Aside0.mk (hbox); have n7_ := Aside0.mk ((by rw [hg]; exact (below_size (by repeat (first | (with_reducible first | exact HB.out | apply below_alloc | apply pw_below_drewN | apply below_drew1 | refine below_set ?_ GE167.out | refine below_set ?_ GE168.out | refine below_set ?_ GE174.out | refine below_set ?_ GE192.out | refine below_set ?_ GE193.out) | exact HB.out))) : w.heap.size ≤ gb211)); have n8_ := Aside0.mk ((by rw [hg]; exact (below_size (by repeat (first | (with_reducible first | exact HB.out | apply below_alloc | apply pw_below_drewN | apply below_drew1 | refine below_set ?_ GE167.out | refine below_set ?_ GE168.out | refine below_set ?_ GE174.out | refine below_set ?_ GE192.out | refine below_set ?_ GE193.out) | exact HB.out))) : w.heap.size ≤ gb211)); have n9_ := Aside0.mk ((by rw [hg]; exact Nat.ne_of_lt (blk_lt (g := gb167) (o := .cells #[.int .i64 a0_0, .int .i64 a0_1, .int .i64 a0_2, .int .i64 a0_3] 23 (0, 0)) (by (with_reducible repeat (first | refine blk_drewN ?_ _ | refine blk_drew ?_ | refine blk_alloc ?_ _)); exact BK167.out)) : gb167 ≠ gb211)); have n10_ := Aside0.mk ((by rw [hg]; exact Nat.ne_of_gt (blk_lt (g := gb167) (o := .cells #[.int .i64 a0_0, .int .i64 a0_1, .int .i64 a0_2, .int .i64 a0_3] 23 (0, 0)) (by (with_reducible repeat (first | refine blk_drewN ?_ _ | refine blk_drew ?_ | refine blk_alloc ?_ _)); exact BK167.out)) : gb211 ≠ gb167)); have n11_ := Aside0.mk ((by rw [hg]; exact Nat.ne_of_lt (blk_lt (g := gb168) (o := .cells #[.int .i64 a1_0, .int .i64 a1_1, .bool a1_2, .int .i64 a1_3, .int .i64 a1_4, .bool a1_5, .bool a1_6, .bool a1_7, .int .i64 a1_8, .int .i64 a1_9, .int .i64 a1_10, .bool a1_11] 33 (0, 0)) (by (with_reducible repeat (first | refine blk_drewN ?_ _ | refine blk_drew ?_ | refine blk_alloc ?_ _)); exact BK168.out)) : gb168 ≠ gb211)); have n12_ := Aside0.mk ((by rw [hg]; exact Nat.ne_of_gt (blk_lt (g := gb168) (o := .cells #[.int .i64 a1_0, .int .i64 a1_1, .bool a1_2, .int .i64 a1_3, .int .i64 a1_4, .bool a1_5, .bool a1_6, .bool a1_7, .int .i64 a1_8, .int .i64 a1_9, .int .i64 a1_10, .bool a1_11] 33 (0, 0)) (by (with_reducible repeat (first | refine blk_drewN ?_ _ | refine blk_drew ?_ | refine blk_alloc ?_ _)); exact BK168.out)) : gb211 ≠ gb168)); have n13_ := Aside0.mk ((by rw [hg]; exact Nat.ne_of_lt (blk_lt (g := gb174) (o := .cells #[.int .i64 t169, .int .i64 t170, .int .i64 t171, .int .i64 t172] 23 (0, 0)) (by (with_reducible repeat (first | refine blk_drewN ?_ _ | refine blk_drew ?_ | refine blk_alloc ?_ _)); exact BK174.out)) : gb174 ≠ gb211)); have n14_ := Aside0.mk ((by rw [hg]; exact Nat.ne_of_gt (blk_lt (g := gb174) (o := .cells #[.int .i64 t169, .int .i64 t170, .int .i64 t171, .int .i64 t172] 23 (0, 0)) (by (with_reducible repeat (first | refine blk_drewN ?_ _ | refine blk_drew ?_ | refine blk_alloc ?_ _)); exact BK174.out)) : gb211 ≠ gb174)); have n15_ := Aside0.mk ((by rw [hg]; exact Nat.ne_of_lt (blk_lt (g := gb192) (o := .cells #[.int .i64 t175, .int .i64 t176, .int .i64 t177, .int .i64 t178] 23 (0, 0)) (by (with_reducible repeat (first | refine blk_drewN ?_ _ | refine blk_drew ?_ | refine blk_alloc ?_ _)); exact BK192.out)) : gb192 ≠ gb211)); have n16_ := Aside0.mk ((by rw [hg]; exact Nat.ne_of_gt (blk_lt (g := gb192) (o := .cells #[.int .i64 t175, .int .i64 t176, .int .i64 t177, .int .i64 t178] 23 (0, 0)) (by (with_reducible repeat (first | refine blk_drewN ?_ _ | refine blk_drew ?_ | refine blk_alloc ?_ _)); exact BK192.out)) : gb211 ≠ gb192)); have n17_ := Aside0.mk ((by rw [hg]; exact Nat.ne_of_lt (blk_lt (g := gb193) (o := .cells #[.int .i64 t179, .int .i64 t180, .bool t181, .int .i64 t182, .int .i64 t183, .bool t184, .bool t185, .bool t186, .int .i64 t187, .int .i64 t188, .int .i64 t189, .bool t190] 33 (0, 0)) (by (with_reducible repeat (first | refine blk_drewN ?_ _ | refine blk_drew ?_ | refine blk_alloc ?_ _)); exact BK193.out)) : gb193 ≠ gb211)); have n18_ := Aside0.mk ((by rw [hg]; exact Nat.ne_of_gt (blk_lt (g := gb193) (o := .cells #[.int .i64 t179, .int .i64 t180, .bool t181, .int .i64 t182, .int .i64 t183, .bool t184, .bool t185, .bool t186, .int .i64 t187, .int .i64 t188, .int .i64 t189, .bool t190] 33 (0, 0)) (by (with_reducible repeat (first | refine blk_drewN ?_ _ | refine blk_drew ?_ | refine blk_alloc ?_ _)); exact BK193.out)) : gb211 ≠ gb193)); clear BK167; clear BK168; clear BK174; clear BK192; clear BK193; clear HB; have BK167 := n0_; have BK168 := n1_; have BK174 := n2_; have BK192 := n3_; have BK193 := n4_; have HB := n5_; have BK211 := n6_; have GW211 := n7_; have GE211 := n8_; have NB167_211 := n9_; have NB211_167 := n10_; have NB168_211 := n11_; have NB211_168 := n12_; have NB174_211 := n13_; have NB211_174 := n14_; have NB192_211 := n15_; have NB211_192 := n16_; have NB193_211 := n17_; have NB211_193 := n18_; clear n0_ n1_ n2_ n3_ n4_ n5_ n6_ n7_ n8_ n9_ n10_ n11_ n12_ n13_ n14_ n15_ n16_ n17_ n18_; clear hb hbox hg) | ((with_reducible refine gate_dst (N := 15) rfl ?_); refine box_event ?hg (N := 15) ?hd (cs := #[.int .i64 0, .int .i64 0, .bool false, .int .i64 0, .int .i64 0, .bool false, .bool false, .bool false, .int .i64 0, .int .i64 0, .int .i64 0, .bool false]) (t := 33) ?hr ?_; (case hd => rfl); (case hg => rfl); (case hr => first | (go_simp; done) | (go_simp; rfl)); intro gb212 hg w35 hbox hb; have n0_ := Aside0.mk (blk_below (g := gb167) (o := .cells #[.int .i64 a0_0, .int .i64 a0_1, .int .i64 a0_2, .int .i64 a0_3] 23 (0, 0)) (by (with_reducible repeat (first | refine blk_drewN ?_ _ | refine blk_drew ?_ | refine blk_alloc ?_ _)); exact BK167.out) hb); have n1_ := Aside0.mk (blk_below (g := gb168) (o := .cells #[.int .i64 a1_0, .int .i64 a1_1, .bool a1_2, .int .i64 a1_3, .int .i64 a1_4, .bool a1_5, .bool a1_6, .bool a1_7, .int .i64 a1_8, .int .i64 a1_9, .int .i64 a1_10, .bool a1_11] 33 (0, 0)) (by (with_reducible repeat (first | refine blk_drewN ?_ _ | refine blk_drew ?_ | refine blk_alloc ?_ _)); exact BK168.out) hb); have n2_ := Aside0.mk (blk_below (g := gb174) (o := .cells #[.int .i64 t169, .int .i64 t170, .int .i64 t171, .int .i64 t172] 23 (0, 0)) (by (with_reducible repeat (first | refine blk_drewN ?_ _ | refine blk_drew ?_ | refine blk_alloc ?_ _)); exact BK174.out) hb); have n3_ := Aside0.mk (blk_below (g := gb192) (o := .cells #[.int .i64 t175, .int .i64 t176, .int .i64 t177, .int .i64 t178] 23 (0, 0)) (by (with_reducible repeat (first | refine blk_drewN ?_ _ | refine blk_drew ?_ | refine blk_alloc ?_ _)); exact BK192.out) hb); have n4_ := Aside0.mk (blk_below (g := gb193) (o := .cells #[.int .i64 t179, .int .i64 t180, .bool t181, .int .i64 t182, .int .i64 t183, .bool t184, .bool t185, .bool t186, .int .i64 t187, .int .i64 t188, .int .i64 t189, .bool t190] 33 (0, 0)) (by (with_reducible repeat (first | refine blk_drewN ?_ _ | refine blk_drew ?_ | refine blk_alloc ?_ _)); exact BK193.out) hb); have n5_ := Aside0.mk (blk_below (g := gb211) (o := .cells #[.int .i64 0, .int .i64 0, .int .i64 0, .int .i64 0] 23 (0, 0)) (by (with_reducible repeat (first | refine blk_drewN ?_ _ | refine blk_drew ?_ | refine blk_alloc ?_ _)); exact BK211.out) hb); have n6_ := Aside0.mk (below_step (by repeat (first | (with_reducible first | exact HB.out | apply below_alloc | apply pw_below_drewN | apply below_drew1 | refine below_set ?_ GE167.out | refine below_set ?_ GE168.out | refine below_set ?_ GE174.out | refine below_set ?_ GE192.out | refine below_set ?_ GE193.out | refine below_set ?_ GE211.out) | exact HB.out)) hb); have n7_ := Aside0.mk (hbox); have n8_ := Aside0.mk ((by rw [hg]; exact (below_size (by repeat (first | (with_reducible first | exact HB.out | apply below_alloc | apply pw_below_drewN | apply below_drew1 | refine below_set ?_ GE167.out | refine below_set ?_ GE168.out | refine below_set ?_ GE174.out | refine below_set ?_ GE192.out | refine below_set ?_ GE193.out | refine below_set ?_ GE211.out) | exact HB.out))) : w.heap.size ≤ gb212)); have n9_ := Aside0.mk ((by rw [hg]; exact (below_size (by repeat (first | (with_reducible first | exact HB.out | apply below_alloc | apply pw_below_drewN | apply below_drew1 | refine below_set ?_ GE167.out | refine below_set ?_ GE168.out | refine below_set ?_ GE174.out | refine below_set ?_ GE192.out | refine below_set ?_ GE193.out | refine below_set ?_ GE211.out) | exact HB.out))) : w.heap.size ≤ gb212)); have n10_ := Aside0.mk ((by rw [hg]; exact Nat.ne_of_lt (blk_lt (g := gb167) (o := .cells #[.int .i64 a0_0, .int .i64 a0_1, .int .i64 a0_2, .int .i64 a0_3] 23 (0, 0)) (by (with_reducible repeat (first | refine blk_drewN ?_ _ | refine blk_drew ?_ | refine blk_alloc ?_ _)); exact BK167.out)) : gb167 ≠ gb212)); have n11_ := Aside0.mk ((by rw [hg]; exact Nat.ne_of_gt (blk_lt (g := gb167) (o := .cells #[.int .i64 a0_0, .int .i64 a0_1, .int .i64 a0_2, .int .i64 a0_3] 23 (0, 0)) (by (with_reducible repeat (first | refine blk_drewN ?_ _ | refine blk_drew ?_ | refine blk_alloc ?_ _)); exact BK167.out)) : gb212 ≠ gb167)); have n12_ := Aside0.mk ((by rw [hg]; exact Nat.ne_of_lt (blk_lt (g := gb168) (o := .cells #[.int .i64 a1_0, .int .i64 a1_1, .bool a1_2, .int .i64 a1_3, .int .i64 a1_4, .bool a1_5, .bool a1_6, .bool a1_7, .int .i64 a1_8, .int .i64 a1_9, .int .i64 a1_10, .bool a1_11] 33 (0, 0)) (by (with_reducible repeat (first | refine blk_drewN ?_ _ | refine blk_drew ?_ | refine blk_alloc ?_ _)); exact BK168.out)) : gb168 ≠ gb212)); have n13_ := Aside0.mk ((by rw [hg]; exact Nat.ne_of_gt (blk_lt (g := gb168) (o := .cells #[.int .i64 a1_0, .int .i64 a1_1, .bool a1_2, .int .i64 a1_3, .int .i64 a1_4, .bool a1_5, .bool a1_6, .bool a1_7, .int .i64 a1_8, .int .i64 a1_9, .int .i64 a1_10, .bool a1_11] 33 (0, 0)) (by (with_reducible repeat (first | refine blk_drewN ?_ _ | refine blk_drew ?_ | refine blk_alloc ?_ _)); exact BK168.out)) : gb212 ≠ gb168)); have n14_ := Aside0.mk ((by rw [hg]; exact Nat.ne_of_lt (blk_lt (g := gb174) (o := .cells #[.int .i64 t169, .int .i64 t170, .int .i64 t171, .int .i64 t172] 23 (0, 0)) (by (with_reducible repeat (first | refine blk_drewN ?_ _ | refine blk_drew ?_ | refine blk_alloc ?_ _)); exact BK174.out)) : gb174 ≠ gb212)); have n15_ := Aside0.mk ((by rw [hg]; exact Nat.ne_of_gt (blk_lt (g := gb174) (o := .cells #[.int .i64 t169, .int .i64 t170, .int .i64 t171, .int .i64 t172] 23 (0, 0)) (by (with_reducible repeat (first | refine blk_drewN ?_ _ | refine blk_drew ?_ | refine blk_alloc ?_ _)); exact BK174.out)) : gb212 ≠ gb174)); have n16_ := Aside0.mk ((by rw [hg]; exact Nat.ne_of_lt (blk_lt (g := gb192) (o := .cells #[.int .i64 t175, .int .i64 t176, .int .i64 t177, .int .i64 t178] 23 (0, 0)) (by (with_reducible repeat (first | refine blk_drewN ?_ _ | refine blk_drew ?_ | refine blk_alloc ?_ _)); exact BK192.out)) : gb192 ≠ gb212)); have n17_ := Aside0.mk ((by rw [hg]; exact Nat.ne_of_gt (blk_lt (g := gb192) (o := .cells #[.int .i64 t175, .int .i64 t176, .int .i64 t177, .int .i64 t178] 23 (0, 0)) (by (with_reducible repeat (first | refine blk_drewN ?_ _ | refine blk_drew ?_ | refine blk_alloc ?_ _)); exact BK192.out)) : gb212 ≠ gb192)); have n18_ := Aside0.mk ((by rw [hg]; exact Nat.ne_of_lt (blk_lt (g := gb193) (o := .cells #[.int .i64 t179, .int .i64 t180, .bool t181, .int .i64 t182, .int .i64 t183, .bool t184, .bool t185, .bool t186, .int .i64 t187, .int .i64 t188, .int .i64 t189, .bool t190] 33 (0, 0)) (by (with_reducible repeat (first | refine blk_drewN ?_ _ | refine blk_drew ?_ | refine blk_alloc ?_ _)); exact BK193.out)) : gb193 ≠ gb212)); have n19_ := Aside0.mk ((by rw [hg]; exact Nat.ne_of_gt (blk_lt (g := gb193) (o := .cells #[.int .i64 t179, .int .i64 t180, .bool t181, .int .i64 t182, .int .i64 t183, .bool t184, .bool t185, .bool t186, .int .i64 t187, .int .i64 t188, .int .i64 t189, .bool t190] 33 (0, 0)) (by (with_reducible repeat (first | refine blk_drewN ?_ _ | refine blk_drew ?_ | refine blk_alloc ?_ _)); exact BK193.out)) : gb212 ≠ gb193)); have n20_ := Aside0.mk ((by rw [hg]; exact Nat.ne_of_lt (blk_lt (g := gb211) (o := .cells #[.int .i64 0, .int .i64 0, .int .i64 0, .int .i64 0] 23 (0, 0)) (by (with_reducible repeat (first | refine blk_drewN ?_ _ | refine blk_drew ?_ | refine blk_alloc ?_ _)); exact BK211.out)) : gb211 ≠ gb212)); have n21_ := Aside0.mk ((by rw [hg]; exact Nat.ne_of_gt (blk_lt (g := gb211) (o := .cells #[.int .i64 0, .int .i64 0, .int .i64 0, .int .i64 0] 23 (0, 0)) (by (with_reducible repeat (first | refine blk_drewN ?_ _ | refine blk_drew ?_ | refine blk_alloc ?_ _)); exact BK211.out)) : gb212 ≠ gb211)); clear BK167; clear BK168; clear BK174; clear BK192; clear BK193; clear BK211; clear HB; have BK167 := n0_; have BK168 := n1_; have BK174 := n2_; have BK192 := n3_; have BK193 := n4_; have BK211 := n5_; have HB := n6_; have BK212 := n7_; have GW212 := n8_; have GE212 := n9_; have NB167_212 := n10_; have NB212_167 := n11_; have NB168_212 := n12_; have NB212_168 := n13_; have NB174_212 := n14_; have NB212_174 := n15_; have NB192_212 := n16_; have NB212_192 := n17_; have NB193_212 := n18_; have NB212_193 := n19_; have NB211_212 := n20_; have NB212_211 := n21_; clear n0_ n1_ n2_ n3_ n4_ n5_ n6_ n7_ n8_ n9_ n10_ n11_ n12_ n13_ n14_ n15_ n16_ n17_ n18_ n19_ n20_ n21_; clear hb hbox hg; have hnb36 := NB211_167.out; have hnc36 := NB167_211.out; have hnb37 := NB211_168.out; have hnc37 := NB168_211.out; have hnb38 := NB211_174.out; have hnc38 := NB174_211.out; have hnb39 := NB211_192.out; have hnc39 := NB192_211.out; have hnb40 := NB211_193.out; have hnc40 := NB193_211.out; have hnb41 := NB211_212.out; have hnc41 := NB212_211.out; have hcz42_0 : w35.cell? ⟨gb211, 0, none⟩ = some (.int .i64 0) := (blk_cell BK211.out 0).trans rfl; have hcz42_1 : w35.cell? ⟨gb211, 1, none⟩ = some (.int .i64 0) := (blk_cell BK211.out 1).trans rfl; have hcz42_2 : w35.cell? ⟨gb211, 2, none⟩ = some (.int .i64 0) := (blk_cell BK211.out 2).trans rfl; have hcz42_3 : w35.cell? ⟨gb211, 3, none⟩ = some (.int .i64 0) := (blk_cell BK211.out 3).trans rfl; have hfz42_0 := blk_frozen BK211.out 0; have hfz42_1 := blk_frozen BK211.out 1; have hfz42_2 := blk_frozen BK211.out 2; have hfz42_3 := blk_frozen BK211.out 3; have hnb43 := NB212_167.out; have hnc43 := NB167_212.out; have hnb44 := NB212_168.out; have hnc44 := NB168_212.out; have hnb45 := NB212_174.out; have hnc45 := NB174_212.out; have hnb46 := NB212_192.out; have hnc46 := NB192_212.out; have hnb47 := NB212_193.out; have hnc47 := NB193_212.out; have hcz48_0 : w35.cell? ⟨gb212, 0, none⟩ = some (.int .i64 0) := (blk_cell BK212.out 0).trans rfl; have hcz48_1 : w35.cell? ⟨gb212, 1, none⟩ = some (.int .i64 0) := (blk_cell BK212.out 1).trans rfl; have hcz48_2 : w35.cell? ⟨gb212, 2, none⟩ = some (.bool false) := (blk_cell BK212.out 2).trans rfl; have hcz48_3 : w35.cell? ⟨gb212, 3, none⟩ = some (.int .i64 0) := (blk_cell BK212.out 3).trans rfl; have hcz48_4 : w35.cell? ⟨gb212, 4, none⟩ = some (.int .i64 0) := (blk_cell BK212.out 4).trans rfl; have hcz48_5 : w35.cell? ⟨gb212, 5, none⟩ = some (.bool false) := (blk_cell BK212.out 5).trans rfl; have hcz48_6 : w35.cell? ⟨gb212, 6, none⟩ = some (.bool false) := (blk_cell BK212.out 6).trans rfl; have hcz48_7 : w35.cell? ⟨gb212, 7, none⟩ = some (.bool false) := (blk_cell BK212.out 7).trans rfl; have hcz48_8 : w35.cell? ⟨gb212, 8, none⟩ = some (.int .i64 0) := (blk_cell BK212.out 8).trans rfl; have hcz48_9 : w35.cell? ⟨gb212, 9, none⟩ = some (.int .i64 0) := (blk_cell BK212.out 9).trans rfl; have hcz48_10 : w35.cell? ⟨gb212, 10, none⟩ = some (.int .i64 0) := (blk_cell BK212.out 10).trans rfl; have hcz48_11 : w35.cell? ⟨gb212, 11, none⟩ = some (.bool false) := (blk_cell BK212.out 11).trans rfl; have hfz48_0 := blk_frozen BK212.out 0; have hfz48_1 := blk_frozen BK212.out 1; have hfz48_2 := blk_frozen BK212.out 2; have hfz48_3 := blk_frozen BK212.out 3; have hfz48_4 := blk_frozen BK212.out 4; have hfz48_5 := blk_frozen BK212.out 5; have hfz48_6 := blk_frozen BK212.out 6; have hfz48_7 := blk_frozen BK212.out 7; have hfz48_8 := blk_frozen BK212.out 8; have hfz48_9 := blk_frozen BK212.out 9; have hfz48_10 := blk_frozen BK212.out 10; have hfz48_11 := blk_frozen BK212.out 11))
  (try simp only [Act.put, List.setIfInBounds_toArray, List.set_cons_zero, List.set_cons_succ])
  go_cut [48] (fun v48 wc => ∃ (kq : Nat) (x48_7 : Bool), v48 = .bool x48_7 ∧ Aside0 (tidewaylaw17_RateIdle.j0 kq x48_7 a0_0 a0_1 a0_2 a0_3 a1_0 a1_1 a1_2 a1_3 a1_4 a1_5 a1_6 a1_7 a1_8 a1_9 a1_10 a1_11 t169 t170 t171 t172 t179 t180 t181 t182 t183 t184 t185 t186 t187 t188 t189 t190 t198 t199 t200 t201 t202 t203 t204 t205 t206 t207 t208 t209 = some r) ∧ Aside0 (kq ≤ k) ∧ Aside0 (wc.heap[gb167]? = some (.cells #[.int .i64 a0_0, .int .i64 a0_1, .int .i64 a0_2, .int .i64 a0_3] 23 (0, 0))) ∧ Aside0 (wc.heap[gb168]? = some (.cells #[.int .i64 a1_0, .int .i64 a1_1, .bool a1_2, .int .i64 a1_3, .int .i64 a1_4, .bool a1_5, .bool a1_6, .bool a1_7, .int .i64 a1_8, .int .i64 a1_9, .int .i64 a1_10, .bool a1_11] 33 (0, 0))) ∧ Aside0 (wc.heap[gb174]? = some (.cells #[.int .i64 t169, .int .i64 t170, .int .i64 t171, .int .i64 t172] 23 (0, 0))) ∧ Aside0 (wc.heap[gb192]? = some (.cells #[.int .i64 t175, .int .i64 t176, .int .i64 t177, .int .i64 t178] 23 (0, 0))) ∧ Aside0 (wc.heap[gb193]? = some (.cells #[.int .i64 t179, .int .i64 t180, .bool t181, .int .i64 t182, .int .i64 t183, .bool t184, .bool t185, .bool t186, .int .i64 t187, .int .i64 t188, .int .i64 t189, .bool t190] 33 (0, 0))) ∧ Aside0 (wc.heap[gb211]? = some (.cells #[.int .i64 t194, .int .i64 t195, .int .i64 t196, .int .i64 t197] 23 (0, 0))) ∧ Aside0 (wc.heap[gb212]? = some (.cells #[.int .i64 t198, .int .i64 t199, .bool t200, .int .i64 t201, .int .i64 t202, .bool t203, .bool t204, .bool t205, .int .i64 t206, .int .i64 t207, .int .i64 t208, .bool t209] 33 (0, 0))) ∧ Aside0 (Below w.heap.size w wc))
  case first =>
    have H := HC8.out
    clear HC8
    by_cases c49 : t173 = 0
    · rw [if_pos c49] at H
      have c49b0 : (t173 == 0) = true := beq_iff_eq.mpr c49
      have c49b1 : (t173 != 0) = false := bne_eq_false_iff_eq.mpr c49
      clear c49
      (first | rw [c49b0] | (simp only [i64_w, i32_w]; rw [c49b0]) | skip)
      by_cases c50 : t191 = 0
      · rw [if_pos c50] at H
        have c50b0 : (t191 == 0) = true := beq_iff_eq.mpr c50
        have c50b1 : (t191 != 0) = false := bne_eq_false_iff_eq.mpr c50
        clear c50
        have H' := Aside0.mk H
        clear H
        go_wp2
        go_meet
        case rel => exact ⟨_, ((t210 != 0)), (by first | rfl | (simp; done) | (simp [*]; done)), H', ⟨by first | omega | exact Nat.le_refl _⟩, ⟨by (with_reducible repeat (first | refine blk_drewN ?_ _ | refine blk_drew ?_ | refine blk_alloc ?_ _)); refine blk_far ?_ NB167_212.out _; (with_reducible repeat (first | refine blk_drewN ?_ _ | refine blk_drew ?_ | refine blk_alloc ?_ _)); refine blk_far ?_ NB167_212.out _; (with_reducible repeat (first | refine blk_drewN ?_ _ | refine blk_drew ?_ | refine blk_alloc ?_ _)); refine blk_far ?_ NB167_212.out _; (with_reducible repeat (first | refine blk_drewN ?_ _ | refine blk_drew ?_ | refine blk_alloc ?_ _)); refine blk_far ?_ NB167_212.out _; (with_reducible repeat (first | refine blk_drewN ?_ _ | refine blk_drew ?_ | refine blk_alloc ?_ _)); refine blk_far ?_ NB167_212.out _; (with_reducible repeat (first | refine blk_drewN ?_ _ | refine blk_drew ?_ | refine blk_alloc ?_ _)); refine blk_far ?_ NB167_212.out _; (with_reducible repeat (first | refine blk_drewN ?_ _ | refine blk_drew ?_ | refine blk_alloc ?_ _)); refine blk_far ?_ NB167_212.out _; (with_reducible repeat (first | refine blk_drewN ?_ _ | refine blk_drew ?_ | refine blk_alloc ?_ _)); refine blk_far ?_ NB167_212.out _; (with_reducible repeat (first | refine blk_drewN ?_ _ | refine blk_drew ?_ | refine blk_alloc ?_ _)); refine blk_far ?_ NB167_212.out _; (with_reducible repeat (first | refine blk_drewN ?_ _ | refine blk_drew ?_ | refine blk_alloc ?_ _)); refine blk_far ?_ NB167_212.out _; (with_reducible repeat (first | refine blk_drewN ?_ _ | refine blk_drew ?_ | refine blk_alloc ?_ _)); refine blk_far ?_ NB167_212.out _; (with_reducible repeat (first | refine blk_drewN ?_ _ | refine blk_drew ?_ | refine blk_alloc ?_ _)); refine blk_far ?_ NB167_212.out _; (with_reducible repeat (first | refine blk_drewN ?_ _ | refine blk_drew ?_ | refine blk_alloc ?_ _)); refine blk_far ?_ NB167_211.out _; (with_reducible repeat (first | refine blk_drewN ?_ _ | refine blk_drew ?_ | refine blk_alloc ?_ _)); refine blk_far ?_ NB167_211.out _; (with_reducible repeat (first | refine blk_drewN ?_ _ | refine blk_drew ?_ | refine blk_alloc ?_ _)); refine blk_far ?_ NB167_211.out _; (with_reducible repeat (first | refine blk_drewN ?_ _ | refine blk_drew ?_ | refine blk_alloc ?_ _)); refine blk_far ?_ NB167_211.out _; (with_reducible repeat (first | refine blk_drewN ?_ _ | refine blk_drew ?_ | refine blk_alloc ?_ _)); exact BK167.out⟩, ⟨by (with_reducible repeat (first | refine blk_drewN ?_ _ | refine blk_drew ?_ | refine blk_alloc ?_ _)); refine blk_far ?_ NB168_212.out _; (with_reducible repeat (first | refine blk_drewN ?_ _ | refine blk_drew ?_ | refine blk_alloc ?_ _)); refine blk_far ?_ NB168_212.out _; (with_reducible repeat (first | refine blk_drewN ?_ _ | refine blk_drew ?_ | refine blk_alloc ?_ _)); refine blk_far ?_ NB168_212.out _; (with_reducible repeat (first | refine blk_drewN ?_ _ | refine blk_drew ?_ | refine blk_alloc ?_ _)); refine blk_far ?_ NB168_212.out _; (with_reducible repeat (first | refine blk_drewN ?_ _ | refine blk_drew ?_ | refine blk_alloc ?_ _)); refine blk_far ?_ NB168_212.out _; (with_reducible repeat (first | refine blk_drewN ?_ _ | refine blk_drew ?_ | refine blk_alloc ?_ _)); refine blk_far ?_ NB168_212.out _; (with_reducible repeat (first | refine blk_drewN ?_ _ | refine blk_drew ?_ | refine blk_alloc ?_ _)); refine blk_far ?_ NB168_212.out _; (with_reducible repeat (first | refine blk_drewN ?_ _ | refine blk_drew ?_ | refine blk_alloc ?_ _)); refine blk_far ?_ NB168_212.out _; (with_reducible repeat (first | refine blk_drewN ?_ _ | refine blk_drew ?_ | refine blk_alloc ?_ _)); refine blk_far ?_ NB168_212.out _; (with_reducible repeat (first | refine blk_drewN ?_ _ | refine blk_drew ?_ | refine blk_alloc ?_ _)); refine blk_far ?_ NB168_212.out _; (with_reducible repeat (first | refine blk_drewN ?_ _ | refine blk_drew ?_ | refine blk_alloc ?_ _)); refine blk_far ?_ NB168_212.out _; (with_reducible repeat (first | refine blk_drewN ?_ _ | refine blk_drew ?_ | refine blk_alloc ?_ _)); refine blk_far ?_ NB168_212.out _; (with_reducible repeat (first | refine blk_drewN ?_ _ | refine blk_drew ?_ | refine blk_alloc ?_ _)); refine blk_far ?_ NB168_211.out _; (with_reducible repeat (first | refine blk_drewN ?_ _ | refine blk_drew ?_ | refine blk_alloc ?_ _)); refine blk_far ?_ NB168_211.out _; (with_reducible repeat (first | refine blk_drewN ?_ _ | refine blk_drew ?_ | refine blk_alloc ?_ _)); refine blk_far ?_ NB168_211.out _; (with_reducible repeat (first | refine blk_drewN ?_ _ | refine blk_drew ?_ | refine blk_alloc ?_ _)); refine blk_far ?_ NB168_211.out _; (with_reducible repeat (first | refine blk_drewN ?_ _ | refine blk_drew ?_ | refine blk_alloc ?_ _)); exact BK168.out⟩, ⟨by (with_reducible repeat (first | refine blk_drewN ?_ _ | refine blk_drew ?_ | refine blk_alloc ?_ _)); refine blk_far ?_ NB174_212.out _; (with_reducible repeat (first | refine blk_drewN ?_ _ | refine blk_drew ?_ | refine blk_alloc ?_ _)); refine blk_far ?_ NB174_212.out _; (with_reducible repeat (first | refine blk_drewN ?_ _ | refine blk_drew ?_ | refine blk_alloc ?_ _)); refine blk_far ?_ NB174_212.out _; (with_reducible repeat (first | refine blk_drewN ?_ _ | refine blk_drew ?_ | refine blk_alloc ?_ _)); refine blk_far ?_ NB174_212.out _; (with_reducible repeat (first | refine blk_drewN ?_ _ | refine blk_drew ?_ | refine blk_alloc ?_ _)); refine blk_far ?_ NB174_212.out _; (with_reducible repeat (first | refine blk_drewN ?_ _ | refine blk_drew ?_ | refine blk_alloc ?_ _)); refine blk_far ?_ NB174_212.out _; (with_reducible repeat (first | refine blk_drewN ?_ _ | refine blk_drew ?_ | refine blk_alloc ?_ _)); refine blk_far ?_ NB174_212.out _; (with_reducible repeat (first | refine blk_drewN ?_ _ | refine blk_drew ?_ | refine blk_alloc ?_ _)); refine blk_far ?_ NB174_212.out _; (with_reducible repeat (first | refine blk_drewN ?_ _ | refine blk_drew ?_ | refine blk_alloc ?_ _)); refine blk_far ?_ NB174_212.out _; (with_reducible repeat (first | refine blk_drewN ?_ _ | refine blk_drew ?_ | refine blk_alloc ?_ _)); refine blk_far ?_ NB174_212.out _; (with_reducible repeat (first | refine blk_drewN ?_ _ | refine blk_drew ?_ | refine blk_alloc ?_ _)); refine blk_far ?_ NB174_212.out _; (with_reducible repeat (first | refine blk_drewN ?_ _ | refine blk_drew ?_ | refine blk_alloc ?_ _)); refine blk_far ?_ NB174_212.out _; (with_reducible repeat (first | refine blk_drewN ?_ _ | refine blk_drew ?_ | refine blk_alloc ?_ _)); refine blk_far ?_ NB174_211.out _; (with_reducible repeat (first | refine blk_drewN ?_ _ | refine blk_drew ?_ | refine blk_alloc ?_ _)); refine blk_far ?_ NB174_211.out _; (with_reducible repeat (first | refine blk_drewN ?_ _ | refine blk_drew ?_ | refine blk_alloc ?_ _)); refine blk_far ?_ NB174_211.out _; (with_reducible repeat (first | refine blk_drewN ?_ _ | refine blk_drew ?_ | refine blk_alloc ?_ _)); refine blk_far ?_ NB174_211.out _; (with_reducible repeat (first | refine blk_drewN ?_ _ | refine blk_drew ?_ | refine blk_alloc ?_ _)); exact BK174.out⟩, ⟨by (with_reducible repeat (first | refine blk_drewN ?_ _ | refine blk_drew ?_ | refine blk_alloc ?_ _)); refine blk_far ?_ NB192_212.out _; (with_reducible repeat (first | refine blk_drewN ?_ _ | refine blk_drew ?_ | refine blk_alloc ?_ _)); refine blk_far ?_ NB192_212.out _; (with_reducible repeat (first | refine blk_drewN ?_ _ | refine blk_drew ?_ | refine blk_alloc ?_ _)); refine blk_far ?_ NB192_212.out _; (with_reducible repeat (first | refine blk_drewN ?_ _ | refine blk_drew ?_ | refine blk_alloc ?_ _)); refine blk_far ?_ NB192_212.out _; (with_reducible repeat (first | refine blk_drewN ?_ _ | refine blk_drew ?_ | refine blk_alloc ?_ _)); refine blk_far ?_ NB192_212.out _; (with_reducible repeat (first | refine blk_drewN ?_ _ | refine blk_drew ?_ | refine blk_alloc ?_ _)); refine blk_far ?_ NB192_212.out _; (with_reducible repeat (first | refine blk_drewN ?_ _ | refine blk_drew ?_ | refine blk_alloc ?_ _)); refine blk_far ?_ NB192_212.out _; (with_reducible repeat (first | refine blk_drewN ?_ _ | refine blk_drew ?_ | refine blk_alloc ?_ _)); refine blk_far ?_ NB192_212.out _; (with_reducible repeat (first | refine blk_drewN ?_ _ | refine blk_drew ?_ | refine blk_alloc ?_ _)); refine blk_far ?_ NB192_212.out _; (with_reducible repeat (first | refine blk_drewN ?_ _ | refine blk_drew ?_ | refine blk_alloc ?_ _)); refine blk_far ?_ NB192_212.out _; (with_reducible repeat (first | refine blk_drewN ?_ _ | refine blk_drew ?_ | refine blk_alloc ?_ _)); refine blk_far ?_ NB192_212.out _; (with_reducible repeat (first | refine blk_drewN ?_ _ | refine blk_drew ?_ | refine blk_alloc ?_ _)); refine blk_far ?_ NB192_212.out _; (with_reducible repeat (first | refine blk_drewN ?_ _ | refine blk_drew ?_ | refine blk_alloc ?_ _)); refine blk_far ?_ NB192_211.out _; (with_reducible repeat (first | refine blk_drewN ?_ _ | refine blk_drew ?_ | refine blk_alloc ?_ _)); refine blk_far ?_ NB192_211.out _; (with_reducible repeat (first | refine blk_drewN ?_ _ | refine blk_drew ?_ | refine blk_alloc ?_ _)); refine blk_far ?_ NB192_211.out _; (with_reducible repeat (first | refine blk_drewN ?_ _ | refine blk_drew ?_ | refine blk_alloc ?_ _)); refine blk_far ?_ NB192_211.out _; (with_reducible repeat (first | refine blk_drewN ?_ _ | refine blk_drew ?_ | refine blk_alloc ?_ _)); exact BK192.out⟩, ⟨by (with_reducible repeat (first | refine blk_drewN ?_ _ | refine blk_drew ?_ | refine blk_alloc ?_ _)); refine blk_far ?_ NB193_212.out _; (with_reducible repeat (first | refine blk_drewN ?_ _ | refine blk_drew ?_ | refine blk_alloc ?_ _)); refine blk_far ?_ NB193_212.out _; (with_reducible repeat (first | refine blk_drewN ?_ _ | refine blk_drew ?_ | refine blk_alloc ?_ _)); refine blk_far ?_ NB193_212.out _; (with_reducible repeat (first | refine blk_drewN ?_ _ | refine blk_drew ?_ | refine blk_alloc ?_ _)); refine blk_far ?_ NB193_212.out _; (with_reducible repeat (first | refine blk_drewN ?_ _ | refine blk_drew ?_ | refine blk_alloc ?_ _)); refine blk_far ?_ NB193_212.out _; (with_reducible repeat (first | refine blk_drewN ?_ _ | refine blk_drew ?_ | refine blk_alloc ?_ _)); refine blk_far ?_ NB193_212.out _; (with_reducible repeat (first | refine blk_drewN ?_ _ | refine blk_drew ?_ | refine blk_alloc ?_ _)); refine blk_far ?_ NB193_212.out _; (with_reducible repeat (first | refine blk_drewN ?_ _ | refine blk_drew ?_ | refine blk_alloc ?_ _)); refine blk_far ?_ NB193_212.out _; (with_reducible repeat (first | refine blk_drewN ?_ _ | refine blk_drew ?_ | refine blk_alloc ?_ _)); refine blk_far ?_ NB193_212.out _; (with_reducible repeat (first | refine blk_drewN ?_ _ | refine blk_drew ?_ | refine blk_alloc ?_ _)); refine blk_far ?_ NB193_212.out _; (with_reducible repeat (first | refine blk_drewN ?_ _ | refine blk_drew ?_ | refine blk_alloc ?_ _)); refine blk_far ?_ NB193_212.out _; (with_reducible repeat (first | refine blk_drewN ?_ _ | refine blk_drew ?_ | refine blk_alloc ?_ _)); refine blk_far ?_ NB193_212.out _; (with_reducible repeat (first | refine blk_drewN ?_ _ | refine blk_drew ?_ | refine blk_alloc ?_ _)); refine blk_far ?_ NB193_211.out _; (with_reducible repeat (first | refine blk_drewN ?_ _ | refine blk_drew ?_ | refine blk_alloc ?_ _)); refine blk_far ?_ NB193_211.out _; (with_reducible repeat (first | refine blk_drewN ?_ _ | refine blk_drew ?_ | refine blk_alloc ?_ _)); refine blk_far ?_ NB193_211.out _; (with_reducible repeat (first | refine blk_drewN ?_ _ | refine blk_drew ?_ | refine blk_alloc ?_ _)); refine blk_far ?_ NB193_211.out _; (with_reducible repeat (first | refine blk_drewN ?_ _ | refine blk_drew ?_ | refine blk_alloc ?_ _)); exact BK193.out⟩, ⟨by (with_reducible repeat (first | refine blk_drewN ?_ _ | refine blk_drew ?_ | refine blk_alloc ?_ _)); refine blk_far ?_ NB211_212.out _; (with_reducible repeat (first | refine blk_drewN ?_ _ | refine blk_drew ?_ | refine blk_alloc ?_ _)); refine blk_far ?_ NB211_212.out _; (with_reducible repeat (first | refine blk_drewN ?_ _ | refine blk_drew ?_ | refine blk_alloc ?_ _)); refine blk_far ?_ NB211_212.out _; (with_reducible repeat (first | refine blk_drewN ?_ _ | refine blk_drew ?_ | refine blk_alloc ?_ _)); refine blk_far ?_ NB211_212.out _; (with_reducible repeat (first | refine blk_drewN ?_ _ | refine blk_drew ?_ | refine blk_alloc ?_ _)); refine blk_far ?_ NB211_212.out _; (with_reducible repeat (first | refine blk_drewN ?_ _ | refine blk_drew ?_ | refine blk_alloc ?_ _)); refine blk_far ?_ NB211_212.out _; (with_reducible repeat (first | refine blk_drewN ?_ _ | refine blk_drew ?_ | refine blk_alloc ?_ _)); refine blk_far ?_ NB211_212.out _; (with_reducible repeat (first | refine blk_drewN ?_ _ | refine blk_drew ?_ | refine blk_alloc ?_ _)); refine blk_far ?_ NB211_212.out _; (with_reducible repeat (first | refine blk_drewN ?_ _ | refine blk_drew ?_ | refine blk_alloc ?_ _)); refine blk_far ?_ NB211_212.out _; (with_reducible repeat (first | refine blk_drewN ?_ _ | refine blk_drew ?_ | refine blk_alloc ?_ _)); refine blk_far ?_ NB211_212.out _; (with_reducible repeat (first | refine blk_drewN ?_ _ | refine blk_drew ?_ | refine blk_alloc ?_ _)); refine blk_far ?_ NB211_212.out _; (with_reducible repeat (first | refine blk_drewN ?_ _ | refine blk_drew ?_ | refine blk_alloc ?_ _)); refine blk_far ?_ NB211_212.out _; (with_reducible repeat (first | refine blk_drewN ?_ _ | refine blk_drew ?_ | refine blk_alloc ?_ _)); refine blk_put (cs := #[.int .i64 t194, .int .i64 t195, .int .i64 t196, .int .i64 0]) ?_ 3 _ rfl; (with_reducible repeat (first | refine blk_drewN ?_ _ | refine blk_drew ?_ | refine blk_alloc ?_ _)); refine blk_put (cs := #[.int .i64 t194, .int .i64 t195, .int .i64 0, .int .i64 0]) ?_ 2 _ rfl; (with_reducible repeat (first | refine blk_drewN ?_ _ | refine blk_drew ?_ | refine blk_alloc ?_ _)); refine blk_put (cs := #[.int .i64 t194, .int .i64 0, .int .i64 0, .int .i64 0]) ?_ 1 _ rfl; (with_reducible repeat (first | refine blk_drewN ?_ _ | refine blk_drew ?_ | refine blk_alloc ?_ _)); refine blk_put (cs := #[.int .i64 0, .int .i64 0, .int .i64 0, .int .i64 0]) ?_ 0 _ rfl; (with_reducible repeat (first | refine blk_drewN ?_ _ | refine blk_drew ?_ | refine blk_alloc ?_ _)); exact BK211.out⟩, ⟨by (with_reducible repeat (first | refine blk_drewN ?_ _ | refine blk_drew ?_ | refine blk_alloc ?_ _)); refine blk_put (cs := #[.int .i64 t198, .int .i64 t199, .bool t200, .int .i64 t201, .int .i64 t202, .bool t203, .bool t204, .bool t205, .int .i64 t206, .int .i64 t207, .int .i64 t208, .bool false]) ?_ 11 _ rfl; (with_reducible repeat (first | refine blk_drewN ?_ _ | refine blk_drew ?_ | refine blk_alloc ?_ _)); refine blk_put (cs := #[.int .i64 t198, .int .i64 t199, .bool t200, .int .i64 t201, .int .i64 t202, .bool t203, .bool t204, .bool t205, .int .i64 t206, .int .i64 t207, .int .i64 0, .bool false]) ?_ 10 _ rfl; (with_reducible repeat (first | refine blk_drewN ?_ _ | refine blk_drew ?_ | refine blk_alloc ?_ _)); refine blk_put (cs := #[.int .i64 t198, .int .i64 t199, .bool t200, .int .i64 t201, .int .i64 t202, .bool t203, .bool t204, .bool t205, .int .i64 t206, .int .i64 0, .int .i64 0, .bool false]) ?_ 9 _ rfl; (with_reducible repeat (first | refine blk_drewN ?_ _ | refine blk_drew ?_ | refine blk_alloc ?_ _)); refine blk_put (cs := #[.int .i64 t198, .int .i64 t199, .bool t200, .int .i64 t201, .int .i64 t202, .bool t203, .bool t204, .bool t205, .int .i64 0, .int .i64 0, .int .i64 0, .bool false]) ?_ 8 _ rfl; (with_reducible repeat (first | refine blk_drewN ?_ _ | refine blk_drew ?_ | refine blk_alloc ?_ _)); refine blk_put (cs := #[.int .i64 t198, .int .i64 t199, .bool t200, .int .i64 t201, .int .i64 t202, .bool t203, .bool t204, .bool false, .int .i64 0, .int .i64 0, .int .i64 0, .bool false]) ?_ 7 _ rfl; (with_reducible repeat (first | refine blk_drewN ?_ _ | refine blk_drew ?_ | refine blk_alloc ?_ _)); refine blk_put (cs := #[.int .i64 t198, .int .i64 t199, .bool t200, .int .i64 t201, .int .i64 t202, .bool t203, .bool false, .bool false, .int .i64 0, .int .i64 0, .int .i64 0, .bool false]) ?_ 6 _ rfl; (with_reducible repeat (first | refine blk_drewN ?_ _ | refine blk_drew ?_ | refine blk_alloc ?_ _)); refine blk_put (cs := #[.int .i64 t198, .int .i64 t199, .bool t200, .int .i64 t201, .int .i64 t202, .bool false, .bool false, .bool false, .int .i64 0, .int .i64 0, .int .i64 0, .bool false]) ?_ 5 _ rfl; (with_reducible repeat (first | refine blk_drewN ?_ _ | refine blk_drew ?_ | refine blk_alloc ?_ _)); refine blk_put (cs := #[.int .i64 t198, .int .i64 t199, .bool t200, .int .i64 t201, .int .i64 0, .bool false, .bool false, .bool false, .int .i64 0, .int .i64 0, .int .i64 0, .bool false]) ?_ 4 _ rfl; (with_reducible repeat (first | refine blk_drewN ?_ _ | refine blk_drew ?_ | refine blk_alloc ?_ _)); refine blk_put (cs := #[.int .i64 t198, .int .i64 t199, .bool t200, .int .i64 0, .int .i64 0, .bool false, .bool false, .bool false, .int .i64 0, .int .i64 0, .int .i64 0, .bool false]) ?_ 3 _ rfl; (with_reducible repeat (first | refine blk_drewN ?_ _ | refine blk_drew ?_ | refine blk_alloc ?_ _)); refine blk_put (cs := #[.int .i64 t198, .int .i64 t199, .bool false, .int .i64 0, .int .i64 0, .bool false, .bool false, .bool false, .int .i64 0, .int .i64 0, .int .i64 0, .bool false]) ?_ 2 _ rfl; (with_reducible repeat (first | refine blk_drewN ?_ _ | refine blk_drew ?_ | refine blk_alloc ?_ _)); refine blk_put (cs := #[.int .i64 t198, .int .i64 0, .bool false, .int .i64 0, .int .i64 0, .bool false, .bool false, .bool false, .int .i64 0, .int .i64 0, .int .i64 0, .bool false]) ?_ 1 _ rfl; (with_reducible repeat (first | refine blk_drewN ?_ _ | refine blk_drew ?_ | refine blk_alloc ?_ _)); refine blk_put (cs := #[.int .i64 0, .int .i64 0, .bool false, .int .i64 0, .int .i64 0, .bool false, .bool false, .bool false, .int .i64 0, .int .i64 0, .int .i64 0, .bool false]) ?_ 0 _ rfl; (with_reducible repeat (first | refine blk_drewN ?_ _ | refine blk_drew ?_ | refine blk_alloc ?_ _)); refine blk_far ?_ NB212_211.out _; (with_reducible repeat (first | refine blk_drewN ?_ _ | refine blk_drew ?_ | refine blk_alloc ?_ _)); refine blk_far ?_ NB212_211.out _; (with_reducible repeat (first | refine blk_drewN ?_ _ | refine blk_drew ?_ | refine blk_alloc ?_ _)); refine blk_far ?_ NB212_211.out _; (with_reducible repeat (first | refine blk_drewN ?_ _ | refine blk_drew ?_ | refine blk_alloc ?_ _)); refine blk_far ?_ NB212_211.out _; (with_reducible repeat (first | refine blk_drewN ?_ _ | refine blk_drew ?_ | refine blk_alloc ?_ _)); exact BK212.out⟩, ⟨by repeat (first | (with_reducible first | exact HB.out | apply below_alloc | apply pw_below_drewN | apply below_drew1 | refine below_set ?_ GE167.out | refine below_set ?_ GE168.out | refine below_set ?_ GE174.out | refine below_set ?_ GE192.out | refine below_set ?_ GE193.out | refine below_set ?_ GE211.out | refine below_set ?_ GE212.out) | exact HB.out)⟩⟩
      · rw [if_neg c50] at H
        have c50b0 : (t191 == 0) = false := beq_eq_false_iff_ne.mpr c50
        have c50b1 : (t191 != 0) = true := bne_iff_ne.mpr c50
        have H' := Aside0.mk H
        clear H
        go_wp2
        go_meet
        case rel => exact ⟨_, (true), (by first | rfl | (simp; done) | (simp [*]; done)), H', ⟨by first | omega | exact Nat.le_refl _⟩, ⟨by (with_reducible repeat (first | refine blk_drewN ?_ _ | refine blk_drew ?_ | refine blk_alloc ?_ _)); refine blk_far ?_ NB167_212.out _; (with_reducible repeat (first | refine blk_drewN ?_ _ | refine blk_drew ?_ | refine blk_alloc ?_ _)); refine blk_far ?_ NB167_212.out _; (with_reducible repeat (first | refine blk_drewN ?_ _ | refine blk_drew ?_ | refine blk_alloc ?_ _)); refine blk_far ?_ NB167_212.out _; (with_reducible repeat (first | refine blk_drewN ?_ _ | refine blk_drew ?_ | refine blk_alloc ?_ _)); refine blk_far ?_ NB167_212.out _; (with_reducible repeat (first | refine blk_drewN ?_ _ | refine blk_drew ?_ | refine blk_alloc ?_ _)); refine blk_far ?_ NB167_212.out _; (with_reducible repeat (first | refine blk_drewN ?_ _ | refine blk_drew ?_ | refine blk_alloc ?_ _)); refine blk_far ?_ NB167_212.out _; (with_reducible repeat (first | refine blk_drewN ?_ _ | refine blk_drew ?_ | refine blk_alloc ?_ _)); refine blk_far ?_ NB167_212.out _; (with_reducible repeat (first | refine blk_drewN ?_ _ | refine blk_drew ?_ | refine blk_alloc ?_ _)); refine blk_far ?_ NB167_212.out _; (with_reducible repeat (first | refine blk_drewN ?_ _ | refine blk_drew ?_ | refine blk_alloc ?_ _)); refine blk_far ?_ NB167_212.out _; (with_reducible repeat (first | refine blk_drewN ?_ _ | refine blk_drew ?_ | refine blk_alloc ?_ _)); refine blk_far ?_ NB167_212.out _; (with_reducible repeat (first | refine blk_drewN ?_ _ | refine blk_drew ?_ | refine blk_alloc ?_ _)); refine blk_far ?_ NB167_212.out _; (with_reducible repeat (first | refine blk_drewN ?_ _ | refine blk_drew ?_ | refine blk_alloc ?_ _)); refine blk_far ?_ NB167_212.out _; (with_reducible repeat (first | refine blk_drewN ?_ _ | refine blk_drew ?_ | refine blk_alloc ?_ _)); refine blk_far ?_ NB167_211.out _; (with_reducible repeat (first | refine blk_drewN ?_ _ | refine blk_drew ?_ | refine blk_alloc ?_ _)); refine blk_far ?_ NB167_211.out _; (with_reducible repeat (first | refine blk_drewN ?_ _ | refine blk_drew ?_ | refine blk_alloc ?_ _)); refine blk_far ?_ NB167_211.out _; (with_reducible repeat (first | refine blk_drewN ?_ _ | refine blk_drew ?_ | refine blk_alloc ?_ _)); refine blk_far ?_ NB167_211.out _; (with_reducible repeat (first | refine blk_drewN ?_ _ | refine blk_drew ?_ | refine blk_alloc ?_ _)); exact BK167.out⟩, ⟨by (with_reducible repeat (first | refine blk_drewN ?_ _ | refine blk_drew ?_ | refine blk_alloc ?_ _)); refine blk_far ?_ NB168_212.out _; (with_reducible repeat (first | refine blk_drewN ?_ _ | refine blk_drew ?_ | refine blk_alloc ?_ _)); refine blk_far ?_ NB168_212.out _; (with_reducible repeat (first | refine blk_drewN ?_ _ | refine blk_drew ?_ | refine blk_alloc ?_ _)); refine blk_far ?_ NB168_212.out _; (with_reducible repeat (first | refine blk_drewN ?_ _ | refine blk_drew ?_ | refine blk_alloc ?_ _)); refine blk_far ?_ NB168_212.out _; (with_reducible repeat (first | refine blk_drewN ?_ _ | refine blk_drew ?_ | refine blk_alloc ?_ _)); refine blk_far ?_ NB168_212.out _; (with_reducible repeat (first | refine blk_drewN ?_ _ | refine blk_drew ?_ | refine blk_alloc ?_ _)); refine blk_far ?_ NB168_212.out _; (with_reducible repeat (first | refine blk_drewN ?_ _ | refine blk_drew ?_ | refine blk_alloc ?_ _)); refine blk_far ?_ NB168_212.out _; (with_reducible repeat (first | refine blk_drewN ?_ _ | refine blk_drew ?_ | refine blk_alloc ?_ _)); refine blk_far ?_ NB168_212.out _; (with_reducible repeat (first | refine blk_drewN ?_ _ | refine blk_drew ?_ | refine blk_alloc ?_ _)); refine blk_far ?_ NB168_212.out _; (with_reducible repeat (first | refine blk_drewN ?_ _ | refine blk_drew ?_ | refine blk_alloc ?_ _)); refine blk_far ?_ NB168_212.out _; (with_reducible repeat (first | refine blk_drewN ?_ _ | refine blk_drew ?_ | refine blk_alloc ?_ _)); refine blk_far ?_ NB168_212.out _; (with_reducible repeat (first | refine blk_drewN ?_ _ | refine blk_drew ?_ | refine blk_alloc ?_ _)); refine blk_far ?_ NB168_212.out _; (with_reducible repeat (first | refine blk_drewN ?_ _ | refine blk_drew ?_ | refine blk_alloc ?_ _)); refine blk_far ?_ NB168_211.out _; (with_reducible repeat (first | refine blk_drewN ?_ _ | refine blk_drew ?_ | refine blk_alloc ?_ _)); refine blk_far ?_ NB168_211.out _; (with_reducible repeat (first | refine blk_drewN ?_ _ | refine blk_drew ?_ | refine blk_alloc ?_ _)); refine blk_far ?_ NB168_211.out _; (with_reducible repeat (first | refine blk_drewN ?_ _ | refine blk_drew ?_ | refine blk_alloc ?_ _)); refine blk_far ?_ NB168_211.out _; (with_reducible repeat (first | refine blk_drewN ?_ _ | refine blk_drew ?_ | refine blk_alloc ?_ _)); exact BK168.out⟩, ⟨by (with_reducible repeat (first | refine blk_drewN ?_ _ | refine blk_drew ?_ | refine blk_alloc ?_ _)); refine blk_far ?_ NB174_212.out _; (with_reducible repeat (first | refine blk_drewN ?_ _ | refine blk_drew ?_ | refine blk_alloc ?_ _)); refine blk_far ?_ NB174_212.out _; (with_reducible repeat (first | refine blk_drewN ?_ _ | refine blk_drew ?_ | refine blk_alloc ?_ _)); refine blk_far ?_ NB174_212.out _; (with_reducible repeat (first | refine blk_drewN ?_ _ | refine blk_drew ?_ | refine blk_alloc ?_ _)); refine blk_far ?_ NB174_212.out _; (with_reducible repeat (first | refine blk_drewN ?_ _ | refine blk_drew ?_ | refine blk_alloc ?_ _)); refine blk_far ?_ NB174_212.out _; (with_reducible repeat (first | refine blk_drewN ?_ _ | refine blk_drew ?_ | refine blk_alloc ?_ _)); refine blk_far ?_ NB174_212.out _; (with_reducible repeat (first | refine blk_drewN ?_ _ | refine blk_drew ?_ | refine blk_alloc ?_ _)); refine blk_far ?_ NB174_212.out _; (with_reducible repeat (first | refine blk_drewN ?_ _ | refine blk_drew ?_ | refine blk_alloc ?_ _)); refine blk_far ?_ NB174_212.out _; (with_reducible repeat (first | refine blk_drewN ?_ _ | refine blk_drew ?_ | refine blk_alloc ?_ _)); refine blk_far ?_ NB174_212.out _; (with_reducible repeat (first | refine blk_drewN ?_ _ | refine blk_drew ?_ | refine blk_alloc ?_ _)); refine blk_far ?_ NB174_212.out _; (with_reducible repeat (first | refine blk_drewN ?_ _ | refine blk_drew ?_ | refine blk_alloc ?_ _)); refine blk_far ?_ NB174_212.out _; (with_reducible repeat (first | refine blk_drewN ?_ _ | refine blk_drew ?_ | refine blk_alloc ?_ _)); refine blk_far ?_ NB174_212.out _; (with_reducible repeat (first | refine blk_drewN ?_ _ | refine blk_drew ?_ | refine blk_alloc ?_ _)); refine blk_far ?_ NB174_211.out _; (with_reducible repeat (first | refine blk_drewN ?_ _ | refine blk_drew ?_ | refine blk_alloc ?_ _)); refine blk_far ?_ NB174_211.out _; (with_reducible repeat (first | refine blk_drewN ?_ _ | refine blk_drew ?_ | refine blk_alloc ?_ _)); refine blk_far ?_ NB174_211.out _; (with_reducible repeat (first | refine blk_drewN ?_ _ | refine blk_drew ?_ | refine blk_alloc ?_ _)); refine blk_far ?_ NB174_211.out _; (with_reducible repeat (first | refine blk_drewN ?_ _ | refine blk_drew ?_ | refine blk_alloc ?_ _)); exact BK174.out⟩, ⟨by (with_reducible repeat (first | refine blk_drewN ?_ _ | refine blk_drew ?_ | refine blk_alloc ?_ _)); refine blk_far ?_ NB192_212.out _; (with_reducible repeat (first | refine blk_drewN ?_ _ | refine blk_drew ?_ | refine blk_alloc ?_ _)); refine blk_far ?_ NB192_212.out _; (with_reducible repeat (first | refine blk_drewN ?_ _ | refine blk_drew ?_ | refine blk_alloc ?_ _)); refine blk_far ?_ NB192_212.out _; (with_reducible repeat (first | refine blk_drewN ?_ _ | refine blk_drew ?_ | refine blk_alloc ?_ _)); refine blk_far ?_ NB192_212.out _; (with_reducible repeat (first | refine blk_drewN ?_ _ | refine blk_drew ?_ | refine blk_alloc ?_ _)); refine blk_far ?_ NB192_212.out _; (with_reducible repeat (first | refine blk_drewN ?_ _ | refine blk_drew ?_ | refine blk_alloc ?_ _)); refine blk_far ?_ NB192_212.out _; (with_reducible repeat (first | refine blk_drewN ?_ _ | refine blk_drew ?_ | refine blk_alloc ?_ _)); refine blk_far ?_ NB192_212.out _; (with_reducible repeat (first | refine blk_drewN ?_ _ | refine blk_drew ?_ | refine blk_alloc ?_ _)); refine blk_far ?_ NB192_212.out _; (with_reducible repeat (first | refine blk_drewN ?_ _ | refine blk_drew ?_ | refine blk_alloc ?_ _)); refine blk_far ?_ NB192_212.out _; (with_reducible repeat (first | refine blk_drewN ?_ _ | refine blk_drew ?_ | refine blk_alloc ?_ _)); refine blk_far ?_ NB192_212.out _; (with_reducible repeat (first | refine blk_drewN ?_ _ | refine blk_drew ?_ | refine blk_alloc ?_ _)); refine blk_far ?_ NB192_212.out _; (with_reducible repeat (first | refine blk_drewN ?_ _ | refine blk_drew ?_ | refine blk_alloc ?_ _)); refine blk_far ?_ NB192_212.out _; (with_reducible repeat (first | refine blk_drewN ?_ _ | refine blk_drew ?_ | refine blk_alloc ?_ _)); refine blk_far ?_ NB192_211.out _; (with_reducible repeat (first | refine blk_drewN ?_ _ | refine blk_drew ?_ | refine blk_alloc ?_ _)); refine blk_far ?_ NB192_211.out _; (with_reducible repeat (first | refine blk_drewN ?_ _ | refine blk_drew ?_ | refine blk_alloc ?_ _)); refine blk_far ?_ NB192_211.out _; (with_reducible repeat (first | refine blk_drewN ?_ _ | refine blk_drew ?_ | refine blk_alloc ?_ _)); refine blk_far ?_ NB192_211.out _; (with_reducible repeat (first | refine blk_drewN ?_ _ | refine blk_drew ?_ | refine blk_alloc ?_ _)); exact BK192.out⟩, ⟨by (with_reducible repeat (first | refine blk_drewN ?_ _ | refine blk_drew ?_ | refine blk_alloc ?_ _)); refine blk_far ?_ NB193_212.out _; (with_reducible repeat (first | refine blk_drewN ?_ _ | refine blk_drew ?_ | refine blk_alloc ?_ _)); refine blk_far ?_ NB193_212.out _; (with_reducible repeat (first | refine blk_drewN ?_ _ | refine blk_drew ?_ | refine blk_alloc ?_ _)); refine blk_far ?_ NB193_212.out _; (with_reducible repeat (first | refine blk_drewN ?_ _ | refine blk_drew ?_ | refine blk_alloc ?_ _)); refine blk_far ?_ NB193_212.out _; (with_reducible repeat (first | refine blk_drewN ?_ _ | refine blk_drew ?_ | refine blk_alloc ?_ _)); refine blk_far ?_ NB193_212.out _; (with_reducible repeat (first | refine blk_drewN ?_ _ | refine blk_drew ?_ | refine blk_alloc ?_ _)); refine blk_far ?_ NB193_212.out _; (with_reducible repeat (first | refine blk_drewN ?_ _ | refine blk_drew ?_ | refine blk_alloc ?_ _)); refine blk_far ?_ NB193_212.out _; (with_reducible repeat (first | refine blk_drewN ?_ _ | refine blk_drew ?_ | refine blk_alloc ?_ _)); refine blk_far ?_ NB193_212.out _; (with_reducible repeat (first | refine blk_drewN ?_ _ | refine blk_drew ?_ | refine blk_alloc ?_ _)); refine blk_far ?_ NB193_212.out _; (with_reducible repeat (first | refine blk_drewN ?_ _ | refine blk_drew ?_ | refine blk_alloc ?_ _)); refine blk_far ?_ NB193_212.out _; (with_reducible repeat (first | refine blk_drewN ?_ _ | refine blk_drew ?_ | refine blk_alloc ?_ _)); refine blk_far ?_ NB193_212.out _; (with_reducible repeat (first | refine blk_drewN ?_ _ | refine blk_drew ?_ | refine blk_alloc ?_ _)); refine blk_far ?_ NB193_212.out _; (with_reducible repeat (first | refine blk_drewN ?_ _ | refine blk_drew ?_ | refine blk_alloc ?_ _)); refine blk_far ?_ NB193_211.out _; (with_reducible repeat (first | refine blk_drewN ?_ _ | refine blk_drew ?_ | refine blk_alloc ?_ _)); refine blk_far ?_ NB193_211.out _; (with_reducible repeat (first | refine blk_drewN ?_ _ | refine blk_drew ?_ | refine blk_alloc ?_ _)); refine blk_far ?_ NB193_211.out _; (with_reducible repeat (first | refine blk_drewN ?_ _ | refine blk_drew ?_ | refine blk_alloc ?_ _)); refine blk_far ?_ NB193_211.out _; (with_reducible repeat (first | refine blk_drewN ?_ _ | refine blk_drew ?_ | refine blk_alloc ?_ _)); exact BK193.out⟩, ⟨by (with_reducible repeat (first | refine blk_drewN ?_ _ | refine blk_drew ?_ | refine blk_alloc ?_ _)); refine blk_far ?_ NB211_212.out _; (with_reducible repeat (first | refine blk_drewN ?_ _ | refine blk_drew ?_ | refine blk_alloc ?_ _)); refine blk_far ?_ NB211_212.out _; (with_reducible repeat (first | refine blk_drewN ?_ _ | refine blk_drew ?_ | refine blk_alloc ?_ _)); refine blk_far ?_ NB211_212.out _; (with_reducible repeat (first | refine blk_drewN ?_ _ | refine blk_drew ?_ | refine blk_alloc ?_ _)); refine blk_far ?_ NB211_212.out _; (with_reducible repeat (first | refine blk_drewN ?_ _ | refine blk_drew ?_ | refine blk_alloc ?_ _)); refine blk_far ?_ NB211_212.out _; (with_reducible repeat (first | refine blk_drewN ?_ _ | refine blk_drew ?_ | refine blk_alloc ?_ _)); refine blk_far ?_ NB211_212.out _; (with_reducible repeat (first | refine blk_drewN ?_ _ | refine blk_drew ?_ | refine blk_alloc ?_ _)); refine blk_far ?_ NB211_212.out _; (with_reducible repeat (first | refine blk_drewN ?_ _ | refine blk_drew ?_ | refine blk_alloc ?_ _)); refine blk_far ?_ NB211_212.out _; (with_reducible repeat (first | refine blk_drewN ?_ _ | refine blk_drew ?_ | refine blk_alloc ?_ _)); refine blk_far ?_ NB211_212.out _; (with_reducible repeat (first | refine blk_drewN ?_ _ | refine blk_drew ?_ | refine blk_alloc ?_ _)); refine blk_far ?_ NB211_212.out _; (with_reducible repeat (first | refine blk_drewN ?_ _ | refine blk_drew ?_ | refine blk_alloc ?_ _)); refine blk_far ?_ NB211_212.out _; (with_reducible repeat (first | refine blk_drewN ?_ _ | refine blk_drew ?_ | refine blk_alloc ?_ _)); refine blk_far ?_ NB211_212.out _; (with_reducible repeat (first | refine blk_drewN ?_ _ | refine blk_drew ?_ | refine blk_alloc ?_ _)); refine blk_put (cs := #[.int .i64 t194, .int .i64 t195, .int .i64 t196, .int .i64 0]) ?_ 3 _ rfl; (with_reducible repeat (first | refine blk_drewN ?_ _ | refine blk_drew ?_ | refine blk_alloc ?_ _)); refine blk_put (cs := #[.int .i64 t194, .int .i64 t195, .int .i64 0, .int .i64 0]) ?_ 2 _ rfl; (with_reducible repeat (first | refine blk_drewN ?_ _ | refine blk_drew ?_ | refine blk_alloc ?_ _)); refine blk_put (cs := #[.int .i64 t194, .int .i64 0, .int .i64 0, .int .i64 0]) ?_ 1 _ rfl; (with_reducible repeat (first | refine blk_drewN ?_ _ | refine blk_drew ?_ | refine blk_alloc ?_ _)); refine blk_put (cs := #[.int .i64 0, .int .i64 0, .int .i64 0, .int .i64 0]) ?_ 0 _ rfl; (with_reducible repeat (first | refine blk_drewN ?_ _ | refine blk_drew ?_ | refine blk_alloc ?_ _)); exact BK211.out⟩, ⟨by (with_reducible repeat (first | refine blk_drewN ?_ _ | refine blk_drew ?_ | refine blk_alloc ?_ _)); refine blk_put (cs := #[.int .i64 t198, .int .i64 t199, .bool t200, .int .i64 t201, .int .i64 t202, .bool t203, .bool t204, .bool t205, .int .i64 t206, .int .i64 t207, .int .i64 t208, .bool false]) ?_ 11 _ rfl; (with_reducible repeat (first | refine blk_drewN ?_ _ | refine blk_drew ?_ | refine blk_alloc ?_ _)); refine blk_put (cs := #[.int .i64 t198, .int .i64 t199, .bool t200, .int .i64 t201, .int .i64 t202, .bool t203, .bool t204, .bool t205, .int .i64 t206, .int .i64 t207, .int .i64 0, .bool false]) ?_ 10 _ rfl; (with_reducible repeat (first | refine blk_drewN ?_ _ | refine blk_drew ?_ | refine blk_alloc ?_ _)); refine blk_put (cs := #[.int .i64 t198, .int .i64 t199, .bool t200, .int .i64 t201, .int .i64 t202, .bool t203, .bool t204, .bool t205, .int .i64 t206, .int .i64 0, .int .i64 0, .bool false]) ?_ 9 _ rfl; (with_reducible repeat (first | refine blk_drewN ?_ _ | refine blk_drew ?_ | refine blk_alloc ?_ _)); refine blk_put (cs := #[.int .i64 t198, .int .i64 t199, .bool t200, .int .i64 t201, .int .i64 t202, .bool t203, .bool t204, .bool t205, .int .i64 0, .int .i64 0, .int .i64 0, .bool false]) ?_ 8 _ rfl; (with_reducible repeat (first | refine blk_drewN ?_ _ | refine blk_drew ?_ | refine blk_alloc ?_ _)); refine blk_put (cs := #[.int .i64 t198, .int .i64 t199, .bool t200, .int .i64 t201, .int .i64 t202, .bool t203, .bool t204, .bool false, .int .i64 0, .int .i64 0, .int .i64 0, .bool false]) ?_ 7 _ rfl; (with_reducible repeat (first | refine blk_drewN ?_ _ | refine blk_drew ?_ | refine blk_alloc ?_ _)); refine blk_put (cs := #[.int .i64 t198, .int .i64 t199, .bool t200, .int .i64 t201, .int .i64 t202, .bool t203, .bool false, .bool false, .int .i64 0, .int .i64 0, .int .i64 0, .bool false]) ?_ 6 _ rfl; (with_reducible repeat (first | refine blk_drewN ?_ _ | refine blk_drew ?_ | refine blk_alloc ?_ _)); refine blk_put (cs := #[.int .i64 t198, .int .i64 t199, .bool t200, .int .i64 t201, .int .i64 t202, .bool false, .bool false, .bool false, .int .i64 0, .int .i64 0, .int .i64 0, .bool false]) ?_ 5 _ rfl; (with_reducible repeat (first | refine blk_drewN ?_ _ | refine blk_drew ?_ | refine blk_alloc ?_ _)); refine blk_put (cs := #[.int .i64 t198, .int .i64 t199, .bool t200, .int .i64 t201, .int .i64 0, .bool false, .bool false, .bool false, .int .i64 0, .int .i64 0, .int .i64 0, .bool false]) ?_ 4 _ rfl; (with_reducible repeat (first | refine blk_drewN ?_ _ | refine blk_drew ?_ | refine blk_alloc ?_ _)); refine blk_put (cs := #[.int .i64 t198, .int .i64 t199, .bool t200, .int .i64 0, .int .i64 0, .bool false, .bool false, .bool false, .int .i64 0, .int .i64 0, .int .i64 0, .bool false]) ?_ 3 _ rfl; (with_reducible repeat (first | refine blk_drewN ?_ _ | refine blk_drew ?_ | refine blk_alloc ?_ _)); refine blk_put (cs := #[.int .i64 t198, .int .i64 t199, .bool false, .int .i64 0, .int .i64 0, .bool false, .bool false, .bool false, .int .i64 0, .int .i64 0, .int .i64 0, .bool false]) ?_ 2 _ rfl; (with_reducible repeat (first | refine blk_drewN ?_ _ | refine blk_drew ?_ | refine blk_alloc ?_ _)); refine blk_put (cs := #[.int .i64 t198, .int .i64 0, .bool false, .int .i64 0, .int .i64 0, .bool false, .bool false, .bool false, .int .i64 0, .int .i64 0, .int .i64 0, .bool false]) ?_ 1 _ rfl; (with_reducible repeat (first | refine blk_drewN ?_ _ | refine blk_drew ?_ | refine blk_alloc ?_ _)); refine blk_put (cs := #[.int .i64 0, .int .i64 0, .bool false, .int .i64 0, .int .i64 0, .bool false, .bool false, .bool false, .int .i64 0, .int .i64 0, .int .i64 0, .bool false]) ?_ 0 _ rfl; (with_reducible repeat (first | refine blk_drewN ?_ _ | refine blk_drew ?_ | refine blk_alloc ?_ _)); refine blk_far ?_ NB212_211.out _; (with_reducible repeat (first | refine blk_drewN ?_ _ | refine blk_drew ?_ | refine blk_alloc ?_ _)); refine blk_far ?_ NB212_211.out _; (with_reducible repeat (first | refine blk_drewN ?_ _ | refine blk_drew ?_ | refine blk_alloc ?_ _)); refine blk_far ?_ NB212_211.out _; (with_reducible repeat (first | refine blk_drewN ?_ _ | refine blk_drew ?_ | refine blk_alloc ?_ _)); refine blk_far ?_ NB212_211.out _; (with_reducible repeat (first | refine blk_drewN ?_ _ | refine blk_drew ?_ | refine blk_alloc ?_ _)); exact BK212.out⟩, ⟨by repeat (first | (with_reducible first | exact HB.out | apply below_alloc | apply pw_below_drewN | apply below_drew1 | refine below_set ?_ GE167.out | refine below_set ?_ GE168.out | refine below_set ?_ GE174.out | refine below_set ?_ GE192.out | refine below_set ?_ GE193.out | refine below_set ?_ GE211.out | refine below_set ?_ GE212.out) | exact HB.out)⟩⟩
    · rw [if_neg c49] at H
      have c49b0 : (t173 == 0) = false := beq_eq_false_iff_ne.mpr c49
      have c49b1 : (t173 != 0) = true := bne_iff_ne.mpr c49
      (first | rw [c49b0] | (simp only [i64_w, i32_w]; rw [c49b0]) | skip)
      have H' := Aside0.mk H
      clear H
      go_wp2
      go_meet
      case rel => exact ⟨_, (true), (by first | rfl | (simp; done) | (simp [*]; done)), H', ⟨by first | omega | exact Nat.le_refl _⟩, ⟨by (with_reducible repeat (first | refine blk_drewN ?_ _ | refine blk_drew ?_ | refine blk_alloc ?_ _)); refine blk_far ?_ NB167_212.out _; (with_reducible repeat (first | refine blk_drewN ?_ _ | refine blk_drew ?_ | refine blk_alloc ?_ _)); refine blk_far ?_ NB167_212.out _; (with_reducible repeat (first | refine blk_drewN ?_ _ | refine blk_drew ?_ | refine blk_alloc ?_ _)); refine blk_far ?_ NB167_212.out _; (with_reducible repeat (first | refine blk_drewN ?_ _ | refine blk_drew ?_ | refine blk_alloc ?_ _)); refine blk_far ?_ NB167_212.out _; (with_reducible repeat (first | refine blk_drewN ?_ _ | refine blk_drew ?_ | refine blk_alloc ?_ _)); refine blk_far ?_ NB167_212.out _; (with_reducible repeat (first | refine blk_drewN ?_ _ | refine blk_drew ?_ | refine blk_alloc ?_ _)); refine blk_far ?_ NB167_212.out _; (with_reducible repeat (first | refine blk_drewN ?_ _ | refine blk_drew ?_ | refine blk_alloc ?_ _)); refine blk_far ?_ NB167_212.out _; (with_reducible repeat (first | refine blk_drewN ?_ _ | refine blk_drew ?_ | refine blk_alloc ?_ _)); refine blk_far ?_ NB167_212.out _; (with_reducible repeat (first | refine blk_drewN ?_ _ | refine blk_drew ?_ | refine blk_alloc ?_ _)); refine blk_far ?_ NB167_212.out _; (with_reducible repeat (first | refine blk_drewN ?_ _ | refine blk_drew ?_ | refine blk_alloc ?_ _)); refine blk_far ?_ NB167_212.out _; (with_reducible repeat (first | refine blk_drewN ?_ _ | refine blk_drew ?_ | refine blk_alloc ?_ _)); refine blk_far ?_ NB167_212.out _; (with_reducible repeat (first | refine blk_drewN ?_ _ | refine blk_drew ?_ | refine blk_alloc ?_ _)); refine blk_far ?_ NB167_212.out _; (with_reducible repeat (first | refine blk_drewN ?_ _ | refine blk_drew ?_ | refine blk_alloc ?_ _)); refine blk_far ?_ NB167_211.out _; (with_reducible repeat (first | refine blk_drewN ?_ _ | refine blk_drew ?_ | refine blk_alloc ?_ _)); refine blk_far ?_ NB167_211.out _; (with_reducible repeat (first | refine blk_drewN ?_ _ | refine blk_drew ?_ | refine blk_alloc ?_ _)); refine blk_far ?_ NB167_211.out _; (with_reducible repeat (first | refine blk_drewN ?_ _ | refine blk_drew ?_ | refine blk_alloc ?_ _)); refine blk_far ?_ NB167_211.out _; (with_reducible repeat (first | refine blk_drewN ?_ _ | refine blk_drew ?_ | refine blk_alloc ?_ _)); exact BK167.out⟩, ⟨by (with_reducible repeat (first | refine blk_drewN ?_ _ | refine blk_drew ?_ | refine blk_alloc ?_ _)); refine blk_far ?_ NB168_212.out _; (with_reducible repeat (first | refine blk_drewN ?_ _ | refine blk_drew ?_ | refine blk_alloc ?_ _)); refine blk_far ?_ NB168_212.out _; (with_reducible repeat (first | refine blk_drewN ?_ _ | refine blk_drew ?_ | refine blk_alloc ?_ _)); refine blk_far ?_ NB168_212.out _; (with_reducible repeat (first | refine blk_drewN ?_ _ | refine blk_drew ?_ | refine blk_alloc ?_ _)); refine blk_far ?_ NB168_212.out _; (with_reducible repeat (first | refine blk_drewN ?_ _ | refine blk_drew ?_ | refine blk_alloc ?_ _)); refine blk_far ?_ NB168_212.out _; (with_reducible repeat (first | refine blk_drewN ?_ _ | refine blk_drew ?_ | refine blk_alloc ?_ _)); refine blk_far ?_ NB168_212.out _; (with_reducible repeat (first | refine blk_drewN ?_ _ | refine blk_drew ?_ | refine blk_alloc ?_ _)); refine blk_far ?_ NB168_212.out _; (with_reducible repeat (first | refine blk_drewN ?_ _ | refine blk_drew ?_ | refine blk_alloc ?_ _)); refine blk_far ?_ NB168_212.out _; (with_reducible repeat (first | refine blk_drewN ?_ _ | refine blk_drew ?_ | refine blk_alloc ?_ _)); refine blk_far ?_ NB168_212.out _; (with_reducible repeat (first | refine blk_drewN ?_ _ | refine blk_drew ?_ | refine blk_alloc ?_ _)); refine blk_far ?_ NB168_212.out _; (with_reducible repeat (first | refine blk_drewN ?_ _ | refine blk_drew ?_ | refine blk_alloc ?_ _)); refine blk_far ?_ NB168_212.out _; (with_reducible repeat (first | refine blk_drewN ?_ _ | refine blk_drew ?_ | refine blk_alloc ?_ _)); refine blk_far ?_ NB168_212.out _; (with_reducible repeat (first | refine blk_drewN ?_ _ | refine blk_drew ?_ | refine blk_alloc ?_ _)); refine blk_far ?_ NB168_211.out _; (with_reducible repeat (first | refine blk_drewN ?_ _ | refine blk_drew ?_ | refine blk_alloc ?_ _)); refine blk_far ?_ NB168_211.out _; (with_reducible repeat (first | refine blk_drewN ?_ _ | refine blk_drew ?_ | refine blk_alloc ?_ _)); refine blk_far ?_ NB168_211.out _; (with_reducible repeat (first | refine blk_drewN ?_ _ | refine blk_drew ?_ | refine blk_alloc ?_ _)); refine blk_far ?_ NB168_211.out _; (with_reducible repeat (first | refine blk_drewN ?_ _ | refine blk_drew ?_ | refine blk_alloc ?_ _)); exact BK168.out⟩, ⟨by (with_reducible repeat (first | refine blk_drewN ?_ _ | refine blk_drew ?_ | refine blk_alloc ?_ _)); refine blk_far ?_ NB174_212.out _; (with_reducible repeat (first | refine blk_drewN ?_ _ | refine blk_drew ?_ | refine blk_alloc ?_ _)); refine blk_far ?_ NB174_212.out _; (with_reducible repeat (first | refine blk_drewN ?_ _ | refine blk_drew ?_ | refine blk_alloc ?_ _)); refine blk_far ?_ NB174_212.out _; (with_reducible repeat (first | refine blk_drewN ?_ _ | refine blk_drew ?_ | refine blk_alloc ?_ _)); refine blk_far ?_ NB174_212.out _; (with_reducible repeat (first | refine blk_drewN ?_ _ | refine blk_drew ?_ | refine blk_alloc ?_ _)); refine blk_far ?_ NB174_212.out _; (with_reducible repeat (first | refine blk_drewN ?_ _ | refine blk_drew ?_ | refine blk_alloc ?_ _)); refine blk_far ?_ NB174_212.out _; (with_reducible repeat (first | refine blk_drewN ?_ _ | refine blk_drew ?_ | refine blk_alloc ?_ _)); refine blk_far ?_ NB174_212.out _; (with_reducible repeat (first | refine blk_drewN ?_ _ | refine blk_drew ?_ | refine blk_alloc ?_ _)); refine blk_far ?_ NB174_212.out _; (with_reducible repeat (first | refine blk_drewN ?_ _ | refine blk_drew ?_ | refine blk_alloc ?_ _)); refine blk_far ?_ NB174_212.out _; (with_reducible repeat (first | refine blk_drewN ?_ _ | refine blk_drew ?_ | refine blk_alloc ?_ _)); refine blk_far ?_ NB174_212.out _; (with_reducible repeat (first | refine blk_drewN ?_ _ | refine blk_drew ?_ | refine blk_alloc ?_ _)); refine blk_far ?_ NB174_212.out _; (with_reducible repeat (first | refine blk_drewN ?_ _ | refine blk_drew ?_ | refine blk_alloc ?_ _)); refine blk_far ?_ NB174_212.out _; (with_reducible repeat (first | refine blk_drewN ?_ _ | refine blk_drew ?_ | refine blk_alloc ?_ _)); refine blk_far ?_ NB174_211.out _; (with_reducible repeat (first | refine blk_drewN ?_ _ | refine blk_drew ?_ | refine blk_alloc ?_ _)); refine blk_far ?_ NB174_211.out _; (with_reducible repeat (first | refine blk_drewN ?_ _ | refine blk_drew ?_ | refine blk_alloc ?_ _)); refine blk_far ?_ NB174_211.out _; (with_reducible repeat (first | refine blk_drewN ?_ _ | refine blk_drew ?_ | refine blk_alloc ?_ _)); refine blk_far ?_ NB174_211.out _; (with_reducible repeat (first | refine blk_drewN ?_ _ | refine blk_drew ?_ | refine blk_alloc ?_ _)); exact BK174.out⟩, ⟨by (with_reducible repeat (first | refine blk_drewN ?_ _ | refine blk_drew ?_ | refine blk_alloc ?_ _)); refine blk_far ?_ NB192_212.out _; (with_reducible repeat (first | refine blk_drewN ?_ _ | refine blk_drew ?_ | refine blk_alloc ?_ _)); refine blk_far ?_ NB192_212.out _; (with_reducible repeat (first | refine blk_drewN ?_ _ | refine blk_drew ?_ | refine blk_alloc ?_ _)); refine blk_far ?_ NB192_212.out _; (with_reducible repeat (first | refine blk_drewN ?_ _ | refine blk_drew ?_ | refine blk_alloc ?_ _)); refine blk_far ?_ NB192_212.out _; (with_reducible repeat (first | refine blk_drewN ?_ _ | refine blk_drew ?_ | refine blk_alloc ?_ _)); refine blk_far ?_ NB192_212.out _; (with_reducible repeat (first | refine blk_drewN ?_ _ | refine blk_drew ?_ | refine blk_alloc ?_ _)); refine blk_far ?_ NB192_212.out _; (with_reducible repeat (first | refine blk_drewN ?_ _ | refine blk_drew ?_ | refine blk_alloc ?_ _)); refine blk_far ?_ NB192_212.out _; (with_reducible repeat (first | refine blk_drewN ?_ _ | refine blk_drew ?_ | refine blk_alloc ?_ _)); refine blk_far ?_ NB192_212.out _; (with_reducible repeat (first | refine blk_drewN ?_ _ | refine blk_drew ?_ | refine blk_alloc ?_ _)); refine blk_far ?_ NB192_212.out _; (with_reducible repeat (first | refine blk_drewN ?_ _ | refine blk_drew ?_ | refine blk_alloc ?_ _)); refine blk_far ?_ NB192_212.out _; (with_reducible repeat (first | refine blk_drewN ?_ _ | refine blk_drew ?_ | refine blk_alloc ?_ _)); refine blk_far ?_ NB192_212.out _; (with_reducible repeat (first | refine blk_drewN ?_ _ | refine blk_drew ?_ | refine blk_alloc ?_ _)); refine blk_far ?_ NB192_212.out _; (with_reducible repeat (first | refine blk_drewN ?_ _ | refine blk_drew ?_ | refine blk_alloc ?_ _)); refine blk_far ?_ NB192_211.out _; (with_reducible repeat (first | refine blk_drewN ?_ _ | refine blk_drew ?_ | refine blk_alloc ?_ _)); refine blk_far ?_ NB192_211.out _; (with_reducible repeat (first | refine blk_drewN ?_ _ | refine blk_drew ?_ | refine blk_alloc ?_ _)); refine blk_far ?_ NB192_211.out _; (with_reducible repeat (first | refine blk_drewN ?_ _ | refine blk_drew ?_ | refine blk_alloc ?_ _)); refine blk_far ?_ NB192_211.out _; (with_reducible repeat (first | refine blk_drewN ?_ _ | refine blk_drew ?_ | refine blk_alloc ?_ _)); exact BK192.out⟩, ⟨by (with_reducible repeat (first | refine blk_drewN ?_ _ | refine blk_drew ?_ | refine blk_alloc ?_ _)); refine blk_far ?_ NB193_212.out _; (with_reducible repeat (first | refine blk_drewN ?_ _ | refine blk_drew ?_ | refine blk_alloc ?_ _)); refine blk_far ?_ NB193_212.out _; (with_reducible repeat (first | refine blk_drewN ?_ _ | refine blk_drew ?_ | refine blk_alloc ?_ _)); refine blk_far ?_ NB193_212.out _; (with_reducible repeat (first | refine blk_drewN ?_ _ | refine blk_drew ?_ | refine blk_alloc ?_ _)); refine blk_far ?_ NB193_212.out _; (with_reducible repeat (first | refine blk_drewN ?_ _ | refine blk_drew ?_ | refine blk_alloc ?_ _)); refine blk_far ?_ NB193_212.out _; (with_reducible repeat (first | refine blk_drewN ?_ _ | refine blk_drew ?_ | refine blk_alloc ?_ _)); refine blk_far ?_ NB193_212.out _; (with_reducible repeat (first | refine blk_drewN ?_ _ | refine blk_drew ?_ | refine blk_alloc ?_ _)); refine blk_far ?_ NB193_212.out _; (with_reducible repeat (first | refine blk_drewN ?_ _ | refine blk_drew ?_ | refine blk_alloc ?_ _)); refine blk_far ?_ NB193_212.out _; (with_reducible repeat (first | refine blk_drewN ?_ _ | refine blk_drew ?_ | refine blk_alloc ?_ _)); refine blk_far ?_ NB193_212.out _; (with_reducible repeat (first | refine blk_drewN ?_ _ | refine blk_drew ?_ | refine blk_alloc ?_ _)); refine blk_far ?_ NB193_212.out _; (with_reducible repeat (first | refine blk_drewN ?_ _ | refine blk_drew ?_ | refine blk_alloc ?_ _)); refine blk_far ?_ NB193_212.out _; (with_reducible repeat (first | refine blk_drewN ?_ _ | refine blk_drew ?_ | refine blk_alloc ?_ _)); refine blk_far ?_ NB193_212.out _; (with_reducible repeat (first | refine blk_drewN ?_ _ | refine blk_drew ?_ | refine blk_alloc ?_ _)); refine blk_far ?_ NB193_211.out _; (with_reducible repeat (first | refine blk_drewN ?_ _ | refine blk_drew ?_ | refine blk_alloc ?_ _)); refine blk_far ?_ NB193_211.out _; (with_reducible repeat (first | refine blk_drewN ?_ _ | refine blk_drew ?_ | refine blk_alloc ?_ _)); refine blk_far ?_ NB193_211.out _; (with_reducible repeat (first | refine blk_drewN ?_ _ | refine blk_drew ?_ | refine blk_alloc ?_ _)); refine blk_far ?_ NB193_211.out _; (with_reducible repeat (first | refine blk_drewN ?_ _ | refine blk_drew ?_ | refine blk_alloc ?_ _)); exact BK193.out⟩, ⟨by (with_reducible repeat (first | refine blk_drewN ?_ _ | refine blk_drew ?_ | refine blk_alloc ?_ _)); refine blk_far ?_ NB211_212.out _; (with_reducible repeat (first | refine blk_drewN ?_ _ | refine blk_drew ?_ | refine blk_alloc ?_ _)); refine blk_far ?_ NB211_212.out _; (with_reducible repeat (first | refine blk_drewN ?_ _ | refine blk_drew ?_ | refine blk_alloc ?_ _)); refine blk_far ?_ NB211_212.out _; (with_reducible repeat (first | refine blk_drewN ?_ _ | refine blk_drew ?_ | refine blk_alloc ?_ _)); refine blk_far ?_ NB211_212.out _; (with_reducible repeat (first | refine blk_drewN ?_ _ | refine blk_drew ?_ | refine blk_alloc ?_ _)); refine blk_far ?_ NB211_212.out _; (with_reducible repeat (first | refine blk_drewN ?_ _ | refine blk_drew ?_ | refine blk_alloc ?_ _)); refine blk_far ?_ NB211_212.out _; (with_reducible repeat (first | refine blk_drewN ?_ _ | refine blk_drew ?_ | refine blk_alloc ?_ _)); refine blk_far ?_ NB211_212.out _; (with_reducible repeat (first | refine blk_drewN ?_ _ | refine blk_drew ?_ | refine blk_alloc ?_ _)); refine blk_far ?_ NB211_212.out _; (with_reducible repeat (first | refine blk_drewN ?_ _ | refine blk_drew ?_ | refine blk_alloc ?_ _)); refine blk_far ?_ NB211_212.out _; (with_reducible repeat (first | refine blk_drewN ?_ _ | refine blk_drew ?_ | refine blk_alloc ?_ _)); refine blk_far ?_ NB211_212.out _; (with_reducible repeat (first | refine blk_drewN ?_ _ | refine blk_drew ?_ | refine blk_alloc ?_ _)); refine blk_far ?_ NB211_212.out _; (with_reducible repeat (first | refine blk_drewN ?_ _ | refine blk_drew ?_ | refine blk_alloc ?_ _)); refine blk_far ?_ NB211_212.out _; (with_reducible repeat (first | refine blk_drewN ?_ _ | refine blk_drew ?_ | refine blk_alloc ?_ _)); refine blk_put (cs := #[.int .i64 t194, .int .i64 t195, .int .i64 t196, .int .i64 0]) ?_ 3 _ rfl; (with_reducible repeat (first | refine blk_drewN ?_ _ | refine blk_drew ?_ | refine blk_alloc ?_ _)); refine blk_put (cs := #[.int .i64 t194, .int .i64 t195, .int .i64 0, .int .i64 0]) ?_ 2 _ rfl; (with_reducible repeat (first | refine blk_drewN ?_ _ | refine blk_drew ?_ | refine blk_alloc ?_ _)); refine blk_put (cs := #[.int .i64 t194, .int .i64 0, .int .i64 0, .int .i64 0]) ?_ 1 _ rfl; (with_reducible repeat (first | refine blk_drewN ?_ _ | refine blk_drew ?_ | refine blk_alloc ?_ _)); refine blk_put (cs := #[.int .i64 0, .int .i64 0, .int .i64 0, .int .i64 0]) ?_ 0 _ rfl; (with_reducible repeat (first | refine blk_drewN ?_ _ | refine blk_drew ?_ | refine blk_alloc ?_ _)); exact BK211.out⟩, ⟨by (with_reducible repeat (first | refine blk_drewN ?_ _ | refine blk_drew ?_ | refine blk_alloc ?_ _)); refine blk_put (cs := #[.int .i64 t198, .int .i64 t199, .bool t200, .int .i64 t201, .int .i64 t202, .bool t203, .bool t204, .bool t205, .int .i64 t206, .int .i64 t207, .int .i64 t208, .bool false]) ?_ 11 _ rfl; (with_reducible repeat (first | refine blk_drewN ?_ _ | refine blk_drew ?_ | refine blk_alloc ?_ _)); refine blk_put (cs := #[.int .i64 t198, .int .i64 t199, .bool t200, .int .i64 t201, .int .i64 t202, .bool t203, .bool t204, .bool t205, .int .i64 t206, .int .i64 t207, .int .i64 0, .bool false]) ?_ 10 _ rfl; (with_reducible repeat (first | refine blk_drewN ?_ _ | refine blk_drew ?_ | refine blk_alloc ?_ _)); refine blk_put (cs := #[.int .i64 t198, .int .i64 t199, .bool t200, .int .i64 t201, .int .i64 t202, .bool t203, .bool t204, .bool t205, .int .i64 t206, .int .i64 0, .int .i64 0, .bool false]) ?_ 9 _ rfl; (with_reducible repeat (first | refine blk_drewN ?_ _ | refine blk_drew ?_ | refine blk_alloc ?_ _)); refine blk_put (cs := #[.int .i64 t198, .int .i64 t199, .bool t200, .int .i64 t201, .int .i64 t202, .bool t203, .bool t204, .bool t205, .int .i64 0, .int .i64 0, .int .i64 0, .bool false]) ?_ 8 _ rfl; (with_reducible repeat (first | refine blk_drewN ?_ _ | refine blk_drew ?_ | refine blk_alloc ?_ _)); refine blk_put (cs := #[.int .i64 t198, .int .i64 t199, .bool t200, .int .i64 t201, .int .i64 t202, .bool t203, .bool t204, .bool false, .int .i64 0, .int .i64 0, .int .i64 0, .bool false]) ?_ 7 _ rfl; (with_reducible repeat (first | refine blk_drewN ?_ _ | refine blk_drew ?_ | refine blk_alloc ?_ _)); refine blk_put (cs := #[.int .i64 t198, .int .i64 t199, .bool t200, .int .i64 t201, .int .i64 t202, .bool t203, .bool false, .bool false, .int .i64 0, .int .i64 0, .int .i64 0, .bool false]) ?_ 6 _ rfl; (with_reducible repeat (first | refine blk_drewN ?_ _ | refine blk_drew ?_ | refine blk_alloc ?_ _)); refine blk_put (cs := #[.int .i64 t198, .int .i64 t199, .bool t200, .int .i64 t201, .int .i64 t202, .bool false, .bool false, .bool false, .int .i64 0, .int .i64 0, .int .i64 0, .bool false]) ?_ 5 _ rfl; (with_reducible repeat (first | refine blk_drewN ?_ _ | refine blk_drew ?_ | refine blk_alloc ?_ _)); refine blk_put (cs := #[.int .i64 t198, .int .i64 t199, .bool t200, .int .i64 t201, .int .i64 0, .bool false, .bool false, .bool false, .int .i64 0, .int .i64 0, .int .i64 0, .bool false]) ?_ 4 _ rfl; (with_reducible repeat (first | refine blk_drewN ?_ _ | refine blk_drew ?_ | refine blk_alloc ?_ _)); refine blk_put (cs := #[.int .i64 t198, .int .i64 t199, .bool t200, .int .i64 0, .int .i64 0, .bool false, .bool false, .bool false, .int .i64 0, .int .i64 0, .int .i64 0, .bool false]) ?_ 3 _ rfl; (with_reducible repeat (first | refine blk_drewN ?_ _ | refine blk_drew ?_ | refine blk_alloc ?_ _)); refine blk_put (cs := #[.int .i64 t198, .int .i64 t199, .bool false, .int .i64 0, .int .i64 0, .bool false, .bool false, .bool false, .int .i64 0, .int .i64 0, .int .i64 0, .bool false]) ?_ 2 _ rfl; (with_reducible repeat (first | refine blk_drewN ?_ _ | refine blk_drew ?_ | refine blk_alloc ?_ _)); refine blk_put (cs := #[.int .i64 t198, .int .i64 0, .bool false, .int .i64 0, .int .i64 0, .bool false, .bool false, .bool false, .int .i64 0, .int .i64 0, .int .i64 0, .bool false]) ?_ 1 _ rfl; (with_reducible repeat (first | refine blk_drewN ?_ _ | refine blk_drew ?_ | refine blk_alloc ?_ _)); refine blk_put (cs := #[.int .i64 0, .int .i64 0, .bool false, .int .i64 0, .int .i64 0, .bool false, .bool false, .bool false, .int .i64 0, .int .i64 0, .int .i64 0, .bool false]) ?_ 0 _ rfl; (with_reducible repeat (first | refine blk_drewN ?_ _ | refine blk_drew ?_ | refine blk_alloc ?_ _)); refine blk_far ?_ NB212_211.out _; (with_reducible repeat (first | refine blk_drewN ?_ _ | refine blk_drew ?_ | refine blk_alloc ?_ _)); refine blk_far ?_ NB212_211.out _; (with_reducible repeat (first | refine blk_drewN ?_ _ | refine blk_drew ?_ | refine blk_alloc ?_ _)); refine blk_far ?_ NB212_211.out _; (with_reducible repeat (first | refine blk_drewN ?_ _ | refine blk_drew ?_ | refine blk_alloc ?_ _)); refine blk_far ?_ NB212_211.out _; (with_reducible repeat (first | refine blk_drewN ?_ _ | refine blk_drew ?_ | refine blk_alloc ?_ _)); exact BK212.out⟩, ⟨by repeat (first | (with_reducible first | exact HB.out | apply below_alloc | apply pw_below_drewN | apply below_drew1 | refine below_set ?_ GE167.out | refine below_set ?_ GE168.out | refine below_set ?_ GE174.out | refine below_set ?_ GE192.out | refine below_set ?_ GE193.out | refine below_set ?_ GE211.out | refine below_set ?_ GE212.out) | exact HB.out)⟩⟩
  case rest =>
    clear HC8
    try clear c1
    try clear c2
    try clear p2
    try clear c3
    try clear c4
    try clear c5
    try clear c9
    try clear c10
    try clear c11
    try clear c15
    try clear c16
    try clear c22
    try clear c23
    try clear c24
    try clear c25
    try clear c27
    try clear c28
    try clear c29
    try clear c36
    try clear c37
    try clear c38
    try clear c39
    try clear c40
    try clear c41
    try clear c43
    try clear c44
    try clear c45
    try clear c46
    try clear c47
    try clear c49
    try clear c49b0
    try clear c49b1
    try clear c50
    try clear c50b0
    try clear c50b1
    try clear hcz12_0
    try clear hcz12_1
    try clear hcz12_2
    try clear hcz12_3
    try clear hcz17_0
    try clear hcz17_1
    try clear hcz17_2
    try clear hcz17_3
    try clear hcz18_0
    try clear hcz18_1
    try clear hcz18_10
    try clear hcz18_11
    try clear hcz18_2
    try clear hcz18_3
    try clear hcz18_4
    try clear hcz18_5
    try clear hcz18_6
    try clear hcz18_7
    try clear hcz18_8
    try clear hcz18_9
    try clear hcz26_0
    try clear hcz26_1
    try clear hcz26_2
    try clear hcz26_3
    try clear hcz30_0
    try clear hcz30_1
    try clear hcz30_10
    try clear hcz30_11
    try clear hcz30_2
    try clear hcz30_3
    try clear hcz30_4
    try clear hcz30_5
    try clear hcz30_6
    try clear hcz30_7
    try clear hcz30_8
    try clear hcz30_9
    try clear hcz31_0
    try clear hcz31_1
    try clear hcz31_2
    try clear hcz31_3
    try clear hcz32_0
    try clear hcz32_1
    try clear hcz32_10
    try clear hcz32_11
    try clear hcz32_2
    try clear hcz32_3
    try clear hcz32_4
    try clear hcz32_5
    try clear hcz32_6
    try clear hcz32_7
    try clear hcz32_8
    try clear hcz32_9
    try clear hcz42_0
    try clear hcz42_1
    try clear hcz42_2
    try clear hcz42_3
    try clear hcz48_0
    try clear hcz48_1
    try clear hcz48_10
    try clear hcz48_11
    try clear hcz48_2
    try clear hcz48_3
    try clear hcz48_4
    try clear hcz48_5
    try clear hcz48_6
    try clear hcz48_7
    try clear hcz48_8
    try clear hcz48_9
    try clear hfz12_0
    try clear hfz12_1
    try clear hfz12_2
    try clear hfz12_3
    try clear hfz17_0
    try clear hfz17_1
    try clear hfz17_2
    try clear hfz17_3
    try clear hfz18_0
    try clear hfz18_1
    try clear hfz18_10
    try clear hfz18_11
    try clear hfz18_2
    try clear hfz18_3
    try clear hfz18_4
    try clear hfz18_5
    try clear hfz18_6
    try clear hfz18_7
    try clear hfz18_8
    try clear hfz18_9
    try clear hfz26_0
    try clear hfz26_1
    try clear hfz26_2
    try clear hfz26_3
    try clear hfz30_0
    try clear hfz30_1
    try clear hfz30_10
    try clear hfz30_11
    try clear hfz30_2
    try clear hfz30_3
    try clear hfz30_4
    try clear hfz30_5
    try clear hfz30_6
    try clear hfz30_7
    try clear hfz30_8
    try clear hfz30_9
    try clear hfz31_0
    try clear hfz31_1
    try clear hfz31_2
    try clear hfz31_3
    try clear hfz32_0
    try clear hfz32_1
    try clear hfz32_10
    try clear hfz32_11
    try clear hfz32_2
    try clear hfz32_3
    try clear hfz32_4
    try clear hfz32_5
    try clear hfz32_6
    try clear hfz32_7
    try clear hfz32_8
    try clear hfz32_9
    try clear hfz42_0
    try clear hfz42_1
    try clear hfz42_2
    try clear hfz42_3
    try clear hfz48_0
    try clear hfz48_1
    try clear hfz48_10
    try clear hfz48_11
    try clear hfz48_2
    try clear hfz48_3
    try clear hfz48_4
    try clear hfz48_5
    try clear hfz48_6
    try clear hfz48_7
    try clear hfz48_8
    try clear hfz48_9
    obtain ⟨kq, x48_7, rfl, HA, HJ7, BK167, BK168, BK174, BK192, BK193, BK211, BK212, HB⟩ := hcut
    cases kq with
    | zero => exact absurd HA.out (by simp [tidewaylaw17_RateIdle.j0])
    | succ kj7 =>
      have H := HA.out
      clear HA
      simp only [tidewaylaw17_RateIdle.j0] at H
      by_cases c51 : x48_7 = true
      · subst c51
        have H1 : ((tidewaylaw17_heads.f).bind fun t213 => (some t213)) = some r := by rw [if_pos rfl] at H; exact H
        clear H
        have H := H1
        clear H1
        replace H := Option.bind_eq_some_iff.mp H
        obtain ⟨t213, A520, H⟩ := H
        replace H : (some t213) = some r := H
        have A52 := Aside0.mk A520
        clear A520
        obtain rfl := Option.some.inj H
        go_wp2_with (first | ((with_reducible refine gate_callee (f := 8) rfl ?_); refine goesL_ (some 49) rfl rfl Try.func8 (by kernel_rfl) rfl #[] rfl (by (try simp only [List.map_toArray, List.map_cons, List.map_nil]); first | done | rfl | (simp only [List.length_drop, List.length_take]; rfl)) ?_; (with_reducible refine (tidewaylaw17_heads.calls  t213 _ A52.out).mono ?_); rintro e w53 ⟨rfl, hb⟩; refine ⟨_, rfl, ?_⟩; have n0_ := Aside0.mk (blk_below (g := gb167) (o := .cells #[.int .i64 a0_0, .int .i64 a0_1, .int .i64 a0_2, .int .i64 a0_3] 23 (0, 0)) (by (with_reducible repeat (first | refine blk_drewN ?_ _ | refine blk_drew ?_ | refine blk_alloc ?_ _)); exact BK167.out) hb); have n1_ := Aside0.mk (blk_below (g := gb168) (o := .cells #[.int .i64 a1_0, .int .i64 a1_1, .bool a1_2, .int .i64 a1_3, .int .i64 a1_4, .bool a1_5, .bool a1_6, .bool a1_7, .int .i64 a1_8, .int .i64 a1_9, .int .i64 a1_10, .bool a1_11] 33 (0, 0)) (by (with_reducible repeat (first | refine blk_drewN ?_ _ | refine blk_drew ?_ | refine blk_alloc ?_ _)); exact BK168.out) hb); have n2_ := Aside0.mk (blk_below (g := gb174) (o := .cells #[.int .i64 t169, .int .i64 t170, .int .i64 t171, .int .i64 t172] 23 (0, 0)) (by (with_reducible repeat (first | refine blk_drewN ?_ _ | refine blk_drew ?_ | refine blk_alloc ?_ _)); exact BK174.out) hb); have n3_ := Aside0.mk (blk_below (g := gb192) (o := .cells #[.int .i64 t175, .int .i64 t176, .int .i64 t177, .int .i64 t178] 23 (0, 0)) (by (with_reducible repeat (first | refine blk_drewN ?_ _ | refine blk_drew ?_ | refine blk_alloc ?_ _)); exact BK192.out) hb); have n4_ := Aside0.mk (blk_below (g := gb193) (o := .cells #[.int .i64 t179, .int .i64 t180, .bool t181, .int .i64 t182, .int .i64 t183, .bool t184, .bool t185, .bool t186, .int .i64 t187, .int .i64 t188, .int .i64 t189, .bool t190] 33 (0, 0)) (by (with_reducible repeat (first | refine blk_drewN ?_ _ | refine blk_drew ?_ | refine blk_alloc ?_ _)); exact BK193.out) hb); have n5_ := Aside0.mk (blk_below (g := gb211) (o := .cells #[.int .i64 t194, .int .i64 t195, .int .i64 t196, .int .i64 t197] 23 (0, 0)) (by (with_reducible repeat (first | refine blk_drewN ?_ _ | refine blk_drew ?_ | refine blk_alloc ?_ _)); exact BK211.out) hb); have n6_ := Aside0.mk (blk_below (g := gb212) (o := .cells #[.int .i64 t198, .int .i64 t199, .bool t200, .int .i64 t201, .int .i64 t202, .bool t203, .bool t204, .bool t205, .int .i64 t206, .int .i64 t207, .int .i64 t208, .bool t209] 33 (0, 0)) (by (with_reducible repeat (first | refine blk_drewN ?_ _ | refine blk_drew ?_ | refine blk_alloc ?_ _)); exact BK212.out) hb); have n7_ := Aside0.mk (below_step (by repeat (first | (with_reducible first | exact HB.out | apply below_alloc | apply pw_below_drewN | apply below_drew1 | refine below_set ?_ GE167.out | refine below_set ?_ GE168.out | refine below_set ?_ GE174.out | refine below_set ?_ GE192.out | refine below_set ?_ GE193.out | refine below_set ?_ GE211.out | refine below_set ?_ GE212.out) | exact HB.out)) hb); clear BK167; clear BK168; clear BK174; clear BK192; clear BK193; clear BK211; clear BK212; clear HB; have BK167 := n0_; have BK168 := n1_; have BK174 := n2_; have BK192 := n3_; have BK193 := n4_; have BK211 := n5_; have BK212 := n6_; have HB := n7_; clear n0_ n1_ n2_ n3_ n4_ n5_ n6_ n7_; (try clear hb); (try clear hb2); (try clear hk); (try clear hi)))
        go_ret
        exact ⟨by first | rfl | (simp [errW_none, errW_some] <;> rfl) | (simp [*, errW_none, errW_some] <;> rfl), by repeat (first | (with_reducible first | exact HB.out | apply below_alloc | apply pw_below_drewN | apply below_drew1 | refine below_set ?_ GE167.out | refine below_set ?_ GE168.out | refine below_set ?_ GE174.out | refine below_set ?_ GE192.out | refine below_set ?_ GE193.out | refine below_set ?_ GE211.out | refine below_set ?_ GE212.out) | exact HB.out)⟩
      · replace c51 := Bool.eq_false_iff.mpr c51
        subst c51
        have H1 : (if t190 = true then (if (t209 == (decide (a0_3 > 0))) = true then (if t187 = t206 then (if t179 = a1_0 then (if t180 = a1_1 then (if t169 = a0_0 then ((tidewaylaw17_heads.f).bind fun t214 => (some t214)) else (some false)) else (some false)) else (some false)) else (some false)) else (some false)) else (some false)) = some r := by rw [if_neg (show ¬ (false = true) by decide)] at H; exact H
        clear H
        have H := H1
        clear H1
        by_cases c54 : t190 = true
        · subst c54
          have H1 : (if (t209 == (decide (a0_3 > 0))) = true then (if t187 = t206 then (if t179 = a1_0 then (if t180 = a1_1 then (if t169 = a0_0 then ((tidewaylaw17_heads.f).bind fun t214 => (some t214)) else (some false)) else (some false)) else (some false)) else (some false)) else (some false)) = some r := by rw [if_pos rfl] at H; exact H
          clear H
          have H := H1
          clear H1
          by_cases c55 : (t209 == (decide (a0_3 > 0))) = true
          · rw [if_pos c55] at H
            have c55b0 : (t209 == (decide (a0_3 > 0))) = true := c55
            (try (have c55b1 : decide (t209 = (decide (a0_3 > 0))) = true := by simpa using c55))
            (try (have c55b2 : (t209 == (decide (a0_3 > 0))) = true := by simpa using c55))
            clear c55
            by_cases c56 : t187 = t206
            · rw [if_pos c56] at H
              have c56b0 : (t187 == t206) = true := beq_iff_eq.mpr c56
              have c56b1 : (t187 != t206) = false := bne_eq_false_iff_eq.mpr c56
              clear c56
              by_cases c57 : t179 = a1_0
              · rw [if_pos c57] at H
                have c57b0 : (t179 == a1_0) = true := beq_iff_eq.mpr c57
                have c57b1 : (t179 != a1_0) = false := bne_eq_false_iff_eq.mpr c57
                clear c57
                by_cases c58 : t180 = a1_1
                · rw [if_pos c58] at H
                  have c58b0 : (t180 == a1_1) = true := beq_iff_eq.mpr c58
                  have c58b1 : (t180 != a1_1) = false := bne_eq_false_iff_eq.mpr c58
                  clear c58
                  by_cases c59 : t169 = a0_0
                  · rw [if_pos c59] at H
                    have c59b0 : (t169 == a0_0) = true := beq_iff_eq.mpr c59
                    have c59b1 : (t169 != a0_0) = false := bne_eq_false_iff_eq.mpr c59
                    clear c59
                    replace H := Option.bind_eq_some_iff.mp H
                    obtain ⟨t214, A600, H⟩ := H
                    replace H : (some t214) = some r := H
                    have A60 := Aside0.mk A600
                    clear A600
                    obtain rfl := Option.some.inj H
                    have hnb61 := NB193_167.out
                    have hnc61 := NB167_193.out
                    have hnb62 := NB193_168.out
                    have hnc62 := NB168_193.out
                    have hnb63 := NB193_174.out
                    have hnc63 := NB174_193.out
                    have hnb64 := NB193_192.out
                    have hnc64 := NB192_193.out
                    have hnb65 := NB193_211.out
                    have hnc65 := NB211_193.out
                    have hnb66 := NB193_212.out
                    have hnc66 := NB212_193.out
                    have hcz67_0 : wc.cell? ⟨gb193, 0, none⟩ = some (.int .i64 t179) := (blk_cell BK193.out 0).trans rfl
                    have hcz67_1 : wc.cell? ⟨gb193, 1, none⟩ = some (.int .i64 t180) := (blk_cell BK193.out 1).trans rfl
                    have hcz67_2 : wc.cell? ⟨gb193, 2, none⟩ = some (.bool t181) := (blk_cell BK193.out 2).trans rfl
                    have hcz67_3 : wc.cell? ⟨gb193, 3, none⟩ = some (.int .i64 t182) := (blk_cell BK193.out 3).trans rfl
                    have hcz67_4 : wc.cell? ⟨gb193, 4, none⟩ = some (.int .i64 t183) := (blk_cell BK193.out 4).trans rfl
                    have hcz67_5 : wc.cell? ⟨gb193, 5, none⟩ = some (.bool t184) := (blk_cell BK193.out 5).trans rfl
                    have hcz67_6 : wc.cell? ⟨gb193, 6, none⟩ = some (.bool t185) := (blk_cell BK193.out 6).trans rfl
                    have hcz67_7 : wc.cell? ⟨gb193, 7, none⟩ = some (.bool t186) := (blk_cell BK193.out 7).trans rfl
                    have hcz67_8 : wc.cell? ⟨gb193, 8, none⟩ = some (.int .i64 t187) := (blk_cell BK193.out 8).trans rfl
                    have hcz67_9 : wc.cell? ⟨gb193, 9, none⟩ = some (.int .i64 t188) := (blk_cell BK193.out 9).trans rfl
                    have hcz67_10 : wc.cell? ⟨gb193, 10, none⟩ = some (.int .i64 t189) := (blk_cell BK193.out 10).trans rfl
                    have hcz67_11 : wc.cell? ⟨gb193, 11, none⟩ = some (.bool true) := (blk_cell BK193.out 11).trans rfl
                    have hfz67_0 := blk_frozen BK193.out 0
                    have hfz67_1 := blk_frozen BK193.out 1
                    have hfz67_2 := blk_frozen BK193.out 2
                    have hfz67_3 := blk_frozen BK193.out 3
                    have hfz67_4 := blk_frozen BK193.out 4
                    have hfz67_5 := blk_frozen BK193.out 5
                    have hfz67_6 := blk_frozen BK193.out 6
                    have hfz67_7 := blk_frozen BK193.out 7
                    have hfz67_8 := blk_frozen BK193.out 8
                    have hfz67_9 := blk_frozen BK193.out 9
                    have hfz67_10 := blk_frozen BK193.out 10
                    have hfz67_11 := blk_frozen BK193.out 11
                    have hnb68 := NB212_167.out
                    have hnc68 := NB167_212.out
                    have hnb69 := NB212_168.out
                    have hnc69 := NB168_212.out
                    have hnb70 := NB212_174.out
                    have hnc70 := NB174_212.out
                    have hnb71 := NB212_192.out
                    have hnc71 := NB192_212.out
                    have hnb72 := NB212_211.out
                    have hnc72 := NB211_212.out
                    have hcz73_0 : wc.cell? ⟨gb212, 0, none⟩ = some (.int .i64 t198) := (blk_cell BK212.out 0).trans rfl
                    have hcz73_1 : wc.cell? ⟨gb212, 1, none⟩ = some (.int .i64 t199) := (blk_cell BK212.out 1).trans rfl
                    have hcz73_2 : wc.cell? ⟨gb212, 2, none⟩ = some (.bool t200) := (blk_cell BK212.out 2).trans rfl
                    have hcz73_3 : wc.cell? ⟨gb212, 3, none⟩ = some (.int .i64 t201) := (blk_cell BK212.out 3).trans rfl
                    have hcz73_4 : wc.cell? ⟨gb212, 4, none⟩ = some (.int .i64 t202) := (blk_cell BK212.out 4).trans rfl
                    have hcz73_5 : wc.cell? ⟨gb212, 5, none⟩ = some (.bool t203) := (blk_cell BK212.out 5).trans rfl
                    have hcz73_6 : wc.cell? ⟨gb212, 6, none⟩ = some (.bool t204) := (blk_cell BK212.out 6).trans rfl
                    have hcz73_7 : wc.cell? ⟨gb212, 7, none⟩ = some (.bool t205) := (blk_cell BK212.out 7).trans rfl
                    have hcz73_8 : wc.cell? ⟨gb212, 8, none⟩ = some (.int .i64 t206) := (blk_cell BK212.out 8).trans rfl
                    have hcz73_9 : wc.cell? ⟨gb212, 9, none⟩ = some (.int .i64 t207) := (blk_cell BK212.out 9).trans rfl
                    have hcz73_10 : wc.cell? ⟨gb212, 10, none⟩ = some (.int .i64 t208) := (blk_cell BK212.out 10).trans rfl
                    have hcz73_11 : wc.cell? ⟨gb212, 11, none⟩ = some (.bool t209) := (blk_cell BK212.out 11).trans rfl
                    have hfz73_0 := blk_frozen BK212.out 0
                    have hfz73_1 := blk_frozen BK212.out 1
                    have hfz73_2 := blk_frozen BK212.out 2
                    have hfz73_3 := blk_frozen BK212.out 3
                    have hfz73_4 := blk_frozen BK212.out 4
                    have hfz73_5 := blk_frozen BK212.out 5
                    have hfz73_6 := blk_frozen BK212.out 6
                    have hfz73_7 := blk_frozen BK212.out 7
                    have hfz73_8 := blk_frozen BK212.out 8
                    have hfz73_9 := blk_frozen BK212.out 9
                    have hfz73_10 := blk_frozen BK212.out 10
                    have hfz73_11 := blk_frozen BK212.out 11
                    have hnb74 := NB167_168.out
                    have hnc74 := NB168_167.out
                    have hnb75 := NB167_174.out
                    have hnc75 := NB174_167.out
                    have hnb76 := NB167_192.out
                    have hnc76 := NB192_167.out
                    have hnb77 := NB167_211.out
                    have hnc77 := NB211_167.out
                    have hcz78_0 : wc.cell? ⟨gb167, 0, none⟩ = some (.int .i64 a0_0) := (blk_cell BK167.out 0).trans rfl
                    have hcz78_1 : wc.cell? ⟨gb167, 1, none⟩ = some (.int .i64 a0_1) := (blk_cell BK167.out 1).trans rfl
                    have hcz78_2 : wc.cell? ⟨gb167, 2, none⟩ = some (.int .i64 a0_2) := (blk_cell BK167.out 2).trans rfl
                    have hcz78_3 : wc.cell? ⟨gb167, 3, none⟩ = some (.int .i64 a0_3) := (blk_cell BK167.out 3).trans rfl
                    have hfz78_0 := blk_frozen BK167.out 0
                    have hfz78_1 := blk_frozen BK167.out 1
                    have hfz78_2 := blk_frozen BK167.out 2
                    have hfz78_3 := blk_frozen BK167.out 3
                    have hnb79 := NB168_174.out
                    have hnc79 := NB174_168.out
                    have hnb80 := NB168_192.out
                    have hnc80 := NB192_168.out
                    have hnb81 := NB168_211.out
                    have hnc81 := NB211_168.out
                    have hcz82_0 : wc.cell? ⟨gb168, 0, none⟩ = some (.int .i64 a1_0) := (blk_cell BK168.out 0).trans rfl
                    have hcz82_1 : wc.cell? ⟨gb168, 1, none⟩ = some (.int .i64 a1_1) := (blk_cell BK168.out 1).trans rfl
                    have hcz82_2 : wc.cell? ⟨gb168, 2, none⟩ = some (.bool a1_2) := (blk_cell BK168.out 2).trans rfl
                    have hcz82_3 : wc.cell? ⟨gb168, 3, none⟩ = some (.int .i64 a1_3) := (blk_cell BK168.out 3).trans rfl
                    have hcz82_4 : wc.cell? ⟨gb168, 4, none⟩ = some (.int .i64 a1_4) := (blk_cell BK168.out 4).trans rfl
                    have hcz82_5 : wc.cell? ⟨gb168, 5, none⟩ = some (.bool a1_5) := (blk_cell BK168.out 5).trans rfl
                    have hcz82_6 : wc.cell? ⟨gb168, 6, none⟩ = some (.bool a1_6) := (blk_cell BK168.out 6).trans rfl
                    have hcz82_7 : wc.cell? ⟨gb168, 7, none⟩ = some (.bool a1_7) := (blk_cell BK168.out 7).trans rfl
                    have hcz82_8 : wc.cell? ⟨gb168, 8, none⟩ = some (.int .i64 a1_8) := (blk_cell BK168.out 8).trans rfl
                    have hcz82_9 : wc.cell? ⟨gb168, 9, none⟩ = some (.int .i64 a1_9) := (blk_cell BK168.out 9).trans rfl
                    have hcz82_10 : wc.cell? ⟨gb168, 10, none⟩ = some (.int .i64 a1_10) := (blk_cell BK168.out 10).trans rfl
                    have hcz82_11 : wc.cell? ⟨gb168, 11, none⟩ = some (.bool a1_11) := (blk_cell BK168.out 11).trans rfl
                    have hfz82_0 := blk_frozen BK168.out 0
                    have hfz82_1 := blk_frozen BK168.out 1
                    have hfz82_2 := blk_frozen BK168.out 2
                    have hfz82_3 := blk_frozen BK168.out 3
                    have hfz82_4 := blk_frozen BK168.out 4
                    have hfz82_5 := blk_frozen BK168.out 5
                    have hfz82_6 := blk_frozen BK168.out 6
                    have hfz82_7 := blk_frozen BK168.out 7
                    have hfz82_8 := blk_frozen BK168.out 8
                    have hfz82_9 := blk_frozen BK168.out 9
                    have hfz82_10 := blk_frozen BK168.out 10
                    have hfz82_11 := blk_frozen BK168.out 11
                    have hnb83 := NB174_192.out
                    have hnc83 := NB192_174.out
                    have hnb84 := NB174_211.out
                    have hnc84 := NB211_174.out
                    have hcz85_0 : wc.cell? ⟨gb174, 0, none⟩ = some (.int .i64 t169) := (blk_cell BK174.out 0).trans rfl
                    have hcz85_1 : wc.cell? ⟨gb174, 1, none⟩ = some (.int .i64 t170) := (blk_cell BK174.out 1).trans rfl
                    have hcz85_2 : wc.cell? ⟨gb174, 2, none⟩ = some (.int .i64 t171) := (blk_cell BK174.out 2).trans rfl
                    have hcz85_3 : wc.cell? ⟨gb174, 3, none⟩ = some (.int .i64 t172) := (blk_cell BK174.out 3).trans rfl
                    have hfz85_0 := blk_frozen BK174.out 0
                    have hfz85_1 := blk_frozen BK174.out 1
                    have hfz85_2 := blk_frozen BK174.out 2
                    have hfz85_3 := blk_frozen BK174.out 3
                    go_wp2_with (first | (go_at_call 8; (with_reducible refine (tidewaylaw17_heads.calls  t214 _ A60.out).mono ?_); rintro e w86 ⟨rfl, hb⟩; have n0_ := Aside0.mk (blk_below (g := gb167) (o := .cells #[.int .i64 a0_0, .int .i64 a0_1, .int .i64 a0_2, .int .i64 a0_3] 23 (0, 0)) (by (with_reducible repeat (first | refine blk_drewN ?_ _ | refine blk_drew ?_ | refine blk_alloc ?_ _)); exact BK167.out) hb); have n1_ := Aside0.mk (blk_below (g := gb168) (o := .cells #[.int .i64 a1_0, .int .i64 a1_1, .bool a1_2, .int .i64 a1_3, .int .i64 a1_4, .bool a1_5, .bool a1_6, .bool a1_7, .int .i64 a1_8, .int .i64 a1_9, .int .i64 a1_10, .bool a1_11] 33 (0, 0)) (by (with_reducible repeat (first | refine blk_drewN ?_ _ | refine blk_drew ?_ | refine blk_alloc ?_ _)); exact BK168.out) hb); have n2_ := Aside0.mk (blk_below (g := gb174) (o := .cells #[.int .i64 t169, .int .i64 t170, .int .i64 t171, .int .i64 t172] 23 (0, 0)) (by (with_reducible repeat (first | refine blk_drewN ?_ _ | refine blk_drew ?_ | refine blk_alloc ?_ _)); exact BK174.out) hb); have n3_ := Aside0.mk (blk_below (g := gb192) (o := .cells #[.int .i64 t175, .int .i64 t176, .int .i64 t177, .int .i64 t178] 23 (0, 0)) (by (with_reducible repeat (first | refine blk_drewN ?_ _ | refine blk_drew ?_ | refine blk_alloc ?_ _)); exact BK192.out) hb); have n4_ := Aside0.mk (blk_below (g := gb193) (o := .cells #[.int .i64 t179, .int .i64 t180, .bool t181, .int .i64 t182, .int .i64 t183, .bool t184, .bool t185, .bool t186, .int .i64 t187, .int .i64 t188, .int .i64 t189, .bool true] 33 (0, 0)) (by (with_reducible repeat (first | refine blk_drewN ?_ _ | refine blk_drew ?_ | refine blk_alloc ?_ _)); exact BK193.out) hb); have n5_ := Aside0.mk (blk_below (g := gb211) (o := .cells #[.int .i64 t194, .int .i64 t195, .int .i64 t196, .int .i64 t197] 23 (0, 0)) (by (with_reducible repeat (first | refine blk_drewN ?_ _ | refine blk_drew ?_ | refine blk_alloc ?_ _)); exact BK211.out) hb); have n6_ := Aside0.mk (blk_below (g := gb212) (o := .cells #[.int .i64 t198, .int .i64 t199, .bool t200, .int .i64 t201, .int .i64 t202, .bool t203, .bool t204, .bool t205, .int .i64 t206, .int .i64 t207, .int .i64 t208, .bool t209] 33 (0, 0)) (by (with_reducible repeat (first | refine blk_drewN ?_ _ | refine blk_drew ?_ | refine blk_alloc ?_ _)); exact BK212.out) hb); have n7_ := Aside0.mk (below_step (by repeat (first | (with_reducible first | exact HB.out | apply below_alloc | apply pw_below_drewN | apply below_drew1 | refine below_set ?_ GE167.out | refine below_set ?_ GE168.out | refine below_set ?_ GE174.out | refine below_set ?_ GE192.out | refine below_set ?_ GE193.out | refine below_set ?_ GE211.out | refine below_set ?_ GE212.out) | exact HB.out)) hb); clear BK167; clear BK168; clear BK174; clear BK192; clear BK193; clear BK211; clear BK212; clear HB; have BK167 := n0_; have BK168 := n1_; have BK174 := n2_; have BK192 := n3_; have BK193 := n4_; have BK211 := n5_; have BK212 := n6_; have HB := n7_; clear n0_ n1_ n2_ n3_ n4_ n5_ n6_ n7_; (try clear hb); (try clear hb2); (try clear hk); (try clear hi)))
                    go_ret
                    exact ⟨by first | rfl | (simp [errW_none, errW_some] <;> rfl) | (simp [*, errW_none, errW_some] <;> rfl), by repeat (first | (with_reducible first | exact HB.out | apply below_alloc | apply pw_below_drewN | apply below_drew1 | refine below_set ?_ GE167.out | refine below_set ?_ GE168.out | refine below_set ?_ GE174.out | refine below_set ?_ GE192.out | refine below_set ?_ GE193.out | refine below_set ?_ GE211.out | refine below_set ?_ GE212.out) | exact HB.out)⟩
                  · rw [if_neg c59] at H
                    have c59b0 : (t169 == a0_0) = false := beq_eq_false_iff_ne.mpr c59
                    have c59b1 : (t169 != a0_0) = true := bne_iff_ne.mpr c59
                    obtain rfl := Option.some.inj H
                    have hnb87 := NB193_167.out
                    have hnc87 := NB167_193.out
                    have hnb88 := NB193_168.out
                    have hnc88 := NB168_193.out
                    have hnb89 := NB193_174.out
                    have hnc89 := NB174_193.out
                    have hnb90 := NB193_192.out
                    have hnc90 := NB192_193.out
                    have hnb91 := NB193_211.out
                    have hnc91 := NB211_193.out
                    have hnb92 := NB193_212.out
                    have hnc92 := NB212_193.out
                    have hcz93_0 : wc.cell? ⟨gb193, 0, none⟩ = some (.int .i64 t179) := (blk_cell BK193.out 0).trans rfl
                    have hcz93_1 : wc.cell? ⟨gb193, 1, none⟩ = some (.int .i64 t180) := (blk_cell BK193.out 1).trans rfl
                    have hcz93_2 : wc.cell? ⟨gb193, 2, none⟩ = some (.bool t181) := (blk_cell BK193.out 2).trans rfl
                    have hcz93_3 : wc.cell? ⟨gb193, 3, none⟩ = some (.int .i64 t182) := (blk_cell BK193.out 3).trans rfl
                    have hcz93_4 : wc.cell? ⟨gb193, 4, none⟩ = some (.int .i64 t183) := (blk_cell BK193.out 4).trans rfl
                    have hcz93_5 : wc.cell? ⟨gb193, 5, none⟩ = some (.bool t184) := (blk_cell BK193.out 5).trans rfl
                    have hcz93_6 : wc.cell? ⟨gb193, 6, none⟩ = some (.bool t185) := (blk_cell BK193.out 6).trans rfl
                    have hcz93_7 : wc.cell? ⟨gb193, 7, none⟩ = some (.bool t186) := (blk_cell BK193.out 7).trans rfl
                    have hcz93_8 : wc.cell? ⟨gb193, 8, none⟩ = some (.int .i64 t187) := (blk_cell BK193.out 8).trans rfl
                    have hcz93_9 : wc.cell? ⟨gb193, 9, none⟩ = some (.int .i64 t188) := (blk_cell BK193.out 9).trans rfl
                    have hcz93_10 : wc.cell? ⟨gb193, 10, none⟩ = some (.int .i64 t189) := (blk_cell BK193.out 10).trans rfl
                    have hcz93_11 : wc.cell? ⟨gb193, 11, none⟩ = some (.bool true) := (blk_cell BK193.out 11).trans rfl
                    have hfz93_0 := blk_frozen BK193.out 0
                    have hfz93_1 := blk_frozen BK193.out 1
                    have hfz93_2 := blk_frozen BK193.out 2
                    have hfz93_3 := blk_frozen BK193.out 3
                    have hfz93_4 := blk_frozen BK193.out 4
                    have hfz93_5 := blk_frozen BK193.out 5
                    have hfz93_6 := blk_frozen BK193.out 6
                    have hfz93_7 := blk_frozen BK193.out 7
                    have hfz93_8 := blk_frozen BK193.out 8
                    have hfz93_9 := blk_frozen BK193.out 9
                    have hfz93_10 := blk_frozen BK193.out 10
                    have hfz93_11 := blk_frozen BK193.out 11
                    have hnb94 := NB212_167.out
                    have hnc94 := NB167_212.out
                    have hnb95 := NB212_168.out
                    have hnc95 := NB168_212.out
                    have hnb96 := NB212_174.out
                    have hnc96 := NB174_212.out
                    have hnb97 := NB212_192.out
                    have hnc97 := NB192_212.out
                    have hnb98 := NB212_211.out
                    have hnc98 := NB211_212.out
                    have hcz99_0 : wc.cell? ⟨gb212, 0, none⟩ = some (.int .i64 t198) := (blk_cell BK212.out 0).trans rfl
                    have hcz99_1 : wc.cell? ⟨gb212, 1, none⟩ = some (.int .i64 t199) := (blk_cell BK212.out 1).trans rfl
                    have hcz99_2 : wc.cell? ⟨gb212, 2, none⟩ = some (.bool t200) := (blk_cell BK212.out 2).trans rfl
                    have hcz99_3 : wc.cell? ⟨gb212, 3, none⟩ = some (.int .i64 t201) := (blk_cell BK212.out 3).trans rfl
                    have hcz99_4 : wc.cell? ⟨gb212, 4, none⟩ = some (.int .i64 t202) := (blk_cell BK212.out 4).trans rfl
                    have hcz99_5 : wc.cell? ⟨gb212, 5, none⟩ = some (.bool t203) := (blk_cell BK212.out 5).trans rfl
                    have hcz99_6 : wc.cell? ⟨gb212, 6, none⟩ = some (.bool t204) := (blk_cell BK212.out 6).trans rfl
                    have hcz99_7 : wc.cell? ⟨gb212, 7, none⟩ = some (.bool t205) := (blk_cell BK212.out 7).trans rfl
                    have hcz99_8 : wc.cell? ⟨gb212, 8, none⟩ = some (.int .i64 t206) := (blk_cell BK212.out 8).trans rfl
                    have hcz99_9 : wc.cell? ⟨gb212, 9, none⟩ = some (.int .i64 t207) := (blk_cell BK212.out 9).trans rfl
                    have hcz99_10 : wc.cell? ⟨gb212, 10, none⟩ = some (.int .i64 t208) := (blk_cell BK212.out 10).trans rfl
                    have hcz99_11 : wc.cell? ⟨gb212, 11, none⟩ = some (.bool t209) := (blk_cell BK212.out 11).trans rfl
                    have hfz99_0 := blk_frozen BK212.out 0
                    have hfz99_1 := blk_frozen BK212.out 1
                    have hfz99_2 := blk_frozen BK212.out 2
                    have hfz99_3 := blk_frozen BK212.out 3
                    have hfz99_4 := blk_frozen BK212.out 4
                    have hfz99_5 := blk_frozen BK212.out 5
                    have hfz99_6 := blk_frozen BK212.out 6
                    have hfz99_7 := blk_frozen BK212.out 7
                    have hfz99_8 := blk_frozen BK212.out 8
                    have hfz99_9 := blk_frozen BK212.out 9
                    have hfz99_10 := blk_frozen BK212.out 10
                    have hfz99_11 := blk_frozen BK212.out 11
                    have hnb100 := NB167_168.out
                    have hnc100 := NB168_167.out
                    have hnb101 := NB167_174.out
                    have hnc101 := NB174_167.out
                    have hnb102 := NB167_192.out
                    have hnc102 := NB192_167.out
                    have hnb103 := NB167_211.out
                    have hnc103 := NB211_167.out
                    have hcz104_0 : wc.cell? ⟨gb167, 0, none⟩ = some (.int .i64 a0_0) := (blk_cell BK167.out 0).trans rfl
                    have hcz104_1 : wc.cell? ⟨gb167, 1, none⟩ = some (.int .i64 a0_1) := (blk_cell BK167.out 1).trans rfl
                    have hcz104_2 : wc.cell? ⟨gb167, 2, none⟩ = some (.int .i64 a0_2) := (blk_cell BK167.out 2).trans rfl
                    have hcz104_3 : wc.cell? ⟨gb167, 3, none⟩ = some (.int .i64 a0_3) := (blk_cell BK167.out 3).trans rfl
                    have hfz104_0 := blk_frozen BK167.out 0
                    have hfz104_1 := blk_frozen BK167.out 1
                    have hfz104_2 := blk_frozen BK167.out 2
                    have hfz104_3 := blk_frozen BK167.out 3
                    have hnb105 := NB168_174.out
                    have hnc105 := NB174_168.out
                    have hnb106 := NB168_192.out
                    have hnc106 := NB192_168.out
                    have hnb107 := NB168_211.out
                    have hnc107 := NB211_168.out
                    have hcz108_0 : wc.cell? ⟨gb168, 0, none⟩ = some (.int .i64 a1_0) := (blk_cell BK168.out 0).trans rfl
                    have hcz108_1 : wc.cell? ⟨gb168, 1, none⟩ = some (.int .i64 a1_1) := (blk_cell BK168.out 1).trans rfl
                    have hcz108_2 : wc.cell? ⟨gb168, 2, none⟩ = some (.bool a1_2) := (blk_cell BK168.out 2).trans rfl
                    have hcz108_3 : wc.cell? ⟨gb168, 3, none⟩ = some (.int .i64 a1_3) := (blk_cell BK168.out 3).trans rfl
                    have hcz108_4 : wc.cell? ⟨gb168, 4, none⟩ = some (.int .i64 a1_4) := (blk_cell BK168.out 4).trans rfl
                    have hcz108_5 : wc.cell? ⟨gb168, 5, none⟩ = some (.bool a1_5) := (blk_cell BK168.out 5).trans rfl
                    have hcz108_6 : wc.cell? ⟨gb168, 6, none⟩ = some (.bool a1_6) := (blk_cell BK168.out 6).trans rfl
                    have hcz108_7 : wc.cell? ⟨gb168, 7, none⟩ = some (.bool a1_7) := (blk_cell BK168.out 7).trans rfl
                    have hcz108_8 : wc.cell? ⟨gb168, 8, none⟩ = some (.int .i64 a1_8) := (blk_cell BK168.out 8).trans rfl
                    have hcz108_9 : wc.cell? ⟨gb168, 9, none⟩ = some (.int .i64 a1_9) := (blk_cell BK168.out 9).trans rfl
                    have hcz108_10 : wc.cell? ⟨gb168, 10, none⟩ = some (.int .i64 a1_10) := (blk_cell BK168.out 10).trans rfl
                    have hcz108_11 : wc.cell? ⟨gb168, 11, none⟩ = some (.bool a1_11) := (blk_cell BK168.out 11).trans rfl
                    have hfz108_0 := blk_frozen BK168.out 0
                    have hfz108_1 := blk_frozen BK168.out 1
                    have hfz108_2 := blk_frozen BK168.out 2
                    have hfz108_3 := blk_frozen BK168.out 3
                    have hfz108_4 := blk_frozen BK168.out 4
                    have hfz108_5 := blk_frozen BK168.out 5
                    have hfz108_6 := blk_frozen BK168.out 6
                    have hfz108_7 := blk_frozen BK168.out 7
                    have hfz108_8 := blk_frozen BK168.out 8
                    have hfz108_9 := blk_frozen BK168.out 9
                    have hfz108_10 := blk_frozen BK168.out 10
                    have hfz108_11 := blk_frozen BK168.out 11
                    have hnb109 := NB174_192.out
                    have hnc109 := NB192_174.out
                    have hnb110 := NB174_211.out
                    have hnc110 := NB211_174.out
                    have hcz111_0 : wc.cell? ⟨gb174, 0, none⟩ = some (.int .i64 t169) := (blk_cell BK174.out 0).trans rfl
                    have hcz111_1 : wc.cell? ⟨gb174, 1, none⟩ = some (.int .i64 t170) := (blk_cell BK174.out 1).trans rfl
                    have hcz111_2 : wc.cell? ⟨gb174, 2, none⟩ = some (.int .i64 t171) := (blk_cell BK174.out 2).trans rfl
                    have hcz111_3 : wc.cell? ⟨gb174, 3, none⟩ = some (.int .i64 t172) := (blk_cell BK174.out 3).trans rfl
                    have hfz111_0 := blk_frozen BK174.out 0
                    have hfz111_1 := blk_frozen BK174.out 1
                    have hfz111_2 := blk_frozen BK174.out 2
                    have hfz111_3 := blk_frozen BK174.out 3
                    go_wp2
                    go_ret
                    exact ⟨by first | rfl | (simp [errW_none, errW_some] <;> rfl) | (simp [*, errW_none, errW_some] <;> rfl), by repeat (first | (with_reducible first | exact HB.out | apply below_alloc | apply pw_below_drewN | apply below_drew1 | refine below_set ?_ GE167.out | refine below_set ?_ GE168.out | refine below_set ?_ GE174.out | refine below_set ?_ GE192.out | refine below_set ?_ GE193.out | refine below_set ?_ GE211.out | refine below_set ?_ GE212.out) | exact HB.out)⟩
                · rw [if_neg c58] at H
                  have c58b0 : (t180 == a1_1) = false := beq_eq_false_iff_ne.mpr c58
                  have c58b1 : (t180 != a1_1) = true := bne_iff_ne.mpr c58
                  obtain rfl := Option.some.inj H
                  have hnb112 := NB193_167.out
                  have hnc112 := NB167_193.out
                  have hnb113 := NB193_168.out
                  have hnc113 := NB168_193.out
                  have hnb114 := NB193_174.out
                  have hnc114 := NB174_193.out
                  have hnb115 := NB193_192.out
                  have hnc115 := NB192_193.out
                  have hnb116 := NB193_211.out
                  have hnc116 := NB211_193.out
                  have hnb117 := NB193_212.out
                  have hnc117 := NB212_193.out
                  have hcz118_0 : wc.cell? ⟨gb193, 0, none⟩ = some (.int .i64 t179) := (blk_cell BK193.out 0).trans rfl
                  have hcz118_1 : wc.cell? ⟨gb193, 1, none⟩ = some (.int .i64 t180) := (blk_cell BK193.out 1).trans rfl
                  have hcz118_2 : wc.cell? ⟨gb193, 2, none⟩ = some (.bool t181) := (blk_cell BK193.out 2).trans rfl
                  have hcz118_3 : wc.cell? ⟨gb193, 3, none⟩ = some (.int .i64 t182) := (blk_cell BK193.out 3).trans rfl
                  have hcz118_4 : wc.cell? ⟨gb193, 4, none⟩ = some (.int .i64 t183) := (blk_cell BK193.out 4).trans rfl
                  have hcz118_5 : wc.cell? ⟨gb193, 5, none⟩ = some (.bool t184) := (blk_cell BK193.out 5).trans rfl
                  have hcz118_6 : wc.cell? ⟨gb193, 6, none⟩ = some (.bool t185) := (blk_cell BK193.out 6).trans rfl
                  have hcz118_7 : wc.cell? ⟨gb193, 7, none⟩ = some (.bool t186) := (blk_cell BK193.out 7).trans rfl
                  have hcz118_8 : wc.cell? ⟨gb193, 8, none⟩ = some (.int .i64 t187) := (blk_cell BK193.out 8).trans rfl
                  have hcz118_9 : wc.cell? ⟨gb193, 9, none⟩ = some (.int .i64 t188) := (blk_cell BK193.out 9).trans rfl
                  have hcz118_10 : wc.cell? ⟨gb193, 10, none⟩ = some (.int .i64 t189) := (blk_cell BK193.out 10).trans rfl
                  have hcz118_11 : wc.cell? ⟨gb193, 11, none⟩ = some (.bool true) := (blk_cell BK193.out 11).trans rfl
                  have hfz118_0 := blk_frozen BK193.out 0
                  have hfz118_1 := blk_frozen BK193.out 1
                  have hfz118_2 := blk_frozen BK193.out 2
                  have hfz118_3 := blk_frozen BK193.out 3
                  have hfz118_4 := blk_frozen BK193.out 4
                  have hfz118_5 := blk_frozen BK193.out 5
                  have hfz118_6 := blk_frozen BK193.out 6
                  have hfz118_7 := blk_frozen BK193.out 7
                  have hfz118_8 := blk_frozen BK193.out 8
                  have hfz118_9 := blk_frozen BK193.out 9
                  have hfz118_10 := blk_frozen BK193.out 10
                  have hfz118_11 := blk_frozen BK193.out 11
                  have hnb119 := NB212_167.out
                  have hnc119 := NB167_212.out
                  have hnb120 := NB212_168.out
                  have hnc120 := NB168_212.out
                  have hnb121 := NB212_174.out
                  have hnc121 := NB174_212.out
                  have hnb122 := NB212_192.out
                  have hnc122 := NB192_212.out
                  have hnb123 := NB212_211.out
                  have hnc123 := NB211_212.out
                  have hcz124_0 : wc.cell? ⟨gb212, 0, none⟩ = some (.int .i64 t198) := (blk_cell BK212.out 0).trans rfl
                  have hcz124_1 : wc.cell? ⟨gb212, 1, none⟩ = some (.int .i64 t199) := (blk_cell BK212.out 1).trans rfl
                  have hcz124_2 : wc.cell? ⟨gb212, 2, none⟩ = some (.bool t200) := (blk_cell BK212.out 2).trans rfl
                  have hcz124_3 : wc.cell? ⟨gb212, 3, none⟩ = some (.int .i64 t201) := (blk_cell BK212.out 3).trans rfl
                  have hcz124_4 : wc.cell? ⟨gb212, 4, none⟩ = some (.int .i64 t202) := (blk_cell BK212.out 4).trans rfl
                  have hcz124_5 : wc.cell? ⟨gb212, 5, none⟩ = some (.bool t203) := (blk_cell BK212.out 5).trans rfl
                  have hcz124_6 : wc.cell? ⟨gb212, 6, none⟩ = some (.bool t204) := (blk_cell BK212.out 6).trans rfl
                  have hcz124_7 : wc.cell? ⟨gb212, 7, none⟩ = some (.bool t205) := (blk_cell BK212.out 7).trans rfl
                  have hcz124_8 : wc.cell? ⟨gb212, 8, none⟩ = some (.int .i64 t206) := (blk_cell BK212.out 8).trans rfl
                  have hcz124_9 : wc.cell? ⟨gb212, 9, none⟩ = some (.int .i64 t207) := (blk_cell BK212.out 9).trans rfl
                  have hcz124_10 : wc.cell? ⟨gb212, 10, none⟩ = some (.int .i64 t208) := (blk_cell BK212.out 10).trans rfl
                  have hcz124_11 : wc.cell? ⟨gb212, 11, none⟩ = some (.bool t209) := (blk_cell BK212.out 11).trans rfl
                  have hfz124_0 := blk_frozen BK212.out 0
                  have hfz124_1 := blk_frozen BK212.out 1
                  have hfz124_2 := blk_frozen BK212.out 2
                  have hfz124_3 := blk_frozen BK212.out 3
                  have hfz124_4 := blk_frozen BK212.out 4
                  have hfz124_5 := blk_frozen BK212.out 5
                  have hfz124_6 := blk_frozen BK212.out 6
                  have hfz124_7 := blk_frozen BK212.out 7
                  have hfz124_8 := blk_frozen BK212.out 8
                  have hfz124_9 := blk_frozen BK212.out 9
                  have hfz124_10 := blk_frozen BK212.out 10
                  have hfz124_11 := blk_frozen BK212.out 11
                  have hnb125 := NB167_168.out
                  have hnc125 := NB168_167.out
                  have hnb126 := NB167_174.out
                  have hnc126 := NB174_167.out
                  have hnb127 := NB167_192.out
                  have hnc127 := NB192_167.out
                  have hnb128 := NB167_211.out
                  have hnc128 := NB211_167.out
                  have hcz129_0 : wc.cell? ⟨gb167, 0, none⟩ = some (.int .i64 a0_0) := (blk_cell BK167.out 0).trans rfl
                  have hcz129_1 : wc.cell? ⟨gb167, 1, none⟩ = some (.int .i64 a0_1) := (blk_cell BK167.out 1).trans rfl
                  have hcz129_2 : wc.cell? ⟨gb167, 2, none⟩ = some (.int .i64 a0_2) := (blk_cell BK167.out 2).trans rfl
                  have hcz129_3 : wc.cell? ⟨gb167, 3, none⟩ = some (.int .i64 a0_3) := (blk_cell BK167.out 3).trans rfl
                  have hfz129_0 := blk_frozen BK167.out 0
                  have hfz129_1 := blk_frozen BK167.out 1
                  have hfz129_2 := blk_frozen BK167.out 2
                  have hfz129_3 := blk_frozen BK167.out 3
                  have hnb130 := NB168_174.out
                  have hnc130 := NB174_168.out
                  have hnb131 := NB168_192.out
                  have hnc131 := NB192_168.out
                  have hnb132 := NB168_211.out
                  have hnc132 := NB211_168.out
                  have hcz133_0 : wc.cell? ⟨gb168, 0, none⟩ = some (.int .i64 a1_0) := (blk_cell BK168.out 0).trans rfl
                  have hcz133_1 : wc.cell? ⟨gb168, 1, none⟩ = some (.int .i64 a1_1) := (blk_cell BK168.out 1).trans rfl
                  have hcz133_2 : wc.cell? ⟨gb168, 2, none⟩ = some (.bool a1_2) := (blk_cell BK168.out 2).trans rfl
                  have hcz133_3 : wc.cell? ⟨gb168, 3, none⟩ = some (.int .i64 a1_3) := (blk_cell BK168.out 3).trans rfl
                  have hcz133_4 : wc.cell? ⟨gb168, 4, none⟩ = some (.int .i64 a1_4) := (blk_cell BK168.out 4).trans rfl
                  have hcz133_5 : wc.cell? ⟨gb168, 5, none⟩ = some (.bool a1_5) := (blk_cell BK168.out 5).trans rfl
                  have hcz133_6 : wc.cell? ⟨gb168, 6, none⟩ = some (.bool a1_6) := (blk_cell BK168.out 6).trans rfl
                  have hcz133_7 : wc.cell? ⟨gb168, 7, none⟩ = some (.bool a1_7) := (blk_cell BK168.out 7).trans rfl
                  have hcz133_8 : wc.cell? ⟨gb168, 8, none⟩ = some (.int .i64 a1_8) := (blk_cell BK168.out 8).trans rfl
                  have hcz133_9 : wc.cell? ⟨gb168, 9, none⟩ = some (.int .i64 a1_9) := (blk_cell BK168.out 9).trans rfl
                  have hcz133_10 : wc.cell? ⟨gb168, 10, none⟩ = some (.int .i64 a1_10) := (blk_cell BK168.out 10).trans rfl
                  have hcz133_11 : wc.cell? ⟨gb168, 11, none⟩ = some (.bool a1_11) := (blk_cell BK168.out 11).trans rfl
                  have hfz133_0 := blk_frozen BK168.out 0
                  have hfz133_1 := blk_frozen BK168.out 1
                  have hfz133_2 := blk_frozen BK168.out 2
                  have hfz133_3 := blk_frozen BK168.out 3
                  have hfz133_4 := blk_frozen BK168.out 4
                  have hfz133_5 := blk_frozen BK168.out 5
                  have hfz133_6 := blk_frozen BK168.out 6
                  have hfz133_7 := blk_frozen BK168.out 7
                  have hfz133_8 := blk_frozen BK168.out 8
                  have hfz133_9 := blk_frozen BK168.out 9
                  have hfz133_10 := blk_frozen BK168.out 10
                  have hfz133_11 := blk_frozen BK168.out 11
                  go_wp2
                  go_ret
                  exact ⟨by first | rfl | (simp [errW_none, errW_some] <;> rfl) | (simp [*, errW_none, errW_some] <;> rfl), by repeat (first | (with_reducible first | exact HB.out | apply below_alloc | apply pw_below_drewN | apply below_drew1 | refine below_set ?_ GE167.out | refine below_set ?_ GE168.out | refine below_set ?_ GE174.out | refine below_set ?_ GE192.out | refine below_set ?_ GE193.out | refine below_set ?_ GE211.out | refine below_set ?_ GE212.out) | exact HB.out)⟩
              · rw [if_neg c57] at H
                have c57b0 : (t179 == a1_0) = false := beq_eq_false_iff_ne.mpr c57
                have c57b1 : (t179 != a1_0) = true := bne_iff_ne.mpr c57
                obtain rfl := Option.some.inj H
                have hnb134 := NB193_167.out
                have hnc134 := NB167_193.out
                have hnb135 := NB193_168.out
                have hnc135 := NB168_193.out
                have hnb136 := NB193_174.out
                have hnc136 := NB174_193.out
                have hnb137 := NB193_192.out
                have hnc137 := NB192_193.out
                have hnb138 := NB193_211.out
                have hnc138 := NB211_193.out
                have hnb139 := NB193_212.out
                have hnc139 := NB212_193.out
                have hcz140_0 : wc.cell? ⟨gb193, 0, none⟩ = some (.int .i64 t179) := (blk_cell BK193.out 0).trans rfl
                have hcz140_1 : wc.cell? ⟨gb193, 1, none⟩ = some (.int .i64 t180) := (blk_cell BK193.out 1).trans rfl
                have hcz140_2 : wc.cell? ⟨gb193, 2, none⟩ = some (.bool t181) := (blk_cell BK193.out 2).trans rfl
                have hcz140_3 : wc.cell? ⟨gb193, 3, none⟩ = some (.int .i64 t182) := (blk_cell BK193.out 3).trans rfl
                have hcz140_4 : wc.cell? ⟨gb193, 4, none⟩ = some (.int .i64 t183) := (blk_cell BK193.out 4).trans rfl
                have hcz140_5 : wc.cell? ⟨gb193, 5, none⟩ = some (.bool t184) := (blk_cell BK193.out 5).trans rfl
                have hcz140_6 : wc.cell? ⟨gb193, 6, none⟩ = some (.bool t185) := (blk_cell BK193.out 6).trans rfl
                have hcz140_7 : wc.cell? ⟨gb193, 7, none⟩ = some (.bool t186) := (blk_cell BK193.out 7).trans rfl
                have hcz140_8 : wc.cell? ⟨gb193, 8, none⟩ = some (.int .i64 t187) := (blk_cell BK193.out 8).trans rfl
                have hcz140_9 : wc.cell? ⟨gb193, 9, none⟩ = some (.int .i64 t188) := (blk_cell BK193.out 9).trans rfl
                have hcz140_10 : wc.cell? ⟨gb193, 10, none⟩ = some (.int .i64 t189) := (blk_cell BK193.out 10).trans rfl
                have hcz140_11 : wc.cell? ⟨gb193, 11, none⟩ = some (.bool true) := (blk_cell BK193.out 11).trans rfl
                have hfz140_0 := blk_frozen BK193.out 0
                have hfz140_1 := blk_frozen BK193.out 1
                have hfz140_2 := blk_frozen BK193.out 2
                have hfz140_3 := blk_frozen BK193.out 3
                have hfz140_4 := blk_frozen BK193.out 4
                have hfz140_5 := blk_frozen BK193.out 5
                have hfz140_6 := blk_frozen BK193.out 6
                have hfz140_7 := blk_frozen BK193.out 7
                have hfz140_8 := blk_frozen BK193.out 8
                have hfz140_9 := blk_frozen BK193.out 9
                have hfz140_10 := blk_frozen BK193.out 10
                have hfz140_11 := blk_frozen BK193.out 11
                have hnb141 := NB212_167.out
                have hnc141 := NB167_212.out
                have hnb142 := NB212_168.out
                have hnc142 := NB168_212.out
                have hnb143 := NB212_174.out
                have hnc143 := NB174_212.out
                have hnb144 := NB212_192.out
                have hnc144 := NB192_212.out
                have hnb145 := NB212_211.out
                have hnc145 := NB211_212.out
                have hcz146_0 : wc.cell? ⟨gb212, 0, none⟩ = some (.int .i64 t198) := (blk_cell BK212.out 0).trans rfl
                have hcz146_1 : wc.cell? ⟨gb212, 1, none⟩ = some (.int .i64 t199) := (blk_cell BK212.out 1).trans rfl
                have hcz146_2 : wc.cell? ⟨gb212, 2, none⟩ = some (.bool t200) := (blk_cell BK212.out 2).trans rfl
                have hcz146_3 : wc.cell? ⟨gb212, 3, none⟩ = some (.int .i64 t201) := (blk_cell BK212.out 3).trans rfl
                have hcz146_4 : wc.cell? ⟨gb212, 4, none⟩ = some (.int .i64 t202) := (blk_cell BK212.out 4).trans rfl
                have hcz146_5 : wc.cell? ⟨gb212, 5, none⟩ = some (.bool t203) := (blk_cell BK212.out 5).trans rfl
                have hcz146_6 : wc.cell? ⟨gb212, 6, none⟩ = some (.bool t204) := (blk_cell BK212.out 6).trans rfl
                have hcz146_7 : wc.cell? ⟨gb212, 7, none⟩ = some (.bool t205) := (blk_cell BK212.out 7).trans rfl
                have hcz146_8 : wc.cell? ⟨gb212, 8, none⟩ = some (.int .i64 t206) := (blk_cell BK212.out 8).trans rfl
                have hcz146_9 : wc.cell? ⟨gb212, 9, none⟩ = some (.int .i64 t207) := (blk_cell BK212.out 9).trans rfl
                have hcz146_10 : wc.cell? ⟨gb212, 10, none⟩ = some (.int .i64 t208) := (blk_cell BK212.out 10).trans rfl
                have hcz146_11 : wc.cell? ⟨gb212, 11, none⟩ = some (.bool t209) := (blk_cell BK212.out 11).trans rfl
                have hfz146_0 := blk_frozen BK212.out 0
                have hfz146_1 := blk_frozen BK212.out 1
                have hfz146_2 := blk_frozen BK212.out 2
                have hfz146_3 := blk_frozen BK212.out 3
                have hfz146_4 := blk_frozen BK212.out 4
                have hfz146_5 := blk_frozen BK212.out 5
                have hfz146_6 := blk_frozen BK212.out 6
                have hfz146_7 := blk_frozen BK212.out 7
                have hfz146_8 := blk_frozen BK212.out 8
                have hfz146_9 := blk_frozen BK212.out 9
                have hfz146_10 := blk_frozen BK212.out 10
                have hfz146_11 := blk_frozen BK212.out 11
                have hnb147 := NB167_168.out
                have hnc147 := NB168_167.out
                have hnb148 := NB167_174.out
                have hnc148 := NB174_167.out
                have hnb149 := NB167_192.out
                have hnc149 := NB192_167.out
                have hnb150 := NB167_211.out
                have hnc150 := NB211_167.out
                have hcz151_0 : wc.cell? ⟨gb167, 0, none⟩ = some (.int .i64 a0_0) := (blk_cell BK167.out 0).trans rfl
                have hcz151_1 : wc.cell? ⟨gb167, 1, none⟩ = some (.int .i64 a0_1) := (blk_cell BK167.out 1).trans rfl
                have hcz151_2 : wc.cell? ⟨gb167, 2, none⟩ = some (.int .i64 a0_2) := (blk_cell BK167.out 2).trans rfl
                have hcz151_3 : wc.cell? ⟨gb167, 3, none⟩ = some (.int .i64 a0_3) := (blk_cell BK167.out 3).trans rfl
                have hfz151_0 := blk_frozen BK167.out 0
                have hfz151_1 := blk_frozen BK167.out 1
                have hfz151_2 := blk_frozen BK167.out 2
                have hfz151_3 := blk_frozen BK167.out 3
                have hnb152 := NB168_174.out
                have hnc152 := NB174_168.out
                have hnb153 := NB168_192.out
                have hnc153 := NB192_168.out
                have hnb154 := NB168_211.out
                have hnc154 := NB211_168.out
                have hcz155_0 : wc.cell? ⟨gb168, 0, none⟩ = some (.int .i64 a1_0) := (blk_cell BK168.out 0).trans rfl
                have hcz155_1 : wc.cell? ⟨gb168, 1, none⟩ = some (.int .i64 a1_1) := (blk_cell BK168.out 1).trans rfl
                have hcz155_2 : wc.cell? ⟨gb168, 2, none⟩ = some (.bool a1_2) := (blk_cell BK168.out 2).trans rfl
                have hcz155_3 : wc.cell? ⟨gb168, 3, none⟩ = some (.int .i64 a1_3) := (blk_cell BK168.out 3).trans rfl
                have hcz155_4 : wc.cell? ⟨gb168, 4, none⟩ = some (.int .i64 a1_4) := (blk_cell BK168.out 4).trans rfl
                have hcz155_5 : wc.cell? ⟨gb168, 5, none⟩ = some (.bool a1_5) := (blk_cell BK168.out 5).trans rfl
                have hcz155_6 : wc.cell? ⟨gb168, 6, none⟩ = some (.bool a1_6) := (blk_cell BK168.out 6).trans rfl
                have hcz155_7 : wc.cell? ⟨gb168, 7, none⟩ = some (.bool a1_7) := (blk_cell BK168.out 7).trans rfl
                have hcz155_8 : wc.cell? ⟨gb168, 8, none⟩ = some (.int .i64 a1_8) := (blk_cell BK168.out 8).trans rfl
                have hcz155_9 : wc.cell? ⟨gb168, 9, none⟩ = some (.int .i64 a1_9) := (blk_cell BK168.out 9).trans rfl
                have hcz155_10 : wc.cell? ⟨gb168, 10, none⟩ = some (.int .i64 a1_10) := (blk_cell BK168.out 10).trans rfl
                have hcz155_11 : wc.cell? ⟨gb168, 11, none⟩ = some (.bool a1_11) := (blk_cell BK168.out 11).trans rfl
                have hfz155_0 := blk_frozen BK168.out 0
                have hfz155_1 := blk_frozen BK168.out 1
                have hfz155_2 := blk_frozen BK168.out 2
                have hfz155_3 := blk_frozen BK168.out 3
                have hfz155_4 := blk_frozen BK168.out 4
                have hfz155_5 := blk_frozen BK168.out 5
                have hfz155_6 := blk_frozen BK168.out 6
                have hfz155_7 := blk_frozen BK168.out 7
                have hfz155_8 := blk_frozen BK168.out 8
                have hfz155_9 := blk_frozen BK168.out 9
                have hfz155_10 := blk_frozen BK168.out 10
                have hfz155_11 := blk_frozen BK168.out 11
                go_wp2
                go_ret
                exact ⟨by first | rfl | (simp [errW_none, errW_some] <;> rfl) | (simp [*, errW_none, errW_some] <;> rfl), by repeat (first | (with_reducible first | exact HB.out | apply below_alloc | apply pw_below_drewN | apply below_drew1 | refine below_set ?_ GE167.out | refine below_set ?_ GE168.out | refine below_set ?_ GE174.out | refine below_set ?_ GE192.out | refine below_set ?_ GE193.out | refine below_set ?_ GE211.out | refine below_set ?_ GE212.out) | exact HB.out)⟩
            · rw [if_neg c56] at H
              have c56b0 : (t187 == t206) = false := beq_eq_false_iff_ne.mpr c56
              have c56b1 : (t187 != t206) = true := bne_iff_ne.mpr c56
              obtain rfl := Option.some.inj H
              have hnb156 := NB193_167.out
              have hnc156 := NB167_193.out
              have hnb157 := NB193_168.out
              have hnc157 := NB168_193.out
              have hnb158 := NB193_174.out
              have hnc158 := NB174_193.out
              have hnb159 := NB193_192.out
              have hnc159 := NB192_193.out
              have hnb160 := NB193_211.out
              have hnc160 := NB211_193.out
              have hnb161 := NB193_212.out
              have hnc161 := NB212_193.out
              have hcz162_0 : wc.cell? ⟨gb193, 0, none⟩ = some (.int .i64 t179) := (blk_cell BK193.out 0).trans rfl
              have hcz162_1 : wc.cell? ⟨gb193, 1, none⟩ = some (.int .i64 t180) := (blk_cell BK193.out 1).trans rfl
              have hcz162_2 : wc.cell? ⟨gb193, 2, none⟩ = some (.bool t181) := (blk_cell BK193.out 2).trans rfl
              have hcz162_3 : wc.cell? ⟨gb193, 3, none⟩ = some (.int .i64 t182) := (blk_cell BK193.out 3).trans rfl
              have hcz162_4 : wc.cell? ⟨gb193, 4, none⟩ = some (.int .i64 t183) := (blk_cell BK193.out 4).trans rfl
              have hcz162_5 : wc.cell? ⟨gb193, 5, none⟩ = some (.bool t184) := (blk_cell BK193.out 5).trans rfl
              have hcz162_6 : wc.cell? ⟨gb193, 6, none⟩ = some (.bool t185) := (blk_cell BK193.out 6).trans rfl
              have hcz162_7 : wc.cell? ⟨gb193, 7, none⟩ = some (.bool t186) := (blk_cell BK193.out 7).trans rfl
              have hcz162_8 : wc.cell? ⟨gb193, 8, none⟩ = some (.int .i64 t187) := (blk_cell BK193.out 8).trans rfl
              have hcz162_9 : wc.cell? ⟨gb193, 9, none⟩ = some (.int .i64 t188) := (blk_cell BK193.out 9).trans rfl
              have hcz162_10 : wc.cell? ⟨gb193, 10, none⟩ = some (.int .i64 t189) := (blk_cell BK193.out 10).trans rfl
              have hcz162_11 : wc.cell? ⟨gb193, 11, none⟩ = some (.bool true) := (blk_cell BK193.out 11).trans rfl
              have hfz162_0 := blk_frozen BK193.out 0
              have hfz162_1 := blk_frozen BK193.out 1
              have hfz162_2 := blk_frozen BK193.out 2
              have hfz162_3 := blk_frozen BK193.out 3
              have hfz162_4 := blk_frozen BK193.out 4
              have hfz162_5 := blk_frozen BK193.out 5
              have hfz162_6 := blk_frozen BK193.out 6
              have hfz162_7 := blk_frozen BK193.out 7
              have hfz162_8 := blk_frozen BK193.out 8
              have hfz162_9 := blk_frozen BK193.out 9
              have hfz162_10 := blk_frozen BK193.out 10
              have hfz162_11 := blk_frozen BK193.out 11
              have hnb163 := NB212_167.out
              have hnc163 := NB167_212.out
              have hnb164 := NB212_168.out
              have hnc164 := NB168_212.out
              have hnb165 := NB212_174.out
              have hnc165 := NB174_212.out
              have hnb166 := NB212_192.out
              have hnc166 := NB192_212.out
              have hnb167 := NB212_211.out
              have hnc167 := NB211_212.out
              have hcz168_0 : wc.cell? ⟨gb212, 0, none⟩ = some (.int .i64 t198) := (blk_cell BK212.out 0).trans rfl
              have hcz168_1 : wc.cell? ⟨gb212, 1, none⟩ = some (.int .i64 t199) := (blk_cell BK212.out 1).trans rfl
              have hcz168_2 : wc.cell? ⟨gb212, 2, none⟩ = some (.bool t200) := (blk_cell BK212.out 2).trans rfl
              have hcz168_3 : wc.cell? ⟨gb212, 3, none⟩ = some (.int .i64 t201) := (blk_cell BK212.out 3).trans rfl
              have hcz168_4 : wc.cell? ⟨gb212, 4, none⟩ = some (.int .i64 t202) := (blk_cell BK212.out 4).trans rfl
              have hcz168_5 : wc.cell? ⟨gb212, 5, none⟩ = some (.bool t203) := (blk_cell BK212.out 5).trans rfl
              have hcz168_6 : wc.cell? ⟨gb212, 6, none⟩ = some (.bool t204) := (blk_cell BK212.out 6).trans rfl
              have hcz168_7 : wc.cell? ⟨gb212, 7, none⟩ = some (.bool t205) := (blk_cell BK212.out 7).trans rfl
              have hcz168_8 : wc.cell? ⟨gb212, 8, none⟩ = some (.int .i64 t206) := (blk_cell BK212.out 8).trans rfl
              have hcz168_9 : wc.cell? ⟨gb212, 9, none⟩ = some (.int .i64 t207) := (blk_cell BK212.out 9).trans rfl
              have hcz168_10 : wc.cell? ⟨gb212, 10, none⟩ = some (.int .i64 t208) := (blk_cell BK212.out 10).trans rfl
              have hcz168_11 : wc.cell? ⟨gb212, 11, none⟩ = some (.bool t209) := (blk_cell BK212.out 11).trans rfl
              have hfz168_0 := blk_frozen BK212.out 0
              have hfz168_1 := blk_frozen BK212.out 1
              have hfz168_2 := blk_frozen BK212.out 2
              have hfz168_3 := blk_frozen BK212.out 3
              have hfz168_4 := blk_frozen BK212.out 4
              have hfz168_5 := blk_frozen BK212.out 5
              have hfz168_6 := blk_frozen BK212.out 6
              have hfz168_7 := blk_frozen BK212.out 7
              have hfz168_8 := blk_frozen BK212.out 8
              have hfz168_9 := blk_frozen BK212.out 9
              have hfz168_10 := blk_frozen BK212.out 10
              have hfz168_11 := blk_frozen BK212.out 11
              have hnb169 := NB167_168.out
              have hnc169 := NB168_167.out
              have hnb170 := NB167_174.out
              have hnc170 := NB174_167.out
              have hnb171 := NB167_192.out
              have hnc171 := NB192_167.out
              have hnb172 := NB167_211.out
              have hnc172 := NB211_167.out
              have hcz173_0 : wc.cell? ⟨gb167, 0, none⟩ = some (.int .i64 a0_0) := (blk_cell BK167.out 0).trans rfl
              have hcz173_1 : wc.cell? ⟨gb167, 1, none⟩ = some (.int .i64 a0_1) := (blk_cell BK167.out 1).trans rfl
              have hcz173_2 : wc.cell? ⟨gb167, 2, none⟩ = some (.int .i64 a0_2) := (blk_cell BK167.out 2).trans rfl
              have hcz173_3 : wc.cell? ⟨gb167, 3, none⟩ = some (.int .i64 a0_3) := (blk_cell BK167.out 3).trans rfl
              have hfz173_0 := blk_frozen BK167.out 0
              have hfz173_1 := blk_frozen BK167.out 1
              have hfz173_2 := blk_frozen BK167.out 2
              have hfz173_3 := blk_frozen BK167.out 3
              go_wp2
              go_ret
              exact ⟨by first | rfl | (simp [errW_none, errW_some] <;> rfl) | (simp [*, errW_none, errW_some] <;> rfl), by repeat (first | (with_reducible first | exact HB.out | apply below_alloc | apply pw_below_drewN | apply below_drew1 | refine below_set ?_ GE167.out | refine below_set ?_ GE168.out | refine below_set ?_ GE174.out | refine below_set ?_ GE192.out | refine below_set ?_ GE193.out | refine below_set ?_ GE211.out | refine below_set ?_ GE212.out) | exact HB.out)⟩
          · rw [if_neg c55] at H
            have c55b0 : (t209 == (decide (a0_3 > 0))) = false := by simpa using c55
            (try (have c55b1 : decide (t209 = (decide (a0_3 > 0))) = false := by simpa using c55))
            (try (have c55b2 : (t209 == (decide (a0_3 > 0))) = false := by simpa using c55))
            (try (have c55b3 : ¬ (t209 = (decide (a0_3 > 0))) := by simpa using c55))
            clear c55
            obtain rfl := Option.some.inj H
            have hnb174 := NB193_167.out
            have hnc174 := NB167_193.out
            have hnb175 := NB193_168.out
            have hnc175 := NB168_193.out
            have hnb176 := NB193_174.out
            have hnc176 := NB174_193.out
            have hnb177 := NB193_192.out
            have hnc177 := NB192_193.out
            have hnb178 := NB193_211.out
            have hnc178 := NB211_193.out
            have hnb179 := NB193_212.out
            have hnc179 := NB212_193.out
            have hcz180_0 : wc.cell? ⟨gb193, 0, none⟩ = some (.int .i64 t179) := (blk_cell BK193.out 0).trans rfl
            have hcz180_1 : wc.cell? ⟨gb193, 1, none⟩ = some (.int .i64 t180) := (blk_cell BK193.out 1).trans rfl
            have hcz180_2 : wc.cell? ⟨gb193, 2, none⟩ = some (.bool t181) := (blk_cell BK193.out 2).trans rfl
            have hcz180_3 : wc.cell? ⟨gb193, 3, none⟩ = some (.int .i64 t182) := (blk_cell BK193.out 3).trans rfl
            have hcz180_4 : wc.cell? ⟨gb193, 4, none⟩ = some (.int .i64 t183) := (blk_cell BK193.out 4).trans rfl
            have hcz180_5 : wc.cell? ⟨gb193, 5, none⟩ = some (.bool t184) := (blk_cell BK193.out 5).trans rfl
            have hcz180_6 : wc.cell? ⟨gb193, 6, none⟩ = some (.bool t185) := (blk_cell BK193.out 6).trans rfl
            have hcz180_7 : wc.cell? ⟨gb193, 7, none⟩ = some (.bool t186) := (blk_cell BK193.out 7).trans rfl
            have hcz180_8 : wc.cell? ⟨gb193, 8, none⟩ = some (.int .i64 t187) := (blk_cell BK193.out 8).trans rfl
            have hcz180_9 : wc.cell? ⟨gb193, 9, none⟩ = some (.int .i64 t188) := (blk_cell BK193.out 9).trans rfl
            have hcz180_10 : wc.cell? ⟨gb193, 10, none⟩ = some (.int .i64 t189) := (blk_cell BK193.out 10).trans rfl
            have hcz180_11 : wc.cell? ⟨gb193, 11, none⟩ = some (.bool true) := (blk_cell BK193.out 11).trans rfl
            have hfz180_0 := blk_frozen BK193.out 0
            have hfz180_1 := blk_frozen BK193.out 1
            have hfz180_2 := blk_frozen BK193.out 2
            have hfz180_3 := blk_frozen BK193.out 3
            have hfz180_4 := blk_frozen BK193.out 4
            have hfz180_5 := blk_frozen BK193.out 5
            have hfz180_6 := blk_frozen BK193.out 6
            have hfz180_7 := blk_frozen BK193.out 7
            have hfz180_8 := blk_frozen BK193.out 8
            have hfz180_9 := blk_frozen BK193.out 9
            have hfz180_10 := blk_frozen BK193.out 10
            have hfz180_11 := blk_frozen BK193.out 11
            have hnb181 := NB212_167.out
            have hnc181 := NB167_212.out
            have hnb182 := NB212_168.out
            have hnc182 := NB168_212.out
            have hnb183 := NB212_174.out
            have hnc183 := NB174_212.out
            have hnb184 := NB212_192.out
            have hnc184 := NB192_212.out
            have hnb185 := NB212_211.out
            have hnc185 := NB211_212.out
            have hcz186_0 : wc.cell? ⟨gb212, 0, none⟩ = some (.int .i64 t198) := (blk_cell BK212.out 0).trans rfl
            have hcz186_1 : wc.cell? ⟨gb212, 1, none⟩ = some (.int .i64 t199) := (blk_cell BK212.out 1).trans rfl
            have hcz186_2 : wc.cell? ⟨gb212, 2, none⟩ = some (.bool t200) := (blk_cell BK212.out 2).trans rfl
            have hcz186_3 : wc.cell? ⟨gb212, 3, none⟩ = some (.int .i64 t201) := (blk_cell BK212.out 3).trans rfl
            have hcz186_4 : wc.cell? ⟨gb212, 4, none⟩ = some (.int .i64 t202) := (blk_cell BK212.out 4).trans rfl
            have hcz186_5 : wc.cell? ⟨gb212, 5, none⟩ = some (.bool t203) := (blk_cell BK212.out 5).trans rfl
            have hcz186_6 : wc.cell? ⟨gb212, 6, none⟩ = some (.bool t204) := (blk_cell BK212.out 6).trans rfl
            have hcz186_7 : wc.cell? ⟨gb212, 7, none⟩ = some (.bool t205) := (blk_cell BK212.out 7).trans rfl
            have hcz186_8 : wc.cell? ⟨gb212, 8, none⟩ = some (.int .i64 t206) := (blk_cell BK212.out 8).trans rfl
            have hcz186_9 : wc.cell? ⟨gb212, 9, none⟩ = some (.int .i64 t207) := (blk_cell BK212.out 9).trans rfl
            have hcz186_10 : wc.cell? ⟨gb212, 10, none⟩ = some (.int .i64 t208) := (blk_cell BK212.out 10).trans rfl
            have hcz186_11 : wc.cell? ⟨gb212, 11, none⟩ = some (.bool t209) := (blk_cell BK212.out 11).trans rfl
            have hfz186_0 := blk_frozen BK212.out 0
            have hfz186_1 := blk_frozen BK212.out 1
            have hfz186_2 := blk_frozen BK212.out 2
            have hfz186_3 := blk_frozen BK212.out 3
            have hfz186_4 := blk_frozen BK212.out 4
            have hfz186_5 := blk_frozen BK212.out 5
            have hfz186_6 := blk_frozen BK212.out 6
            have hfz186_7 := blk_frozen BK212.out 7
            have hfz186_8 := blk_frozen BK212.out 8
            have hfz186_9 := blk_frozen BK212.out 9
            have hfz186_10 := blk_frozen BK212.out 10
            have hfz186_11 := blk_frozen BK212.out 11
            have hnb187 := NB167_168.out
            have hnc187 := NB168_167.out
            have hnb188 := NB167_174.out
            have hnc188 := NB174_167.out
            have hnb189 := NB167_192.out
            have hnc189 := NB192_167.out
            have hnb190 := NB167_211.out
            have hnc190 := NB211_167.out
            have hcz191_0 : wc.cell? ⟨gb167, 0, none⟩ = some (.int .i64 a0_0) := (blk_cell BK167.out 0).trans rfl
            have hcz191_1 : wc.cell? ⟨gb167, 1, none⟩ = some (.int .i64 a0_1) := (blk_cell BK167.out 1).trans rfl
            have hcz191_2 : wc.cell? ⟨gb167, 2, none⟩ = some (.int .i64 a0_2) := (blk_cell BK167.out 2).trans rfl
            have hcz191_3 : wc.cell? ⟨gb167, 3, none⟩ = some (.int .i64 a0_3) := (blk_cell BK167.out 3).trans rfl
            have hfz191_0 := blk_frozen BK167.out 0
            have hfz191_1 := blk_frozen BK167.out 1
            have hfz191_2 := blk_frozen BK167.out 2
            have hfz191_3 := blk_frozen BK167.out 3
            go_wp2
            go_ret
            exact ⟨by first | rfl | (simp [errW_none, errW_some] <;> rfl) | (simp [*, errW_none, errW_some] <;> rfl), by repeat (first | (with_reducible first | exact HB.out | apply below_alloc | apply pw_below_drewN | apply below_drew1 | refine below_set ?_ GE167.out | refine below_set ?_ GE168.out | refine below_set ?_ GE174.out | refine below_set ?_ GE192.out | refine below_set ?_ GE193.out | refine below_set ?_ GE211.out | refine below_set ?_ GE212.out) | exact HB.out)⟩
        · replace c54 := Bool.eq_false_iff.mpr c54
          subst c54
          have H1 : (some false) = some r := by rw [if_neg (show ¬ (false = true) by decide)] at H; exact H
          clear H
          have H := H1
          clear H1
          obtain rfl := Option.some.inj H
          have hnb192 := NB193_167.out
          have hnc192 := NB167_193.out
          have hnb193 := NB193_168.out
          have hnc193 := NB168_193.out
          have hnb194 := NB193_174.out
          have hnc194 := NB174_193.out
          have hnb195 := NB193_192.out
          have hnc195 := NB192_193.out
          have hnb196 := NB193_211.out
          have hnc196 := NB211_193.out
          have hnb197 := NB193_212.out
          have hnc197 := NB212_193.out
          have hcz198_0 : wc.cell? ⟨gb193, 0, none⟩ = some (.int .i64 t179) := (blk_cell BK193.out 0).trans rfl
          have hcz198_1 : wc.cell? ⟨gb193, 1, none⟩ = some (.int .i64 t180) := (blk_cell BK193.out 1).trans rfl
          have hcz198_2 : wc.cell? ⟨gb193, 2, none⟩ = some (.bool t181) := (blk_cell BK193.out 2).trans rfl
          have hcz198_3 : wc.cell? ⟨gb193, 3, none⟩ = some (.int .i64 t182) := (blk_cell BK193.out 3).trans rfl
          have hcz198_4 : wc.cell? ⟨gb193, 4, none⟩ = some (.int .i64 t183) := (blk_cell BK193.out 4).trans rfl
          have hcz198_5 : wc.cell? ⟨gb193, 5, none⟩ = some (.bool t184) := (blk_cell BK193.out 5).trans rfl
          have hcz198_6 : wc.cell? ⟨gb193, 6, none⟩ = some (.bool t185) := (blk_cell BK193.out 6).trans rfl
          have hcz198_7 : wc.cell? ⟨gb193, 7, none⟩ = some (.bool t186) := (blk_cell BK193.out 7).trans rfl
          have hcz198_8 : wc.cell? ⟨gb193, 8, none⟩ = some (.int .i64 t187) := (blk_cell BK193.out 8).trans rfl
          have hcz198_9 : wc.cell? ⟨gb193, 9, none⟩ = some (.int .i64 t188) := (blk_cell BK193.out 9).trans rfl
          have hcz198_10 : wc.cell? ⟨gb193, 10, none⟩ = some (.int .i64 t189) := (blk_cell BK193.out 10).trans rfl
          have hcz198_11 : wc.cell? ⟨gb193, 11, none⟩ = some (.bool false) := (blk_cell BK193.out 11).trans rfl
          have hfz198_0 := blk_frozen BK193.out 0
          have hfz198_1 := blk_frozen BK193.out 1
          have hfz198_2 := blk_frozen BK193.out 2
          have hfz198_3 := blk_frozen BK193.out 3
          have hfz198_4 := blk_frozen BK193.out 4
          have hfz198_5 := blk_frozen BK193.out 5
          have hfz198_6 := blk_frozen BK193.out 6
          have hfz198_7 := blk_frozen BK193.out 7
          have hfz198_8 := blk_frozen BK193.out 8
          have hfz198_9 := blk_frozen BK193.out 9
          have hfz198_10 := blk_frozen BK193.out 10
          have hfz198_11 := blk_frozen BK193.out 11
          go_wp2
          go_ret
          exact ⟨by first | rfl | (simp [errW_none, errW_some] <;> rfl) | (simp [*, errW_none, errW_some] <;> rfl), by repeat (first | (with_reducible first | exact HB.out | apply below_alloc | apply pw_below_drewN | apply below_drew1 | refine below_set ?_ GE167.out | refine below_set ?_ GE168.out | refine below_set ?_ GE174.out | refine below_set ?_ GE192.out | refine below_set ?_ GE193.out | refine below_set ?_ GE211.out | refine below_set ?_ GE212.out) | exact HB.out)⟩

end Go.Proofs.Ytbdomghfgaceaaa.PA

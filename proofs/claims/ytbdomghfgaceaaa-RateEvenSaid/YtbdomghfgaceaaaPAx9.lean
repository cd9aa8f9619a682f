-- Written for the seat Ytbdomghfgaceaaa by this session's program hyb.py (the print's functions, with externals typed by hand).
import Derived.Lib.Hide
import Derived.Test.YtbdomghfgaceaaaPAx0
import Derived.Test.YtbdomghfgaceaaaPAx6
import Derived.Test.YtbdomghfgaceaaaPAx7
import Derived.Test.YtbdomghfgaceaaaPAx8
namespace Go.Proofs.Ytbdomghfgaceaaa.PA
open Go.RowKit Go.Proofs.YtbdomghfgaceaaaW.PrintWords Go.Proofs.YtbdomghfgaceaaaW.PrintLast Go.Proofs.YtbdomghfgaceaaaW.PrintMore
attribute [local go_sem] max2_int min2_int max_two min_two max_three min_three max_four min_four   -- for this text's walks alone
set_option linter.unusedVariables false
set_option linter.unusedSimpArgs false

/-! ### tidewaylaw17_heads: function 8 (typed by hand) -/
theorem rh_one (W : World) (x : S33) : Kd.C k33 (W.alloc (.cells #[.int .i64 x.f0, .int .i64 x.f1, .bool x.f2, .int .i64 x.f3, .int .i64 x.f4, .bool x.f5, .bool x.f6, .bool x.f7, .int .i64 x.f8, .int .i64 x.f9, .int .i64 x.f10, .bool x.f11] 33)) (some ⟨W.heap.size, 0, none⟩) [x].length [x] := by
  have hb := blk_new W (.cells #[.int .i64 x.f0, .int .i64 x.f1, .bool x.f2, .int .i64 x.f3, .int .i64 x.f4, .bool x.f5, .bool x.f6, .bool x.f7, .int .i64 x.f8, .int .i64 x.f9, .int .i64 x.f10, .bool x.f11] 33)
  refine ⟨rfl, by simp, fun _ => ⟨_, rfl, fun j p hj => ⟨_, rfl, k33_mk _ p, fun i u hu => ?_⟩⟩⟩
  match j, hj with
  | 0, hj =>
    obtain rfl : x = p := by simpa using hj
    have h9 : i < 12 := by have := List.getElem?_eq_some_iff.1 hu; obtain ⟨h, _⟩ := this; simpa using h
    have h8 : (⟨W.heap.size, 0, none⟩ : Addr).add (0 * (k33).sz + i) = ⟨W.heap.size, i, none⟩ := by rw [Nat.zero_mul, Nat.zero_add]; unfold Addr.add; split <;> simp_all
    rw [h8]
    exact (blk_cell hb i).trans (by simpa using hu)
def tidewaylaw17_heads.f : Option Bool := some true
set_option maxRecDepth 100000 in
set_option maxHeartbeats 8000000 in
theorem tidewaylaw17_heads.calls (r : Bool) (w : World) (h : tidewaylaw17_heads.f = some r) : Calls Try.prog 8 #[] w fun e w' => e = .returned (.bool r) ∧ Below w.heap.size w w' := by
  obtain rfl := Option.some.inj h
  have HS := Lib.hid (show rate_Sent.f 9 0 0 0 0 0 1000 false 0 1 false false false 0 0 0 false 0 true = some (0, 0, 0, 0, 0, 1000, false, 0, 1, false, false, false, 0, 0, 0, false, 0) from by kernel_rfl)
  have HG1 := Lib.hid (show rate_Given.f 0 0 0 0 [(⟨0, 1000, false, 0, 1, false, false, false, 0, 0, 0, false⟩ : S33)] 1000 0 = some (1000, 1000, 0, 0, 1000, 1000, 1000, 1000000, false, 1000, 0, 0, 0) from by kernel_rfl)
  have HI := Lib.hid (show rate_Idle.f 9 1000 1000 0 0 5 = some (1000, 1000, 0, 1005, 0) from by kernel_rfl)
  have HG2 := Lib.hid (show rate_Given.f (-1) 0 0 0 ([] : List S33) 0 0 = some (0, 0, 0, 0, 0, 0, 0, 0, false, 0, 0, 0, 230) from by kernel_rfl)
  clear h
  go_enter Try.func8, Try.ntmps8
  go_wp2_with fail
  refine (rate_Sent.calls 9 0 0 0 0 0 1000 false 0 1 false false false 0 0 0 false 0 true 0 0 0 0 0 1000 false 0 1 false false false 0 0 0 false 0 _ HS.out).mono ?_
  rintro e W1 ⟨rfl, hb⟩
  have HB1 := Lib.hid hb; clear hb
  have hrow := rh_one ((W1.alloc (.cells #[.int .i64 0, .int .i64 0, .int .i64 0, .int .i64 0] 23)).alloc (.cells #[.int .i64 0, .int .i64 1000, .bool false, .int .i64 0, .int .i64 1, .bool false, .bool false, .bool false, .int .i64 0, .int .i64 0, .int .i64 0, .bool false] 33)) (⟨0, 1000, false, 0, 1, false, false, false, 0, 0, 0, false⟩ : S33)
  simp only [World.size_alloc] at hrow
  have HROW := Lib.hid hrow; clear hrow
  go_wp2_with fail
  refine (rate_Given.calls 0 0 0 0 _ _ [(⟨0, 1000, false, 0, 1, false, false, false, 0, 0, 0, false⟩ : S33)] 1000 0 1000 1000 0 0 1000 1000 1000 1000000 false 1000 0 0 0 _ HROW.out (Nat.le_refl _) HG1.out).mono ?_
  rintro e W2 ⟨rfl, hb⟩
  have HB2 := Lib.hid (below_step (below_alloc (below_alloc (below_alloc HB1.out _) _) _) hb)
  clear hb
  have b4 : ((W2.alloc (.cells #[.int .i64 1000, .int .i64 1000, .int .i64 0, .int .i64 0] 23)).alloc (.cells #[.int .i64 1000, .int .i64 1000, .int .i64 1000, .int .i64 1000000, .bool false, .int .i64 1000, .int .i64 0, .int .i64 0] 26)).heap[W2.heap.size]? = some (.cells #[.int .i64 1000, .int .i64 1000, .int .i64 0, .int .i64 0] 23 (0, 0)) := blk_alloc (blk_new W2 _) _
  have b5 : ((W2.alloc (.cells #[.int .i64 1000, .int .i64 1000, .int .i64 0, .int .i64 0] 23)).alloc (.cells #[.int .i64 1000, .int .i64 1000, .int .i64 1000, .int .i64 1000000, .bool false, .int .i64 1000, .int .i64 0, .int .i64 0] 26)).heap[W2.heap.size + 1]? = some (.cells #[.int .i64 1000, .int .i64 1000, .int .i64 1000, .int .i64 1000000, .bool false, .int .i64 1000, .int .i64 0, .int .i64 0] 26 (0, 0)) := blk_nx
  have H4 := Lib.hid b4; have H5 := Lib.hid b5; clear b4 b5
  go_wp2_with fail
  refine (rate_Idle.calls 9 1000 1000 0 0 5 1000 1000 0 1005 0 _ HI.out).mono ?_
  rintro e W3 ⟨rfl, hb⟩
  have HB3 := Lib.hid (below_step (below_alloc (below_alloc HB2.out _) _) hb); have K4 := Lib.hid (blk_alloc (blk_below H4.out hb) (.cells #[.int .i64 1000, .int .i64 1000, .int .i64 0, .int .i64 1005] 23)); have K5 := Lib.hid (blk_alloc (blk_below H5.out hb) (.cells #[.int .i64 1000, .int .i64 1000, .int .i64 0, .int .i64 1005] 23)); have K7 := Lib.hid (blk_new W3 (.cells #[.int .i64 1000, .int .i64 1000, .int .i64 0, .int .i64 1005] 23))
  clear hb
  have hnil := Kd.C_nil k33 (W3.alloc (.cells #[.int .i64 1000, .int .i64 1000, .int .i64 0, .int .i64 1005] 23)) 
  have HNIL := Lib.hid hnil; clear hnil
  go_wp2_with fail
  refine (rate_Given.calls (-1) 0 0 0 none 0 ([] : List S33) 0 0 0 0 0 0 0 0 0 0 false 0 0 0 230 _ HNIL.out (Nat.le_refl _) HG2.out).mono ?_
  rintro e W4 ⟨rfl, hb⟩
  have HB4 := Lib.hid (below_step (below_alloc HB3.out _) hb)
  have L4 := blk_alloc (blk_alloc (blk_below K4.out hb) (.cells #[.int .i64 0, .int .i64 0, .int .i64 0, .int .i64 0] 23)) (.cells #[.int .i64 0, .int .i64 0, .int .i64 0, .int .i64 0, .bool false, .int .i64 0, .int .i64 0, .int .i64 0] 26); have L5 := blk_alloc (blk_alloc (blk_below K5.out hb) (.cells #[.int .i64 0, .int .i64 0, .int .i64 0, .int .i64 0] 23)) (.cells #[.int .i64 0, .int .i64 0, .int .i64 0, .int .i64 0, .bool false, .int .i64 0, .int .i64 0, .int .i64 0] 26); have L7 := blk_alloc (blk_alloc (blk_below K7.out hb) (.cells #[.int .i64 0, .int .i64 0, .int .i64 0, .int .i64 0] 23)) (.cells #[.int .i64 0, .int .i64 0, .int .i64 0, .int .i64 0, .bool false, .int .i64 0, .int .i64 0, .int .i64 0] 26)
  clear hb
  have k40 := (blk_cell L4 0).trans rfl
  have k51 := (blk_cell L5 1).trans rfl
  have k52 := (blk_cell L5 2).trans rfl
  have k53 := (blk_cell L5 3).trans rfl
  have k73 := (blk_cell L7 3).trans rfl
  clear L4 L5 L7
  go_wp2
  go_ret
  exact ⟨rfl, below_alloc (below_alloc HB4.out _) _⟩


end Go.Proofs.Ytbdomghfgaceaaa.PA

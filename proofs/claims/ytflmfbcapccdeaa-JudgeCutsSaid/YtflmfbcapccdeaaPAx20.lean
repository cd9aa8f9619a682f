-- Written for the seat Ytflmfbcapccdeaa by this session's program hyb.py (the print's functions, with externals typed by hand).
import Derived.Laws.IdiomRangeMap
import Derived.Lib.Hide
import Derived.LoopIn
import Derived.LoopN
import Derived.LoopNIn
import Derived.OwnWalkIn
import Derived.RangeFuncBound
import Derived.RangeFuncBox
import Derived.RangeFuncCalls
import Derived.RangeFuncLeaves
import Derived.RangeFuncNested
import Derived.Shelf.Abstract
import Derived.Shelf.AbstractIn
import Derived.Shelf.RegionOpen
import Derived.TacticsInMore
import Derived.Test.YtflmfbcapccdeaaWireGet
import Derived.WalkKit
import Derived.Test.YtflmfbcapccdeaaPAx0
import Derived.Test.YtflmfbcapccdeaaPAx17
namespace Go.Proofs.Ytflmfbcapccdeaa.PA
open Go.RowKit Go.Proofs.YtflmfbcapccdeaaW.PrintWords Go.Proofs.YtflmfbcapccdeaaW.PrintLast Go.Proofs.YtflmfbcapccdeaaW.PrintMore
attribute [local go_sem] max2_int min2_int max_two min_two max_three min_three max_four min_four   -- for this text's walks alone
set_option linter.unusedVariables false
set_option linter.unusedSimpArgs false

/-! ### judge_Bytes: function 22 (typed by hand) -/
section
open Go.Shelf
attribute [local go_sem] Oper.semAt_some
set_option maxRecDepth 100000 in
set_option maxHeartbeats 8000000 in
theorem bs_ins (w : World) : Calls Try.prog 77 #[.slice none 0 0, .int .i64 0, .int .i64 0] w fun e w' => (∃ v, e = .returned v) ∧ Below w.heap.size w w' := by
 go_enter Try.func77, Try.ntmps77
 go_wp2
 refine wp_loop_rounds 1 ?_
 rw [rounds_succ]
 go_wp2
 first | go_end0 | refine bodyPost_ret (results_none rfl _ _ _) rfl ?_
 exact ⟨⟨_, rfl⟩, Below.refl _ _⟩
set_option maxRecDepth 100000 in
set_option maxHeartbeats 8000000 in
theorem bs_pdq (n : Int) (w : World) : Calls Try.prog 57 #[.slice none 0 0, .int .i64 0, .int .i64 0, .int .i64 n] w fun e w' => (∃ v, e = .returned v) ∧ Below w.heap.size w w' := by
 go_enter Try.func57, Try.ntmps57
 go_wp2
 refine wp_loop_rounds 1 ?_
 rw [rounds_succ]
 go_wp2_with (go_at_call 77; refine (bs_ins _).mono ?_; rintro e w1 ⟨⟨v, rfl⟩, hb⟩; have HB := Lib.hid hb; clear hb)
 first | go_end0 | refine bodyPost_ret (results_none rfl _ _ _) rfl ?_
 exact ⟨⟨_, rfl⟩, HB.out⟩
set_option maxRecDepth 100000 in
set_option maxHeartbeats 8000000 in
theorem bs_sort (w : World) : Calls Try.prog 36 #[.slice none 0 0] w fun e w' => (∃ v, e = .returned v) ∧ Below w.heap.size w w' := by
 have hL : bits_Len.f 10 0 = some 0 := by kernel_rfl
 go_enter Try.func36, Try.ntmps36
 go_wp2_with (first | (go_at_call 58; refine (bits_Len.calls 10 0 0 _ hL).mono ?_; rintro e w1 ⟨rfl, hd⟩; have HD := Lib.hid hd.below; clear hd) | (go_at_call 57; refine (bs_pdq _ _).mono ?_; rintro e w2 ⟨⟨v, rfl⟩, hb⟩; have HB := Lib.hid hb; clear hb))
 first | go_end0 | refine bodyPost_ret (results_none rfl _ _ _) rfl ?_
 exact ⟨⟨_, rfl⟩, HD.out.trans (HB.out.mono HD.out.size)⟩
theorem bs_next (w : World) (ty : TypeId) : (Instr.next (.pointer (some ⟨w.heap.size + 1, 0, none⟩)) false ty).run Try.prog ((w.alloc (.map #[] 0)).alloc (.mapIter (some w.heap.size) 0 #[] 0)) = .ok (.tuple #[.bool false]) ((w.alloc (.map #[] 0)).alloc (.mapIter (some w.heap.size) 0 #[] 0)) := by
 rcases run_next_map (P := Try.prog) (w.alloc (.map #[] 0)) ty w.heap.size 0 0 #[] #[] 0 (World.alloc_heap_new _ _) (by simp) (Nat.le_refl _) with ⟨_, h⟩ | ⟨e, he, _⟩
 ·rw [World.size_alloc] at h; exact h
 ·simp [leftOf] at he
def judge_Bytes.f (l0 : List S39) : Option (List S59 × Bool) := if l0 = [] then some ([], true) else if (l0.getD 0 z39).f0 = [] then some ([], false) else none
set_option maxRecDepth 100000 in
set_option maxHeartbeats 8000000 in
theorem judge_Bytes.calls (A0 : Option Addr) (c0 : Nat) (l0 : List S39) (r1 : List S59) (r2 : Bool) (w : World) (hr0 : Kd.C k39 w A0 l0.length l0) (hc0 : l0.length ≤ c0) (h : judge_Bytes.f l0 = some (r1, r2)) :
  Calls Try.prog 22 #[.slice A0 l0.length c0] w fun e w' => ∃ v0_ : Value, e = .returned (.tuple #[v0_, .bool r2]) ∧ Kd.S k59 59 w' w.heap.size (fun _ => True) v0_ r1 ∧ Below w.heap.size w w' := by
 have hmk : ∀ W : World, (Instr.makeMap 70 none).run Try.prog W = .ok (.map (some W.heap.size)) (W.alloc (.map #[] 0)) := fun _ => rfl
 unfold judge_Bytes.f at h
 by_cases h1 : l0 = []
 ·subst h1
  rw [if_pos rfl] at h
  obtain ⟨rfl, rfl⟩ := Prod.mk.inj (Option.some.inj h)
  clear h
  have hrg := run_range_map (P := Try.prog) (w.alloc (.map #[] 0)) 70 3 5 w.heap.size #[] 0 Try.underlying70 (World.alloc_heap_new _ _)
  have hnx := bs_next w
  go_enter Try.func22, Try.ntmps22
  go_wp2
  refine wp_loop_rounds 1 ?_
  rw [rounds_succ]
  go_wp2
  refine wp_loop_rounds 1 ?_
  rw [rounds_succ]
  go_wp2_with (go_at_call 36; refine (bs_sort _).mono ?_; rintro e w2 ⟨⟨v, rfl⟩, hb⟩; have HB := Lib.hid hb; clear hb)
  refine wp_loop_rounds 1 ?_
  rw [rounds_succ]
  go_wp2
  go_ret2
  have hb0 : Below w.heap.size w ((w.alloc (.map #[] 0)).alloc (.mapIter (some w.heap.size) 0 #[] 0)) := below_alloc (below_alloc (Below.refl _ _) _) _
  exact ⟨_, rfl, Kd.S_nil _ _ _ _ _, hb0.trans (HB.out.mono hb0.size)⟩
 ·rw [if_neg h1] at h
  by_cases h2 : (l0.getD 0 z39).f0 = []
  case neg => rw [if_neg h2] at h; cases h
  rw [if_pos h2] at h
  obtain ⟨rfl, rfl⟩ := Prod.mk.inj (Option.some.inj h)
  have hlt : 0 < l0.length := List.length_pos_iff.2 h1
  obtain ⟨ad, A1, c1, rfl, hx0, hx1, hx2, hx3, hx4, hx5, hx6, hle, hCd⟩ := at_T39 hr0 0 (by omega) (by omega)
  have hrd : rd_T39 l0 0 = l0.getD 0 z39 := rfl
  rw [hrd, h2] at hx0 hle hCd
  rw [hrd] at hx1 hx2 hx3 hx4 hx5 hx6
  generalize l0.getD 0 z39 = x at hx1 hx2 hx3 hx4 hx5 hx6
  have hbm : Below w.heap.size w (w.alloc (.map #[] 0)) := below_alloc (Below.refl _ _) _
  replace hx0 := (hbm.cell (World.block_lt_of_cell? w _ hx0)).trans hx0
  replace hx1 := (hbm.cell (World.block_lt_of_cell? w _ hx1)).trans hx1
  replace hx2 := (hbm.cell (World.block_lt_of_cell? w _ hx2)).trans hx2
  replace hx3 := (hbm.cell (World.block_lt_of_cell? w _ hx3)).trans hx3
  replace hx4 := (hbm.cell (World.block_lt_of_cell? w _ hx4)).trans hx4
  replace hx5 := (hbm.cell (World.block_lt_of_cell? w _ hx5)).trans hx5
  replace hx6 := (hbm.cell (World.block_lt_of_cell? w _ hx6)).trans hx6
  have hz : ad.add 0 = ad := by cases ad; rfl
  simp only [Int.toNat_zero, Nat.zero_mul, hz, List.length_nil] at hx0 hx1 hx2 hx3 hx4 hx5 hx6
  clear hz
  have HBM := Lib.hid hbm
  have hG : ∀ W : World, Below w.heap.size w W → Calls Try.prog 35 #[.slice A1 0 c1, .int .u32 1, .int .u32 2] W (fun e w' => Below W.heap.size W w' ∧ ∃ A13 n13 c13 A14 n14 c14, e = .returned (.tuple #[.agg (WireG.wgcells z53 (.slice A13 n13 c13) (.slice A14 n14 c14)), .int .i64 30])) := fun W hW =>
   (WireG.wg_Get A1 c1 [] 1 2 false W (Kd.C_below hCd hW) hle (by intro x hx; cases hx) (by kernel_rfl)).mono (fun e w' hg => ⟨hg.1, by obtain ⟨v13, v14, h, h13, h14⟩ := hg.2; obtain ⟨A13, c13, rfl⟩ := Kd.R_slice h13; obtain ⟨A14, c14, rfl⟩ := Kd.R_slice h14; exact ⟨_, _, _, _, _, _, h⟩⟩)
  have HG := Lib.hid hG
  have hlt' : (0 : Int) < l0.length := by omega
  clear h h1 h2 hrd hCd hle hbm hG hr0
  go_enter Try.func22, Try.ntmps22
  go_wp2
  refine wp_loop_rounds 1 ?_
  rw [rounds_succ]
  go_wp2_with (first | (go_at_call 35; refine (HG.out _ (below_alloc HBM.out _)).mono ?_; rintro e w2 ⟨hb2, A13, n13, c13, A14, n14, c14, rfl⟩; have HB2 := Lib.hid hb2; clear hb2) | (refine gate_ (.store 53 (.tmp 7) (.tmp 30)) rfl ?_; refine WireG.wg_store_op rfl rfl 53 (.tmp 7) (.tmp 30) rfl _ _ _ 53 _ rfl rfl rfl (by kernel_rfl) rfl (blk_new _ _) rfl ?_; intro w10 h10 hg10; have HG10 := Lib.hid hg10; clear h10 hg10))
  go_ret2
  have hb0 := (below_alloc HBM.out (.cells #[.slice A1 0 c1, .int .i64 x.f1, .int .i64 x.f2, .int .i64 x.f3, .int .i64 x.f4, .int .i64 x.f5, .int .i64 x.f6] 39)).trans (HB2.out.mono (below_alloc HBM.out _).size)
  exact ⟨_, rfl, Kd.S_nil _ _ _ _ _, (below_alloc hb0 _).grown HG10.out (below_alloc hb0 _).size (fun r e => by cases e; exact hb0.size)⟩
end


end Go.Proofs.Ytflmfbcapccdeaa.PA

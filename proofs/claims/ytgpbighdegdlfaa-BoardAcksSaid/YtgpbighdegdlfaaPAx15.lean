-- Written for the seat Ytgpbighdegdlfaa by this session's program hyb.py (the print's functions, with externals typed by hand).
import Derived.Lib.Hide
import Derived.LoopIn
import Derived.LoopNIn
import Derived.OwnWalkIn
import Derived.RangeFuncBound
import Derived.RangeFuncBox
import Derived.RangeFuncCalls
import Derived.RangeFuncLeaves
import Derived.RangeFuncNested
import Derived.Shelf.Abstract
import Derived.Shelf.AbstractIn
import Derived.Shelf.RegionOpen
import Derived.TacticsInMore
import Derived.WalkKit
import Derived.Test.YtgpbighdegdlfaaPAx0
import Derived.Test.YtgpbighdegdlfaaPAx10
import Derived.Test.YtgpbighdegdlfaaPAx14
namespace Go.Proofs.Ytgpbighdegdlfaa.PA
open Go.RowKit Go.Proofs.YtgpbighdegdlfaaW.PrintWords Go.Proofs.YtgpbighdegdlfaaW.PrintLast Go.Proofs.YtgpbighdegdlfaaW.PrintMore
attribute [local go_sem] max2_int min2_int max_two min_two max_three min_three max_four min_four   -- for this text's walks alone
set_option linter.unusedVariables false
set_option linter.unusedSimpArgs false

/-! ### board_Sacked: function 20 (typed by hand) -/
section
open Go.Shelf
attribute [local go_sem] Oper.semAt_some
def Sacked_fold (l0 : List S38) (pre : List (Fin l0.length)) : Int := pre.foldl (fun n _ => wrap64 (n + 1)) 0

def Sacked_g (l0 : List S38) : Int := Sacked_fold l0 (bd_all bd_sacked l0)
def board_Sacked.f (l0 : List S38) : Option Int := some (Sacked_g l0)
set_option maxRecDepth 100000 in
set_option maxHeartbeats 8000000 in
theorem board_Sacked.calls (A0 : Option Addr) (c0 : Nat) (l0 : List S38) (r : Int) (w : World) (hr0 : Kd.C k38 w A0 l0.length l0) (hc0 : l0.length ≤ c0) (h : board_Sacked.f l0 = some r) :
  Calls Try.prog 20 #[.slice A0 l0.length c0] w fun e w' => e = .returned (.int .i64 r) ∧ Below w.heap.size w w' := by
 have hr := Option.some.inj h
 clear h
 have HR := Lib.hid hr; clear hr
 have HC := Lib.hid hr0; have HC0 := Lib.hid hc0; clear hr0 hc0
 have hm : l0.length ≤ 9223372036854775807 := HC.out.2.1
 refine callsIn_wide (n := 9).1 ?_
 refine callsIn_of_wp_marks Try.func20 rfl trivial ?_ rfl
 simp only [Try.ntmps20, List.size_toArray, List.length_cons, List.length_nil, Nat.reduceAdd, Nat.reduceSub, Array.replicate_succ, Array.replicate_zero, List.push_toArray, List.append_toArray, List.nil_append, List.cons_append]
 gi_wp2_with (refine ⟨trivial, ?_⟩; gi_at_call 36; refine (callsIn_wide.2 (bd_those_call _ _ _ rfl rfl)).mono ?_; rintro e w' ⟨rfl, hw'⟩)
 have h5 := bd_three w (.cells #[.int .i64 0] 3) (.cells #[.slice A0 l0.length c0] 22) (.cells #[.func (.func 39) #[] #[]] 53)
 try simp only [World.size_alloc]
 obtain ⟨w1, hw1⟩ : ∃ w1, (((w.alloc (.cells #[.int .i64 0] 3)).alloc (.cells #[.slice A0 l0.length c0] 22)).alloc (.cells #[.func (.func 39) #[] #[]] 53)) = w1 := ⟨_, rfl⟩
 rw [hw1] at hw'
 subst hw'
 simp only [hw1] at h5
 have HF := Lib.hid h5
 clear h5 hw1
 refine wpIn_rangeFunc_ownH (α := Fin l0.length) (encs := fun x => #[.int .i64 (x.val : Int), .agg #[.int .i64 l0[x].f0, .int .i64 l0[x].f1, .bool l0[x].f2, .int .i64 l0[x].f3, .int .i64 l0[x].f4, .bool l0[x].f5, .bool l0[x].f6, .bool l0[x].f7, .int .i64 l0[x].f8, .int .i64 l0[x].f9, .int .i64 l0[x].f10, .bool l0[x].f11]]) (Kp := KpB w.heap.size [w.heap.size + 1 + 1]) (S := fun ys => ys = bd_all bd_sacked l0) (Sp := fun pre => pre <+: bd_all bd_sacked l0) (N := l0.length + 1) (w0 := w1)
  rfl (by omega) (gf := 45) (lb := #[.pointer (some ⟨w.heap.size + 1, 0, none⟩), .pointer (some ⟨w.heap.size + 1 + 1, 0, none⟩)]) rfl trivial (enters_of Try.func45 (by kernel_rfl) rfl)
  (fun l J Jx W hW hJ hJx hY h0 => bd_those 8 (by omega) 39 bd_sacked (enters_of Try.func39 (by kernel_rfl) rfl) bd_sacked_calls l (w.heap.size + 1) (w.heap.size + 1 + 1) A0 c0 l0 w J Jx W hJ (fun pre x W1 hj hl => hY pre x W1 hj hl)
   ((hW.cell (p := ⟨w.heap.size + 1, 0, none⟩) (blk_lt HF.out.2.1)).trans ((blk_cell HF.out.2.1 0).trans rfl)) (Nat.lt_of_lt_of_le (blk_lt HF.out.2.1) hW.size) (bd_hb (W := w1) hW HF.out.2.2.1) HC.out HC0.out (HF.out.2.2.2.2.trans (hW.mono HF.out.2.2.2.2.size)) h0)
  KpB.trans (KpB.put HF.out.2.2.2.2.size (by intro b hb; rw [List.mem_singleton.1 hb, HF.out.2.2.2.1]; omega)) (Below.refl _ _) (fun _ => rfl)
  (fun pre W => W.heap[w.heap.size]? = some (.cells #[.int .i64 (Sacked_fold l0 pre)] 3 (0, 0)) ∧ Below w.heap.size w W ∧ w.heap.size + 1 + 1 + 1 ≤ W.heap.size) (fun _ _ _ => False)
  (fun s A B row hs hg hr => ⟨blk_own hs.1 hg (fun r e => (hr r e).2), hs.2.1.grown hg hs.2.1.size (fun r e => Nat.le_trans HF.out.2.2.2.2.size (hr r e).1), Nat.le_trans hs.2.2 hg.size⟩)
  (fun c s A B row hs hg hr => hs) ⟨HF.out.1, HF.out.2.2.2.2, Nat.le_of_eq HF.out.2.2.2.1.symm⟩
  (fun x a' W => a' = { tmps := #[.slice A0 l0.length c0, undef, .int .i64 0, .pointer (some ⟨w.heap.size, 0, none⟩), .slice A0 l0.length c0, .func (.func 45) #[] #[.pointer (some ⟨w.heap.size + 1, 0, none⟩), .pointer (some ⟨w.heap.size + 1 + 1, 0, none⟩)], .int .i64 (x.val : Int), .agg #[.int .i64 l0[x].f0, .int .i64 l0[x].f1, .bool l0[x].f2, .int .i64 l0[x].f3, .int .i64 l0[x].f4, .bool l0[x].f5, .bool l0[x].f6, .bool l0[x].f7, .int .i64 l0[x].f8, .int .i64 l0[x].f9, .int .i64 l0[x].f10, .bool l0[x].f11], undef, undef, undef], defers := [] } ∧ True) (fun x a' s A B row h hg hr => h) ?assign ?body ?done ?stop
 case assign =>
  intro l pre x W K hI hK
  rw [show w1.heap.size = w.heap.size + 1 + 1 + 1 from HF.out.2.2.2.1] at hK
  gi_wp2
  exact hK _ _ (KeepsFrom.refl _ _) (KpB.refl _ _ _) hI ⟨rfl, trivial⟩
 case body =>
  rintro l pre x a' W hl0 _ hI ⟨rfl, _⟩ hlen
  have k0 := (blk_cell hI.1 0).trans rfl
  have kf := blk_frozen hI.1 0
  have hs : Sacked_fold l0 (pre ++ [x]) = wrap64 (Sacked_fold l0 pre + 1) := by simp [Sacked_fold]
  obtain ⟨n, hn⟩ : ∃ n, Sacked_fold l0 pre = n := ⟨_, rfl⟩
  rw [hn] at hs k0
  have HS := Lib.hid hs; have HI := Lib.hid hI
  clear hs hI hn hl0 hlen
  gi_wp2
  exact ⟨(KeepsOthers.setCell _ _ _).from _, ⟨(Below.refl w.heap.size W).setCell (p := ⟨w.heap.size, 0, none⟩) (Nat.le_refl _) _, fun b hb o ho => heap_set ho (by have := List.mem_singleton.1 hb; show b ≠ w.heap.size; omega)⟩, by rw [HS.out]; exact blk_set1 HI.out.1, HI.out.2.1.setCell (p := ⟨w.heap.size, 0, none⟩) (Nat.le_refl _) _, Nat.le_trans HI.out.2.2 (((Below.refl _ W).setCell (p := ⟨w.heap.size, 0, none⟩) (Nat.le_refl _) _ : Below w.heap.size W _).size)⟩
 case done =>
  rintro D ys W hD rfl hI hK
  have k0 := (blk_cell hI.1 0).trans rfl
  have HI := Lib.hid hI.2.1; have HK := Lib.hid hK
  rw [show Sacked_fold l0 (bd_all bd_sacked l0) = r from HR.out] at k0
  clear hI hK
  gi_wp2
  refine ⟨by simp, .inl ⟨_, _, rfl, run_takeDeferred HK.out, ?_⟩⟩
  exact ⟨_, results_tmp rfl _ _ _, rfl, HI.out.trans (belowK_b (w := w) (Nat.le_refl _) W D _ _ (Nat.le_trans HF.out.2.2.2.2.size hD) HK.out rfl rfl)⟩
 case stop =>
  rintro D c pre W _ _ h _
  exact h.elim
end

end Go.Proofs.Ytgpbighdegdlfaa.PA

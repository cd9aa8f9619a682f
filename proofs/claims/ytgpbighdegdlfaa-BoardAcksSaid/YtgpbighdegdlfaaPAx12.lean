-- Written for the seat Ytgpbighdegdlfaa by this session's program hyb.py (the print's functions, with externals typed by hand).
import Derived.Lib.Hide
import Derived.LoopIn
import Derived.LoopNIn
import Derived.OwnWalkIn
import Derived.RangeFuncBound
import Derived.RangeFuncBox
import Derived.RangeFuncCalls
import Derived.RangeFuncLeaves
import Derived.RangeFuncNested
import Derived.Shelf.Abstract
import Derived.Shelf.AbstractIn
import Derived.Shelf.RegionOpen
import Derived.TacticsInMore
import Derived.WalkKit
import Derived.Test.YtgpbighdegdlfaaPAx0
import Derived.Test.YtgpbighdegdlfaaPAx10
namespace Go.Proofs.Ytgpbighdegdlfaa.PA
open Go.RowKit Go.Proofs.YtgpbighdegdlfaaW.PrintWords Go.Proofs.YtgpbighdegdlfaaW.PrintLast Go.Proofs.YtgpbighdegdlfaaW.PrintMore
attribute [local go_sem] max2_int min2_int max_two min_two max_three min_three max_four min_four   -- for this text's walks alone
set_option linter.unusedVariables false
set_option linter.unusedSimpArgs false

/-! ### board_Lost: function 16 (typed by hand) -/
section
open Go.Shelf
attribute [local go_sem] Oper.semAt_some
def bd_lost (x : S38) : Bool := x.f6 && !x.f7
theorem bd_lost_calls (x : S38) (W : World) : Calls Try.prog 38 #[.agg #[.int .i64 x.f0, .int .i64 x.f1, .bool x.f2, .int .i64 x.f3, .int .i64 x.f4, .bool x.f5, .bool x.f6, .bool x.f7, .int .i64 x.f8, .int .i64 x.f9, .int .i64 x.f10, .bool x.f11]] W fun e W' => e = .returned (.bool (bd_lost x)) ∧ Below W.heap.size W W' :=
 by
 obtain ⟨f0, f1, f2, f3, f4, f5, f6, f7, f8, f9, f10, f11⟩ := x
 cases f6 <;> cases f7
 all_goals
  go_enter Try.func38, Try.ntmps38
  go_wp2
  go_ret
  exact ⟨rfl, below_alloc (Below.refl _ _) _⟩
theorem lost_put {W : World} {b D : Nat} {o o' : Obj} (h : W.heap[b]? = some o) (hne : b ≠ D) : (W.putObj D o').heap[b]? = some o := (World.putObj_heap_other hne).trans h
theorem lost_res (tmps : Array Value) (W : World) (b : Nat) (v : Int) (h2 : tmps.getD 2 undef = .pointer (some ⟨b, 0, none⟩)) (hb : W.heap[b]? = some (.cells #[.int .i64 v] 3 (0, 0))) :
  (results Try.f16 tmps).run Try.prog W = .ok (.int .i64 v) W := by
 have hc : W.cell? ⟨b, 0, none⟩ = some (.int .i64 v) := (blk_cell hb 0).trans rfl
 have l2 : (loadVar 3 ⟨b, 0, none⟩).run Try.prog W = .ok (.int .i64 v) W := by
  go_simp
 unfold results
 rw [show (Try.f16).results = [ResultVar.cell 2 3].toArray from rfl, List.mapM_toArray]
 simp only [Sem.run_bind, Sem.run_map, List.mapM_cons, List.mapM_nil]
 simp [h2, asAddr, l2]

def Lost_g (l0 : List S38) : Int := match bd_all bd_lost l0 with | [] => -1 | i :: _ => (i.val : Int)
def board_Lost.f (l0 : List S38) : Option Int := some (Lost_g l0)
set_option maxRecDepth 100000 in
set_option maxHeartbeats 8000000 in
theorem board_Lost.calls (A0 : Option Addr) (c0 : Nat) (l0 : List S38) (r : Int) (w : World) (hr0 : Kd.C k38 w A0 l0.length l0) (hc0 : l0.length ≤ c0) (h : board_Lost.f l0 = some r) :
  Calls Try.prog 16 #[.slice A0 l0.length c0] w fun e w' => e = .returned (.int .i64 r) ∧ Below w.heap.size w w' := by
 have hr := Option.some.inj h
 clear h
 have HR := Lib.hid hr; clear hr
 have HC := Lib.hid hr0; have HC0 := Lib.hid hc0; clear hr0 hc0
 have hm : l0.length ≤ 9223372036854775807 := HC.out.2.1
 refine callsIn_wide (n := 9).1 ?_
 refine callsIn_of_wp_marks Try.func16 rfl trivial ?_ rfl
 simp only [Try.ntmps16, List.size_toArray, List.length_cons, List.length_nil, Nat.reduceAdd, Nat.reduceSub, Array.replicate_succ, Array.replicate_zero, List.push_toArray, List.append_toArray, List.nil_append, List.cons_append]
 gi_wp2_with (refine ⟨trivial, ?_⟩; gi_at_call 36; refine (callsIn_wide.2 (bd_those_call _ _ _ rfl rfl)).mono ?_; rintro e w' ⟨rfl, hw'⟩)
 have h5 := bd_three w (.cells #[.int .i64 0] 3) (.cells #[.slice A0 l0.length c0] 22) (.cells #[.func (.func 38) #[] #[]] 53)
 try simp only [World.size_alloc]
 obtain ⟨w1, hw1⟩ : ∃ w1, (((w.alloc (.cells #[.int .i64 0] 3)).alloc (.cells #[.slice A0 l0.length c0] 22)).alloc (.cells #[.func (.func 38) #[] #[]] 53)) = w1 := ⟨_, rfl⟩
 rw [hw1] at hw'
 subst hw'
 simp only [hw1] at h5
 have HF := Lib.hid h5
 clear h5 hw1
 refine wpIn_rangeFunc_ownH (α := Fin l0.length) (encs := fun x => #[.int .i64 (x.val : Int), .agg #[.int .i64 l0[x].f0, .int .i64 l0[x].f1, .bool l0[x].f2, .int .i64 l0[x].f3, .int .i64 l0[x].f4, .bool l0[x].f5, .bool l0[x].f6, .bool l0[x].f7, .int .i64 l0[x].f8, .int .i64 l0[x].f9, .int .i64 l0[x].f10, .bool l0[x].f11]]) (Kp := KpB w.heap.size [w.heap.size + 1 + 1]) (S := fun ys => ys = bd_all bd_lost l0) (Sp := fun pre => pre <+: bd_all bd_lost l0) (N := l0.length + 1) (w0 := w1)
  rfl (by omega) (gf := 45) (lb := #[.pointer (some ⟨w.heap.size + 1, 0, none⟩), .pointer (some ⟨w.heap.size + 1 + 1, 0, none⟩)]) rfl trivial (enters_of Try.func45 (by kernel_rfl) rfl)
  (fun l J Jx W hW hJ hJx hY h0 => bd_those 8 (by omega) 38 bd_lost (enters_of Try.func38 (by kernel_rfl) rfl) bd_lost_calls l (w.heap.size + 1) (w.heap.size + 1 + 1) A0 c0 l0 w J Jx W hJ (fun pre x W1 hj hl => hY pre x W1 hj hl)
   ((hW.cell (p := ⟨w.heap.size + 1, 0, none⟩) (blk_lt HF.out.2.1)).trans ((blk_cell HF.out.2.1 0).trans rfl)) (Nat.lt_of_lt_of_le (blk_lt HF.out.2.1) hW.size) (bd_hb (W := w1) hW HF.out.2.2.1) HC.out HC0.out (HF.out.2.2.2.2.trans (hW.mono HF.out.2.2.2.2.size)) h0)
  KpB.trans (KpB.put HF.out.2.2.2.2.size (by intro b hb; rw [List.mem_singleton.1 hb, HF.out.2.2.2.1]; omega)) (Below.refl _ _) (fun _ => rfl)
  (fun pre W => (W.heap[w.heap.size]? = some (.cells #[.int .i64 (0)] 3 (0, 0)) ∧ Below w.heap.size w W ∧ w.heap.size + 1 + 1 + 1 ≤ W.heap.size) ∧ pre = []) (fun c pre W => c = .ret ∧ (∃ x : Fin l0.length, pre = [x] ∧ W.heap[w.heap.size]? = some (.cells #[.int .i64 (x.val : Int)] 3 (0, 0))) ∧ Below w.heap.size w W)
  (fun s A B row hs hg hr => ⟨⟨blk_own hs.1.1 hg (fun r e => (hr r e).2), hs.1.2.1.grown hg hs.1.2.1.size (fun r e => Nat.le_trans HF.out.2.2.2.2.size (hr r e).1), Nat.le_trans hs.1.2.2 hg.size⟩, hs.2⟩)
  (fun c s A B row hs hg hr => ⟨hs.1, by obtain ⟨x, h1, h2⟩ := hs.2.1; exact ⟨x, h1, blk_own h2 hg (fun r e => (hr r e).2)⟩, hs.2.2.grown hg hs.2.2.size (fun r e => Nat.le_trans HF.out.2.2.2.2.size (hr r e).1)⟩) ⟨⟨HF.out.1, HF.out.2.2.2.2, Nat.le_of_eq HF.out.2.2.2.1.symm⟩, rfl⟩
  (fun x a' W => a' = { tmps := #[.slice A0 l0.length c0, undef, .pointer (some ⟨w.heap.size, 0, none⟩), .int .i64 (x.val : Int), .slice A0 l0.length c0, .func (.func 45) #[] #[.pointer (some ⟨w.heap.size + 1, 0, none⟩), .pointer (some ⟨w.heap.size + 1 + 1, 0, none⟩)], .int .i64 (x.val : Int), .agg #[.int .i64 l0[x].f0, .int .i64 l0[x].f1, .bool l0[x].f2, .int .i64 l0[x].f3, .int .i64 l0[x].f4, .bool l0[x].f5, .bool l0[x].f6, .bool l0[x].f7, .int .i64 l0[x].f8, .int .i64 l0[x].f9, .int .i64 l0[x].f10, .bool l0[x].f11], undef], defers := [] } ∧ True) (fun x a' s A B row h hg hr => h) ?assign ?body ?done ?stop
 case assign =>
  intro l pre x W K hI hK
  rw [show w1.heap.size = w.heap.size + 1 + 1 + 1 from HF.out.2.2.2.1] at hK
  gi_wp2
  exact hK _ _ (KeepsFrom.refl _ _) (KpB.refl _ _ _) hI ⟨rfl, trivial⟩
 case body =>
  rintro l pre x a' W hl0 _ hI ⟨rfl, _⟩ hlen
  obtain ⟨hI, hpre⟩ := hI
  have k0 := (blk_cell hI.1 0).trans rfl
  have kf := blk_frozen hI.1 0
  have HI := Lib.hid hI
  have HPRE := Lib.hid hpre
  clear hI hl0 hlen hpre
  gi_wp2
  exact ⟨(KeepsOthers.setCell _ _ _).from _, rfl, ⟨x, by rw [HPRE.out]; rfl, blk_set1 HI.out.1⟩, HI.out.2.1.setCell (p := ⟨w.heap.size, 0, none⟩) (Nat.le_refl _) _⟩
 case done =>
  rintro D ys W hD hys ⟨hI, hpre⟩ hK
  have k0 := (blk_cell hI.1 0).trans rfl
  have kf := blk_frozen hI.1 0
  have HI := Lib.hid hI; have HK := Lib.hid hK
  have hr : r = -1 := by rw [← HR.out, Lost_g, ← hys, hpre]
  subst hr
  clear hI hK hys hpre
  gi_wp2
  refine ⟨by simp, .inl ⟨_, _, rfl, run_takeDeferred (heap_set HK.out (show D ≠ w.heap.size by have := HF.out.2.2.2.1; omega)), ?_⟩⟩
  have hb : Below w.heap.size w (W.setCell ⟨w.heap.size, 0, none⟩ (.int .i64 (-1))) := HI.out.2.1.setCell (p := ⟨w.heap.size, 0, none⟩) (Nat.le_refl _) _
  have h2 := lost_put (o' := .deferred none) (blk_set1 (u := .int .i64 (-1)) HI.out.1) (show w.heap.size ≠ D by have := HF.out.2.2.2.1; omega)
  exact ⟨_, lost_res _ _ _ _ rfl h2, rfl, hb.trans (belowK_b (w := w) (Nat.le_refl _) _ D _ _ (Nat.le_trans HF.out.2.2.2.2.size hD) (heap_set HK.out (show D ≠ w.heap.size by have := HF.out.2.2.2.1; omega)) rfl rfl)⟩
 case stop =>
  rintro D c pre W hD hsp ⟨rfl, ⟨x, rfl, hx⟩, hb⟩ hK
  have hr : r = (x.val : Int) := by
   rw [← HR.out, Lost_g]
   obtain ⟨t, ht⟩ := hsp
   rw [← ht]; rfl
  subst hr
  have HX := Lib.hid hx; have HB := Lib.hid hb; have HK := Lib.hid hK
  clear hx hb hK hsp
  gi_wp2
  refine ⟨by simp, .inl ⟨_, _, rfl, run_takeDeferred HK.out, ?_⟩⟩
  have h2 := lost_put (o' := .deferred none) HX.out (show w.heap.size ≠ D by have := HF.out.2.2.2.1; omega)
  exact ⟨_, lost_res _ _ _ _ rfl h2, rfl, HB.out.trans (belowK_b (w := w) (Nat.le_refl _) _ D _ _ (Nat.le_trans HF.out.2.2.2.2.size hD) HK.out rfl rfl)⟩
end


end Go.Proofs.Ytgpbighdegdlfaa.PA

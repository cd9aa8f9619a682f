-- Written for the seat Ytflmfbcapccdeaa by this session's program hyb.py (the print's functions, with externals typed by hand).
import Derived.Lib.Hide
import Derived.Test.YtflmfbcapccdeaaPAx0
namespace Go.Proofs.Ytflmfbcapccdeaa.PA
open Go.RowKit Go.Proofs.YtflmfbcapccdeaaW.PrintWords Go.Proofs.YtflmfbcapccdeaaW.PrintLast Go.Proofs.YtflmfbcapccdeaaW.PrintMore
attribute [local go_sem] max2_int min2_int max_two min_two max_three min_three max_four min_four   -- for this text's walks alone
set_option linter.unusedVariables false
set_option linter.unusedSimpArgs false

/-! ### sum_Pseudo: function 44 (typed by hand) -/
/-! aux: a literal of bytes reads as its list -/
theorem reads_lit (W : World) (xs : List Int) (t : TypeId) (hm : xs.length ≤ 9223372036854775807) :
  Kd.C (Kd.int .u8) (W.alloc (.cells (nums .u8 xs).toArray t)) (some ⟨W.heap.size, 0, none⟩) xs.length xs := by
 refine ⟨rfl, hm, fun _ => ⟨_, rfl, fun j p hj => ⟨[.int .u8 p], rfl, rfl, fun i u hu => ?_⟩⟩⟩
 match i, hu with
 | 0, hu =>
  obtain rfl : Value.int .u8 p = u := by simpa using hu
  have hz : (Kd.int .u8).sz = 1 := rfl
  rw [hz, Nat.mul_one, Nat.add_zero, add_plain]
  unfold World.cell?
  dsimp only
  rw [heap_alloc_new W]
  simp [nums, hj]

def four8 (a : Int) : List Int := [(a / 16777216) % 256, (a / 65536) % 256, (a / 256) % 256, a % 256]
def sum_Pseudo.f (a0 : Int) (a1 : Int) (a2 : Int) : Option (List Int) := some (four8 a0 ++ four8 a1 ++ [0, 6, (a2 / 256) % 256, a2 % 256])
set_option maxRecDepth 100000 in
set_option maxHeartbeats 2000000 in
theorem sum_Pseudo.calls (a0 : Int) (a1 : Int) (a2 : Int) (r : List Int) (w : World) (h : sum_Pseudo.f a0 a1 a2 = some r) :
  Calls Try.prog 44 #[.int .u32 a0, .int .u32 a1, .int .i64 a2] w fun e w' => ∃ v0_ : Value, e = .returned v0_ ∧ Kd.R (Kd.int .u8) 5 w' w.heap.size (fun _ => True) v0_ r ∧ Below w.heap.size w w' := by
 have hr := Option.some.inj h
 clear h
 have HR := Lib.hid hr; clear hr
 have hmk : ∀ W : World, (Instr.makeSlice 34 (.int .i64 0) (.int .i64 12)).run Try.prog W = .ok (.slice (some ⟨W.heap.size, 0, none⟩) 0 12) (W.alloc (.cells (madeCells #[.int .u8 0] 12) 5)) := fun _ => by kernel_rfl
 have i0 : ∀ w, (Instr.index 118 (.agg #[.int .u32 a0, .int .u32 a1]) (.int .i64 0)).run Try.prog w = .ok (.int .u32 a0) w := fun _ => by kernel_rfl
 have i1 : ∀ w, (Instr.index 118 (.agg #[.int .u32 a0, .int .u32 a1]) (.int .i64 1)).run Try.prog w = .ok (.int .u32 a1) w := fun _ => by kernel_rfl
 have hB0 : Below w.heap.size w (w.alloc (.cells (madeCells #[.int .u8 0] 12) 5)) := (Below.refl _ w).alloc (Nat.le_refl _) _
 have hR0 : Kd.R (Kd.int .u8) 5 (w.alloc (.cells (madeCells #[.int .u8 0] 12) 5)) w.heap.size (fun _ => True) (.slice (some ⟨w.heap.size, 0, none⟩) 0 12) [] :=
  ⟨fun _ _ => trivial, [], ⟨rfl, .inr ⟨w.heap.size, 12, _, rfl, Nat.le_refl _, heap_alloc_new w _, by decide, by decide, by rw [size_madeCells]; rfl, rfl⟩⟩, by simp, fun j p hj => by simp at hj⟩
 have HB0 := Lib.hid hB0; clear hB0
 have HR0 := Lib.hid hR0; clear hR0
 go_enter Try.func44, Try.ntmps44
 go_wp2
 go_loopw [7, 14] (fun v i wr => ∃ k : Nat, k ≤ 2 ∧ i = .int .i64 k ∧ Kd.R (Kd.int .u8) 5 wr w.heap.size (fun _ => True) v (([a0, a1].take k).map four8).flatten ∧ Below w.heap.size w wr)
  (fun _ i _ => 2 - (intOf i).toNat)
 case atStart => exact ⟨0, by omega, rfl, HR0.out, HB0.out⟩
 case round =>
  obtain ⟨k, hk, rfl, hv, hb⟩ := hrel
  have hbs := hb.size
  obtain ⟨A1, c1, rfl⟩ := Kd.R_slice hv
  have HV := Lib.hid hv; clear hv
  have HB := Lib.hid hb; clear hb
  rcases (show k = 0 ∨ k = 1 ∨ k = 2 by omega) with rfl | rfl | rfl
  ·go_wp2_with (at_builtin; refine Kd.R_append_rows (Kd.int .u8) (Rr := fun x cs => cs = [.int .u8 x]) (w0 := w) w.heap.size rfl (.tmp 17) (.tmp 29) 34 5 (.int .u8 0) 1 rfl Try.underlying34 info5 rfl (by decide) (by decide) _ ((([a0, a1].take 0).map four8).flatten) (four8 a0) _ _ _ (fun _ => True) (fun _ => False) rfl rfl (Kd.R_alloc HV.out _) (reads_lit wr (four8 a0) 5 (by simp [four8])) (fun _ _ e => e) (fun _ e => e.elim) (fun _ _ => trivial) (below_alloc HB.out _) (by simp; omega) (by simp [four8]) ?_; intro v1 w1 hR1 hB1 _ _)
   go_roundw
   case rel => exact ⟨1, by omega, rfl, hR1, hB1⟩
   case measure => simp [intOf]
  ·go_wp2_with (at_builtin; refine Kd.R_append_rows (Kd.int .u8) (Rr := fun x cs => cs = [.int .u8 x]) (w0 := w) w.heap.size rfl (.tmp 17) (.tmp 29) 34 5 (.int .u8 0) 1 rfl Try.underlying34 info5 rfl (by decide) (by decide) _ ((([a0, a1].take 1).map four8).flatten) (four8 a1) _ _ _ (fun _ => True) (fun _ => False) rfl rfl (Kd.R_alloc HV.out _) (reads_lit wr (four8 a1) 5 (by simp [four8])) (fun _ _ e => e) (fun _ e => e.elim) (fun _ _ => trivial) (below_alloc HB.out _) (by simp; omega) (by simp [four8]) ?_; intro v1 w1 hR1 hB1 _ _)
   go_roundw
   case rel => exact ⟨2, by omega, rfl, hR1, hB1⟩
   case measure => simp [intOf]
  ·go_wp2_with (at_builtin; refine Kd.R_append_rows (Kd.int .u8) (Rr := fun x cs => cs = [.int .u8 x]) (w0 := w) w.heap.size rfl (.tmp 32) (.tmp 38) 34 5 (.int .u8 0) 1 rfl Try.underlying34 info5 rfl (by decide) (by decide) _ ((([a0, a1].take 2).map four8).flatten) [0, 6, (a2 / 256) % 256, a2 % 256] _ _ _ (fun _ => True) (fun _ => False) rfl rfl (Kd.R_alloc HV.out _) (reads_lit wr [0, 6, (a2 / 256) % 256, a2 % 256] 5 (by simp [four8])) (fun _ _ e => e) (fun _ e => e.elim) (fun _ _ => trivial) (below_alloc HB.out _) (by simp; omega) (by simp [four8]) ?_; intro v1 w1 hR1 hB1 _ _)
   go_ret
   exact ⟨_, rfl, by rw [← HR.out]; exact hR1, hB1⟩


end Go.Proofs.Ytflmfbcapccdeaa.PA

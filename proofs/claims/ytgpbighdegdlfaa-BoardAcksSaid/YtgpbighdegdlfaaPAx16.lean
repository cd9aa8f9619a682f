-- Written for the seat Ytgpbighdegdlfaa by this session's program hyb.py (the print's functions, with externals typed by hand).
import Derived.ArgAppend
import Derived.Lib.Hide
import Derived.WalkKit
import Derived.Test.YtgpbighdegdlfaaPAx0
import Derived.Test.YtgpbighdegdlfaaPAx4
import Derived.Test.YtgpbighdegdlfaaPAx10
namespace Go.Proofs.Ytgpbighdegdlfaa.PA
open Go.RowKit Go.Proofs.YtgpbighdegdlfaaW.PrintWords Go.Proofs.YtgpbighdegdlfaaW.PrintLast Go.Proofs.YtgpbighdegdlfaaW.PrintMore
attribute [local go_sem] max2_int min2_int max_two min_two max_three min_three max_four min_four   -- for this text's walks alone
set_option linter.unusedVariables false
set_option linter.unusedSimpArgs false

/-! ### board_Send: function 25 (typed by hand) -/
theorem bs_clip (A : Option Addr) (n c : Nat) (w : World) (hc : n ≤ c) : Calls Try.prog 42 #[.slice A n c] w fun e w' => e = .returned (.slice A n n) ∧ w = w' := by
 have h0 : (0 : Int) ≤ (n : Int) := by omega
 have h1 : (n : Int) ≤ (c : Int) := by omega
 go_enter Try.func42, Try.ntmps42
 go_wp2
 go_ret
 exact ⟨rfl, rfl⟩
set_option maxHeartbeats 2000000 in
theorem bs_app (A : Option Addr) (l : List S38) (x : S38) (W : World) (ty : TypeId) (hC : Kd.C k38 W A l.length l) (hl : (l.length + 1) * 80 ≤ 140737488355328) :
  ∃ v' w', (Builtin.append_ #[22, 22] ty #[.slice A l.length l.length, .slice (some ⟨W.heap.size, 0, none⟩) 1 1]).run Try.prog (W.alloc (.cells #[.int .i64 x.f0, .int .i64 x.f1, .bool x.f2, .int .i64 x.f3, .int .i64 x.f4, .bool x.f5, .bool x.f6, .bool x.f7, .int .i64 x.f8, .int .i64 x.f9, .int .i64 x.f10, .bool x.f11] 38)) = .ok v' w' ∧
   Kd.R k38 38 w' W.heap.size (fun _ => True) v' (l ++ [x]) ∧ Below W.heap.size W w' := by
 have hm : l.length + 1 ≤ 1759218604441 := by omega
 obtain ⟨i0, hi, hzz⟩ := Option.map_eq_some_iff.1 info38
 simp only [Prod.mk.injEq] at hzz
 obtain ⟨hz0, hz1, hz2⟩ := hzz
 have hB : Below W.heap.size W (W.alloc (.cells #[.int .i64 x.f0, .int .i64 x.f1, .bool x.f2, .int .i64 x.f3, .int .i64 x.f4, .bool x.f5, .bool x.f6, .bool x.f7, .int .i64 x.f8, .int .i64 x.f9, .int .i64 x.f10, .bool x.f11] 38)) := below_alloc (Below.refl _ _) _
 have hnews : ∀ j u, [.int .i64 x.f0, .int .i64 x.f1, .bool x.f2, .int .i64 x.f3, .int .i64 x.f4, .bool x.f5, .bool x.f6, .bool x.f7, .int .i64 x.f8, .int .i64 x.f9, .int .i64 x.f10, .bool x.f11][j]? = some u → (W.alloc (.cells #[.int .i64 x.f0, .int .i64 x.f1, .bool x.f2, .int .i64 x.f3, .int .i64 x.f4, .bool x.f5, .bool x.f6, .bool x.f7, .int .i64 x.f8, .int .i64 x.f9, .int .i64 x.f10, .bool x.f11] 38)).cell? ((⟨W.heap.size, 0, none⟩ : Addr).add j) = some u := by
  intro j u hu
  rw [Addr.add_lit, Nat.zero_add]
  exact (blk_cell (blk_new W _) j).trans (by simpa using hu)
 have hM : ∀ (w1 : World), k38.M w1 W.heap.size (fun k => True ∧ some k ≠ none) x [.int .i64 x.f0, .int .i64 x.f1, .bool x.f2, .int .i64 x.f3, .int .i64 x.f4, .bool x.f5, .bool x.f6, .bool x.f7, .int .i64 x.f8, .int .i64 x.f9, .int .i64 x.f10, .bool x.f11] := fun w1 => k38_mkM w1 _ _ x
 cases A with
 | none =>
  obtain rfl : l = [] := by
   cases l with
   | nil => rfl
   | cons x xs => obtain ⟨ad, had, _⟩ := hC.2.2 (by simp); cases had
  obtain ⟨v', w', hrun, hown, hg, _⟩ := run_append_own (P := Try.prog) (W.alloc (.cells #[.int .i64 x.f0, .int .i64 x.f1, .bool x.f2, .int .i64 x.f3, .int .i64 x.f4, .bool x.f5, .bool x.f6, .bool x.f7, .int .i64 x.f8, .int .i64 x.f9, .int .i64 x.f10, .bool x.f11] 38)) (W.alloc (.cells #[.int .i64 x.f0, .int .i64 x.f1, .bool x.f2, .int .i64 x.f3, .int .i64 x.f4, .bool x.f5, .bool x.f6, .bool x.f7, .int .i64 x.f8, .int .i64 x.f9, .int .i64 x.f10, .bool x.f11] 38)).heap.size 22 ty 38 i0 _ 12 80 Try.underlying22 hi hz0 hz1 hz2 rfl (by decide) (.slice none 0 0) 0 [] (World.ownsRow_nil _ _ _ _) ⟨W.heap.size, 0, none⟩ 1 1 [.int .i64 x.f0, .int .i64 x.f1, .bool x.f2, .int .i64 x.f3, .int .i64 x.f4, .bool x.f5, .bool x.f6, .bool x.f7, .int .i64 x.f8, .int .i64 x.f9, .int .i64 x.f10, .bool x.f11] rfl hnews (by simp [Value.oneCell']) (by unfold maxLen; omega) (by simp) (Nat.le_refl _)
  refine ⟨v', w', hrun, ?_, hB.trans ((show Below (W.alloc (.cells #[.int .i64 x.f0, .int .i64 x.f1, .bool x.f2, .int .i64 x.f3, .int .i64 x.f4, .bool x.f5, .bool x.f6, .bool x.f7, .int .i64 x.f8, .int .i64 x.f9, .int .i64 x.f10, .bool x.f11] 38)).heap.size (W.alloc (.cells #[.int .i64 x.f0, .int .i64 x.f1, .bool x.f2, .int .i64 x.f3, .int .i64 x.f4, .bool x.f5, .bool x.f6, .bool x.f7, .int .i64 x.f8, .int .i64 x.f9, .int .i64 x.f10, .bool x.f11] 38)) w' from ⟨hg.os, hg.tape, hg.output, hg.size, fun k hk => hg.block k hk (by simp [Value.ownBlock])⟩).mono (by simp))⟩
  refine Kd.R_lower (base := (W.alloc (.cells #[.int .i64 x.f0, .int .i64 x.f1, .bool x.f2, .int .i64 x.f3, .int .i64 x.f4, .bool x.f5, .bool x.f6, .bool x.f7, .int .i64 x.f8, .int .i64 x.f9, .int .i64 x.f10, .bool x.f11] 38)).heap.size) ⟨fun _ _ => trivial, [] ++ [.int .i64 x.f0, .int .i64 x.f1, .bool x.f2, .int .i64 x.f3, .int .i64 x.f4, .bool x.f5, .bool x.f6, .bool x.f7, .int .i64 x.f8, .int .i64 x.f9, .int .i64 x.f10, .bool x.f11], by rw [List.length_append, List.length_singleton]; exact hown, ?_⟩ (by simp)
  exact Reps.snoc (Reps.none _ _) (k38_mkM _ _ _ _) rfl
 | some ad =>
  obtain ⟨olds, hor, hoc⟩ := ReadsRow.inner_ (Kd.C_below hC hB)
  obtain ⟨v', w', hrun, hown, hg⟩ := run_append_arg_grows (P := Try.prog) (w := W.alloc (.cells #[.int .i64 x.f0, .int .i64 x.f1, .bool x.f2, .int .i64 x.f3, .int .i64 x.f4, .bool x.f5, .bool x.f6, .bool x.f7, .int .i64 x.f8, .int .i64 x.f9, .int .i64 x.f10, .bool x.f11] 38)) 22 ty 38 i0 _ 12 80 Try.underlying22 hi hz0 hz1 hz2 rfl (by decide) ad l.length l.length olds hor.1 hoc ⟨W.heap.size, 0, none⟩ 1 1 [.int .i64 x.f0, .int .i64 x.f1, .bool x.f2, .int .i64 x.f3, .int .i64 x.f4, .bool x.f5, .bool x.f6, .bool x.f7, .int .i64 x.f8, .int .i64 x.f9, .int .i64 x.f10, .bool x.f11] rfl hnews (by omega) (by unfold maxLen; omega) hl
  refine ⟨v', w', hrun, ?_, hB.trans ((show Below (W.alloc (.cells #[.int .i64 x.f0, .int .i64 x.f1, .bool x.f2, .int .i64 x.f3, .int .i64 x.f4, .bool x.f5, .bool x.f6, .bool x.f7, .int .i64 x.f8, .int .i64 x.f9, .int .i64 x.f10, .bool x.f11] 38)).heap.size (W.alloc (.cells #[.int .i64 x.f0, .int .i64 x.f1, .bool x.f2, .int .i64 x.f3, .int .i64 x.f4, .bool x.f5, .bool x.f6, .bool x.f7, .int .i64 x.f8, .int .i64 x.f9, .int .i64 x.f10, .bool x.f11] 38)) w' from ⟨hg.os, hg.tape, hg.output, hg.size, fun k hk => hg.block k hk (by simp)⟩).mono (by simp))⟩
  refine Kd.R_lower (base := (W.alloc (.cells #[.int .i64 x.f0, .int .i64 x.f1, .bool x.f2, .int .i64 x.f3, .int .i64 x.f4, .bool x.f5, .bool x.f6, .bool x.f7, .int .i64 x.f8, .int .i64 x.f9, .int .i64 x.f10, .bool x.f11] 38)).heap.size) ⟨fun _ _ => trivial, olds ++ [.int .i64 x.f0, .int .i64 x.f1, .bool x.f2, .int .i64 x.f3, .int .i64 x.f4, .bool x.f5, .bool x.f6, .bool x.f7, .int .i64 x.f8, .int .i64 x.f9, .int .i64 x.f10, .bool x.f11], by rw [List.length_append, List.length_singleton]; exact hown, ?_⟩ (by simp)
  exact Reps.snoc (hor.imp_ (fun p c hp => by rw [k38_open hp]; exact k38_mkM _ _ _ _)) (k38_mkM _ _ _ _) rfl
theorem bs_app_step {ops : Array Oper} {Q : Exit → Act → World → Prop} {Kc : Act → World → Prop} {o : Oper} {a : Act} (A : Option Addr) (l : List S38) (x : S38) (W : World) (hw : Region.wanted o (yielded ops a.tmps) = true) (hC : Kd.C k38 W A l.length l) (hl : (l.length + 1) * 80 ≤ 140737488355328)
  {s y : Operand} (hop : o.op = .call { callee := .builtin .append, args := #[s, y], argTypes := #[22, 22] }) (hs : a.eval s = .slice A l.length l.length) (hy : a.eval y = .slice (some ⟨W.heap.size, 0, none⟩) 1 1)
  (h : ∀ v1 w1, Kd.R k38 38 w1 W.heap.size (fun _ => True) v1 (l ++ [x]) → Below W.heap.size W w1 → Kc (a.put o.dst v1) w1) :
  if Region.wanted o (yielded ops a.tmps) = true then Oper.wp Try.prog o a (W.alloc (.cells #[.int .i64 x.f0, .int .i64 x.f1, .bool x.f2, .int .i64 x.f3, .int .i64 x.f4, .bool x.f5, .bool x.f6, .bool x.f7, .int .i64 x.f8, .int .i64 x.f9, .int .i64 x.f10, .bool x.f11] 38)) Kc Q else Kc (a.put o.dst undef) (W.alloc (.cells #[.int .i64 x.f0, .int .i64 x.f1, .bool x.f2, .int .i64 x.f3, .int .i64 x.f4, .bool x.f5, .bool x.f6, .bool x.f7, .int .i64 x.f8, .int .i64 x.f9, .int .i64 x.f10, .bool x.f11] 38)) := by
 rw [if_pos hw]
 obtain ⟨v', w', hrun, h1, h2⟩ := bs_app A l x W o.type hC hl
 unfold Oper.wp
 simp [execOp, hop, resolve, invoke, builtin, hs, hy, hrun, Result.andThen]
 exact h v' w' h1 h2
def board_Send.g (l : List S38) (x : S38) : List S38 × Int := if bd_chk l = 0 ∧ bd_chk (l ++ [x]) = 0 then (l ++ [x], 0) else ([], 100)
def board_Send.f (l0 : List S38) (a1_0 : Int) (a1_1 : Int) (a1_2 : Bool) (a1_3 : Int) (a1_4 : Int) (a1_5 : Bool) (a1_6 : Bool) (a1_7 : Bool) (a1_8 : Int) (a1_9 : Int) (a1_10 : Int) (a1_11 : Bool) : Option (List S38 × Int) := if l0.length < 1759218604440 then some (board_Send.g l0 (⟨a1_0, a1_1, a1_2, a1_3, a1_4, a1_5, a1_6, a1_7, a1_8, a1_9, a1_10, a1_11⟩ : S38)) else none
theorem bd_chk_is (l : List S38) (h : bd_chk l ≠ 0) : bd_chk l = 100 := by
 unfold bd_chk at h ⊢
 split
 ·rfl
 ·split
  ·rename_i h1 h2; rw [if_neg h1, if_pos h2] at h; exact absurd rfl h
  ·rfl
set_option maxRecDepth 100000 in
set_option maxHeartbeats 8000000 in
theorem board_Send.calls (A0 : Option Addr) (c0 : Nat) (l0 : List S38) (a1_0 : Int) (a1_1 : Int) (a1_2 : Bool) (a1_3 : Int) (a1_4 : Int) (a1_5 : Bool) (a1_6 : Bool) (a1_7 : Bool) (a1_8 : Int) (a1_9 : Int) (a1_10 : Int) (a1_11 : Bool) (r1 : List S38) (r2 : Int) (w : World) (hr0 : Kd.C k38 w A0 l0.length l0) (hc0 : l0.length ≤ c0) (h : board_Send.f l0 a1_0 a1_1 a1_2 a1_3 a1_4 a1_5 a1_6 a1_7 a1_8 a1_9 a1_10 a1_11 = some (r1, r2)) :
  Calls Try.prog 25 #[.slice A0 l0.length c0, .agg #[.int .i64 a1_0, .int .i64 a1_1, .bool a1_2, .int .i64 a1_3, .int .i64 a1_4, .bool a1_5, .bool a1_6, .bool a1_7, .int .i64 a1_8, .int .i64 a1_9, .int .i64 a1_10, .bool a1_11]] w fun e w' => ∃ v0_ : Value, e = .returned (.tuple #[v0_, .int .i64 r2]) ∧ Kd.R k38 38 w' w.heap.size (fun _ => True) v0_ r1 ∧ Below w.heap.size w w' := by
 unfold board_Send.f at h
 by_cases hl : l0.length < 1759218604440
 case neg => rw [if_neg hl] at h; cases h
 rw [if_pos hl] at h
 replace h := Option.some.inj h
 unfold board_Send.g at h
 have HLN := Lib.hid (show (l0.length + 1) * 80 ≤ 140737488355328 by omega)
 have HC := Lib.hid hr0; have HC0 := Lib.hid hc0
 clear hr0 hc0 hl
 have HE1 := Lib.hid (bd_chk_f l0 131074 (by omega)); have HE2 := Lib.hid (bd_chk_f (l0 ++ [(⟨a1_0, a1_1, a1_2, a1_3, a1_4, a1_5, a1_6, a1_7, a1_8, a1_9, a1_10, a1_11⟩ : S38)]) 131074 (by omega))
 have HN1 := Lib.hid (bd_chk_is l0); have HN2 := Lib.hid (bd_chk_is (l0 ++ [(⟨a1_0, a1_1, a1_2, a1_3, a1_4, a1_5, a1_6, a1_7, a1_8, a1_9, a1_10, a1_11⟩ : S38)]))
 obtain ⟨e1, he1⟩ : ∃ e, bd_chk l0 = e := ⟨_, rfl⟩
 obtain ⟨e2, he2⟩ : ∃ e, bd_chk (l0 ++ [(⟨a1_0, a1_1, a1_2, a1_3, a1_4, a1_5, a1_6, a1_7, a1_8, a1_9, a1_10, a1_11⟩ : S38)]) = e := ⟨_, rfl⟩
 rw [he1] at HE1 HN1 h; rw [he2] at HE2 HN2 h
 have HH := Lib.hid h
 clear he1 he2 h
 go_enter Try.func25, Try.ntmps25
 go_wp2
 refine start_ (n := 6) (S := fun w' => w'.cell? ⟨w.heap.size, 0, none⟩ = some (.int .i64 a1_0) ∧ w'.cell? ⟨w.heap.size, 1, none⟩ = some (.int .i64 a1_1) ∧ w'.cell? ⟨w.heap.size, 2, none⟩ = some (.bool a1_2) ∧ w'.cell? ⟨w.heap.size, 3, none⟩ = some (.int .i64 a1_3) ∧ w'.cell? ⟨w.heap.size, 4, none⟩ = some (.int .i64 a1_4) ∧ w'.cell? ⟨w.heap.size, 5, none⟩ = some (.bool a1_5) ∧ w'.cell? ⟨w.heap.size, 6, none⟩ = some (.bool a1_6) ∧ w'.cell? ⟨w.heap.size, 7, none⟩ = some (.bool a1_7) ∧ w'.cell? ⟨w.heap.size, 8, none⟩ = some (.int .i64 a1_8) ∧ w'.cell? ⟨w.heap.size, 9, none⟩ = some (.int .i64 a1_9) ∧ w'.cell? ⟨w.heap.size, 10, none⟩ = some (.int .i64 a1_10) ∧ w'.cell? ⟨w.heap.size, 11, none⟩ = some (.bool a1_11)) (ds := [4]) #[false, false, false, false, false, false] (by kernel_rfl) rfl rfl ⟨(blk_cell (blk_new w (.cells #[.int .i64 a1_0, .int .i64 a1_1, .bool a1_2, .int .i64 a1_3, .int .i64 a1_4, .bool a1_5, .bool a1_6, .bool a1_7, .int .i64 a1_8, .int .i64 a1_9, .int .i64 a1_10, .bool a1_11] 38)) 0).trans rfl, (blk_cell (blk_new w (.cells #[.int .i64 a1_0, .int .i64 a1_1, .bool a1_2, .int .i64 a1_3, .int .i64 a1_4, .bool a1_5, .bool a1_6, .bool a1_7, .int .i64 a1_8, .int .i64 a1_9, .int .i64 a1_10, .bool a1_11] 38)) 1).trans rfl, (blk_cell (blk_new w (.cells #[.int .i64 a1_0, .int .i64 a1_1, .bool a1_2, .int .i64 a1_3, .int .i64 a1_4, .bool a1_5, .bool a1_6, .bool a1_7, .int .i64 a1_8, .int .i64 a1_9, .int .i64 a1_10, .bool a1_11] 38)) 2).trans rfl, (blk_cell (blk_new w (.cells #[.int .i64 a1_0, .int .i64 a1_1, .bool a1_2, .int .i64 a1_3, .int .i64 a1_4, .bool a1_5, .bool a1_6, .bool a1_7, .int .i64 a1_8, .int .i64 a1_9, .int .i64 a1_10, .bool a1_11] 38)) 3).trans rfl, (blk_cell (blk_new w (.cells #[.int .i64 a1_0, .int .i64 a1_1, .bool a1_2, .int .i64 a1_3, .int .i64 a1_4, .bool a1_5, .bool a1_6, .bool a1_7, .int .i64 a1_8, .int .i64 a1_9, .int .i64 a1_10, .bool a1_11] 38)) 4).trans rfl, (blk_cell (blk_new w (.cells #[.int .i64 a1_0, .int .i64 a1_1, .bool a1_2, .int .i64 a1_3, .int .i64 a1_4, .bool a1_5, .bool a1_6, .bool a1_7, .int .i64 a1_8, .int .i64 a1_9, .int .i64 a1_10, .bool a1_11] 38)) 5).trans rfl, (blk_cell (blk_new w (.cells #[.int .i64 a1_0, .int .i64 a1_1, .bool a1_2, .int .i64 a1_3, .int .i64 a1_4, .bool a1_5, .bool a1_6, .bool a1_7, .int .i64 a1_8, .int .i64 a1_9, .int .i64 a1_10, .bool a1_11] 38)) 6).trans rfl, (blk_cell (blk_new w (.cells #[.int .i64 a1_0, .int .i64 a1_1, .bool a1_2, .int .i64 a1_3, .int .i64 a1_4, .bool a1_5, .bool a1_6, .bool a1_7, .int .i64 a1_8, .int .i64 a1_9, .int .i64 a1_10, .bool a1_11] 38)) 7).trans rfl, (blk_cell (blk_new w (.cells #[.int .i64 a1_0, .int .i64 a1_1, .bool a1_2, .int .i64 a1_3, .int .i64 a1_4, .bool a1_5, .bool a1_6, .bool a1_7, .int .i64 a1_8, .int .i64 a1_9, .int .i64 a1_10, .bool a1_11] 38)) 8).trans rfl, (blk_cell (blk_new w (.cells #[.int .i64 a1_0, .int .i64 a1_1, .bool a1_2, .int .i64 a1_3, .int .i64 a1_4, .bool a1_5, .bool a1_6, .bool a1_7, .int .i64 a1_8, .int .i64 a1_9, .int .i64 a1_10, .bool a1_11] 38)) 9).trans rfl, (blk_cell (blk_new w (.cells #[.int .i64 a1_0, .int .i64 a1_1, .bool a1_2, .int .i64 a1_3, .int .i64 a1_4, .bool a1_5, .bool a1_6, .bool a1_7, .int .i64 a1_8, .int .i64 a1_9, .int .i64 a1_10, .bool a1_11] 38)) 10).trans rfl, (blk_cell (blk_new w (.cells #[.int .i64 a1_0, .int .i64 a1_1, .bool a1_2, .int .i64 a1_3, .int .i64 a1_4, .bool a1_5, .bool a1_6, .bool a1_7, .int .i64 a1_8, .int .i64 a1_9, .int .i64 a1_10, .bool a1_11] 38)) 11).trans rfl⟩ (fun hHeld => ?_)
 have HX := Lib.hid (show (w.alloc (.cells #[.int .i64 a1_0, .int .i64 a1_1, .bool a1_2, .int .i64 a1_3, .int .i64 a1_4, .bool a1_5, .bool a1_6, .bool a1_7, .int .i64 a1_8, .int .i64 a1_9, .int .i64 a1_10, .bool a1_11] 38)).drew.heap[w.heap.size]? = some (.cells #[.int .i64 a1_0, .int .i64 a1_1, .bool a1_2, .int .i64 a1_3, .int .i64 a1_4, .bool a1_5, .bool a1_6, .bool a1_7, .int .i64 a1_8, .int .i64 a1_9, .int .i64 a1_10, .bool a1_11] 38 (0, 0)) from blk_new w _)
 have HCW := Lib.hid (show Kd.C k38 (w.alloc (.cells #[.int .i64 a1_0, .int .i64 a1_1, .bool a1_2, .int .i64 a1_3, .int .i64 a1_4, .bool a1_5, .bool a1_6, .bool a1_7, .int .i64 a1_8, .int .i64 a1_9, .int .i64 a1_10, .bool a1_11] 38)).drew A0 l0.length l0 from Kd.C_below (Kd.C_alloc HC.out _) (below_drew1 (Below.refl _ _)))
 have HBW := Lib.hid (show Below w.heap.size w (w.alloc (.cells #[.int .i64 a1_0, .int .i64 a1_1, .bool a1_2, .int .i64 a1_3, .int .i64 a1_4, .bool a1_5, .bool a1_6, .bool a1_7, .int .i64 a1_8, .int .i64 a1_9, .int .i64 a1_10, .bool a1_11] 38)).drew from below_drew1 (below_alloc (Below.refl _ _) _))
 generalize (w.alloc (.cells #[.int .i64 a1_0, .int .i64 a1_1, .bool a1_2, .int .i64 a1_3, .int .i64 a1_4, .bool a1_5, .bool a1_6, .bool a1_7, .int .i64 a1_8, .int .i64 a1_9, .int .i64 a1_10, .bool a1_11] 38)).drew = W3 at HX HCW HBW hHeld ⊢
 refine pure_ (i := 0) (N := some 7) (v := ?_) (a' := ?_) #[true, false, false, false, false, false] rfl rfl (by kernel_rfl) (fun _ _ _ h => h) (Or.inl ⟨by rfl, ?_⟩) ?_ ?_
 rotate_left
 ·intro w'
  go_simp
  with_reducible rfl
 rotate_left
 ·simp only [Act.put, List.setIfInBounds_toArray, List.set_cons_zero, List.set_cons_succ, i64_w, i32_w]
  rfl
 refine take_ (i := 2) (N := some 9) (v := ?_) (a' := ?_) #[true, false, true, false, false, false] rfl rfl (by kernel_rfl) (fun _ _ _ h => h) (Or.inl ⟨by rfl, ?_⟩) hHeld ?_ ?_
 rotate_left
 ·rintro w' ⟨s0, s1, s2, s3, s4, s5, s6, s7, s8, s9, s10, s11⟩
  go_simp
  with_reducible rfl
 rotate_left
 ·simp only [Act.put, List.setIfInBounds_toArray, List.set_cons_zero, List.set_cons_succ, i64_w, i32_w]
  rfl
 refine join_ (σ := Unit) 2 #[true, true, true, true, false, false] (fun _ => [(8, .slice A0 l0.length l0.length), (10, .slice (some ⟨W3.heap.size, 0, none⟩) 1 1)]) (fun _ w' => w' = W3.alloc (.cells #[.int .i64 a1_0, .int .i64 a1_1, .bool a1_2, .int .i64 a1_3, .int .i64 a1_4, .bool a1_5, .bool a1_6, .bool a1_7, .int .i64 a1_8, .int .i64 a1_9, .int .i64 a1_10, .bool a1_11] 38)) ?_ ?_
 rotate_left
 ·intro hCont
  refine two_ (i := 1) (j := 3) (Ni := some 8) (Nj := some 10) #[true, true, true, false, false, false] #[true, false, true, true, false, false] rfl rfl rfl rfl (by kernel_rfl) (by decide) (by decide) (fun K hK => ?_) (fun K hK => ?_)
  ·skip
   refine goes_ Try.func42 (by kernel_rfl) rfl #[.slice A0 l0.length c0] (by rfl) rfl rfl (by simp only [List.map_toArray, List.map_cons, List.map_nil]; rfl) ?_
   with_reducible refine (bs_clip A0 l0.length c0 _ HC0.out).mono ?_
   rintro e w' ⟨rfl, rfl⟩
   refine ⟨_, rfl, ?_⟩
   refine hK.out _ _ ⟨hHeld.1, hHeld.2.1, hHeld.2.2.1, hHeld.2.2.2.1, hHeld.2.2.2.2.1, hHeld.2.2.2.2.2.1, hHeld.2.2.2.2.2.2.1, hHeld.2.2.2.2.2.2.2.1, hHeld.2.2.2.2.2.2.2.2.1, hHeld.2.2.2.2.2.2.2.2.2.1, hHeld.2.2.2.2.2.2.2.2.2.2.1, hHeld.2.2.2.2.2.2.2.2.2.2.2⟩ (fun hHeld => ?_)
   clear hK K
   refine norm_ (a' := ?_) ?_ ?_
   rotate_left
   ·show Act.put _ (some 8) _ = _
    simp only [Act.put, List.setIfInBounds_toArray, List.set_cons_zero, List.set_cons_succ, i64_w, i32_w]
    rfl
   refine one_ (i := 3) (N := some 10) #[true, true, true, true, false, false] rfl rfl (by kernel_rfl) (by decide) (fun K hK => ?_)
   refine value_ (w1 := ?_) (v := ?_) (by rfl) rfl ?_ ?_
   rotate_left 2
   ·go_simp
    constructor
    ·rfl
    ·rfl
   refine hK.out _ _ ⟨(blk_cell (blk_alloc HX.out _) 0).trans rfl, (blk_cell (blk_alloc HX.out _) 1).trans rfl, (blk_cell (blk_alloc HX.out _) 2).trans rfl, (blk_cell (blk_alloc HX.out _) 3).trans rfl, (blk_cell (blk_alloc HX.out _) 4).trans rfl, (blk_cell (blk_alloc HX.out _) 5).trans rfl, (blk_cell (blk_alloc HX.out _) 6).trans rfl, (blk_cell (blk_alloc HX.out _) 7).trans rfl, (blk_cell (blk_alloc HX.out _) 8).trans rfl, (blk_cell (blk_alloc HX.out _) 9).trans rfl, (blk_cell (blk_alloc HX.out _) 10).trans rfl, (blk_cell (blk_alloc HX.out _) 11).trans rfl⟩ (fun hHeld => ?_)
   clear hK K
   refine norm_ (a' := ?_) ?_ ?_
   rotate_left
   ·show Act.put _ (some 10) _ = _
    simp only [Act.put, List.setIfInBounds_toArray, List.set_cons_zero, List.set_cons_succ, i64_w, i32_w]
    rfl
   exact norm_ (by simp only [putAll, Act.put, List.setIfInBounds_toArray, List.set_cons_zero, List.set_cons_succ]) (hCont () _ rfl)
  ·skip
   refine value_ (w1 := ?_) (v := ?_) (by rfl) rfl ?_ ?_
   rotate_left 2
   ·go_simp
    constructor
    ·rfl
    ·rfl
   refine hK.out _ _ ⟨(blk_cell (blk_alloc HX.out _) 0).trans rfl, (blk_cell (blk_alloc HX.out _) 1).trans rfl, (blk_cell (blk_alloc HX.out _) 2).trans rfl, (blk_cell (blk_alloc HX.out _) 3).trans rfl, (blk_cell (blk_alloc HX.out _) 4).trans rfl, (blk_cell (blk_alloc HX.out _) 5).trans rfl, (blk_cell (blk_alloc HX.out _) 6).trans rfl, (blk_cell (blk_alloc HX.out _) 7).trans rfl, (blk_cell (blk_alloc HX.out _) 8).trans rfl, (blk_cell (blk_alloc HX.out _) 9).trans rfl, (blk_cell (blk_alloc HX.out _) 10).trans rfl, (blk_cell (blk_alloc HX.out _) 11).trans rfl⟩ (fun hHeld => ?_)
   clear hK K
   refine norm_ (a' := ?_) ?_ ?_
   rotate_left
   ·show Act.put _ (some 10) _ = _
    simp only [Act.put, List.setIfInBounds_toArray, List.set_cons_zero, List.set_cons_succ, i64_w, i32_w]
    rfl
   refine one_ (i := 1) (N := some 8) #[true, true, true, true, false, false] rfl rfl (by kernel_rfl) (by decide) (fun K hK => ?_)
   refine goes_ Try.func42 (by kernel_rfl) rfl #[.slice A0 l0.length c0] (by rfl) rfl rfl (by simp only [List.map_toArray, List.map_cons, List.map_nil]; rfl) ?_
   with_reducible refine (bs_clip A0 l0.length c0 _ HC0.out).mono ?_
   rintro e w' ⟨rfl, rfl⟩
   refine ⟨_, rfl, ?_⟩
   refine hK.out _ _ ⟨hHeld.1, hHeld.2.1, hHeld.2.2.1, hHeld.2.2.2.1, hHeld.2.2.2.2.1, hHeld.2.2.2.2.2.1, hHeld.2.2.2.2.2.2.1, hHeld.2.2.2.2.2.2.2.1, hHeld.2.2.2.2.2.2.2.2.1, hHeld.2.2.2.2.2.2.2.2.2.1, hHeld.2.2.2.2.2.2.2.2.2.2.1, hHeld.2.2.2.2.2.2.2.2.2.2.2⟩ (fun hHeld => ?_)
   clear hK K
   refine norm_ (a' := ?_) ?_ ?_
   rotate_left
   ·show Act.put _ (some 8) _ = _
    simp only [Act.put, List.setIfInBounds_toArray, List.set_cons_zero, List.set_cons_succ, i64_w, i32_w]
    rfl
   exact norm_ (by simp only [putAll, Act.put, List.setIfInBounds_toArray, List.set_cons_zero, List.set_cons_succ]) (hCont () _ rfl)
 rintro _ w' rfl
 have hHeld : (W3.alloc (.cells #[.int .i64 a1_0, .int .i64 a1_1, .bool a1_2, .int .i64 a1_3, .int .i64 a1_4, .bool a1_5, .bool a1_6, .bool a1_7, .int .i64 a1_8, .int .i64 a1_9, .int .i64 a1_10, .bool a1_11] 38)).cell? ⟨w.heap.size, 0, none⟩ = some (.int .i64 a1_0) ∧ (W3.alloc (.cells #[.int .i64 a1_0, .int .i64 a1_1, .bool a1_2, .int .i64 a1_3, .int .i64 a1_4, .bool a1_5, .bool a1_6, .bool a1_7, .int .i64 a1_8, .int .i64 a1_9, .int .i64 a1_10, .bool a1_11] 38)).cell? ⟨w.heap.size, 1, none⟩ = some (.int .i64 a1_1) ∧ (W3.alloc (.cells #[.int .i64 a1_0, .int .i64 a1_1, .bool a1_2, .int .i64 a1_3, .int .i64 a1_4, .bool a1_5, .bool a1_6, .bool a1_7, .int .i64 a1_8, .int .i64 a1_9, .int .i64 a1_10, .bool a1_11] 38)).cell? ⟨w.heap.size, 2, none⟩ = some (.bool a1_2) ∧ (W3.alloc (.cells #[.int .i64 a1_0, .int .i64 a1_1, .bool a1_2, .int .i64 a1_3, .int .i64 a1_4, .bool a1_5, .bool a1_6, .bool a1_7, .int .i64 a1_8, .int .i64 a1_9, .int .i64 a1_10, .bool a1_11] 38)).cell? ⟨w.heap.size, 3, none⟩ = some (.int .i64 a1_3) ∧ (W3.alloc (.cells #[.int .i64 a1_0, .int .i64 a1_1, .bool a1_2, .int .i64 a1_3, .int .i64 a1_4, .bool a1_5, .bool a1_6, .bool a1_7, .int .i64 a1_8, .int .i64 a1_9, .int .i64 a1_10, .bool a1_11] 38)).cell? ⟨w.heap.size, 4, none⟩ = some (.int .i64 a1_4) ∧ (W3.alloc (.cells #[.int .i64 a1_0, .int .i64 a1_1, .bool a1_2, .int .i64 a1_3, .int .i64 a1_4, .bool a1_5, .bool a1_6, .bool a1_7, .int .i64 a1_8, .int .i64 a1_9, .int .i64 a1_10, .bool a1_11] 38)).cell? ⟨w.heap.size, 5, none⟩ = some (.bool a1_5) ∧ (W3.alloc (.cells #[.int .i64 a1_0, .int .i64 a1_1, .bool a1_2, .int .i64 a1_3, .int .i64 a1_4, .bool a1_5, .bool a1_6, .bool a1_7, .int .i64 a1_8, .int .i64 a1_9, .int .i64 a1_10, .bool a1_11] 38)).cell? ⟨w.heap.size, 6, none⟩ = some (.bool a1_6) ∧ (W3.alloc (.cells #[.int .i64 a1_0, .int .i64 a1_1, .bool a1_2, .int .i64 a1_3, .int .i64 a1_4, .bool a1_5, .bool a1_6, .bool a1_7, .int .i64 a1_8, .int .i64 a1_9, .int .i64 a1_10, .bool a1_11] 38)).cell? ⟨w.heap.size, 7, none⟩ = some (.bool a1_7) ∧ (W3.alloc (.cells #[.int .i64 a1_0, .int .i64 a1_1, .bool a1_2, .int .i64 a1_3, .int .i64 a1_4, .bool a1_5, .bool a1_6, .bool a1_7, .int .i64 a1_8, .int .i64 a1_9, .int .i64 a1_10, .bool a1_11] 38)).cell? ⟨w.heap.size, 8, none⟩ = some (.int .i64 a1_8) ∧ (W3.alloc (.cells #[.int .i64 a1_0, .int .i64 a1_1, .bool a1_2, .int .i64 a1_3, .int .i64 a1_4, .bool a1_5, .bool a1_6, .bool a1_7, .int .i64 a1_8, .int .i64 a1_9, .int .i64 a1_10, .bool a1_11] 38)).cell? ⟨w.heap.size, 9, none⟩ = some (.int .i64 a1_9) ∧ (W3.alloc (.cells #[.int .i64 a1_0, .int .i64 a1_1, .bool a1_2, .int .i64 a1_3, .int .i64 a1_4, .bool a1_5, .bool a1_6, .bool a1_7, .int .i64 a1_8, .int .i64 a1_9, .int .i64 a1_10, .bool a1_11] 38)).cell? ⟨w.heap.size, 10, none⟩ = some (.int .i64 a1_10) ∧ (W3.alloc (.cells #[.int .i64 a1_0, .int .i64 a1_1, .bool a1_2, .int .i64 a1_3, .int .i64 a1_4, .bool a1_5, .bool a1_6, .bool a1_7, .int .i64 a1_8, .int .i64 a1_9, .int .i64 a1_10, .bool a1_11] 38)).cell? ⟨w.heap.size, 11, none⟩ = some (.bool a1_11) := ⟨(blk_cell (blk_alloc HX.out _) 0).trans rfl, (blk_cell (blk_alloc HX.out _) 1).trans rfl, (blk_cell (blk_alloc HX.out _) 2).trans rfl, (blk_cell (blk_alloc HX.out _) 3).trans rfl, (blk_cell (blk_alloc HX.out _) 4).trans rfl, (blk_cell (blk_alloc HX.out _) 5).trans rfl, (blk_cell (blk_alloc HX.out _) 6).trans rfl, (blk_cell (blk_alloc HX.out _) 7).trans rfl, (blk_cell (blk_alloc HX.out _) 8).trans rfl, (blk_cell (blk_alloc HX.out _) 9).trans rfl, (blk_cell (blk_alloc HX.out _) 10).trans rfl, (blk_cell (blk_alloc HX.out _) 11).trans rfl⟩
 refine norm_ (a' := ?_) ?_ ?_
 rotate_left
 ·simp only [putAll, Act.put, List.setIfInBounds_toArray, List.set_cons_zero, List.set_cons_succ]
  rfl
 refine last_ (i := 4) (N := some 11) #[true, true, true, true, true, false] rfl rfl (by kernel_rfl) (by decide) (fun K hK => ?_)
 refine bs_app_step A0 l0 (⟨a1_0, a1_1, a1_2, a1_3, a1_4, a1_5, a1_6, a1_7, a1_8, a1_9, a1_10, a1_11⟩ : S38) W3 ?_ HCW.out HLN.out (by rfl) (by rfl) (by rfl) ?_
 ·rfl
 intro v1 w1 hR1 hb1
 refine hK.out _ _ ?_
 clear hK K
 refine norm_ (a' := ?_) ?_ ?_
 rotate_left
 ·show Act.put _ (some 11) _ = _
  simp only [Act.put, List.setIfInBounds_toArray, List.set_cons_zero, List.set_cons_succ, i64_w, i32_w]
  rfl
 refine pure_ (i := 5) (N := some 6) (v := ?_) (a' := ?_) #[true, true, true, true, true, true] rfl rfl (by kernel_rfl) (fun _ _ _ h => h) (Or.inl ⟨by rfl, ?_⟩) ?_ ?_
 rotate_left
 ·intro w'
  go_simp
  with_reducible rfl
 rotate_left
 ·simp only [Act.put, List.setIfInBounds_toArray, List.set_cons_zero, List.set_cons_succ, i64_w, i32_w]
  rfl
 refine done_ (by kernel_rfl) ?_
 obtain ⟨L, hL⟩ : ∃ L, l0 ++ [(⟨a1_0, a1_1, a1_2, a1_3, a1_4, a1_5, a1_6, a1_7, a1_8, a1_9, a1_10, a1_11⟩ : S38)] = L := ⟨_, rfl⟩
 rw [hL] at hR1 HE2 HH
 clear hL
 obtain ⟨A1, c1, rfl, hc1, hC1⟩ := Kd.R_reads hR1
 have HC1 := Lib.hid hC1; have HCC1 := Lib.hid hc1; have HR1 := Lib.hid hR1
 have HCL := Lib.hid (show Kd.C k38 w1 A0 l0.length l0 from Kd.C_below HCW.out hb1)
 have HB := Lib.hid (show Below w.heap.size w w1 from HBW.out.trans (hb1.mono HBW.out.size))
 have HS := Lib.hid (show w.heap.size ≤ W3.heap.size from HBW.out.size)
 clear hC1 hc1 hR1 hb1 hHeld HX HCW HBW
 have h12 : e1 = 100 ∨ e1 = 0 := by rcases Int.decEq e1 0 with h | h; exact .inl (HN1 h); exact .inr h
 have h22 : e2 = 100 ∨ e2 = 0 := by rcases Int.decEq e2 0 with h | h; exact .inl (HN2 h); exact .inr h
 clear HN1 HN2
 rcases h12 with rfl | rfl
 ·have HV := Lib.hid HH.out
  clear HH h22
  go_wp2_with (go_at_call 23; refine (board_Check.calls 131074 A0 c0 l0 _ _ HCL.out HC0.out HE1.out).mono ?_; rintro e w2 ⟨rfl, hb2⟩; have HCM := Lib.hid (Kd.C_below HC1.out hb2); have HB2 := Lib.hid hb2; clear hb2)
  have hv : ([], 100) = (r1, r2) := HV.out
  obtain ⟨rfl, rfl⟩ := Prod.mk.inj hv
  go_ret2
  exact ⟨_, rfl, Kd.R_nil _ _ _ _ _, HB.out.trans (HB2.out.mono HB.out.size)⟩
 ·rcases h22 with rfl | rfl
  ·have HV := Lib.hid HH.out
   clear HH
   go_wp2_with (first | (have HCM0 := HCM; go_at_call 23; refine (board_Check.calls 131074 A1 c1 L _ _ HCM.out HCC1.out HE2.out).mono ?_; rintro e w3 ⟨rfl, hb3⟩; have HB3 := Lib.hid hb3; clear hb3) | (go_at_call 23; refine (board_Check.calls 131074 A0 c0 l0 _ _ HCL.out HC0.out HE1.out).mono ?_; rintro e w2 ⟨rfl, hb2⟩; have HCM := Lib.hid (Kd.C_below HC1.out hb2); have HB2 := Lib.hid hb2; clear hb2))
   have hv : ([], 100) = (r1, r2) := HV.out
   obtain ⟨rfl, rfl⟩ := Prod.mk.inj hv
   go_ret2
   exact ⟨_, rfl, Kd.R_nil _ _ _ _ _, (HB.out.trans (HB2.out.mono HB.out.size)).trans (HB3.out.mono (HB.out.trans (HB2.out.mono HB.out.size)).size)⟩
  ·have HV := Lib.hid HH.out
   clear HH
   go_wp2_with (first | (have HCM0 := HCM; go_at_call 23; refine (board_Check.calls 131074 A1 c1 L _ _ HCM.out HCC1.out HE2.out).mono ?_; rintro e w3 ⟨rfl, hb3⟩; have HB3 := Lib.hid hb3; clear hb3) | (go_at_call 23; refine (board_Check.calls 131074 A0 c0 l0 _ _ HCL.out HC0.out HE1.out).mono ?_; rintro e w2 ⟨rfl, hb2⟩; have HCM := Lib.hid (Kd.C_below HC1.out hb2); have HB2 := Lib.hid hb2; clear hb2))
   have hv : (L, 0) = (r1, r2) := HV.out
   obtain ⟨rfl, rfl⟩ := Prod.mk.inj hv
   go_ret2
   refine ⟨_, rfl, Kd.R_lower (Kd.R_below (Kd.R_below HR1.out HB2.out) HB3.out) HS.out, (HB.out.trans (HB2.out.mono HB.out.size)).trans (HB3.out.mono (HB.out.trans (HB2.out.mono HB.out.size)).size)⟩


end Go.Proofs.Ytgpbighdegdlfaa.PA

/- What sending, sending again, and losing all make of records. -/
-- The row of the law BoardMoves, written by this session's rowgen.py out of the law's pure statement.
import Derived.Test.YtgpbighdegdlfaaRows
import Derived.Test.YtgpbighdegdlfaaPAx33
import Derived.Test.YtgpbighdegdlfaaOpens
import Derived.Test.YtgpbighdegdlfaaPureBoardMoves
import Derived.WalkKit
import Derived.ProofKit
import Derived.OpenShut
import Derived.ShutString
import Derived.ChangeOld
import Derived.Below
import Derived.SizedLaws
import Derived.Deep.CondSized
import Derived.JoinedCond
namespace Go.Proofs.Ytgpbighdegdlfaa.boardMoves
open Go.ChangeShapes Go.WideShapes Go.ChangeAt Go.RowKit Go.Proofs.Ytgpbighdegdlfaa.PA Go.Proofs.Ytgpbighdegdlfaa.Opens Go.Proofs.YtgpbighdegdlfaaW.PrintWords
open Go.ChangeMaps (open_string shut_string)
set_option linter.unusedVariables false
set_option linter.unusedSimpArgs false
theorem own : ownKnob Try.prog.godebug = none := by kernel_rfl
theorem laidOut : laidOutB Try.prog = true := by kernel_rfl
def wf38 (x : S38) : Prop := ((Lit.int .i64 x.f0).wf = true) ∧ ((Lit.int .i64 x.f1).wf = true) ∧ (True) ∧ ((Lit.int .i64 x.f3).wf = true) ∧ ((Lit.int .i64 x.f4).wf = true) ∧ (True) ∧ (True) ∧ (True) ∧ ((Lit.int .i64 x.f8).wf = true) ∧ ((Lit.int .i64 x.f9).wf = true) ∧ ((Lit.int .i64 x.f10).wf = true) ∧ (True)
def sz38 (x : S38) : Nat := ((1 : Nat) + ((1 : Nat) + ((1 : Nat) + ((1 : Nat) + ((1 : Nat) + ((1 : Nat) + ((1 : Nat) + ((1 : Nat) + ((1 : Nat) + ((1 : Nat) + ((1 : Nat) + ((1 : Nat))))))))))))) + 1
theorem opens38 : Opens Try.prog k38 38 wf38 sz38 :=
  opens_iso (fun x : S38 => (x.f0, x.f1, x.f2, x.f3, x.f4, x.f5, x.f6, x.f7, x.f8, x.f9, x.f10, x.f11)) (fun y => ⟨y.1, y.2.1, y.2.2.1, y.2.2.2.1, y.2.2.2.2.1, y.2.2.2.2.2.1, y.2.2.2.2.2.2.1, y.2.2.2.2.2.2.2.1, y.2.2.2.2.2.2.2.2.1, y.2.2.2.2.2.2.2.2.2.1, y.2.2.2.2.2.2.2.2.2.2.1, y.2.2.2.2.2.2.2.2.2.2.2⟩) (fun _ => rfl) (opens_struct Try.underlying38 (by kernel_rfl) (opensF_cons rfl (by kernel_rfl) (opens_int Try.underlying3) (opensF_cons rfl (by kernel_rfl) (opens_int Try.underlying3) (opensF_cons rfl (by kernel_rfl) (opens_bool Try.underlying4) (opensF_cons rfl (by kernel_rfl) (opens_int Try.underlying3) (opensF_cons rfl (by kernel_rfl) (opens_int Try.underlying3) (opensF_cons rfl (by kernel_rfl) (opens_bool Try.underlying4) (opensF_cons rfl (by kernel_rfl) (opens_bool Try.underlying4) (opensF_cons rfl (by kernel_rfl) (opens_bool Try.underlying4) (opensF_cons rfl (by kernel_rfl) (opens_int Try.underlying3) (opensF_cons rfl (by kernel_rfl) (opens_int Try.underlying3) (opensF_cons rfl (by kernel_rfl) (opens_int Try.underlying3) (opensF_one rfl (by kernel_rfl) (opens_bool Try.underlying4))))))))))))))
theorem bulk (H : Type) : Bulk (H := H) Rows.uptoBulk Rows.uptoBulkAll where
  nil := by simp [Rows.uptoBulkAll]
  cons := fun _ _ => by simp [Rows.uptoBulkAll]
  lit := fun l => by cases l <;> simp [Rows.uptoBulk]
  none := by simp [Rows.uptoBulk]
  slice := fun _ _ => by simp only [Rows.uptoBulk]; omega
  agg := fun _ => by simp [Rows.uptoBulk]
set_option maxRecDepth 100000 in
theorem contract (H : Type) (enc : TypeId × Value → H) (W : World) (base : Nat) (args : Array Value) (ds gs : List (DataW H)) (before : List MemPlace)
    (hval : ∀ (j : Nat) t v, Try.f7.params[j]? = some t → args[j]? = some v → Value.okWide Try.prog W .any base t v)
    (hW : DataW.Whole enc Try.prog Try.f7.params.toList Rows.boardMovesSpec.vars false W args.toList ds gs before)
    (hsz : (DataW.weightsEach Try.prog (Try.f7.params.toList ++ Rows.boardMovesSpec.plain.varTypes Try.prog) (ds ++ gs)).all (· ≤ reachBytes) = true) :
    Calls Try.prog 7 args W fun e W' => ∃ v, e = .returned v ∧ Rows.boardMovesSpec.post enc Try.prog Try.f7 false true false false W args v W' := by
  have hW' := hW
  obtain ⟨p, q, hA0, hV, rfl, hfz, hnd⟩ := hW
  have hA : DataW.TrodAll enc Try.prog W 0 (fun _ => true) true Try.f7.params.toList args.toList ds p := hA0
  rw [Try.params7] at hA hval hsz
  obtain ⟨v0, vs0, d0, ds0, p0, q0, hargs, rfl, rfl, h0, r0⟩ := trodAll_cons hA
  obtain ⟨v1, vs1, d1, ds1, p1, q1, rfl, rfl, rfl, h1, r1⟩ := trodAll_cons r0
  obtain ⟨v2, vs2, d2, ds2, p2, q2, rfl, rfl, rfl, h2, r2⟩ := trodAll_cons r1
  obtain ⟨v3, vs3, d3, ds3, p3, q3, rfl, rfl, rfl, h3, r3⟩ := trodAll_cons r2
  obtain ⟨rfl, rfl, rfl⟩ := trodAll_nil r3
  obtain rfl : args = #[v0, v1, v2, v3] := by cases args; simp_all
  obtain ⟨rfl, rfl⟩ := trodVars_none hV
  have hs_0 : (DataW.weightsEach Try.prog [22, 38, 3, 3] [d0, d1, d2, d3]).all (· ≤ reachBytes) = true := hsz
  obtain ⟨hw0, hs_1⟩ := all_append (show (DataW.weights Try.prog 22 d0 ++ DataW.weightsEach Try.prog [38, 3, 3] [d1, d2, d3]).all (· ≤ reachBytes) = true from hs_0)
  obtain ⟨hw1, hs_2⟩ := all_append (show (DataW.weights Try.prog 38 d1 ++ DataW.weightsEach Try.prog [3, 3] [d2, d3]).all (· ≤ reachBytes) = true from hs_1)
  obtain ⟨hw2, hs_3⟩ := all_append (show (DataW.weights Try.prog 3 d2 ++ DataW.weightsEach Try.prog [3] [d3]).all (· ≤ reachBytes) = true from hs_2)
  obtain ⟨hw3, hs_4⟩ := all_append (show (DataW.weights Try.prog 3 d3 ++ DataW.weightsEach Try.prog [] []).all (· ≤ reachBytes) = true from hs_3)
  have k0 := h0
  have lt0 : ∀ x ∈ p0, x.block < W.heap.size := by obtain ⟨m, hm⟩ := k0; exact DataW.trod_lt m _ _ _ hm
  obtain ⟨a0, len0, cap0, rfl⟩ := okWide_slice Try.underlying22 (hval 0 22 v0 rfl rfl)
  obtain ⟨fuel0, hf0⟩ := h0
  obtain ⟨l0, hK0, w0, z0⟩ := (opens_slice (B := 80) Try.underlying22 (by kernel_rfl) (by kernel_rfl) opens38) W H enc _ _ (bulk H) _ _ _ _ _ hf0 hw0
  obtain ⟨A0, c0, hcs0, hc0, hr0⟩ := hK0
  obtain ⟨rfl, rfl, rfl⟩ : a0 = A0 ∧ len0 = l0.length ∧ cap0 = c0 := by simpa [Value.cells] using hcs0
  replace w0 : (∀ x10 ∈ l0, wf38 x10) ∧ l0.length * 80 ≤ 140737488351232 ∧ l0.length ≤ 9223372036854775807 := w0
  replace z0 : ((l0.map fun x10 => sz38 x10).sum + 1) ≤ Rows.uptoBulk d0 := z0
  have k1 := h1
  have lt1 : ∀ x ∈ p1, x.block < W.heap.size := by obtain ⟨m, hm⟩ := k1; exact DataW.trod_lt m _ _ _ hm
  obtain ⟨cs1, rfl, _⟩ := okWide_struct Try.underlying38 (hval 1 38 v1 rfl rfl)
  obtain ⟨fuel1, hf1⟩ := h1
  obtain ⟨y1, hK1, w1, z1⟩ := opens38 W H enc _ _ (bulk H) _ _ _ _ _ hf1 hw1
  have hcs1 := k38_open hK1
  obtain rfl : cs1 = #[.int .i64 y1.f0, .int .i64 y1.f1, .bool y1.f2, .int .i64 y1.f3, .int .i64 y1.f4, .bool y1.f5, .bool y1.f6, .bool y1.f7, .int .i64 y1.f8, .int .i64 y1.f9, .int .i64 y1.f10, .bool y1.f11] := Array.ext' hcs1
  replace w1 : wf38 y1 := w1
  replace z1 : sz38 y1 ≤ Rows.uptoBulk d1 := z1
  obtain ⟨a2, rfl, rfl, rfl, w2⟩ := open_int Try.underlying3 (hval 2 3 v2 rfl rfl) h2
  obtain ⟨a3, rfl, rfl, rfl, w3⟩ := open_int Try.underlying3 (hval 3 3 v3 rfl rfl) h3
  clear hA0 hval hsz
  obtain ⟨k, h⟩ := Pure.BoardMoves l0 y1 a2 a3 w0 w1 w2 w3
  refine (PA.tidewaylaw10_BoardMoves.calls k _ _ l0 y1.f0 y1.f1 y1.f2 y1.f3 y1.f4 y1.f5 y1.f6 y1.f7 y1.f8 y1.f9 y1.f10 y1.f11 a2 a3 true W hr0 hc0 h).mono fun e W' ⟨he, bel⟩ => ?_
  subst he
  exact ⟨_, rfl, _, _, _, [], _, [], hW', trodAll_mk1 (shut_bool Try.underlying4 _), (trodAll_cons_mk (Below.trod laidOut (by kernel_rfl) (of_decide_eq_true (by kernel_rfl)) k0 bel lt0) (trodAll_cons_mk (Below.trod laidOut (by kernel_rfl) (of_decide_eq_true (by kernel_rfl)) k1 bel lt1) (trodAll_cons_mk (shut_int Try.underlying3 w2) (trodAll_cons_mk (shut_int Try.underlying3 w3) trodAll_mk0)))), rfl, bel.frame _, fun h => by cases h⟩
set_option maxRecDepth 100000 in
theorem lifted (os : Os) (started : os.Started) (H : Type) (enc : TypeId × Value → H) :
    ReturnsInHanded {} Try.checked os 7 .any (Rows.boardMovesSpec.pre6 enc Try.prog Try.f7 Rows.boardMovesRow.domain false) (Rows.boardMovesSpec.post enc Try.prog Try.f7 false true false false) := by
  refine returnsInHanded_of_change_sized (C := Try.checked) own started (by kernel_rfl) Try.func7
    (ChangeSpec.witness6 (enc := enc) (C := Try.checked) false ⟨#[], #[.slice none 0 0, .agg #[.int .i64 0, .int .i64 0, .bool false, .int .i64 0, .int .i64 0, .bool false, .bool false, .bool false, .int .i64 0, .int .i64 0, .int .i64 0, .bool false], .int .i64 0, .int .i64 0], []⟩ 8 (by kernel_rfl) (by kernel_rfl) (by kernel_rfl) (by kernel_rfl)) ?_
  intro W base args ds gs before hval hW hcnd hsz _
  exact contract H enc W base args ds gs before hval hW hsz
theorem over : Rows.boardMovesRow.holds Try.pinned (OpenSpec.ofChange Rows.boardMovesSpec) :=
  OpenClaim.holds_of_wide 7 Try.f7 rfl rfl rfl rfl rfl rfl rfl ⟨rfl, rfl, rfl, rfl, rfl⟩ rfl rfl rfl rfl rfl (by kernel_rfl) Try.func7 (by kernel_rfl)
    (of_decide_eq_true (by kernel_rfl)) (by unfold Func.isWrapper; first | (rw [if_pos (by decide +kernel)]; kernel_rfl) | (rw [if_neg (by decide +kernel)]; exact ⟨rfl, rfl⟩))
    (fun os started H enc _ => lifted os started H enc)
theorem proved : Rows.BoardMovesSaid := over
#print axioms proved
end Go.Proofs.Ytgpbighdegdlfaa.boardMoves
namespace Go.Proofs.Ytgpbighdegdlfaa
/-- The row, under a short name, for the claim. -/
theorem boardMoves_holds : Rows.BoardMovesSaid := boardMoves.proved
end Go.Proofs.Ytgpbighdegdlfaa

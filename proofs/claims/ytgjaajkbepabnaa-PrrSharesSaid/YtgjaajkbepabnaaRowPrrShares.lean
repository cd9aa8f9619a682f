/- While more is on its way than should be, at most the given share goes out, or one segment at first. -/
-- The row of the law PrrShares, written by this session's rowgen.py out of the law's pure statement.
import Derived.Test.YtgjaajkbepabnaaRows
import Derived.Test.YtgjaajkbepabnaaPAx8
import Derived.Test.YtgjaajkbepabnaaOpens
import Derived.Test.YtgjaajkbepabnaaPurePrrShares
import Derived.WalkKit
import Derived.ProofKit
import Derived.OpenShut
import Derived.ShutString
import Derived.ChangeOld
import Derived.Below
import Derived.SizedLaws
import Derived.Deep.CondSized
import Derived.JoinedCond
namespace Go.Proofs.Ytgjaajkbepabnaa.prrShares
open Go.ChangeShapes Go.WideShapes Go.ChangeAt Go.RowKit Go.Proofs.Ytgjaajkbepabnaa.PA Go.Proofs.Ytgjaajkbepabnaa.Opens Go.Proofs.YtgjaajkbepabnaaW.PrintWords
open Go.ChangeMaps (open_string shut_string)
set_option linter.unusedVariables false
set_option linter.unusedSimpArgs false
theorem own : ownKnob Try.prog.godebug = none := by kernel_rfl
theorem laidOut : laidOutB Try.prog = true := by kernel_rfl
theorem bulk (H : Type) : Bulk (H := H) Rows.uptoBulk Rows.uptoBulkAll where
  nil := by simp [Rows.uptoBulkAll]
  cons := fun _ _ => by simp [Rows.uptoBulkAll]
  lit := fun l => by cases l <;> simp [Rows.uptoBulk]
  none := by simp [Rows.uptoBulk]
  slice := fun _ _ => by simp only [Rows.uptoBulk]; omega
  agg := fun _ => by simp [Rows.uptoBulk]
set_option maxRecDepth 100000 in
theorem contract (H : Type) (enc : TypeId × Value → H) (W : World) (base : Nat) (args : Array Value) (ds gs : List (DataW H)) (before : List MemPlace)
    (hval : ∀ (j : Nat) t v, Try.f5.params[j]? = some t → args[j]? = some v → Value.okWide Try.prog W .any base t v)
    (hW : DataW.Whole enc Try.prog Try.f5.params.toList Rows.prrSharesSpec.vars false W args.toList ds gs before)
    (hsz : (DataW.weightsEach Try.prog (Try.f5.params.toList ++ Rows.prrSharesSpec.plain.varTypes Try.prog) (ds ++ gs)).all (· ≤ reachBytes) = true) :
    Calls Try.prog 5 args W fun e W' => ∃ v, e = .returned v ∧ Rows.prrSharesSpec.post enc Try.prog Try.f5 false true false false W args v W' := by
  have hW' := hW
  obtain ⟨p, q, hA0, hV, rfl, hfz, hnd⟩ := hW
  have hA : DataW.TrodAll enc Try.prog W 0 (fun _ => true) true Try.f5.params.toList args.toList ds p := hA0
  rw [Try.params5] at hA hval hsz
  obtain ⟨v0, vs0, d0, ds0, p0, q0, hargs, rfl, rfl, h0, r0⟩ := trodAll_cons hA
  obtain ⟨v1, vs1, d1, ds1, p1, q1, rfl, rfl, rfl, h1, r1⟩ := trodAll_cons r0
  obtain ⟨v2, vs2, d2, ds2, p2, q2, rfl, rfl, rfl, h2, r2⟩ := trodAll_cons r1
  obtain ⟨v3, vs3, d3, ds3, p3, q3, rfl, rfl, rfl, h3, r3⟩ := trodAll_cons r2
  obtain ⟨rfl, rfl, rfl⟩ := trodAll_nil r3
  obtain rfl : args = #[v0, v1, v2, v3] := by cases args; simp_all
  obtain ⟨rfl, rfl⟩ := trodVars_none hV
  have hs_0 : (DataW.weightsEach Try.prog [3, 3, 3, 34] [d0, d1, d2, d3]).all (· ≤ reachBytes) = true := hsz
  obtain ⟨hw0, hs_1⟩ := all_append (show (DataW.weights Try.prog 3 d0 ++ DataW.weightsEach Try.prog [3, 3, 34] [d1, d2, d3]).all (· ≤ reachBytes) = true from hs_0)
  obtain ⟨hw1, hs_2⟩ := all_append (show (DataW.weights Try.prog 3 d1 ++ DataW.weightsEach Try.prog [3, 34] [d2, d3]).all (· ≤ reachBytes) = true from hs_1)
  obtain ⟨hw2, hs_3⟩ := all_append (show (DataW.weights Try.prog 3 d2 ++ DataW.weightsEach Try.prog [34] [d3]).all (· ≤ reachBytes) = true from hs_2)
  obtain ⟨hw3, hs_4⟩ := all_append (show (DataW.weights Try.prog 34 d3 ++ DataW.weightsEach Try.prog [] []).all (· ≤ reachBytes) = true from hs_3)
  obtain ⟨a0, rfl, rfl, rfl, w0⟩ := open_int Try.underlying3 (hval 0 3 v0 rfl rfl) h0
  obtain ⟨a1, rfl, rfl, rfl, w1⟩ := open_int Try.underlying3 (hval 1 3 v1 rfl rfl) h1
  obtain ⟨a2, rfl, rfl, rfl, w2⟩ := open_int Try.underlying3 (hval 2 3 v2 rfl rfl) h2
  have k3 := h3
  have lt3 : ∀ x ∈ p3, x.block < W.heap.size := by obtain ⟨m, hm⟩ := k3; exact DataW.trod_lt m _ _ _ hm
  obtain ⟨a3, len3, cap3, rfl⟩ := okWide_slice Try.underlying34 (hval 3 34 v3 rfl rfl)
  obtain ⟨fuel3, hf3⟩ := h3
  obtain ⟨l3, hK3, w3, z3⟩ := (opens_slice (B := 8) Try.underlying34 (by kernel_rfl) (by kernel_rfl) (opens_int Try.underlying3)) W H enc _ _ (bulk H) _ _ _ _ _ hf3 hw3
  obtain ⟨A3, c3, hcs3, hc3, hr3⟩ := hK3
  obtain ⟨rfl, rfl, rfl⟩ : a3 = A3 ∧ len3 = l3.length ∧ cap3 = c3 := by simpa [Value.cells] using hcs3
  replace w3 : (∀ x7 ∈ l3, (Lit.int .i64 x7).wf = true) ∧ l3.length * 8 ≤ 140737488351232 ∧ l3.length ≤ 9223372036854775807 := w3
  replace z3 : ((l3.map fun x7 => (1 : Nat)).sum + 1) ≤ Rows.uptoBulk d3 := z3
  clear hA0 hval hsz
  obtain ⟨k, h⟩ := Pure.PrrShares a0 a1 a2 l3 w0 w1 w2 w3
  refine (PA.tidewaylaw14_PrrShares.calls k a0 a1 a2 _ _ l3 true W hr3 hc3 h).mono fun e W' ⟨he, bel⟩ => ?_
  subst he
  exact ⟨_, rfl, _, _, _, [], _, [], hW', trodAll_mk1 (shut_bool Try.underlying4 _), (trodAll_cons_mk (shut_int Try.underlying3 w0) (trodAll_cons_mk (shut_int Try.underlying3 w1) (trodAll_cons_mk (shut_int Try.underlying3 w2) (trodAll_cons_mk (Below.trod laidOut (by kernel_rfl) (of_decide_eq_true (by kernel_rfl)) k3 bel lt3) trodAll_mk0)))), rfl, bel.frame _, fun h => by cases h⟩
set_option maxRecDepth 100000 in
theorem lifted (os : Os) (started : os.Started) (H : Type) (enc : TypeId × Value → H) :
    ReturnsInHanded {} Try.checked os 5 .any (Rows.prrSharesSpec.pre6 enc Try.prog Try.f5 Rows.prrSharesRow.domain false) (Rows.prrSharesSpec.post enc Try.prog Try.f5 false true false false) := by
  refine returnsInHanded_of_change_sized (C := Try.checked) own started (by kernel_rfl) Try.func5
    (ChangeSpec.witness6 (enc := enc) (C := Try.checked) false ⟨#[], #[.int .i64 0, .int .i64 0, .int .i64 0, .slice none 0 0], []⟩ 8 (by kernel_rfl) (by kernel_rfl) (by kernel_rfl) (by kernel_rfl)) ?_
  intro W base args ds gs before hval hW hcnd hsz _
  exact contract H enc W base args ds gs before hval hW hsz
theorem over : Rows.prrSharesRow.holds Try.pinned (OpenSpec.ofChange Rows.prrSharesSpec) :=
  OpenClaim.holds_of_wide 5 Try.f5 rfl rfl rfl rfl rfl rfl rfl ⟨rfl, rfl, rfl, rfl, rfl⟩ rfl rfl rfl rfl rfl (by kernel_rfl) Try.func5 (by kernel_rfl)
    (of_decide_eq_true (by kernel_rfl)) (by unfold Func.isWrapper; first | (rw [if_pos (by decide +kernel)]; kernel_rfl) | (rw [if_neg (by decide +kernel)]; exact ⟨rfl, rfl⟩))
    (fun os started H enc _ => lifted os started H enc)
theorem proved : Rows.PrrSharesSaid := over
#print axioms proved
end Go.Proofs.Ytgjaajkbepabnaa.prrShares
namespace Go.Proofs.Ytgjaajkbepabnaa
/-- The row, under a short name, for the claim. -/
theorem prrShares_holds : Rows.PrrSharesSaid := prrShares.proved
end Go.Proofs.Ytgjaajkbepabnaa

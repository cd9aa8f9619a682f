/- Whether a pace was kept is told as the document tells it, and whether bytes are a beginning. -/
-- The row of the law JudgePaces, written by this session's rowgen.py out of the law's pure statement.
import Derived.Test.YtflmfbcapccdeaaRows
import Derived.Test.YtflmfbcapccdeaaPAx26
import Derived.Test.YtflmfbcapccdeaaOpens
import Derived.Test.YtflmfbcapccdeaaPureJudgePaces
import Derived.WalkKit
import Derived.ProofKit
import Derived.OpenShut
import Derived.ShutString
import Derived.ChangeOld
import Derived.Below
import Derived.SizedLaws
import Derived.Deep.CondSized
import Derived.JoinedCond
namespace Go.Proofs.Ytflmfbcapccdeaa.judgePaces
open Go.ChangeShapes Go.WideShapes Go.ChangeAt Go.RowKit Go.Proofs.Ytflmfbcapccdeaa.PA Go.Proofs.Ytflmfbcapccdeaa.Opens Go.Proofs.YtflmfbcapccdeaaW.PrintWords
open Go.ChangeMaps (open_string shut_string)
set_option linter.unusedVariables false
set_option linter.unusedSimpArgs false
theorem own : ownKnob Try.prog.godebug = none := by kernel_rfl
theorem laidOut : laidOutB Try.prog = true := by kernel_rfl
def wf62 (x : S62) : Prop := ((Lit.int .i64 x.f0).wf = true) ∧ ((Lit.int .i64 x.f1).wf = true)
def sz62 (x : S62) : Nat := ((1 : Nat) + ((1 : Nat))) + 1
theorem opens62 : Opens Try.prog k62 62 wf62 sz62 :=
  opens_iso (fun x : S62 => (x.f0, x.f1)) (fun y => ⟨y.1, y.2⟩) (fun _ => rfl) (opens_struct Try.underlying62 (by kernel_rfl) (opensF_cons rfl (by kernel_rfl) (opens_int Try.underlying3) (opensF_one rfl (by kernel_rfl) (opens_int Try.underlying3))))
theorem bulk (H : Type) : Bulk (H := H) Rows.uptoBulk Rows.uptoBulkAll where
  nil := by simp [Rows.uptoBulkAll]
  cons := fun _ _ => by simp [Rows.uptoBulkAll]
  lit := fun l => by cases l <;> simp [Rows.uptoBulk]
  none := by simp [Rows.uptoBulk]
  slice := fun _ _ => by simp only [Rows.uptoBulk]; omega
  agg := fun _ => by simp [Rows.uptoBulk]
set_option maxRecDepth 100000 in
theorem contract (H : Type) (enc : TypeId × Value → H) (W : World) (base : Nat) (args : Array Value) (ds gs : List (DataW H)) (before : List MemPlace)
    (hval : ∀ (j : Nat) t v, Try.f4.params[j]? = some t → args[j]? = some v → Value.okWide Try.prog W .any base t v)
    (hW : DataW.Whole enc Try.prog Try.f4.params.toList Rows.judgePacesSpec.vars false W args.toList ds gs before)
    (hsz : (DataW.weightsEach Try.prog (Try.f4.params.toList ++ Rows.judgePacesSpec.plain.varTypes Try.prog) (ds ++ gs)).all (· ≤ reachBytes) = true) :
    Calls Try.prog 4 args W fun e W' => ∃ v, e = .returned v ∧ Rows.judgePacesSpec.post enc Try.prog Try.f4 false true false false W args v W' := by
  have hW' := hW
  obtain ⟨p, q, hA0, hV, rfl, hfz, hnd⟩ := hW
  have hA : DataW.TrodAll enc Try.prog W 0 (fun _ => true) true Try.f4.params.toList args.toList ds p := hA0
  rw [Try.params4] at hA hval hsz
  obtain ⟨v0, vs0, d0, ds0, p0, q0, hargs, rfl, rfl, h0, r0⟩ := trodAll_cons hA
  obtain ⟨v1, vs1, d1, ds1, p1, q1, rfl, rfl, rfl, h1, r1⟩ := trodAll_cons r0
  obtain ⟨v2, vs2, d2, ds2, p2, q2, rfl, rfl, rfl, h2, r2⟩ := trodAll_cons r1
  obtain ⟨v3, vs3, d3, ds3, p3, q3, rfl, rfl, rfl, h3, r3⟩ := trodAll_cons r2
  obtain ⟨rfl, rfl, rfl⟩ := trodAll_nil r3
  obtain rfl : args = #[v0, v1, v2, v3] := by cases args; simp_all
  obtain ⟨rfl, rfl⟩ := trodVars_none hV
  have hs_0 : (DataW.weightsEach Try.prog [33, 3, 3, 34] [d0, d1, d2, d3]).all (· ≤ reachBytes) = true := hsz
  obtain ⟨hw0, hs_1⟩ := all_append (show (DataW.weights Try.prog 33 d0 ++ DataW.weightsEach Try.prog [3, 3, 34] [d1, d2, d3]).all (· ≤ reachBytes) = true from hs_0)
  obtain ⟨hw1, hs_2⟩ := all_append (show (DataW.weights Try.prog 3 d1 ++ DataW.weightsEach Try.prog [3, 34] [d2, d3]).all (· ≤ reachBytes) = true from hs_1)
  obtain ⟨hw2, hs_3⟩ := all_append (show (DataW.weights Try.prog 3 d2 ++ DataW.weightsEach Try.prog [34] [d3]).all (· ≤ reachBytes) = true from hs_2)
  obtain ⟨hw3, hs_4⟩ := all_append (show (DataW.weights Try.prog 34 d3 ++ DataW.weightsEach Try.prog [] []).all (· ≤ reachBytes) = true from hs_3)
  have k0 := h0
  have lt0 : ∀ x ∈ p0, x.block < W.heap.size := by obtain ⟨m, hm⟩ := k0; exact DataW.trod_lt m _ _ _ hm
  obtain ⟨a0, len0, cap0, rfl⟩ := okWide_slice Try.underlying33 (hval 0 33 v0 rfl rfl)
  obtain ⟨fuel0, hf0⟩ := h0
  obtain ⟨l0, hK0, w0, z0⟩ := (opens_slice (B := 16) Try.underlying33 (by kernel_rfl) (by kernel_rfl) opens62) W H enc _ _ (bulk H) _ _ _ _ _ hf0 hw0
  obtain ⟨A0, c0, hcs0, hc0, hr0⟩ := hK0
  obtain ⟨rfl, rfl, rfl⟩ : a0 = A0 ∧ len0 = l0.length ∧ cap0 = c0 := by simpa [Value.cells] using hcs0
  replace w0 : (∀ x10 ∈ l0, wf62 x10) ∧ l0.length * 16 ≤ 140737488351232 ∧ l0.length ≤ 9223372036854775807 := w0
  replace z0 : ((l0.map fun x10 => sz62 x10).sum + 1) ≤ Rows.uptoBulk d0 := z0
  obtain ⟨a1, rfl, rfl, rfl, w1⟩ := open_int Try.underlying3 (hval 1 3 v1 rfl rfl) h1
  obtain ⟨a2, rfl, rfl, rfl, w2⟩ := open_int Try.underlying3 (hval 2 3 v2 rfl rfl) h2
  have k3 := h3
  have lt3 : ∀ x ∈ p3, x.block < W.heap.size := by obtain ⟨m, hm⟩ := k3; exact DataW.trod_lt m _ _ _ hm
  obtain ⟨a3, len3, cap3, rfl⟩ := okWide_slice Try.underlying34 (hval 3 34 v3 rfl rfl)
  obtain ⟨fuel3, hf3⟩ := h3
  obtain ⟨l3, hK3, w3, z3⟩ := (opens_slice (B := 1) Try.underlying34 (by kernel_rfl) (by kernel_rfl) (opens_int Try.underlying5)) W H enc _ _ (bulk H) _ _ _ _ _ hf3 hw3
  obtain ⟨A3, c3, hcs3, hc3, hr3⟩ := hK3
  obtain ⟨rfl, rfl, rfl⟩ : a3 = A3 ∧ len3 = l3.length ∧ cap3 = c3 := by simpa [Value.cells] using hcs3
  replace w3 : (∀ x6 ∈ l3, (Lit.int .u8 x6).wf = true) ∧ l3.length * 1 ≤ 140737488351232 ∧ l3.length ≤ 9223372036854775807 := w3
  replace z3 : ((l3.map fun x6 => (1 : Nat)).sum + 1) ≤ Rows.uptoBulk d3 := z3
  clear hA0 hval hsz
  obtain ⟨k, h⟩ := Pure.JudgePaces l0 a1 a2 l3 w0 w1 w2 w3
  refine (PA.tidewaylaw25_JudgePaces.calls k _ _ l0 a1 a2 _ _ l3 true W hr0 hc0 hr3 hc3 h).mono fun e W' ⟨he, bel⟩ => ?_
  subst he
  exact ⟨_, rfl, _, _, _, [], _, [], hW', trodAll_mk1 (shut_bool Try.underlying4 _), (trodAll_cons_mk (Below.trod laidOut (by kernel_rfl) (of_decide_eq_true (by kernel_rfl)) k0 bel lt0) (trodAll_cons_mk (shut_int Try.underlying3 w1) (trodAll_cons_mk (shut_int Try.underlying3 w2) (trodAll_cons_mk (Below.trod laidOut (by kernel_rfl) (of_decide_eq_true (by kernel_rfl)) k3 bel lt3) trodAll_mk0)))), rfl, bel.frame _, fun h => by cases h⟩
set_option maxRecDepth 100000 in
theorem lifted (os : Os) (started : os.Started) (H : Type) (enc : TypeId × Value → H) :
    ReturnsInHanded {} Try.checked os 4 .any (Rows.judgePacesSpec.pre6 enc Try.prog Try.f4 Rows.judgePacesRow.domain false) (Rows.judgePacesSpec.post enc Try.prog Try.f4 false true false false) := by
  refine returnsInHanded_of_change_sized (C := Try.checked) own started (by kernel_rfl) Try.func4
    (ChangeSpec.witness6 (enc := enc) (C := Try.checked) false ⟨#[], #[.slice none 0 0, .int .i64 0, .int .i64 0, .slice none 0 0], []⟩ 8 (by kernel_rfl) (by kernel_rfl) (by kernel_rfl) (by kernel_rfl)) ?_
  intro W base args ds gs before hval hW hcnd hsz _
  exact contract H enc W base args ds gs before hval hW hsz
theorem over : Rows.judgePacesRow.holds Try.pinned (OpenSpec.ofChange Rows.judgePacesSpec) :=
  OpenClaim.holds_of_wide 4 Try.f4 rfl rfl rfl rfl rfl rfl rfl ⟨rfl, rfl, rfl, rfl, rfl⟩ rfl rfl rfl rfl rfl (by kernel_rfl) Try.func4 (by kernel_rfl)
    (of_decide_eq_true (by kernel_rfl)) (by unfold Func.isWrapper; first | (rw [if_pos (by decide +kernel)]; kernel_rfl) | (rw [if_neg (by decide +kernel)]; exact ⟨rfl, rfl⟩))
    (fun os started H enc _ => lifted os started H enc)
theorem proved : Rows.JudgePacesSaid := over
#print axioms proved
end Go.Proofs.Ytflmfbcapccdeaa.judgePaces
namespace Go.Proofs.Ytflmfbcapccdeaa
/-- The row, under a short name, for the claim. -/
theorem judgePaces_holds : Rows.JudgePacesSaid := judgePaces.proved
end Go.Proofs.Ytflmfbcapccdeaa

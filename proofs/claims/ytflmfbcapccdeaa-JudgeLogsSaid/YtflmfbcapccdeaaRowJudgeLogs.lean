/- What was sent, what of it was new, and what went beyond an edge is told as the document tells it: every log, edges. -/
-- The row of the law JudgeLogs, written by this session's rowgen.py out of the law's pure statement.
import Derived.Test.YtflmfbcapccdeaaRows
import Derived.Test.YtflmfbcapccdeaaPAx33
import Derived.Test.YtflmfbcapccdeaaOpens
import Derived.Test.YtflmfbcapccdeaaPureJudgeLogs
import Derived.WalkKit
import Derived.ProofKit
import Derived.OpenShut
import Derived.ShutString
import Derived.ChangeOld
import Derived.Below
import Derived.SizedLaws
import Derived.Deep.CondSized
import Derived.JoinedCond
namespace Go.Proofs.Ytflmfbcapccdeaa.judgeLogs
open Go.ChangeShapes Go.WideShapes Go.ChangeAt Go.RowKit Go.Proofs.Ytflmfbcapccdeaa.PA Go.Proofs.Ytflmfbcapccdeaa.Opens Go.Proofs.YtflmfbcapccdeaaW.PrintWords
open Go.ChangeMaps (open_string shut_string)
set_option linter.unusedVariables false
set_option linter.unusedSimpArgs false
theorem own : ownKnob Try.prog.godebug = none := by kernel_rfl
theorem laidOut : laidOutB Try.prog = true := by kernel_rfl
def wf39 (x : S39) : Prop := ((∀ x6 ∈ x.f0, (Lit.int .u8 x6).wf = true) ∧ x.f0.length * 1 ≤ 140737488351232 ∧ x.f0.length ≤ 9223372036854775807) ∧ ((Lit.int .i64 x.f1).wf = true) ∧ ((Lit.int .i64 x.f2).wf = true) ∧ ((Lit.int .i64 x.f3).wf = true) ∧ ((Lit.int .i64 x.f4).wf = true) ∧ ((Lit.int .i64 x.f5).wf = true) ∧ ((Lit.int .i64 x.f6).wf = true)
def sz39 (x : S39) : Nat := (((x.f0.map fun x6 => (1 : Nat)).sum + 1) + ((1 : Nat) + ((1 : Nat) + ((1 : Nat) + ((1 : Nat) + ((1 : Nat) + ((1 : Nat)))))))) + 1
theorem opens39 : Opens Try.prog k39 39 wf39 sz39 :=
  opens_iso (fun x : S39 => (x.f0, x.f1, x.f2, x.f3, x.f4, x.f5, x.f6)) (fun y => ⟨y.1, y.2.1, y.2.2.1, y.2.2.2.1, y.2.2.2.2.1, y.2.2.2.2.2.1, y.2.2.2.2.2.2⟩) (fun _ => rfl) (opens_struct Try.underlying39 (by kernel_rfl) (opensF_cons rfl (by kernel_rfl) (opens_slice (B := 1) Try.underlying34 (by kernel_rfl) (by kernel_rfl) (opens_int Try.underlying5)) (opensF_cons rfl (by kernel_rfl) (opens_int Try.underlying24) (opensF_cons rfl (by kernel_rfl) (opens_int Try.underlying3) (opensF_cons rfl (by kernel_rfl) (opens_int Try.underlying3) (opensF_cons rfl (by kernel_rfl) (opens_int Try.underlying3) (opensF_cons rfl (by kernel_rfl) (opens_int Try.underlying3) (opensF_one rfl (by kernel_rfl) (opens_int Try.underlying3)))))))))
theorem bulk (H : Type) : Bulk (H := H) Rows.uptoBulk Rows.uptoBulkAll where
  nil := by simp [Rows.uptoBulkAll]
  cons := fun _ _ => by simp [Rows.uptoBulkAll]
  lit := fun l => by cases l <;> simp [Rows.uptoBulk]
  none := by simp [Rows.uptoBulk]
  slice := fun _ _ => by simp only [Rows.uptoBulk]; omega
  agg := fun _ => by simp [Rows.uptoBulk]
set_option maxRecDepth 100000 in
theorem contract (H : Type) (enc : TypeId × Value → H) (W : World) (base : Nat) (args : Array Value) (ds gs : List (DataW H)) (before : List MemPlace)
    (hval : ∀ (j : Nat) t v, Try.f3.params[j]? = some t → args[j]? = some v → Value.okWide Try.prog W .any base t v)
    (hW : DataW.Whole enc Try.prog Try.f3.params.toList Rows.judgeLogsSpec.vars false W args.toList ds gs before)
    (hsz : (DataW.weightsEach Try.prog (Try.f3.params.toList ++ Rows.judgeLogsSpec.plain.varTypes Try.prog) (ds ++ gs)).all (· ≤ reachBytes) = true) :
    Calls Try.prog 3 args W fun e W' => ∃ v, e = .returned v ∧ Rows.judgeLogsSpec.post enc Try.prog Try.f3 false true false false W args v W' := by
  have hW' := hW
  obtain ⟨p, q, hA0, hV, rfl, hfz, hnd⟩ := hW
  have hA : DataW.TrodAll enc Try.prog W 0 (fun _ => true) true Try.f3.params.toList args.toList ds p := hA0
  rw [Try.params3] at hA hval hsz
  obtain ⟨v0, vs0, d0, ds0, p0, q0, hargs, rfl, rfl, h0, r0⟩ := trodAll_cons hA
  obtain ⟨v1, vs1, d1, ds1, p1, q1, rfl, rfl, rfl, h1, r1⟩ := trodAll_cons r0
  obtain ⟨v2, vs2, d2, ds2, p2, q2, rfl, rfl, rfl, h2, r2⟩ := trodAll_cons r1
  obtain ⟨rfl, rfl, rfl⟩ := trodAll_nil r2
  obtain rfl : args = #[v0, v1, v2] := by cases args; simp_all
  obtain ⟨rfl, rfl⟩ := trodVars_none hV
  have hs_0 : (DataW.weightsEach Try.prog [22, 23, 24] [d0, d1, d2]).all (· ≤ reachBytes) = true := hsz
  obtain ⟨hw0, hs_1⟩ := all_append (show (DataW.weights Try.prog 22 d0 ++ DataW.weightsEach Try.prog [23, 24] [d1, d2]).all (· ≤ reachBytes) = true from hs_0)
  obtain ⟨hw1, hs_2⟩ := all_append (show (DataW.weights Try.prog 23 d1 ++ DataW.weightsEach Try.prog [24] [d2]).all (· ≤ reachBytes) = true from hs_1)
  obtain ⟨hw2, hs_3⟩ := all_append (show (DataW.weights Try.prog 24 d2 ++ DataW.weightsEach Try.prog [] []).all (· ≤ reachBytes) = true from hs_2)
  have k0 := h0
  have lt0 : ∀ x ∈ p0, x.block < W.heap.size := by obtain ⟨m, hm⟩ := k0; exact DataW.trod_lt m _ _ _ hm
  obtain ⟨a0, len0, cap0, rfl⟩ := okWide_slice Try.underlying22 (hval 0 22 v0 rfl rfl)
  obtain ⟨fuel0, hf0⟩ := h0
  obtain ⟨l0, hK0, w0, z0⟩ := (opens_slice (B := 72) Try.underlying22 (by kernel_rfl) (by kernel_rfl) opens39) W H enc _ _ (bulk H) _ _ _ _ _ hf0 hw0
  obtain ⟨A0, c0, hcs0, hc0, hr0⟩ := hK0
  obtain ⟨rfl, rfl, rfl⟩ : a0 = A0 ∧ len0 = l0.length ∧ cap0 = c0 := by simpa [Value.cells] using hcs0
  replace w0 : (∀ x10 ∈ l0, wf39 x10) ∧ l0.length * 72 ≤ 140737488351232 ∧ l0.length ≤ 9223372036854775807 := w0
  replace z0 : ((l0.map fun x10 => sz39 x10).sum + 1) ≤ Rows.uptoBulk d0 := z0
  have k1 := h1
  have lt1 : ∀ x ∈ p1, x.block < W.heap.size := by obtain ⟨m, hm⟩ := k1; exact DataW.trod_lt m _ _ _ hm
  obtain ⟨a1, len1, cap1, rfl⟩ := okWide_slice Try.underlying23 (hval 1 23 v1 rfl rfl)
  obtain ⟨fuel1, hf1⟩ := h1
  obtain ⟨l1, hK1, w1, z1⟩ := (opens_slice (B := 8) Try.underlying23 (by kernel_rfl) (by kernel_rfl) (opens_int Try.underlying3)) W H enc _ _ (bulk H) _ _ _ _ _ hf1 hw1
  obtain ⟨A1, c1, hcs1, hc1, hr1⟩ := hK1
  obtain ⟨rfl, rfl, rfl⟩ : a1 = A1 ∧ len1 = l1.length ∧ cap1 = c1 := by simpa [Value.cells] using hcs1
  replace w1 : (∀ x7 ∈ l1, (Lit.int .i64 x7).wf = true) ∧ l1.length * 8 ≤ 140737488351232 ∧ l1.length ≤ 9223372036854775807 := w1
  replace z1 : ((l1.map fun x7 => (1 : Nat)).sum + 1) ≤ Rows.uptoBulk d1 := z1
  obtain ⟨a2, rfl, rfl, rfl, w2⟩ := open_int Try.underlying24 (hval 2 24 v2 rfl rfl) h2
  clear hA0 hval hsz
  obtain ⟨k, h⟩ := Pure.JudgeLogs l0 l1 a2 w0 w1 w2
  refine (PA.tidewaylaw25_JudgeLogs.calls k _ _ l0 _ _ l1 a2 true W hr0 hc0 hr1 hc1 h).mono fun e W' ⟨he, bel⟩ => ?_
  subst he
  exact ⟨_, rfl, _, _, _, [], _, [], hW', trodAll_mk1 (shut_bool Try.underlying4 _), (trodAll_cons_mk (Below.trod laidOut (by kernel_rfl) (of_decide_eq_true (by kernel_rfl)) k0 bel lt0) (trodAll_cons_mk (Below.trod laidOut (by kernel_rfl) (of_decide_eq_true (by kernel_rfl)) k1 bel lt1) (trodAll_cons_mk (shut_int Try.underlying24 w2) trodAll_mk0))), rfl, bel.frame _, fun h => by cases h⟩
set_option maxRecDepth 100000 in
theorem lifted (os : Os) (started : os.Started) (H : Type) (enc : TypeId × Value → H) :
    ReturnsInHanded {} Try.checked os 3 .any (Rows.judgeLogsSpec.pre6 enc Try.prog Try.f3 Rows.judgeLogsRow.domain false) (Rows.judgeLogsSpec.post enc Try.prog Try.f3 false true false false) := by
  refine returnsInHanded_of_change_sized (C := Try.checked) own started (by kernel_rfl) Try.func3
    (ChangeSpec.witness6 (enc := enc) (C := Try.checked) false ⟨#[], #[.slice none 0 0, .slice none 0 0, .int .i64 0], []⟩ 8 (by kernel_rfl) (by kernel_rfl) (by kernel_rfl) (by kernel_rfl)) ?_
  intro W base args ds gs before hval hW hcnd hsz _
  exact contract H enc W base args ds gs before hval hW hsz
theorem over : Rows.judgeLogsRow.holds Try.pinned (OpenSpec.ofChange Rows.judgeLogsSpec) :=
  OpenClaim.holds_of_wide 3 Try.f3 rfl rfl rfl rfl rfl rfl rfl ⟨rfl, rfl, rfl, rfl, rfl⟩ rfl rfl rfl rfl rfl (by kernel_rfl) Try.func3 (by kernel_rfl)
    (of_decide_eq_true (by kernel_rfl)) (by unfold Func.isWrapper; first | (rw [if_pos (by decide +kernel)]; kernel_rfl) | (rw [if_neg (by decide +kernel)]; exact ⟨rfl, rfl⟩))
    (fun os started H enc _ => lifted os started H enc)
theorem proved : Rows.JudgeLogsSaid := over
#print axioms proved
end Go.Proofs.Ytflmfbcapccdeaa.judgeLogs
namespace Go.Proofs.Ytflmfbcapccdeaa
/-- The row, under a short name, for the claim. -/
theorem judgeLogs_holds : Rows.JudgeLogsSaid := judgeLogs.proved
end Go.Proofs.Ytflmfbcapccdeaa

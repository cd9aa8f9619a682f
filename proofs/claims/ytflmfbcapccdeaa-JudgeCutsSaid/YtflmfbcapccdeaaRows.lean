/-
  No cell of these rows narrows 'for every input' (looked for: loops, veiled, ifaces, maps, wideKeys, modest, calm, conditions, laid).
  DERIVED. THE GIVEN ROWS OF THIS SEAT. 5 by the template 'for every input the law returns true; each argument reads behind the call as it read before'; 0 by the template 'total and deterministic' (their statements: YtflmfbcapccdeaaTotals.lean).
  GIVEN WITH THE SEED: the statements are not yours to turn. If you find one false, say at which input.
  Laid BY PROGRAM, IN A SANDBOX (cutbox-rows.mjs): the forced cells as the released guide's own fill.sh prints them over the translation 1c48180150034124… (all of the seat's roots in one cut). By AI agents, Wed Nov 11 2026. No macro, syntax, notation, axiom, sorry.
-/
import Derived.Test.YtflmfbcapccdeaaChecked
import GoSem.Claim
import GoSem.ClaimJoined
import GoSem.ClaimMapViews
import Derived.JoinedTies
import Derived.KernelRfl
namespace Go.Proofs.Ytflmfbcapccdeaa
/- THE CELL 'sum', in the pinned program and in every row, IS THE sha256 OF THE DUMP (.gsa) THAT YtflmfbcapccdeaaProg.lean LOADS. Nothing in Lean hashes anything: it is a label: what it is worth is what the hold of that sum in a sandbox is worth. -/
noncomputable def Try.pinned : Pinned := { name := "ytflmfbcapccdeaa", sum := "1c481801500341243f87bfad355db36e30a24cad92443017ca89410cdabca58a", checked := Try.checked }
namespace Rows
def none {H : Type} : Left H := { results := [], args := [] }

/-- 'tidewaylaw25.JudgeLogs': WHATEVER THE INPUT: true; the input reads as it did. -/
def judgeLogsSpec : ChangeSpec := { name := "judgeLogs", fn := fun _ => fun
  | [d1, d2, d3] => { results := [.lit (.bool true)], args := [d1, d2, d3] }
  | _ => none }
def judgeLogsRow : OpenClaim := { program := "ytflmfbcapccdeaa", sum := "1c481801500341243f87bfad355db36e30a24cad92443017ca89410cdabca58a", func := "tideway/tidewaylaw25.JudgeLogs", spec := "judgeLogs", inPlace := ["internal/reflectlite.TypeOf"], unfollowed := true, recurses := true, named := ["math/bits.divideError", "math/bits.overflowError"], apart := false }
def JudgeLogsSaid : Prop := judgeLogsRow.holds Try.pinned (OpenSpec.ofChange judgeLogsSpec)

/-- ITS FALSE NEIGHBOUR: 'it returns false'. Refute it at one input. -/
def judgeLogsWrong : ChangeSpec := { name := "judgeLogs", fn := fun _ => fun
  | [d1, d2, d3] => { results := [.lit (.bool false)], args := [d1, d2, d3] }
  | _ => none }
def JudgeLogsWrongFalsely : Prop := judgeLogsRow.holds Try.pinned (OpenSpec.ofChange judgeLogsWrong)

/-- 'tidewaylaw25.JudgePaces': WHATEVER THE INPUT: true; the input reads as it did. -/
def judgePacesSpec : ChangeSpec := { name := "judgePaces", fn := fun _ => fun
  | [d1, d2, d3, d4] => { results := [.lit (.bool true)], args := [d1, d2, d3, d4] }
  | _ => none }
def judgePacesRow : OpenClaim := { program := "ytflmfbcapccdeaa", sum := "1c481801500341243f87bfad355db36e30a24cad92443017ca89410cdabca58a", func := "tideway/tidewaylaw25.JudgePaces", spec := "judgePaces", inPlace := ["internal/reflectlite.TypeOf"], unfollowed := true, recurses := true, named := ["math/bits.divideError", "math/bits.overflowError"], apart := false }
def JudgePacesSaid : Prop := judgePacesRow.holds Try.pinned (OpenSpec.ofChange judgePacesSpec)

/-- ITS FALSE NEIGHBOUR: 'it returns false'. Refute it at one input. -/
def judgePacesWrong : ChangeSpec := { name := "judgePaces", fn := fun _ => fun
  | [d1, d2, d3, d4] => { results := [.lit (.bool false)], args := [d1, d2, d3, d4] }
  | _ => none }
def JudgePacesWrongFalsely : Prop := judgePacesRow.holds Try.pinned (OpenSpec.ofChange judgePacesWrong)

/-- 'tidewaylaw25.JudgeBytes': WHATEVER THE INPUT: true; the input reads as it did. -/
def judgeBytesSpec : ChangeSpec := { name := "judgeBytes", fn := fun _ => fun
  | [d] => { results := [.lit (.bool true)], args := [d] }
  | _ => none }
def judgeBytesRow : OpenClaim := { program := "ytflmfbcapccdeaa", sum := "1c481801500341243f87bfad355db36e30a24cad92443017ca89410cdabca58a", func := "tideway/tidewaylaw25.JudgeBytes", spec := "judgeBytes", inPlace := ["internal/reflectlite.TypeOf"], unfollowed := true, recurses := true, named := ["math/bits.divideError", "math/bits.overflowError"], apart := false }
def JudgeBytesSaid : Prop := judgeBytesRow.holds Try.pinned (OpenSpec.ofChange judgeBytesSpec)

/-- ITS FALSE NEIGHBOUR: 'it returns false'. Refute it at one input. -/
def judgeBytesWrong : ChangeSpec := { name := "judgeBytes", fn := fun _ => fun
  | [d] => { results := [.lit (.bool false)], args := [d] }
  | _ => none }
def JudgeBytesWrongFalsely : Prop := judgeBytesRow.holds Try.pinned (OpenSpec.ofChange judgeBytesWrong)

/-- 'tidewaylaw25.JudgeFaster': WHATEVER THE INPUT: true; the input reads as it did. -/
def judgeFasterSpec : ChangeSpec := { name := "judgeFaster", fn := fun _ => fun
  | [d1, d2, d3, d4, d5] => { results := [.lit (.bool true)], args := [d1, d2, d3, d4, d5] }
  | _ => none }
def judgeFasterRow : OpenClaim := { program := "ytflmfbcapccdeaa", sum := "1c481801500341243f87bfad355db36e30a24cad92443017ca89410cdabca58a", func := "tideway/tidewaylaw25.JudgeFaster", spec := "judgeFaster", inPlace := ["internal/reflectlite.TypeOf"], unfollowed := true, recurses := true, named := ["math/bits.divideError", "math/bits.overflowError"], apart := false }
def JudgeFasterSaid : Prop := judgeFasterRow.holds Try.pinned (OpenSpec.ofChange judgeFasterSpec)

/-- ITS FALSE NEIGHBOUR: 'it returns false'. Refute it at one input. -/
def judgeFasterWrong : ChangeSpec := { name := "judgeFaster", fn := fun _ => fun
  | [d1, d2, d3, d4, d5] => { results := [.lit (.bool false)], args := [d1, d2, d3, d4, d5] }
  | _ => none }
def JudgeFasterWrongFalsely : Prop := judgeFasterRow.holds Try.pinned (OpenSpec.ofChange judgeFasterWrong)

/-- 'tidewaylaw25.JudgeCuts': WHATEVER THE INPUT: true; the input reads as it did. -/
def judgeCutsSpec : ChangeSpec := { name := "judgeCuts", fn := fun _ => fun
  | [d1, d2] => { results := [.lit (.bool true)], args := [d1, d2] }
  | _ => none }
def judgeCutsRow : OpenClaim := { program := "ytflmfbcapccdeaa", sum := "1c481801500341243f87bfad355db36e30a24cad92443017ca89410cdabca58a", func := "tideway/tidewaylaw25.JudgeCuts", spec := "judgeCuts", inPlace := ["internal/reflectlite.TypeOf"], unfollowed := true, recurses := true, named := ["math/bits.divideError", "math/bits.overflowError"], apart := false }
def JudgeCutsSaid : Prop := judgeCutsRow.holds Try.pinned (OpenSpec.ofChange judgeCutsSpec)

/-- ITS FALSE NEIGHBOUR: 'it returns false'. Refute it at one input. -/
def judgeCutsWrong : ChangeSpec := { name := "judgeCuts", fn := fun _ => fun
  | [d1, d2] => { results := [.lit (.bool false)], args := [d1, d2] }
  | _ => none }
def JudgeCutsWrongFalsely : Prop := judgeCutsRow.holds Try.pinned (OpenSpec.ofChange judgeCutsWrong)

/- THE SECOND FORM. 'bulk': how many values and letters a reading holds, each counted each time it is reached (what is shared counts as often as it is met; a slice's spare places count too). A statement '..UptoSaid' is the law's where the arguments, and the package variables that the reading takes, are together of bulk at most 1048576: NARROWER than '..Said'. Prove '..Said' where nothing that the law and all that it calls make is longer than what came in: it says more and counts as full. Else prove '..UptoSaid'. A law counts once. -/
mutual
def uptoBulk {H : Type} : DataW H → Nat
  | .lit (.string bytes) => bytes.length + 1
  | .lit _ => 1
  | .nil => 1
  | .ptr d => uptoBulk d + 1
  | .slice elems spare => uptoBulkAll elems + uptoBulkAll spare + 1
  | .agg parts => uptoBulkAll parts + 1
  | .iface _ d => uptoBulk d + 1
  | .map entries => uptoBulkEntries entries + 1
  | .held _ => 1
def uptoBulkAll {H : Type} : List (DataW H) → Nat
  | [] => 0
  | d :: r => uptoBulk d + uptoBulkAll r
def uptoBulkEntries {H : Type} : List (Lit × DataW H) → Nat
  | [] => 0
  | x :: r => uptoBulkEntry x + uptoBulkEntries r
def uptoBulkEntry {H : Type} : Lit × DataW H → Nat
  | (.string bytes, d) => bytes.length + uptoBulk d + 1
  | (_, d) => uptoBulk d + 1
 end
def uptoSmall : (H : Type) → List (DataW H) → Bool := fun _ ds => decide (uptoBulkAll ds ≤ 1048576)
def OpenSpec.upto (s : _root_.Go.ChangeSpec) : _root_.Go.OpenSpec := { _root_.Go.OpenSpec.ofChange s with cond := some uptoSmall }

/-- 'tidewaylaw25.JudgeLogs', WHERE WHAT IT READS IS OF BULK AT MOST 1048576: true; the input reads as it did. -/
def judgeLogsUptoRow : OpenClaim := { program := "ytflmfbcapccdeaa", sum := "1c481801500341243f87bfad355db36e30a24cad92443017ca89410cdabca58a", func := "tideway/tidewaylaw25.JudgeLogs", spec := "judgeLogs", inPlace := ["internal/reflectlite.TypeOf"], unfollowed := true, recurses := true, named := ["math/bits.divideError", "math/bits.overflowError"], apart := false, narrowed := true }
def JudgeLogsUptoSaid : Prop := judgeLogsUptoRow.holds Try.pinned (OpenSpec.upto judgeLogsSpec)

/-- 'tidewaylaw25.JudgePaces', WHERE WHAT IT READS IS OF BULK AT MOST 1048576: true; the input reads as it did. -/
def judgePacesUptoRow : OpenClaim := { program := "ytflmfbcapccdeaa", sum := "1c481801500341243f87bfad355db36e30a24cad92443017ca89410cdabca58a", func := "tideway/tidewaylaw25.JudgePaces", spec := "judgePaces", inPlace := ["internal/reflectlite.TypeOf"], unfollowed := true, recurses := true, named := ["math/bits.divideError", "math/bits.overflowError"], apart := false, narrowed := true }
def JudgePacesUptoSaid : Prop := judgePacesUptoRow.holds Try.pinned (OpenSpec.upto judgePacesSpec)

/-- 'tidewaylaw25.JudgeBytes', WHERE WHAT IT READS IS OF BULK AT MOST 1048576: true; the input reads as it did. -/
def judgeBytesUptoRow : OpenClaim := { program := "ytflmfbcapccdeaa", sum := "1c481801500341243f87bfad355db36e30a24cad92443017ca89410cdabca58a", func := "tideway/tidewaylaw25.JudgeBytes", spec := "judgeBytes", inPlace := ["internal/reflectlite.TypeOf"], unfollowed := true, recurses := true, named := ["math/bits.divideError", "math/bits.overflowError"], apart := false, narrowed := true }
def JudgeBytesUptoSaid : Prop := judgeBytesUptoRow.holds Try.pinned (OpenSpec.upto judgeBytesSpec)

/-- 'tidewaylaw25.JudgeFaster', WHERE WHAT IT READS IS OF BULK AT MOST 1048576: true; the input reads as it did. -/
def judgeFasterUptoRow : OpenClaim := { program := "ytflmfbcapccdeaa", sum := "1c481801500341243f87bfad355db36e30a24cad92443017ca89410cdabca58a", func := "tideway/tidewaylaw25.JudgeFaster", spec := "judgeFaster", inPlace := ["internal/reflectlite.TypeOf"], unfollowed := true, recurses := true, named := ["math/bits.divideError", "math/bits.overflowError"], apart := false, narrowed := true }
def JudgeFasterUptoSaid : Prop := judgeFasterUptoRow.holds Try.pinned (OpenSpec.upto judgeFasterSpec)

/-- 'tidewaylaw25.JudgeCuts', WHERE WHAT IT READS IS OF BULK AT MOST 1048576: true; the input reads as it did. -/
def judgeCutsUptoRow : OpenClaim := { program := "ytflmfbcapccdeaa", sum := "1c481801500341243f87bfad355db36e30a24cad92443017ca89410cdabca58a", func := "tideway/tidewaylaw25.JudgeCuts", spec := "judgeCuts", inPlace := ["internal/reflectlite.TypeOf"], unfollowed := true, recurses := true, named := ["math/bits.divideError", "math/bits.overflowError"], apart := false, narrowed := true }
def JudgeCutsUptoSaid : Prop := judgeCutsUptoRow.holds Try.pinned (OpenSpec.upto judgeCutsSpec)

end Rows
end Go.Proofs.Ytflmfbcapccdeaa

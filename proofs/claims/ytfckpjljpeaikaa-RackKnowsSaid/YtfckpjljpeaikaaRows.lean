/-
  No cell of these rows narrows 'for every input' (looked for: loops, veiled, ifaces, maps, wideKeys, modest, calm, conditions, laid).
  DERIVED. THE GIVEN ROWS OF THIS SEAT. 5 by the template 'for every input the law returns true; each argument reads behind the call as it read before'; 0 by the template 'total and deterministic' (their statements: YtfckpjljpeaikaaTotals.lean).
  GIVEN WITH THE SEED: the statements are not yours to turn. If you find one false, say at which input.
  Laid BY PROGRAM, IN A SANDBOX (cutbox-rows.mjs): the forced cells as the released guide's own fill.sh prints them over the translation 95e5689914402d5b… (all of the seat's roots in one cut). By AI agents, Wed Nov 11 2026. No macro, syntax, notation, axiom, sorry.
-/
import Derived.Test.YtfckpjljpeaikaaChecked
import GoSem.Claim
import GoSem.ClaimJoined
import GoSem.ClaimMapViews
import Derived.JoinedTies
import Derived.KernelRfl
namespace Go.Proofs.Ytfckpjljpeaikaa
/- THE CELL 'sum', in the pinned program and in every row, IS THE sha256 OF THE DUMP (.gsa) THAT YtfckpjljpeaikaaProg.lean LOADS. Nothing in Lean hashes anything: it is a label: what it is worth is what the hold of that sum in a sandbox is worth. -/
noncomputable def Try.pinned : Pinned := { name := "ytfckpjljpeaikaa", sum := "95e5689914402d5b34ededb53cabe68375fa07d6ee942082e50ac97ae90ac66f", checked := Try.checked }
namespace Rows
def none {H : Type} : Left H := { results := [], args := [] }

/-- 'tidewaylaw13.RackKnows': WHATEVER THE INPUT: true; the input reads as it did. -/
def rackKnowsSpec : ChangeSpec := { name := "rackKnows", fn := fun _ => fun
  | [d1, d2, d3, d4] => { results := [.lit (.bool true)], args := [d1, d2, d3, d4] }
  | _ => none }
def rackKnowsRow : OpenClaim := { program := "ytfckpjljpeaikaa", sum := "95e5689914402d5b34ededb53cabe68375fa07d6ee942082e50ac97ae90ac66f", func := "tideway/tidewaylaw13.RackKnows", spec := "rackKnows", unfollowed := true, recurses := true, apart := false }
def RackKnowsSaid : Prop := rackKnowsRow.holds Try.pinned (OpenSpec.ofChange rackKnowsSpec)

/-- ITS FALSE NEIGHBOUR: 'it returns false'. Refute it at one input. -/
def rackKnowsWrong : ChangeSpec := { name := "rackKnows", fn := fun _ => fun
  | [d1, d2, d3, d4] => { results := [.lit (.bool false)], args := [d1, d2, d3, d4] }
  | _ => none }
def RackKnowsWrongFalsely : Prop := rackKnowsRow.holds Try.pinned (OpenSpec.ofChange rackKnowsWrong)

/-- 'tidewaylaw13.RackMarks': WHATEVER THE INPUT: true; the input reads as it did. -/
def rackMarksSpec : ChangeSpec := { name := "rackMarks", fn := fun _ => fun
  | [d1, d2, d3, d4] => { results := [.lit (.bool true)], args := [d1, d2, d3, d4] }
  | _ => none }
def rackMarksRow : OpenClaim := { program := "ytfckpjljpeaikaa", sum := "95e5689914402d5b34ededb53cabe68375fa07d6ee942082e50ac97ae90ac66f", func := "tideway/tidewaylaw13.RackMarks", spec := "rackMarks", unfollowed := true, recurses := true, apart := false }
def RackMarksSaid : Prop := rackMarksRow.holds Try.pinned (OpenSpec.ofChange rackMarksSpec)

/-- ITS FALSE NEIGHBOUR: 'it returns false'. Refute it at one input. -/
def rackMarksWrong : ChangeSpec := { name := "rackMarks", fn := fun _ => fun
  | [d1, d2, d3, d4] => { results := [.lit (.bool false)], args := [d1, d2, d3, d4] }
  | _ => none }
def RackMarksWrongFalsely : Prop := rackMarksRow.holds Try.pinned (OpenSpec.ofChange rackMarksWrong)

/-- 'tidewaylaw13.RackNever': WHATEVER THE INPUT: true; the input reads as it did. -/
def rackNeverSpec : ChangeSpec := { name := "rackNever", fn := fun _ => fun
  | [d1, d2, d3, d4] => { results := [.lit (.bool true)], args := [d1, d2, d3, d4] }
  | _ => none }
def rackNeverRow : OpenClaim := { program := "ytfckpjljpeaikaa", sum := "95e5689914402d5b34ededb53cabe68375fa07d6ee942082e50ac97ae90ac66f", func := "tideway/tidewaylaw13.RackNever", spec := "rackNever", unfollowed := true, recurses := true, apart := false }
def RackNeverSaid : Prop := rackNeverRow.holds Try.pinned (OpenSpec.ofChange rackNeverSpec)

/-- ITS FALSE NEIGHBOUR: 'it returns false'. Refute it at one input. -/
def rackNeverWrong : ChangeSpec := { name := "rackNever", fn := fun _ => fun
  | [d1, d2, d3, d4] => { results := [.lit (.bool false)], args := [d1, d2, d3, d4] }
  | _ => none }
def RackNeverWrongFalsely : Prop := rackNeverRow.holds Try.pinned (OpenSpec.ofChange rackNeverWrong)

/-- 'tidewaylaw13.RackLess': WHATEVER THE INPUT: true; the input reads as it did. -/
def rackLessSpec : ChangeSpec := { name := "rackLess", fn := fun _ => fun
  | [d1, d2, d3, d4, d5] => { results := [.lit (.bool true)], args := [d1, d2, d3, d4, d5] }
  | _ => none }
def rackLessRow : OpenClaim := { program := "ytfckpjljpeaikaa", sum := "95e5689914402d5b34ededb53cabe68375fa07d6ee942082e50ac97ae90ac66f", func := "tideway/tidewaylaw13.RackLess", spec := "rackLess", unfollowed := true, recurses := true, apart := false }
def RackLessSaid : Prop := rackLessRow.holds Try.pinned (OpenSpec.ofChange rackLessSpec)

/-- ITS FALSE NEIGHBOUR: 'it returns false'. Refute it at one input. -/
def rackLessWrong : ChangeSpec := { name := "rackLess", fn := fun _ => fun
  | [d1, d2, d3, d4, d5] => { results := [.lit (.bool false)], args := [d1, d2, d3, d4, d5] }
  | _ => none }
def RackLessWrongFalsely : Prop := rackLessRow.holds Try.pinned (OpenSpec.ofChange rackLessWrong)

/-- 'tidewaylaw13.RackOrder': WHATEVER THE INPUT: true; the input reads as it did. -/
def rackOrderSpec : ChangeSpec := { name := "rackOrder", fn := fun _ => fun
  | [d1, d2] => { results := [.lit (.bool true)], args := [d1, d2] }
  | _ => none }
def rackOrderRow : OpenClaim := { program := "ytfckpjljpeaikaa", sum := "95e5689914402d5b34ededb53cabe68375fa07d6ee942082e50ac97ae90ac66f", func := "tideway/tidewaylaw13.RackOrder", spec := "rackOrder", unfollowed := true, recurses := true, apart := false }
def RackOrderSaid : Prop := rackOrderRow.holds Try.pinned (OpenSpec.ofChange rackOrderSpec)

/-- ITS FALSE NEIGHBOUR: 'it returns false'. Refute it at one input. -/
def rackOrderWrong : ChangeSpec := { name := "rackOrder", fn := fun _ => fun
  | [d1, d2] => { results := [.lit (.bool false)], args := [d1, d2] }
  | _ => none }
def RackOrderWrongFalsely : Prop := rackOrderRow.holds Try.pinned (OpenSpec.ofChange rackOrderWrong)

/- THE SECOND FORM. 'bulk': how many values and letters a reading holds, each counted each time it is reached (what is shared counts as often as it is met; a slice's spare places count too). A statement '..UptoSaid' is the law's where the arguments, and the package variables that the reading takes, are together of bulk at most 1048576: NARROWER than '..Said'. Prove '..Said' where nothing that the law and all that it calls make is longer than what came in: it says more and counts as full. Else prove '..UptoSaid'. A law counts once. -/
mutual
def uptoBulk {H : Type} : DataW H → Nat
  | .lit (.string bytes) => bytes.length + 1
  | .lit _ => 1
  | .nil => 1
  | .ptr d => uptoBulk d + 1
  | .slice elems spare => uptoBulkAll elems + uptoBulkAll spare + 1
  | .agg parts => uptoBulkAll parts + 1
  | .iface _ d => uptoBulk d + 1
  | .map entries => uptoBulkEntries entries + 1
  | .held _ => 1
def uptoBulkAll {H : Type} : List (DataW H) → Nat
  | [] => 0
  | d :: r => uptoBulk d + uptoBulkAll r
def uptoBulkEntries {H : Type} : List (Lit × DataW H) → Nat
  | [] => 0
  | x :: r => uptoBulkEntry x + uptoBulkEntries r
def uptoBulkEntry {H : Type} : Lit × DataW H → Nat
  | (.string bytes, d) => bytes.length + uptoBulk d + 1
  | (_, d) => uptoBulk d + 1
 end
def uptoSmall : (H : Type) → List (DataW H) → Bool := fun _ ds => decide (uptoBulkAll ds ≤ 1048576)
def OpenSpec.upto (s : _root_.Go.ChangeSpec) : _root_.Go.OpenSpec := { _root_.Go.OpenSpec.ofChange s with cond := some uptoSmall }

/-- 'tidewaylaw13.RackKnows', WHERE WHAT IT READS IS OF BULK AT MOST 1048576: true; the input reads as it did. -/
def rackKnowsUptoRow : OpenClaim := { program := "ytfckpjljpeaikaa", sum := "95e5689914402d5b34ededb53cabe68375fa07d6ee942082e50ac97ae90ac66f", func := "tideway/tidewaylaw13.RackKnows", spec := "rackKnows", unfollowed := true, recurses := true, apart := false, narrowed := true }
def RackKnowsUptoSaid : Prop := rackKnowsUptoRow.holds Try.pinned (OpenSpec.upto rackKnowsSpec)

/-- 'tidewaylaw13.RackMarks', WHERE WHAT IT READS IS OF BULK AT MOST 1048576: true; the input reads as it did. -/
def rackMarksUptoRow : OpenClaim := { program := "ytfckpjljpeaikaa", sum := "95e5689914402d5b34ededb53cabe68375fa07d6ee942082e50ac97ae90ac66f", func := "tideway/tidewaylaw13.RackMarks", spec := "rackMarks", unfollowed := true, recurses := true, apart := false, narrowed := true }
def RackMarksUptoSaid : Prop := rackMarksUptoRow.holds Try.pinned (OpenSpec.upto rackMarksSpec)

/-- 'tidewaylaw13.RackNever', WHERE WHAT IT READS IS OF BULK AT MOST 1048576: true; the input reads as it did. -/
def rackNeverUptoRow : OpenClaim := { program := "ytfckpjljpeaikaa", sum := "95e5689914402d5b34ededb53cabe68375fa07d6ee942082e50ac97ae90ac66f", func := "tideway/tidewaylaw13.RackNever", spec := "rackNever", unfollowed := true, recurses := true, apart := false, narrowed := true }
def RackNeverUptoSaid : Prop := rackNeverUptoRow.holds Try.pinned (OpenSpec.upto rackNeverSpec)

/-- 'tidewaylaw13.RackLess', WHERE WHAT IT READS IS OF BULK AT MOST 1048576: true; the input reads as it did. -/
def rackLessUptoRow : OpenClaim := { program := "ytfckpjljpeaikaa", sum := "95e5689914402d5b34ededb53cabe68375fa07d6ee942082e50ac97ae90ac66f", func := "tideway/tidewaylaw13.RackLess", spec := "rackLess", unfollowed := true, recurses := true, apart := false, narrowed := true }
def RackLessUptoSaid : Prop := rackLessUptoRow.holds Try.pinned (OpenSpec.upto rackLessSpec)

/-- 'tidewaylaw13.RackOrder', WHERE WHAT IT READS IS OF BULK AT MOST 1048576: true; the input reads as it did. -/
def rackOrderUptoRow : OpenClaim := { program := "ytfckpjljpeaikaa", sum := "95e5689914402d5b34ededb53cabe68375fa07d6ee942082e50ac97ae90ac66f", func := "tideway/tidewaylaw13.RackOrder", spec := "rackOrder", unfollowed := true, recurses := true, apart := false, narrowed := true }
def RackOrderUptoSaid : Prop := rackOrderUptoRow.holds Try.pinned (OpenSpec.upto rackOrderSpec)

end Rows
end Go.Proofs.Ytfckpjljpeaikaa

/-
  No cell of these rows narrows 'for every input' (looked for: loops, veiled, ifaces, maps, wideKeys, modest, calm, conditions, laid).
  DERIVED. THE GIVEN ROWS OF THIS SEAT. 5 by the template 'for every input the law returns true; each argument reads behind the call as it read before'; 0 by the template 'total and deterministic' (their statements: YtlkkgikjghkcmaaTotals.lean).
  GIVEN WITH THE SEED: the statements are not yours to turn. If you find one false, say at which input.
  Laid BY PROGRAM, IN A SANDBOX (cutbox-rows.mjs): the forced cells as the released guide's own fill.sh prints them over the translation c8d697df60b8f981… (all of the seat's roots in one cut). By AI agents, Wed Nov 11 2026. No macro, syntax, notation, axiom, sorry.
-/
import Derived.Test.YtlkkgikjghkcmaaChecked
import GoSem.Claim
import GoSem.ClaimJoined
import GoSem.ClaimMapViews
import Derived.JoinedTies
import Derived.KernelRfl
namespace Go.Proofs.Ytlkkgikjghkcmaa
/- THE CELL 'sum', in the pinned program and in every row, IS THE sha256 OF THE DUMP (.gsa) THAT YtlkkgikjghkcmaaProg.lean LOADS. Nothing in Lean hashes anything: it is a label: what it is worth is what the hold of that sum in a sandbox is worth. -/
noncomputable def Try.pinned : Pinned := { name := "ytlkkgikjghkcmaa", sum := "c8d697df60b8f981372719872485c77388a90b9e5bfb0d0d5684bc8d707160f8", checked := Try.checked }
namespace Rows
def none {H : Type} : Left H := { results := [], args := [] }

/-- 'tidewaylaw04.TimerTwo': WHATEVER THE INPUT: true; the input reads as it did. -/
def timerTwoSpec : ChangeSpec := { name := "timerTwo", fn := fun _ => fun
  | [d1, d2, d3] => { results := [.lit (.bool true)], args := [d1, d2, d3] }
  | _ => none }
def timerTwoRow : OpenClaim := { program := "ytlkkgikjghkcmaa", sum := "c8d697df60b8f981372719872485c77388a90b9e5bfb0d0d5684bc8d707160f8", func := "tideway/tidewaylaw04.TimerTwo", spec := "timerTwo", unfollowed := true, recurses := true, apart := false }
def TimerTwoSaid : Prop := timerTwoRow.holds Try.pinned (OpenSpec.ofChange timerTwoSpec)

/-- ITS FALSE NEIGHBOUR: 'it returns false'. Refute it at one input. -/
def timerTwoWrong : ChangeSpec := { name := "timerTwo", fn := fun _ => fun
  | [d1, d2, d3] => { results := [.lit (.bool false)], args := [d1, d2, d3] }
  | _ => none }
def TimerTwoWrongFalsely : Prop := timerTwoRow.holds Try.pinned (OpenSpec.ofChange timerTwoWrong)

/-- 'tidewaylaw04.TimerSets': WHATEVER THE INPUT: true; the input reads as it did. -/
def timerSetsSpec : ChangeSpec := { name := "timerSets", fn := fun _ => fun
  | [d1, d2, d3] => { results := [.lit (.bool true)], args := [d1, d2, d3] }
  | _ => none }
def timerSetsRow : OpenClaim := { program := "ytlkkgikjghkcmaa", sum := "c8d697df60b8f981372719872485c77388a90b9e5bfb0d0d5684bc8d707160f8", func := "tideway/tidewaylaw04.TimerSets", spec := "timerSets", unfollowed := true, recurses := true, apart := false }
def TimerSetsSaid : Prop := timerSetsRow.holds Try.pinned (OpenSpec.ofChange timerSetsSpec)

/-- ITS FALSE NEIGHBOUR: 'it returns false'. Refute it at one input. -/
def timerSetsWrong : ChangeSpec := { name := "timerSets", fn := fun _ => fun
  | [d1, d2, d3] => { results := [.lit (.bool false)], args := [d1, d2, d3] }
  | _ => none }
def TimerSetsWrongFalsely : Prop := timerSetsRow.holds Try.pinned (OpenSpec.ofChange timerSetsWrong)

/-- 'tidewaylaw04.TimerOrder': WHATEVER THE INPUT: true; the input reads as it did. -/
def timerOrderSpec : ChangeSpec := { name := "timerOrder", fn := fun _ => fun
  | [d1, d2] => { results := [.lit (.bool true)], args := [d1, d2] }
  | _ => none }
def timerOrderRow : OpenClaim := { program := "ytlkkgikjghkcmaa", sum := "c8d697df60b8f981372719872485c77388a90b9e5bfb0d0d5684bc8d707160f8", func := "tideway/tidewaylaw04.TimerOrder", spec := "timerOrder", unfollowed := true, recurses := true, apart := false }
def TimerOrderSaid : Prop := timerOrderRow.holds Try.pinned (OpenSpec.ofChange timerOrderSpec)

/-- ITS FALSE NEIGHBOUR: 'it returns false'. Refute it at one input. -/
def timerOrderWrong : ChangeSpec := { name := "timerOrder", fn := fun _ => fun
  | [d1, d2] => { results := [.lit (.bool false)], args := [d1, d2] }
  | _ => none }
def TimerOrderWrongFalsely : Prop := timerOrderRow.holds Try.pinned (OpenSpec.ofChange timerOrderWrong)

/-- 'tidewaylaw04.TimerLater': WHATEVER THE INPUT: true; the input reads as it did. -/
def timerLaterSpec : ChangeSpec := { name := "timerLater", fn := fun _ => fun
  | [d1, d2, d3] => { results := [.lit (.bool true)], args := [d1, d2, d3] }
  | _ => none }
def timerLaterRow : OpenClaim := { program := "ytlkkgikjghkcmaa", sum := "c8d697df60b8f981372719872485c77388a90b9e5bfb0d0d5684bc8d707160f8", func := "tideway/tidewaylaw04.TimerLater", spec := "timerLater", unfollowed := true, recurses := true, apart := false }
def TimerLaterSaid : Prop := timerLaterRow.holds Try.pinned (OpenSpec.ofChange timerLaterSpec)

/-- ITS FALSE NEIGHBOUR: 'it returns false'. Refute it at one input. -/
def timerLaterWrong : ChangeSpec := { name := "timerLater", fn := fun _ => fun
  | [d1, d2, d3] => { results := [.lit (.bool false)], args := [d1, d2, d3] }
  | _ => none }
def TimerLaterWrongFalsely : Prop := timerLaterRow.holds Try.pinned (OpenSpec.ofChange timerLaterWrong)

/-- 'tidewaylaw04.TimerBack': WHATEVER THE INPUT: true; the input reads as it did. -/
def timerBackSpec : ChangeSpec := { name := "timerBack", fn := fun _ => fun
  | [d1, d2, d3] => { results := [.lit (.bool true)], args := [d1, d2, d3] }
  | _ => none }
def timerBackRow : OpenClaim := { program := "ytlkkgikjghkcmaa", sum := "c8d697df60b8f981372719872485c77388a90b9e5bfb0d0d5684bc8d707160f8", func := "tideway/tidewaylaw04.TimerBack", spec := "timerBack", unfollowed := true, recurses := true, apart := false }
def TimerBackSaid : Prop := timerBackRow.holds Try.pinned (OpenSpec.ofChange timerBackSpec)

/-- ITS FALSE NEIGHBOUR: 'it returns false'. Refute it at one input. -/
def timerBackWrong : ChangeSpec := { name := "timerBack", fn := fun _ => fun
  | [d1, d2, d3] => { results := [.lit (.bool false)], args := [d1, d2, d3] }
  | _ => none }
def TimerBackWrongFalsely : Prop := timerBackRow.holds Try.pinned (OpenSpec.ofChange timerBackWrong)

/- THE SECOND FORM. 'bulk': how many values and letters a reading holds, each counted each time it is reached (what is shared counts as often as it is met; a slice's spare places count too). A statement '..UptoSaid' is the law's where the arguments, and the package variables that the reading takes, are together of bulk at most 1048576: NARROWER than '..Said'. Prove '..Said' where nothing that the law and all that it calls make is longer than what came in: it says more and counts as full. Else prove '..UptoSaid'. A law counts once. -/
mutual
def uptoBulk {H : Type} : DataW H → Nat
  | .lit (.string bytes) => bytes.length + 1
  | .lit _ => 1
  | .nil => 1
  | .ptr d => uptoBulk d + 1
  | .slice elems spare => uptoBulkAll elems + uptoBulkAll spare + 1
  | .agg parts => uptoBulkAll parts + 1
  | .iface _ d => uptoBulk d + 1
  | .map entries => uptoBulkEntries entries + 1
  | .held _ => 1
def uptoBulkAll {H : Type} : List (DataW H) → Nat
  | [] => 0
  | d :: r => uptoBulk d + uptoBulkAll r
def uptoBulkEntries {H : Type} : List (Lit × DataW H) → Nat
  | [] => 0
  | x :: r => uptoBulkEntry x + uptoBulkEntries r
def uptoBulkEntry {H : Type} : Lit × DataW H → Nat
  | (.string bytes, d) => bytes.length + uptoBulk d + 1
  | (_, d) => uptoBulk d + 1
 end
def uptoSmall : (H : Type) → List (DataW H) → Bool := fun _ ds => decide (uptoBulkAll ds ≤ 1048576)
def OpenSpec.upto (s : _root_.Go.ChangeSpec) : _root_.Go.OpenSpec := { _root_.Go.OpenSpec.ofChange s with cond := some uptoSmall }

/-- 'tidewaylaw04.TimerTwo', WHERE WHAT IT READS IS OF BULK AT MOST 1048576: true; the input reads as it did. -/
def timerTwoUptoRow : OpenClaim := { program := "ytlkkgikjghkcmaa", sum := "c8d697df60b8f981372719872485c77388a90b9e5bfb0d0d5684bc8d707160f8", func := "tideway/tidewaylaw04.TimerTwo", spec := "timerTwo", unfollowed := true, recurses := true, apart := false, narrowed := true }
def TimerTwoUptoSaid : Prop := timerTwoUptoRow.holds Try.pinned (OpenSpec.upto timerTwoSpec)

/-- 'tidewaylaw04.TimerSets', WHERE WHAT IT READS IS OF BULK AT MOST 1048576: true; the input reads as it did. -/
def timerSetsUptoRow : OpenClaim := { program := "ytlkkgikjghkcmaa", sum := "c8d697df60b8f981372719872485c77388a90b9e5bfb0d0d5684bc8d707160f8", func := "tideway/tidewaylaw04.TimerSets", spec := "timerSets", unfollowed := true, recurses := true, apart := false, narrowed := true }
def TimerSetsUptoSaid : Prop := timerSetsUptoRow.holds Try.pinned (OpenSpec.upto timerSetsSpec)

/-- 'tidewaylaw04.TimerOrder', WHERE WHAT IT READS IS OF BULK AT MOST 1048576: true; the input reads as it did. -/
def timerOrderUptoRow : OpenClaim := { program := "ytlkkgikjghkcmaa", sum := "c8d697df60b8f981372719872485c77388a90b9e5bfb0d0d5684bc8d707160f8", func := "tideway/tidewaylaw04.TimerOrder", spec := "timerOrder", unfollowed := true, recurses := true, apart := false, narrowed := true }
def TimerOrderUptoSaid : Prop := timerOrderUptoRow.holds Try.pinned (OpenSpec.upto timerOrderSpec)

/-- 'tidewaylaw04.TimerLater', WHERE WHAT IT READS IS OF BULK AT MOST 1048576: true; the input reads as it did. -/
def timerLaterUptoRow : OpenClaim := { program := "ytlkkgikjghkcmaa", sum := "c8d697df60b8f981372719872485c77388a90b9e5bfb0d0d5684bc8d707160f8", func := "tideway/tidewaylaw04.TimerLater", spec := "timerLater", unfollowed := true, recurses := true, apart := false, narrowed := true }
def TimerLaterUptoSaid : Prop := timerLaterUptoRow.holds Try.pinned (OpenSpec.upto timerLaterSpec)

/-- 'tidewaylaw04.TimerBack', WHERE WHAT IT READS IS OF BULK AT MOST 1048576: true; the input reads as it did. -/
def timerBackUptoRow : OpenClaim := { program := "ytlkkgikjghkcmaa", sum := "c8d697df60b8f981372719872485c77388a90b9e5bfb0d0d5684bc8d707160f8", func := "tideway/tidewaylaw04.TimerBack", spec := "timerBack", unfollowed := true, recurses := true, apart := false, narrowed := true }
def TimerBackUptoSaid : Prop := timerBackUptoRow.holds Try.pinned (OpenSpec.upto timerBackSpec)

end Rows
end Go.Proofs.Ytlkkgikjghkcmaa

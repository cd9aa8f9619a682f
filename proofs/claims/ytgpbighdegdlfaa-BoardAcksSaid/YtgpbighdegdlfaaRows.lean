/-
  No cell of these rows narrows 'for every input' (looked for: loops, veiled, ifaces, maps, wideKeys, modest, calm, conditions, laid).
  DERIVED. THE GIVEN ROWS OF THIS SEAT. 5 by the template 'for every input the law returns true; each argument reads behind the call as it read before'; 0 by the template 'total and deterministic' (their statements: YtgpbighdegdlfaaTotals.lean).
  GIVEN WITH THE SEED: the statements are not yours to turn. If you find one false, say at which input.
  Laid BY PROGRAM, IN A SANDBOX (cutbox-rows.mjs): the forced cells as the released guide's own fill.sh prints them over the translation 5bb7164021aab17e… (all of the seat's roots in one cut). By AI agents, Wed Nov 11 2026. No macro, syntax, notation, axiom, sorry.
-/
import Derived.Test.YtgpbighdegdlfaaChecked
import GoSem.Claim
import GoSem.ClaimJoined
import GoSem.ClaimMapViews
import Derived.JoinedTies
import Derived.KernelRfl
namespace Go.Proofs.Ytgpbighdegdlfaa
/- THE CELL 'sum', in the pinned program and in every row, IS THE sha256 OF THE DUMP (.gsa) THAT YtgpbighdegdlfaaProg.lean LOADS. Nothing in Lean hashes anything: it is a label: what it is worth is what the hold of that sum in a sandbox is worth. -/
noncomputable def Try.pinned : Pinned := { name := "ytgpbighdegdlfaa", sum := "5bb7164021aab17e57486ec37b9a252f6d8a3511964885c93b492672a9f31594", checked := Try.checked }
namespace Rows
def none {H : Type} : Left H := { results := [], args := [] }

/-- 'tidewaylaw10.BoardAcks': WHATEVER THE INPUT: true; the input reads as it did. -/
def boardAcksSpec : ChangeSpec := { name := "boardAcks", fn := fun _ => fun
  | [d1, d2, d3] => { results := [.lit (.bool true)], args := [d1, d2, d3] }
  | _ => none }
def boardAcksRow : OpenClaim := { program := "ytgpbighdegdlfaa", sum := "5bb7164021aab17e57486ec37b9a252f6d8a3511964885c93b492672a9f31594", func := "tideway/tidewaylaw10.BoardAcks", spec := "boardAcks", unfollowed := true, recurses := true, apart := false }
def BoardAcksSaid : Prop := boardAcksRow.holds Try.pinned (OpenSpec.ofChange boardAcksSpec)

/-- ITS FALSE NEIGHBOUR: 'it returns false'. Refute it at one input. -/
def boardAcksWrong : ChangeSpec := { name := "boardAcks", fn := fun _ => fun
  | [d1, d2, d3] => { results := [.lit (.bool false)], args := [d1, d2, d3] }
  | _ => none }
def BoardAcksWrongFalsely : Prop := boardAcksRow.holds Try.pinned (OpenSpec.ofChange boardAcksWrong)

/-- 'tidewaylaw10.BoardWhole': WHATEVER THE INPUT: true; the input reads as it did. -/
def boardWholeSpec : ChangeSpec := { name := "boardWhole", fn := fun _ => fun
  | [d1, d2] => { results := [.lit (.bool true)], args := [d1, d2] }
  | _ => none }
def boardWholeRow : OpenClaim := { program := "ytgpbighdegdlfaa", sum := "5bb7164021aab17e57486ec37b9a252f6d8a3511964885c93b492672a9f31594", func := "tideway/tidewaylaw10.BoardWhole", spec := "boardWhole", unfollowed := true, recurses := true, apart := false }
def BoardWholeSaid : Prop := boardWholeRow.holds Try.pinned (OpenSpec.ofChange boardWholeSpec)

/-- ITS FALSE NEIGHBOUR: 'it returns false'. Refute it at one input. -/
def boardWholeWrong : ChangeSpec := { name := "boardWhole", fn := fun _ => fun
  | [d1, d2] => { results := [.lit (.bool false)], args := [d1, d2] }
  | _ => none }
def BoardWholeWrongFalsely : Prop := boardWholeRow.holds Try.pinned (OpenSpec.ofChange boardWholeWrong)

/-- 'tidewaylaw10.BoardSacks': WHATEVER THE INPUT: true; the input reads as it did. -/
def boardSacksSpec : ChangeSpec := { name := "boardSacks", fn := fun _ => fun
  | [d1, d2] => { results := [.lit (.bool true)], args := [d1, d2] }
  | _ => none }
def boardSacksRow : OpenClaim := { program := "ytgpbighdegdlfaa", sum := "5bb7164021aab17e57486ec37b9a252f6d8a3511964885c93b492672a9f31594", func := "tideway/tidewaylaw10.BoardSacks", spec := "boardSacks", unfollowed := true, recurses := true, apart := false }
def BoardSacksSaid : Prop := boardSacksRow.holds Try.pinned (OpenSpec.ofChange boardSacksSpec)

/-- ITS FALSE NEIGHBOUR: 'it returns false'. Refute it at one input. -/
def boardSacksWrong : ChangeSpec := { name := "boardSacks", fn := fun _ => fun
  | [d1, d2] => { results := [.lit (.bool false)], args := [d1, d2] }
  | _ => none }
def BoardSacksWrongFalsely : Prop := boardSacksRow.holds Try.pinned (OpenSpec.ofChange boardSacksWrong)

/-- 'tidewaylaw10.BoardAgain': WHATEVER THE INPUT: true; the input reads as it did. -/
def boardAgainSpec : ChangeSpec := { name := "boardAgain", fn := fun _ => fun
  | [d1, d2, d3] => { results := [.lit (.bool true)], args := [d1, d2, d3] }
  | _ => none }
def boardAgainRow : OpenClaim := { program := "ytgpbighdegdlfaa", sum := "5bb7164021aab17e57486ec37b9a252f6d8a3511964885c93b492672a9f31594", func := "tideway/tidewaylaw10.BoardAgain", spec := "boardAgain", unfollowed := true, recurses := true, apart := false }
def BoardAgainSaid : Prop := boardAgainRow.holds Try.pinned (OpenSpec.ofChange boardAgainSpec)

/-- ITS FALSE NEIGHBOUR: 'it returns false'. Refute it at one input. -/
def boardAgainWrong : ChangeSpec := { name := "boardAgain", fn := fun _ => fun
  | [d1, d2, d3] => { results := [.lit (.bool false)], args := [d1, d2, d3] }
  | _ => none }
def BoardAgainWrongFalsely : Prop := boardAgainRow.holds Try.pinned (OpenSpec.ofChange boardAgainWrong)

/-- 'tidewaylaw10.BoardMoves': WHATEVER THE INPUT: true; the input reads as it did. -/
def boardMovesSpec : ChangeSpec := { name := "boardMoves", fn := fun _ => fun
  | [d1, d2, d3, d4] => { results := [.lit (.bool true)], args := [d1, d2, d3, d4] }
  | _ => none }
def boardMovesRow : OpenClaim := { program := "ytgpbighdegdlfaa", sum := "5bb7164021aab17e57486ec37b9a252f6d8a3511964885c93b492672a9f31594", func := "tideway/tidewaylaw10.BoardMoves", spec := "boardMoves", unfollowed := true, recurses := true, apart := false }
def BoardMovesSaid : Prop := boardMovesRow.holds Try.pinned (OpenSpec.ofChange boardMovesSpec)

/-- ITS FALSE NEIGHBOUR: 'it returns false'. Refute it at one input. -/
def boardMovesWrong : ChangeSpec := { name := "boardMoves", fn := fun _ => fun
  | [d1, d2, d3, d4] => { results := [.lit (.bool false)], args := [d1, d2, d3, d4] }
  | _ => none }
def BoardMovesWrongFalsely : Prop := boardMovesRow.holds Try.pinned (OpenSpec.ofChange boardMovesWrong)

/- THE SECOND FORM. 'bulk': how many values and letters a reading holds, each counted each time it is reached (what is shared counts as often as it is met; a slice's spare places count too). A statement '..UptoSaid' is the law's where the arguments, and the package variables that the reading takes, are together of bulk at most 1048576: NARROWER than '..Said'. Prove '..Said' where nothing that the law and all that it calls make is longer than what came in: it says more and counts as full. Else prove '..UptoSaid'. A law counts once. -/
mutual
def uptoBulk {H : Type} : DataW H → Nat
  | .lit (.string bytes) => bytes.length + 1
  | .lit _ => 1
  | .nil => 1
  | .ptr d => uptoBulk d + 1
  | .slice elems spare => uptoBulkAll elems + uptoBulkAll spare + 1
  | .agg parts => uptoBulkAll parts + 1
  | .iface _ d => uptoBulk d + 1
  | .map entries => uptoBulkEntries entries + 1
  | .held _ => 1
def uptoBulkAll {H : Type} : List (DataW H) → Nat
  | [] => 0
  | d :: r => uptoBulk d + uptoBulkAll r
def uptoBulkEntries {H : Type} : List (Lit × DataW H) → Nat
  | [] => 0
  | x :: r => uptoBulkEntry x + uptoBulkEntries r
def uptoBulkEntry {H : Type} : Lit × DataW H → Nat
  | (.string bytes, d) => bytes.length + uptoBulk d + 1
  | (_, d) => uptoBulk d + 1
 end
def uptoSmall : (H : Type) → List (DataW H) → Bool := fun _ ds => decide (uptoBulkAll ds ≤ 1048576)
def OpenSpec.upto (s : _root_.Go.ChangeSpec) : _root_.Go.OpenSpec := { _root_.Go.OpenSpec.ofChange s with cond := some uptoSmall }

/-- 'tidewaylaw10.BoardAcks', WHERE WHAT IT READS IS OF BULK AT MOST 1048576: true; the input reads as it did. -/
def boardAcksUptoRow : OpenClaim := { program := "ytgpbighdegdlfaa", sum := "5bb7164021aab17e57486ec37b9a252f6d8a3511964885c93b492672a9f31594", func := "tideway/tidewaylaw10.BoardAcks", spec := "boardAcks", unfollowed := true, recurses := true, apart := false, narrowed := true }
def BoardAcksUptoSaid : Prop := boardAcksUptoRow.holds Try.pinned (OpenSpec.upto boardAcksSpec)

/-- 'tidewaylaw10.BoardWhole', WHERE WHAT IT READS IS OF BULK AT MOST 1048576: true; the input reads as it did. -/
def boardWholeUptoRow : OpenClaim := { program := "ytgpbighdegdlfaa", sum := "5bb7164021aab17e57486ec37b9a252f6d8a3511964885c93b492672a9f31594", func := "tideway/tidewaylaw10.BoardWhole", spec := "boardWhole", unfollowed := true, recurses := true, apart := false, narrowed := true }
def BoardWholeUptoSaid : Prop := boardWholeUptoRow.holds Try.pinned (OpenSpec.upto boardWholeSpec)

/-- 'tidewaylaw10.BoardSacks', WHERE WHAT IT READS IS OF BULK AT MOST 1048576: true; the input reads as it did. -/
def boardSacksUptoRow : OpenClaim := { program := "ytgpbighdegdlfaa", sum := "5bb7164021aab17e57486ec37b9a252f6d8a3511964885c93b492672a9f31594", func := "tideway/tidewaylaw10.BoardSacks", spec := "boardSacks", unfollowed := true, recurses := true, apart := false, narrowed := true }
def BoardSacksUptoSaid : Prop := boardSacksUptoRow.holds Try.pinned (OpenSpec.upto boardSacksSpec)

/-- 'tidewaylaw10.BoardAgain', WHERE WHAT IT READS IS OF BULK AT MOST 1048576: true; the input reads as it did. -/
def boardAgainUptoRow : OpenClaim := { program := "ytgpbighdegdlfaa", sum := "5bb7164021aab17e57486ec37b9a252f6d8a3511964885c93b492672a9f31594", func := "tideway/tidewaylaw10.BoardAgain", spec := "boardAgain", unfollowed := true, recurses := true, apart := false, narrowed := true }
def BoardAgainUptoSaid : Prop := boardAgainUptoRow.holds Try.pinned (OpenSpec.upto boardAgainSpec)

/-- 'tidewaylaw10.BoardMoves', WHERE WHAT IT READS IS OF BULK AT MOST 1048576: true; the input reads as it did. -/
def boardMovesUptoRow : OpenClaim := { program := "ytgpbighdegdlfaa", sum := "5bb7164021aab17e57486ec37b9a252f6d8a3511964885c93b492672a9f31594", func := "tideway/tidewaylaw10.BoardMoves", spec := "boardMoves", unfollowed := true, recurses := true, apart := false, narrowed := true }
def BoardMovesUptoSaid : Prop := boardMovesUptoRow.holds Try.pinned (OpenSpec.upto boardMovesSpec)

end Rows
end Go.Proofs.Ytgpbighdegdlfaa

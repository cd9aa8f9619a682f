/-
  No cell of these rows narrows 'for every input' (looked for: loops, veiled, ifaces, maps, wideKeys, modest, calm, conditions, laid).
  DERIVED. THE GIVEN ROWS OF THIS SEAT. 6 by the template 'for every input the law returns true; each argument reads behind the call as it read before'; 0 by the template 'total and deterministic' (their statements: YtpmiiokoialbmaaTotals.lean).
  GIVEN WITH THE SEED: the statements are not yours to turn. If you find one false, say at which input.
  Laid BY PROGRAM, IN A SANDBOX (cutbox-rows.mjs): the forced cells as the released guide's own fill.sh prints them over the translation ae42eba61447d8ac… (all of the seat's roots in one cut). By AI agents, Wed Nov 11 2026. No macro, syntax, notation, axiom, sorry.
-/
import Derived.Test.YtpmiiokoialbmaaChecked
import GoSem.Claim
import GoSem.ClaimJoined
import GoSem.ClaimMapViews
import Derived.JoinedTies
import Derived.KernelRfl
namespace Go.Proofs.Ytpmiiokoialbmaa
/- THE CELL 'sum', in the pinned program and in every row, IS THE sha256 OF THE DUMP (.gsa) THAT YtpmiiokoialbmaaProg.lean LOADS. Nothing in Lean hashes anything: it is a label: what it is worth is what the hold of that sum in a sandbox is worth. -/
noncomputable def Try.pinned : Pinned := { name := "ytpmiiokoialbmaa", sum := "ae42eba61447d8ac644e8aa28be72cb6ddd22a879210ff8366d6d5c781c9b6c0", checked := Try.checked }
namespace Rows
def none {H : Type} : Left H := { results := [], args := [] }

/-- 'tidewaylaw05.NetAges': WHATEVER THE INPUT: true; the input reads as it did. -/
def netAgesSpec : ChangeSpec := { name := "netAges", fn := fun _ => fun
  | [d1, d2, d3] => { results := [.lit (.bool true)], args := [d1, d2, d3] }
  | _ => none }
def netAgesRow : OpenClaim := { program := "ytpmiiokoialbmaa", sum := "ae42eba61447d8ac644e8aa28be72cb6ddd22a879210ff8366d6d5c781c9b6c0", func := "tideway/tidewaylaw05.NetAges", spec := "netAges", apart := false }
def NetAgesSaid : Prop := netAgesRow.holds Try.pinned (OpenSpec.ofChange netAgesSpec)

/-- ITS FALSE NEIGHBOUR: 'it returns false'. Refute it at one input. -/
def netAgesWrong : ChangeSpec := { name := "netAges", fn := fun _ => fun
  | [d1, d2, d3] => { results := [.lit (.bool false)], args := [d1, d2, d3] }
  | _ => none }
def NetAgesWrongFalsely : Prop := netAgesRow.holds Try.pinned (OpenSpec.ofChange netAgesWrong)

/-- 'tidewaylaw05.NetOrder': WHATEVER THE INPUT: true; the input reads as it did. -/
def netOrderSpec : ChangeSpec := { name := "netOrder", fn := fun _ => fun
  | [d] => { results := [.lit (.bool true)], args := [d] }
  | _ => none }
def netOrderRow : OpenClaim := { program := "ytpmiiokoialbmaa", sum := "ae42eba61447d8ac644e8aa28be72cb6ddd22a879210ff8366d6d5c781c9b6c0", func := "tideway/tidewaylaw05.NetOrder", spec := "netOrder", apart := false }
def NetOrderSaid : Prop := netOrderRow.holds Try.pinned (OpenSpec.ofChange netOrderSpec)

/-- ITS FALSE NEIGHBOUR: 'it returns false'. Refute it at one input. -/
def netOrderWrong : ChangeSpec := { name := "netOrder", fn := fun _ => fun
  | [d] => { results := [.lit (.bool false)], args := [d] }
  | _ => none }
def NetOrderWrongFalsely : Prop := netOrderRow.holds Try.pinned (OpenSpec.ofChange netOrderWrong)

/-- 'tidewaylaw05.NetDoes': WHATEVER THE INPUT: true; the input reads as it did. -/
def netDoesSpec : ChangeSpec := { name := "netDoes", fn := fun _ => fun
  | [d1, d2, d3, d4] => { results := [.lit (.bool true)], args := [d1, d2, d3, d4] }
  | _ => none }
def netDoesRow : OpenClaim := { program := "ytpmiiokoialbmaa", sum := "ae42eba61447d8ac644e8aa28be72cb6ddd22a879210ff8366d6d5c781c9b6c0", func := "tideway/tidewaylaw05.NetDoes", spec := "netDoes", apart := false }
def NetDoesSaid : Prop := netDoesRow.holds Try.pinned (OpenSpec.ofChange netDoesSpec)

/-- ITS FALSE NEIGHBOUR: 'it returns false'. Refute it at one input. -/
def netDoesWrong : ChangeSpec := { name := "netDoes", fn := fun _ => fun
  | [d1, d2, d3, d4] => { results := [.lit (.bool false)], args := [d1, d2, d3, d4] }
  | _ => none }
def NetDoesWrongFalsely : Prop := netDoesRow.holds Try.pinned (OpenSpec.ofChange netDoesWrong)

/-- 'tidewaylaw05.NetTwice': WHATEVER THE INPUT: true; the input reads as it did. -/
def netTwiceSpec : ChangeSpec := { name := "netTwice", fn := fun _ => fun
  | [d1, d2, d3] => { results := [.lit (.bool true)], args := [d1, d2, d3] }
  | _ => none }
def netTwiceRow : OpenClaim := { program := "ytpmiiokoialbmaa", sum := "ae42eba61447d8ac644e8aa28be72cb6ddd22a879210ff8366d6d5c781c9b6c0", func := "tideway/tidewaylaw05.NetTwice", spec := "netTwice", apart := false }
def NetTwiceSaid : Prop := netTwiceRow.holds Try.pinned (OpenSpec.ofChange netTwiceSpec)

/-- ITS FALSE NEIGHBOUR: 'it returns false'. Refute it at one input. -/
def netTwiceWrong : ChangeSpec := { name := "netTwice", fn := fun _ => fun
  | [d1, d2, d3] => { results := [.lit (.bool false)], args := [d1, d2, d3] }
  | _ => none }
def NetTwiceWrongFalsely : Prop := netTwiceRow.holds Try.pinned (OpenSpec.ofChange netTwiceWrong)

/-- 'tidewaylaw05.NetCounts': WHATEVER THE INPUT: true; the input reads as it did. -/
def netCountsSpec : ChangeSpec := { name := "netCounts", fn := fun _ => fun
  | [d1, d2, d3] => { results := [.lit (.bool true)], args := [d1, d2, d3] }
  | _ => none }
def netCountsRow : OpenClaim := { program := "ytpmiiokoialbmaa", sum := "ae42eba61447d8ac644e8aa28be72cb6ddd22a879210ff8366d6d5c781c9b6c0", func := "tideway/tidewaylaw05.NetCounts", spec := "netCounts", apart := false }
def NetCountsSaid : Prop := netCountsRow.holds Try.pinned (OpenSpec.ofChange netCountsSpec)

/-- ITS FALSE NEIGHBOUR: 'it returns false'. Refute it at one input. -/
def netCountsWrong : ChangeSpec := { name := "netCounts", fn := fun _ => fun
  | [d1, d2, d3] => { results := [.lit (.bool false)], args := [d1, d2, d3] }
  | _ => none }
def NetCountsWrongFalsely : Prop := netCountsRow.holds Try.pinned (OpenSpec.ofChange netCountsWrong)

/-- 'tidewaylaw05.NetAdds': WHATEVER THE INPUT: true; the input reads as it did. -/
def netAddsSpec : ChangeSpec := { name := "netAdds", fn := fun _ => fun
  | [d1, d2, d3] => { results := [.lit (.bool true)], args := [d1, d2, d3] }
  | _ => none }
def netAddsRow : OpenClaim := { program := "ytpmiiokoialbmaa", sum := "ae42eba61447d8ac644e8aa28be72cb6ddd22a879210ff8366d6d5c781c9b6c0", func := "tideway/tidewaylaw05.NetAdds", spec := "netAdds", apart := false }
def NetAddsSaid : Prop := netAddsRow.holds Try.pinned (OpenSpec.ofChange netAddsSpec)

/-- ITS FALSE NEIGHBOUR: 'it returns false'. Refute it at one input. -/
def netAddsWrong : ChangeSpec := { name := "netAdds", fn := fun _ => fun
  | [d1, d2, d3] => { results := [.lit (.bool false)], args := [d1, d2, d3] }
  | _ => none }
def NetAddsWrongFalsely : Prop := netAddsRow.holds Try.pinned (OpenSpec.ofChange netAddsWrong)

/- THE SECOND FORM. 'bulk': how many values and letters a reading holds, each counted each time it is reached (what is shared counts as often as it is met; a slice's spare places count too). A statement '..UptoSaid' is the law's where the arguments, and the package variables that the reading takes, are together of bulk at most 1048576: NARROWER than '..Said'. Prove '..Said' where nothing that the law and all that it calls make is longer than what came in: it says more and counts as full. Else prove '..UptoSaid'. A law counts once. -/
mutual
def uptoBulk {H : Type} : DataW H → Nat
  | .lit (.string bytes) => bytes.length + 1
  | .lit _ => 1
  | .nil => 1
  | .ptr d => uptoBulk d + 1
  | .slice elems spare => uptoBulkAll elems + uptoBulkAll spare + 1
  | .agg parts => uptoBulkAll parts + 1
  | .iface _ d => uptoBulk d + 1
  | .map entries => uptoBulkEntries entries + 1
  | .held _ => 1
def uptoBulkAll {H : Type} : List (DataW H) → Nat
  | [] => 0
  | d :: r => uptoBulk d + uptoBulkAll r
def uptoBulkEntries {H : Type} : List (Lit × DataW H) → Nat
  | [] => 0
  | x :: r => uptoBulkEntry x + uptoBulkEntries r
def uptoBulkEntry {H : Type} : Lit × DataW H → Nat
  | (.string bytes, d) => bytes.length + uptoBulk d + 1
  | (_, d) => uptoBulk d + 1
 end
def uptoSmall : (H : Type) → List (DataW H) → Bool := fun _ ds => decide (uptoBulkAll ds ≤ 1048576)
def OpenSpec.upto (s : _root_.Go.ChangeSpec) : _root_.Go.OpenSpec := { _root_.Go.OpenSpec.ofChange s with cond := some uptoSmall }

/-- 'tidewaylaw05.NetAges', WHERE WHAT IT READS IS OF BULK AT MOST 1048576: true; the input reads as it did. -/
def netAgesUptoRow : OpenClaim := { program := "ytpmiiokoialbmaa", sum := "ae42eba61447d8ac644e8aa28be72cb6ddd22a879210ff8366d6d5c781c9b6c0", func := "tideway/tidewaylaw05.NetAges", spec := "netAges", apart := false, narrowed := true }
def NetAgesUptoSaid : Prop := netAgesUptoRow.holds Try.pinned (OpenSpec.upto netAgesSpec)

/-- 'tidewaylaw05.NetOrder', WHERE WHAT IT READS IS OF BULK AT MOST 1048576: true; the input reads as it did. -/
def netOrderUptoRow : OpenClaim := { program := "ytpmiiokoialbmaa", sum := "ae42eba61447d8ac644e8aa28be72cb6ddd22a879210ff8366d6d5c781c9b6c0", func := "tideway/tidewaylaw05.NetOrder", spec := "netOrder", apart := false, narrowed := true }
def NetOrderUptoSaid : Prop := netOrderUptoRow.holds Try.pinned (OpenSpec.upto netOrderSpec)

/-- 'tidewaylaw05.NetDoes', WHERE WHAT IT READS IS OF BULK AT MOST 1048576: true; the input reads as it did. -/
def netDoesUptoRow : OpenClaim := { program := "ytpmiiokoialbmaa", sum := "ae42eba61447d8ac644e8aa28be72cb6ddd22a879210ff8366d6d5c781c9b6c0", func := "tideway/tidewaylaw05.NetDoes", spec := "netDoes", apart := false, narrowed := true }
def NetDoesUptoSaid : Prop := netDoesUptoRow.holds Try.pinned (OpenSpec.upto netDoesSpec)

/-- 'tidewaylaw05.NetTwice', WHERE WHAT IT READS IS OF BULK AT MOST 1048576: true; the input reads as it did. -/
def netTwiceUptoRow : OpenClaim := { program := "ytpmiiokoialbmaa", sum := "ae42eba61447d8ac644e8aa28be72cb6ddd22a879210ff8366d6d5c781c9b6c0", func := "tideway/tidewaylaw05.NetTwice", spec := "netTwice", apart := false, narrowed := true }
def NetTwiceUptoSaid : Prop := netTwiceUptoRow.holds Try.pinned (OpenSpec.upto netTwiceSpec)

/-- 'tidewaylaw05.NetCounts', WHERE WHAT IT READS IS OF BULK AT MOST 1048576: true; the input reads as it did. -/
def netCountsUptoRow : OpenClaim := { program := "ytpmiiokoialbmaa", sum := "ae42eba61447d8ac644e8aa28be72cb6ddd22a879210ff8366d6d5c781c9b6c0", func := "tideway/tidewaylaw05.NetCounts", spec := "netCounts", apart := false, narrowed := true }
def NetCountsUptoSaid : Prop := netCountsUptoRow.holds Try.pinned (OpenSpec.upto netCountsSpec)

/-- 'tidewaylaw05.NetAdds', WHERE WHAT IT READS IS OF BULK AT MOST 1048576: true; the input reads as it did. -/
def netAddsUptoRow : OpenClaim := { program := "ytpmiiokoialbmaa", sum := "ae42eba61447d8ac644e8aa28be72cb6ddd22a879210ff8366d6d5c781c9b6c0", func := "tideway/tidewaylaw05.NetAdds", spec := "netAdds", apart := false, narrowed := true }
def NetAddsUptoSaid : Prop := netAddsUptoRow.holds Try.pinned (OpenSpec.upto netAddsSpec)

end Rows
end Go.Proofs.Ytpmiiokoialbmaa

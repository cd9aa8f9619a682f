/-
  No cell of these rows narrows 'for every input' (looked for: loops, veiled, ifaces, maps, wideKeys, modest, calm, conditions, laid).
  DERIVED. THE GIVEN ROWS OF THIS SEAT. 4 by the template 'for every input the law returns true; each argument reads behind the call as it read before'; 0 by the template 'total and deterministic' (their statements: YtgjaajkbepabnaaTotals.lean).
  GIVEN WITH THE SEED: the statements are not yours to turn. If you find one false, say at which input.
  Laid BY PROGRAM, IN A SANDBOX (cutbox-rows.mjs): the forced cells as the released guide's own fill.sh prints them over the translation bf6cbd661ffcc383… (all of the seat's roots in one cut). By AI agents, Wed Nov 11 2026. No macro, syntax, notation, axiom, sorry.
-/
import Derived.Test.YtgjaajkbepabnaaChecked
import GoSem.Claim
import GoSem.ClaimJoined
import GoSem.ClaimMapViews
import Derived.JoinedTies
import Derived.KernelRfl
namespace Go.Proofs.Ytgjaajkbepabnaa
/- THE CELL 'sum', in the pinned program and in every row, IS THE sha256 OF THE DUMP (.gsa) THAT YtgjaajkbepabnaaProg.lean LOADS. Nothing in Lean hashes anything: it is a label: what it is worth is what the hold of that sum in a sandbox is worth. -/
noncomputable def Try.pinned : Pinned := { name := "ytgjaajkbepabnaa", sum := "bf6cbd661ffcc3838188c69187611ad86363666d7fc5a42acd32bc151734e9a4", checked := Try.checked }
namespace Rows
def none {H : Type} : Left H := { results := [], args := [] }

/-- 'tidewaylaw14.PrrRises': WHATEVER THE INPUT: true; the input reads as it did. -/
def prrRisesSpec : ChangeSpec := { name := "prrRises", fn := fun _ => fun
  | [d1, d2, d3, d4, d5] => { results := [.lit (.bool true)], args := [d1, d2, d3, d4, d5] }
  | _ => none }
def prrRisesRow : OpenClaim := { program := "ytgjaajkbepabnaa", sum := "bf6cbd661ffcc3838188c69187611ad86363666d7fc5a42acd32bc151734e9a4", func := "tideway/tidewaylaw14.PrrRises", spec := "prrRises", inPlace := ["math/bits.Add64"], named := ["math/bits.divideError", "math/bits.overflowError"], apart := false }
def PrrRisesSaid : Prop := prrRisesRow.holds Try.pinned (OpenSpec.ofChange prrRisesSpec)

/-- ITS FALSE NEIGHBOUR: 'it returns false'. Refute it at one input. -/
def prrRisesWrong : ChangeSpec := { name := "prrRises", fn := fun _ => fun
  | [d1, d2, d3, d4, d5] => { results := [.lit (.bool false)], args := [d1, d2, d3, d4, d5] }
  | _ => none }
def PrrRisesWrongFalsely : Prop := prrRisesRow.holds Try.pinned (OpenSpec.ofChange prrRisesWrong)

/-- 'tidewaylaw14.PrrBegins': WHATEVER THE INPUT: true; the input reads as it did. -/
def prrBeginsSpec : ChangeSpec := { name := "prrBegins", fn := fun _ => fun
  | [d1, d2, d3, d4] => { results := [.lit (.bool true)], args := [d1, d2, d3, d4] }
  | _ => none }
def prrBeginsRow : OpenClaim := { program := "ytgjaajkbepabnaa", sum := "bf6cbd661ffcc3838188c69187611ad86363666d7fc5a42acd32bc151734e9a4", func := "tideway/tidewaylaw14.PrrBegins", spec := "prrBegins", inPlace := ["math/bits.Add64"], named := ["math/bits.divideError", "math/bits.overflowError"], apart := false }
def PrrBeginsSaid : Prop := prrBeginsRow.holds Try.pinned (OpenSpec.ofChange prrBeginsSpec)

/-- ITS FALSE NEIGHBOUR: 'it returns false'. Refute it at one input. -/
def prrBeginsWrong : ChangeSpec := { name := "prrBegins", fn := fun _ => fun
  | [d1, d2, d3, d4] => { results := [.lit (.bool false)], args := [d1, d2, d3, d4] }
  | _ => none }
def PrrBeginsWrongFalsely : Prop := prrBeginsRow.holds Try.pinned (OpenSpec.ofChange prrBeginsWrong)

/-- 'tidewaylaw14.PrrShares': WHATEVER THE INPUT: true; the input reads as it did. -/
def prrSharesSpec : ChangeSpec := { name := "prrShares", fn := fun _ => fun
  | [d1, d2, d3, d4] => { results := [.lit (.bool true)], args := [d1, d2, d3, d4] }
  | _ => none }
def prrSharesRow : OpenClaim := { program := "ytgjaajkbepabnaa", sum := "bf6cbd661ffcc3838188c69187611ad86363666d7fc5a42acd32bc151734e9a4", func := "tideway/tidewaylaw14.PrrShares", spec := "prrShares", inPlace := ["math/bits.Add64"], named := ["math/bits.divideError", "math/bits.overflowError"], apart := false }
def PrrSharesSaid : Prop := prrSharesRow.holds Try.pinned (OpenSpec.ofChange prrSharesSpec)

/-- ITS FALSE NEIGHBOUR: 'it returns false'. Refute it at one input. -/
def prrSharesWrong : ChangeSpec := { name := "prrShares", fn := fun _ => fun
  | [d1, d2, d3, d4] => { results := [.lit (.bool false)], args := [d1, d2, d3, d4] }
  | _ => none }
def PrrSharesWrongFalsely : Prop := prrSharesRow.holds Try.pinned (OpenSpec.ofChange prrSharesWrong)

/-- 'tidewaylaw14.PrrFills': WHATEVER THE INPUT: true; the input reads as it did. -/
def prrFillsSpec : ChangeSpec := { name := "prrFills", fn := fun _ => fun
  | [d1, d2, d3, d4, d5] => { results := [.lit (.bool true)], args := [d1, d2, d3, d4, d5] }
  | _ => none }
def prrFillsRow : OpenClaim := { program := "ytgjaajkbepabnaa", sum := "bf6cbd661ffcc3838188c69187611ad86363666d7fc5a42acd32bc151734e9a4", func := "tideway/tidewaylaw14.PrrFills", spec := "prrFills", inPlace := ["math/bits.Add64"], named := ["math/bits.divideError", "math/bits.overflowError"], apart := false }
def PrrFillsSaid : Prop := prrFillsRow.holds Try.pinned (OpenSpec.ofChange prrFillsSpec)

/-- ITS FALSE NEIGHBOUR: 'it returns false'. Refute it at one input. -/
def prrFillsWrong : ChangeSpec := { name := "prrFills", fn := fun _ => fun
  | [d1, d2, d3, d4, d5] => { results := [.lit (.bool false)], args := [d1, d2, d3, d4, d5] }
  | _ => none }
def PrrFillsWrongFalsely : Prop := prrFillsRow.holds Try.pinned (OpenSpec.ofChange prrFillsWrong)

/- THE SECOND FORM. 'bulk': how many values and letters a reading holds, each counted each time it is reached (what is shared counts as often as it is met; a slice's spare places count too). A statement '..UptoSaid' is the law's where the arguments, and the package variables that the reading takes, are together of bulk at most 1048576: NARROWER than '..Said'. Prove '..Said' where nothing that the law and all that it calls make is longer than what came in: it says more and counts as full. Else prove '..UptoSaid'. A law counts once. -/
mutual
def uptoBulk {H : Type} : DataW H → Nat
  | .lit (.string bytes) => bytes.length + 1
  | .lit _ => 1
  | .nil => 1
  | .ptr d => uptoBulk d + 1
  | .slice elems spare => uptoBulkAll elems + uptoBulkAll spare + 1
  | .agg parts => uptoBulkAll parts + 1
  | .iface _ d => uptoBulk d + 1
  | .map entries => uptoBulkEntries entries + 1
  | .held _ => 1
def uptoBulkAll {H : Type} : List (DataW H) → Nat
  | [] => 0
  | d :: r => uptoBulk d + uptoBulkAll r
def uptoBulkEntries {H : Type} : List (Lit × DataW H) → Nat
  | [] => 0
  | x :: r => uptoBulkEntry x + uptoBulkEntries r
def uptoBulkEntry {H : Type} : Lit × DataW H → Nat
  | (.string bytes, d) => bytes.length + uptoBulk d + 1
  | (_, d) => uptoBulk d + 1
 end
def uptoSmall : (H : Type) → List (DataW H) → Bool := fun _ ds => decide (uptoBulkAll ds ≤ 1048576)
def OpenSpec.upto (s : _root_.Go.ChangeSpec) : _root_.Go.OpenSpec := { _root_.Go.OpenSpec.ofChange s with cond := some uptoSmall }

/-- 'tidewaylaw14.PrrRises', WHERE WHAT IT READS IS OF BULK AT MOST 1048576: true; the input reads as it did. -/
def prrRisesUptoRow : OpenClaim := { program := "ytgjaajkbepabnaa", sum := "bf6cbd661ffcc3838188c69187611ad86363666d7fc5a42acd32bc151734e9a4", func := "tideway/tidewaylaw14.PrrRises", spec := "prrRises", inPlace := ["math/bits.Add64"], named := ["math/bits.divideError", "math/bits.overflowError"], apart := false, narrowed := true }
def PrrRisesUptoSaid : Prop := prrRisesUptoRow.holds Try.pinned (OpenSpec.upto prrRisesSpec)

/-- 'tidewaylaw14.PrrBegins', WHERE WHAT IT READS IS OF BULK AT MOST 1048576: true; the input reads as it did. -/
def prrBeginsUptoRow : OpenClaim := { program := "ytgjaajkbepabnaa", sum := "bf6cbd661ffcc3838188c69187611ad86363666d7fc5a42acd32bc151734e9a4", func := "tideway/tidewaylaw14.PrrBegins", spec := "prrBegins", inPlace := ["math/bits.Add64"], named := ["math/bits.divideError", "math/bits.overflowError"], apart := false, narrowed := true }
def PrrBeginsUptoSaid : Prop := prrBeginsUptoRow.holds Try.pinned (OpenSpec.upto prrBeginsSpec)

/-- 'tidewaylaw14.PrrShares', WHERE WHAT IT READS IS OF BULK AT MOST 1048576: true; the input reads as it did. -/
def prrSharesUptoRow : OpenClaim := { program := "ytgjaajkbepabnaa", sum := "bf6cbd661ffcc3838188c69187611ad86363666d7fc5a42acd32bc151734e9a4", func := "tideway/tidewaylaw14.PrrShares", spec := "prrShares", inPlace := ["math/bits.Add64"], named := ["math/bits.divideError", "math/bits.overflowError"], apart := false, narrowed := true }
def PrrSharesUptoSaid : Prop := prrSharesUptoRow.holds Try.pinned (OpenSpec.upto prrSharesSpec)

/-- 'tidewaylaw14.PrrFills', WHERE WHAT IT READS IS OF BULK AT MOST 1048576: true; the input reads as it did. -/
def prrFillsUptoRow : OpenClaim := { program := "ytgjaajkbepabnaa", sum := "bf6cbd661ffcc3838188c69187611ad86363666d7fc5a42acd32bc151734e9a4", func := "tideway/tidewaylaw14.PrrFills", spec := "prrFills", inPlace := ["math/bits.Add64"], named := ["math/bits.divideError", "math/bits.overflowError"], apart := false, narrowed := true }
def PrrFillsUptoSaid : Prop := prrFillsUptoRow.holds Try.pinned (OpenSpec.upto prrFillsSpec)

end Rows
end Go.Proofs.Ytgjaajkbepabnaa

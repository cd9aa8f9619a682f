/-
  No cell of these rows narrows 'for every input' (looked for: loops, veiled, ifaces, maps, wideKeys, modest, calm, conditions, laid).
  DERIVED. THE GIVEN ROWS OF THIS SEAT. 4 by the template 'for every input the law returns true; each argument reads behind the call as it read before'; 0 by the template 'total and deterministic' (their statements: YtbdomghfgaceaaaTotals.lean).
  GIVEN WITH THE SEED: the statements are not yours to turn. If you find one false, say at which input.
  Laid BY PROGRAM, IN A SANDBOX (cutbox-rows.mjs): the forced cells as the released guide's own fill.sh prints them over the translation 43bc54eac3cc7e07… (all of the seat's roots in one cut). By AI agents, Wed Nov 11 2026. No macro, syntax, notation, axiom, sorry.
-/
import Derived.Test.YtbdomghfgaceaaaChecked
import GoSem.Claim
import GoSem.ClaimJoined
import GoSem.ClaimMapViews
import Derived.JoinedTies
import Derived.KernelRfl
namespace Go.Proofs.Ytbdomghfgaceaaa
/- THE CELL 'sum', in the pinned program and in every row, IS THE sha256 OF THE DUMP (.gsa) THAT YtbdomghfgaceaaaProg.lean LOADS. Nothing in Lean hashes anything: it is a label: what it is worth is what the hold of that sum in a sandbox is worth. -/
noncomputable def Try.pinned : Pinned := { name := "ytbdomghfgaceaaa", sum := "43bc54eac3cc7e0721202474c7d8cbd6f05da1a812a38dda81c4f6c805b7740f", checked := Try.checked }
namespace Rows
def none {H : Type} : Left H := { results := [], args := [] }

/-- 'tidewaylaw17.RateLow': WHATEVER THE INPUT: true; the input reads as it did. -/
def rateLowSpec : ChangeSpec := { name := "rateLow", fn := fun _ => fun
  | [d1, d2, d3, d4] => { results := [.lit (.bool true)], args := [d1, d2, d3, d4] }
  | _ => none }
def rateLowRow : OpenClaim := { program := "ytbdomghfgaceaaa", sum := "43bc54eac3cc7e0721202474c7d8cbd6f05da1a812a38dda81c4f6c805b7740f", func := "tideway/tidewaylaw17.RateLow", spec := "rateLow", unfollowed := true, recurses := true, named := ["math/bits.divideError", "math/bits.overflowError"], apart := false }
def RateLowSaid : Prop := rateLowRow.holds Try.pinned (OpenSpec.ofChange rateLowSpec)

/-- ITS FALSE NEIGHBOUR: 'it returns false'. Refute it at one input. -/
def rateLowWrong : ChangeSpec := { name := "rateLow", fn := fun _ => fun
  | [d1, d2, d3, d4] => { results := [.lit (.bool false)], args := [d1, d2, d3, d4] }
  | _ => none }
def RateLowWrongFalsely : Prop := rateLowRow.holds Try.pinned (OpenSpec.ofChange rateLowWrong)

/-- 'tidewaylaw17.RateIdle': WHATEVER THE INPUT: true; the input reads as it did. -/
def rateIdleSpec : ChangeSpec := { name := "rateIdle", fn := fun _ => fun
  | [d1, d2, d3, d4] => { results := [.lit (.bool true)], args := [d1, d2, d3, d4] }
  | _ => none }
def rateIdleRow : OpenClaim := { program := "ytbdomghfgaceaaa", sum := "43bc54eac3cc7e0721202474c7d8cbd6f05da1a812a38dda81c4f6c805b7740f", func := "tideway/tidewaylaw17.RateIdle", spec := "rateIdle", unfollowed := true, recurses := true, named := ["math/bits.divideError", "math/bits.overflowError"], apart := false }
def RateIdleSaid : Prop := rateIdleRow.holds Try.pinned (OpenSpec.ofChange rateIdleSpec)

/-- ITS FALSE NEIGHBOUR: 'it returns false'. Refute it at one input. -/
def rateIdleWrong : ChangeSpec := { name := "rateIdle", fn := fun _ => fun
  | [d1, d2, d3, d4] => { results := [.lit (.bool false)], args := [d1, d2, d3, d4] }
  | _ => none }
def RateIdleWrongFalsely : Prop := rateIdleRow.holds Try.pinned (OpenSpec.ofChange rateIdleWrong)

/-- 'tidewaylaw17.RateEven': WHATEVER THE INPUT: true; the input reads as it did. -/
def rateEvenSpec : ChangeSpec := { name := "rateEven", fn := fun _ => fun
  | [d1, d2, d3, d4] => { results := [.lit (.bool true)], args := [d1, d2, d3, d4] }
  | _ => none }
def rateEvenRow : OpenClaim := { program := "ytbdomghfgaceaaa", sum := "43bc54eac3cc7e0721202474c7d8cbd6f05da1a812a38dda81c4f6c805b7740f", func := "tideway/tidewaylaw17.RateEven", spec := "rateEven", unfollowed := true, recurses := true, named := ["math/bits.divideError", "math/bits.overflowError"], apart := false }
def RateEvenSaid : Prop := rateEvenRow.holds Try.pinned (OpenSpec.ofChange rateEvenSpec)

/-- ITS FALSE NEIGHBOUR: 'it returns false'. Refute it at one input. -/
def rateEvenWrong : ChangeSpec := { name := "rateEven", fn := fun _ => fun
  | [d1, d2, d3, d4] => { results := [.lit (.bool false)], args := [d1, d2, d3, d4] }
  | _ => none }
def RateEvenWrongFalsely : Prop := rateEvenRow.holds Try.pinned (OpenSpec.ofChange rateEvenWrong)

/-- 'tidewaylaw17.RateSums': WHATEVER THE INPUT: true; the input reads as it did. -/
def rateSumsSpec : ChangeSpec := { name := "rateSums", fn := fun _ => fun
  | [d1, d2, d3, d4] => { results := [.lit (.bool true)], args := [d1, d2, d3, d4] }
  | _ => none }
def rateSumsRow : OpenClaim := { program := "ytbdomghfgaceaaa", sum := "43bc54eac3cc7e0721202474c7d8cbd6f05da1a812a38dda81c4f6c805b7740f", func := "tideway/tidewaylaw17.RateSums", spec := "rateSums", unfollowed := true, recurses := true, named := ["math/bits.divideError", "math/bits.overflowError"], apart := false }
def RateSumsSaid : Prop := rateSumsRow.holds Try.pinned (OpenSpec.ofChange rateSumsSpec)

/-- ITS FALSE NEIGHBOUR: 'it returns false'. Refute it at one input. -/
def rateSumsWrong : ChangeSpec := { name := "rateSums", fn := fun _ => fun
  | [d1, d2, d3, d4] => { results := [.lit (.bool false)], args := [d1, d2, d3, d4] }
  | _ => none }
def RateSumsWrongFalsely : Prop := rateSumsRow.holds Try.pinned (OpenSpec.ofChange rateSumsWrong)

/- THE SECOND FORM. 'bulk': how many values and letters a reading holds, each counted each time it is reached (what is shared counts as often as it is met; a slice's spare places count too). A statement '..UptoSaid' is the law's where the arguments, and the package variables that the reading takes, are together of bulk at most 1048576: NARROWER than '..Said'. Prove '..Said' where nothing that the law and all that it calls make is longer than what came in: it says more and counts as full. Else prove '..UptoSaid'. A law counts once. -/
mutual
def uptoBulk {H : Type} : DataW H → Nat
  | .lit (.string bytes) => bytes.length + 1
  | .lit _ => 1
  | .nil => 1
  | .ptr d => uptoBulk d + 1
  | .slice elems spare => uptoBulkAll elems + uptoBulkAll spare + 1
  | .agg parts => uptoBulkAll parts + 1
  | .iface _ d => uptoBulk d + 1
  | .map entries => uptoBulkEntries entries + 1
  | .held _ => 1
def uptoBulkAll {H : Type} : List (DataW H) → Nat
  | [] => 0
  | d :: r => uptoBulk d + uptoBulkAll r
def uptoBulkEntries {H : Type} : List (Lit × DataW H) → Nat
  | [] => 0
  | x :: r => uptoBulkEntry x + uptoBulkEntries r
def uptoBulkEntry {H : Type} : Lit × DataW H → Nat
  | (.string bytes, d) => bytes.length + uptoBulk d + 1
  | (_, d) => uptoBulk d + 1
 end
def uptoSmall : (H : Type) → List (DataW H) → Bool := fun _ ds => decide (uptoBulkAll ds ≤ 1048576)
def OpenSpec.upto (s : _root_.Go.ChangeSpec) : _root_.Go.OpenSpec := { _root_.Go.OpenSpec.ofChange s with cond := some uptoSmall }

/-- 'tidewaylaw17.RateLow', WHERE WHAT IT READS IS OF BULK AT MOST 1048576: true; the input reads as it did. -/
def rateLowUptoRow : OpenClaim := { program := "ytbdomghfgaceaaa", sum := "43bc54eac3cc7e0721202474c7d8cbd6f05da1a812a38dda81c4f6c805b7740f", func := "tideway/tidewaylaw17.RateLow", spec := "rateLow", unfollowed := true, recurses := true, named := ["math/bits.divideError", "math/bits.overflowError"], apart := false, narrowed := true }
def RateLowUptoSaid : Prop := rateLowUptoRow.holds Try.pinned (OpenSpec.upto rateLowSpec)

/-- 'tidewaylaw17.RateIdle', WHERE WHAT IT READS IS OF BULK AT MOST 1048576: true; the input reads as it did. -/
def rateIdleUptoRow : OpenClaim := { program := "ytbdomghfgaceaaa", sum := "43bc54eac3cc7e0721202474c7d8cbd6f05da1a812a38dda81c4f6c805b7740f", func := "tideway/tidewaylaw17.RateIdle", spec := "rateIdle", unfollowed := true, recurses := true, named := ["math/bits.divideError", "math/bits.overflowError"], apart := false, narrowed := true }
def RateIdleUptoSaid : Prop := rateIdleUptoRow.holds Try.pinned (OpenSpec.upto rateIdleSpec)

/-- 'tidewaylaw17.RateEven', WHERE WHAT IT READS IS OF BULK AT MOST 1048576: true; the input reads as it did. -/
def rateEvenUptoRow : OpenClaim := { program := "ytbdomghfgaceaaa", sum := "43bc54eac3cc7e0721202474c7d8cbd6f05da1a812a38dda81c4f6c805b7740f", func := "tideway/tidewaylaw17.RateEven", spec := "rateEven", unfollowed := true, recurses := true, named := ["math/bits.divideError", "math/bits.overflowError"], apart := false, narrowed := true }
def RateEvenUptoSaid : Prop := rateEvenUptoRow.holds Try.pinned (OpenSpec.upto rateEvenSpec)

/-- 'tidewaylaw17.RateSums', WHERE WHAT IT READS IS OF BULK AT MOST 1048576: true; the input reads as it did. -/
def rateSumsUptoRow : OpenClaim := { program := "ytbdomghfgaceaaa", sum := "43bc54eac3cc7e0721202474c7d8cbd6f05da1a812a38dda81c4f6c805b7740f", func := "tideway/tidewaylaw17.RateSums", spec := "rateSums", unfollowed := true, recurses := true, named := ["math/bits.divideError", "math/bits.overflowError"], apart := false, narrowed := true }
def RateSumsUptoSaid : Prop := rateSumsUptoRow.holds Try.pinned (OpenSpec.upto rateSumsSpec)

end Rows
end Go.Proofs.Ytbdomghfgaceaaa

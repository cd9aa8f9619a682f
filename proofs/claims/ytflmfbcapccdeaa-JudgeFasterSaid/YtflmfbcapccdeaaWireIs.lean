/- errors.Is at wire's faults: Go's own text, walked. -/
import Derived.Test.YtflmfbcapccdeaaChecked
import Derived.WalkKit
import Derived.LaidEql
import Derived.Lib.IfaceEq
import Derived.Stop.Asserts
import Derived.RowKitTokens
set_option linter.unusedVariables false
set_option linter.unusedSimpArgs false
namespace Go.Proofs.Ytflmfbcapccdeaa.WireIs
open Go.RowKit Go.Extern.Stop Go.Stop Go.Extern
theorem isTypeOf (v : Value) (w : World) : (Extern.ReflectliteType.typeOf #[.iface 124 v]).run Try.prog w = .ok (.iface 161 (.agg #[.pointer (some ⟨2, 124, none⟩)])) w := by kernel_rfl
theorem isComparable (w : World) : ((Extern.ReflectliteType.method fun t => do Extern.Rtype.noPackHeld "Comparable" t; pure (.bool (← typeInfo t).comparable)) #[.agg #[.pointer (some ⟨2, 124, none⟩)]]).run Try.prog w = .ok (.bool true) w := by kernel_rfl
theorem callComparable (w : World) : (callFunc 125 #[.agg #[.pointer (some ⟨2, 124, none⟩)]]).run Try.prog w = .ok (.value (.bool true)) w := by
  rw [@run_callFunc_extern Try.prog 125 _ (Extern.ReflectliteType.method fun t => do Extern.Rtype.noPackHeld "Comparable" t; pure (.bool (← typeInfo t).comparable)) Try.func125 (by kernel_rfl) (by kernel_rfl) (by kernel_rfl) (by kernel_rfl), isComparable]
  rfl
theorem callTypeOf (v : Value) (w : World) : (callFunc 95 #[.iface 124 v]).run Try.prog w = .ok (.value (.iface 161 (.agg #[.pointer (some ⟨2, 124, none⟩)]))) w := by
  rw [@run_callFunc_extern Try.prog 95 _ Extern.ReflectliteType.typeOf Try.func95 (by kernel_rfl) (by kernel_rfl) (by kernel_rfl) (by kernel_rfl), isTypeOf]
  rfl
theorem mComparable (v : Value) (w : World) : (Go.method 308 161 v "Comparable").run Try.prog w = .ok (125, v) w := by kernel_rfl
theorem mUnwrap (v : Value) (w : World) : (Go.method 308 122 v "Unwrap").run Try.prog w = .ok (120, v) w := by kernel_rfl
theorem isComp : (Try.prog.info? 124).map (·.comparable) = some true := by kernel_rfl
theorem noIsF (v : Value) (xT : TypeId) (w : World) : (Instr.typeAssert (.iface 122 v) xT 163 true).run Try.prog w = .ok (.tuple #[.nilIface, .bool false]) w := run_typeAssert_lacksB Try.underlying163 (by kernel_rfl) (by kernel_rfl) v xT w
theorem hasUnwrapF (v : Value) (xT : TypeId) (w : World) : (Instr.typeAssert (.iface 122 v) xT 166 true).run Try.prog w = .ok (.tuple #[.iface 122 v, .bool true]) w := run_typeAssert_hasB Try.underlying166 (by kernel_rfl) v xT w
theorem noIsR (v : Value) (xT : TypeId) (w : World) : (Instr.typeAssert (.iface 124 v) xT 163 true).run Try.prog w = .ok (.tuple #[.nilIface, .bool false]) w := run_typeAssert_lacksB Try.underlying163 (by kernel_rfl) (by kernel_rfl) v xT w
theorem noUnwrapR (v : Value) (xT : TypeId) (w : World) : (Instr.typeAssert (.iface 124 v) xT 166 true).run Try.prog w = .ok (.tuple #[.nilIface, .bool false]) w := run_typeAssert_lacksB Try.underlying166 (by kernel_rfl) (by kernel_rfl) v xT w
theorem noUnwrapsR (v : Value) (xT : TypeId) (w : World) : (Instr.typeAssert (.iface 124 v) xT 168 true).run Try.prog w = .ok (.tuple #[.nilIface, .bool false]) w := run_typeAssert_lacksB Try.underlying168 (by kernel_rfl) (by kernel_rfl) v xT w
theorem is_nil (k : Int) (w : World) :
    Calls Try.prog 76 #[.nilIface, .iface 124 (.int .i64 k)] w fun e w' => e = .returned (.bool false) ∧ w' = w := by
  have hn := run_eql_iface_nil_left (P := Try.prog) w 124 (.int .i64 k) Try.underlying100
  go_enter Try.func76, Try.ntmps76
  go_wp2
  go_ret
  exact ⟨rfl, rfl⟩
set_option maxRecDepth 100000 in
set_option maxHeartbeats 4000000 in
theorem is_fault (pb : Nat) (why k : Int) (w : World) (h1 : w.cell? ⟨pb, 0, none⟩ = some (.int .i64 why)) :
    Calls Try.prog 76 #[.iface 122 (.pointer (some ⟨pb, 0, none⟩)), .iface 124 (.int .i64 k)] w fun e w' => e = .returned (.bool (why == k)) ∧ w' = w := by
  have h8 := callTypeOf
  have h32 := callComparable
  have m1 := mComparable
  have m2 := mUnwrap
  have nF := noIsF
  have uF := hasUnwrapF
  have nR := noIsR
  have uR := noUnwrapR
  have vR := noUnwrapsR
  have hty := run_eql_iface_types (P := Try.prog) 122 124 (.pointer (some ⟨pb, 0, none⟩)) (.int .i64 k) Try.underlying100 (by decide) w
  have hei := Lib.run_eql_iface_int (P := Try.prog) (k := .i64) w why k Try.underlying100 isComp Try.underlying124
  obtain ⟨bb, hbb⟩ : ∃ bb : Bool, (why == k) = bb := ⟨_, rfl⟩
  rw [hbb] at hei ⊢
  clear hbb
  cases bb with
  | false =>
    go_enter Try.func76, Try.ntmps76
    go_wp2
    refine wp_loop_rounds 2 ?_
    rw [rounds_succ]
    go_wp2
    rw [rounds_succ]
    go_wp2
    go_ret
    exact ⟨rfl, rfl⟩
  | true =>
    go_enter Try.func76, Try.ntmps76
    go_wp2
    refine wp_loop_rounds 2 ?_
    rw [rounds_succ]
    go_wp2
    rw [rounds_succ]
    go_wp2
    go_ret
    exact ⟨rfl, rfl⟩
end Go.Proofs.Ytflmfbcapccdeaa.WireIs

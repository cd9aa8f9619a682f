/- errors.Is at wire's faults: Go's own text, walked. -/
import Derived.Test.YtenpekakmkemeaaChecked
import Derived.WalkKit
import Derived.LaidEql
import Derived.Lib.IfaceEq
import Derived.Stop.Asserts
import Derived.RowKitTokens
set_option linter.unusedVariables false
set_option linter.unusedSimpArgs false
namespace Go.Proofs.Ytenpekakmkemeaa.WireIs
open Go.RowKit Go.Extern.Stop Go.Stop Go.Extern
theorem isTypeOf (v : Value) (w : World) : (Extern.ReflectliteType.typeOf #[.iface 65 v]).run Try.prog w = .ok (.iface 90 (.agg #[.pointer (some ⟨0, 65, none⟩)])) w := by kernel_rfl
theorem isComparable (w : World) : ((Extern.ReflectliteType.method fun t => do Extern.Rtype.noPackHeld "Comparable" t; pure (.bool (← typeInfo t).comparable)) #[.agg #[.pointer (some ⟨0, 65, none⟩)]]).run Try.prog w = .ok (.bool true) w := by kernel_rfl
theorem callComparable (w : World) : (callFunc 64 #[.agg #[.pointer (some ⟨0, 65, none⟩)]]).run Try.prog w = .ok (.value (.bool true)) w := by
  rw [@run_callFunc_extern Try.prog 64 _ (Extern.ReflectliteType.method fun t => do Extern.Rtype.noPackHeld "Comparable" t; pure (.bool (← typeInfo t).comparable)) Try.func64 (by kernel_rfl) (by kernel_rfl) (by kernel_rfl) (by kernel_rfl), isComparable]
  rfl
theorem callTypeOf (v : Value) (w : World) : (callFunc 40 #[.iface 65 v]).run Try.prog w = .ok (.value (.iface 90 (.agg #[.pointer (some ⟨0, 65, none⟩)]))) w := by
  rw [@run_callFunc_extern Try.prog 40 _ Extern.ReflectliteType.typeOf Try.func40 (by kernel_rfl) (by kernel_rfl) (by kernel_rfl) (by kernel_rfl), isTypeOf]
  rfl
theorem mComparable (v : Value) (w : World) : (Go.method 232 90 v "Comparable").run Try.prog w = .ok (64, v) w := by kernel_rfl
theorem mUnwrap (v : Value) (w : World) : (Go.method 232 63 v "Unwrap").run Try.prog w = .ok (59, v) w := by kernel_rfl
theorem isComp : (Try.prog.info? 65).map (·.comparable) = some true := by kernel_rfl
theorem noIsF (v : Value) (xT : TypeId) (w : World) : (Instr.typeAssert (.iface 63 v) xT 92 true).run Try.prog w = .ok (.tuple #[.nilIface, .bool false]) w := run_typeAssert_lacksB Try.underlying92 (by kernel_rfl) (by kernel_rfl) v xT w
theorem hasUnwrapF (v : Value) (xT : TypeId) (w : World) : (Instr.typeAssert (.iface 63 v) xT 95 true).run Try.prog w = .ok (.tuple #[.iface 63 v, .bool true]) w := run_typeAssert_hasB Try.underlying95 (by kernel_rfl) v xT w
theorem noIsR (v : Value) (xT : TypeId) (w : World) : (Instr.typeAssert (.iface 65 v) xT 92 true).run Try.prog w = .ok (.tuple #[.nilIface, .bool false]) w := run_typeAssert_lacksB Try.underlying92 (by kernel_rfl) (by kernel_rfl) v xT w
theorem noUnwrapR (v : Value) (xT : TypeId) (w : World) : (Instr.typeAssert (.iface 65 v) xT 95 true).run Try.prog w = .ok (.tuple #[.nilIface, .bool false]) w := run_typeAssert_lacksB Try.underlying95 (by kernel_rfl) (by kernel_rfl) v xT w
theorem noUnwrapsR (v : Value) (xT : TypeId) (w : World) : (Instr.typeAssert (.iface 65 v) xT 97 true).run Try.prog w = .ok (.tuple #[.nilIface, .bool false]) w := run_typeAssert_lacksB Try.underlying97 (by kernel_rfl) (by kernel_rfl) v xT w
theorem is_nil (k : Int) (w : World) :
    Calls Try.prog 33 #[.nilIface, .iface 65 (.int .i64 k)] w fun e w' => e = .returned (.bool false) ∧ w' = w := by
  have hn := run_eql_iface_nil_left (P := Try.prog) w 65 (.int .i64 k) Try.underlying48
  go_enter Try.func33, Try.ntmps33
  go_wp2
  go_ret
  exact ⟨rfl, rfl⟩
set_option maxRecDepth 100000 in
set_option maxHeartbeats 4000000 in
theorem is_fault (pb : Nat) (why k : Int) (w : World) (h1 : w.cell? ⟨pb, 0, none⟩ = some (.int .i64 why)) :
    Calls Try.prog 33 #[.iface 63 (.pointer (some ⟨pb, 0, none⟩)), .iface 65 (.int .i64 k)] w fun e w' => e = .returned (.bool (why == k)) ∧ w' = w := by
  have h8 := callTypeOf
  have h32 := callComparable
  have m1 := mComparable
  have m2 := mUnwrap
  have nF := noIsF
  have uF := hasUnwrapF
  have nR := noIsR
  have uR := noUnwrapR
  have vR := noUnwrapsR
  have hty := run_eql_iface_types (P := Try.prog) 63 65 (.pointer (some ⟨pb, 0, none⟩)) (.int .i64 k) Try.underlying48 (by decide) w
  have hei := Lib.run_eql_iface_int (P := Try.prog) (k := .i64) w why k Try.underlying48 isComp Try.underlying65
  obtain ⟨bb, hbb⟩ : ∃ bb : Bool, (why == k) = bb := ⟨_, rfl⟩
  rw [hbb] at hei ⊢
  clear hbb
  cases bb with
  | false =>
    go_enter Try.func33, Try.ntmps33
    go_wp2
    refine wp_loop_rounds 2 ?_
    rw [rounds_succ]
    go_wp2
    rw [rounds_succ]
    go_wp2
    go_ret
    exact ⟨rfl, rfl⟩
  | true =>
    go_enter Try.func33, Try.ntmps33
    go_wp2
    refine wp_loop_rounds 2 ?_
    rw [rounds_succ]
    go_wp2
    rw [rounds_succ]
    go_wp2
    go_ret
    exact ⟨rfl, rfl⟩
end Go.Proofs.Ytenpekakmkemeaa.WireIs

-- Written for the seat Ytenpekakmkemeaa by this session's program hyb.py (the print's functions, with externals typed by hand).
import Derived.Test.YtenpekakmkemeaaProg
import Derived.Below
import Derived.Deep.Draws
import Derived.Deep.AppendLies
import Derived.Maps.AppendAt
import Derived.OwnWalk
import Derived.Laws.BytesArg
import Derived.Laws.MakeOwn
import Derived.Laws.OwnMore
import Derived.Deep.OwnRows
import Derived.Tactics
import Derived.Lib.ConvBytes
import Derived.Laws.Slices
import Derived.WalkKit
import Derived.KernelRfl
import Derived.RowKit3
import Derived.Deep.LoopGhost
import Derived.Deep.QuietTactic
import Derived.BigQuiet
import Derived.WideLaws
import Derived.Deep.DeepCutAuto
import Derived.Deep.CutBlock
import Derived.Deep.RegionHeld3
import Derived.Laws.Rows
import Derived.Lib.AppendStr
import Derived.ArgAppend
import Derived.Laws.IdiomCopy
import Derived.OrdersHeld
import Derived.Laws.BitsLemmas
import Derived.RowKit
import Derived.Test.YtenpekakmkemeaaWWords
import Derived.Test.YtenpekakmkemeaaWLast
import Derived.Test.YtenpekakmkemeaaWTab
import Derived.Test.YtenpekakmkemeaaWFour
import Derived.Test.YtenpekakmkemeaaWQPut
import Derived.Test.YtenpekakmkemeaaWApart
import Derived.Test.YtenpekakmkemeaaWArr
import Derived.Test.YtenpekakmkemeaaWZeros
import Derived.Test.YtenpekakmkemeaaWFoot
import Derived.Test.YtenpekakmkemeaaWKept
import Derived.Test.YtenpekakmkemeaaWShare
import Derived.Test.YtenpekakmkemeaaWN
import Derived.Test.YtenpekakmkemeaaWFootNe
import Derived.Test.YtenpekakmkemeaaWAt
import Derived.Test.YtenpekakmkemeaaWEqStruct
import Derived.Test.YtenpekakmkemeaaWRepsOne
import Derived.Test.YtenpekakmkemeaaWInv
import Derived.Test.YtenpekakmkemeaaWInvWords
import Derived.Test.YtenpekakmkemeaaWGuard
import Derived.Test.YtenpekakmkemeaaWNEv
import Derived.Test.YtenpekakmkemeaaWMore
namespace Go.Proofs.Ytenpekakmkemeaa.PA
open Go.RowKit Go.Proofs.YtenpekakmkemeaaW.PrintWords Go.Proofs.YtenpekakmkemeaaW.PrintLast Go.Proofs.YtenpekakmkemeaaW.PrintMore
attribute [local go_sem] max2_int min2_int max_two min_two max_three min_three max_four min_four   -- for this text's walks alone
set_option linter.unusedVariables false
set_option linter.unusedSimpArgs false



def errW : Option Int → Value
 | none => .nilIface
 | some c => .iface 65 (.int .i64 c)
theorem errW_none : errW none = .nilIface := rfl
theorem errW_some (c : Int) : errW (some c) = .iface 65 (.int .i64 c) := rfl

theorem info3 : (Try.prog.info? 3).map (fun i => (i.zero, i.size, i.bytes)) = some (some (.int .i64 0), 1, 8) := by kernel_rfl
theorem info5 : (Try.prog.info? 5).map (fun i => (i.zero, i.size, i.bytes)) = some (some (.int .u8 0), 1, 1) := by kernel_rfl
theorem info22 : (Try.prog.info? 22).map (fun i => (i.zero, i.size, i.bytes)) = some (some (.slice none 0 0), 1, 24) := by kernel_rfl
-- the values' own types
def rd_L3 (xs : List (List Int)) (i : Int) : (List Int) := xs.getD i.toNat ([] : List Int)
theorem at_L3 {w : World} {A : Option Addr} {n : Nat} {xs : List (List Int)} (h : Kd.C (Kd.slice 5 (Kd.int .u8)) w A n xs) (i : Int) (h0 : 0 ≤ i) (h1 : i < n) : ∃ ad A0 c0, A = some ad ∧ w.cell? (ad.add i.toNat) = some (.slice A0 (rd_L3 xs i).length c0) ∧ (rd_L3 xs i).length ≤ c0 ∧ (Kd.int .u8).C w A0 (rd_L3 xs i).length (rd_L3 xs i) := by
 obtain ⟨ad, c, e, _, hK, hc0⟩ := Kd.C_get h ([] : List Int) i h0 h1
 have hc : ∀ j u, c[j]? = some u → w.cell? (ad.add (i.toNat * 1 + j)) = some u := hc0
 obtain ⟨A0, c0, rfl, l0, g0⟩ := hK
 exact ⟨ad, A0, c0, e, by have hq := hc 0 _ rfl; rwa [Nat.mul_one, Nat.add_zero] at hq, l0, g0⟩

def rd_L4 (xs : List (List (List Int))) (i : Int) : (List (List Int)) := xs.getD i.toNat ([] : List (List Int))
theorem at_L4 {w : World} {A : Option Addr} {n : Nat} {xs : List (List (List Int))} (h : Kd.C (Kd.slice 22 (Kd.slice 5 (Kd.int .u8))) w A n xs) (i : Int) (h0 : 0 ≤ i) (h1 : i < n) : ∃ ad A0 c0, A = some ad ∧ w.cell? (ad.add i.toNat) = some (.slice A0 (rd_L4 xs i).length c0) ∧ (rd_L4 xs i).length ≤ c0 ∧ (Kd.slice 5 (Kd.int .u8)).C w A0 (rd_L4 xs i).length (rd_L4 xs i) := by
 obtain ⟨ad, c, e, _, hK, hc0⟩ := Kd.C_get h ([] : List (List Int)) i h0 h1
 have hc : ∀ j u, c[j]? = some u → w.cell? (ad.add (i.toNat * 1 + j)) = some u := hc0
 obtain ⟨A0, c0, rfl, l0, g0⟩ := hK
 exact ⟨ad, A0, c0, e, by have hq := hc 0 _ rfl; rwa [Nat.mul_one, Nat.add_zero] at hq, l0, g0⟩

/-! #### struct type 56 -/
structure S56 where
 f0 : Int
 f1 : Int
def z56 : S56 := ⟨(0 : Int), (0 : Int)⟩
def k56 : Kd S56 := Kd.iso (Kd.pair (Kd.int .u32) (Kd.int .u32)) (fun x : S56 => (x.f0, x.f1))
theorem k56_open {w : World} {x : S56} {cs : List Value} (h : k56.K w x cs) : cs = [.int .u32 x.f0, .int .u32 x.f1] := by
 obtain ⟨_, _, rfl, rfl, rfl⟩ := h
 exact rfl
theorem k56_openM {w : World} {base : Nat} {ok : Nat → Prop} {x : S56} {cs : List Value} (h : k56.M w base ok x cs) : cs = [.int .u32 x.f0, .int .u32 x.f1] := by
 obtain ⟨_, _, rfl, rfl, rfl⟩ := h
 exact rfl
theorem k56_mk (w : World) (x : S56)  : k56.K w x [.int .u32 x.f0, .int .u32 x.f1] := ⟨[.int .u32 x.f0], [.int .u32 x.f1], rfl, rfl, rfl⟩
theorem k56_mkM (w : World) (base : Nat) (ok : Nat → Prop) (x : S56)  : k56.M w base ok x [.int .u32 x.f0, .int .u32 x.f1] := ⟨[.int .u32 x.f0], [.int .u32 x.f1], rfl, rfl, rfl⟩
theorem k56_mkF (W : World) (ok : Nat → Prop) (x : S56) : Kd.FK k56 W ok x [.int .u32 x.f0, .int .u32 x.f1] := fun W2 _ => k56_mk W2 x
def rd_T56 (xs : List S56) (i : Int) : S56 := xs.getD i.toNat z56
theorem at_T56 {w : World} {A : Option Addr} {n : Nat} {xs : List S56} (h : Kd.C k56 w A n xs) (i : Int) (h0 : 0 ≤ i) (h1 : i < n) : ∃ ad , A = some ad ∧ w.cell? (ad.add (i.toNat * 2)) = some (.int .u32 (rd_T56 xs i).f0) ∧ w.cell? ⟨(ad.add (i.toNat * 2)).block, (ad.add (i.toNat * 2)).off + 1, none⟩ = some (.int .u32 (rd_T56 xs i).f1) := by
 obtain ⟨ad, c, e, _, hK, hc0⟩ := Kd.C_get h z56 i h0 h1
 have hc : ∀ j u, c[j]? = some u → w.cell? (ad.add (i.toNat * 2 + j)) = some u := hc0
 obtain rfl := k56_open hK
 exact ⟨ad, e, hc 0 _ rfl, by rw [← add_field _ _ 1 (by omega)]; exact hc 1 _ rfl⟩

def rd_L8 (xs : List (List S56)) (i : Int) : (List S56) := xs.getD i.toNat ([] : List S56)
theorem at_L8 {w : World} {A : Option Addr} {n : Nat} {xs : List (List S56)} (h : Kd.C (Kd.slice 56 k56) w A n xs) (i : Int) (h0 : 0 ≤ i) (h1 : i < n) : ∃ ad A0 c0, A = some ad ∧ w.cell? (ad.add i.toNat) = some (.slice A0 (rd_L8 xs i).length c0) ∧ (rd_L8 xs i).length ≤ c0 ∧ k56.C w A0 (rd_L8 xs i).length (rd_L8 xs i) := by
 obtain ⟨ad, c, e, _, hK, hc0⟩ := Kd.C_get h ([] : List S56) i h0 h1
 have hc : ∀ j u, c[j]? = some u → w.cell? (ad.add (i.toNat * 1 + j)) = some u := hc0
 obtain ⟨A0, c0, rfl, l0, g0⟩ := hK
 exact ⟨ad, A0, c0, e, by have hq := hc 0 _ rfl; rwa [Nat.mul_one, Nat.add_zero] at hq, l0, g0⟩

/-! #### struct type 26 -/
structure S26 where
 f0 : Int
 f1 : Int
 f2 : Int
 f3 : Int
 f4 : Int
 f5 : Int
 f6 : Int
 f7 : Int
 f8 : Int
 f9 : Bool
 f10 : Bool
 f11 : Int
 f12 : Int
 f13 : (List S56)
 f14 : (List Int)
def z26 : S26 := ⟨(0 : Int), (0 : Int), (0 : Int), (0 : Int), (0 : Int), (0 : Int), (0 : Int), (0 : Int), (0 : Int), false, false, (0 : Int), (0 : Int), ([] : List S56), ([] : List Int)⟩
def k26 : Kd S26 := Kd.iso (Kd.pair (Kd.int .i64) (Kd.pair (Kd.int .i64) (Kd.pair (Kd.int .u32) (Kd.pair (Kd.int .u32) (Kd.pair (Kd.int .i64) (Kd.pair (Kd.int .i64) (Kd.pair (Kd.int .i64) (Kd.pair (Kd.int .i64) (Kd.pair (Kd.int .i64) (Kd.pair Kd.bool (Kd.pair Kd.bool (Kd.pair (Kd.int .u32) (Kd.pair (Kd.int .u32) (Kd.pair (Kd.slice 56 k56) (Kd.slice 5 (Kd.int .u8)))))))))))))))) (fun x : S26 => (x.f0, x.f1, x.f2, x.f3, x.f4, x.f5, x.f6, x.f7, x.f8, x.f9, x.f10, x.f11, x.f12, x.f13, x.f14))
theorem k26_open {w : World} {x : S26} {cs : List Value} (h : k26.K w x cs) : ∃ A13 c13 A14 c14, cs = [.int .i64 x.f0, .int .i64 x.f1, .int .u32 x.f2, .int .u32 x.f3, .int .i64 x.f4, .int .i64 x.f5, .int .i64 x.f6, .int .i64 x.f7, .int .i64 x.f8, .bool x.f9, .bool x.f10, .int .u32 x.f11, .int .u32 x.f12, .slice A13 x.f13.length c13, .slice A14 x.f14.length c14] ∧ x.f13.length ≤ c13 ∧ k56.C w A13 x.f13.length x.f13 ∧ x.f14.length ≤ c14 ∧ (Kd.int .u8).C w A14 x.f14.length x.f14 := by
 obtain ⟨_, _, rfl, rfl, ⟨_, _, rfl, rfl, ⟨_, _, rfl, rfl, ⟨_, _, rfl, rfl, ⟨_, _, rfl, rfl, ⟨_, _, rfl, rfl, ⟨_, _, rfl, rfl, ⟨_, _, rfl, rfl, ⟨_, _, rfl, rfl, ⟨_, _, rfl, rfl, ⟨_, _, rfl, rfl, ⟨_, _, rfl, rfl, ⟨_, _, rfl, rfl, ⟨_, _, rfl, ⟨A13, c13, rfl, l13, g13⟩, ⟨A14, c14, rfl, l14, g14⟩⟩⟩⟩⟩⟩⟩⟩⟩⟩⟩⟩⟩⟩⟩ := h
 exact ⟨A13, c13, A14, c14, rfl, l13, g13, l14, g14⟩
theorem k26_openM {w : World} {base : Nat} {ok : Nat → Prop} {x : S26} {cs : List Value} (h : k26.M w base ok x cs) : ∃ v13 v14, cs = [.int .i64 x.f0, .int .i64 x.f1, .int .u32 x.f2, .int .u32 x.f3, .int .i64 x.f4, .int .i64 x.f5, .int .i64 x.f6, .int .i64 x.f7, .int .i64 x.f8, .bool x.f9, .bool x.f10, .int .u32 x.f11, .int .u32 x.f12, v13, v14] ∧ k56.R 56 w base ok v13 x.f13 ∧ (Kd.int .u8).R 5 w base ok v14 x.f14 := by
 obtain ⟨_, _, rfl, rfl, ⟨_, _, rfl, rfl, ⟨_, _, rfl, rfl, ⟨_, _, rfl, rfl, ⟨_, _, rfl, rfl, ⟨_, _, rfl, rfl, ⟨_, _, rfl, rfl, ⟨_, _, rfl, rfl, ⟨_, _, rfl, rfl, ⟨_, _, rfl, rfl, ⟨_, _, rfl, rfl, ⟨_, _, rfl, rfl, ⟨_, _, rfl, rfl, ⟨_, _, rfl, ⟨v13, rfl, g13⟩, ⟨v14, rfl, g14⟩⟩⟩⟩⟩⟩⟩⟩⟩⟩⟩⟩⟩⟩⟩ := h
 exact ⟨v13, v14, rfl, g13, g14⟩
theorem k26_mk (w : World) (x : S26) {A13 : Option Addr} {c13 : Nat} (l13 : x.f13.length ≤ c13) (g13 : k56.C w A13 x.f13.length x.f13) {A14 : Option Addr} {c14 : Nat} (l14 : x.f14.length ≤ c14) (g14 : (Kd.int .u8).C w A14 x.f14.length x.f14) : k26.K w x [.int .i64 x.f0, .int .i64 x.f1, .int .u32 x.f2, .int .u32 x.f3, .int .i64 x.f4, .int .i64 x.f5, .int .i64 x.f6, .int .i64 x.f7, .int .i64 x.f8, .bool x.f9, .bool x.f10, .int .u32 x.f11, .int .u32 x.f12, .slice A13 x.f13.length c13, .slice A14 x.f14.length c14] := ⟨[.int .i64 x.f0], [.int .i64 x.f1, .int .u32 x.f2, .int .u32 x.f3, .int .i64 x.f4, .int .i64 x.f5, .int .i64 x.f6, .int .i64 x.f7, .int .i64 x.f8, .bool x.f9, .bool x.f10, .int .u32 x.f11, .int .u32 x.f12, .slice A13 x.f13.length c13, .slice A14 x.f14.length c14], rfl, rfl, ⟨[.int .i64 x.f1], [.int .u32 x.f2, .int .u32 x.f3, .int .i64 x.f4, .int .i64 x.f5, .int .i64 x.f6, .int .i64 x.f7, .int .i64 x.f8, .bool x.f9, .bool x.f10, .int .u32 x.f11, .int .u32 x.f12, .slice A13 x.f13.length c13, .slice A14 x.f14.length c14], rfl, rfl, ⟨[.int .u32 x.f2], [.int .u32 x.f3, .int .i64 x.f4, .int .i64 x.f5, .int .i64 x.f6, .int .i64 x.f7, .int .i64 x.f8, .bool x.f9, .bool x.f10, .int .u32 x.f11, .int .u32 x.f12, .slice A13 x.f13.length c13, .slice A14 x.f14.length c14], rfl, rfl, ⟨[.int .u32 x.f3], [.int .i64 x.f4, .int .i64 x.f5, .int .i64 x.f6, .int .i64 x.f7, .int .i64 x.f8, .bool x.f9, .bool x.f10, .int .u32 x.f11, .int .u32 x.f12, .slice A13 x.f13.length c13, .slice A14 x.f14.length c14], rfl, rfl, ⟨[.int .i64 x.f4], [.int .i64 x.f5, .int .i64 x.f6, .int .i64 x.f7, .int .i64 x.f8, .bool x.f9, .bool x.f10, .int .u32 x.f11, .int .u32 x.f12, .slice A13 x.f13.length c13, .slice A14 x.f14.length c14], rfl, rfl, ⟨[.int .i64 x.f5], [.int .i64 x.f6, .int .i64 x.f7, .int .i64 x.f8, .bool x.f9, .bool x.f10, .int .u32 x.f11, .int .u32 x.f12, .slice A13 x.f13.length c13, .slice A14 x.f14.length c14], rfl, rfl, ⟨[.int .i64 x.f6], [.int .i64 x.f7, .int .i64 x.f8, .bool x.f9, .bool x.f10, .int .u32 x.f11, .int .u32 x.f12, .slice A13 x.f13.length c13, .slice A14 x.f14.length c14], rfl, rfl, ⟨[.int .i64 x.f7], [.int .i64 x.f8, .bool x.f9, .bool x.f10, .int .u32 x.f11, .int .u32 x.f12, .slice A13 x.f13.length c13, .slice A14 x.f14.length c14], rfl, rfl, ⟨[.int .i64 x.f8], [.bool x.f9, .bool x.f10, .int .u32 x.f11, .int .u32 x.f12, .slice A13 x.f13.length c13, .slice A14 x.f14.length c14], rfl, rfl, ⟨[.bool x.f9], [.bool x.f10, .int .u32 x.f11, .int .u32 x.f12, .slice A13 x.f13.length c13, .slice A14 x.f14.length c14], rfl, rfl, ⟨[.bool x.f10], [.int .u32 x.f11, .int .u32 x.f12, .slice A13 x.f13.length c13, .slice A14 x.f14.length c14], rfl, rfl, ⟨[.int .u32 x.f11], [.int .u32 x.f12, .slice A13 x.f13.length c13, .slice A14 x.f14.length c14], rfl, rfl, ⟨[.int .u32 x.f12], [.slice A13 x.f13.length c13, .slice A14 x.f14.length c14], rfl, rfl, ⟨[.slice A13 x.f13.length c13], [.slice A14 x.f14.length c14], rfl, ⟨A13, c13, rfl, l13, g13⟩, ⟨A14, c14, rfl, l14, g14⟩⟩⟩⟩⟩⟩⟩⟩⟩⟩⟩⟩⟩⟩⟩
theorem k26_mkM (w : World) (base : Nat) (ok : Nat → Prop) (x : S26) {v13 : Value} (g13 : k56.R 56 w base ok v13 x.f13) {v14 : Value} (g14 : (Kd.int .u8).R 5 w base ok v14 x.f14) : k26.M w base ok x [.int .i64 x.f0, .int .i64 x.f1, .int .u32 x.f2, .int .u32 x.f3, .int .i64 x.f4, .int .i64 x.f5, .int .i64 x.f6, .int .i64 x.f7, .int .i64 x.f8, .bool x.f9, .bool x.f10, .int .u32 x.f11, .int .u32 x.f12, v13, v14] := ⟨[.int .i64 x.f0], [.int .i64 x.f1, .int .u32 x.f2, .int .u32 x.f3, .int .i64 x.f4, .int .i64 x.f5, .int .i64 x.f6, .int .i64 x.f7, .int .i64 x.f8, .bool x.f9, .bool x.f10, .int .u32 x.f11, .int .u32 x.f12, v13, v14], rfl, rfl, ⟨[.int .i64 x.f1], [.int .u32 x.f2, .int .u32 x.f3, .int .i64 x.f4, .int .i64 x.f5, .int .i64 x.f6, .int .i64 x.f7, .int .i64 x.f8, .bool x.f9, .bool x.f10, .int .u32 x.f11, .int .u32 x.f12, v13, v14], rfl, rfl, ⟨[.int .u32 x.f2], [.int .u32 x.f3, .int .i64 x.f4, .int .i64 x.f5, .int .i64 x.f6, .int .i64 x.f7, .int .i64 x.f8, .bool x.f9, .bool x.f10, .int .u32 x.f11, .int .u32 x.f12, v13, v14], rfl, rfl, ⟨[.int .u32 x.f3], [.int .i64 x.f4, .int .i64 x.f5, .int .i64 x.f6, .int .i64 x.f7, .int .i64 x.f8, .bool x.f9, .bool x.f10, .int .u32 x.f11, .int .u32 x.f12, v13, v14], rfl, rfl, ⟨[.int .i64 x.f4], [.int .i64 x.f5, .int .i64 x.f6, .int .i64 x.f7, .int .i64 x.f8, .bool x.f9, .bool x.f10, .int .u32 x.f11, .int .u32 x.f12, v13, v14], rfl, rfl, ⟨[.int .i64 x.f5], [.int .i64 x.f6, .int .i64 x.f7, .int .i64 x.f8, .bool x.f9, .bool x.f10, .int .u32 x.f11, .int .u32 x.f12, v13, v14], rfl, rfl, ⟨[.int .i64 x.f6], [.int .i64 x.f7, .int .i64 x.f8, .bool x.f9, .bool x.f10, .int .u32 x.f11, .int .u32 x.f12, v13, v14], rfl, rfl, ⟨[.int .i64 x.f7], [.int .i64 x.f8, .bool x.f9, .bool x.f10, .int .u32 x.f11, .int .u32 x.f12, v13, v14], rfl, rfl, ⟨[.int .i64 x.f8], [.bool x.f9, .bool x.f10, .int .u32 x.f11, .int .u32 x.f12, v13, v14], rfl, rfl, ⟨[.bool x.f9], [.bool x.f10, .int .u32 x.f11, .int .u32 x.f12, v13, v14], rfl, rfl, ⟨[.bool x.f10], [.int .u32 x.f11, .int .u32 x.f12, v13, v14], rfl, rfl, ⟨[.int .u32 x.f11], [.int .u32 x.f12, v13, v14], rfl, rfl, ⟨[.int .u32 x.f12], [v13, v14], rfl, rfl, ⟨[v13], [v14], rfl, ⟨v13, rfl, g13⟩, ⟨v14, rfl, g14⟩⟩⟩⟩⟩⟩⟩⟩⟩⟩⟩⟩⟩⟩⟩
theorem k26_openF {W : World} {ok : Nat → Prop} {x : S26} {cs : List Value} (h : Kd.FK k26 W ok x cs) : ∃ A13 c13 A14 c14, cs = [.int .i64 x.f0, .int .i64 x.f1, .int .u32 x.f2, .int .u32 x.f3, .int .i64 x.f4, .int .i64 x.f5, .int .i64 x.f6, .int .i64 x.f7, .int .i64 x.f8, .bool x.f9, .bool x.f10, .int .u32 x.f11, .int .u32 x.f12, .slice A13 x.f13.length c13, .slice A14 x.f14.length c14] ∧ x.f13.length ≤ c13 ∧ Kd.F k56 W ok A13 x.f13.length x.f13 ∧ x.f14.length ≤ c14 ∧ Kd.F (Kd.int .u8) W ok A14 x.f14.length x.f14 := by
 obtain ⟨A13, c13, A14, c14, rfl, l13, _, l14, _⟩ := k26_open (Kd.FK_now h)
 exact ⟨A13, c13, A14, c14, rfl, l13, (fun W' hW => by obtain ⟨A13_, c13_, A14_, c14_, he, l13_, g13_, l14_, g14_⟩ := k26_open (h W' hW); injection (Option.some.inj (show some (Value.slice A13 x.f13.length c13) = some (Value.slice A13_ x.f13.length c13_) from congrArg (fun l => l[13]?) he)) with ha_ _ _; rw [ha_]; exact g13_), l14, (fun W' hW => by obtain ⟨A13_, c13_, A14_, c14_, he, l13_, g13_, l14_, g14_⟩ := k26_open (h W' hW); injection (Option.some.inj (show some (Value.slice A14 x.f14.length c14) = some (Value.slice A14_ x.f14.length c14_) from congrArg (fun l => l[14]?) he)) with ha_ _ _; rw [ha_]; exact g14_)⟩
theorem k26_mkF (W : World) (ok : Nat → Prop) (x : S26) {A13 : Option Addr} {c13 : Nat} (l13 : x.f13.length ≤ c13) (g13 : Kd.F k56 W ok A13 x.f13.length x.f13) {A14 : Option Addr} {c14 : Nat} (l14 : x.f14.length ≤ c14) (g14 : Kd.F (Kd.int .u8) W ok A14 x.f14.length x.f14) : Kd.FK k26 W ok x [.int .i64 x.f0, .int .i64 x.f1, .int .u32 x.f2, .int .u32 x.f3, .int .i64 x.f4, .int .i64 x.f5, .int .i64 x.f6, .int .i64 x.f7, .int .i64 x.f8, .bool x.f9, .bool x.f10, .int .u32 x.f11, .int .u32 x.f12, .slice A13 x.f13.length c13, .slice A14 x.f14.length c14] := fun W2 hW => k26_mk W2 x l13 (g13 W2 hW) l14 (g14 W2 hW)
def rd_T26 (xs : List S26) (i : Int) : S26 := xs.getD i.toNat z26
theorem at_T26 {w : World} {A : Option Addr} {n : Nat} {xs : List S26} (h : Kd.C k26 w A n xs) (i : Int) (h0 : 0 ≤ i) (h1 : i < n) : ∃ ad A13 c13 A14 c14, A = some ad ∧ w.cell? (ad.add (i.toNat * 15)) = some (.int .i64 (rd_T26 xs i).f0) ∧ w.cell? ⟨(ad.add (i.toNat * 15)).block, (ad.add (i.toNat * 15)).off + 1, none⟩ = some (.int .i64 (rd_T26 xs i).f1) ∧ w.cell? ⟨(ad.add (i.toNat * 15)).block, (ad.add (i.toNat * 15)).off + 2, none⟩ = some (.int .u32 (rd_T26 xs i).f2) ∧ w.cell? ⟨(ad.add (i.toNat * 15)).block, (ad.add (i.toNat * 15)).off + 3, none⟩ = some (.int .u32 (rd_T26 xs i).f3) ∧ w.cell? ⟨(ad.add (i.toNat * 15)).block, (ad.add (i.toNat * 15)).off + 4, none⟩ = some (.int .i64 (rd_T26 xs i).f4) ∧ w.cell? ⟨(ad.add (i.toNat * 15)).block, (ad.add (i.toNat * 15)).off + 5, none⟩ = some (.int .i64 (rd_T26 xs i).f5) ∧ w.cell? ⟨(ad.add (i.toNat * 15)).block, (ad.add (i.toNat * 15)).off + 6, none⟩ = some (.int .i64 (rd_T26 xs i).f6) ∧ w.cell? ⟨(ad.add (i.toNat * 15)).block, (ad.add (i.toNat * 15)).off + 7, none⟩ = some (.int .i64 (rd_T26 xs i).f7) ∧ w.cell? ⟨(ad.add (i.toNat * 15)).block, (ad.add (i.toNat * 15)).off + 8, none⟩ = some (.int .i64 (rd_T26 xs i).f8) ∧ w.cell? ⟨(ad.add (i.toNat * 15)).block, (ad.add (i.toNat * 15)).off + 9, none⟩ = some (.bool (rd_T26 xs i).f9) ∧ w.cell? ⟨(ad.add (i.toNat * 15)).block, (ad.add (i.toNat * 15)).off + 10, none⟩ = some (.bool (rd_T26 xs i).f10) ∧ w.cell? ⟨(ad.add (i.toNat * 15)).block, (ad.add (i.toNat * 15)).off + 11, none⟩ = some (.int .u32 (rd_T26 xs i).f11) ∧ w.cell? ⟨(ad.add (i.toNat * 15)).block, (ad.add (i.toNat * 15)).off + 12, none⟩ = some (.int .u32 (rd_T26 xs i).f12) ∧ w.cell? ⟨(ad.add (i.toNat * 15)).block, (ad.add (i.toNat * 15)).off + 13, none⟩ = some (.slice A13 (rd_T26 xs i).f13.length c13) ∧ w.cell? ⟨(ad.add (i.toNat * 15)).block, (ad.add (i.toNat * 15)).off + 14, none⟩ = some (.slice A14 (rd_T26 xs i).f14.length c14) ∧ (rd_T26 xs i).f13.length ≤ c13 ∧ k56.C w A13 (rd_T26 xs i).f13.length (rd_T26 xs i).f13 ∧ (rd_T26 xs i).f14.length ≤ c14 ∧ (Kd.int .u8).C w A14 (rd_T26 xs i).f14.length (rd_T26 xs i).f14 := by
 obtain ⟨ad, c, e, _, hK, hc0⟩ := Kd.C_get h z26 i h0 h1
 have hc : ∀ j u, c[j]? = some u → w.cell? (ad.add (i.toNat * 15 + j)) = some u := hc0
 obtain ⟨A13, c13, A14, c14, rfl, l13, g13, l14, g14⟩ := k26_open hK
 exact ⟨ad, A13, c13, A14, c14, e, hc 0 _ rfl, by rw [← add_field _ _ 1 (by omega)]; exact hc 1 _ rfl, by rw [← add_field _ _ 2 (by omega)]; exact hc 2 _ rfl, by rw [← add_field _ _ 3 (by omega)]; exact hc 3 _ rfl, by rw [← add_field _ _ 4 (by omega)]; exact hc 4 _ rfl, by rw [← add_field _ _ 5 (by omega)]; exact hc 5 _ rfl, by rw [← add_field _ _ 6 (by omega)]; exact hc 6 _ rfl, by rw [← add_field _ _ 7 (by omega)]; exact hc 7 _ rfl, by rw [← add_field _ _ 8 (by omega)]; exact hc 8 _ rfl, by rw [← add_field _ _ 9 (by omega)]; exact hc 9 _ rfl, by rw [← add_field _ _ 10 (by omega)]; exact hc 10 _ rfl, by rw [← add_field _ _ 11 (by omega)]; exact hc 11 _ rfl, by rw [← add_field _ _ 12 (by omega)]; exact hc 12 _ rfl, by rw [← add_field _ _ 13 (by omega)]; exact hc 13 _ rfl, by rw [← add_field _ _ 14 (by omega)]; exact hc 14 _ rfl, l13, g13, l14, g14⟩

end Go.Proofs.Ytenpekakmkemeaa.PA

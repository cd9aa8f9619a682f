/- Rows of pieces in order, none empty, none touching the next: what they hold tells which they are; the pieces of a map. -/
import Derived.Test.YtflmfbcapccdeaaPAx2
import Derived.Maps.OwnSet
import Derived.Maps.Views
import Derived.Maps.RangeWalk
import Derived.Lib.Hide
import Derived.Shelf.SortM.Plain
import Derived.Shelf.SortM.SortNone
import Derived.Shelf.SlGeneric
import Derived.Ground.SlgmProg
import Derived.Test.YtflmfbcapccdeaaWireGet
import Derived.LoopN
import Derived.WalkKit
import Derived.Maps.OwnOps
import Derived.Laws.IdiomRangeMap
set_option linter.unusedVariables false
set_option linter.unusedSimpArgs false
set_option autoImplicit false
namespace Go.Proofs.Ytflmfbcapccdeaa.JudgeMap
open Go.RowKit Go.ChangeMaps Go.MapKept Go.Proofs.Ytflmfbcapccdeaa.PA Go.Proofs.YtflmfbcapccdeaaW.PrintWords Go.Proofs.YtflmfbcapccdeaaW.PrintMore
open Go.Maps (Keyed)
/-- What is held at x. -/
def mget (m : List (Int × Int)) (x : Int) : Option Int := (m.find? fun p => p.1 == x).map fun p => p.2
theorem mget_nil (x : Int) : mget [] x = none := rfl
theorem mget_snoc {m : List (Int × Int)} {x v y : Int} (h : mget m x = none) : mget (m ++ [(x, v)]) y = if y = x then some v else mget m y := by
  unfold mget at h ⊢
  rw [List.find?_append]
  by_cases e : y = x
  · subst e
    rw [if_pos rfl]
    cases hf : m.find? (fun p => p.1 == y) with
    | none => simp
    | some p => rw [hf] at h; cases h
  · rw [if_neg e]
    cases hf : m.find? (fun p => p.1 == y) with
    | none =>
      have : (x == y) = false := beq_false_of_ne (fun h => e h.symm)
      simp [this]
    | some p => simp
abbrev In64 (x : Int) : Prop := -9223372036854775808 ≤ x ∧ x ≤ 9223372036854775807
theorem wf64 {x : Int} (h : In64 x) : (Lit.int .i64 x).wf = true := by
  simp only [Lit.wf, IntKind.min, IntKind.max, IntKind.signed, IntKind.bits, decide_eq_true_eq, Bool.and_eq_true]
  have := h.1; have := h.2
  simp
  omega
theorem wf8 {x : Int} (h0 : 0 ≤ x) (h1 : x ≤ 255) : (Lit.int .u8 x).wf = true := by
  simp [Lit.wf, IntKind.min, IntKind.max, IntKind.signed, IntKind.bits]; omega
theorem key64 {x : Int} (h : In64 x) : keyOf Try.prog 3 (.int .i64 x) = some (.int .i64 x) := Maps.keyOf_int_mk Try.underlying3 (wf64 h)
theorem keyed : Keyed Try.prog 3 := Maps.int_keyed Try.underlying3
/-- The map at mb holds m; n: how often it was written. -/
def Mp (W : World) (mb n : Nat) (m : List (Int × Int)) : Prop := ∃ D : DataW Unit, W.ownsMap Try.prog 3 (plainElem Try.prog 5) mb n D ∧ ∀ x : Int, In64 x → Maps.has D (.int .i64 x) = (mget m x).isSome ∧ ∀ v, mget m x = some v → ∀ zd, D.atKey (.int .i64 x) zd = .lit (.int .u8 v)
theorem Mp.new (W : World) : Mp (W.alloc (.map #[] 0)) W.heap.size 0 [] := ⟨.map [], World.ownsMap_made W _ _ _, fun x _ => ⟨rfl, fun v h => by cases h⟩⟩
theorem Mp.kept {W W' : World} {mb n : Nat} {m : List (Int × Int)} {row : Option Nat} (h : Mp W mb n m) (hg : W.grownBy W' row) (hne : some mb ≠ row) : Mp W' mb n m := by
  obtain ⟨D, hD, hk⟩ := h
  exact ⟨D, hD.kept hg hne, hk⟩
theorem Mp.at_ {W W' : World} {mb n : Nat} {m : List (Int × Int)} (h : Mp W mb n m) (hb : W'.heap[mb]? = W.heap[mb]?) : Mp W' mb n m := by
  obtain ⟨D, ⟨es, cl, hh, F, hs, hD⟩, hk⟩ := h
  exact ⟨D, ⟨es, cl, hb.trans hh, F, hs, hD⟩, hk⟩
theorem Mp.lt {W : World} {mb n : Nat} {m : List (Int × Int)} (h : Mp W mb n m) : mb < W.heap.size := by
  obtain ⟨D, hD, _⟩ := h
  exact hD.lt
theorem Mp.below {W W' : World} {mb n : Nat} {m : List (Int × Int)} (h : Mp W mb n m) (hb : Below W.heap.size W W') : Mp W' mb n m := h.at_ (hb.block mb h.lt)
theorem Mp.map {W : World} {mb n : Nat} {m : List (Int × Int)} (h : Mp W mb n m) : ∃ es cl, W.heap[mb]? = some (.map es cl) := by
  obtain ⟨D, ⟨es, cl, hh, _⟩, _⟩ := h
  exact ⟨es, cl, hh⟩
/-- Looked up, with whether it is there. -/
theorem Mp.look {W : World} {mb n : Nat} {m : List (Int × Int)} (h : Mp W mb n m) {x : Int} (hx : In64 x) : ∃ v : Int, (∀ W' : World, W'.heap[mb]? = W.heap[mb]? → (Instr.lookup 70 (.map (some mb)) (.int .i64 x) true).run Try.prog W' = .ok (.tuple #[.int .u8 v, .bool (mget m x).isSome]) W') ∧ (∀ u, mget m x = some u → v = u) := by
  obtain ⟨D, ⟨es, cl, hh, F, hs, hD⟩, hk⟩ := h
  have one : ∀ W' : World, W'.heap[mb]? = W.heap[mb]? → ∃ v : Int, (Instr.lookup 70 (.map (some mb)) (.int .i64 x) true).run Try.prog W' = .ok (.tuple #[.int .u8 v, .bool (mget m x).isSome]) W' ∧ D.atKey (.int .i64 x) (.lit (.int .u8 0)) = .lit (.int .u8 v) := by
    intro W' hW
    have hown : W'.ownsMap (H := Unit) Try.prog 3 (plainElem Try.prog 5) mb n D := ⟨es, cl, hW.trans hh, F, hs, hD⟩
    obtain ⟨v, ps, hrun, hv⟩ := hown.look_ok keyed Try.underlying70 (z := .int .u8 0) (by kernel_rfl) (plainElem_int Try.underlying5 (by decide)) (key64 hx)
    obtain ⟨a, rfl, he, _⟩ := plainElem_int_inv Try.underlying5 hv
    rw [(hk x hx).1] at hrun
    exact ⟨a, hrun, (Prod.mk.inj he).1⟩
  obtain ⟨v, hrun, hat⟩ := one W rfl
  refine ⟨v, fun W' hW => ?_, fun u hu => ?_⟩
  · obtain ⟨v', hrun', hat'⟩ := one W' hW
    rw [hat] at hat'
    simp only [DataW.lit.injEq, Lit.int.injEq, true_and] at hat'
    rw [hrun', hat']
  · have := (hk x hx).2 u hu (.lit (.int .u8 0))
    rw [hat] at this
    simpa using this
/-- Looked up, where it is there. -/
theorem Mp.look1 {W : World} {mb n : Nat} {m : List (Int × Int)} (h : Mp W mb n m) {x u : Int} (hx : In64 x) (hu : mget m x = some u) : ∀ W' : World, W'.heap[mb]? = W.heap[mb]? → (Instr.lookup 70 (.map (some mb)) (.int .i64 x) false).run Try.prog W' = .ok (.int .u8 u) W' := by
  intro W' hW
  obtain ⟨D, ⟨es, cl, hh, F, hs, hD⟩, hk⟩ := h
  have hown : W'.ownsMap (H := Unit) Try.prog 3 (plainElem Try.prog 5) mb n D := ⟨es, cl, hW.trans hh, F, hs, hD⟩
  obtain ⟨c', hrun, ha', _⟩ := hown.lookup_int keyed Try.underlying70 Try.underlying5 (by kernel_rfl) (key64 hx)
  rw [(hk x hx).2 u hu] at ha'
  simp only [DataW.lit.injEq, Lit.int.injEq, true_and] at ha'
  rw [hrun, ha']
/-- Put where nothing else is. -/
def mput (m : List (Int × Int)) (x v : Int) : List (Int × Int) := if (mget m x).isSome = true then m else m ++ [(x, v)]
theorem mget_put {m : List (Int × Int)} {x v : Int} (h : mget m x = none ∨ mget m x = some v) (y : Int) : mget (mput m x v) y = if y = x then some v else mget m y := by
  unfold mput
  rcases h with h | h
  · rw [h, if_neg (by decide)]; exact mget_snoc h
  · rw [h, if_pos (show (some v).isSome = true from rfl)]
    by_cases e : y = x
    · rw [if_pos e, e, h]
    · rw [if_neg e]
theorem Mp.put {W : World} {mb n : Nat} {m : List (Int × Int)} (h : Mp W mb n m) (hn : n < maxLen) {x v : Int} (hx : In64 x) (h0 : 0 ≤ v) (h1 : v ≤ 255) (hm : mget m x = none ∨ mget m x = some v) :
    ∃ W', (Instr.mapUpdate 70 (.map (some mb)) (.int .i64 x) (.int .u8 v)).run Try.prog W = .ok () W' ∧ W.grownBy W' (some mb) ∧ W'.heap.size = W.heap.size ∧ Mp W' mb (n + 1) (mput m x v) := by
  obtain ⟨D, hD, hk⟩ := h
  obtain ⟨W', hrun, hown, hturn⟩ := hD.store keyed Try.underlying70 hn (key64 hx) (plainElem_int Try.underlying5 (wf8 h0 h1))
  refine ⟨W', hrun, hturn.grown, ?_, _, hown, fun y hy => ?_⟩
  · obtain ⟨es, cl, es', cl', hb, rfl⟩ := hturn
    simp [setBlock]
  · rw [mget_put hm]
    by_cases e : y = x
    · subst e
      rw [if_pos rfl]
      refine ⟨Maps.has_put_same hD.isMap (keyed.key (key64 hy)) _, fun u hu zd => ?_⟩
      obtain rfl := Option.some.inj hu
      exact Maps.atKey_put_same hD.isMap (keyed.key (key64 hy)) _ _
    · have hne : (Lit.int .i64 y) ≠ .int .i64 x := by intro he; injection he with _ he; exact e he
      rw [if_neg e]
      refine ⟨(Maps.has_put_other hne _).trans (hk y hy).1, fun u hu zd => ?_⟩
      rw [Maps.atKey_put_other hne]
      exact (hk y hy).2 u hu zd
end Go.Proofs.Ytflmfbcapccdeaa.JudgeMap
set_option linter.unusedVariables false
set_option linter.unusedSimpArgs false
namespace Go.Proofs.Ytflmfbcapccdeaa.JudgeSort
open Go.Shelf
def jb_sortT_ren : Go.Shelf.Ren := ⟨fun | 5 => 36 | 8 => 58 | 7 => 57 | 19 => 86 | 20 => 87 | 10 => 77 | 11 => 78 | 12 => 79 | 13 => 80 | 14 => 81 | 15 => 82 | 16 => 83 | 17 => 84 | 18 => 85 | 30 => 97 | 31 => 98 | 32 => 99 | 33 => 100 | 34 => 101 | 35 => 102 | 40 => 103 | n => n, fun | 23 => 23 | 25 => 3 | 3 => 3 | 32 => 45 | 22 => 23 | 0 => 0 | 44 => 50 | 46 => 93 | 4 => 4 | 36 => 131 | 35 => 130 | 41 => 136 | 5 => 5 | 9 => 9 | 53 => 153 | 57 => 157 | 63 => 171 | 64 => 97 | n => n, fun | n => n⟩
theorem jb_sortT : Go.Proofs.SlLaysM.n5 Try.prog jb_sortT_ren := {
  mixed := by kernel_rfl
  f5 := ⟨Try.f36.name, by decide, Try.func36.trans (congrArg some (by kernel_rfl))⟩
  f7 := ⟨Try.f57.name, by decide, Try.func57.trans (congrArg some (by kernel_rfl))⟩
  f8 := Try.func58.trans (congrArg some (by kernel_rfl))
  f10 := ⟨Try.f77.name, by decide, Try.func77.trans (congrArg some (by kernel_rfl))⟩
  f11 := ⟨Try.f78.name, by decide, Try.func78.trans (congrArg some (by kernel_rfl))⟩
  f12 := ⟨Try.f79.name, by decide, Try.func79.trans (congrArg some (by kernel_rfl))⟩
  f13 := ⟨Try.f80.name, by decide, Try.func80.trans (congrArg some (by kernel_rfl))⟩
  f14 := ⟨Try.f81.name, by decide, Try.func81.trans (congrArg some (by kernel_rfl))⟩
  f15 := ⟨Try.f82.name, by decide, Try.func82.trans (congrArg some (by kernel_rfl))⟩
  f16 := ⟨Try.f83.name, by decide, Try.func83.trans (congrArg some (by kernel_rfl))⟩
  f17 := ⟨Try.f84.name, by decide, Try.func84.trans (congrArg some (by kernel_rfl))⟩
  f18 := ⟨Try.f85.name, by decide, Try.func85.trans (congrArg some (by kernel_rfl))⟩
  f19 := Try.func86.trans (congrArg some (by kernel_rfl))
  f20 := Try.func87.trans (congrArg some (by kernel_rfl))
  f30 := ⟨Try.f97.name, by decide, Try.func97.trans (congrArg some (by kernel_rfl))⟩
  f31 := Try.func98.trans (congrArg some (by kernel_rfl))
  f32 := Try.func99.trans (congrArg some (by kernel_rfl))
  f33 := ⟨Try.f100.name, by decide, Try.func100.trans (congrArg some (by kernel_rfl))⟩
  f34 := ⟨Try.f101.name, by decide, Try.func101.trans (congrArg some (by kernel_rfl))⟩
  f35 := ⟨Try.f102.name, by decide, Try.func102.trans (congrArg some (by kernel_rfl))⟩
  f40 := ⟨Try.f103.name, by decide, Try.func103.trans (congrArg some (by kernel_rfl))⟩
  t0 := Try.underlying0
  a0 := Try.isAgg0
  z0 := Try.sizeOf0
  v0 := Try.zeroValue0
  t3 := Try.underlying3
  a3 := Try.isAgg3
  z3 := Try.sizeOf3
  v3 := Try.zeroValue3
  t4 := Try.underlying4
  a4 := Try.isAgg4
  z4 := Try.sizeOf4
  v4 := Try.zeroValue4
  t5 := Try.underlying5
  a5 := Try.isAgg5
  z5 := Try.sizeOf5
  v5 := Try.zeroValue5
  t9 := Try.underlying9
  a9 := Try.isAgg9
  z9 := Try.sizeOf9
  v9 := Try.zeroValue9
  t22 := Try.underlying23
  a22 := Try.isAgg23
  z22 := Try.sizeOf23
  v22 := Try.zeroValue23
  t23 := Try.underlying23
  a23 := Try.isAgg23
  z23 := Try.sizeOf23
  v23 := Try.zeroValue23
  t25 := Try.underlying3
  a25 := Try.isAgg3
  z25 := Try.sizeOf3
  v25 := Try.zeroValue3
  t32 := Try.underlying45
  a32 := Try.isAgg45
  z32 := Try.sizeOf45
  v32 := Try.zeroValue45
  t35 := Try.underlying130
  a35 := Try.isAgg130
  z35 := Try.sizeOf130
  v35 := Try.zeroValue130
  t36 := Try.underlying131
  a36 := Try.isAgg131
  z36 := Try.sizeOf131
  v36 := Try.zeroValue131
  t41 := Try.underlying136
  a41 := Try.isAgg136
  z41 := Try.sizeOf136
  v41 := Try.zeroValue136
  t44 := Try.underlying50
  a44 := Try.isAgg50
  z44 := Try.sizeOf50
  v44 := Try.zeroValue50
  t46 := Try.underlying93
  a46 := Try.isAgg93
  z46 := Try.sizeOf93
  v46 := Try.zeroValue93
  t53 := Try.underlying153
  a53 := Try.isAgg153
  z53 := Try.sizeOf153
  v53 := Try.zeroValue153
  t57 := Try.underlying157
  a57 := Try.isAgg157
  z57 := Try.sizeOf157
  v57 := Try.zeroValue157
  t63 := Try.underlying171
  a63 := Try.isAgg171
  z63 := Try.sizeOf171
  v63 := Try.zeroValue171
  t64 := Try.underlying97
  a64 := Try.isAgg97
  z64 := Try.sizeOf97
  v64 := Try.zeroValue97 }

open Go.RowKit Go.Proofs.Ytflmfbcapccdeaa.PA Go.Proofs.YtflmfbcapccdeaaW.PrintWords Go.Proofs.YtflmfbcapccdeaaW.PrintMore
/-- Sorted. -/
def js (l : List Int) : List Int := l.mergeSort fun x y => decide (x ≤ y)
theorem js_len (l : List Int) : (js l).length = l.length := List.length_mergeSort l
theorem js_perm (l : List Int) : (js l).Perm l := List.mergeSort_perm l _
theorem js_sorted (l : List Int) : (js l).Pairwise (· ≤ ·) := by
  have h := List.pairwise_mergeSort (le := fun x y : Int => decide (x ≤ y)) (fun a b c h1 h2 => by simp only [decide_eq_true_eq] at *; omega) (fun a b => by simp only [Bool.or_eq_true, decide_eq_true_eq]; omega) l
  exact h.imp (fun h => of_decide_eq_true h)
theorem jb_sort (W : World) (base : Nat) (ok : Nat → Prop) (v : Value) (xs : List Int) (hx : xs.length < 4611686018427387904) (hR : Kd.R (Kd.int .i64) 3 W base ok v xs) :
    Calls Try.prog 36 #[v] W fun e w' => e = .returned (.tuple #[]) ∧ Kd.R (Kd.int .i64) 3 w' base ok v (js xs) ∧ W.grownBy w' v.ownBlock := by
  have hok := hR.1
  have hown : W.ownsRow base 3 1 v xs.length (xs.map (Value.int .i64)) := Kd.own_of_R hR
  obtain ⟨hlen, how⟩ := hown
  rcases how with ⟨hv, hn⟩ | ⟨g, cap, cur, hv, hg, hh, hnc, hcm, hsz, htake⟩
  · obtain rfl : xs = [] := by simpa using hn
    subst hv
    have hcon := Go.Proofs.AnyM.slices_Sort_int_none jb_sortT none 0 W
    change Calls Try.prog 36 _ _ _ at hcon
    refine hcon.mono ?_
    rintro e w' ⟨rfl, rfl⟩
    exact ⟨rfl, by simpa [js] using hR, ⟨rfl, rfl, rfl, Nat.le_refl _, fun _ _ _ => rfl⟩⟩
  · subst hv
    have hs2 : cur.size = cap := by simpa using hsz
    have htk : ∀ j, (hj : j < xs.length) → cur[j]? = some (.int .i64 xs[j]) := by
      intro j hj
      have h1 : (cur.toList.take xs.length)[j]? = cur[j]? := by rw [List.getElem?_take, if_pos hj, Array.getElem?_toList]
      have h2 : cur.toList.take xs.length = xs.map (Value.int .i64) := by simpa using htake
      rw [← h1, h2, List.getElem?_map, List.getElem?_eq_getElem hj]; rfl
    have hH : Go.Sort.Holds (Value.int .i64) W g 0 xs.toArray := by
      intro j hj
      have hj : j < xs.length := by simpa using hj
      refine ⟨?_, blk_frozen hh _⟩
      rw [Nat.zero_add]
      exact (blk_cell hh j).trans ((htk j hj).trans (by rw [getElem!_pos xs.toArray j (by simpa using hj)]; simp))
    have hgl : g < W.heap.size := (Array.getElem?_eq_some_iff.1 hh).1
    have hcon := Go.Proofs.AnyM.slices_Sort_int jb_sortT g 0 cap xs W hH hgl hx
    change Calls Try.prog 36 _ _ _ at hcon
    refine hcon.mono ?_
    rintro e w' ⟨rfl, n, os, rfl⟩
    have hsl := js_len xs
    obtain ⟨d, hd⟩ : ∃ d, (xs.mergeSort fun x y => decide (x ≤ y)) = d := ⟨_, rfl⟩
    have hjs : js xs = d := hd
    rw [hd]
    rw [hjs] at hsl ⊢
    have hold : ∀ k, k < W.heap.size → (Go.Sort.grow (Go.Sort.putRow (Value.int .i64) (Go.Sort.ahead W n) g 0 d.toArray) os).heap[k]? = (Go.Sort.putRow (Value.int .i64) (Go.Sort.ahead W n) g 0 d.toArray).heap[k]? := by
      intro k hk
      exact Go.Sort.heap_grow_old _ _ (by unfold Go.Sort.putRow Go.Sort.mapBlock; simpa using hk)
    have hput : ∀ k, (Go.Sort.putRow (Value.int .i64) (Go.Sort.ahead W n) g 0 d.toArray).heap[k]? = if g = k then (W.heap[k]?).map (Go.Sort.onCells (Go.Sort.putCells (Value.int .i64) 0 d.toArray)) else W.heap[k]? := by
      intro k
      show (W.heap.modify g _)[k]? = _
      rw [Array.getElem?_modify]
    have hnew : (Go.Sort.grow (Go.Sort.putRow (Value.int .i64) (Go.Sort.ahead W n) g 0 d.toArray) os).heap[g]? = some (.cells (Go.Sort.putCells (Value.int .i64) 0 d.toArray cur) 3 (0, 0)) := by
      rw [hold g hgl, hput, if_pos rfl, hh]; rfl
    have htake' : (Go.Sort.putCells (Value.int .i64) 0 d.toArray cur).toList.take d.length = d.map (Value.int .i64) := by
      refine List.ext_getElem? fun j => ?_
      rw [List.getElem?_take]
      by_cases hj : j < d.length
      · rw [if_pos hj, Array.getElem?_toList, List.getElem?_map, List.getElem?_eq_getElem hj]
        unfold Go.Sort.putCells
        rw [Array.getElem?_mapIdx, Array.getElem?_eq_getElem (show j < cur.size by omega)]
        simp [hj]
      · rw [if_neg hj, List.getElem?_map, List.getElem?_eq_none (by omega)]; rfl
    have hsp : (Go.Sort.putCells (Value.int .i64) 0 d.toArray cur).size = cap := by unfold Go.Sort.putCells; rw [Array.size_mapIdx, hs2]
    have hown' : (Go.Sort.grow (Go.Sort.putRow (Value.int .i64) (Go.Sort.ahead W n) g 0 d.toArray) os).ownsRow base 3 1 (.slice (some ⟨g, 0, none⟩) d.length cap) d.length (d.map (Value.int .i64)) :=
      ⟨by simp, .inr ⟨g, cap, _, rfl, hg, hnew, by rw [hsl]; exact hnc, hcm, by simpa using hsp, by simpa using htake'⟩⟩
    refine ⟨rfl, ?_, ?_⟩
    · have := Kd.R_of_own (h1 := fun _ => rfl) (ok := ok) hown' (by simpa [Value.ownBlock] using hok)
      rw [hsl] at this
      exact this
    · refine ⟨rfl, rfl, rfl, ?_, ?_⟩
      · unfold Go.Sort.grow Go.Sort.putRow Go.Sort.mapBlock Go.Sort.ahead; simp
      · intro k hk hne
        rw [hold k hk, hput, if_neg (fun e => hne (by rw [← e]; rfl))]
end Go.Proofs.Ytflmfbcapccdeaa.JudgeSort
set_option linter.unusedVariables false
set_option linter.unusedSimpArgs false
namespace Go.Proofs.Ytflmfbcapccdeaa.JudgeBytesW
open Go.RowKit Go.Proofs.Ytflmfbcapccdeaa.PA Go.Proofs.YtflmfbcapccdeaaW.PrintWords Go.Proofs.YtflmfbcapccdeaaW.PrintLast Go.Proofs.YtflmfbcapccdeaaW.PrintMore Go.Proofs.Ytflmfbcapccdeaa.JudgeMap Go.Proofs.Ytflmfbcapccdeaa.JudgeSort Go.Proofs.Ytflmfbcapccdeaa.WireG
def Hold (p : Prop) : Prop := p
theorem hold_of {p : Prop} (h : Hold p) : p := h
abbrev Q := S39
abbrev P := S59
abbrev psd (b : List Int) : List Int := four8 1 ++ four8 2 ++ [0, 6, ((b.length : Int) / 256) % 256, (b.length : Int) % 256]
/-- The bytes of one, if it may be. -/
def seg (vd : List Int → Bool) (x : Q) : Option (List Int) := if (wgget (vd x.f0) x.f0).2 = 0 ∧ 0 ≤ x.f2 ∧ x.f2 ≤ 1125899906842624 then some (wgget (vd x.f0) x.f0).1.f14 else none
def fits (m : List (Int × Int)) (x v : Int) : Bool := mget m x == none || mget m x == some v
def bIn (fr : Int) : List Int → Nat → List (Int × Int) → Option (List (Int × Int))
  | [], _, m => some m
  | c :: d, i, m => if fits m (fr + i) c = true then bIn fr d (i + 1) (mput m (fr + i) c) else none
def bAll (vd : List Int → Bool) : List Q → List (Int × Int) → Option (List (Int × Int))
  | [], m => some m
  | x :: l, m => (seg vd x).bind fun d => (bIn x.f2 d 0 m).bind (bAll vd l)
/-- The pieces, by the offsets in order. -/
def pstep (m : List (Int × Int)) (out : List P) (x : Int) : List P :=
  match out.getLast? with
  | some p => if p.f0 + p.f1.length = x then out.dropLast ++ [⟨p.f0, p.f1 ++ [(mget m x).getD 0]⟩] else out ++ [⟨x, [(mget m x).getD 0]⟩]
  | none => out ++ [⟨x, [(mget m x).getD 0]⟩]
def pieces (m : List (Int × Int)) : List P := (js (m.map Prod.fst)).foldl (pstep m) []
def bres (vd : List Int → Bool) (l : List Q) : List P × Bool := match bAll vd l [] with | some m => (pieces m, true) | none => ([], false)
theorem bAll_at (vd : List Int → Bool) (l : List Q) (k : Nat) (h : k < l.length) (m : List (Int × Int)) : bAll vd (l.drop k) m = (seg vd l[k]).bind fun d => (bIn l[k].f2 d 0 m).bind (bAll vd (l.drop (k + 1))) := by
  rw [List.drop_eq_getElem_cons h, bAll]
theorem bIn_at (fr : Int) (d : List Int) (i : Nat) (h : i < d.length) (m : List (Int × Int)) : bIn fr (d.drop i) i m = if fits m (fr + i) d[i] = true then bIn fr (d.drop (i + 1)) (i + 1) (mput m (fr + i) d[i]) else none := by
  rw [List.drop_eq_getElem_cons h, bIn]
theorem f14_len (v : Bool) (b : List Int) (h : (wgget v b).2 = 0) : (wgget v b).1.f14.length ≤ 65000 := by
  unfold wgget at h ⊢
  split at h
  · cases h
  · rename_i h1
    rw [if_neg h1]
    unfold wgget1 at h ⊢
    split at h
    · cases h
    · rename_i h2
      rw [if_neg h2]
      split at h
      · cases h
      · rename_i h3
        rw [if_neg h3]
        split at h
        · cases h
        · rename_i h4
          rw [if_neg h4]
          revert h
          generalize wgrd _ _ _ _ = o
          intro h
          cases o with
          | none => cases h
          | some s =>
            rw [wgend] at h ⊢
            split at h
            · rename_i h5
              rw [if_pos h5]
              show (b.drop _).length ≤ 65000
              rw [List.length_drop]; exact h5
            · cases h
theorem f14_byts (v : Bool) (b : List Int) (hb : wgb b) : wgb (wgget v b).1.f14 := by
  have hz : wgb (z53).f14 := fun c hc => by cases hc
  unfold wgget
  split
  · exact hz
  · unfold wgget1
    split
    · exact hz
    · split
      · exact hz
      · split
        · exact hz
        · generalize wgrd _ _ _ _ = o
          cases o with
          | none => exact hz
          | some s =>
            rw [wgend]
            split
            · exact fun c hc => hb c (List.mem_of_mem_drop hc)
            · exact hz
/-- The keys. -/
def ks (m : List (Int × Int)) : List Int := m.map Prod.fst
theorem mget_mem (m : List (Int × Int)) (x : Int) : x ∈ ks m ↔ (mget m x).isSome = true := by
  unfold mget ks
  rw [Option.isSome_map, List.find?_isSome]
  constructor
  · intro h
    obtain ⟨p, hp, rfl⟩ := List.mem_map.1 h
    exact ⟨p, hp, by simp⟩
  · rintro ⟨p, hp, h⟩
    exact List.mem_map.2 ⟨p, hp, by simpa using h⟩
/-- A map as it is made: each key once, and where it may be. -/
def Good (m : List (Int × Int)) : Prop := (ks m).Nodup ∧ ∀ x ∈ ks m, 0 ≤ x ∧ x ≤ 1125899906942624
theorem good_put {m : List (Int × Int)} {x v : Int} (h : Good m) (h0 : 0 ≤ x) (h1 : x ≤ 1125899906942624) : Good (mput m x v) := by
  unfold mput
  split
  · exact h
  · rename_i hn
    have hx : x ∉ ks m := fun hm => hn ((mget_mem m x).1 hm)
    refine ⟨?_, fun y hy => ?_⟩
    · unfold ks at *
      rw [List.map_append, List.map_cons, List.map_nil, List.nodup_append]
      exact ⟨h.1, by simp, fun a ha b hb => by rw [List.mem_singleton] at hb; subst hb; exact fun e => hx (e ▸ ha)⟩
    · unfold ks at hy
      rw [List.map_append, List.mem_append] at hy
      rcases hy with hy | hy
      · exact h.2 y hy
      · simp only [List.map_cons, List.map_nil, List.mem_singleton] at hy
        omega
theorem good_in {fr : Int} (h0 : 0 ≤ fr) (h1 : fr ≤ 1125899906842624) : ∀ (d : List Int) (i : Nat) (m m' : List (Int × Int)), i + d.length ≤ 65000 → Good m → bIn fr d i m = some m' → Good m'
  | [], i, m, m', _, hg, h => by obtain rfl := Option.some.inj h; exact hg
  | c :: d, i, m, m', hl, hg, h => by
    rw [bIn] at h
    simp only [List.length_cons] at hl
    split at h
    · exact good_in h0 h1 d (i + 1) _ m' (by omega) (good_put hg (by omega) (by omega)) h
    · cases h
theorem good_all (vd : List Int → Bool) : ∀ (l : List Q) (m m' : List (Int × Int)), Good m → bAll vd l m = some m' → Good m'
  | [], m, m', hg, h => by obtain rfl := Option.some.inj h; exact hg
  | x :: l, m, m', hg, h => by
    rw [bAll, seg] at h
    split at h
    · rename_i hc
      rw [Option.bind_some] at h
      obtain ⟨m1, h1, h2⟩ := Option.bind_eq_some_iff.1 h
      exact good_all vd l m1 m' (good_in hc.2.1 hc.2.2 _ 0 _ _ (by have := f14_len (vd x.f0) x.f0 hc.1; omega) hg h1) h2
    · cases h
theorem good_nil : Good [] := ⟨List.nodup_nil, fun x hx => by cases hx⟩
theorem js_perm_eq {a b : List Int} (h : a.Perm b) : js a = js b :=
  ((js_perm a).trans (h.trans (js_perm b).symm)).eq_of_pairwise (fun x y _ _ h1 h2 => Int.le_antisymm h1 h2) (js_sorted a) (js_sorted b)
theorem jb_data {W W' : World} {base mb : Nat} {v : Value} {d : List Int} {es : Array MapEntry} {cl : Nat} (h : Kd.R (Kd.int .u8) 5 W base (fun _ => True) v d) (hm : W.heap[mb]? = some (.map es cl)) (hg : W.grownBy W' (some mb)) : Kd.R (Kd.int .u8) 5 W' base (fun _ => True) v d :=
  Kd.R_mono (Kd.R_grown (Kd.R_bound h) hg (fun k hk e => by
    obtain ⟨_, _, _, q, _, cells, hc⟩ := hk
    have := Option.some.inj e; subst this; rw [hc] at hm; cases hm)) (fun _ _ => trivial)
theorem jb_cells {W W' : World} {mb g : Nat} {cs : Array Value} {t : TypeId} {es : Array MapEntry} {cl : Nat} (h : W.heap[g]? = some (.cells cs t (0, 0))) (hm : W.heap[mb]? = some (.map es cl)) (hg : W.grownBy W' (some mb)) : W'.heap[g]? = some (.cells cs t (0, 0)) :=
  (hg.block g (Array.getElem?_eq_some_iff.1 h).1 (fun e => by have := Option.some.inj e; subst this; rw [h] at hm; cases hm)).trans h
theorem last_nn (out : List P) (nn : Nat) (h : out.length = nn + 1) : ∃ l, out.getD nn z59 = l ∧ out.getLast? = some l ∧ ∀ p, out.set nn p = out.dropLast ++ [p] := by
  rcases List.eq_nil_or_concat out with rfl | ⟨o, l, rfl⟩
  · cases h
  · rw [List.concat_eq_append] at h ⊢
    rw [List.length_append, List.length_singleton] at h
    obtain rfl : nn = o.length := by omega
    exact ⟨l, by simp, by simp, fun p => by simp⟩
def PB (i : Nat) (out : List P) : Prop := ∀ p ∈ out, 0 ≤ p.f0 ∧ p.f0 ≤ 1125899906942624 ∧ p.f1.length ≤ i
theorem pb_mono {i j : Nat} {out : List P} (h : PB i out) (hij : i ≤ j) : PB j out := fun p hp => ⟨(h p hp).1, (h p hp).2.1, Nat.le_trans (h p hp).2.2 hij⟩
theorem pb_step {i : Nat} {m : List (Int × Int)} {out : List P} {x : Int} (h : PB i out) (hx : 0 ≤ x ∧ x ≤ 1125899906942624) : PB (i + 1) (pstep m out x) ∧ (pstep m out x).length ≤ out.length + 1 := by
  have snoc : PB (i + 1) (out ++ [⟨x, [(mget m x).getD 0]⟩]) ∧ (out ++ [(⟨x, [(mget m x).getD 0]⟩ : P)]).length ≤ out.length + 1 := by
    refine ⟨fun p hp => ?_, by simp⟩
    rcases List.mem_append.1 hp with hp | hp
    · exact pb_mono h (Nat.le_succ _) p hp
    · rw [List.mem_singleton] at hp; subst hp; exact ⟨hx.1, hx.2, by simp⟩
  unfold pstep
  split
  · rename_i p hp
    have hm := h p (List.mem_of_getLast? hp)
    split
    · refine ⟨fun q hq => ?_, by simp⟩
      rcases List.mem_append.1 hq with hq | hq
      · exact pb_mono h (Nat.le_succ _) q ((List.dropLast_sublist out).mem hq)
      · rw [List.mem_singleton] at hq; subst hq; exact ⟨hm.1, hm.2.1, by simp; exact hm.2.2⟩
    · exact snoc
  · exact snoc
/-- A block of one byte, made. -/
theorem jb_new (W : World) (base : Nat) (hb : base ≤ W.heap.size) (c : Int) : Kd.R (Kd.int .u8) 5 (W.alloc (.cells #[.int .u8 c] 5)) base (fun k => k = W.heap.size) (.slice (some ⟨W.heap.size, 0, none⟩) 1 1) [c] := by
  refine Kd.R_of_own (enc := Value.int .u8) (xs := [c]) ?_ (fun k hk => ?_)
  · exact World.ownsRow_lit W #[.int .u8 c] 1 hb (by decide) rfl
  · have : W.heap.size = k := by simpa [Value.ownBlock] using hk
    exact this.symm
/-- A new piece's element. -/
theorem jb_piece {wr : World} {w : World} {mb it nq np cp : Nat} {Ap : Option Addr} {v : Value} {out : List P} {kl : List Int} {u x : Int} {m : List (Int × Int)} {n : Nat}
    (SO : Kd.S k59 59 wr mb (fun k => it + 1 ≤ k ∧ some k ≠ (Value.slice Ap np cp).ownBlock) v out) (MI : Mp wr mb n m) (RI : Kd.R (Kd.int .i64) 3 wr mb (fun k => it + 1 ≤ k) (.slice Ap np cp) kl) (BI : Below mb w wr) (SI : it + 1 ≤ wr.heap.size) :
    k59.M ((wr.drewN nq).alloc (.cells #[.int .u8 u] 5)) mb (fun k => k = wr.heap.size) ⟨x, [u]⟩ [.int .i64 x, .slice (some ⟨wr.heap.size, 0, none⟩) 1 1] ∧
    (∀ k, k = wr.heap.size → (it + 1 ≤ k ∧ some k ≠ (Value.slice Ap np cp).ownBlock) ∧ some k ≠ v.ownBlock) ∧
    (∀ k, ((wr.drewN nq).alloc (.cells #[.int .u8 u] 5)).heap.size ≤ k → it + 1 ≤ k ∧ some k ≠ (Value.slice Ap np cp).ownBlock) ∧
    Kd.S k59 59 ((wr.drewN nq).alloc (.cells #[.int .u8 u] 5)) mb (fun k => (it + 1 ≤ k ∧ some k ≠ (Value.slice Ap np cp).ownBlock) ∧ ¬ k = wr.heap.size) v out ∧
    Below mb w ((wr.drewN nq).alloc (.cells #[.int .u8 u] 5)) ∧ mb ≤ ((wr.drewN nq).alloc (.cells #[.int .u8 u] 5)).heap.size := by
  have hml := MI.lt
  have hlp : ∀ k, (Value.slice Ap np cp).ownBlock = some k → k < wr.heap.size := Kd.R_lt RI
  have hlv : ∀ k, v.ownBlock = some k → k < wr.heap.size := Kd.S_lt SO
  refine ⟨k59_mkM _ _ _ ⟨x, [u]⟩ (jb_new (wr.drewN nq) mb (Nat.le_of_lt hml) u), fun k hk => ?_, fun k hk => ?_, Kd.S_alloc (Kd.S_drewN (Kd.S_elderB SO wr.heap.size (Nat.le_refl _)) nq) _, (pw_below_drewN BI nq).alloc (Nat.le_of_lt hml) _, ?_⟩
  · subst hk
    exact ⟨⟨SI, fun e => by have := hlp _ e.symm; omega⟩, fun e => by have := hlv _ e.symm; omega⟩
  · have h2 : wr.heap.size ≤ k := by
      rw [World.size_alloc] at hk
      exact Nat.le_trans (Nat.le_succ _) hk
    exact ⟨by omega, fun e => by have := hlp _ e.symm; omega⟩
  · rw [World.size_alloc]
    exact Nat.le_succ_of_le (Nat.le_of_lt hml)
theorem jb_after {wr W w9 : World} {mb it np cp : Nat} {ad : Addr} {row : Option Nat} {kl : List Int} {m : List (Int × Int)} {n : Nat}
    (MI : Mp wr mb n m) (RI : Kd.R (Kd.int .i64) 3 wr mb (fun k => it + 1 ≤ k) (.slice (some ad) np cp) kl) (SI : it + 1 ≤ wr.heap.size) (hlt : mb < it)
    (hW : Below wr.heap.size wr W) (hg : W.grownBy w9 row) (hrow : ∀ k, row = some k → it + 1 ≤ k ∧ some k ≠ (Value.slice (some ad) np cp).ownBlock) :
    Mp w9 mb n m ∧ Kd.R (Kd.int .i64) 3 w9 mb (fun k => it + 1 ≤ k) (.slice (some ad) np cp) kl ∧ it + 1 ≤ w9.heap.size :=
  ⟨(MI.below hW).kept hg (fun e => by have := (hrow mb e.symm).1; omega), Kd.R_grown2 (Kd.R_below RI hW) rfl hg (fun k e => (hrow k e).2), Nat.le_trans SI (Nat.le_trans hW.size hg.size)⟩
set_option maxRecDepth 100000 in
set_option maxHeartbeats 64000000 in
theorem jb_calls (A0 : Option Addr) (c0 : Nat) (l0 : List Q) (vd : List Int → Bool) (w : World) (hr0 : Kd.C k39 w A0 l0.length l0) (hl : l0.length ≤ 60)
    (hb : ∀ x ∈ l0, wgb x.f0) (hv : ∀ x ∈ l0, sum_Valid.f [psd x.f0, x.f0] = some (vd x.f0)) :
    Calls Try.prog 22 #[.slice A0 l0.length c0] w fun e w' => ∃ v0_ : Value, e = .returned (.tuple #[v0_, .bool (bres vd l0).2]) ∧ Kd.S k59 59 w' w.heap.size (fun _ => True) v0_ (bres vd l0).1 ∧ Below w.heap.size w w' := by
  have hmk : ∀ W : World, (Instr.makeMap 70 none).run Try.prog W = .ok (.map (some W.heap.size)) (W.alloc (.map #[] 0)) := fun _ => rfl
  have HC := Lib.hid hr0; have HB := Lib.hid hb; have HV := Lib.hid hv; have HL := Lib.hid hl
  clear hr0 hb hv
  go_enter Try.func22, Try.ntmps22
  go_wp2
  obtain ⟨mb, hmb⟩ : ∃ mb, w.heap.size = mb := ⟨_, rfl⟩
  have HMB := Lib.hid hmb
  have HM0 := Lib.hid (show Mp (w.alloc (.map #[] 0)) mb 0 [] from by rw [← hmb]; exact Mp.new w)
  have HW0 := Lib.hid (show Below mb w (w.alloc (.map #[] 0)) from by rw [← hmb]; exact below_alloc (Below.refl _ _) _)
  rw [hmb]
  clear hmk hmb
  generalize w.alloc (.map #[] 0) = wm at HM0 HW0 ⊢
  go_loopw [22] (fun v22 wr => ∃ (k n : Nat) (m : List (Int × Int)), k ≤ l0.length ∧ v22 = .int .i64 (k : Int) ∧ Hid (Mp wr mb n m) ∧ Hid (n ≤ k * 100000) ∧ Hid (bAll vd l0 [] = bAll vd (l0.drop k) m) ∧ Hid (Below mb w wr))
    (fun v22 _ => l0.length - (intOf v22).toNat)
  case atStart => exact ⟨0, 0, [], Nat.zero_le _, rfl, HM0, Lib.hid (Nat.zero_le _), Lib.hid rfl, HW0⟩
  case round =>
    obtain ⟨k, n, m, hk, rfl, HM, HN, HA, HW⟩ := hrel
    by_cases hlt : k < l0.length
    · obtain ⟨ad, A1, c1, had, hx0, hx1, hx2, hx3, hx4, hx5, hx6, hle, hCd⟩ := at_T39 HC.out (k : Int) (by omega) (by omega)
      obtain rfl := had
      have hbw : Below w.heap.size w wr := by rw [HMB.out]; exact HW.out
      replace hx0 := (hbw.cell (World.block_lt_of_cell? w _ hx0)).trans hx0
      replace hx1 := (hbw.cell (World.block_lt_of_cell? w _ hx1)).trans hx1
      replace hx2 := (hbw.cell (World.block_lt_of_cell? w _ hx2)).trans hx2
      replace hx3 := (hbw.cell (World.block_lt_of_cell? w _ hx3)).trans hx3
      replace hx4 := (hbw.cell (World.block_lt_of_cell? w _ hx4)).trans hx4
      replace hx5 := (hbw.cell (World.block_lt_of_cell? w _ hx5)).trans hx5
      replace hx6 := (hbw.cell (World.block_lt_of_cell? w _ hx6)).trans hx6
      have hg : l0.getD k z39 = l0[k] := by rw [List.getD_eq_getElem?_getD, List.getElem?_eq_getElem hlt]; rfl
      have hrd : rd_T39 l0 (k : Int) = l0[k] := by rw [← hg]; rfl
      simp only [Int.toNat_natCast, hrd] at hx0 hx1 hx2 hx3 hx4 hx5 hx6 hle hCd
      have hAt := bAll_at vd l0 k hlt m
      have hbx := HB.out l0[k] (List.getElem_mem hlt)
      have hvx := HV.out l0[k] (List.getElem_mem hlt)
      obtain ⟨x, hx⟩ : ∃ x, l0[k] = x := ⟨_, rfl⟩
      rw [hx] at hx0 hx1 hx2 hx3 hx4 hx5 hx6 hle hCd hAt hbx hvx
      obtain ⟨r, hr⟩ : ∃ r, wgget (vd x.f0) x.f0 = r := ⟨_, rfl⟩
      have hno := wgget_no (vd x.f0) x.f0
      have HG := Lib.hid (fun (W : World) (hW : Below w.heap.size w W) => show Calls Try.prog 35 #[.slice A1 x.f0.length c1, .int .u32 1, .int .u32 2] W (fun e w' => Below W.heap.size W w' ∧ ∃ v13 v14, e = .returned (.tuple #[.agg (wgcells (wgget (vd x.f0) x.f0).1 v13 v14), .int .i64 (wgno (wgget (vd x.f0) x.f0).2)]) ∧ Kd.R k112 112 w' W.heap.size (fun _ => True) v13 (wgget (vd x.f0) x.f0).1.f13 ∧ Kd.R (Kd.int .u8) 5 w' W.heap.size (fun _ => True) v14 (wgget (vd x.f0) x.f0).1.f14) from wg_Get A1 c1 x.f0 1 2 (vd x.f0) W (Kd.C_below hCd hW) hle hbx hvx)
      have hdl := f14_len (vd x.f0) x.f0
      have hdb := f14_byts (vd x.f0) x.f0 hbx
      rw [hr] at hno HG hdl hdb
      have HDL := Lib.hid hdl; have HDB := Lib.hid hdb; clear hdl hdb
      have hseg : seg vd x = if r.2 = 0 ∧ 0 ≤ x.f2 ∧ x.f2 ≤ 1125899906842624 then some r.1.f14 else none := by rw [seg, hr]
      have HSG := Lib.hid hseg; have HAT := Lib.hid hAt; have HNO := Lib.hid hno; have HBW := Lib.hid hbw
      have hlt' : (k : Int) < l0.length := by omega
      clear hg hrd hx hAt hbx hvx hle hCd hr hseg hno hbw
      by_cases hr0 : r.2 = 0
      case neg =>
        have q0 : (wgno r.2 != 0) = true := by rcases HNO.out with h | h | h | h <;> rw [h] <;> first | exact absurd h hr0 | rfl
        have HR := Lib.hid (show ¬ (r.2 = 0 ∧ 0 ≤ x.f2 ∧ x.f2 ≤ 1125899906842624) from fun h => hr0 h.1)
        clear hr0
        go_wp2_with (first | (go_at_call 35; refine (HG.out _ (below_alloc HBW.out _)).mono ?_; rintro e w2 ⟨hb2, v13, v14, rfl, h13, h14⟩; obtain ⟨A13, c13, rfl⟩ := Kd.R_slice h13; obtain ⟨A14, c14, rfl⟩ := Kd.R_slice h14; have HB2 := Lib.hid hb2; have H14 := Lib.hid h14; have HX2 := Lib.hid (blk_below (blk_new wr (.cells #[.slice A1 x.f0.length c1, .int .i64 x.f1, .int .i64 x.f2, .int .i64 x.f3, .int .i64 x.f4, .int .i64 x.f5, .int .i64 x.f6] 39)) hb2); clear hb2 h13 h14) | (refine gate_ (.store 53 (.tmp 7) (.tmp 30)) rfl ?_; refine wg_store_op rfl rfl 53 (.tmp 7) (.tmp 30) rfl _ _ _ 53 _ rfl rfl rfl (by kernel_rfl) rfl (blk_new _ _) rfl ?_; intro w10 h10 hg10; have H10 := Lib.hid h10; have HG10 := Lib.hid hg10; have HX10 := Lib.hid (blk_grown (blk_alloc HX2.out _) hg10 (fun e => by have e1 := Option.some.inj e; have e2 := blk_lt HX2.out; omega)); have k2 : w10.cell? ⟨wr.heap.size, 2, none⟩ = some (.int .i64 x.f2) := (blk_cell HX10.out 2).trans rfl; clear h10 hg10))
        go_ret2
        have hres : bres vd l0 = ([], false) := by rw [bres, HA.out, HAT.out, HSG.out, if_neg HR.out]; rfl
        rw [hres]
        have hb0 := (below_alloc HBW.out (.cells #[.slice A1 x.f0.length c1, .int .i64 x.f1, .int .i64 x.f2, .int .i64 x.f3, .int .i64 x.f4, .int .i64 x.f5, .int .i64 x.f6] 39)).trans (HB2.out.mono (below_alloc HBW.out _).size)
        exact ⟨_, rfl, Kd.S_nil _ _ _ _ _, (below_alloc hb0 _).grown HG10.out (below_alloc hb0 _).size (fun r e => by cases e; exact hb0.size)⟩
      have q0 : wgno r.2 = 0 := by rw [hr0]; rfl
      rw [q0] at HG
      by_cases hf1 : x.f2 < 0
      case pos =>
        have HR := Lib.hid (show ¬ (r.2 = 0 ∧ 0 ≤ x.f2 ∧ x.f2 ≤ 1125899906842624) from fun h => by omega)
        go_wp2_with (first | (go_at_call 35; refine (HG.out _ (below_alloc HBW.out _)).mono ?_; rintro e w2 ⟨hb2, v13, v14, rfl, h13, h14⟩; obtain ⟨A13, c13, rfl⟩ := Kd.R_slice h13; obtain ⟨A14, c14, rfl⟩ := Kd.R_slice h14; have HB2 := Lib.hid hb2; have H14 := Lib.hid h14; have HX2 := Lib.hid (blk_below (blk_new wr (.cells #[.slice A1 x.f0.length c1, .int .i64 x.f1, .int .i64 x.f2, .int .i64 x.f3, .int .i64 x.f4, .int .i64 x.f5, .int .i64 x.f6] 39)) hb2); clear hb2 h13 h14) | (refine gate_ (.store 53 (.tmp 7) (.tmp 30)) rfl ?_; refine wg_store_op rfl rfl 53 (.tmp 7) (.tmp 30) rfl _ _ _ 53 _ rfl rfl rfl (by kernel_rfl) rfl (blk_new _ _) rfl ?_; intro w10 h10 hg10; have H10 := Lib.hid h10; have HG10 := Lib.hid hg10; have HX10 := Lib.hid (blk_grown (blk_alloc HX2.out _) hg10 (fun e => by have e1 := Option.some.inj e; have e2 := blk_lt HX2.out; omega)); have k2 : w10.cell? ⟨wr.heap.size, 2, none⟩ = some (.int .i64 x.f2) := (blk_cell HX10.out 2).trans rfl; clear h10 hg10))
        go_ret2
        have hres : bres vd l0 = ([], false) := by rw [bres, HA.out, HAT.out, HSG.out, if_neg HR.out]; rfl
        rw [hres]
        have hb0 := (below_alloc HBW.out (.cells #[.slice A1 x.f0.length c1, .int .i64 x.f1, .int .i64 x.f2, .int .i64 x.f3, .int .i64 x.f4, .int .i64 x.f5, .int .i64 x.f6] 39)).trans (HB2.out.mono (below_alloc HBW.out _).size)
        exact ⟨_, rfl, Kd.S_nil _ _ _ _ _, (below_alloc hb0 _).grown HG10.out (below_alloc hb0 _).size (fun r e => by cases e; exact hb0.size)⟩
      by_cases hf2 : x.f2 > 1125899906842624
      case pos =>
        have HR := Lib.hid (show ¬ (r.2 = 0 ∧ 0 ≤ x.f2 ∧ x.f2 ≤ 1125899906842624) from fun h => by omega)
        go_wp2_with (first | (go_at_call 35; refine (HG.out _ (below_alloc HBW.out _)).mono ?_; rintro e w2 ⟨hb2, v13, v14, rfl, h13, h14⟩; obtain ⟨A13, c13, rfl⟩ := Kd.R_slice h13; obtain ⟨A14, c14, rfl⟩ := Kd.R_slice h14; have HB2 := Lib.hid hb2; have H14 := Lib.hid h14; have HX2 := Lib.hid (blk_below (blk_new wr (.cells #[.slice A1 x.f0.length c1, .int .i64 x.f1, .int .i64 x.f2, .int .i64 x.f3, .int .i64 x.f4, .int .i64 x.f5, .int .i64 x.f6] 39)) hb2); clear hb2 h13 h14) | (refine gate_ (.store 53 (.tmp 7) (.tmp 30)) rfl ?_; refine wg_store_op rfl rfl 53 (.tmp 7) (.tmp 30) rfl _ _ _ 53 _ rfl rfl rfl (by kernel_rfl) rfl (blk_new _ _) rfl ?_; intro w10 h10 hg10; have H10 := Lib.hid h10; have HG10 := Lib.hid hg10; have HX10 := Lib.hid (blk_grown (blk_alloc HX2.out _) hg10 (fun e => by have e1 := Option.some.inj e; have e2 := blk_lt HX2.out; omega)); have k2 : w10.cell? ⟨wr.heap.size, 2, none⟩ = some (.int .i64 x.f2) := (blk_cell HX10.out 2).trans rfl; clear h10 hg10))
        go_ret2
        have hres : bres vd l0 = ([], false) := by rw [bres, HA.out, HAT.out, HSG.out, if_neg HR.out]; rfl
        rw [hres]
        have hb0 := (below_alloc HBW.out (.cells #[.slice A1 x.f0.length c1, .int .i64 x.f1, .int .i64 x.f2, .int .i64 x.f3, .int .i64 x.f4, .int .i64 x.f5, .int .i64 x.f6] 39)).trans (HB2.out.mono (below_alloc HBW.out _).size)
        exact ⟨_, rfl, Kd.S_nil _ _ _ _ _, (below_alloc hb0 _).grown HG10.out (below_alloc hb0 _).size (fun r e => by cases e; exact hb0.size)⟩
      have HR := Lib.hid (show r.2 = 0 ∧ 0 ≤ x.f2 ∧ x.f2 ≤ 1125899906842624 from ⟨hr0, by omega, by omega⟩)
      have HF := Lib.hid (show 0 ≤ x.f2 ∧ x.f2 ≤ 1125899906842624 from ⟨by omega, by omega⟩)
      obtain ⟨d, hd⟩ : ∃ d, r.1.f14 = d := ⟨_, rfl⟩
      have HDL2 := Lib.hid (show d.length ≤ 65000 from by rw [← hd]; exact HDL.out hr0)
      have HDB2 := Lib.hid (show wgb d from by rw [← hd]; exact HDB.out)
      have HA2 := Lib.hid (show bAll vd l0 [] = (bIn x.f2 d 0 m).bind (bAll vd (l0.drop (k + 1))) from by rw [HA.out, HAT.out, HSG.out, if_pos HR.out, hd, Option.bind_some])
      rw [hd] at HG
      clear hd
      go_wp2_with (first | (go_at_call 35; refine (HG.out _ (below_alloc HBW.out _)).mono ?_; rintro e w2 ⟨hb2, v13, v14, rfl, h13, h14⟩; obtain ⟨A13, c13, rfl⟩ := Kd.R_slice h13; obtain ⟨A14, c14, rfl⟩ := Kd.R_slice h14; have HB2 := Lib.hid hb2; have H14 := Lib.hid h14; have HX2 := Lib.hid (blk_below (blk_new wr (.cells #[.slice A1 x.f0.length c1, .int .i64 x.f1, .int .i64 x.f2, .int .i64 x.f3, .int .i64 x.f4, .int .i64 x.f5, .int .i64 x.f6] 39)) hb2); clear hb2 h13 h14) | (refine gate_ (.store 53 (.tmp 7) (.tmp 30)) rfl ?_; refine wg_store_op rfl rfl 53 (.tmp 7) (.tmp 30) rfl _ _ _ 53 _ rfl rfl rfl (by kernel_rfl) rfl (blk_new _ _) rfl ?_; intro w10 h10 hg10; have H10 := Lib.hid h10; have HG10 := Lib.hid hg10; have HX10 := Lib.hid (blk_grown (blk_alloc HX2.out _) hg10 (fun e => by have e1 := Option.some.inj e; have e2 := blk_lt HX2.out; omega)); have k2 : w10.cell? ⟨wr.heap.size, 2, none⟩ = some (.int .i64 x.f2) := (blk_cell HX10.out 2).trans rfl; have k14 : w10.cell? ⟨w2.heap.size, 14, none⟩ = some (.slice A14 d.length c14) := (blk_cell h10 14).trans rfl; clear h10 hg10))
      have hal : Below wr.heap.size wr (wr.alloc (.cells #[.slice A1 x.f0.length c1, .int .i64 x.f1, .int .i64 x.f2, .int .i64 x.f3, .int .i64 x.f4, .int .i64 x.f5, .int .i64 x.f6] 39)) := below_alloc (Below.refl _ _) _
      have hwr2 : Below wr.heap.size wr w2 := hal.trans (HB2.out.mono hal.size)
      have hmbr : mb < wr.heap.size := HM.out.lt
      have M10 := Lib.hid (Mp.kept ((HM.out.below hwr2).below (below_alloc (Below.refl _ _) _)) HG10.out (fun e => by have := Option.some.inj e; have := hwr2.size; omega))
      have B10 := Lib.hid (show Below mb w w10 from by
        have h1 : Below mb w w2 := HW.out.trans (hwr2.mono (Nat.le_of_lt hmbr))
        have h2 := h1.alloc (show mb ≤ w2.heap.size from by have := hwr2.size; omega) (.cells (wgcells z53 (.slice none 0 0) (.slice none 0 0)) 53)
        exact h2.grown HG10.out (by have := h2.size; have := hwr2.size; rw [World.size_alloc]; omega) (fun r e => by cases e; have := hwr2.size; omega))
      have D10 := Lib.hid (Kd.R_mono (Kd.R_grown (Kd.R_below (Kd.R_bound H14.out) (below_alloc (Below.refl _ _) _)) HG10.out (fun k hk e => by have := hk.2.2.1; have := Option.some.inj e; omega)) (fun _ _ => trivial) : Kd.R (Kd.int .u8) 5 w10 (wr.alloc (.cells #[.slice A1 x.f0.length c1, .int .i64 x.f1, .int .i64 x.f2, .int .i64 x.f3, .int .i64 x.f4, .int .i64 x.f5, .int .i64 x.f6] 39)).heap.size (fun _ => True) (.slice A14 d.length c14) d)
      obtain ⟨base, hbase⟩ : ∃ base, (wr.alloc (.cells #[.slice A1 x.f0.length c1, .int .i64 x.f1, .int .i64 x.f2, .int .i64 x.f3, .int .i64 x.f4, .int .i64 x.f5, .int .i64 x.f6] 39)).heap.size = base := ⟨_, rfl⟩
      rw [hbase] at D10
      obtain ⟨bx, hbx⟩ : ∃ bx, wr.heap.size = bx := ⟨_, rfl⟩
      rw [hbx] at HX10 ⊢
      have HMR := Lib.hid (show mb < bx from by omega)
      clear k2 k14 hal hwr2 hmbr hbase
      have hdl := HDL2.out
      go_loopw [47] (fun v47 wi => ∃ (i n2 : Nat) (m2 : List (Int × Int)), i ≤ d.length ∧ v47 = .int .i64 (i : Int) ∧ Hid (Mp wi mb n2 m2) ∧ Hid (n2 ≤ n + i) ∧ Hid (bIn x.f2 d 0 m = bIn x.f2 (d.drop i) i m2) ∧ Hid (Below mb w wi) ∧ Hid (wi.heap[bx]? = some (.cells #[.slice A1 x.f0.length c1, .int .i64 x.f1, .int .i64 x.f2, .int .i64 x.f3, .int .i64 x.f4, .int .i64 x.f5, .int .i64 x.f6] 39 (0, 0))) ∧ Hid (Kd.R (Kd.int .u8) 5 wi base (fun _ => True) (.slice A14 d.length c14) d))
        (fun v47 _ => d.length - (intOf v47).toNat)
      case atStart => exact ⟨0, n, m, Nat.zero_le _, rfl, M10, Lib.hid (Nat.le_refl _), Lib.hid rfl, B10, HX10, D10⟩
      case round =>
        obtain ⟨i, n2, m2, hi, rfl, M, N, A, B, X, D⟩ := hrel
        by_cases hil : i < d.length
        · have hbi := bIn_at x.f2 d i hil m2
          have hcr := HDB2.out d[i] (List.getElem_mem hil)
          obtain ⟨A5, c5, hv5, hcap, hC5⟩ := Kd.R_reads D.out
          obtain ⟨rfl, _, rfl⟩ := Value.slice.inj hv5
          obtain ⟨ad5, hA5, hc5⟩ := Kd.at_int hC5 (i : Int) (by omega) (by omega)
          obtain rfl := hA5
          have hrd5 : rd d (i : Int) = d[i] := by rw [rd, Int.toNat_natCast, List.getD_eq_getElem?_getD, List.getElem?_eq_getElem hil]; rfl
          rw [Int.toNat_natCast, hrd5] at hc5
          obtain ⟨c, hc⟩ : ∃ c, d[i] = c := ⟨_, rfl⟩
          rw [hc] at hbi hcr hc5
          have k2 : wr.cell? ⟨bx, 2, none⟩ = some (.int .i64 x.f2) := (blk_cell X.out 2).trans rfl
          have hF := HF.out
          have hin : In64 (x.f2 + (i : Int)) := ⟨by omega, by omega⟩
          obtain ⟨v, hlook, hval⟩ := M.out.look hin
          have hlk := hlook wr rfl
          have HVAL := Lib.hid hval; have HBI := Lib.hid hbi; have HCR := Lib.hid hcr; have HIN := Lib.hid hin
          have hii : (i : Int) < (d.length : Int) := by omega
          clear hlook hval hbi hcr hrd5 hC5 hcap hv5 hF hin hc
          by_cases hn : mget m2 (x.f2 + (i : Int)) = none
          · rw [hn] at hlk
            simp only [Option.isSome_none] at hlk
            have HNN := Lib.hid hn; clear hn
            obtain ⟨W', hup, hgW, hsW, hM'⟩ := M.out.put (show n2 < Go.maxLen from by have := N.out; have := HN.out; have : Go.maxLen = 9223372036854775807 := rfl; omega) HIN.out HCR.out.1 HCR.out.2 (x := x.f2 + (i : Int)) (v := c) (Or.inl HNN.out)
            obtain ⟨es, cl, hmm⟩ := M.out.map
            have HM' := Lib.hid hM'; have HX' := Lib.hid (jb_cells X.out hmm hgW); have HD' := Lib.hid (jb_data D.out hmm hgW); have HB' := Lib.hid (B.out.grown hgW (by have := B.out.size; have := M.out.lt; omega) (fun r e => by cases e; exact Nat.le_refl _))
            have HFI := Lib.hid (show fits m2 (x.f2 + (i : Int)) c = true from by rw [fits, HNN.out]; rfl)
            clear hgW hsW hM' hmm
            go_wp2
            go_roundw
            case rel => exact ⟨i + 1, n2 + 1, mput m2 (x.f2 + (i : Int)) c, hil, by first | rfl | (simp; done), HM', Lib.hid (by have := N.out; omega), Lib.hid (by rw [A.out, HBI.out, if_pos HFI.out]), HB', HX', HD'⟩
            case measure => simp [intOf]; omega
          · obtain ⟨u, hu⟩ : ∃ u, mget m2 (x.f2 + (i : Int)) = some u := Option.ne_none_iff_exists'.1 hn
            rw [hu] at hlk
            simp only [Option.isSome_some] at hlk
            obtain rfl := HVAL.out u hu
            have HU := Lib.hid hu; clear hu hn
            by_cases hvc : v = c
            · subst hvc
              obtain ⟨W', hup, hgW, hsW, hM'⟩ := M.out.put (show n2 < Go.maxLen from by have := N.out; have := HN.out; have : Go.maxLen = 9223372036854775807 := rfl; omega) HIN.out HCR.out.1 HCR.out.2 (x := x.f2 + (i : Int)) (v := v) (Or.inr HU.out)
              obtain ⟨es, cl, hmm⟩ := M.out.map
              have HM' := Lib.hid hM'; have HX' := Lib.hid (jb_cells X.out hmm hgW); have HD' := Lib.hid (jb_data D.out hmm hgW); have HB' := Lib.hid (B.out.grown hgW (by have := B.out.size; have := M.out.lt; omega) (fun r e => by cases e; exact Nat.le_refl _))
              have HFI := Lib.hid (show fits m2 (x.f2 + (i : Int)) v = true from by rw [fits, HU.out]; simp)
              clear hgW hsW hM' hmm
              go_wp2
              go_roundw
              case rel => exact ⟨i + 1, n2 + 1, mput m2 (x.f2 + (i : Int)) v, hil, by first | rfl | (simp; done), HM', Lib.hid (by have := N.out; omega), Lib.hid (by rw [A.out, HBI.out, if_pos HFI.out]), HB', HX', HD'⟩
              case measure => simp [intOf]; omega
            · have q1 : (v != c) = true := bne_iff_ne.mpr hvc
              have HFI := Lib.hid (show ¬ fits m2 (x.f2 + (i : Int)) c = true from by rw [fits, HU.out]; simp [hvc])
              clear hvc
              go_wp2
              go_ret2
              have hres : bres vd l0 = ([], false) := by rw [bres, HA2.out, A.out, HBI.out, if_neg HFI.out]; rfl
              rw [hres]
              exact ⟨_, rfl, Kd.S_nil _ _ _ _ _, by rw [HMB.out]; exact B.out⟩
        · obtain rfl : i = d.length := by omega
          have HAA := Lib.hid (show bAll vd l0 [] = bAll vd (l0.drop (k + 1)) m2 from by rw [HA2.out, A.out, List.drop_length]; rfl)
          go_wp2
          go_roundw
          case rel => exact ⟨k + 1, n2, m2, hlt, by first | rfl | (simp; done), M, Lib.hid (by have := N.out; have := HN.out; have := HDL2.out; omega), HAA, B⟩
          case measure => simp [intOf]; omega
    · obtain rfl : k = l0.length := by omega
      have hm := HA.out
      rw [List.drop_length, bAll] at hm
      have hgood := good_all vd l0 [] m good_nil hm
      have HRES := Lib.hid (show bres vd l0 = (pieces m, true) from by rw [bres, hm])
      have HGD := Lib.hid hgood
      obtain ⟨Dm, hD, hk0⟩ := HM.out
      have HK := Lib.hid hk0
      have hsz := hD.size_le
      have HSZ := Lib.hid hsz
      have hlt0 := HM.out.lt
      clear hm hgood hk0 hsz
      go_wp2_with (at_range; refine wpList_range_own wr rfl (.tmp 75) 70 rfl 3 5 keyed Try.underlying70 (plainElem Try.prog 5) mb n Dm rfl hD ?_; intro w0 hrg0 hg0 hs0)
      go_frame
      obtain ⟨it, hit⟩ : ∃ it, wr.heap.size = it := ⟨_, rfl⟩
      rw [hit] at hrg0 hs0 hlt0 ⊢
      have RG0 := Lib.hid hrg0
      have B0 := Lib.hid (HW.out.grown hg0 (by have := HW.out.size; omega) (fun r e => by cases e))
      have S0 := Lib.hid (show it + 1 ≤ w0.heap.size from by omega)
      have HLT := Lib.hid hlt0
      clear hrg0 hg0 hs0 hlt0 hit hD
      go_loopw [13] (fun v13 wi => ∃ (left : Lit → Bool) (cnt : Nat) (ps : List Int), Hid (wi.ranges Try.prog 3 (plainElem Try.prog 5) mb it n Dm left cnt) ∧ Hid (Kd.R (Kd.int .i64) 3 wi mb (fun k => it + 1 ≤ k) v13 ps) ∧ Hid (Below mb w wi) ∧ Hid (ps.length + cnt ≤ n) ∧ Hid ps.Nodup ∧ Hid (∀ x, x ∈ ps ↔ (In64 x ∧ (mget m x).isSome = true ∧ left (.int .i64 x) = false)) ∧ Hid (it + 1 ≤ wi.heap.size))
        (fun _ wi => wi.rangeLeft mb it)
      case atStart => exact ⟨_, _, [], RG0, Lib.hid (Kd.R_nil _ _ _ _ _), B0, Lib.hid (by have := HSZ.out; simpa using this), Lib.hid List.nodup_nil, Lib.hid (fun x => ⟨(fun h => by cases h), (fun h => by have := (HK.out x h.1).1; rw [h.2.2] at this; rw [h.2.1] at this; cases this)⟩), S0⟩
      case round =>
        obtain ⟨left, cnt, ps, RG, RP, B, N, ND, IFF, SZ⟩ := hrel
        go_wp2_with ((at_next; refine wpList_next_ranges_ii wr rfl (.tmp 76) rfl 3 5 .i64 .u8 keyed Try.underlying3 Try.underlying5 mb it n Dm left cnt rfl RG.out ?_ ?_))
        case refine_1 =>
          intro hc0 hl0
          obtain ⟨Ap, cp, hvp⟩ := Kd.R_slice RP.out
          subst hvp
          have hperm : ps.Perm (ks m) := (List.perm_ext_iff_of_nodup ND.out HGD.out.1).2 (fun a => by
            rw [IFF.out a, mget_mem, hl0]
            exact ⟨fun h => h.2.1, fun h => ⟨by have := HGD.out.2 a ((mget_mem m a).2 h); exact ⟨by omega, by omega⟩, h, rfl⟩⟩)
          have hjs : js ps = js (ks m) := js_perm_eq hperm
          have hpl : ps.length ≤ 6000000 := by have := N.out; have := HN.out; omega
          have M1 : Mp wr mb n m := ⟨Dm, RG.out.owns, HK.out⟩
          have hne : some mb ≠ (Value.slice Ap ps.length cp).ownBlock := fun e => by have := RP.out.1 _ e.symm; have := HLT.out; omega
          have hob : ∀ r, (Value.slice Ap ps.length cp).ownBlock = some r → it + 1 ≤ r := RP.out.1
          have hklen : (js ps).length = ps.length := js_len ps
          obtain ⟨kl, hkl⟩ : ∃ kl, js ps = kl := ⟨_, rfl⟩
          have HPC := Lib.hid (show pieces m = kl.foldl (pstep m) [] from by rw [pieces, ← hkl, hjs]; rfl)
          rw [hkl] at hklen
          have hso := jb_sort wr mb (fun k => it + 1 ≤ k) (.slice Ap ps.length cp) ps (by omega) RP.out
          rw [hkl] at hso
          have HSO := Lib.hid hso
          obtain ⟨np, hnp⟩ : ∃ np, ps.length = np := ⟨_, rfl⟩
          rw [hnp] at hklen hpl hne HSO hob ⊢
          have HOB := Lib.hid hob; clear hob
          have HM1 := Lib.hid M1; have HNE := Lib.hid hne; have HKL := Lib.hid hklen; have HPL := Lib.hid hpl
          have hkin : ∀ x ∈ kl, (mget m x).isSome = true ∧ 0 ≤ x ∧ x ≤ 1125899906942624 := fun x hx => by
            have h1 : x ∈ ps := (js_perm ps).mem_iff.1 (by rw [hkl]; exact hx)
            have h2 : x ∈ ks m := hperm.mem_iff.1 h1
            exact ⟨(mget_mem m x).1 h2, HGD.out.2 x h2⟩
          have HKIN := Lib.hid hkin
          clear hperm hjs M1 hne hso hkl hklen hpl hl0 hc0 hkin
          go_wp2_with (go_at_call 36; refine HSO.out.mono ?_; rintro e ws ⟨rfl, hRs, hgs⟩; have RS := Lib.hid hRs; have MS := Lib.hid (HM1.out.kept hgs HNE.out); have BS := Lib.hid (B.out.grown hgs (by have := B.out.size; have := HLT.out; have := SZ.out; omega) (fun r e => by have := HOB.out _ e; have := HLT.out; omega)); have SS := Lib.hid (Nat.le_trans SZ.out hgs.size); clear hRs hgs)
          go_loopw [89, 15] (fun v89 v15 wi => ∃ (i : Nat) (out : List P), i ≤ np ∧ v89 = .int .i64 (i : Int) ∧ Hid (Kd.S k59 59 wi mb (fun k => it + 1 ≤ k ∧ some k ≠ (Value.slice Ap np cp).ownBlock) v15 out) ∧ Hid ((kl.drop i).foldl (pstep m) out = pieces m) ∧ Hid (Mp wi mb n m) ∧ Hid (Kd.R (Kd.int .i64) 3 wi mb (fun k => it + 1 ≤ k) (.slice Ap np cp) kl) ∧ Hid (Below mb w wi) ∧ Hid (out.length ≤ i) ∧ Hid (it + 1 ≤ wi.heap.size) ∧ Hid (PB i out))
            (fun v89 _ _ => np - (intOf v89).toNat)
          case atStart => exact ⟨0, [], Nat.zero_le _, rfl, Lib.hid (Kd.S_nil _ _ _ _ _), Lib.hid (by rw [List.drop_zero]; exact HPC.out.symm), MS, RS, BS, Lib.hid (Nat.le_refl _), SS, Lib.hid (fun p hp => by cases hp)⟩
          case round =>
            obtain ⟨i, out, hi, rfl, SO, F, MI, RI, BI, OL, SI, PO⟩ := hrel
            by_cases hin : i < np
            · obtain ⟨A5, c5, hv5, hcap, hC5⟩ := Kd.R_reads RI.out
              obtain ⟨rfl, hkn, rfl⟩ := Value.slice.inj hv5
              have hil : i < kl.length := by omega
              obtain ⟨ad5, hA5, hc5⟩ := Kd.at_int hC5 (i : Int) (by omega) (by omega)
              obtain rfl := hA5
              have hrd5 : rd kl (i : Int) = kl[i] := by rw [rd, Int.toNat_natCast, List.getD_eq_getElem?_getD, List.getElem?_eq_getElem hil]; rfl
              rw [Int.toNat_natCast, hrd5] at hc5
              have hki := HKIN.out kl[i] (List.getElem_mem hil)
              have hF : (kl.drop (i + 1)).foldl (pstep m) (pstep m out kl[i]) = pieces m := by rw [← F.out, List.drop_eq_getElem_cons hil, List.foldl_cons]
              obtain ⟨x, hx⟩ : ∃ x, kl[i] = x := ⟨_, rfl⟩
              rw [hx] at hc5 hki hF
              obtain ⟨u, hu⟩ := Option.isSome_iff_exists.1 hki.1
              have hin64 : In64 x := ⟨by omega, by omega⟩
              have hlk := MI.out.look1 hin64 hu
              have hlkn : ∀ nd, (Instr.lookup 70 (.map (some mb)) (.int .i64 x) false).run Try.prog (wr.drewN nd) = .ok (.int .u8 u) (wr.drewN nd) := fun nd => hlk _ rfl
              have HLK := Lib.hid hlk; have HF := Lib.hid hF; have HU := Lib.hid hu; have HX := Lib.hid hki.2
              have hps := pb_step (m := m) (x := x) PO.out hki.2
              have HPS := Lib.hid hps.1; have HPN := Lib.hid hps.2; clear hps
              have hii : (i : Int) < (np : Int) := by omega
              clear hlk hF hu hki hx hrd5 hC5 hcap hv5 hkn hil hin64
              obtain ⟨A15, c15, hv15⟩ := Kd.S_slice SO.out
              subst hv15
              by_cases hno : out.length = 0
              · obtain rfl := List.length_eq_zero_iff.1 hno
                clear hno
                simp only [List.length_nil] at SO ⊢
                go_upto_region 28 with (fail)
                go_quiet (fail)
                have hpc := jb_piece (nq := nq) (u := u) (x := x) SO.out MI.out RI.out BI.out SI.out
                go_wp2_with ((with_reducible refine gate_builtin (b := .append) (xs := #[.tmp 131, .tmp 138]) rfl ?_); at_builtin; refine hold_of ?_)
                show _
                unfold Hold
                refine Kd.S_append k59 (w0 := w) mb rfl (.tmp 131) (.tmp 138) 40 59 (.agg #[(.int .i64 0), (.slice none 0 0)]) 32 rfl Try.underlying40 info59 rfl (by decide) (by decide) (.slice A15 0 c15) [] ⟨x, [u]⟩ [.int .i64 x, .slice (some ⟨wr.heap.size, 0, none⟩) 1 1] (fun k => it + 1 ≤ k ∧ some k ≠ (Value.slice (some ad5) np cp).ownBlock) (fun k => k = wr.heap.size) rfl (by rw [World.size_alloc]; rfl) hpc.1 hpc.2.1 hpc.2.2.1 hpc.2.2.2.1 hpc.2.2.2.2.1 hpc.2.2.2.2.2 ?aL ?_
                case aL => have q1 := OL.out; have q2 := HPL.out; omega
                intro v1 w9 ho hb9 hg9 hat9; have HO := Lib.hid ho; have HB9 := Lib.hid hb9; have HG9 := Lib.hid hg9; clear ho hb9 hg9 hat9
                have haf := jb_after MI.out RI.out SI.out HLT.out (below_alloc (pw_below_drewN (Below.refl wr.heap.size wr) nq) (.cells #[.int .u8 u] 5)) HG9.out (fun k e => (Kd.S_R SO.out).1 k e)
                have HM9 := Lib.hid haf.1; have HR9 := Lib.hid haf.2.1; have HS9 := Lib.hid haf.2.2
                have e1 : [] ++ [(⟨x, [u]⟩ : P)] = pstep m [] x := by rw [pstep, HU.out]; rfl
                rw [e1] at HO
                clear haf
                have hnp6 := HPL.out
                go_wp2
                go_roundw
                case rel => exact ⟨i + 1, pstep m [] x, hin, by first | rfl | (simp; done), HO, HF, HM9, HR9, HB9, Lib.hid (Nat.le_trans HPN.out (by simp)), HS9, HPS⟩
                case measure => simp [intOf]; omega
              · obtain ⟨g, cap, hfm, hbg, hgl, _⟩ := Kd.S_form SO.out (by omega)
                obtain ⟨rfl, _, rfl⟩ := Value.slice.inj hfm
                clear hfm
                obtain ⟨nn, hnn⟩ : ∃ nn, out.length = nn + 1 := ⟨out.length - 1, by omega⟩
                obtain ⟨oki, c, hcl, hM, hcc, hfr, hoki, hH⟩ := Kd.S_elem SO.out z59 (nn : Int) (by omega) (by omega)
                obtain ⟨ve, rfl, hve⟩ := k59_openM hM
                obtain ⟨l, hl, hlast, hset⟩ := last_nn out nn hnn
                rw [Int.toNat_natCast, hl] at hcc hve hH
                obtain ⟨A1, c1, rfl⟩ := Kd.R_slice hve
                have hx0 : wr.cell? ⟨g, nn * 2, none⟩ = some (.int .i64 l.f0) := by have h := hcc 0 _ rfl; exact h
                have hx1 : wr.cell? ⟨g, nn * 2 + 1, none⟩ = some (.slice A1 l.f1.length c1) := by have h := hcc 1 _ rfl; exact h
                rw [hnn] at SO OL hH ⊢
                have HH := Lib.hid hH
                have hN6 : nn ≤ 6000000 := by have := OL.out; have := HPL.out; omega
                have hw1 : IntKind.i64.wrap (nn : Int) = (nn : Int) := IntWalk.i64_in _ (by omega)
                have hlt1 : (nn : Int) < (nn : Int) + 1 := by omega
                have hpl := PO.out l (List.mem_of_getLast? hlast)
                have hw2 : IntKind.i64.wrap (l.f0 + (l.f1.length : Int)) = l.f0 + (l.f1.length : Int) := IntWalk.i64_in _ (by have := HPL.out; omega)
                have HPP := Lib.hid hpl; clear hpl
                have HCC := Lib.hid hcc; have HVE := Lib.hid hve; have HNN := Lib.hid hnn; have HLA := Lib.hid hlast; have HSET := Lib.hid hset
                have HFR := Lib.hid hfr; have HOK := Lib.hid hoki
                clear hcc hve hnn hl hM hcl hno hlast hset hfr hoki hH
                by_cases ht : l.f0 + (l.f1.length : Int) = x
                · have HT := Lib.hid ht
                  have hw3 : IntKind.i64.wrap x = x := IntWalk.i64_in _ (by have := HX.out; omega)
                  have hw4 : wrap64 x = x := by have h_ := HX.out; unfold wrap64; omega
                  have KI := Lib.hid hlt1
                  have KN := Lib.hid (show (l.f1.length + 1) * 1 ≤ 140737488355328 from by have := HPP.out; have := HPL.out; omega)
                  have K0 := Lib.hid (fun (W : World) (hW : Below wr.heap.size wr W) => show W.cell? ⟨g, nn * 2 + 1, none⟩ = some (.slice A1 l.f1.length c1) from (hW.cell (World.block_lt_of_cell? wr _ hx1)).trans hx1)
                  have K1 := Lib.hid (fun (W : World) (hW : Below wr.heap.size wr W) => show (Instr.lookup 70 (.map (some mb)) (.int .i64 x) false).run Try.prog W = .ok (.int .u8 u) W from HLK.out W (hW.block mb MI.out.lt))
                  have KL := Lib.hid (show mb ≤ wr.heap.size from Nat.le_of_lt MI.out.lt)
                  have KF := Lib.hid (fun (k : Nat) (hk : wr.heap.size ≤ k) => show oki k ∨ (it + 1 ≤ k ∧ some k ≠ (Value.slice (some ad5) np cp).ownBlock) ∧ wr.heap.size ≤ k from .inr ⟨⟨Nat.le_trans SI.out hk, fun e => by have := Kd.R_lt RI.out k e.symm; omega⟩, hk⟩)
                  go_upto_region 28 with (fail)
                  go_quiet (fail)
                  go_upto_region 29 with (fail)
                  clear hx0 hx1 hlkn
                  -- REG29
                  refine start_ (n := 17) (S := fun w' => w'.cell? ⟨g, nn * 2 + 1, none⟩ = some (.slice A1 l.f1.length c1) ∧ (Instr.lookup 70 (.map (some mb)) (.int .i64 x) false).run Try.prog w' = .ok (.int .u8 u) w') (ds := [13, 16]) #[O,O,O,O,O,O,O,O,O,O,O,O,O,O,O,O,O] (by kernel_rfl) rfl rfl ⟨(K0.out _ (by repeat (first | exact (Below.refl wr.heap.size wr) | with_reducible apply below_drew1 | with_reducible refine pw_below_drewN ?_ _ | with_reducible refine below_alloc ?_ _))), (K1.out _ (by repeat (first | exact (Below.refl wr.heap.size wr) | with_reducible apply below_drew1 | with_reducible refine pw_below_drewN ?_ _ | with_reducible refine below_alloc ?_ _)))⟩ (fun hHeld => ?_)
                  refine pure_ (i := 0) (N := some 115) (v := ?_) (a' := ?_) #[I,O,O,O,O,O,O,O,O,O,O,O,O,O,O,O,O] rfl rfl (by kernel_rfl) (fun _ _ _ h => h) (Or.inl ⟨by rfl, ?_⟩) ?_ ?_
                  rotate_left
                  · intro w'
                    go_simp
                    with_reducible rfl
                  rotate_left
                  · simp only [Act.put, sA_, sZ_, sS_, i64_w, i32_w]
                    rfl
                  refine pure_ (i := 1) (N := some 116) (v := ?_) (a' := ?_) #[I,I,O,O,O,O,O,O,O,O,O,O,O,O,O,O,O] rfl rfl (by kernel_rfl) (fun _ _ _ h => h) (Or.inl ⟨by rfl, ?_⟩) ?_ ?_
                  rotate_left
                  · intro w'
                    go_simp
                    with_reducible rfl
                  rotate_left
                  · simp only [Act.put, sA_, sZ_, sS_, i64_w, i32_w]
                    rfl
                  refine pure_ (i := 2) (N := some 117) (v := ?_) (a' := ?_) #[I,I,I,O,O,O,O,O,O,O,O,O,O,O,O,O,O] rfl rfl (by kernel_rfl) (fun _ _ _ h => h) (Or.inl ⟨by rfl, ?_⟩) ?_ ?_
                  rotate_left
                  · intro w'
                    go_simp
                    with_reducible rfl
                  rotate_left
                  · simp only [Act.put, sA_, sZ_, sS_, i64_w, i32_w]
                    rfl
                  refine pure_ (i := 3) (N := some 118) (v := ?_) (a' := ?_) #[I,I,I,I,O,O,O,O,O,O,O,O,O,O,O,O,O] rfl rfl (by kernel_rfl) (fun _ _ _ h => h) (Or.inl ⟨by rfl, ?_⟩) ?_ ?_
                  rotate_left
                  · intro w'
                    go_simp
                    with_reducible rfl
                  rotate_left
                  · simp only [Act.put, sA_, sZ_, sS_, i64_w, i32_w]
                    rfl
                  refine pure_ (i := 4) (N := some 119) (v := ?_) (a' := ?_) #[I,I,I,I,I,O,O,O,O,O,O,O,O,O,O,O,O] rfl rfl (by kernel_rfl) (fun _ _ _ h => h) (Or.inl ⟨by rfl, ?_⟩) ?_ ?_
                  rotate_left
                  · intro w'
                    go_simp
                    with_reducible rfl
                  rotate_left
                  · simp only [Act.put, sA_, sZ_, sS_, i64_w, i32_w]
                    rfl
                  refine pure_ (i := 5) (N := some 120) (v := ?_) (a' := ?_) #[I,I,I,I,I,I,O,O,O,O,O,O,O,O,O,O,O] rfl rfl (by kernel_rfl) (fun _ _ _ h => h) (Or.inl ⟨by rfl, ?_⟩) ?_ ?_
                  rotate_left
                  · intro w'
                    go_simp
                    with_reducible rfl
                  rotate_left
                  · simp only [Act.put, sA_, sZ_, sS_, i64_w, i32_w]
                    rfl
                  refine pure_ (i := 6) (N := some 121) (v := ?_) (a' := ?_) #[I,I,I,I,I,I,I,O,O,O,O,O,O,O,O,O,O] rfl rfl (by kernel_rfl) (fun _ _ _ h => h) (Or.inl ⟨by rfl, ?_⟩) ?_ ?_
                  rotate_left
                  · intro w'
                    go_simp
                    with_reducible rfl
                  rotate_left
                  · simp only [Act.put, sA_, sZ_, sS_, i64_w, i32_w]
                    rfl
                  refine pure_ (i := 7) (N := some 122) (v := ?_) (a' := ?_) #[I,I,I,I,I,I,I,I,O,O,O,O,O,O,O,O,O] rfl rfl (by kernel_rfl) (fun _ _ _ h => h) (Or.inl ⟨by rfl, ?_⟩) ?_ ?_
                  rotate_left
                  · intro w'
                    go_simp
                    with_reducible rfl
                  rotate_left
                  · simp only [Act.put, sA_, sZ_, sS_, i64_w, i32_w]
                    rfl
                  refine pure_ (i := 9) (N := some 124) (v := ?_) (a' := ?_) #[I,I,I,I,I,I,I,I,O,I,O,O,O,O,O,O,O] rfl rfl (by kernel_rfl) (fun _ _ _ h => h) (Or.inl ⟨by rfl, ?_⟩) ?_ ?_
                  rotate_left
                  · intro w'
                    go_simp
                    with_reducible rfl
                  rotate_left
                  · simp only [Act.put, sA_, sZ_, sS_, i64_w, i32_w]
                    rfl
                  refine pure_ (i := 10) (N := some 125) (v := ?_) (a' := ?_) #[I,I,I,I,I,I,I,I,O,I,I,O,O,O,O,O,O] rfl rfl (by kernel_rfl) (fun _ _ _ h => h) (Or.inl ⟨by rfl, ?_⟩) ?_ ?_
                  rotate_left
                  · intro w'
                    go_simp
                    with_reducible rfl
                  rotate_left
                  · simp only [Act.put, sA_, sZ_, sS_, i64_w, i32_w]
                    rfl
                  refine take_ (i := 8) (N := some 123) (v := ?_) (a' := ?_) #[I,I,I,I,I,I,I,I,I,I,I,O,O,O,O,O,O] rfl rfl (by kernel_rfl) (fun _ _ _ h => h) (Or.inl ⟨by rfl, ?_⟩) hHeld ?_ ?_
                  rotate_left
                  · rintro w' ⟨s0, s1⟩
                    go_simp
                    with_reducible rfl
                  rotate_left
                  · simp only [Act.put, sA_, sZ_, sS_, i64_w, i32_w]
                    rfl
                  refine take_ (i := 11) (N := some 126) (v := ?_) (a' := ?_) #[I,I,I,I,I,I,I,I,I,I,I,I,O,O,O,O,O] rfl rfl (by kernel_rfl) (fun _ _ _ h => h) (Or.inl ⟨by rfl, ?_⟩) hHeld ?_ ?_
                  rotate_left
                  · rintro w' ⟨s0, s1⟩
                    go_simp
                    with_reducible rfl
                  rotate_left
                  · simp only [Act.put, sA_, sZ_, sS_, i64_w, i32_w]
                    rfl
                  refine one_ (i := 12) (N := some 127) #[I,I,I,I,I,I,I,I,I,I,I,I,I,O,O,O,O] rfl rfl (by kernel_rfl) (by decide) (fun K hK => ?_)
                  refine value_ (w1 := ?_) (v := ?_) (by rfl) rfl ?_ ?_
                  rotate_left 2
                  · go_simp
                    constructor
                    · rfl
                    · rfl
                  refine hK.out _ _ ⟨(K0.out _ (by repeat (first | exact (Below.refl wr.heap.size wr) | with_reducible apply below_drew1 | with_reducible refine pw_below_drewN ?_ _ | with_reducible refine below_alloc ?_ _))), (K1.out _ (by repeat (first | exact (Below.refl wr.heap.size wr) | with_reducible apply below_drew1 | with_reducible refine pw_below_drewN ?_ _ | with_reducible refine below_alloc ?_ _)))⟩ (fun hHeld => ?_)
                  clear hK K
                  refine norm_ (a' := ?_) ?_ ?_
                  rotate_left
                  · show Act.put _ (some 127) _ = _
                    simp only [Act.put, sA_, sZ_, sS_, i64_w, i32_w]
                    rfl
                  refine last_ (i := 13) (N := some 128) #[I,I,I,I,I,I,I,I,I,I,I,I,I,I,O,O,O] rfl rfl (by kernel_rfl) (by decide) (fun K hK => ?_)
                  refine Kd.R_append_step (Kd.int .u8) (w0 := w) mb (by rfl) (.tmp 123) (.tmp 127) 34 5 (.int .u8 0) 1 (by rfl) Try.underlying34 info5 (by rfl) (by decide) (by decide) (.slice A1 l.f1.length c1) l.f1 u [.int .u8 u] (fun k => oki k ∨ (it + 1 ≤ k ∧ some k ≠ (Value.slice (some ad5) np cp).ownBlock) ∧ wr.heap.size ≤ k) (fun _ => False) (by rfl) (by rfl) (by rfl) (fun _ hk => hk.elim) KF.out (by with_reducible repeat (first | apply Kd.R_drewN | apply Kd.R_drew); exact Kd.R_mono HVE.out (fun _ hk => .inl hk)) (by repeat (first | exact BI.out | with_reducible apply below_drew1 | with_reducible refine pw_below_drewN ?_ _ | with_reducible refine below_alloc ?_ _)) KL.out KN.out ?_
                  intro v9 w9 ho9 hb9 hg9 hat9
                  obtain ⟨A9, c9, rfl⟩ := Kd.R_slice ho9
                  have hh9 := Kd.H_grown (Kd.H_widen (Kd.H_drew (Kd.H_drewN HH.out nq))) hg9 (fun k e => .inl (HVE.out.1 k e))
                  have hx9 : w9.cell? ⟨g, nn * 2 + 1, none⟩ = some (.slice A1 l.f1.length c1) := (Kd.H_at hh9 (Int.natCast_nonneg nn) KI.out).1 1 _ rfl
                  have hf9 : w9.frozen? ⟨g, nn * 2 + 1, none⟩ = false := (Kd.H_at hh9 (Int.natCast_nonneg nn) KI.out).2 1
                  have HH9 := Lib.hid hh9; have HO9 := Lib.hid ho9; have HB9 := Lib.hid hb9; have HG9 := Lib.hid hg9
                  clear hh9 ho9 hb9 hg9 hat9
                  refine hK.out _ _ ?_
                  clear hK K
                  refine norm_ (a' := ?_) ?_ ?_
                  rotate_left
                  · show Act.put _ (some 128) _ = _
                    simp only [Act.put, sA_, sZ_, sS_, i64_w, i32_w]
                    rfl
                  refine pure_ (i := 14) (N := some 129) (v := ?_) (a' := ?_) #[I,I,I,I,I,I,I,I,I,I,I,I,I,I,I,O,O] rfl rfl (by kernel_rfl) (fun _ _ _ h => h) (Or.inl ⟨by rfl, ?_⟩) ?_ ?_
                  rotate_left
                  · intro w'
                    go_simp
                    with_reducible rfl
                  rotate_left
                  · simp only [Act.put, sA_, sZ_, sS_, i64_w, i32_w]
                    rfl
                  refine pure_ (i := 15) (N := some 130) (v := ?_) (a' := ?_) #[I,I,I,I,I,I,I,I,I,I,I,I,I,I,I,I,O] rfl rfl (by kernel_rfl) (fun _ _ _ h => h) (Or.inl ⟨by rfl, ?_⟩) ?_ ?_
                  rotate_left
                  · intro w'
                    go_simp
                    with_reducible rfl
                  rotate_left
                  · simp only [Act.put, sA_, sZ_, sS_, i64_w, i32_w]
                    rfl
                  refine last_ (i := 16) (N := none) #[I,I,I,I,I,I,I,I,I,I,I,I,I,I,I,I,I] rfl rfl (by kernel_rfl) (by decide) (fun K hK => ?_)
                  refine skip_ (w1 := ?_) (by rfl) rfl ?_ ?_
                  rotate_left
                  · go_simp
                    rfl
                  refine hK.out _ _ ?_
                  clear hK K
                  refine done_ (by kernel_rfl) ?_
                  -- END29
                  have hp9 := Kd.S_seg0 HH9.out (Int.natCast_nonneg nn) KI.out (seg := [.slice A9 (l.f1 ++ [u]).length c9]) (j := 1) (show 1 + 1 ≤ 2 from by decide) (x' := ⟨l.f0, l.f1 ++ [u]⟩) (k59_mkM _ _ _ ⟨l.f0, l.f1 ++ [u]⟩ HO9.out) (fun _ hk => hk)
                  rw [Int.toNat_natCast, HSET.out] at hp9
                  have hlen9 : (l.f1 ++ [u]).length = l.f1.length + 1 := by rw [List.length_append, List.length_singleton]
                  rw [hlen9] at hp9
                  obtain ⟨W9, hW9⟩ : ∃ W9, w9.setCell ⟨g, nn * 2 + 1, none⟩ (.slice A9 (l.f1.length + 1) c9) = W9 := ⟨_, rfl⟩
                  have hSf : Kd.S k59 59 W9 mb (fun k => it + 1 ≤ k ∧ some k ≠ (Value.slice (some ad5) np cp).ownBlock) (.slice (some ⟨g, 0, none⟩) (nn + 1) c15) (out.dropLast ++ [⟨l.f0, l.f1 ++ [u]⟩]) := by rw [← hW9]; exact hp9.1
                  have hGf : w9.grownBy W9 (some g) := by rw [← hW9]; exact hp9.2
                  have e1 : out.dropLast ++ [(⟨l.f0, l.f1 ++ [u]⟩ : P)] = pstep m out x := by rw [pstep, HLA.out]; simp only [if_pos HT.out, HU.out]; rfl
                  rw [e1] at hSf
                  have ha1 := jb_after MI.out RI.out SI.out HLT.out (pw_below_drewN (Below.refl wr.heap.size wr) (nq + 1)) HG9.out (fun k e => (HOK.out k (HVE.out.1 k e)).1)
                  have ha2 := jb_after ha1.1 ha1.2.1 ha1.2.2 HLT.out (Below.refl w9.heap.size w9) hGf (fun k e => by cases e; exact (Kd.S_R SO.out).1 _ rfl)
                  have hBf : Below mb w W9 := HB9.out.grown hGf (Nat.le_trans KL.out HG9.out.size) (fun r e => by cases e; exact hbg)
                  have HSF := Lib.hid hSf; have HM9 := Lib.hid ha2.1; have HR9 := Lib.hid ha2.2.1; have HS9 := Lib.hid ha2.2.2; have HBF := Lib.hid hBf
                  clear hp9 hSf hGf ha1 ha2 hBf e1 hx9 hf9 hHeld
                  have hlen9' : ((l.f1 ++ [u]).length : Int) = (l.f1.length : Int) + 1 := by rw [hlen9]; rfl
                  have hnp6 := HPL.out
                  rw [hW9]
                  clear hW9
                  go_wp2
                  go_roundw
                  case rel => exact ⟨i + 1, pstep m out x, hin, by first | rfl | (simp; done), HSF, HF, HM9, HR9, HBF, Lib.hid (Nat.le_trans HPN.out (by have := HNN.out; have := OL.out; omega)), HS9, HPS⟩
                  case measure => simp [intOf]; omega
                · have htf : (l.f0 + (l.f1.length : Int) == x) = false := beq_false_of_ne ht
                  have HT := Lib.hid ht
                  go_upto_region 28 with (fail)
                  go_quiet (fail)
                  have hpc := jb_piece (nq := nq) (u := u) (x := x) SO.out MI.out RI.out BI.out SI.out
                  go_wp2_with ((with_reducible refine gate_builtin (b := .append) (xs := #[.tmp 131, .tmp 138]) rfl ?_); at_builtin; refine hold_of ?_)
                  show _
                  unfold Hold
                  refine Kd.S_append k59 (w0 := w) mb rfl (.tmp 131) (.tmp 138) 40 59 (.agg #[(.int .i64 0), (.slice none 0 0)]) 32 rfl Try.underlying40 info59 rfl (by decide) (by decide) (.slice (some ⟨g, 0, none⟩) (nn + 1) c15) out ⟨x, [u]⟩ [.int .i64 x, .slice (some ⟨wr.heap.size, 0, none⟩) 1 1] (fun k => it + 1 ≤ k ∧ some k ≠ (Value.slice (some ad5) np cp).ownBlock) (fun k => k = wr.heap.size) rfl (by rw [World.size_alloc]; rfl) hpc.1 hpc.2.1 hpc.2.2.1 hpc.2.2.2.1 hpc.2.2.2.2.1 hpc.2.2.2.2.2 ?aL ?_
                  case aL => have q1 := OL.out; have q2 := HPL.out; have q3 := HNN.out; omega
                  intro v1 w9 ho hb9 hg9 hat9; have HO := Lib.hid ho; have HB9 := Lib.hid hb9; have HG9 := Lib.hid hg9; clear ho hb9 hg9 hat9
                  have haf := jb_after MI.out RI.out SI.out HLT.out (below_alloc (pw_below_drewN (Below.refl wr.heap.size wr) nq) (.cells #[.int .u8 u] 5)) HG9.out (fun k e => (Kd.S_R SO.out).1 k e)
                  have HM9 := Lib.hid haf.1; have HR9 := Lib.hid haf.2.1; have HS9 := Lib.hid haf.2.2
                  have e1 : out ++ [(⟨x, [u]⟩ : P)] = pstep m out x := by rw [pstep, HLA.out]; simp only [if_neg HT.out, HU.out]; rfl
                  rw [e1] at HO
                  clear haf
                  have hnp6 := HPL.out
                  go_wp2
                  go_roundw
                  case rel => exact ⟨i + 1, pstep m out x, hin, by first | rfl | (simp; done), HO, HF, HM9, HR9, HB9, Lib.hid (Nat.le_trans HPN.out (by have := HNN.out; have := OL.out; omega)), HS9, HPS⟩
                  case measure => simp [intOf]; omega
            · obtain rfl : i = np := by omega
              have hp := F.out
              rw [← HKL.out, List.drop_length, List.foldl_nil] at hp
              go_wp2
              go_ret2
              rw [HRES.out]
              exact ⟨_, rfl, by rw [← hp, HMB.out]; exact Kd.S_mono SO.out (fun _ _ => trivial), by rw [HMB.out]; exact BI.out⟩
        case refine_2 =>
          intro x c w1 cnt1 hwx hwc hlx hat hrg1 hlt1 hg1 hs1 hen
          obtain ⟨Ap, cp, hvp⟩ := Kd.R_slice RP.out
          subst hvp
          have hin : In64 x := by
            simp only [Lit.wf, IntKind.min, IntKind.max, IntKind.signed, IntKind.bits, decide_eq_true_eq, Bool.and_eq_true] at hwx
            simp at hwx
            exact ⟨by omega, by omega⟩
          have HSM := Lib.hid (show (mget m x).isSome = true from (HK.out x hin).1.symm.trans (Maps.has_true_of_atKey hat))
          have hlen : ps.length + 1 + cnt1 ≤ n := by have := N.out; omega
          have hn60 : n ≤ 6000000 := by have := HN.out; omega
          have RG1 := Lib.hid hrg1
          have RP1 := Lib.hid (Kd.R_grown RP.out hg1 (fun k hk e => by have := Option.some.inj e; omega))
          have B1 := Lib.hid (B.out.grown hg1 (by have := B.out.size; have := HLT.out; have := SZ.out; omega) (fun r e => by cases e; have := HLT.out; omega))
          have SZ1 := Lib.hid (show it + 1 ≤ w1.heap.size from by rw [hs1]; exact SZ.out)
          have HLX := Lib.hid hlx; have HIN := Lib.hid hin; have HLEN := Lib.hid hlen; have HN6 := Lib.hid hn60; have HLT1 := Lib.hid hlt1
          clear hrg1 hg1 hs1 hlx hin hlen hn60 hlt1 hat hwx hwc
          go_wp2_with ((with_reducible refine gate_builtin (b := .append) (xs := #[.tmp 81, .tmp 83]) rfl ?_); at_builtin; refine Kd.R_append (Kd.int .i64) (w0 := w) mb rfl (.tmp 81) (.tmp 83) 23 3 (.int .i64 0) 8 rfl Try.underlying23 info3 rfl (by decide) (by omega) (.slice Ap ps.length cp) ps x [.int .i64 x] (fun k => it + 1 ≤ k) (fun _ => False) rfl rfl ?aP (fun _ hk => hk.elim) ?aF ?aO ?aB ?aS ?aL ?_; (case aP => exact rfl); (case aB => exact B1.out); (case aF => exact (fun k hk => Nat.le_trans SZ1.out hk)); (case aO => exact RP1.out); (case aS => have q1 := SZ1.out; have q2 := HLT.out; omega); (case aL => have q1 := HLEN.out; have q2 := HN6.out; omega); intro v1 w9 ho hb9 hg9 hat9; have HO := Lib.hid ho; have HB9 := Lib.hid hb9; have HG9 := Lib.hid hg9; clear ho hb9 hg9 hat9)
          have RG9 := RG1.out.kept HG9.out (fun e => by have := RP1.out.1 _ e.symm; have := HLT.out; omega) (fun e => by have := RP1.out.1 _ e.symm; omega)
          have hnx : x ∉ ps := fun hm => by have h1 := ((IFF.out x).1 hm).2.2; rw [HLX.out] at h1; cases h1
          refine ⟨⟨_, _, ps ++ [x], Lib.hid RG9, HO, HB9, Lib.hid (by rw [List.length_append, List.length_singleton]; exact HLEN.out), Lib.hid (by rw [List.nodup_append]; exact ⟨ND.out, by simp, fun a ha b hb => by rw [List.mem_singleton] at hb; subst hb; exact fun e => hnx (e ▸ ha)⟩), Lib.hid (fun y => ?_), Lib.hid (Nat.le_trans SZ1.out HG9.out.size)⟩, by rw [RG9.left_eq, RG.out.left_eq]; exact HLT1.out⟩
          rw [List.mem_append, List.mem_singleton, IFF.out y]
          have hs : (Lit.int .i64 y).sameKey (.int .i64 x) = decide (y = x) := by simp [Lit.sameKey]
          rw [hs]
          by_cases e : y = x
          · subst e
            exact ⟨fun _ => ⟨HIN.out, HSM.out, by simp⟩, fun _ => .inr rfl⟩
          · simp [e]
end Go.Proofs.Ytflmfbcapccdeaa.JudgeBytesW
set_option linter.unusedVariables false
set_option linter.unusedSimpArgs false
set_option autoImplicit false
namespace Go.Proofs.Ytflmfbcapccdeaa.JudgeNm
open Go.RowKit Go.Proofs.Ytflmfbcapccdeaa.PA Go.Proofs.YtflmfbcapccdeaaW.PrintWords Go.Proofs.YtflmfbcapccdeaaW.PrintLast Go.Proofs.YtflmfbcapccdeaaW.PrintMore Go.Proofs.Ytflmfbcapccdeaa.WireG Go.Proofs.Ytflmfbcapccdeaa.JudgeMap Go.Proofs.Ytflmfbcapccdeaa.JudgeSort
open Go.Proofs.Ytflmfbcapccdeaa.JudgeBytesW (Q P psd seg f14_len f14_byts ks mget_mem Good good_all good_nil good_put bIn bAll bres pieces pstep fits)
/-- What one piece, what pieces hold at an offset. -/
def cov1 (p : P) (x : Int) : Option Int := if p.f0 ≤ x ∧ x < p.f0 + p.f1.length then some (p.f1.getD (x - p.f0).toNat 0) else none
def cov : List P → Int → Option Int
  | [], _ => none
  | p :: l, x => (cov1 p x).or (cov l x)
theorem cov_app : ∀ (a b : List P) (x : Int), cov (a ++ b) x = (cov a x).or (cov b x)
  | [], b, x => by simp [cov]
  | p :: a, b, x => by rw [List.cons_append, cov, cov, cov_app a b x, Option.or_assoc]
/-- Pieces in order, none empty, none touching the next. -/
def Nm : Int → List P → Prop
  | _, [] => True
  | lo, p :: l => lo < p.f0 ∧ 0 < p.f1.length ∧ Nm (p.f0 + p.f1.length) l
def endO : Int → List P → Int
  | lo, [] => lo
  | _, p :: l => endO (p.f0 + p.f1.length) l
theorem nm_app : ∀ (a b : List P) (lo : Int), Nm lo (a ++ b) ↔ Nm lo a ∧ Nm (endO lo a) b
  | [], b, lo => by simp [Nm, endO]
  | p :: a, b, lo => by rw [List.cons_append, Nm, Nm, endO, nm_app a b]; simp only [and_assoc]
theorem nm_low : ∀ {l : List P} {lo x : Int}, Nm lo l → x ≤ lo → cov l x = none
  | [], lo, x, _, _ => rfl
  | p :: l, lo, x, hn, hx => by
    have h1 := hn.1
    have h2 := hn.2.1
    rw [cov, cov1, if_neg (by omega), Option.none_or]
    exact nm_low hn.2.2 (by omega)
theorem endO_last : ∀ (a : List P) (p : P) (lo : Int), endO lo (a ++ [p]) = p.f0 + p.f1.length
  | [], p, lo => rfl
  | q :: a, p, lo => by rw [List.cons_append, endO]; exact endO_last a p _
theorem or_none' {a b : Option Int} (h : a.or b = none) : a = none ∧ b = none := by
  cases a with
  | none => exact ⟨rfl, by simpa using h⟩
  | some v => simp at h
theorem cov1_app (f : Int) (a b : List Int) (x : Int) : cov1 ⟨f, a ++ b⟩ x = (cov1 ⟨f, a⟩ x).or (cov1 ⟨f + a.length, b⟩ x) := by
  simp only [cov1, List.length_append]
  by_cases h1 : f ≤ x ∧ x < f + a.length
  · rw [if_pos (by omega), if_pos h1, Option.some_or]
    congr 1
    rw [List.getD_eq_getElem?_getD, List.getD_eq_getElem?_getD, List.getElem?_append_left (by omega)]
  · rw [if_neg h1, Option.none_or]
    by_cases h2 : f + a.length ≤ x ∧ x < f + a.length + b.length
    · rw [if_pos h2, if_pos (by omega)]
      congr 1
      rw [List.getD_eq_getElem?_getD, List.getD_eq_getElem?_getD, List.getElem?_append_right (by omega)]
      congr 2
      omega
    · rw [if_neg h2, if_neg (by omega)]
theorem cov_one (p : P) (x : Int) : cov [p] x = cov1 p x := by simp [cov]
theorem cov1_b (f b x : Int) : cov1 ⟨f, [b]⟩ x = if x = f then some b else none := by
  simp only [cov1, List.length_singleton]
  by_cases h : x = f
  · subst h; rw [if_pos (by omega), if_pos rfl]; simp
  · rw [if_neg (by omega), if_neg h]
/-- Two rows in order that hold the same are the same. -/
theorem nm_eq : ∀ (a b : List P) (lo : Int), Nm lo a → Nm lo b → (∀ y, cov a y = cov b y) → a = b
  | [], [], _, _, _, _ => rfl
  | [], q :: b, lo, _, hb, h => by
    have := h q.f0
    have h1 := hb.2.1
    rw [cov, cov, cov1, if_pos (by omega)] at this
    cases this
  | p :: a, [], lo, ha, _, h => by
    have := h p.f0
    have h1 := ha.2.1
    rw [cov, cov, cov1, if_pos (by omega)] at this
    cases this
  | p :: a, q :: b, lo, ha, hb, h => by
    have ha1 := ha.2.1
    have hb1 := hb.2.1
    have hcp : ∀ y, p.f0 ≤ y → y < p.f0 + p.f1.length → cov (p :: a) y = some (p.f1.getD (y - p.f0).toNat 0) := fun y h1 h2 => by rw [cov, cov1, if_pos ⟨h1, h2⟩, Option.some_or]
    have hcq : ∀ y, q.f0 ≤ y → y < q.f0 + q.f1.length → cov (q :: b) y = some (q.f1.getD (y - q.f0).toNat 0) := fun y h1 h2 => by rw [cov, cov1, if_pos ⟨h1, h2⟩, Option.some_or]
    have hnp : ∀ y, y < p.f0 ∨ y = p.f0 + p.f1.length → cov (p :: a) y = none := fun y hy => by
      rw [cov, cov1, if_neg (by omega), Option.none_or]; exact nm_low ha.2.2 (by omega)
    have hnq : ∀ y, y < q.f0 ∨ y = q.f0 + q.f1.length → cov (q :: b) y = none := fun y hy => by
      rw [cov, cov1, if_neg (by omega), Option.none_or]; exact nm_low hb.2.2 (by omega)
    have e0 : p.f0 = q.f0 := by
      rcases Int.lt_trichotomy p.f0 q.f0 with hlt | he | hlt
      · have := h p.f0; rw [hcp _ (by omega) (by omega), hnq _ (.inl hlt)] at this; cases this
      · exact he
      · have := h q.f0; rw [hcq _ (by omega) (by omega), hnp _ (.inl hlt)] at this; cases this
    have e1 : p.f1.length = q.f1.length := by
      rcases Nat.lt_trichotomy p.f1.length q.f1.length with hlt | he | hlt
      · have := h (p.f0 + p.f1.length); rw [hnp _ (.inr rfl), hcq _ (by omega) (by omega)] at this; cases this
      · exact he
      · have := h (q.f0 + q.f1.length); rw [hnq _ (.inr rfl), hcp _ (by omega) (by omega)] at this; cases this
    have e2 : p.f1 = q.f1 := by
      apply List.ext_getElem e1
      intro i h1 h2
      have := h (p.f0 + i)
      rw [hcp _ (by omega) (by omega), hcq _ (by omega) (by omega), e0, show (q.f0 + (i : Int) - q.f0).toNat = i from by omega] at this
      have := Option.some.inj this
      rw [List.getD_eq_getElem?_getD, List.getD_eq_getElem?_getD, List.getElem?_eq_getElem h1, List.getElem?_eq_getElem h2] at this
      exact this
    have epq : p = q := by cases p; cases q; simp only at e0 e2; rw [e0, e2]
    subst epq
    rw [nm_eq a b (p.f0 + p.f1.length) ha.2.2 hb.2.2 (fun y => ?_)]
    by_cases hy : y ≤ p.f0 + p.f1.length
    · rw [nm_low ha.2.2 hy, nm_low hb.2.2 hy]
    · have := h y
      simp only [cov] at this
      rw [show cov1 p y = none from by rw [cov1, if_neg (by omega)], Option.none_or, Option.none_or] at this
      exact this
theorem nm_end : ∀ {l : List P} {lo x : Int}, Nm lo l → endO lo l ≤ x → cov l x = none
  | [], lo, x, _, _ => rfl
  | p :: l, lo, x, hn, hx => by
    have hge : ∀ (l : List P) (lo : Int), Nm lo l → lo ≤ endO lo l := by
      intro l; induction l with
      | nil => intro lo _; exact Int.le_refl _
      | cons q l ih => intro lo hq; have h1 := ih _ hq.2.2; have h2 := hq.1; rw [endO]; omega
    have h1 := hge l _ hn.2.2
    rw [endO] at hx
    rw [cov, cov1, if_neg (by omega), Option.none_or]
    exact nm_end hn.2.2 hx
/-- One more, behind all. -/
theorem pstep_ok (m : List (Int × Int)) {out : List P} {x : Int} (hn : Nm (-1) out) (hx : 0 ≤ x) (he : endO (-1) out ≤ x) : Nm (-1) (pstep m out x) ∧ endO (-1) (pstep m out x) = x + 1 ∧ ∀ y, cov (pstep m out x) y = if y = x then some ((mget m x).getD 0) else cov out y := by
  have hnone := nm_end hn he
  have snoc : endO (-1) out < x → Nm (-1) (out ++ [⟨x, [(mget m x).getD 0]⟩]) ∧ endO (-1) (out ++ [⟨x, [(mget m x).getD 0]⟩]) = x + 1 ∧ ∀ y, cov (out ++ [⟨x, [(mget m x).getD 0]⟩]) y = if y = x then some ((mget m x).getD 0) else cov out y := fun h => by
    refine ⟨(nm_app _ _ _).2 ⟨hn, h, by simp, trivial⟩, by rw [endO_last]; simp, fun y => ?_⟩
    rw [cov_app, cov_one, cov1_b]
    by_cases hy : y = x
    · subst hy; rw [if_pos rfl, if_pos rfl, hnone]; simp
    · rw [if_neg hy, if_neg hy, Option.or_none]
  unfold pstep
  rcases List.eq_nil_or_concat out with rfl | ⟨o, p, rfl⟩
  · exact snoc (by simp only [endO]; omega)
  · rw [List.concat_eq_append] at *
    rw [List.getLast?_concat]
    rw [endO_last] at he snoc
    dsimp only
    split
    · rename_i hpx
      rw [List.dropLast_concat]
      obtain ⟨h1, h2⟩ := (nm_app _ _ _).1 hn
      refine ⟨(nm_app _ _ _).2 ⟨h1, h2.1, by simp, trivial⟩, by rw [endO_last]; simp; omega, fun y => ?_⟩
      rw [cov_app, cov_one, cov1_app, hpx, cov1_b, cov_app, cov_one]
      by_cases hy : y = x
      · subst hy
        rw [cov_app, cov_one] at hnone
        obtain ⟨g1, g2⟩ := or_none' hnone
        rw [if_pos rfl, if_pos rfl, g1, g2]; simp
      · rw [if_neg hy, if_neg hy, Option.or_none]
    · exact snoc (by omega)
theorem fold_ok (m : List (Int × Int)) : ∀ (l : List Int) (out : List P), Nm (-1) out → (∀ x ∈ l, 0 ≤ x ∧ endO (-1) out ≤ x) → l.Pairwise (· < ·) →
    Nm (-1) (l.foldl (pstep m) out) ∧ ∀ y, cov (l.foldl (pstep m) out) y = if y ∈ l then some ((mget m y).getD 0) else cov out y
  | [], out, hn, _, _ => ⟨hn, fun y => by simp⟩
  | x :: l, out, hn, hx, hs => by
    rw [List.pairwise_cons] at hs
    obtain ⟨h1, h2, h3⟩ := pstep_ok m hn (hx x (List.mem_cons_self ..)).1 (hx x (List.mem_cons_self ..)).2
    obtain ⟨k1, k2⟩ := fold_ok m l (pstep m out x) h1 (fun y hy => ⟨(hx y (List.mem_cons_of_mem _ hy)).1, by have := hs.1 y hy; omega⟩) hs.2
    refine ⟨k1, fun y => ?_⟩
    rw [List.foldl_cons, k2, h3]
    by_cases hyl : y ∈ l
    · rw [if_pos hyl, if_pos (List.mem_cons_of_mem _ hyl)]
    · rw [if_neg hyl]
      by_cases hy : y = x
      · subst hy; rw [if_pos rfl, if_pos (List.mem_cons_self ..)]
      · rw [if_neg hy, if_neg (fun h => (List.mem_cons.1 h).elim hy hyl)]
theorem js_strict {l : List Int} (h : l.Nodup) : (js l).Pairwise (· < ·) := by
  have h1 := js_sorted l
  have h2 : (js l).Nodup := (js_perm l).nodup_iff.2 h
  exact (h1.and h2).imp fun ⟨a, b⟩ => by omega
/-- The pieces of a map. -/
theorem pieces_ok {m : List (Int × Int)} (h : Go.Proofs.Ytflmfbcapccdeaa.JudgeBytesW.Good m) : Nm (-1) (pieces m) ∧ ∀ y, cov (pieces m) y = mget m y := by
  obtain ⟨h1, h2⟩ := fold_ok m (js (ks m)) [] trivial (fun x hx => ⟨(h.2 x ((js_perm _).mem_iff.1 hx)).1, by have := (h.2 x ((js_perm _).mem_iff.1 hx)).1; simp only [endO]; omega⟩) (js_strict h.1)
  refine ⟨h1, fun y => ?_⟩
  show cov ((js (ks m)).foldl (pstep m) []) y = _
  rw [h2]
  simp only [(js_perm _).mem_iff, mget_mem]
  cases hm : mget m y with
  | none => simp [cov]
  | some v => simp
theorem mput_get {m : List (Int × Int)} {x v : Int} (hf : fits m x v = true) (y : Int) : mget (mput m x v) y = if y = x then some v else mget m y := by
  unfold mput
  unfold fits at hf
  cases hm : mget m x with
  | none => rw [if_neg (by simp)]; exact mget_snoc hm
  | some u =>
    rw [if_pos (by simp)]
    rw [hm] at hf
    simp at hf
    by_cases hy : y = x
    · subst hy; rw [if_pos rfl, hm, hf]
    · rw [if_neg hy]
end Go.Proofs.Ytflmfbcapccdeaa.JudgeNm

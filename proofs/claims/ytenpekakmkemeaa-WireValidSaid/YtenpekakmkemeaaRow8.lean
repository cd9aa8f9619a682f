/- Rows of bytes of a call's own, their blocks named; literal rows. -/
import Derived.Lib.Hide
import Derived.Test.YtenpekakmkemeaaPAx0
set_option linter.unusedVariables false
set_option linter.unusedSimpArgs false
namespace Go.Proofs.Ytenpekakmkemeaa.Row8
open Go.RowKit Go.Proofs.Ytenpekakmkemeaa.PA Go.Proofs.YtenpekakmkemeaaW.PrintWords
def Hold (p : Prop) : Prop := p
theorem hold_of {p : Prop} (h : Hold p) : p := h
theorem hold_mk {p : Prop} (h : p) : Hold p := h
abbrev B8 := Kd.int .u8
/-- A row of bytes of the call's own, its block named. -/
def Row8 (W : World) (base g cap : Nat) (l : List Int) : Prop := base ≤ g ∧ l.length ≤ cap ∧ cap ≤ maxLen ∧ ∃ cur : Array Value, W.heap[g]? = some (.cells cur 5 (0, 0)) ∧ cur.size = cap ∧ cur.toList.take l.length = nums .u8 l
theorem Row8.of_R {W : World} {base : Nat} {ok : Nat → Prop} {v : Value} {l : List Int} (h : Kd.R B8 5 W base ok v l) (h0 : 0 < l.length) : ∃ g cap, v = .slice (some ⟨g, 0, none⟩) l.length cap ∧ Row8 W base g cap l := by
  obtain ⟨_, inner, ⟨ho1, ho⟩, hr⟩ := h
  have hi : inner = nums .u8 l := by
    apply List.ext_getElem?
    intro j
    rw [nums, List.getElem?_map]
    by_cases hj : j < l.length
    · have h1 := hr.2 j l[j] (List.getElem?_eq_getElem hj)
      have hz : B8.sz = 1 := rfl
      rw [hz, Nat.mul_one] at h1
      have h2 : (inner.drop j).take 1 = [Value.int .u8 l[j]] := h1
      have h3 : ((inner.drop j).take 1)[0]? = some (Value.int .u8 l[j]) := by rw [h2]; rfl
      rw [List.getElem?_take, if_pos (by omega), List.getElem?_drop, Nat.add_zero] at h3
      rw [h3, List.getElem?_eq_getElem hj]; rfl
    · have hl : inner.length = l.length * 1 := hr.1
      rw [List.getElem?_eq_none (by omega), List.getElem?_eq_none (by omega)]; rfl
  rcases ho with ⟨_, h1⟩ | ⟨g, cap, cur, rfl, hb, hh, hn, hm, hs, ht⟩
  · omega
  · refine ⟨g, cap, rfl, hb, hn, hm, cur, hh, by rw [hs]; exact Nat.mul_one _, ?_⟩
    rw [← hi, ← ht]; congr 1; exact (Nat.mul_one _).symm
theorem Row8.cell {W : World} {base g cap : Nat} {l : List Int} (h : Row8 W base g cap l) (k : Nat) (hk : k < l.length) : W.cell? ⟨g, k, none⟩ = some (.int .u8 (l.getD k 0)) ∧ W.frozen? ⟨g, k, none⟩ = false := by
  obtain ⟨_, _, _, cur, hh, hs, ht⟩ := h
  refine ⟨?_, by simp [World.frozen?, hh]⟩
  have h1 : (cur.toList.take l.length)[k]? = some (.int .u8 (l.getD k 0)) := by rw [ht, nums, List.getElem?_map, List.getD_eq_getElem?_getD, List.getElem?_eq_getElem hk]; rfl
  rw [List.getElem?_take, if_pos hk] at h1
  simp [World.cell?, hh]; simpa using h1
theorem Row8.set {W : World} {base g cap : Nat} {l : List Int} (h : Row8 W base g cap l) (k : Nat) (hk : k < l.length) (x : Int) : Row8 (W.setCell ⟨g, k, none⟩ (.int .u8 x)) base g cap (l.set k x) := by
  obtain ⟨hb, hn, hm, cur, hh, hs, ht⟩ := h
  refine ⟨hb, by rw [List.length_set]; exact hn, hm, cur.setIfInBounds k (.int .u8 x), ?_, by simp [hs], ?_⟩
  · simp only [World.setCell, Array.getElem?_modify]
    rw [hh]; rfl
  · rw [List.length_set, Array.toList_setIfInBounds, List.take_set, ht, nums, nums, List.map_set]
theorem Row8.below {W W1 : World} {base g cap : Nat} {l : List Int} (h : Row8 W base g cap l) (hb : Below W.heap.size W W1) : Row8 W1 base g cap l := by
  obtain ⟨h1, hn, hm, cur, hh, hs, ht⟩ := h
  exact ⟨h1, hn, hm, cur, (hb.block g (Array.getElem?_eq_some_iff.1 hh).1).trans hh, hs, ht⟩
theorem Row8.C {W : World} {base g cap : Nat} {l : List Int} (h : Row8 W base g cap l) : Kd.C B8 W (some ⟨g, 0, none⟩) l.length l := by
  refine ⟨rfl, by have := h.2.1; have := h.2.2.1; simp only [maxLen] at this; omega, fun _ => ⟨_, rfl, fun j p hj => ⟨[.int .u8 p], rfl, rfl, fun i u hu => ?_⟩⟩⟩
  match i, hu with
  | 0, hu =>
    obtain rfl : Value.int .u8 p = u := by simpa using hu
    have hz : B8.sz = 1 := rfl
    have hjl := (List.getElem?_eq_some_iff.1 hj).1
    rw [hz, Nat.mul_one, Nat.add_zero, add_plain, (h.cell j hjl).1, List.getD_eq_getElem?_getD, hj]; rfl
/-- append([]byte{}, b...): the empty literal, owned. -/
theorem own_empty (w : World) (base : Nat) (hb : base ≤ w.heap.size) : Kd.R B8 5 (w.alloc (.cells #[] 5)) base (fun _ => True) (.slice (some ⟨w.heap.size, 0, none⟩) 0 0) [] :=
  ⟨fun _ _ => trivial, [], ⟨rfl, .inr ⟨w.heap.size, 0, #[], rfl, hb, heap_alloc_new w _, by decide, by decide, rfl, rfl⟩⟩, by simp, fun j p hj => by simp at hj⟩
end Go.Proofs.Ytenpekakmkemeaa.Row8

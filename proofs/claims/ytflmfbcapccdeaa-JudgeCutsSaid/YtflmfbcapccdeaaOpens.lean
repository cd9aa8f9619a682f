/- What a law's arguments read as: from the row's reading ('DataW.trod') to the print's words ('Kd.K'), type by type; with what the reading says of sizes. -/
import Derived.Deep.Slices
import Derived.Lib.SmallJoins
import Derived.SizedLaws
import Derived.ChangeSlices
import Derived.WideShapes
import Derived.Test.YtflmfbcapccdeaaWWords
namespace Go.Proofs.Ytflmfbcapccdeaa.Opens
open Go.RowKit Go.Deep Go.Proofs.YtflmfbcapccdeaaW.PrintWords

/-- What is asked of a count of what a reading holds. -/
structure Bulk {H : Type} (b : DataW H → Nat) (s : List (DataW H) → Nat) : Prop where
  nil : s [] = 0
  cons : ∀ d r, s (d :: r) = b d + s r
  lit : ∀ l, 1 ≤ b (.lit l)
  none : 1 ≤ b .nil
  slice : ∀ es sp, s es + 1 ≤ b (.slice es sp)
  agg : ∀ ps, s ps + 1 ≤ b (.agg ps)

/-- Type T is read as the kind d; wf: what is known of what is read; sz: how much it is, at most as the reading's count says. -/
def Opens (P : Program) {α : Type} (d : Kd α) (T : TypeId) (wf : α → Prop) (sz : α → Nat) : Prop :=
  ∀ (w : World) (H : Type) (enc : TypeId × Value → H) (b : DataW H → Nat) (s : List (DataW H) → Nat) (_ : Bulk b s) (spare : Nat → Bool) (held : Bool) (fuel : Nat) (cs : List Value) (x : DataW H × List MemPlace),
    DataW.trod enc P w 0 spare held fuel T cs = some x → (x.1.weights P T).all (· ≤ reachBytes) = true → ∃ y, d.K w y cs ∧ wf y ∧ sz y ≤ b x.1

theorem opens_int {P : Program} {T : TypeId} {k : IntKind} (hu : P.underlying T = some (.int k)) : Opens P (Kd.int k) T (fun n => (Lit.int k n).wf = true) (fun _ => 1) := by
  intro w H enc b s hb spare held fuel cs x h _
  cases fuel with
  | zero => simp [DataW.trod] at h
  | succ fuel =>
    obtain ⟨n, rfl, rfl, hw⟩ := DataW.trod_int hu h
    exact ⟨n, rfl, hw, hb.lit _⟩
theorem all_append {p : Nat → Bool} {a c : List Nat} (h : (a ++ c).all p = true) : a.all p = true ∧ c.all p = true := by rw [List.all_append, Bool.and_eq_true] at h; exact h
theorem weightsAll_mem {H : Type} {P : Program} {e : TypeId} : ∀ {ds : List (DataW H)}, (DataW.weightsAll P e ds).all (· ≤ reachBytes) = true → ∀ d ∈ ds, (d.weights P e).all (· ≤ reachBytes) = true
  | [], _, _, h => by cases h
  | d :: r, h, c, hc => by
    rw [DataW.weightsAll] at h
    obtain ⟨h1, h2⟩ := all_append h
    rcases List.mem_cons.1 hc with rfl | hc
    · exact h1
    · exact weightsAll_mem h2 c hc
theorem Bulk.append {H : Type} {b : DataW H → Nat} {s : List (DataW H) → Nat} (hb : Bulk b s) : ∀ (xs ys : List (DataW H)), s (xs ++ ys) = s xs + s ys
  | [], ys => by simp [hb.nil]
  | d :: r, ys => by rw [List.cons_append, hb.cons, hb.cons, hb.append r ys]; omega

theorem opens_slice {P : Program} {α : Type} {d : Kd α} {T e : TypeId} {wf : α → Prop} {sz : α → Nat} {B : Nat} (hu : P.underlying T = some (.slice e)) (hc : P.cellsOf e = d.sz) (hB : P.bytesOf e = B) (hd : Opens P d e wf sz) :
    Opens P (Kd.slice e d) T (fun l => (∀ x ∈ l, wf x) ∧ l.length * B ≤ 140737488351232 ∧ l.length ≤ 9223372036854775807) (fun l => (l.map sz).sum + 1) := by
  intro w H enc b s hb spare held fuel cs x h hw
  rcases open_slice hu h with ⟨rfl, rfl⟩ | ⟨a, len, cap, m, n, D, Pl, rfl, _, hl, hm, hmm, rfl, hx⟩
  · exact ⟨[], ⟨none, 0, rfl, Nat.le_refl _, rfl, by simp, fun h => absurd h (by simp)⟩, ⟨by simp, by simp, by simp⟩, by simpa using hb.none⟩
  have hle : len ≤ m := by rw [hmm]; split <;> omega
  rw [DataW.weights, hu] at hw
  simp only [List.all_cons, Bool.and_eq_true] at hw
  obtain ⟨hw0, hw1⟩ := hw
  have hw2 := weightsAll_mem (all_append hw1).1
  have hY : ∀ i, i < len → ∃ y cs', w.cells? 0 (a.add (i * P.cellsOf e)) (P.cellsOf e) = some cs' ∧ d.K w y cs' ∧ wf y ∧ sz y ≤ b (D i) := by
    intro i hi
    obtain ⟨cs', h1, h2⟩ := hx i (by omega)
    obtain ⟨y, h3, h4, h5⟩ := hd w H enc b s hb spare held n cs' _ h2 (hw2 _ (List.mem_map.2 ⟨i, List.mem_range.2 hi, rfl⟩))
    exact ⟨y, cs', h1, h3, h4, h5⟩
  have hL : ∀ n, n ≤ len → ∃ Y : List α, Y.length = n ∧ (∀ i y, Y[i]? = some y → ∃ cs', w.cells? 0 (a.add (i * P.cellsOf e)) (P.cellsOf e) = some cs' ∧ d.K w y cs') ∧ (∀ y ∈ Y, wf y) ∧ (Y.map sz).sum ≤ s ((List.range n).map D) := by
    intro n
    induction n with
    | zero => intro _; exact ⟨[], rfl, fun i y h => by simp at h, fun y h => by simp at h, by simp⟩
    | succ n ih =>
      intro hn
      obtain ⟨Y, h1, h2, h3, h4⟩ := ih (by omega)
      obtain ⟨y, cs', h5, h6, h7, h8⟩ := hY n (by omega)
      refine ⟨Y ++ [y], by simp [h1], fun i z hz => ?_, fun z hz => ?_, ?_⟩
      · by_cases hi : i < Y.length
        · rw [List.getElem?_append_left hi] at hz; exact h2 i z hz
        · have hi2 : i = n := by have := (List.getElem?_eq_some_iff.1 hz).1; simp [h1] at this; omega
          subst hi2
          rw [List.getElem?_append_right (by omega)] at hz
          obtain rfl : y = z := by simpa [h1] using hz
          exact ⟨cs', h5, h6⟩
      · rcases List.mem_append.1 hz with hz | hz
        · exact h3 z hz
        · rw [List.mem_singleton.1 hz]; exact h7
      · rw [List.range_succ, List.map_append, List.map_append, hb.append, List.sum_append]
        simp only [List.map_cons, List.map_nil, List.sum_cons, List.sum_nil, hb.cons, hb.nil]
        omega
  obtain ⟨Y, h1, h2, h3, h4⟩ := hL len (Nat.le_refl _)
  refine ⟨Y, ⟨some a, cap, by rw [h1], by omega, rfl, by simp only [maxLen] at hm; omega, fun _ => ⟨a, rfl, fun j p hj => ?_⟩⟩, ⟨h3, ?_, by simp only [maxLen] at hm; omega⟩, Nat.le_trans (Nat.add_le_add_right h4 1) (hb.slice _ _)⟩
  · obtain ⟨cs', hc1, hc2⟩ := h2 j p hj
    obtain ⟨_, hl1, hl2⟩ := World.cells?_some hc1
    refine ⟨cs', by rw [hl1, hc], hc2, fun i u hu => ?_⟩
    have hi : i < P.cellsOf e := by rw [← hl1]; exact (List.getElem?_eq_some_iff.1 hu).1
    have := hl2 i hi
    rw [hu, hc, Go.Deep.add_add] at this
    exact this
  · have h0 := of_decide_eq_true hw0
    rw [List.length_map, List.length_range, hB] at h0
    rw [h1]
    exact Nat.le_trans (Nat.mul_le_mul_right _ (Nat.le_add_right _ _)) h0

end Go.Proofs.Ytflmfbcapccdeaa.Opens

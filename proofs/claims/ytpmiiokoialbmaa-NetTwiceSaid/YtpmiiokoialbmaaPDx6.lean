-- Written for the seat Ytpmiiokoialbmaa by this session's program hyb.py (the print's functions, with externals typed by hand).
import Derived.Deep.RegionHeld3
import Derived.Deep.RegionLaw
import Derived.Lib.Hide
import Derived.Lib.SliceRun
import Derived.Lib.Walk
import Derived.Shelf.Abstract
import Derived.Shelf.RegionOpenPlain
import Derived.WalkKit
import Derived.Test.YtpmiiokoialbmaaPDx0
import Derived.Test.YtpmiiokoialbmaaPDx3
import Derived.Test.YtpmiiokoialbmaaPDx5
namespace Go.Proofs.Ytpmiiokoialbmaa.PD
open Go.RowKit Go.Proofs.YtpmiiokoialbmaaW.PrintWords Go.Proofs.YtpmiiokoialbmaaW.PrintLast Go.Proofs.YtpmiiokoialbmaaW.PrintMore
attribute [local go_sem] max2_int min2_int max_two min_two max_three min_three max_four min_four   -- for this text's walks alone
set_option linter.unusedVariables false
set_option linter.unusedSimpArgs false

/-! ### net_Take: function 12 (typed by hand) -/
/-- 'clear' over a row of elements of two cells. -/
theorem net_clear2 {P : Program} (w : World) (t e ty : TypeId) (z0 z1 : Value) (ht : P.underlying t = some (.slice e)) (hv : ∀ w, (zeroValue e).run P w = .ok (.agg #[z0, z1]) w) (hc : (Value.agg #[z0, z1]).cells = #[z0, z1]) (h0 : z0.oneCell' = true) (h1 : z1.oneCell' = true) (b o c : Nat)
    (hs : ∀ j, j < 2 → (w.cell? ⟨b, o + j, none⟩).isSome = true) (hf : ∀ j, j < 2 → w.frozen? ⟨b, o + j, none⟩ = false) :
    (Builtin.clear_ #[t] ty #[.slice (some ⟨b, o, none⟩) 1 c]).run P w = .ok (.tuple #[]) (w.setCells b o [z0, z1]) := by
  have hzc : (Builtin.zeroCells (Value.agg #[z0, z1]).cells 1).toList = [z0, z1] := by
    rw [hc]
    simp [Builtin.zeroCells]
    rfl
  have hst := run_storeCells_cells (P := P) b o [z0, z1] 0 w (by simpa using hs) (by simpa using hf) (by intro v hv'; simp at hv'; rcases hv' with rfl | rfl <;> assumption)
  simp only [Nat.add_zero] at hst
  simp [Builtin.clear_, run_underlying ht, hv, hzc, hst]
set_option maxHeartbeats 4000000 in
set_option maxRecDepth 1000000 in
/-- slices.Delete of one element of a row of one's own. -/
theorem net_Delete (b n cap i j : Nat) (cur : Array Value) (w : World) (hb : w.heap[b]? = some (.cells cur 26 (0, 0))) (hn : n ≤ cap) (hm : cap ≤ 9223372036854775807) (hs : cap * 2 ≤ cur.size) (h1 : ∀ u ∈ cur.toList.take (n * 2), u.oneCell' = true) (hij : j = i + 1) (hi : i < n) :
    Calls Try.prog 28 #[.slice (some ⟨b, 0, none⟩) n cap, .int .i64 i, .int .i64 j] w fun e w' => e = .returned (.slice (some ⟨b, 0, none⟩) (n - 1) cap) ∧
      w' = (w.drew.setCells b (i * 2) ((cur.toList.take (n * 2)).drop (i * 2 + 2))).setCells b ((n - 1) * 2) [.slice none 0 0, .int .i64 0] := by
  obtain ⟨i0, hi0, hz0, hz1, hz2⟩ := info_parts info26
  have t0 := Try.underlying22
  have hcell : ∀ (W : World) (C : Array Value) (k : Nat), W.heap[b]? = some (.cells C 26 (0, 0)) → k < C.size → (W.cell? ⟨b, k, none⟩) = C[k]? ∧ W.frozen? ⟨b, k, none⟩ = false := by
    intro W C k h hk
    exact ⟨blk_cell h k, blk_frozen h k⟩
  obtain ⟨news, hnews⟩ : ∃ news, news = (cur.toList.take (n * 2)).drop (i * 2 + 2) := ⟨_, rfl⟩
  have hlen : news.length = (n - j) * 2 := by rw [hnews]; simp; omega
  obtain ⟨A, hA, hsrc⟩ : ∃ A : Addr, (if cap = j then some (⟨b, 0, none⟩ : Addr) else some ⟨b, 0 + j * 2, none⟩) = some A ∧ Hid (∀ t u, news[t]? = some u → w.drew.cell? (A.add t) = some u) := by
    by_cases h : cap = j
    · refine ⟨⟨b, 0, none⟩, by simp [h], fun t u hu => ?_⟩
      have h0 : news.length = 0 := by rw [hlen]; omega
      rw [List.length_eq_zero_iff.1 h0] at hu
      simp at hu
    · refine ⟨⟨b, 0 + j * 2, none⟩, by simp [h], fun t u hu => ?_⟩
      have ht : t < news.length := (List.getElem?_eq_some_iff.1 hu).1
      rw [Addr.add_lit, show 0 + j * 2 + t = i * 2 + 2 + t by omega]
      refine (hcell w.drew cur _ hb (by omega)).1.trans ?_
      rw [hnews, List.getElem?_drop, List.getElem?_take_of_lt (by omega), Array.getElem?_toList] at hu
      exact hu
  have hold1 : ∀ u ∈ news, u.oneCell' = true := by
    intro u hu
    rw [hnews] at hu
    exact h1 u (List.mem_of_mem_drop hu)
  have s1 : Hid (news.length = (n - j) * 2) := hlen
  have s2 : Hid (∀ u ∈ news, u.oneCell' = true) := hold1
  have s3 : Hid (∀ t, t < news.length → (w.drew.cell? ⟨b, 0 + i * 2 + t, none⟩).isSome = true ∧ w.drew.frozen? ⟨b, 0 + i * 2 + t, none⟩ = false) := by
    intro t ht
    have := hcell w.drew cur (0 + i * 2 + t) hb (by omega)
    exact ⟨by rw [this.1, Array.getElem?_eq_getElem (by omega)]; rfl, this.2⟩
  obtain ⟨W1, hW1⟩ : ∃ W1, W1 = w.drew.setCells b (0 + i * 2) news := ⟨_, rfl⟩
  obtain ⟨cur1, hb1, hs1, _⟩ := setCells_row news (0 + i * 2) w.drew cur hb (by omega)
  rw [← hW1] at hb1
  have hcl : ∀ ty, (Builtin.clear_ #[22] ty #[.slice (some ⟨b, (i + (n - j)) * 2, none⟩) (n - (i + (n - j))) (cap - (i + (n - j)))]).run Try.prog W1 = .ok (.tuple #[]) (W1.setCells b ((i + (n - j)) * 2) [.slice none 0 0, .int .i64 0]) := by
    intro ty
    rw [show n - (i + (n - j)) = 1 by omega]
    refine net_clear2 W1 _ _ ty _ _ t0 (fun w => by kernel_rfl) rfl rfl rfl b _ _ (fun q hq => ?_) (fun q hq => ?_)
    · have := hcell W1 cur1 ((i + (n - j)) * 2 + q) hb1 (by omega)
      rw [this.1, Array.getElem?_eq_getElem (by omega)]; rfl
    · exact (hcell W1 cur1 ((i + (n - j)) * 2 + q) hb1 (by omega)).2
  have HW : Hid (W1 = w.drew.setCells b (0 + i * 2) news) := hW1
  have hA' : (if cap = j then some (⟨b, 0, none⟩ : Addr) else some ⟨b, j * 2, none⟩) = some A := by simpa using hA
  clear hA
  have HN : Hid (news = (cur.toList.take (n * 2)).drop (i * 2 + 2)) := hnews
  have hic : i ≤ cap := by omega
  have hjc : j ≤ cap := by omega
  have hlt : i < j := by omega
  have hjn : j ≤ n := by omega
  have mixed : Try.prog.follows Departure.mixedOrders = true := by kernel_rfl
  have heq : decide ((i : Int) = (j : Int)) = false := decide_eq_false (by omega)
  have HIJ : Hid (j = i + 1) := hij
  clear hij hnews hlen hold1 hW1 hb1 hs1 hcell hb hs h1
  go_enter Try.func28, Try.ntmps28
  go_wp2_with fail
  go_region_law_o (refine step_append_room rfl (.tmp 22) (.tmp 25) 22 rfl 26 i0 2 t0 hi0 hz1 b 0 i cap (by simp [Act.eval, Act.put]) A (n - j) (cap - j) news (by simp [Act.eval, Act.put]) s1 hsrc s2 (by omega) s3 ?_; rw [← HW])
  go_wp2
  go_ret
  have e0 : j = i + 1 := HIJ
  have e1 : i + (n - j) = n - 1 := by omega
  have e2 : W1 = w.drew.setCells b (0 + i * 2) news := HW
  have e3 : news = (cur.toList.take (n * 2)).drop (i * 2 + 2) := HN
  exact ⟨by rw [e1]; rfl, by rw [e2, e3, e1, Nat.zero_add]⟩
theorem net_ones {w : World} {base : Nat} {ok : Nat → Prop} {l : List S26} {inner : List Value} (hrep : Reps (k26.M w base ok) 2 l inner) : ∀ u ∈ inner, u.oneCell' = true := by
  intro u hu
  obtain ⟨q, hq, rfl⟩ := List.mem_iff_getElem.1 hu
  have hl := hrep.1
  have hj : q / 2 < l.length := by omega
  have h := k26.K_one (k26.K_of_M (hrep.2 (q / 2) _ (List.getElem?_eq_getElem hj)))
  refine h _ (List.mem_of_getElem? (i := q % 2) ?_)
  rw [List.getElem?_take_of_lt (by omega), List.getElem?_drop, show q / 2 * 2 + q % 2 = q by omega, List.getElem?_eq_getElem hq]
theorem net_Delete2 (b n cap i j : Nat) (cur : Array Value) (inner : List Value) (w : World) (hb : w.heap[b]? = some (.cells cur 26 (0, 0))) (hn : n ≤ cap) (hm : cap ≤ 9223372036854775807) (hs : cap * 2 ≤ cur.size) (hin : cur.toList.take (n * 2) = inner) (h1 : ∀ u ∈ inner, u.oneCell' = true) (hij : j = i + 1) (hi : i < n) :
    Calls Try.prog 28 #[.slice (some ⟨b, 0, none⟩) n cap, .int .i64 i, .int .i64 j] w fun e w' => e = .returned (.slice (some ⟨b, 0, none⟩) (n - 1) cap) ∧ (∀ k, k ≠ b → w'.heap[k]? = w.heap[k]?) ∧
      (∃ cur', w'.heap[b]? = some (.cells cur' 26 (0, 0)) ∧ cur'.size = cur.size ∧ cur'.toList.take ((n - 1) * 2) = inner.take (i * 2) ++ inner.drop (i * 2 + 2)) ∧ w'.os = w.os ∧ w'.tape = w.tape ∧ w'.output = w.output ∧ w'.heap.size = w.heap.size := by
  subst hin
  refine (net_Delete b n cap i j cur w hb hn hm hs h1 hij hi).mono ?_
  rintro e w' ⟨rfl, rfl⟩
  have hlt : (cur.toList.take (n * 2)).length = n * 2 := by rw [List.length_take, Array.length_toList]; omega
  have hl1 : ((cur.toList.take (n * 2)).drop (i * 2 + 2)).length = n * 2 - (i * 2 + 2) := by rw [List.length_drop, hlt]
  obtain ⟨c1, b1, s1, t1⟩ := setCells_row ((cur.toList.take (n * 2)).drop (i * 2 + 2)) (i * 2) w.drew cur hb (by rw [hl1]; omega)
  obtain ⟨c2, b2, s2, t2⟩ := setCells_row [.slice none 0 0, .int .i64 0] ((n - 1) * 2) _ c1 b1 (by simp; omega)
  have q1 := setCells_same b ((cur.toList.take (n * 2)).drop (i * 2 + 2)) (i * 2) w.drew
  have q2 := setCells_same b [.slice none 0 0, .int .i64 0] ((n - 1) * 2) (w.drew.setCells b (i * 2) ((cur.toList.take (n * 2)).drop (i * 2 + 2)))
  refine ⟨rfl, fun k hk => ?_, ⟨c2, b2, by rw [s2, s1], ?_⟩, q2.1.trans q1.1, q2.2.1.trans q1.2.1, q2.2.2.1.trans q1.2.2.1, q2.2.2.2.trans q1.2.2.2⟩
  · rw [setCells_far _ _ _ hk, setCells_far _ _ _ hk]; rfl
  · have hlc : c1.toList.length = cur.size := by rw [Array.length_toList, s1]
    rw [t2, List.append_assoc, List.take_append_of_le_length (by rw [List.length_take]; omega), List.take_take, Nat.min_self, t1, List.take_append_of_le_length (by rw [List.length_append, hl1, List.length_take, Array.length_toList]; omega)]
    rw [List.take_of_length_le (by rw [List.length_append, hl1, List.length_take, Array.length_toList]; omega), List.take_take, Nat.min_eq_left (by omega)]
theorem net_erase {α : Type} {R : α → List Value → Prop} {ps : List α} {cs : List Value} (h : Reps R 2 ps cs) (i : Nat) (hi : i < ps.length) : Reps R 2 (ps.eraseIdx i) (cs.take (i * 2) ++ cs.drop (i * 2 + 2)) := by
  have hl := h.1
  refine ⟨by rw [List.length_append, List.length_take, List.length_drop, List.length_eraseIdx_of_lt hi]; omega, fun j p hj => ?_⟩
  rw [List.getElem?_eraseIdx] at hj
  split at hj
  · next hji =>
    have := h.2 j p hj
    have e : ((cs.take (i * 2) ++ cs.drop (i * 2 + 2)).drop (j * 2)).take 2 = (cs.drop (j * 2)).take 2 := by
      refine List.ext_getElem? fun q => ?_
      rw [List.getElem?_take, List.getElem?_take]
      split
      · rw [List.getElem?_drop, List.getElem?_drop, List.getElem?_append_left (by rw [List.length_take]; omega), List.getElem?_take_of_lt (by omega)]
      · rfl
    rw [e]; exact this
  · next hji =>
    have := h.2 (j + 1) p hj
    have e : ((cs.take (i * 2) ++ cs.drop (i * 2 + 2)).drop (j * 2)).take 2 = (cs.drop ((j + 1) * 2)).take 2 := by
      refine List.ext_getElem? fun q => ?_
      rw [List.getElem?_take, List.getElem?_take]
      split
      · rw [List.getElem?_drop, List.getElem?_drop, List.getElem?_append_right (by rw [List.length_take]; omega), List.length_take, List.getElem?_drop]
        congr 1
        omega
      · rfl
    rw [e]; exact this
/-- What is left of a row of one's own behind the cut, and what was taken. -/
theorem net_cut {w1 W' : World} {base g n c i : Nat} {ok : Nat → Prop} {l0 : List S26} {inner : List Value} {cur' : Array Value} (hlen : l0.length = n)
    (hbg : base ≤ g) (hnc : n ≤ c) (hcm : c ≤ maxLen) (hrep : Reps (k26.M w1 base ok) 2 l0 inner) (hok : ∀ k, ok k → k ≠ g) (hi : i < n)
    (hh' : W'.heap[g]? = some (.cells cur' 26 (0, 0))) (hs' : cur'.size = c * 2) (ht : cur'.toList.take ((n - 1) * 2) = inner.take (i * 2) ++ inner.drop (i * 2 + 2))
    (hm : ∀ k, base ≤ k → k < w1.heap.size → k ≠ g → W'.heap[k]? = w1.heap[k]?) :
    Kd.V k26 26 W' base (fun k => base ≤ k) (.slice (some ⟨g, 0, none⟩) (n - 1) n) (l0.eraseIdx i) ∧
      ∃ v0, inner[i * 2]? = some v0 ∧ inner[i * 2 + 1]? = some (.int .i64 (rd_T26 l0 i).f1) ∧ Kd.V (Kd.int .u8) 5 W' base (fun k => base ≤ k) v0 (rd_T26 l0 i).f0 := by
  subst hlen
  have hmv : ∀ k, ok k ∧ base ≤ k ∧ k < w1.heap.size ∧ (∃ q, q ∈ k26.E ∧ ∃ cells, w1.heap[k]? = some (.cells cells q (0, 0))) → W'.heap[k]? = w1.heap[k]? := fun k hk => hm k hk.2.1 hk.2.2.1 (hok k hk.1)
  have hlr : inner.length = l0.length * 2 := hrep.1
  constructor
  · have hR : Kd.R k26 26 W' base (fun k => base ≤ k) (.slice (some ⟨g, 0, none⟩) (l0.eraseIdx i).length c) (l0.eraseIdx i) := by
      refine ⟨fun k hk => ?_, inner.take (i * 2) ++ inner.drop (i * 2 + 2), ⟨(net_erase hrep i hi).1, .inr ⟨g, c, cur', rfl, hbg, hh', ?_, hcm, hs', ?_⟩⟩, ?_⟩
      · simp [Value.ownBlock] at hk; omega
      · rw [List.length_eraseIdx_of_lt hi]; omega
      · rw [List.length_eraseIdx_of_lt hi]; exact ht
      · refine (net_erase hrep i hi).imp_ fun p cs hp => ?_
        refine k26.M_mono (fun k hk => ⟨hk.2.1, ?_⟩) (k26.M_move hmv (k26.M_bound hp))
        simp [Value.ownBlock]
        exact hok k hk.1
    have hF := Kd.R_F hR
    have hV := Kd.V_mk (e := 26) (base := base) (c := l0.length) (by rw [List.length_eraseIdx_of_lt hi]; omega) hF
    rw [List.length_eraseIdx_of_lt hi] at hV
    exact hV
  · have hM := hrep.2 i _ (List.getElem?_eq_getElem hi)
    obtain ⟨v0, hc, hR0⟩ := k26_openM hM
    have e : rd_T26 l0 (i : Int) = l0[i] := by simp [rd_T26, List.getD_eq_getElem?_getD, List.getElem?_eq_getElem hi]
    have h0 : inner[i * 2]? = some v0 := by have := congrArg (fun l => l[0]?) hc; simpa [List.getElem?_take, List.getElem?_drop] using this
    have h1 : inner[i * 2 + 1]? = some (.int .i64 l0[i].f1) := by have := congrArg (fun l => l[1]?) hc; simpa [List.getElem?_take, List.getElem?_drop] using this
    rw [e]
    refine ⟨v0, h0, h1, Kd.V_mono (Kd.R_V (Kd.R_move (Kd.R_bound hR0) ?_)) (fun k hk => hk.2.1)⟩
    exact fun k hk => hm k hk.2.1 hk.2.2.1 (hok k hk.1)
def net_Hold2 (p : Prop) : Prop := p
theorem net_hold2_of {p : Prop} (h : net_Hold2 p) : p := h
theorem net_hold2_mk {p : Prop} (h : p) : net_Hold2 p := h
def net_Take.f (l0 : List S26) (a1 : Int) : Option (List Int × Int × List S26 × Int) :=
  if 0 ≤ a1 ∧ a1 < (l0.length : Int) then (if net_lim l0 = true then some ((rd_T26 l0 a1).f0, (rd_T26 l0 a1).f1, l0.eraseIdx a1.toNat, 0) else none) else some ([], 0, [], 50)
theorem net_there.is (l0 : List S26) (a1 : Int) : net_there.f l0 a1 = some (decide (0 ≤ a1 ∧ a1 < (l0.length : Int))) := by
  unfold net_there.f
  by_cases h0 : 0 ≤ a1 <;> by_cases h1 : a1 < (l0.length : Int) <;> simp [h0, h1]
set_option maxRecDepth 100000 in
set_option maxHeartbeats 2000000 in
theorem net_Take.calls (A0 : Option Addr) (c0 : Nat) (l0 : List (S26)) (a1 : Int) (r1 : List Int) (r2 : Int) (r3 : List (S26)) (r4 : Int) (w : World) (hr0 : Kd.C k26 w A0 l0.length l0) (hc0 : l0.length ≤ c0) (h : net_Take.f l0 a1 = some (r1, r2, r3, r4)) :
    Calls Try.prog 12 #[.slice A0 l0.length c0, .int .i64 a1] w fun e w' => ∃ v0_ v2_ : Value, e = .returned (.tuple #[.agg #[v0_, .int .i64 r2], v2_, .int .i64 r4]) ∧ Kd.V (Kd.int .u8) 5 w' w.heap.size (fun k_ => (w.heap.size ≤ k_)) v0_ r1 ∧ Kd.V k26 26 w' w.heap.size (fun k_ => (w.heap.size ≤ k_)) v2_ r3 ∧ Below w.heap.size w w' := by
  unfold net_Take.f at h
  have hth := net_there.is l0 a1
  have HC0 := Lib.hid hr0; clear hr0
  by_cases hin : 0 ≤ a1 ∧ a1 < (l0.length : Int)
  · rw [if_pos hin] at h
    rw [decide_eq_true hin] at hth
    have hl : net_lim l0 = true := by
      by_cases hl : net_lim l0 = true
      · exact hl
      · rw [if_neg hl] at h; cases h
    rw [if_pos hl] at h
    have HL := Lib.hid hl; clear hl
    have HR := Lib.hid (Option.some.inj h); clear h
    have HTH := Lib.hid hth; clear hth
    obtain ⟨i, rfl⟩ : ∃ i : Nat, a1 = i := ⟨a1.toNat, by omega⟩
    have hi : i < l0.length := by omega
    clear hin
    go_enter Try.func12, Try.ntmps12
    go_wp2_with (first | (go_at_call 27; refine (net_there.calls A0 c0 l0 i true _ (Kd.C_alloc HC0 _) hc0 HTH).mono ?_; rintro e w1 ⟨rfl, nd, rfl⟩) | (go_at_call 25; refine net_hold2_of ?_))
    refine net_hold2_mk ?_
    have HW1 := Lib.hid (blk_drewN (blk_new w (.cells #[.slice none 0 0, .int .i64 0] 26)) nd)
    have HB0 := Lib.hid (pw_below_drewN (below_alloc (Below.refl w.heap.size w) (.cells #[.slice none 0 0, .int .i64 0] 26)) nd)
    have hs1 : ((w.alloc (.cells #[.slice none 0 0, .int .i64 0] 26)).drewN nd).heap.size = w.heap.size + 1 := by show (w.alloc _).heap.size = _; simp
    refine (net_copied.any A0 c0 l0 _ (Kd.C_drewN (Kd.C_alloc HC0 _) _) hc0 HL).mono ?_
    rintro e w2 ⟨A, c, rfl, hle, hS, hb1⟩
    rw [hs1] at hS hb1
    obtain ⟨_, inner, hown, hrep'⟩ := Kd.S_R hS
    have hrep : Reps (k26.M w2 (w.heap.size + 1) (fun k => True ∧ some k ≠ (Value.slice A l0.length c).ownBlock)) 2 l0 inner := hrep'
    clear hrep'
    obtain ⟨g, he, hok⟩ : ∃ g, A = some ⟨g, 0, none⟩ ∧ ∀ k, True ∧ some k ≠ (Value.slice A l0.length c).ownBlock → k ≠ g := by
      rcases hown.2 with ⟨he, h0⟩ | ⟨g, cap, cur, he, _⟩
      · omega
      · injection he with he _ _
        exact ⟨g, he, fun k hk hg => hk.2 (by rw [he, hg]; rfl)⟩
    subst he
    obtain ⟨cur, hbg, hh, hcm, hcs, hct⟩ : ∃ cur, w.heap.size + 1 ≤ g ∧ w2.heap[g]? = some (.cells cur 26 (0, 0)) ∧ c ≤ maxLen ∧ cur.size = c * 2 ∧ cur.toList.take (l0.length * 2) = inner := by
      rcases hown.2 with ⟨he, h0⟩ | ⟨g', cap, cur, he, hbg, hh, hnc, hcm, hcs, hct⟩
      · omega
      · injection he with he _ hc
        injection he with he
        injection he with he
        subst he hc
        exact ⟨cur, hbg, hh, hcm, hcs, hct⟩
    obtain ⟨v0, hv0, hv1, Av, cv, hv⟩ : ∃ v0, inner[i * 2]? = some v0 ∧ inner[i * 2 + 1]? = some (.int .i64 (rd_T26 l0 i).f1) ∧ ∃ Av cv, v0 = .slice Av (rd_T26 l0 i).f0.length cv := by
      have hM := hrep.2 i _ (List.getElem?_eq_getElem hi)
      obtain ⟨v0, hc, hR0⟩ := k26_openM hM
      have e : rd_T26 l0 (i : Int) = l0[i] := by simp [rd_T26, List.getD_eq_getElem?_getD, List.getElem?_eq_getElem hi]
      have h0 : inner[i * 2]? = some v0 := by have := congrArg (fun l => l[0]?) hc; simpa [List.getElem?_take, List.getElem?_drop] using this
      have h1 : inner[i * 2 + 1]? = some (.int .i64 l0[i].f1) := by have := congrArg (fun l => l[1]?) hc; simpa [List.getElem?_take, List.getElem?_drop] using this
      rw [e]
      exact ⟨v0, h0, h1, Kd.R_slice hR0⟩
    subst hv
    obtain ⟨t, ht⟩ : ∃ t : Int, t = (rd_T26 l0 i).f1 := ⟨_, rfl⟩
    obtain ⟨m, hm⟩ : ∃ m : Nat, m = (rd_T26 l0 i).f0.length := ⟨_, rfl⟩
    rw [← hm] at hv0
    rw [← ht] at hv1
    have hx0 : w2.cell? ⟨g, i * 2, none⟩ = some (.slice Av m cv) := by have := hown.cells (g := g) rfl _ _ hv0; rwa [Addr.add_lit, Nat.zero_add] at this
    have hx1 : w2.cell? ⟨g, i * 2 + 1, none⟩ = some (.int .i64 t) := by have := hown.cells (g := g) rfl _ _ hv1; rwa [Addr.add_lit, Nat.zero_add] at this
    have hres : w2.heap[w.heap.size]? = some (.cells #[.slice none 0 0, .int .i64 0] 26 (0, 0)) := (hb1.block _ (by omega)).trans HW1
    have HH := Lib.hid (And.intro hh (And.intro hcm (And.intro hcs (And.intro hct (And.intro hres (And.intro hrep (And.intro hok (And.intro hv0 hv1))))))))
    have HT := Lib.hid ht; clear ht
    have HM := Lib.hid hm; clear hm
    have HB := Lib.hid (hb1)
    clear hh hcm hcs hct hres hrep hok hv0 hv1 hown hS hb1 hs1
    have hlt : (i : Int) < l0.length := by omega
    go_wp2_with fail
    obtain ⟨hh, hcm, hcs, hct, hres, hrep, hok, hv0, hv1⟩ := HH
    have HB' := HB
    have hb1 : Below (w.heap.size + 1) _ w2 := HB'
    have hg2 : g < w2.heap.size := blk_lt hh
    have hw2 : w.heap.size < w2.heap.size := blk_lt hres
    obtain ⟨W3, hW3⟩ : ∃ W3, W3 = w2.alloc (.cells #[.slice Av m cv, .int .i64 t] 26) := ⟨_, rfl⟩
    rw [← hW3]
    have hnew : W3.heap[w2.heap.size]? = some (.cells #[.slice Av m cv, .int .i64 t] 26 (0, 0)) := by rw [hW3]; exact blk_new _ _
    have hh3 : W3.heap[g]? = some (.cells cur 26 (0, 0)) := by rw [hW3]; exact blk_alloc hh _
    have hres3 : W3.heap[w.heap.size]? = some (.cells #[.slice none 0 0, .int .i64 0] 26 (0, 0)) := by rw [hW3]; exact blk_alloc hres _
    have hc0' : W3.cell? ⟨w2.heap.size, 0, none⟩ = some (.slice Av m cv) := (blk_cell hnew 0).trans rfl
    have hc1' : W3.cell? ⟨w2.heap.size, 1, none⟩ = some (.int .i64 t) := (blk_cell hnew 1).trans rfl
    have hfr0 := blk_frozen hres3 0
    have hfr1 := blk_frozen hres3 1
    obtain ⟨j, hj⟩ : ∃ j, j = i + 1 := ⟨_, rfl⟩
    have hjw : IntKind.i64.wrap ((i : Int) + 1) = (j : Int) := by rw [i64_w]; unfold wrap64; simp only [maxLen] at hcm; omega
    have hnc : l0.length ≤ c := hle
    have hinl : inner.length = l0.length * 2 := hrep.1
    have hone : ∀ u ∈ inner, u.oneCell' = true := net_ones hrep
    have HDel : Calls Try.prog 28 #[.slice (some ⟨g, 0, none⟩) l0.length l0.length, .int .i64 i, .int .i64 j] W3.drew fun e w4 => e = .returned (.slice (some ⟨g, 0, none⟩) (l0.length - 1) l0.length) ∧
        (w4.cell? ⟨w2.heap.size, 0, none⟩ = some (.slice Av m cv) ∧ w4.cell? ⟨w2.heap.size, 1, none⟩ = some (.int .i64 t)) ∧
        w4.cell? ⟨w.heap.size, 0, none⟩ = some (.slice none 0 0) ∧ w4.cell? ⟨w.heap.size, 1, none⟩ = some (.int .i64 0) ∧ w4.frozen? ⟨w.heap.size, 0, none⟩ = false ∧ w4.frozen? ⟨w.heap.size, 1, none⟩ = false ∧
        Hid ((∀ k, k ≠ g → w4.heap[k]? = W3.heap[k]?) ∧ (∃ cur', w4.heap[g]? = some (.cells cur' 26 (0, 0)) ∧ cur'.size = cur.size ∧ cur'.toList.take ((l0.length - 1) * 2) = inner.take (i * 2) ++ inner.drop (i * 2 + 2)) ∧ w4.os = W3.os ∧ w4.tape = W3.tape ∧ w4.output = W3.output ∧ w4.heap.size = W3.heap.size) := by
      refine (net_Delete2 g l0.length l0.length i j cur inner W3.drew (blk_drew hh3) (Nat.le_refl _) (by simp only [maxLen] at hcm; omega) (by omega) hct hone hj hi).mono ?_
      rintro e w4 ⟨rfl, hk, hcu, ho, htp, hou, hsz⟩
      have n4 : w4.heap[w2.heap.size]? = some (.cells #[.slice Av m cv, .int .i64 t] 26 (0, 0)) := (hk _ (by omega)).trans hnew
      have r4 : w4.heap[w.heap.size]? = some (.cells #[.slice none 0 0, .int .i64 0] 26 (0, 0)) := (hk _ (by omega)).trans hres3
      exact ⟨rfl, ⟨(blk_cell n4 0).trans rfl, (blk_cell n4 1).trans rfl⟩, (blk_cell r4 0).trans rfl, (blk_cell r4 1).trans rfl, blk_frozen r4 0, blk_frozen r4 1, hk, hcu, ho, htp, hou, hsz⟩
    have HH2 := Lib.hid (And.intro hnew (And.intro hres3 (And.intro hcm (And.intro hcs (And.intro hrep (And.intro hok (And.intro hv0 (And.intro hv1 (And.intro hb1 (And.intro hg2 (And.intro hw2 (And.intro hj (And.intro hinl (And.intro hW3 (And.intro hnc hbg)))))))))))))))
    have HD := Lib.hid HDel
    have hne1 : ¬ (w2.heap.size = w.heap.size) := by omega
    have hne2 : ¬ (w.heap.size = w2.heap.size) := by omega
    clear HDel hh hcm hcs hct hres hrep hok hv0 hv1 hb1 hg2 hw2 hh3 hres3 hnew hW3 hj hinl hone HB HB' hbg hnc hfr0 hfr1
    go_region_held3 (fun w' => w'.cell? ⟨w2.heap.size, 0, none⟩ = some (.slice Av m cv) ∧ w'.cell? ⟨w2.heap.size, 1, none⟩ = some (.int .i64 t)) (go_keep) (first | (go_at_call 28; refine HD.mono ?_; rintro e w4 ⟨rfl, hS, hr0, hr1, hf0, hf1, HX4⟩))
    obtain ⟨hnew, hres3, hcm, hcs, hrep, hok, hv0, hv1, hb1, hg2, hw2, hj, hinl, hW3, hnc, hbg⟩ := HH2
    obtain ⟨hk, ⟨cur', hcu1, hcu2, hcu3⟩, ho, htp, hou, hsz⟩ := HX4
    obtain ⟨W5, hW5⟩ : ∃ W5, W5 = ((w4.setCell ⟨w.heap.size, 0, none⟩ (.slice Av m cv)).setCell ⟨w.heap.size, 1, none⟩ (.int .i64 t)) := ⟨_, rfl⟩
    have hk5 : ∀ k, k ≠ w.heap.size → W5.heap[k]? = w4.heap[k]? := fun k hk => by
      rw [hW5, Below.heap_setCell _ _ _ k (by exact hk), Below.heap_setCell _ _ _ k (by exact hk)]
    have rh4 : w4.heap[w.heap.size]? = some (.cells #[.slice none 0 0, .int .i64 0] 26 (0, 0)) := (hk _ (by omega)).trans hres3
    have r5 : W5.heap[w.heap.size]? = some (.cells #[.slice Av m cv, .int .i64 t] 26 (0, 0)) := by
      rw [hW5]
      refine blk_put (cs := #[.slice Av m cv, .int .i64 0]) ?_ 1 _ rfl
      exact blk_put (cs := #[.slice none 0 0, .int .i64 0]) rh4 0 _ rfl
    have hcut := net_cut (n := l0.length) (W' := W5) rfl hbg hnc hcm hrep hok hi ((hk5 g (by omega)).trans hcu1) (hcu2.trans hcs) hcu3 (fun k hkb hkl hkg => by
      rw [hk5 k (by omega), hk k hkg, hW3, Below.heap_alloc w2 _ k hkl])
    obtain ⟨hV2, v0', hv0', _, hV0⟩ := hcut
    rw [hv0] at hv0'
    obtain rfl := Option.some.inj hv0'
    have hBB : Below w.heap.size w W5 := by
      have h1 : Below w.heap.size w w2 := ⟨hb1.os.trans HB0.os, hb1.tape.trans HB0.tape, hb1.output.trans HB0.output, by omega, fun k hk => (hb1.block k (by omega)).trans (HB0.block k hk)⟩
      have h3 : Below w.heap.size w W3 := by rw [hW3]; exact below_alloc h1 _
      have h4 : Below w.heap.size w w4 := ⟨ho.trans h3.os, htp.trans h3.tape, hou.trans h3.output, by rw [hsz]; exact h3.size, fun q hq => (hk q (by omega)).trans (h3.block q hq)⟩
      rw [hW5]
      exact (h4.setCell (p := ⟨w.heap.size, 0, none⟩) (Nat.le_refl _) _).setCell (p := ⟨w.heap.size, 1, none⟩) (Nat.le_refl _) _
    have hE := HR
    obtain ⟨e1, e2, e3, e4⟩ : (rd_T26 l0 i).f0 = r1 ∧ (rd_T26 l0 i).f1 = r2 ∧ l0.eraseIdx i = r3 ∧ 0 = r4 := by
      have hE' : ((rd_T26 l0 (i : Int)).f0, (rd_T26 l0 (i : Int)).f1, l0.eraseIdx (i : Int).toNat, (0 : Int)) = (r1, r2, r3, r4) := hE
      simp only [Prod.mk.injEq, Int.toNat_natCast] at hE'
      exact hE'
    have e5 : t = r2 := by have : t = (rd_T26 l0 i).f1 := HT; rw [this, e2]
    have hx50 : W5.cell? ⟨w.heap.size, 0, none⟩ = some (.slice Av m cv) := (blk_cell r5 0).trans rfl
    have hx51 : W5.cell? ⟨w.heap.size, 1, none⟩ = some (.int .i64 t) := (blk_cell r5 1).trans rfl
    rw [← hW5]
    have hfin : Hid (∃ v0_ v2_ : Value, Ending.returned (.tuple #[.agg #[.slice Av m cv, .int .i64 t], .slice (some ⟨g, 0, none⟩) (l0.length - 1) l0.length, .int .i64 0]) = .returned (.tuple #[.agg #[v0_, .int .i64 r2], v2_, .int .i64 r4]) ∧ Kd.V (Kd.int .u8) 5 W5 w.heap.size (fun k_ => (w.heap.size ≤ k_)) v0_ r1 ∧ Kd.V k26 26 W5 w.heap.size (fun k_ => (w.heap.size ≤ k_)) v2_ r3 ∧ Below w.heap.size w W5) := by
      refine ⟨_, _, by rw [e5, e4], ?_, ?_, hBB⟩
      · rw [← e1]; exact Kd.V_mono hV0 (fun k hk => by omega)
      · rw [← e3]; exact Kd.V_mono hV2 (fun k hk => by omega)
    clear hk5 hk hcu1 hcu2 hcu3 hW5 hW3 hb1 hrep hok hBB hV0 hV2 hE e1 e2 e3 e4 e5 hv0 hv1 hnew hres3
    have HR5 := Lib.hid r5
    clear r5
    go_wp2
    (try simp only [Exit.inBlock, Exit.then])
    refine bodyPost_ret (results_ctt rfl _ _ w.heap.size 26 #[.slice Av m cv, .int .i64 t] (0, 0) _ rfl HR5 Try.underlying26 rfl (by kernel_rfl)) rfl ?_
    exact hfin
  · rw [if_neg hin] at h
    rw [decide_eq_false hin] at hth
    have HR := Lib.hid (Option.some.inj h); clear h
    have HTH := Lib.hid hth; clear hth
    go_enter Try.func12, Try.ntmps12
    go_wp2_with (first | (go_at_call 27; refine (net_there.calls A0 c0 l0 a1 false _ (Kd.C_alloc HC0 _) hc0 HTH).mono ?_; rintro e w1 ⟨rfl, nd, rfl⟩))
    have r0 := blk_drewN (blk_new w (.cells #[.slice none 0 0, .int .i64 0] 26)) nd
    have r1' := blk_put (cs := #[.slice none 0 0, .int .i64 0]) r0 0 (.slice none 0 0) rfl
    have HR5 := Lib.hid (blk_put (cs := #[.slice none 0 0, .int .i64 0]) r1' 1 (.int .i64 0) rfl)
    have HBB := Lib.hid (((pw_below_drewN (below_alloc (Below.refl w.heap.size w) (.cells #[.slice none 0 0, .int .i64 0] 26)) nd).setCell (p := ⟨w.heap.size, 0, none⟩) (Nat.le_refl _) (.slice none 0 0)).setCell (p := ⟨w.heap.size, 1, none⟩) (Nat.le_refl _) (.int .i64 0))
    (try simp only [Exit.inBlock, Exit.then])
    refine bodyPost_ret (results_ctt rfl _ _ w.heap.size 26 #[.slice none 0 0, .int .i64 0] (0, 0) _ rfl HR5 Try.underlying26 rfl (by kernel_rfl)) rfl ?_
    obtain ⟨e1, e2, e3, e4⟩ : ([] : List Int) = r1 ∧ (0 : Int) = r2 ∧ ([] : List S26) = r3 ∧ (50 : Int) = r4 := by
      have hE' : (([] : List Int), (0 : Int), ([] : List S26), (50 : Int)) = (r1, r2, r3, r4) := HR
      simpa only [Prod.mk.injEq] using hE'
    subst e1 e2 e3 e4
    exact ⟨_, _, rfl, Kd.V_nil _ _ _ _ _, Kd.V_nil _ _ _ _ _, HBB⟩

end Go.Proofs.Ytpmiiokoialbmaa.PD

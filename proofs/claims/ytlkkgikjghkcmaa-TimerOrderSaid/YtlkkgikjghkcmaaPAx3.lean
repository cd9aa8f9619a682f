-- Written for the seat Ytlkkgikjghkcmaa by this session's program hyb.py (the print's functions, with externals typed by hand).
import Derived.Lib.Hide
import Derived.LoopIn
import Derived.LoopNIn
import Derived.OwnWalkIn
import Derived.RangeFuncBound
import Derived.RangeFuncBox
import Derived.RangeFuncCalls
import Derived.RangeFuncLeaves
import Derived.RangeFuncNested
import Derived.Shelf.Abstract
import Derived.Shelf.AbstractIn
import Derived.Shelf.RegionOpen
import Derived.TacticsInMore
import Derived.WalkKit
import Derived.Test.YtlkkgikjghkcmaaPAx0
import Derived.Test.YtlkkgikjghkcmaaPAx2
namespace Go.Proofs.Ytlkkgikjghkcmaa.PA
open Go.RowKit Go.Proofs.YtlkkgikjghkcmaaW.PrintWords Go.Proofs.YtlkkgikjghkcmaaW.PrintLast Go.Proofs.YtlkkgikjghkcmaaW.PrintMore
attribute [local go_sem] max2_int min2_int max_two min_two max_three min_three max_four min_four   -- for this text's walks alone
set_option linter.unusedVariables false
set_option linter.unusedSimpArgs false

/-! ### timer_When: function 17 (typed by hand) -/
/-! aux: cells of boxes, kept -/
section
open Go.Shelf
theorem rf_new (W : World) (v : Value) (t : TypeId) : (W.alloc (.cells #[v] t)).cell? ⟨W.heap.size, 0, none⟩ = some v ∧ (W.alloc (.cells #[v] t)).frozen? ⟨W.heap.size, 0, none⟩ = false := ⟨(Boxed.new W t v).cell, (Boxed.new W t v).frozen⟩
theorem rf_cell {W : World} {a : Addr} {v : Value} (o : Obj) (h : W.cell? a = some v) : (W.alloc o).cell? a = some v := cell_kept h (World.grownBy_alloc W o none) (fun r e => by cases e)
theorem rf_frozen {W : World} {a : Addr} {v : Value} (o : Obj) (h : W.cell? a = some v) (hf : W.frozen? a = false) : (W.alloc o).frozen? a = false := (frozen_kept h (World.grownBy_alloc W o none) (fun r e => by cases e)).trans hf
theorem rf_keepsN (W : World) (n : Nat) : KeepsOthers W (W.drewN n) := ⟨Nat.le_refl _, fun _ _ h _ => h⟩
end

/-! aux: a region that draws its order, quiet, within a round of a loop over an iterator -/
section
open Go.Shelf
def noDefer (l : List Oper) : Bool := l.all fun o => match o.op with | .defer _ => false | _ => true
theorem noDefer_at {l : List Oper} (h : noDefer l = true) {i : Nat} {o : Oper} (ho : l.toArray[i]? = some o) : ∀ c, o.op ≠ .defer c := by
 intro c hc
 have hm : o ∈ l := by
  have : l[i]? = some o := by simpa using ho
  exact List.mem_of_getElem? this
 have := List.all_eq_true.1 h o hm
 rw [hc] at this
 exact absurd this (by simp)
theorem wpOp_round {F : Fence} {n lp : Nat} {P : Program} {l : List Oper} {Q : Exit → Act → World → Prop} {i : Nat} {K K' : Act → World → Prop} {a : Act} {w : World} (hnd : noDefer l = true) (hK : ∀ a w, K a w → K' a w)
  (h : wpOpIn F n P l.toArray Q i K a w) : wpOpIn (F.inRound lp) n P l.toArray Q i K' a w := by
 unfold wpOpIn at h ⊢
 cases ho : l.toArray[i]? with
 | none => simp only [ho] at h ⊢; exact hK _ _ h
 | some o =>
  simp only [ho] at h ⊢
  split at h
  ·rename_i hw
   rw [if_pos hw]
   have h := Oper.wpIn_mono hK h
   refine ⟨h.1, ?_⟩
   have h2 := h.2
   rw [Oper.semAt_plain F _ _ (noDefer_at hnd ho)] at h2
   rw [Oper.semAt_plain (F.inRound lp) _ _ (noDefer_at hnd ho)]
   generalize (execOp a.eval o).run P w = r at h2 ⊢
   exact h2
  ·rename_i hw
   rw [if_neg hw]
   exact ⟨h.1, hK _ _ h.2⟩
theorem wpAny_round {F : Fence} {n lp : Nat} {P : Program} {md : Region.Mode} {l : List Oper} {Q : Exit → Act → World → Prop} (hnd : noDefer l = true) : ∀ (fuel : Nat) (listed : Array Bool) (a : Act) (w : World),
  wpAnyIn F n P md l.toArray Q fuel listed a w → wpAnyIn (F.inRound lp) n P md l.toArray Q fuel listed a w
 | 0, _, _, _, h => h
 | fuel + 1, _, _, _, h => ⟨h.1, fun i hi => wpOp_round hnd (fun a w h => wpAny_round hnd fuel _ a w h) (h.2 i hi)⟩
theorem region_quiet_round {n : Nat} {P : Program} {id : Nat} {Q : Exit → Act → World → Prop} {a : Act} {w : World} {l : List Oper} (lp : Nat) (hnd : noDefer l = true) (hm : P.follows .mixedOrders = true) (hB : Region.lexB .any l.toArray = true)
  (h : wpQuietIn Fence.wide n P l.toArray (fun w' => ∃ n, w' = w.drewN n) (fun a' => ∀ w', (∃ n, w' = w.drewN n) → Q .normal a' w') l a) : (Code.region id l.toArray true).wpIn (Fence.wide.inRound lp) n P Q a w := by
 have hB0 := hB
 simp only [Region.lexB, Bool.and_eq_true] at hB
 refine wpIn_region_any hm (wpAny_round hnd _ _ _ _ (wpAnyIn_of_quiet (C := fun w' => ∃ n, w' = w.drewN n) (Q := fun a' => ∀ w', (∃ n, w' = w.drewN n) → Q .normal a' w') rfl (fun _ w' hw' h => h w' hw') _ _ _ _ ⟨1, rfl⟩ ?_))
 have := wpAnyQIn_lex (F := Fence.wide) (n := n) (C := fun w' => ∃ n, w' = w.drewN n) (md := .any) hB.1 l 0 (Array.replicate l.toArray.size false) a (by simp) (by simpa using hB.2) h
 simpa using this
end

/-! aux: what a round keeps; blocks that lie as they lay -/
section
open Go.Shelf
theorem grown_none {W W' : World} (h : Below W.heap.size W W') : W.grownBy W' none := ⟨h.os, h.tape, h.output, h.size, fun k hk _ => h.block k hk⟩
theorem abides_below {β : Type} {B : Nat} {J : β → World → Prop} (h : AbidesFrom B J) {s : β} {W W' : World} (hs : J s W) (hb : Below W.heap.size W W') : J s W' := h s W W' none hs (grown_none hb) (fun r e => by cases e)
/-- What a round keeps: all below base, and the blocks bs. -/
def KpB (base : Nat) (bs : List Nat) (A B : World) : Prop := Below base A B ∧ ∀ b ∈ bs, ∀ o, A.heap[b]? = some o → B.heap[b]? = some o
theorem KpB.trans {base : Nat} {bs : List Nat} {A B C : World} (h : KpB base bs A B) (k : KpB base bs B C) : KpB base bs A C := ⟨h.1.trans k.1, fun b hb o ho => k.2 b hb o (h.2 b hb o ho)⟩
theorem KpB.refl (base : Nat) (bs : List Nat) (A : World) : KpB base bs A A := ⟨Below.refl _ _, fun _ _ _ h => h⟩
theorem KpB.of_below {base : Nat} {bs : List Nat} {A B : World} (h : Below A.heap.size A B) (hb : base ≤ A.heap.size) : KpB base bs A B := ⟨h.mono hb, fun b _ o ho => (h.block b (Array.getElem?_eq_some_iff.1 ho).1).trans ho⟩
theorem KpB.put {base : Nat} {bs : List Nat} {w : World} (hn : base ≤ w.heap.size) (hbs : ∀ b ∈ bs, b < w.heap.size) (W : World) (l : Nat) (o o' : Obj) (hl : w.heap.size ≤ l) (h : W.heap[l]? = some o) (h1 : o.isCells = false) (h2 : o.isWalk = false) : KpB base bs W (W.putObj l o') :=
 ⟨belowK_b hn W l o o' hl h h1 h2, fun b hb o1 ho => (World.putObj_heap_other (by have := hbs b hb; omega)).trans ho⟩
theorem blk_own {W W' : World} {row : Option Nat} {b : Nat} {cs : Array Value} {t : TypeId} {z : Nat × Nat} (h : W.heap[b]? = some (.cells cs t z)) (hg : W.grownBy W' row) (hr : ∀ r, row = some r → ∃ o : Obj, W.heap[r]? = some o ∧ o.isCells = false) : W'.heap[b]? = some (.cells cs t z) :=
 (hg.block b (blk_lt h) (fun e => by obtain ⟨o, ho, h2⟩ := hr b e.symm; rw [h] at ho; injection ho with ho; rw [← ho] at h2; cases h2)).trans h
theorem R_own' {α : Type} {d : Kd α} {e base : Nat} {ok : Nat → Prop} {W W' : World} {v : Value} {xs : List α} {row : Option Nat} (h : d.R e W base ok v xs) (hg : W.grownBy W' row) (hr : ∀ r, row = some r → ∃ o : Obj, W.heap[r]? = some o ∧ o.isCells = false) : d.R e W' base ok v xs :=
 Kd.R_mono (Kd.R_move (Kd.R_bound h) (fun k hk => by
  obtain ⟨_, _, _, q, _, cells, hc⟩ := hk
  rw [blk_own hc hg hr, hc])) (fun _ hk => hk.1)
theorem heap_set {W : World} {p : Addr} {u : Value} {k : Nat} {o : Obj} (h : W.heap[k]? = some o) (hk : k ≠ p.block) : (W.setCell p u).heap[k]? = some o := (Below.heap_setCell W p u k hk).trans h
theorem blk_nx {W : World} {o p : Obj} : ((W.alloc o).alloc p).heap[W.heap.size + 1]? = some p := by
 have h := World.alloc_heap_new (W.alloc o) p; rwa [World.size_alloc] at h
end

section
open Go.Shelf
def tm_may (x : S38) : Bool := decide (1 ≤ x.f0) && (decide (x.f0 ≤ 5) && (decide (0 ≤ x.f1) && decide (x.f1 ≤ 1125899906842624)))
theorem tm_may_f (x : S38) : timer_may.f x.f0 x.f1 = some (tm_may x) := by
 unfold timer_may.f tm_may
 by_cases h0 : x.f0 ≥ 1
 ·by_cases h1 : x.f0 ≤ 5
  ·by_cases h2 : x.f1 ≥ 0
   ·simp [h0, h1, h2]
   ·simp [h0, h1, h2]
  ·simp [h0, h1]
 ·simp [h0]
def tm_ok (l : List S38) (i : Nat) : Bool := tm_may (l.getD i z38) && (decide (i = 0) || decide ((l.getD (i - 1) z38).f0 < (l.getD i z38).f0))
def tm_chk (l : List S38) : Int := if (List.range l.length).all (tm_ok l) = true then 0 else 40
theorem tm_wrap {n : Int} (h0 : -9223372036854775808 ≤ n) (h1 : n ≤ 9223372036854775807) : wrap64 n = n := by unfold wrap64; omega
theorem tm_chk_loop (l : List S38) (hl : l.length ≤ 9223372036854775807) (d : Nat) : ∀ i : Nat, i + d = l.length → ∀ k, 2 * d + 1 ≤ k → timer_Check.l0 k l l (l.length : Int) (i : Int) = some (if (List.range' i d).all (tm_ok l) = true then 0 else 40) := by
 induction d with
 | zero =>
  intro i hi k hk
  obtain ⟨k, rfl⟩ : ∃ m, k = m + 1 := ⟨k - 1, by omega⟩
  rw [timer_Check.l0, if_neg (by omega)]; rfl
 | succ d ih =>
  intro i hi k hk
  obtain ⟨k, rfl⟩ : ∃ m, k = m + 2 := ⟨k - 2, by omega⟩
  have hlt : i < l.length := by omega
  have c1 : (i : Int) < (l.length : Int) := Int.ofNat_lt.2 hlt
  have e1 : rd_T38 l (i : Int) = l.getD i z38 := by rw [rd_T38, Int.toNat_natCast]
  have hw1 : wrap64 ((i : Int) + 1) = ((i + 1 : Nat) : Int) := by rw [tm_wrap (by omega) (by omega)]; rfl
  have ih := ih (i + 1) (by omega) k (by omega)
  have hno : timer_Check.j1 (k + 1) l l (l.length : Int) (i : Int) true = some 40 := by rw [timer_Check.j1, if_pos rfl]
  have hyes : timer_Check.j1 (k + 1) l l (l.length : Int) (i : Int) false = some (if (List.range' (i + 1) d).all (tm_ok l) = true then 0 else 40) := by rw [timer_Check.j1, if_neg (by decide), hw1, ih]
  rw [timer_Check.l0, if_pos c1, if_pos (Int.natCast_nonneg i), if_pos c1, e1, tm_may_f, List.range'_succ, List.all_cons]
  rw [Option.bind_some]
  generalize hx : l.getD i z38 = x
  have hok : tm_ok l i = (tm_may x && (decide (i = 0) || decide ((l.getD (i - 1) z38).f0 < x.f0))) := by rw [tm_ok, hx]
  rw [hok]
  cases hm : tm_may x with
  | false => simp [hno]
  | true =>
   rw [Bool.true_and, if_pos rfl]
   by_cases h0 : i = 0
   ·rw [decide_eq_true h0, Bool.true_or, Bool.true_and, if_neg (by omega), hyes]
   ·have hw2 : wrap64 ((i : Int) - 1) = ((i - 1 : Nat) : Int) := by rw [tm_wrap (by omega) (by omega)]; omega
    have e2 : rd_T38 l ((i - 1 : Nat) : Int) = l.getD (i - 1) z38 := by rw [rd_T38, Int.toNat_natCast]
    rw [hw2, e2, decide_eq_false h0, Bool.false_or]
    generalize l.getD (i - 1) z38 = y
    rw [if_pos (by omega), if_pos (by omega), if_pos (by omega)]
    by_cases h1 : y.f0 < x.f0
    ·rw [decide_eq_true h1, Bool.true_and, decide_eq_false (by omega), hyes]
    ·rw [decide_eq_false h1, decide_eq_true (by omega), hno]; rfl
theorem tm_chk_f (l : List S38) (hl : l.length ≤ 9223372036854775807) (k : Nat) (hk : 2 * l.length + 1 ≤ k) : timer_Check.f k l = some (tm_chk l) := by
 rw [timer_Check.f, tm_chk]
 have := tm_chk_loop l hl l.length 0 (by omega) k (by omega)
 rw [← List.range_eq_range'] at this
 exact this
theorem tm_check (A : Option Addr) (c : Nat) (l : List S38) (w : World) (hC : Kd.C k38 w A l.length l) (hc : l.length ≤ c) : Calls Try.prog 8 #[.slice A l.length c] w fun e w' => e = .returned (.int .i64 (tm_chk l)) ∧ Below w.heap.size w w' :=
 (timer_Check.calls (2 * l.length + 1) A c l (tm_chk l) w hC hc (tm_chk_f l hC.2.1 _ (Nat.le_refl _))).mono fun e w' h => ⟨h.1, by first | exact h.2 | (obtain ⟨q, hq⟩ := h.2; subst hq; exact pw_below_drewN (Below.refl _ _) q)⟩
def tm_is (kk : Int) (x : S38) : Bool := decide (x.f0 = kk)
set_option maxRecDepth 100000 in
theorem tm_when1 (kk : Int) (B : Nat) (W : World) (hc : W.cell? ⟨B, 0, none⟩ = some (.int .i64 kk)) (x : S38) :
  Calls Try.prog 28 (#[.agg #[.int .i64 x.f0, .int .i64 x.f1]] ++ #[.pointer (some ⟨B, 0, none⟩)]) W fun e W' => e = .returned (.bool (tm_is kk x)) ∧ Below W.heap.size W W' := by
 have hlt : B < W.heap.size := World.block_lt_of_cell? W ⟨B, 0, none⟩ hc
 have hb : Below W.heap.size W (W.alloc (.cells #[.int .i64 x.f0, .int .i64 x.f1] 38)) := below_alloc (Below.refl _ _) _
 have hc1 : (W.alloc (.cells #[.int .i64 x.f0, .int .i64 x.f1] 38)).cell? ⟨B, 0, none⟩ = some (.int .i64 kk) := (hb.cell (p := ⟨B, 0, none⟩) hlt).trans hc
 have HB := Lib.hid hb; clear hb hc
 go_enter Try.func28, Try.ntmps28
 go_wp2
 go_ret
 exact ⟨by unfold tm_is; rfl, HB.out⟩
def tm_idx (p : S38 → Bool) (l : List S38) : Int := match l.findIdx? p with | some i => (i : Int) | none => -1
theorem tm_idx_any (p : S38 → Bool) (l : List S38) : decide (0 ≤ tm_idx p l) = l.any p := by
 unfold tm_idx
 cases h : l.findIdx? p with
 | none => rw [List.findIdx?_eq_none_iff] at h; rw [decide_eq_false (by show ¬ (0 : Int) ≤ -1; omega)]; exact (List.any_eq_false.2 (fun x hx => by rw [h x hx]; simp)).symm
 | some i => obtain ⟨hi, hp, _⟩ := List.findIdx?_eq_some_iff_getElem.1 h; rw [decide_eq_true (by show (0 : Int) ≤ (i : Int); omega)]; exact (List.any_eq_true.2 ⟨l[i], List.getElem_mem _, hp⟩).symm
set_option maxRecDepth 100000 in
set_option maxHeartbeats 4000000 in
theorem tm_index (g : Nat) (lb : Array Value) (p : S38 → Bool) (A : Option Addr) (c : Nat) (l : List S38) (w : World) (hC : Kd.C k38 w A l.length l)
  (eg : ∀ args w, (callFunc g args).run Try.prog w = .ok (.enter g args) w)
  (hp : ∀ (x : S38) (W : World), x ∈ l → Below w.heap.size w W → Calls Try.prog g (#[.agg #[.int .i64 x.f0, .int .i64 x.f1]] ++ lb) W fun e W' => e = .returned (.bool (p x)) ∧ Below W.heap.size W W') :
  Calls Try.prog 27 #[.slice A l.length c, .func (.func g) #[] lb] w fun e w' => e = .returned (.int .i64 (tm_idx p l)) ∧ Below w.heap.size w w' := by
 have hm : l.length ≤ 9223372036854775807 := hC.2.1
 have HC := Lib.hid hC; clear hC
 have HP := Lib.hid hp; clear hp
 go_enter Try.func27, Try.ntmps27
 go_wp2
 go_loopw [8] (fun i wr => ∃ k : Nat, k ≤ l.length ∧ i = .int .i64 k ∧ (∀ j (hj : j < l.length), j < k → p l[j] = false) ∧ Below w.heap.size w wr)
  (fun i _ => l.length - (intOf i).toNat)
 case atStart => exact ⟨0, Nat.zero_le _, rfl, fun j _ hj => absurd hj (by omega), Below.refl _ _⟩
 case round =>
  obtain ⟨k, hk, rfl, hno, hb⟩ := hrel
  have HNO := Lib.hid hno; clear hno
  have HB := Lib.hid hb; clear hb
  by_cases hlt : k < l.length
  ·obtain ⟨ad, had, hx0, hx1⟩ := at_T38 HC.out (k : Int) (by omega) (by omega)
   obtain rfl := had
   replace hx0 := (HB.out.cell (World.block_lt_of_cell? w _ hx0)).trans hx0
   replace hx1 := (HB.out.cell (World.block_lt_of_cell? w _ hx1)).trans hx1
   have hg : l.getD k z38 = l[k] := by rw [List.getD_eq_getElem?_getD, List.getElem?_eq_getElem hlt]; rfl
   have hrd : rd_T38 l (k : Int) = l[k] := by rw [← hg]; rfl
   simp only [Int.toNat_natCast, hrd] at hx0 hx1
   obtain ⟨x, hx⟩ : ∃ x, l[k] = x := ⟨_, rfl⟩
   rw [hx] at hx0 hx1
   have HX := Lib.hid hx
   have HQ := Lib.hid (HP.out x wr (by rw [← hx]; exact List.getElem_mem _) HB.out)
   clear hg hrd hx
   have hlt' : (k : Int) < l.length := by omega
   by_cases hp : p x = true
   ·rw [hp] at HQ
    go_wp2_with (go_at_fn g; refine HQ.out.mono ?_; rintro e w' ⟨rfl, hb2⟩)
    go_ret
    refine ⟨?_, HB.out.trans (hb2.mono HB.out.size)⟩
    have hi : l.findIdx? p = some k := List.findIdx?_eq_some_iff_getElem.2 ⟨hlt, by rw [HX.out]; exact hp, fun j hj => by have := HNO.out j (by omega) hj; simp [this]⟩
    simp only [tm_idx, hi]
    rfl
   ·have hp' : p x = false := Bool.eq_false_iff.mpr hp
    rw [hp'] at HQ
    go_wp2_with (go_at_fn g; refine HQ.out.mono ?_; rintro e w' ⟨rfl, hb2⟩)
    go_roundw
    case rel =>
     refine ⟨k + 1, by omega, by simp, fun j hj hjk => ?_, HB.out.trans (hb2.mono HB.out.size)⟩
     by_cases hjk2 : j < k
     ·exact HNO.out j hj hjk2
     ·obtain rfl : j = k := by omega
      rw [HX.out]; exact hp'
    case measure => simp [intOf]; omega
  ·obtain rfl : k = l.length := by omega
   go_wp2
   go_ret
   refine ⟨?_, HB.out⟩
   have hi : l.findIdx? p = none := List.findIdx?_eq_none_iff.2 fun x hx => by obtain ⟨j, hj, rfl⟩ := List.mem_iff_getElem.1 hx; exact HNO.out j hj hj
   simp only [tm_idx, hi]
   rfl
def tm_when (l : List S38) (kk : Int) : Int × Bool := if tm_idx (tm_is kk) l < 0 ∨ tm_chk l ≠ 0 then (0, false) else ((l.getD (tm_idx (tm_is kk) l).toNat z38).f1, true)
theorem tm_idx_lt (q : S38 → Bool) (l : List S38) : tm_idx q l < l.length := by
 unfold tm_idx
 cases h : l.findIdx? q with
 | none => show (-1 : Int) < _; omega
 | some i => obtain ⟨hi, _⟩ := List.findIdx?_eq_some_iff_getElem.1 h; show (i : Int) < _; omega
def timer_When.f (l0 : List S38) (a1 : Int) : Option (Int × Bool) := some (tm_when l0 a1)
set_option maxRecDepth 100000 in
set_option maxHeartbeats 4000000 in
theorem timer_When.calls (A0 : Option Addr) (c0 : Nat) (l0 : List S38) (a1 : Int) (r1 : Int) (r2 : Bool) (w : World) (hr0 : Kd.C k38 w A0 l0.length l0) (hc0 : l0.length ≤ c0) (h : timer_When.f l0 a1 = some (r1, r2)) :
  Calls Try.prog 17 #[.slice A0 l0.length c0, .int .i64 a1] w fun e w' => e = .returned (.tuple #[.int .i64 r1, .bool r2]) ∧ Below w.heap.size w w' := by
 have hr : tm_when l0 a1 = (r1, r2) := Option.some.inj h
 clear h
 have HR := Lib.hid hr; clear hr
 have hnew : (w.alloc (.cells #[.int .i64 a1] 28)).cell? ⟨w.heap.size, 0, none⟩ = some (.int .i64 a1) := (blk_cell (blk_new w _) 0).trans rfl
 have hb0 : Below w.heap.size w (w.alloc (.cells #[.int .i64 a1] 28)) := below_alloc (Below.refl _ _) _
 have HC := Lib.hid hr0; have HC0 := Lib.hid hc0; have HB0 := Lib.hid hb0
 have HI := Lib.hid (tm_index 28 #[.pointer (some ⟨w.heap.size, 0, none⟩)] (tm_is a1) A0 c0 l0 _ (Kd.C_below hr0 hb0) (enters_of Try.func28 (by kernel_rfl) rfl)
  (fun x W _ hW => tm_when1 a1 w.heap.size W ((hW.cell (p := ⟨w.heap.size, 0, none⟩) (World.block_lt_of_cell? _ ⟨w.heap.size, 0, none⟩ hnew)).trans hnew) x))
 clear hr0 hc0 hb0 hnew
 have hlt0 := tm_idx_lt (tm_is a1) l0
 have HLT := Lib.hid hlt0; clear hlt0
 obtain ⟨i, hi⟩ : ∃ i, tm_idx (tm_is a1) l0 = i := ⟨_, rfl⟩
 obtain ⟨ec, hec⟩ : ∃ ec, tm_chk l0 = ec := ⟨_, rfl⟩
 have HR' : tm_when l0 a1 = (r1, r2) := HR.out
 unfold tm_when at HR'
 rw [hi, hec] at HR'
 rw [hi] at HI HLT
 have HE := Lib.hid hec
 clear HR hi hec
 have HR := Lib.hid HR'; clear HR'
 go_enter Try.func17, Try.ntmps17
 by_cases h1 : i < 0
 ·have q1 : decide (i < 0) = true := decide_eq_true h1
  have HR1 := HR.out
  rw [if_pos (.inl h1)] at HR1
  obtain ⟨rfl, rfl⟩ := Prod.mk.inj HR1
  clear HR1 h1
  go_wp2_with (go_at_call 27; refine HI.out.mono ?_; rintro e w1 ⟨rfl, hb⟩)
  go_ret2
  exact ⟨rfl, below_step HB0.out hb⟩
 ·have q1 : decide (i < 0) = false := decide_eq_false h1
  by_cases h2 : ec = 0
  ·subst h2
   have HR1 := HR.out
   rw [if_neg (by omega)] at HR1
   obtain ⟨rfl, rfl⟩ := Prod.mk.inj HR1
   have hl := HLT.out
   obtain ⟨ad, had, hx0, hx1⟩ := at_T38 HC.out i (by omega) hl
   obtain rfl := had
   have HX1 := Lib.hid hx1
   have HX0 := Lib.hid hx0
   have p1 : decide (0 ≤ i) = true := decide_eq_true (by omega)
   have p2 : decide (i < (l0.length : Int)) = true := decide_eq_true hl
   have p3 : 0 ≤ i := by omega
   clear HR1 h1 hx0
   go_wp2_with (first | (go_at_call 27; refine HI.out.mono ?_; rintro e w1 ⟨rfl, hb⟩; have HB1 := Lib.hid (below_step HB0.out hb); clear hb) | (go_at_call 8; refine (tm_check _ c0 l0 _ (Kd.C_below HC.out HB1.out) HC0.out).mono ?_; rintro e w2 ⟨rfl, hb⟩; have HB2 := Lib.hid (below_step HB1.out hb); clear hb; rw [HE.out]; have hx2 := (HB2.out.cell (World.block_lt_of_cell? w _ HX1.out)).trans HX1.out))
   go_ret2
   exact ⟨rfl, HB2.out⟩
  ·have q2 : (ec != 0) = true := bne_iff_ne.mpr h2
   have HR1 := HR.out
   rw [if_pos (.inr h2)] at HR1
   obtain ⟨rfl, rfl⟩ := Prod.mk.inj HR1
   clear HR1 h1 h2
   go_wp2_with (first | (go_at_call 27; refine HI.out.mono ?_; rintro e w1 ⟨rfl, hb⟩; have HB1 := Lib.hid (below_step HB0.out hb); clear hb) | (go_at_call 8; refine (tm_check A0 c0 l0 _ (Kd.C_below HC.out HB1.out) HC0.out).mono ?_; rintro e w2 ⟨rfl, hb⟩; have HB2 := Lib.hid (below_step HB1.out hb); clear hb; rw [HE.out]))
   go_ret2
   exact ⟨rfl, HB2.out⟩
end

end Go.Proofs.Ytlkkgikjghkcmaa.PA

-- Written for the seat Ytfckpjljpeaikaa by this session's program hyb.py (the print's functions, with externals typed by hand).
import Derived.Laws.BitsLemmas
import Derived.Lib.Hide
import Derived.LoopIn
import Derived.LoopNIn
import Derived.OwnWalkIn
import Derived.RangeFuncBound
import Derived.RangeFuncBox
import Derived.RangeFuncCalls
import Derived.RangeFuncLeaves
import Derived.RangeFuncNested
import Derived.Shelf.Abstract
import Derived.Shelf.RegionOpen
import Derived.Sort.BigQuietIn
import Derived.Sort.QuietThIn
import Derived.TacticsInMore
import Derived.WalkKit
import Derived.Test.YtfckpjljpeaikaaPAx0
import Derived.Test.YtfckpjljpeaikaaPAx3
import Derived.Test.YtfckpjljpeaikaaPAx4
import Derived.Test.YtfckpjljpeaikaaPAx7
namespace Go.Proofs.Ytfckpjljpeaikaa.PA
open Go.RowKit Go.Proofs.YtfckpjljpeaikaaW.PrintWords Go.Proofs.YtfckpjljpeaikaaW.PrintLast Go.Proofs.YtfckpjljpeaikaaW.PrintMore
attribute [local go_sem] max2_int min2_int max_two min_two max_three min_three max_four min_four   -- for this text's walks alone
set_option linter.unusedVariables false
set_option linter.unusedSimpArgs false

/-! ### rack_Mark: function 16 (typed by hand) -/
/-! aux: cells of boxes, kept -/
section
open Go.Shelf
theorem rf_new (W : World) (v : Value) (t : TypeId) : (W.alloc (.cells #[v] t)).cell? ⟨W.heap.size, 0, none⟩ = some v ∧ (W.alloc (.cells #[v] t)).frozen? ⟨W.heap.size, 0, none⟩ = false := ⟨(Boxed.new W t v).cell, (Boxed.new W t v).frozen⟩
theorem rf_cell {W : World} {a : Addr} {v : Value} (o : Obj) (h : W.cell? a = some v) : (W.alloc o).cell? a = some v := cell_kept h (World.grownBy_alloc W o none) (fun r e => by cases e)
theorem rf_frozen {W : World} {a : Addr} {v : Value} (o : Obj) (h : W.cell? a = some v) (hf : W.frozen? a = false) : (W.alloc o).frozen? a = false := (frozen_kept h (World.grownBy_alloc W o none) (fun r e => by cases e)).trans hf
theorem rf_keepsN (W : World) (n : Nat) : KeepsOthers W (W.drewN n) := ⟨Nat.le_refl _, fun _ _ h _ => h⟩
end

/-! aux: a region that draws its order, quiet, within a round of a loop over an iterator -/
section
open Go.Shelf
def noDefer (l : List Oper) : Bool := l.all fun o => match o.op with | .defer _ => false | _ => true
theorem noDefer_at {l : List Oper} (h : noDefer l = true) {i : Nat} {o : Oper} (ho : l.toArray[i]? = some o) : ∀ c, o.op ≠ .defer c := by
 intro c hc
 have hm : o ∈ l := by
  have : l[i]? = some o := by simpa using ho
  exact List.mem_of_getElem? this
 have := List.all_eq_true.1 h o hm
 rw [hc] at this
 exact absurd this (by simp)
theorem wpOp_round {F : Fence} {n lp : Nat} {P : Program} {l : List Oper} {Q : Exit → Act → World → Prop} {i : Nat} {K K' : Act → World → Prop} {a : Act} {w : World} (hnd : noDefer l = true) (hK : ∀ a w, K a w → K' a w)
  (h : wpOpIn F n P l.toArray Q i K a w) : wpOpIn (F.inRound lp) n P l.toArray Q i K' a w := by
 unfold wpOpIn at h ⊢
 cases ho : l.toArray[i]? with
 | none => simp only [ho] at h ⊢; exact hK _ _ h
 | some o =>
  simp only [ho] at h ⊢
  split at h
  ·rename_i hw
   rw [if_pos hw]
   have h := Oper.wpIn_mono hK h
   refine ⟨h.1, ?_⟩
   have h2 := h.2
   rw [Oper.semAt_plain F _ _ (noDefer_at hnd ho)] at h2
   rw [Oper.semAt_plain (F.inRound lp) _ _ (noDefer_at hnd ho)]
   generalize (execOp a.eval o).run P w = r at h2 ⊢
   exact h2
  ·rename_i hw
   rw [if_neg hw]
   exact ⟨h.1, hK _ _ h.2⟩
theorem wpAny_round {F : Fence} {n lp : Nat} {P : Program} {md : Region.Mode} {l : List Oper} {Q : Exit → Act → World → Prop} (hnd : noDefer l = true) : ∀ (fuel : Nat) (listed : Array Bool) (a : Act) (w : World),
  wpAnyIn F n P md l.toArray Q fuel listed a w → wpAnyIn (F.inRound lp) n P md l.toArray Q fuel listed a w
 | 0, _, _, _, h => h
 | fuel + 1, _, _, _, h => ⟨h.1, fun i hi => wpOp_round hnd (fun a w h => wpAny_round hnd fuel _ a w h) (h.2 i hi)⟩
theorem region_quiet_round {n : Nat} {P : Program} {id : Nat} {Q : Exit → Act → World → Prop} {a : Act} {w : World} {l : List Oper} (lp : Nat) (hnd : noDefer l = true) (hm : P.follows .mixedOrders = true) (hB : Region.lexB .any l.toArray = true)
  (h : wpQuietIn Fence.wide n P l.toArray (fun w' => ∃ n, w' = w.drewN n) (fun a' => ∀ w', (∃ n, w' = w.drewN n) → Q .normal a' w') l a) : (Code.region id l.toArray true).wpIn (Fence.wide.inRound lp) n P Q a w := by
 have hB0 := hB
 simp only [Region.lexB, Bool.and_eq_true] at hB
 refine wpIn_region_any hm (wpAny_round hnd _ _ _ _ (wpAnyIn_of_quiet (C := fun w' => ∃ n, w' = w.drewN n) (Q := fun a' => ∀ w', (∃ n, w' = w.drewN n) → Q .normal a' w') rfl (fun _ w' hw' h => h w' hw') _ _ _ _ ⟨1, rfl⟩ ?_))
 have := wpAnyQIn_lex (F := Fence.wide) (n := n) (C := fun w' => ∃ n, w' = w.drewN n) (md := .any) hB.1 l 0 (Array.replicate l.toArray.size false) a (by simp) (by simpa using hB.2) h
 simpa using this
end

def rm_idx (p : S25 → Bool) (l : List S25) : Int := match l.findIdx? p with | some i => (i : Int) | none => -1
theorem rm_idx_any (p : S25 → Bool) (l : List S25) : decide (0 ≤ rm_idx p l) = l.any p := by
 unfold rm_idx
 cases h : l.findIdx? p with
 | none => rw [List.findIdx?_eq_none_iff] at h; rw [decide_eq_false (by show ¬ (0 : Int) ≤ -1; omega)]; exact (List.any_eq_false.2 (fun x hx => by rw [h x hx]; simp)).symm
 | some i => obtain ⟨hi, hp, _⟩ := List.findIdx?_eq_some_iff_getElem.1 h; rw [decide_eq_true (by show (0 : Int) ≤ (i : Int); omega)]; exact (List.any_eq_true.2 ⟨l[i], List.getElem_mem _, hp⟩).symm
set_option maxRecDepth 100000 in
set_option maxHeartbeats 4000000 in
theorem rm_index (g : Nat) (lb : Array Value) (p : S25 → Bool) (A : Option Addr) (c : Nat) (l : List S25) (w : World) (hC : Kd.C k25 w A l.length l)
  (eg : ∀ args w, (callFunc g args).run Try.prog w = .ok (.enter g args) w)
  (hp : ∀ (x : S25) (W : World), x ∈ l → Below w.heap.size w W → Calls Try.prog g (#[.agg #[.int .i64 x.f0, .int .i64 x.f1, .bool x.f2, .int .i64 x.f3, .int .i64 x.f4, .bool x.f5, .bool x.f6, .bool x.f7, .int .i64 x.f8, .int .i64 x.f9, .int .i64 x.f10, .bool x.f11]] ++ lb) W fun e W' => e = .returned (.bool (p x)) ∧ Below W.heap.size W W') :
  Calls Try.prog 34 #[.slice A l.length c, .func (.func g) #[] lb] w fun e w' => e = .returned (.int .i64 (rm_idx p l)) ∧ Below w.heap.size w w' := by
 have hm : l.length ≤ 9223372036854775807 := hC.2.1
 have HC := Lib.hid hC; clear hC
 have HP := Lib.hid hp; clear hp
 go_enter Try.func34, Try.ntmps34
 go_wp2
 go_loopw [8] (fun i wr => ∃ k : Nat, k ≤ l.length ∧ i = .int .i64 k ∧ (∀ j (hj : j < l.length), j < k → p l[j] = false) ∧ Below w.heap.size w wr)
  (fun i _ => l.length - (intOf i).toNat)
 case atStart => exact ⟨0, Nat.zero_le _, rfl, fun j _ hj => absurd hj (by omega), Below.refl _ _⟩
 case round =>
  obtain ⟨k, hk, rfl, hno, hb⟩ := hrel
  have HNO := Lib.hid hno; clear hno
  have HB := Lib.hid hb; clear hb
  by_cases hlt : k < l.length
  ·obtain ⟨ad, had, hx0, hx1, hx2, hx3, hx4, hx5, hx6, hx7, hx8, hx9, hx10, hx11⟩ := at_T25 HC.out (k : Int) (by omega) (by omega)
   obtain rfl := had
   replace hx0 := (HB.out.cell (World.block_lt_of_cell? w _ hx0)).trans hx0
   replace hx1 := (HB.out.cell (World.block_lt_of_cell? w _ hx1)).trans hx1
   replace hx2 := (HB.out.cell (World.block_lt_of_cell? w _ hx2)).trans hx2
   replace hx3 := (HB.out.cell (World.block_lt_of_cell? w _ hx3)).trans hx3
   replace hx4 := (HB.out.cell (World.block_lt_of_cell? w _ hx4)).trans hx4
   replace hx5 := (HB.out.cell (World.block_lt_of_cell? w _ hx5)).trans hx5
   replace hx6 := (HB.out.cell (World.block_lt_of_cell? w _ hx6)).trans hx6
   replace hx7 := (HB.out.cell (World.block_lt_of_cell? w _ hx7)).trans hx7
   replace hx8 := (HB.out.cell (World.block_lt_of_cell? w _ hx8)).trans hx8
   replace hx9 := (HB.out.cell (World.block_lt_of_cell? w _ hx9)).trans hx9
   replace hx10 := (HB.out.cell (World.block_lt_of_cell? w _ hx10)).trans hx10
   replace hx11 := (HB.out.cell (World.block_lt_of_cell? w _ hx11)).trans hx11
   have hg : l.getD k z25 = l[k] := by rw [List.getD_eq_getElem?_getD, List.getElem?_eq_getElem hlt]; rfl
   have hrd : rd_T25 l (k : Int) = l[k] := by rw [← hg]; rfl
   simp only [Int.toNat_natCast, hrd] at hx0 hx1 hx2 hx3 hx4 hx5 hx6 hx7 hx8 hx9 hx10 hx11
   obtain ⟨x, hx⟩ : ∃ x, l[k] = x := ⟨_, rfl⟩
   rw [hx] at hx0 hx1 hx2 hx3 hx4 hx5 hx6 hx7 hx8 hx9 hx10 hx11
   have HX := Lib.hid hx
   have HQ := Lib.hid (HP.out x wr (by rw [← hx]; exact List.getElem_mem _) HB.out)
   clear hg hrd hx
   have hlt' : (k : Int) < l.length := by omega
   by_cases hp : p x = true
   ·rw [hp] at HQ
    go_wp2_with (go_at_fn g; refine HQ.out.mono ?_; rintro e w' ⟨rfl, hb2⟩)
    go_ret
    refine ⟨?_, HB.out.trans (hb2.mono HB.out.size)⟩
    have hi : l.findIdx? p = some k := List.findIdx?_eq_some_iff_getElem.2 ⟨hlt, by rw [HX.out]; exact hp, fun j hj => by have := HNO.out j (by omega) hj; simp [this]⟩
    simp only [rm_idx, hi]
    rfl
   ·have hp' : p x = false := Bool.eq_false_iff.mpr hp
    rw [hp'] at HQ
    go_wp2_with (go_at_fn g; refine HQ.out.mono ?_; rintro e w' ⟨rfl, hb2⟩)
    go_roundw
    case rel =>
     refine ⟨k + 1, by omega, by simp, fun j hj hjk => ?_, HB.out.trans (hb2.mono HB.out.size)⟩
     by_cases hjk2 : j < k
     ·exact HNO.out j hj hjk2
     ·obtain rfl : j = k := by omega
      rw [HX.out]; exact hp'
    case measure => simp [intOf]; omega
  ·obtain rfl : k = l.length := by omega
   go_wp2
   go_ret
   refine ⟨?_, HB.out⟩
   have hi : l.findIdx? p = none := List.findIdx?_eq_none_iff.2 fun x hx => by obtain ⟨j, hj, rfl⟩ := List.mem_iff_getElem.1 hx; exact HNO.out j hj hj
   simp only [rm_idx, hi]
   rfl
theorem rm_contains (g : Nat) (lb : Array Value) (p : S25 → Bool) (A : Option Addr) (c : Nat) (l : List S25) (w : World) (hC : Kd.C k25 w A l.length l)
  (eg : ∀ args w, (callFunc g args).run Try.prog w = .ok (.enter g args) w)
  (hp : ∀ (x : S25) (W : World), x ∈ l → Below w.heap.size w W → Calls Try.prog g (#[.agg #[.int .i64 x.f0, .int .i64 x.f1, .bool x.f2, .int .i64 x.f3, .int .i64 x.f4, .bool x.f5, .bool x.f6, .bool x.f7, .int .i64 x.f8, .int .i64 x.f9, .int .i64 x.f10, .bool x.f11]] ++ lb) W fun e W' => e = .returned (.bool (p x)) ∧ Below W.heap.size W W') :
  Calls Try.prog 26 #[.slice A l.length c, .func (.func g) #[] lb] w fun e w' => e = .returned (.bool (l.any p)) ∧ Below w.heap.size w w' := by
 have HI := Lib.hid (rm_index g lb p A c l w hC eg hp); clear hC eg hp
 go_enter Try.func26, Try.ntmps26
 go_wp2_with (go_at_call 34; refine HI.out.mono ?_; rintro e w' ⟨rfl, hb⟩)
 go_ret
 exact ⟨by rw [← rm_idx_any]; rfl, hb⟩
def rm_rec (x : S25) (now : Int) : Bool := decide (0 ≤ x.f0) && decide (x.f0 ≤ 2251799813685248) && decide (0 ≤ x.f1) && decide (x.f1 ≤ 2251799813685248) && decide (0 ≤ x.f3) && decide (x.f3 ≤ now) && decide (1 ≤ x.f4)
theorem rm_rec_f (x : S25) (now : Int) : rack_rec.f x.f0 x.f1 x.f2 x.f3 x.f4 x.f5 x.f6 x.f7 x.f8 x.f9 x.f10 x.f11 now = some (rm_rec x now) := by
 unfold rack_rec.f rack_within.f rm_rec
 simp only [Option.bind_some, List.any_cons, List.any_nil, rk_out, Bool.or_false]
 by_cases h0 : 0 ≤ x.f0 <;> by_cases h1 : x.f0 ≤ 2251799813685248 <;> by_cases h2 : 0 ≤ x.f1 <;> by_cases h3 : x.f1 ≤ 2251799813685248 <;> by_cases h4 : 0 ≤ x.f3 <;> by_cases h5 : x.f3 ≤ now <;> simp [h0, h1, h2, h3, h4, h5, Int.not_le.1, Int.not_lt.2] <;> omega
def rm_bad (now : Int) (x : S25) : Bool := !rm_rec x now
set_option maxRecDepth 100000 in
set_option maxHeartbeats 4000000 in
theorem rm_pred (now : Int) (B : Nat) (W : World) (hc : W.cell? ⟨B, 0, none⟩ = some (.int .i64 now)) (x : S25) :
  Calls Try.prog 27 (#[.agg #[.int .i64 x.f0, .int .i64 x.f1, .bool x.f2, .int .i64 x.f3, .int .i64 x.f4, .bool x.f5, .bool x.f6, .bool x.f7, .int .i64 x.f8, .int .i64 x.f9, .int .i64 x.f10, .bool x.f11]] ++ #[.pointer (some ⟨B, 0, none⟩)]) W fun e W' => e = .returned (.bool (rm_bad now x)) ∧ Below W.heap.size W W' := by
 have hlt : B < W.heap.size := World.block_lt_of_cell? W ⟨B, 0, none⟩ hc
 have HR := Lib.hid (rm_rec_f x now)
 have hc1 : (W.alloc (.cells #[.int .i64 x.f0, .int .i64 x.f1, .bool x.f2, .int .i64 x.f3, .int .i64 x.f4, .bool x.f5, .bool x.f6, .bool x.f7, .int .i64 x.f8, .int .i64 x.f9, .int .i64 x.f10, .bool x.f11] 25)).cell? ⟨B, 0, none⟩ = some (.int .i64 now) := (((Below.refl _ W).alloc (Nat.le_refl _) _).cell hlt).trans hc
 have HB := Lib.hid (show Below W.heap.size W (W.alloc (.cells #[.int .i64 x.f0, .int .i64 x.f1, .bool x.f2, .int .i64 x.f3, .int .i64 x.f4, .bool x.f5, .bool x.f6, .bool x.f7, .int .i64 x.f8, .int .i64 x.f9, .int .i64 x.f10, .bool x.f11] 25)) from (Below.refl _ W).alloc (Nat.le_refl _) _)
 show Calls Try.prog 27 #[.agg #[.int .i64 x.f0, .int .i64 x.f1, .bool x.f2, .int .i64 x.f3, .int .i64 x.f4, .bool x.f5, .bool x.f6, .bool x.f7, .int .i64 x.f8, .int .i64 x.f9, .int .i64 x.f10, .bool x.f11], .pointer (some ⟨B, 0, none⟩)] W _
 go_enter Try.func27, Try.ntmps27
 go_wp2_with (go_at_call 20; refine (rack_rec.calls x.f0 x.f1 x.f2 x.f3 x.f4 x.f5 x.f6 x.f7 x.f8 x.f9 x.f10 x.f11 now (rm_rec x now) _ HR.out).mono ?_; rintro e w' ⟨rfl, hb⟩; have HB2 := Lib.hid (HB.out.trans (hb.mono HB.out.size)); clear hb)
 go_ret
 exact ⟨rfl, HB2.out⟩
section
open Go.Shelf
attribute [local go_sem] Oper.semAt_some
theorem below_all {W W' : World} (h : W.grownBy W' none) : Below W.heap.size W W' := ⟨h.os, h.tape, h.output, h.size, fun k hk => h.block k hk (by simp)⟩
theorem grown_none {W W' : World} (h : Below W.heap.size W W') : W.grownBy W' none := ⟨h.os, h.tape, h.output, h.size, fun k hk _ => h.block k hk⟩
theorem abides_below {β : Type} {B : Nat} {J : β → World → Prop} (h : AbidesFrom B J) {s : β} {W W' : World} (hs : J s W) (hb : Below W.heap.size W W') : J s W' := h s W W' none hs (grown_none hb) (fun r e => by cases e)
/-- What a round keeps: all below base, and the blocks bs. -/
def KpB (base : Nat) (bs : List Nat) (A B : World) : Prop := Below base A B ∧ ∀ b ∈ bs, ∀ o, A.heap[b]? = some o → B.heap[b]? = some o
theorem KpB.trans {base : Nat} {bs : List Nat} {A B C : World} (h : KpB base bs A B) (k : KpB base bs B C) : KpB base bs A C := ⟨h.1.trans k.1, fun b hb o ho => k.2 b hb o (h.2 b hb o ho)⟩
theorem KpB.refl (base : Nat) (bs : List Nat) (A : World) : KpB base bs A A := ⟨Below.refl _ _, fun _ _ _ h => h⟩
theorem KpB.of_below {base : Nat} {bs : List Nat} {A B : World} (h : Below A.heap.size A B) (hb : base ≤ A.heap.size) : KpB base bs A B := ⟨h.mono hb, fun b _ o ho => (h.block b (Array.getElem?_eq_some_iff.1 ho).1).trans ho⟩
theorem KpB.put {base : Nat} {bs : List Nat} {w : World} (hn : base ≤ w.heap.size) (hbs : ∀ b ∈ bs, b < w.heap.size) (W : World) (l : Nat) (o o' : Obj) (hl : w.heap.size ≤ l) (h : W.heap[l]? = some o) (h1 : o.isCells = false) (h2 : o.isWalk = false) : KpB base bs W (W.putObj l o') :=
 ⟨belowK_b hn W l o o' hl h h1 h2, fun b hb o1 ho => (World.putObj_heap_other (by have := hbs b hb; omega)).trans ho⟩
def rm_ahead (ks : S23) (x : S25) : Bool := decide (x.f3 < ks.f0) || (decide (x.f3 = ks.f0) && decide (x.f1 < ks.f1))
theorem rm_ahead_f (ks : S23) (x : S25) : rack_ahead.f ks.f0 ks.f1 ks.f2 ks.f3 ks.f4 ks.f5 ks.f6 ks.f7 x.f0 x.f1 x.f2 x.f3 x.f4 x.f5 x.f6 x.f7 x.f8 x.f9 x.f10 x.f11 = some (rm_ahead ks x) := by
 unfold rack_ahead.f rm_ahead
 by_cases h : x.f3 < ks.f0
 ·simp [h]
 ·by_cases h2 : x.f3 = ks.f0
  ·simp [h2]
  ·simp [h, h2]
def rm_asks (ks : S23) (x : S25) : Bool := (!x.f5 && (x.f7 || !x.f6)) && rm_ahead ks x
def rm_pick (ks : S23) (l : List S25) (k : Nat) : List (Fin l.length) := ((List.finRange l.length).take k).filter fun i => rm_asks ks l[i]
theorem rm_pick_len (ks : S23) (l : List S25) (k : Nat) : (rm_pick ks l k).length ≤ l.length := Nat.le_trans (List.length_filter_le _ _) (by rw [List.length_take]; simp; omega)
theorem rm_pick_succ (ks : S23) (l : List S25) (k : Nat) (h : k < l.length) : rm_pick ks l (k + 1) = rm_pick ks l k ++ (if rm_asks ks l[k] = true then [⟨k, h⟩] else []) := by
 unfold rm_pick
 rw [List.take_succ_eq_append_getElem (by simpa using h), List.filter_append, List.getElem_finRange]
 congr 1
 by_cases hp : rm_asks ks l[k] = true
 ·simp [hp]
 ·simp [hp]
set_option maxRecDepth 100000 in
set_option maxHeartbeats 8000000 in
theorem rm_asked (n : Nat) (hn : 1 ≤ n) (lp Bl Bk : Nat) (A0 : Option Addr) (c0 : Nat) (l0 : List S25) (ks : S23) (w0 : World) (J Jx : List (Fin l0.length) → World → Prop) (W : World) (hJ : AbidesFrom W.heap.size J)
  (hY : ∀ pre x W1, J pre W1 → pre.length < l0.length + 1 → YieldAt Fence.wide (n - 1) Try.prog lp #[.int .i64 (x.val : Int)] W1 fun e W' =>
   (e = .returned (.bool true) ∧ J (pre ++ [x]) W' ∧ KpB w0.heap.size [Bk] W1 W') ∨ (e = .returned (.bool false) ∧ Jx (pre ++ [x]) W'))
  (hBl : W.cell? ⟨Bl, 0, none⟩ = some (.slice A0 l0.length c0)) (hBk : W.heap[Bk]? = some (.cells #[.int .i64 ks.f0, .int .i64 ks.f1, .int .i64 ks.f2, .bool ks.f3, .int .i64 ks.f4, .int .i64 ks.f5, .int .i64 ks.f6, .int .i64 ks.f7] 23 (0, 0))) (hC : Kd.C k25 w0 A0 l0.length l0) (hB : Below w0.heap.size w0 W) (h0 : J [] W) :
  CallsIn Fence.wide n Try.prog 35 #[.func (.yield lp) #[] #[], .pointer (some ⟨Bl, 0, none⟩), .pointer (some ⟨Bk, 0, none⟩)] W fun e W' => (∃ v, e = .returned v) ∧
   ((∃ ys, ys = rm_pick ks l0 l0.length ∧ J ys W') ∨ (∃ pre, True ∧ Jx pre W')) := by
 refine callsIn_of_wp Try.func35 rfl trivial ?_ rfl
 simp only [Try.ntmps35, List.size_toArray, List.length_cons, List.length_nil, Nat.reduceAdd, Nat.reduceSub, Array.replicate_succ, Array.replicate_zero, List.push_toArray, List.append_toArray, List.nil_append, List.cons_append]
 have hm : l0.length ≤ 9223372036854775807 := hC.2.1
 have HC := Lib.hid hC; clear hC
 have HBk := Lib.hid hBk; clear hBk
 have HY := Lib.hid hY; clear hY
 have HJ := Lib.hid hJ; clear hJ
 have hp0 : rm_pick ks l0 0 = [] := rfl
 have HP0 := Lib.hid hp0; clear hp0
 gi_wp2
 gi_loopw [8] (fun i wr => ∃ k : Nat, k ≤ l0.length ∧ i = .int .i64 k ∧ J (rm_pick ks l0 k) wr ∧ KpB w0.heap.size [Bk] W wr ∧ W.heap.size ≤ wr.heap.size)
  (fun i _ => l0.length - (intOf i).toNat)
 case atStart => exact ⟨0, Nat.zero_le _, rfl, by rw [HP0.out]; exact h0, KpB.refl _ _ _, Nat.le_refl _⟩
 case round =>
  obtain ⟨k, hk, rfl, hJs, hnx, hsz⟩ := hrel
  by_cases hlt : k < l0.length
  ·have hbw : Below w0.heap.size w0 wr := hB.trans hnx.1
   have hkb : wr.heap[Bk]? = some (.cells #[.int .i64 ks.f0, .int .i64 ks.f1, .int .i64 ks.f2, .bool ks.f3, .int .i64 ks.f4, .int .i64 ks.f5, .int .i64 ks.f6, .int .i64 ks.f7] 23 (0, 0)) := hnx.2 Bk (by simp) _ HBk.out
   obtain ⟨ad, had, hx0, hx1, hx2, hx3, hx4, hx5, hx6, hx7, hx8, hx9, hx10, hx11⟩ := at_T25 HC.out (k : Int) (by omega) (by omega)
   obtain rfl := had
   replace hx0 := (hbw.cell (World.block_lt_of_cell? w0 _ hx0)).trans hx0
   replace hx1 := (hbw.cell (World.block_lt_of_cell? w0 _ hx1)).trans hx1
   replace hx2 := (hbw.cell (World.block_lt_of_cell? w0 _ hx2)).trans hx2
   replace hx3 := (hbw.cell (World.block_lt_of_cell? w0 _ hx3)).trans hx3
   replace hx4 := (hbw.cell (World.block_lt_of_cell? w0 _ hx4)).trans hx4
   replace hx5 := (hbw.cell (World.block_lt_of_cell? w0 _ hx5)).trans hx5
   replace hx6 := (hbw.cell (World.block_lt_of_cell? w0 _ hx6)).trans hx6
   replace hx7 := (hbw.cell (World.block_lt_of_cell? w0 _ hx7)).trans hx7
   replace hx8 := (hbw.cell (World.block_lt_of_cell? w0 _ hx8)).trans hx8
   replace hx9 := (hbw.cell (World.block_lt_of_cell? w0 _ hx9)).trans hx9
   replace hx10 := (hbw.cell (World.block_lt_of_cell? w0 _ hx10)).trans hx10
   replace hx11 := (hbw.cell (World.block_lt_of_cell? w0 _ hx11)).trans hx11
   have hg : l0.getD k z25 = l0[k] := by rw [List.getD_eq_getElem?_getD, List.getElem?_eq_getElem hlt]; rfl
   have hrd : rd_T25 l0 (k : Int) = l0[k] := by rw [← hg]; rfl
   simp only [Int.toNat_natCast, hrd] at hx0 hx1 hx2 hx3 hx4 hx5 hx6 hx7 hx8 hx9 hx10 hx11
   have hps := rm_pick_succ ks l0 k hlt
   obtain ⟨x, hx⟩ : ∃ x, l0[k] = x := ⟨_, rfl⟩
   rw [hx] at hx0 hx1 hx2 hx3 hx4 hx5 hx6 hx7 hx8 hx9 hx10 hx11 hps
   have HX := Lib.hid hx
   have HPS := Lib.hid hps
   have hlen := rm_pick_len ks l0 k
   have HLN := Lib.hid hlen
   obtain ⟨pk, hpk⟩ : ∃ pk, rm_pick ks l0 k = pk := ⟨_, rfl⟩
   have HPK := Lib.hid hpk
   rw [hpk] at hJs
   have HNX := Lib.hid hnx
   have HKB := Lib.hid hkb
   have HJs := Lib.hid hJs
   have HBW := Lib.hid hbw
   clear hg hrd hps hx hlen hpk hnx hkb hJs hbw
   have hlt' : (k : Int) < l0.length := by omega
   have hbx : Below wr.heap.size wr (wr.alloc (.cells #[.int .i64 x.f0, .int .i64 x.f1, .bool x.f2, .int .i64 x.f3, .int .i64 x.f4, .bool x.f5, .bool x.f6, .bool x.f7, .int .i64 x.f8, .int .i64 x.f9, .int .i64 x.f10, .bool x.f11] 25)) := (Below.refl _ wr).alloc (Nat.le_refl _) _
   have HBX := Lib.hid hbx; clear hbx
   have hf : ∀ a : Bool, rm_ahead ks x = a → rack_ahead.f ks.f0 ks.f1 ks.f2 ks.f3 ks.f4 ks.f5 ks.f6 ks.f7 x.f0 x.f1 x.f2 x.f3 x.f4 x.f5 x.f6 x.f7 x.f8 x.f9 x.f10 x.f11 = some a := fun a h => by rw [rm_ahead_f, h]
   have HF := Lib.hid hf; clear hf
   obtain ⟨b5, h5⟩ : ∃ b, x.f5 = b := ⟨_, rfl⟩
   obtain ⟨b6, h6⟩ : ∃ b, x.f6 = b := ⟨_, rfl⟩
   obtain ⟨b7, h7⟩ : ∃ b, x.f7 = b := ⟨_, rfl⟩
   obtain ⟨ah, hah⟩ : ∃ b, rm_ahead ks x = b := ⟨_, rfl⟩
   have hask : rm_asks ks x = ((!b5 && (b7 || !b6)) && ah) := by rw [rm_asks, h5, h6, h7, hah]
   rw [h5] at hx5; rw [h6] at hx6; rw [h7] at hx7
   have HASK := Lib.hid hask
   have HFA := Lib.hid (HF.out ah hah)
   rw [h5, h6, h7] at HFA HBX
   have hk0 : (wr.alloc (.cells #[.int .i64 x.f0, .int .i64 x.f1, .bool x.f2, .int .i64 x.f3, .int .i64 x.f4, .bool b5, .bool b6, .bool b7, .int .i64 x.f8, .int .i64 x.f9, .int .i64 x.f10, .bool x.f11] 25)).cell? ⟨Bk, 0, none⟩ = some (.int .i64 ks.f0) := (HBX.out.cell (Array.getElem?_eq_some_iff.1 HKB.out).1).trans ((blk_cell HKB.out 0).trans rfl)
   have hk1 : (wr.alloc (.cells #[.int .i64 x.f0, .int .i64 x.f1, .bool x.f2, .int .i64 x.f3, .int .i64 x.f4, .bool b5, .bool b6, .bool b7, .int .i64 x.f8, .int .i64 x.f9, .int .i64 x.f10, .bool x.f11] 25)).cell? ⟨Bk, 1, none⟩ = some (.int .i64 ks.f1) := (HBX.out.cell (Array.getElem?_eq_some_iff.1 HKB.out).1).trans ((blk_cell HKB.out 1).trans rfl)
   have hk2 : (wr.alloc (.cells #[.int .i64 x.f0, .int .i64 x.f1, .bool x.f2, .int .i64 x.f3, .int .i64 x.f4, .bool b5, .bool b6, .bool b7, .int .i64 x.f8, .int .i64 x.f9, .int .i64 x.f10, .bool x.f11] 25)).cell? ⟨Bk, 2, none⟩ = some (.int .i64 ks.f2) := (HBX.out.cell (Array.getElem?_eq_some_iff.1 HKB.out).1).trans ((blk_cell HKB.out 2).trans rfl)
   have hk3 : (wr.alloc (.cells #[.int .i64 x.f0, .int .i64 x.f1, .bool x.f2, .int .i64 x.f3, .int .i64 x.f4, .bool b5, .bool b6, .bool b7, .int .i64 x.f8, .int .i64 x.f9, .int .i64 x.f10, .bool x.f11] 25)).cell? ⟨Bk, 3, none⟩ = some (.bool ks.f3) := (HBX.out.cell (Array.getElem?_eq_some_iff.1 HKB.out).1).trans ((blk_cell HKB.out 3).trans rfl)
   have hk4 : (wr.alloc (.cells #[.int .i64 x.f0, .int .i64 x.f1, .bool x.f2, .int .i64 x.f3, .int .i64 x.f4, .bool b5, .bool b6, .bool b7, .int .i64 x.f8, .int .i64 x.f9, .int .i64 x.f10, .bool x.f11] 25)).cell? ⟨Bk, 4, none⟩ = some (.int .i64 ks.f4) := (HBX.out.cell (Array.getElem?_eq_some_iff.1 HKB.out).1).trans ((blk_cell HKB.out 4).trans rfl)
   have hk5 : (wr.alloc (.cells #[.int .i64 x.f0, .int .i64 x.f1, .bool x.f2, .int .i64 x.f3, .int .i64 x.f4, .bool b5, .bool b6, .bool b7, .int .i64 x.f8, .int .i64 x.f9, .int .i64 x.f10, .bool x.f11] 25)).cell? ⟨Bk, 5, none⟩ = some (.int .i64 ks.f5) := (HBX.out.cell (Array.getElem?_eq_some_iff.1 HKB.out).1).trans ((blk_cell HKB.out 5).trans rfl)
   have hk6 : (wr.alloc (.cells #[.int .i64 x.f0, .int .i64 x.f1, .bool x.f2, .int .i64 x.f3, .int .i64 x.f4, .bool b5, .bool b6, .bool b7, .int .i64 x.f8, .int .i64 x.f9, .int .i64 x.f10, .bool x.f11] 25)).cell? ⟨Bk, 6, none⟩ = some (.int .i64 ks.f6) := (HBX.out.cell (Array.getElem?_eq_some_iff.1 HKB.out).1).trans ((blk_cell HKB.out 6).trans rfl)
   have hk7 : (wr.alloc (.cells #[.int .i64 x.f0, .int .i64 x.f1, .bool x.f2, .int .i64 x.f3, .int .i64 x.f4, .bool b5, .bool b6, .bool b7, .int .i64 x.f8, .int .i64 x.f9, .int .i64 x.f10, .bool x.f11] 25)).cell? ⟨Bk, 7, none⟩ = some (.int .i64 ks.f7) := (HBX.out.cell (Array.getElem?_eq_some_iff.1 HKB.out).1).trans ((blk_cell HKB.out 7).trans rfl)
   clear hask hah h5 h6 h7 HF
   by_cases hq : (!b5 && (b7 || !b6)) = true
   ·have hgo : (b5 = false ∧ b7 = true) ∨ (b5 = false ∧ b7 = false ∧ b6 = false) := by revert hq; cases b5 <;> cases b6 <;> cases b7 <;> simp
    rcases hgo with ⟨rfl, rfl⟩ | ⟨rfl, rfl, rfl⟩
    all_goals
     have hlen2 : pk.length < l0.length + 1 := by have := HLN.out; rw [HPK.out] at this; omega
     cases ah with
     | false =>
      have hno : rm_asks ks x = false := by rw [HASK.out]; simp
      have HNO := Lib.hid hno; clear hno hq
      gi_wp2_with (first | (refine ⟨trivial, ?_⟩; gi_at_call 21; refine (callsIn_wide.2 (rack_ahead.calls ks.f0 ks.f1 ks.f2 ks.f3 ks.f4 ks.f5 ks.f6 ks.f7 x.f0 x.f1 x.f2 x.f3 x.f4 _ _ _ x.f8 x.f9 x.f10 x.f11 false _ HFA.out)).mono ?_; rintro e w' ⟨rfl, hb2⟩; have HB2 := Lib.hid (HBX.out.trans (hb2.mono HBX.out.size)); clear hb2))
      refine ⟨(by intro f hf; cases hf), ?_⟩
      gi_wp2
      go_roundw
      case rel => exact ⟨k + 1, by omega, by simp, by rw [HPS.out, HNO.out, HPK.out]; simpa using abides_below HJ.out HJs.out HB2.out, HNX.out.trans (KpB.of_below HB2.out (HBW.out.size)), Nat.le_trans hsz HB2.out.size⟩
      case measure => simp [intOf]; omega
     | true =>
      have hno : rm_asks ks x = true := by rw [HASK.out]; simp
      have HNO := Lib.hid hno; clear hno hq
      gi_wp2_with (first | (refine ⟨trivial, ?_⟩; gi_at_call 21; refine (callsIn_wide.2 (rack_ahead.calls ks.f0 ks.f1 ks.f2 ks.f3 ks.f4 ks.f5 ks.f6 ks.f7 x.f0 x.f1 x.f2 x.f3 x.f4 _ _ _ x.f8 x.f9 x.f10 x.f11 true _ HFA.out)).mono ?_; rintro e w' ⟨rfl, hb2⟩; have HB2 := Lib.hid (HBX.out.trans (hb2.mono HBX.out.size)); clear hb2; obtain ⟨fn, tmps, assign, body, hy, hR⟩ := HY.out pk ⟨k, hlt⟩ _ (abides_below HJ.out HJs.out HB2.out) hlen2))
      refine hR.mono ?_
      rintro e W3 (⟨rfl, hJ3, hk3⟩ | ⟨rfl, hJx3⟩)
      ·have HJ3 := Lib.hid hJ3; have HK3 := Lib.hid hk3; clear hJ3 hk3
       gi_wp2
       go_roundw
       case rel => exact ⟨k + 1, by omega, by simp, by rw [HPS.out, HNO.out, HPK.out]; simpa using HJ3.out, (HNX.out.trans (KpB.of_below HB2.out (HBW.out.size))).trans HK3.out, Nat.le_trans (Nat.le_trans hsz HB2.out.size) HK3.out.1.size⟩
       case measure => simp [intOf]; omega
      ·have HJX := Lib.hid hJx3; clear hJx3
       gi_wp2
       refine bodyPost_ret (results_none rfl _ _ _) rfl ?_
       exact ⟨⟨_, rfl⟩, .inr ⟨_, trivial, HJX.out⟩⟩
   ·have hgo : b5 = true ∨ (b5 = false ∧ b7 = false ∧ b6 = true) := by revert hq; cases b5 <;> cases b6 <;> cases b7 <;> simp
    have hno : rm_asks ks x = false := by rw [HASK.out]; simp [Bool.eq_false_iff.mpr hq]
    have HNO := Lib.hid hno; clear hno hq
    rcases hgo with rfl | ⟨rfl, rfl, rfl⟩
    all_goals
     gi_wp2_with (first | (refine ⟨trivial, ?_⟩))
     refine ⟨(by intro f hf; cases hf), ?_⟩
     gi_wp2
     go_roundw
     case rel => exact ⟨k + 1, by omega, by simp, by rw [HPS.out, HNO.out, HPK.out]; simpa using abides_below HJ.out HJs.out HBX.out, HNX.out.trans (KpB.of_below HBX.out (HBW.out.size)), Nat.le_trans hsz HBX.out.size⟩
     case measure => simp [intOf]; omega
  ·obtain rfl : k = l0.length := by omega
   have HJs := Lib.hid hJs; clear hJs
   gi_wp2
   go_end0
   exact ⟨⟨_, rfl⟩, .inl ⟨_, rfl, HJs.out⟩⟩
end
def rm_within (most : Int) (l : List Int) : Bool := !(l.any (rk_out most))
def rm_chk (ks : S23) : Int := if rm_within 2251799813685248 [ks.f0, ks.f1, ks.f2, ks.f4, ks.f7] = true ∧ 1 ≤ ks.f5 ∧ ks.f5 ≤ 255 ∧ rm_within 16 [ks.f6] = true then 0 else 230
theorem rm_chk_f (ks : S23) : rack_Check.f 2 ks.f0 ks.f1 ks.f2 ks.f3 ks.f4 ks.f5 ks.f6 ks.f7 = some (rm_chk ks) := by
 have h1 : ∀ b, rack_Check.j0 2 b = some (if b = true then 230 else 0) := by intro b; cases b <;> rfl
 unfold rack_Check.f rack_within.f rm_chk
 simp only [Option.bind_some, h1]
 cases e1 : rm_within 2251799813685248 [ks.f0, ks.f1, ks.f2, ks.f4, ks.f7] <;> cases e2 : rm_within 16 [ks.f6] <;> unfold rm_within at e1 e2 <;> rw [e1] <;> simp only [e2] <;> by_cases h : ks.f5 < 1 <;> by_cases h' : 255 < ks.f5 <;> simp [h, h', Int.not_lt.1, Int.not_le.2] <;> omega
def rm_left (ks : S23) (now wait : Int) (x : S25) : Int := wrap64 (wrap64 (wrap64 (x.f3 + ks.f2) + wait) - now)
def rm_step (ks : S23) (l : List S25) (now wait : Int) (s : List S25 × Int) (i : Fin l.length) : List S25 × Int :=
 if rm_left ks now wait l[i] > 0 then (s.1, mx s.2 (rm_left ks now wait l[i])) else (s.1.set i.val (⟨(rd_T25 s.1 (i.val : Int)).f0, (rd_T25 s.1 (i.val : Int)).f1, (rd_T25 s.1 (i.val : Int)).f2, (rd_T25 s.1 (i.val : Int)).f3, (rd_T25 s.1 (i.val : Int)).f4, (rd_T25 s.1 (i.val : Int)).f5, true, false, (rd_T25 s.1 (i.val : Int)).f8, (rd_T25 s.1 (i.val : Int)).f9, (rd_T25 s.1 (i.val : Int)).f10, (rd_T25 s.1 (i.val : Int)).f11⟩ : S25), s.2)
def rm_marks (ks : S23) (l : List S25) (now wait : Int) (pre : List (Fin l.length)) : List S25 × Int := pre.foldl (rm_step ks l now wait) (l, 0)
def rack_Mark.f (a0_0 : Int) (a0_1 : Int) (a0_2 : Int) (a0_3 : Bool) (a0_4 : Int) (a0_5 : Int) (a0_6 : Int) (a0_7 : Int) (l1 : List S25) (a2 : Int) (a3 : Int) : Option (List S25 × Int × Int) :=
 if rm_chk (⟨a0_0, a0_1, a0_2, a0_3, a0_4, a0_5, a0_6, a0_7⟩ : S23) = 0 then (if rm_within 1125899906842624 [a2, a3] = true then (if l1.any (rm_bad a2) = true then some ([], 0, 2) else (if l1.length < 1759218604441 then some ((rm_marks (⟨a0_0, a0_1, a0_2, a0_3, a0_4, a0_5, a0_6, a0_7⟩ : S23) l1 a2 a3 (rm_pick (⟨a0_0, a0_1, a0_2, a0_3, a0_4, a0_5, a0_6, a0_7⟩ : S23) l1 l1.length)).1, (rm_marks (⟨a0_0, a0_1, a0_2, a0_3, a0_4, a0_5, a0_6, a0_7⟩ : S23) l1 a2 a3 (rm_pick (⟨a0_0, a0_1, a0_2, a0_3, a0_4, a0_5, a0_6, a0_7⟩ : S23) l1 l1.length)).2, 0) else none)) else some ([], 0, 2)) else some ([], 0, rm_chk (⟨a0_0, a0_1, a0_2, a0_3, a0_4, a0_5, a0_6, a0_7⟩ : S23))
theorem rm_two (W : World) (x y : Int) (t : TypeId) : Kd.C (Kd.int .i64) (W.alloc (.cells #[.int .i64 x, .int .i64 y] t)) (some ⟨W.heap.size, 0, none⟩) ([x, y] : List Int).length [x, y] := by
 have hb := blk_new W (.cells #[.int .i64 x, .int .i64 y] t)
 refine ⟨rfl, by simp, fun _ => ⟨_, rfl, fun j p hj => ⟨[.int .i64 p], rfl, rfl, fun i u hu => ?_⟩⟩⟩
 match i, hu with
 | 0, hu =>
  obtain rfl : Value.int .i64 p = u := by simpa using hu
  rw [Addr.add_lit]
  match j, hj with
  | 0, hj =>
   obtain rfl : x = p := by simpa using hj
   exact (blk_cell hb 0).trans rfl
  | 1, hj =>
   obtain rfl : y = p := by simpa using hj
   exact (blk_cell hb 1).trans rfl
set_option maxRecDepth 100000 in
set_option maxHeartbeats 8000000 in
theorem rm_err1 (a0_0 : Int) (a0_1 : Int) (a0_2 : Int) (a0_3 : Bool) (a0_4 : Int) (a0_5 : Int) (a0_6 : Int) (a0_7 : Int)
  (A1 : Option Addr) (c1 : Nat) (l1 : List S25) (a2 : Int) (a3 : Int) (w : World) (hr1 : Kd.C k25 w A1 l1.length l1) (hc : rm_chk (⟨a0_0, a0_1, a0_2, a0_3, a0_4, a0_5, a0_6, a0_7⟩ : S23) ≠ 0) :
  Calls Try.prog 16 #[.agg #[.int .i64 a0_0, .int .i64 a0_1, .int .i64 a0_2, .bool a0_3, .int .i64 a0_4, .int .i64 a0_5, .int .i64 a0_6, .int .i64 a0_7], .slice A1 l1.length c1, .int .i64 a2, .int .i64 a3] w fun e w' => e = .returned (.tuple #[.slice none 0 0, .int .i64 0, .int .i64 (rm_chk (⟨a0_0, a0_1, a0_2, a0_3, a0_4, a0_5, a0_6, a0_7⟩ : S23))]) ∧ Below w.heap.size w w' := by
 have HE := Lib.hid (rm_chk_f (⟨a0_0, a0_1, a0_2, a0_3, a0_4, a0_5, a0_6, a0_7⟩ : S23))
 obtain ⟨ec, hec⟩ : ∃ ec, rm_chk (⟨a0_0, a0_1, a0_2, a0_3, a0_4, a0_5, a0_6, a0_7⟩ : S23) = ec := ⟨_, rfl⟩
 rw [hec] at HE hc ⊢
 have q0 : (ec != 0) = true := bne_iff_ne.mpr hc
 clear hr1 hec hc
 have HB := Lib.hid (show Below w.heap.size w ((((w.alloc (.cells #[.int .i64 a0_0, .int .i64 a0_1, .int .i64 a0_2, .bool a0_3, .int .i64 a0_4, .int .i64 a0_5, .int .i64 a0_6, .int .i64 a0_7] 23)).alloc (.cells #[.slice A1 l1.length c1] 36)).alloc (.cells #[.int .i64 a2] 3)).alloc (.cells #[.int .i64 a3] 3)) from below_alloc (below_alloc (below_alloc (below_alloc (Below.refl _ _) _) _) _) _)
 go_enter Try.func16, Try.ntmps16
 go_wp2
 go_step3
 go_wp2_with (go_at_call 10; refine (rack_Check.calls 2 a0_0 a0_1 a0_2 a0_3 a0_4 a0_5 a0_6 a0_7 ec _ HE.out).mono ?_; rintro e w' ⟨rfl, hb⟩; have HB2 := Lib.hid (below_step HB.out hb); clear hb)
 rw [Exit.noGoto_ret]
 go_ret3
 exact ⟨rfl, HB2.out⟩
/-- The boxes of rack.Mark's parameters. -/
def RmBox (ks : S23) (v : Value) (a2 a3 : Int) (b : Nat) (W : World) : Prop := W.heap[b]? = some (.cells #[.int .i64 ks.f0, .int .i64 ks.f1, .int .i64 ks.f2, .bool ks.f3, .int .i64 ks.f4, .int .i64 ks.f5, .int .i64 ks.f6, .int .i64 ks.f7] 23 (0, 0)) ∧ W.heap[b + 1]? = some (.cells #[v] 36 (0, 0)) ∧ W.heap[b + 1 + 1]? = some (.cells #[.int .i64 a2] 3 (0, 0)) ∧ W.heap[b + 1 + 1 + 1]? = some (.cells #[.int .i64 a3] 3 (0, 0))
theorem RmBox.new (ks : S23) (v : Value) (a2 a3 : Int) (w : World) : RmBox ks v a2 a3 w.heap.size ((((w.alloc (.cells #[.int .i64 ks.f0, .int .i64 ks.f1, .int .i64 ks.f2, .bool ks.f3, .int .i64 ks.f4, .int .i64 ks.f5, .int .i64 ks.f6, .int .i64 ks.f7] 23)).alloc (.cells #[v] 36)).alloc (.cells #[.int .i64 a2] 3)).alloc (.cells #[.int .i64 a3] 3)) := by
 refine ⟨blk_alloc (blk_alloc (blk_alloc (blk_new w _) _) _) _, ?_, ?_, ?_⟩
 ·have h := blk_new (w.alloc (.cells #[.int .i64 ks.f0, .int .i64 ks.f1, .int .i64 ks.f2, .bool ks.f3, .int .i64 ks.f4, .int .i64 ks.f5, .int .i64 ks.f6, .int .i64 ks.f7] 23)) (.cells #[v] 36)
  rw [World.size_alloc] at h
  exact blk_alloc (blk_alloc h _) _
 ·have h := blk_new ((w.alloc (.cells #[.int .i64 ks.f0, .int .i64 ks.f1, .int .i64 ks.f2, .bool ks.f3, .int .i64 ks.f4, .int .i64 ks.f5, .int .i64 ks.f6, .int .i64 ks.f7] 23)).alloc (.cells #[v] 36)) (.cells #[.int .i64 a2] 3)
  rw [World.size_alloc, World.size_alloc] at h
  exact blk_alloc h _
 ·have h := blk_new (((w.alloc (.cells #[.int .i64 ks.f0, .int .i64 ks.f1, .int .i64 ks.f2, .bool ks.f3, .int .i64 ks.f4, .int .i64 ks.f5, .int .i64 ks.f6, .int .i64 ks.f7] 23)).alloc (.cells #[v] 36)).alloc (.cells #[.int .i64 a2] 3)) (.cells #[.int .i64 a3] 3)
  rw [World.size_alloc, World.size_alloc, World.size_alloc] at h
  exact h
theorem RmBox.below {ks : S23} {v : Value} {a2 a3 : Int} {b : Nat} {W W' : World} (h : RmBox ks v a2 a3 b W) (hb : Below W.heap.size W W') : RmBox ks v a2 a3 b W' :=
 ⟨(hb.block _ (blk_lt h.1)).trans h.1, (hb.block _ (blk_lt h.2.1)).trans h.2.1, (hb.block _ (blk_lt h.2.2.1)).trans h.2.2.1, (hb.block _ (blk_lt h.2.2.2)).trans h.2.2.2⟩
theorem RmBox.grown {ks : S23} {v : Value} {a2 a3 : Int} {b : Nat} {W W' : World} {row : Option Nat} (h : RmBox ks v a2 a3 b W) (hg : W.grownBy W' row) (hr : ∀ r, row = some r → b + 1 + 1 + 1 < r ∨ ∃ o : Obj, W.heap[r]? = some o ∧ o.isCells = false) : RmBox ks v a2 a3 b W' := by
 have key : ∀ k cs t, k ≤ b + 1 + 1 + 1 → W.heap[k]? = some (.cells cs t (0, 0)) → W'.heap[k]? = some (.cells cs t (0, 0)) := fun k cs t hk h => (hg.block k (blk_lt h) (fun e => by
  rcases hr k e.symm with h1 | ⟨o, ho, h2⟩
  ·omega
  ·rw [h] at ho; injection ho with ho; rw [← ho] at h2; cases h2)).trans h
 exact ⟨key _ _ _ (by omega) h.1, key _ _ _ (by omega) h.2.1, key _ _ _ (by omega) h.2.2.1, key _ _ _ (by omega) h.2.2.2⟩
theorem RmBox.cells {ks : S23} {v : Value} {a2 a3 : Int} {b : Nat} {W : World} (h : RmBox ks v a2 a3 b W) : W.cell? ⟨b, 0, none⟩ = some (.int .i64 ks.f0) ∧ W.cell? ⟨b, 1, none⟩ = some (.int .i64 ks.f1) ∧ W.cell? ⟨b, 2, none⟩ = some (.int .i64 ks.f2) ∧ W.cell? ⟨b, 3, none⟩ = some (.bool ks.f3) ∧ W.cell? ⟨b, 4, none⟩ = some (.int .i64 ks.f4) ∧ W.cell? ⟨b, 5, none⟩ = some (.int .i64 ks.f5) ∧ W.cell? ⟨b, 6, none⟩ = some (.int .i64 ks.f6) ∧ W.cell? ⟨b, 7, none⟩ = some (.int .i64 ks.f7) ∧ W.cell? ⟨b + 1, 0, none⟩ = some v ∧ W.cell? ⟨b + 1 + 1, 0, none⟩ = some (.int .i64 a2) ∧ W.cell? ⟨b + 1 + 1 + 1, 0, none⟩ = some (.int .i64 a3) :=
 ⟨(blk_cell h.1 0).trans rfl, (blk_cell h.1 1).trans rfl, (blk_cell h.1 2).trans rfl, (blk_cell h.1 3).trans rfl, (blk_cell h.1 4).trans rfl, (blk_cell h.1 5).trans rfl, (blk_cell h.1 6).trans rfl, (blk_cell h.1 7).trans rfl, (blk_cell h.2.1 0).trans rfl, (blk_cell h.2.2.1 0).trans rfl, (blk_cell h.2.2.2 0).trans rfl⟩
set_option maxRecDepth 100000 in
set_option maxHeartbeats 8000000 in
theorem rm_err2 (a0_0 : Int) (a0_1 : Int) (a0_2 : Int) (a0_3 : Bool) (a0_4 : Int) (a0_5 : Int) (a0_6 : Int) (a0_7 : Int)
  (A1 : Option Addr) (c1 : Nat) (l1 : List S25) (a2 : Int) (a3 : Int) (w : World) (hr1 : Kd.C k25 w A1 l1.length l1) (hc : rm_chk (⟨a0_0, a0_1, a0_2, a0_3, a0_4, a0_5, a0_6, a0_7⟩ : S23) = 0) (hw : rm_within 1125899906842624 [a2, a3] = false) :
  Calls Try.prog 16 #[.agg #[.int .i64 a0_0, .int .i64 a0_1, .int .i64 a0_2, .bool a0_3, .int .i64 a0_4, .int .i64 a0_5, .int .i64 a0_6, .int .i64 a0_7], .slice A1 l1.length c1, .int .i64 a2, .int .i64 a3] w fun e w' => e = .returned (.tuple #[.slice none 0 0, .int .i64 0, .int .i64 2]) ∧ Below w.heap.size w w' := by
 have HE := Lib.hid (show rack_Check.f 2 a0_0 a0_1 a0_2 a0_3 a0_4 a0_5 a0_6 a0_7 = some 0 from (rm_chk_f (⟨a0_0, a0_1, a0_2, a0_3, a0_4, a0_5, a0_6, a0_7⟩ : S23)).trans (congrArg some hc))
 have HX0 := Lib.hid (RmBox.new (⟨a0_0, a0_1, a0_2, a0_3, a0_4, a0_5, a0_6, a0_7⟩ : S23) (.slice A1 l1.length c1) a2 a3 w)
 have HC := Lib.hid hr1
 have HW := Lib.hid (show rack_within.f 1125899906842624 [a2, a3] = some false from congrArg some hw)
 have HEG := Lib.hid (show ∀ args w, (callFunc 27 args).run Try.prog w = .ok (.enter 27 args) w from enters_of Try.func27 (by kernel_rfl) rfl)
 clear hr1 hc hw
 have HB := Lib.hid (show Below w.heap.size w ((((w.alloc (.cells #[.int .i64 a0_0, .int .i64 a0_1, .int .i64 a0_2, .bool a0_3, .int .i64 a0_4, .int .i64 a0_5, .int .i64 a0_6, .int .i64 a0_7] 23)).alloc (.cells #[.slice A1 l1.length c1] 36)).alloc (.cells #[.int .i64 a2] 3)).alloc (.cells #[.int .i64 a3] 3)) from below_alloc (below_alloc (below_alloc (below_alloc (Below.refl _ _) _) _) _) _)
 go_enter Try.func16, Try.ntmps16
 go_wp2
 go_step3
 go_wp2_with (first | (go_at_call 10; refine (rack_Check.calls 2 a0_0 a0_1 a0_2 a0_3 a0_4 a0_5 a0_6 a0_7 0 _ HE.out).mono ?_; rintro e W1 ⟨rfl, hb⟩; have HB2 := Lib.hid (below_step HB.out hb); have HX := Lib.hid (HX0.out.below hb); clear hb; obtain ⟨k0, k1, k2, k3, k4, k5, k6, k7, kl, kn, kw⟩ := HX.out.cells) | (go_at_call 19; refine (rack_within.calls 1125899906842624 _ 2 [a2, a3] false _ (rm_two _ a2 a3 _) (Nat.le_refl _) HW.out).mono ?_; rintro e W2 ⟨rfl, hb⟩; have HB3 := Lib.hid (below_step (below_alloc HB2.out _) hb); have HX2 := Lib.hid ((HX.out.below ((Below.refl _ _).alloc (Nat.le_refl _) _)).below hb); clear hb; obtain ⟨k2_0, k2_1, k2_2, k2_3, k2_4, k2_5, k2_6, k2_7, kl2, kn2, kw2⟩ := HX2.out.cells))
 rw [Exit.noGoto_ret]
 go_ret3
 exact ⟨rfl, HB3.out⟩
set_option maxRecDepth 100000 in
set_option maxHeartbeats 8000000 in
theorem rm_err3 (a0_0 : Int) (a0_1 : Int) (a0_2 : Int) (a0_3 : Bool) (a0_4 : Int) (a0_5 : Int) (a0_6 : Int) (a0_7 : Int)
  (A1 : Option Addr) (c1 : Nat) (l1 : List S25) (a2 : Int) (a3 : Int) (w : World) (hr1 : Kd.C k25 w A1 l1.length l1) (hc : rm_chk (⟨a0_0, a0_1, a0_2, a0_3, a0_4, a0_5, a0_6, a0_7⟩ : S23) = 0) (hw : rm_within 1125899906842624 [a2, a3] = true) (ha : l1.any (rm_bad a2) = true) :
  Calls Try.prog 16 #[.agg #[.int .i64 a0_0, .int .i64 a0_1, .int .i64 a0_2, .bool a0_3, .int .i64 a0_4, .int .i64 a0_5, .int .i64 a0_6, .int .i64 a0_7], .slice A1 l1.length c1, .int .i64 a2, .int .i64 a3] w fun e w' => e = .returned (.tuple #[.slice none 0 0, .int .i64 0, .int .i64 2]) ∧ Below w.heap.size w w' := by
 have HE := Lib.hid (show rack_Check.f 2 a0_0 a0_1 a0_2 a0_3 a0_4 a0_5 a0_6 a0_7 = some 0 from (rm_chk_f (⟨a0_0, a0_1, a0_2, a0_3, a0_4, a0_5, a0_6, a0_7⟩ : S23)).trans (congrArg some hc))
 have HX0 := Lib.hid (RmBox.new (⟨a0_0, a0_1, a0_2, a0_3, a0_4, a0_5, a0_6, a0_7⟩ : S23) (.slice A1 l1.length c1) a2 a3 w)
 have HC := Lib.hid hr1
 have HW := Lib.hid (show rack_within.f 1125899906842624 [a2, a3] = some true from congrArg some hw)
 have HEG := Lib.hid (show ∀ args w, (callFunc 27 args).run Try.prog w = .ok (.enter 27 args) w from enters_of Try.func27 (by kernel_rfl) rfl)
 have HA := Lib.hid ha
 clear hr1 hc hw ha
 have HB := Lib.hid (show Below w.heap.size w ((((w.alloc (.cells #[.int .i64 a0_0, .int .i64 a0_1, .int .i64 a0_2, .bool a0_3, .int .i64 a0_4, .int .i64 a0_5, .int .i64 a0_6, .int .i64 a0_7] 23)).alloc (.cells #[.slice A1 l1.length c1] 36)).alloc (.cells #[.int .i64 a2] 3)).alloc (.cells #[.int .i64 a3] 3)) from below_alloc (below_alloc (below_alloc (below_alloc (Below.refl _ _) _) _) _) _)
 go_enter Try.func16, Try.ntmps16
 go_wp2
 go_step3
 go_wp2_with (first | (go_at_call 10; refine (rack_Check.calls 2 a0_0 a0_1 a0_2 a0_3 a0_4 a0_5 a0_6 a0_7 0 _ HE.out).mono ?_; rintro e W1 ⟨rfl, hb⟩; have HB2 := Lib.hid (below_step HB.out hb); have HX := Lib.hid (HX0.out.below hb); clear hb; obtain ⟨k0, k1, k2, k3, k4, k5, k6, k7, kl, kn, kw⟩ := HX.out.cells) | (go_at_call 19; refine (rack_within.calls 1125899906842624 _ 2 [a2, a3] true _ (rm_two _ a2 a3 _) (Nat.le_refl _) HW.out).mono ?_; rintro e W2 ⟨rfl, hb⟩; have HB3 := Lib.hid (below_step (below_alloc HB2.out _) hb); have HX2 := Lib.hid ((HX.out.below ((Below.refl _ _).alloc (Nat.le_refl _) _)).below hb); clear hb; obtain ⟨k2_0, k2_1, k2_2, k2_3, k2_4, k2_5, k2_6, k2_7, kl2, kn2, kw2⟩ := HX2.out.cells) | (go_at_call 26; have hcc := rm_contains 27 #[.pointer (some ⟨w.heap.size + 1 + 1, 0, none⟩)] (rm_bad a2) A1 c1 l1 _ (Kd.C_below HC.out HB3.out) HEG.out (fun x W _ hb => rm_pred a2 _ W ((hb.cell (World.block_lt_of_cell? _ _ kn2)).trans kn2) x); rw [HA.out] at hcc; refine hcc.mono ?_; clear hcc; rintro e W3 ⟨rfl, hb⟩; have HB4 := Lib.hid (below_step HB3.out hb); have HX3 := Lib.hid (HX2.out.below hb); clear hb; obtain ⟨k3_0, k3_1, k3_2, k3_3, k3_4, k3_5, k3_6, k3_7, kl3, kn3, kw3⟩ := HX3.out.cells))
 rw [Exit.noGoto_ret]
 go_ret3
 exact ⟨rfl, HB4.out⟩
set_option maxRecDepth 100000 in
theorem rm_askcall (ks : S23) (A : Option Addr) (n c : Nat) (w : World) : Calls Try.prog 29 #[.agg #[.int .i64 ks.f0, .int .i64 ks.f1, .int .i64 ks.f2, .bool ks.f3, .int .i64 ks.f4, .int .i64 ks.f5, .int .i64 ks.f6, .int .i64 ks.f7], .slice A n c] w fun e w' => e = .returned (.func (.func 35) #[] #[.pointer (some ⟨w.heap.size + 1, 0, none⟩), .pointer (some ⟨w.heap.size, 0, none⟩)]) ∧ (w.alloc (.cells #[.int .i64 ks.f0, .int .i64 ks.f1, .int .i64 ks.f2, .bool ks.f3, .int .i64 ks.f4, .int .i64 ks.f5, .int .i64 ks.f6, .int .i64 ks.f7] 23)).alloc (.cells #[.slice A n c] 36) = w' := by
 go_enter Try.func29, Try.ntmps29
 go_wp2
 go_ret
 exact ⟨rfl, rfl⟩
theorem blk_own {W W' : World} {row : Option Nat} {b : Nat} {cs : Array Value} {t : TypeId} {z : Nat × Nat} (h : W.heap[b]? = some (.cells cs t z)) (hg : W.grownBy W' row) (hr : ∀ r, row = some r → ∃ o : Obj, W.heap[r]? = some o ∧ o.isCells = false) : W'.heap[b]? = some (.cells cs t z) :=
 (hg.block b (blk_lt h) (fun e => by obtain ⟨o, ho, h2⟩ := hr b e.symm; rw [h] at ho; injection ho with ho; rw [← ho] at h2; cases h2)).trans h
theorem R_own' {α : Type} {d : Kd α} {e base : Nat} {ok : Nat → Prop} {W W' : World} {v : Value} {xs : List α} {row : Option Nat} (h : d.R e W base ok v xs) (hg : W.grownBy W' row) (hr : ∀ r, row = some r → ∃ o : Obj, W.heap[r]? = some o ∧ o.isCells = false) : d.R e W' base ok v xs :=
 Kd.R_mono (Kd.R_move (Kd.R_bound h) (fun k hk => by
  obtain ⟨_, _, _, q, _, cells, hc⟩ := hk
  rw [blk_own hc hg hr, hc])) (fun _ hk => hk.1)
theorem rm_marks_snoc (ks : S23) (l : List S25) (now wait : Int) (pre : List (Fin l.length)) (x : Fin l.length) : rm_marks ks l now wait (pre ++ [x]) = rm_step ks l now wait (rm_marks ks l now wait pre) x := by simp [rm_marks]
theorem rm_step_len (ks : S23) (l : List S25) (now wait : Int) (s : List S25 × Int) (i : Fin l.length) : (rm_step ks l now wait s i).1.length = s.1.length := by unfold rm_step; split <;> simp
theorem rm_fold_len (ks : S23) (l : List S25) (now wait : Int) (pre : List (Fin l.length)) : ∀ s : List S25 × Int, (pre.foldl (rm_step ks l now wait) s).1.length = s.1.length := by
 induction pre with
 | nil => intro s; rfl
 | cons x pre ih => intro s; rw [List.foldl_cons, ih, rm_step_len]
/-- What lies in rack.Mark's variables between two rounds. -/
def RmI (ks : S23) (v mv : Value) (a2 a3 : Int) (w : World) (Bm : Nat) (st : List S25 × Int) (W : World) : Prop :=
 RmBox ks v a2 a3 w.heap.size W ∧ W.heap[Bm]? = some (.cells #[mv] 36 (0, 0)) ∧ W.heap[Bm + 1]? = some (.cells #[.int .i64 st.2] 3 (0, 0)) ∧ Kd.R k25 25 W (w.heap.size + 1 + 1 + 1 + 1) (fun k => k < Bm) mv st.1 ∧ w.heap.size + 1 + 1 + 1 < Bm ∧ Below w.heap.size w W
theorem RmI.start {ks : S23} {v mv : Value} {a2 a3 : Int} {w W : World} {l : List S25} {n : Int} {B : Nat} (hx : RmBox ks v a2 a3 w.heap.size W) (hb : Below w.heap.size w W) (hm : Kd.R k25 25 W B (fun _ => True) mv l) (hB : w.heap.size + 1 + 1 + 1 + 1 ≤ B) : RmI ks v mv a2 a3 w W.heap.size (l, n) ((W.alloc (.cells #[mv] 36)).alloc (.cells #[.int .i64 n] 3)) := by
 have hb2 : Below W.heap.size W ((W.alloc (.cells #[mv] 36)).alloc (.cells #[.int .i64 n] 3)) := ((Below.refl _ W).alloc (Nat.le_refl _) _).alloc (by simp) _
 refine ⟨hx.below hb2, blk_alloc (blk_new W _) _, ?_, ?_, blk_lt hx.2.2.2, hb.trans (hb2.mono hb.size)⟩
 ·have h := blk_new (W.alloc (.cells #[mv] 36)) (.cells #[.int .i64 n] 3)
  rw [World.size_alloc] at h
  exact h
 ·exact Kd.R_below (Kd.R_lower (Kd.R_mono (Kd.R_bound hm) (fun k hk => hk.2.2.1)) hB) hb2
theorem RmI.grown {ks : S23} {v mv : Value} {a2 a3 : Int} {w W W' : World} {Bm : Nat} {st : List S25 × Int} {row : Option Nat} (h : RmI ks v mv a2 a3 w Bm st W) (hg : W.grownBy W' row) (hr : ∀ r, row = some r → w.heap.size ≤ r ∧ ∃ o : Obj, W.heap[r]? = some o ∧ o.isCells = false) : RmI ks v mv a2 a3 w Bm st W' :=
 ⟨h.1.grown hg (fun r e => .inr (hr r e).2), blk_own h.2.1 hg (fun r e => (hr r e).2), blk_own h.2.2.1 hg (fun r e => (hr r e).2), R_own' h.2.2.2.1 hg (fun r e => (hr r e).2), h.2.2.2.2.1, h.2.2.2.2.2.grown hg h.2.2.2.2.2.size (fun k e => (hr k e).1)⟩
theorem RmI.below {ks : S23} {v mv : Value} {a2 a3 : Int} {w W W' : World} {Bm : Nat} {st : List S25 × Int} (h : RmI ks v mv a2 a3 w Bm st W) (hb : Below W.heap.size W W') : RmI ks v mv a2 a3 w Bm st W' := h.grown (grown_none hb) (fun r e => by cases e)
theorem heap_set {W : World} {p : Addr} {u : Value} {k : Nat} {o : Obj} (h : W.heap[k]? = some o) (hk : k ≠ p.block) : (W.setCell p u).heap[k]? = some o := (Below.heap_setCell W p u k hk).trans h
theorem RmBox.set {ks : S23} {v : Value} {a2 a3 : Int} {b : Nat} {W : World} {p : Addr} {u : Value} (h : RmBox ks v a2 a3 b W) (hp : b + 1 + 1 + 1 < p.block) : RmBox ks v a2 a3 b (W.setCell p u) :=
 ⟨heap_set h.1 (by omega), heap_set h.2.1 (by omega), heap_set h.2.2.1 (by omega), heap_set h.2.2.2 (by omega)⟩
theorem RmI.long {ks : S23} {v mv : Value} {a2 a3 : Int} {w W : World} {Bm : Nat} {st : List S25 × Int} (n : Int) (h : RmI ks v mv a2 a3 w Bm st W) : RmI ks v mv a2 a3 w Bm (st.1, n) (W.setCell ⟨Bm + 1, 0, none⟩ (.int .i64 n)) := by
 obtain ⟨h1, h2, h3, h4, h5, h6⟩ := h
 exact ⟨h1.set (by show _ < Bm + 1; omega), heap_set h2 (by show Bm ≠ Bm + 1; omega), blk_put h3 0 _ rfl, Kd.R_far h4 (fun k hk => by show k ≠ Bm + 1; omega) _, h5, h6.setCell (p := ⟨Bm + 1, 0, none⟩) (by show _ ≤ Bm + 1; omega) _⟩
theorem RmI.mark {ks : S23} {v : Value} {g n cm : Nat} {a2 a3 : Int} {w W : World} {Bm : Nat} {st : List S25 × Int} (i : Nat) (hi : i < n) (h : RmI ks v (.slice (some ⟨g, 0, none⟩) n cm) a2 a3 w Bm st W) :
  RmI ks v (.slice (some ⟨g, 0, none⟩) n cm) a2 a3 w Bm (st.1.set i (⟨(rd_T25 st.1 (i : Int)).f0, (rd_T25 st.1 (i : Int)).f1, (rd_T25 st.1 (i : Int)).f2, (rd_T25 st.1 (i : Int)).f3, (rd_T25 st.1 (i : Int)).f4, (rd_T25 st.1 (i : Int)).f5, true, false, (rd_T25 st.1 (i : Int)).f8, (rd_T25 st.1 (i : Int)).f9, (rd_T25 st.1 (i : Int)).f10, (rd_T25 st.1 (i : Int)).f11⟩ : S25), st.2) ((W.setCell ⟨g, i * 12 + 6, none⟩ (.bool true)).setCell ⟨g, i * 12 + 7, none⟩ (.bool false)) := by
 obtain ⟨h1, h2, h3, h4, h5, h6⟩ := h
 have hg0 := Kd.R_base h4 g rfl
 have hg1 : g < Bm := h4.1 g rfl
 obtain ⟨c, hcl, hM, hcc, _⟩ := Kd.R_elem h4 z25 (i : Int) (by omega) (by omega)
 have hc := k25_openM hM
 subst hc
 have hs := (Kd.R_seg h4 (i : Int) (by omega) (by omega) (seg := [.bool true, .bool false]) (j := 6) hcl hcc (by show 8 ≤ 12; decide) (x' := (⟨(rd_T25 st.1 (i : Int)).f0, (rd_T25 st.1 (i : Int)).f1, (rd_T25 st.1 (i : Int)).f2, (rd_T25 st.1 (i : Int)).f3, (rd_T25 st.1 (i : Int)).f4, (rd_T25 st.1 (i : Int)).f5, true, false, (rd_T25 st.1 (i : Int)).f8, (rd_T25 st.1 (i : Int)).f9, (rd_T25 st.1 (i : Int)).f10, (rd_T25 st.1 (i : Int)).f11⟩ : S25)) (k25_mkM _ _ _ _) (fun _ hk => hk)).1
 refine ⟨(h1.set (by show _ < g; omega)).set (by show _ < g; omega), heap_set (heap_set h2 (by show Bm ≠ g; omega)) (by show Bm ≠ g; omega), heap_set (heap_set h3 (by show Bm + 1 ≠ g; omega)) (by show Bm + 1 ≠ g; omega), ?_, h5, (h6.setCell (p := ⟨g, i * 12 + 6, none⟩) (by show _ ≤ g; omega) _).setCell (p := ⟨g, i * 12 + 7, none⟩) (by show _ ≤ g; omega) _⟩
 have hi' : ((i : Int)).toNat = i := Int.toNat_natCast i
 rw [hi'] at hs
 exact hs
section
open Go.Shelf
attribute [local go_sem] Oper.semAt_some
set_option maxRecDepth 100000 in
set_option maxHeartbeats 16000000 in
theorem rm_main (a0_0 : Int) (a0_1 : Int) (a0_2 : Int) (a0_3 : Bool) (a0_4 : Int) (a0_5 : Int) (a0_6 : Int) (a0_7 : Int)
  (A1 : Option Addr) (c1 : Nat) (l1 : List S25) (a2 : Int) (a3 : Int) (w : World) (hc1 : l1.length ≤ c1) (hr1 : Kd.C k25 w A1 l1.length l1) (hc : rm_chk (⟨a0_0, a0_1, a0_2, a0_3, a0_4, a0_5, a0_6, a0_7⟩ : S23) = 0) (hw : rm_within 1125899906842624 [a2, a3] = true) (ha : l1.any (rm_bad a2) = false) (hl : l1.length < 1759218604441) :
  Calls Try.prog 16 #[.agg #[.int .i64 a0_0, .int .i64 a0_1, .int .i64 a0_2, .bool a0_3, .int .i64 a0_4, .int .i64 a0_5, .int .i64 a0_6, .int .i64 a0_7], .slice A1 l1.length c1, .int .i64 a2, .int .i64 a3] w fun e w' => ∃ v0_ : Value, e = .returned (.tuple #[v0_, .int .i64 (rm_marks (⟨a0_0, a0_1, a0_2, a0_3, a0_4, a0_5, a0_6, a0_7⟩ : S23) l1 a2 a3 (rm_pick (⟨a0_0, a0_1, a0_2, a0_3, a0_4, a0_5, a0_6, a0_7⟩ : S23) l1 l1.length)).2, .int .i64 0]) ∧ Kd.R k25 25 w' w.heap.size (fun _ => True) v0_ (rm_marks (⟨a0_0, a0_1, a0_2, a0_3, a0_4, a0_5, a0_6, a0_7⟩ : S23) l1 a2 a3 (rm_pick (⟨a0_0, a0_1, a0_2, a0_3, a0_4, a0_5, a0_6, a0_7⟩ : S23) l1 l1.length)).1 ∧ Below w.heap.size w w' := by
 have HE := Lib.hid (show rack_Check.f 2 a0_0 a0_1 a0_2 a0_3 a0_4 a0_5 a0_6 a0_7 = some 0 from (rm_chk_f (⟨a0_0, a0_1, a0_2, a0_3, a0_4, a0_5, a0_6, a0_7⟩ : S23)).trans (congrArg some hc))
 have HX0 := Lib.hid (RmBox.new (⟨a0_0, a0_1, a0_2, a0_3, a0_4, a0_5, a0_6, a0_7⟩ : S23) (.slice A1 l1.length c1) a2 a3 w)
 have HC := Lib.hid hr1
 have HW := Lib.hid (show rack_within.f 1125899906842624 [a2, a3] = some true from congrArg some hw)
 have HEG := Lib.hid (show ∀ args w, (callFunc 27 args).run Try.prog w = .ok (.enter 27 args) w from enters_of Try.func27 (by kernel_rfl) rfl)
 have HA := Lib.hid ha
 have HL := Lib.hid hc1
 have HCL := Lib.hid (show api_Rec.f l1 = some l1 from if_pos hl)
 clear hr1 hc hw ha hc1
 have HB := Lib.hid (show Below w.heap.size w ((((w.alloc (.cells #[.int .i64 a0_0, .int .i64 a0_1, .int .i64 a0_2, .bool a0_3, .int .i64 a0_4, .int .i64 a0_5, .int .i64 a0_6, .int .i64 a0_7] 23)).alloc (.cells #[.slice A1 l1.length c1] 36)).alloc (.cells #[.int .i64 a2] 3)).alloc (.cells #[.int .i64 a3] 3)) from below_alloc (below_alloc (below_alloc (below_alloc (Below.refl _ _) _) _) _) _)
 refine callsIn_wide (n := 9).1 ?_
 refine callsIn_of_wp_marks Try.func16 rfl trivial ?_ rfl
 refine wpIn_wide.2 ?_
 simp only [Try.ntmps16, List.size_toArray, List.length_cons, List.length_nil, Nat.reduceAdd, Nat.reduceSub, Array.replicate_succ, Array.replicate_zero, List.push_toArray, List.append_toArray, List.nil_append, List.cons_append]
 go_wp2
 go_step3
 go_wp2_with (first | (go_at_call 10; refine (rack_Check.calls 2 a0_0 a0_1 a0_2 a0_3 a0_4 a0_5 a0_6 a0_7 0 _ HE.out).mono ?_; rintro e W1 ⟨rfl, hb⟩; have HB2 := Lib.hid (below_step HB.out hb); have HX := Lib.hid (HX0.out.below hb); clear hb; obtain ⟨k0, k1, k2, k3, k4, k5, k6, k7, kl, kn, kw⟩ := HX.out.cells) | (go_at_call 19; refine (rack_within.calls 1125899906842624 _ 2 [a2, a3] true _ (rm_two _ a2 a3 _) (Nat.le_refl _) HW.out).mono ?_; rintro e W2 ⟨rfl, hb⟩; have HB3 := Lib.hid (below_step (below_alloc HB2.out _) hb); have HX2 := Lib.hid ((HX.out.below ((Below.refl _ _).alloc (Nat.le_refl _) _)).below hb); clear hb; obtain ⟨k2_0, k2_1, k2_2, k2_3, k2_4, k2_5, k2_6, k2_7, kl2, kn2, kw2⟩ := HX2.out.cells) | (go_at_call 26; have hcc := rm_contains 27 #[.pointer (some ⟨w.heap.size + 1 + 1, 0, none⟩)] (rm_bad a2) A1 c1 l1 _ (Kd.C_below HC.out HB3.out) HEG.out (fun x W _ hb => rm_pred a2 _ W ((hb.cell (World.block_lt_of_cell? _ _ kn2)).trans kn2) x); rw [HA.out] at hcc; refine hcc.mono ?_; clear hcc; rintro e W3 ⟨rfl, hb⟩; have HB4 := Lib.hid (below_step HB3.out hb); have HX3 := Lib.hid (HX2.out.below hb); clear hb; obtain ⟨k3_0, k3_1, k3_2, k3_3, k3_4, k3_5, k3_6, k3_7, kl3, kn3, kw3⟩ := HX3.out.cells) | (go_at_call 28; refine (api_Rec.calls A1 c1 l1 l1 _ (Kd.C_below HC.out HB4.out) HL.out HCL.out).mono ?_; rintro e W4 ⟨mv, rfl, hm, hb⟩; obtain ⟨Am, cm, rfl⟩ := Kd.R_slice hm; have HB5 := Lib.hid (below_step HB4.out hb); have HX4 := Lib.hid (HX3.out.below hb); have HM := Lib.hid hm; clear hb hm; obtain ⟨k4_0, k4_1, k4_2, k4_3, k4_4, k4_5, k4_6, k4_7, kl4, kn4, kw4⟩ := HX4.out.cells))
 refine wp_label ?_
 have H6 := Lib.hid (RmI.start HX4.out HB5.out HM.out (blk_lt HX3.out.2.2.2) (n := 0))
 obtain ⟨W6, hW6⟩ : ∃ W6, (W4.alloc (.cells #[.slice Am l1.length cm] 36)).alloc (.cells #[.int .i64 0] 3) = W6 := ⟨_, rfl⟩
 rw [hW6] at H6 ⊢
 obtain ⟨Bm, hBm⟩ : ∃ Bm, W4.heap.size = Bm := ⟨_, rfl⟩
 rw [hBm] at H6 ⊢
 clear hW6 hBm k0 k1 k2 k3 k4 k5 k6 k7 kl kn kw k2_0 k2_1 k2_2 k2_3 k2_4 k2_5 k2_6 k2_7 kl2 kn2 kw2 k3_0 k3_1 k3_2 k3_3 k3_4 k3_5 k3_6 k3_7 kl3 kn3 kw3 k4_0 k4_1 k4_2 k4_3 k4_4 k4_5 k4_6 k4_7 kl4 kn4 kw4
 obtain ⟨k0, k1, k2, k3, k4, k5, k6, k7, kl, kn, kw⟩ := H6.out.1.cells
 go_wp2_with (first | (go_at_call 29; refine (rm_askcall (⟨a0_0, a0_1, a0_2, a0_3, a0_4, a0_5, a0_6, a0_7⟩ : S23) _ _ _ _).mono ?_; rintro e W5 ⟨rfl, hw5⟩))
 have hk7 : W5.heap[W6.heap.size]? = some (.cells #[.int .i64 a0_0, .int .i64 a0_1, .int .i64 a0_2, .bool a0_3, .int .i64 a0_4, .int .i64 a0_5, .int .i64 a0_6, .int .i64 a0_7] 23 (0, 0)) := by rw [← hw5]; exact blk_alloc (blk_new W6 _) _
 have hl7 : W5.heap[W6.heap.size + 1]? = some (.cells #[.slice A1 l1.length c1] 36 (0, 0)) := by
  rw [← hw5]; have h := blk_new (W6.alloc (.cells #[.int .i64 a0_0, .int .i64 a0_1, .int .i64 a0_2, .bool a0_3, .int .i64 a0_4, .int .i64 a0_5, .int .i64 a0_6, .int .i64 a0_7] 23)) (.cells #[.slice A1 l1.length c1] 36); rw [World.size_alloc] at h; exact h
 have H7 := Lib.hid (show RmI (⟨a0_0, a0_1, a0_2, a0_3, a0_4, a0_5, a0_6, a0_7⟩ : S23) (.slice A1 l1.length c1) (.slice Am l1.length cm) a2 a3 w Bm (l1, 0) W5 from by rw [← hw5]; exact H6.out.below (((Below.refl _ W6).alloc (Nat.le_refl _) _).alloc (by simp) _))
 have hsz : W5.heap.size = W6.heap.size + 1 + 1 := by rw [← hw5]; simp
 have hszB : Bm + 1 < W6.heap.size := blk_lt H6.out.2.2.1
 have HK7 := Lib.hid hk7; have HL7 := Lib.hid hl7; have HSZ := Lib.hid hsz
 (try rw [hw5])
 clear hk7 hl7 hsz hw5 k0 k1 k2 k3 k4 k5 k6 k7 kl kn kw
 refine wpIn_wide (n := 9).1 ?_
 refine wpIn_rangeFunc_ownF (α := Fin l1.length) (encs := fun x => #[.int .i64 (x.val : Int)]) (Kp := KpB w.heap.size [W6.heap.size]) (S := fun ys => ys = rm_pick (⟨a0_0, a0_1, a0_2, a0_3, a0_4, a0_5, a0_6, a0_7⟩ : S23) l1 l1.length) (Sp := fun _ => True) (N := l1.length + 1) (w0 := W5)
  rfl (by omega) (gf := 35) (lb := #[.pointer (some ⟨W6.heap.size + 1, 0, none⟩), .pointer (some ⟨W6.heap.size, 0, none⟩)]) rfl trivial (enters_of Try.func35 (by kernel_rfl) rfl)
  (fun l J Jx W hW hJ hJx hY h0 => rm_asked 8 (by omega) l (W6.heap.size + 1) W6.heap.size A1 c1 l1 (⟨a0_0, a0_1, a0_2, a0_3, a0_4, a0_5, a0_6, a0_7⟩ : S23) w J Jx W hJ hY ((hW.cell (p := ⟨W6.heap.size + 1, 0, none⟩) (blk_lt HL7.out)).trans ((blk_cell HL7.out 0).trans rfl)) ((hW.block _ (blk_lt HK7.out)).trans HK7.out) HC.out (H7.out.2.2.2.2.2.trans (hW.mono H7.out.2.2.2.2.2.size)) h0)
  KpB.trans (KpB.put H7.out.2.2.2.2.2.size (by intro b hb; rw [List.mem_singleton.1 hb, HSZ.out]; omega)) (Below.refl _ _) (fun _ => rfl)
  (fun pre W => RmI (⟨a0_0, a0_1, a0_2, a0_3, a0_4, a0_5, a0_6, a0_7⟩ : S23) (.slice A1 l1.length c1) (.slice Am l1.length cm) a2 a3 w Bm (rm_marks (⟨a0_0, a0_1, a0_2, a0_3, a0_4, a0_5, a0_6, a0_7⟩ : S23) l1 a2 a3 pre) W) (fun _ _ _ => False)
  (fun s A B row hs hg hr => hs.grown hg (fun r e => ⟨Nat.le_trans H7.out.2.2.2.2.2.size (hr r e).1, (hr r e).2⟩)) (fun _ _ _ _ _ hs _ _ => hs) H7.out
  (fun x => { tmps := #[.agg #[.int .i64 a0_0, .int .i64 a0_1, .int .i64 a0_2, .bool a0_3, .int .i64 a0_4, .int .i64 a0_5, .int .i64 a0_6, .int .i64 a0_7], .slice A1 l1.length c1, .int .i64 a2, .int .i64 a3, .pointer (some ⟨w.heap.size, 0, none⟩), .pointer (some ⟨w.heap.size + 1, 0, none⟩), .pointer (some ⟨w.heap.size + 1 + 1, 0, none⟩), .pointer (some ⟨w.heap.size + 1 + 1 + 1, 0, none⟩), .slice none 0 0, .int .i64 0, .int .i64 0, .int .i64 0, .pointer (some ⟨Bm, 0, none⟩), .pointer (some ⟨Bm + 1, 0, none⟩), .int .i64 (x.val : Int), undef, .agg #[.int .i64 a0_0, .int .i64 a0_1, .int .i64 a0_2, .bool a0_3, .int .i64 a0_4, .int .i64 a0_5, .int .i64 a0_6, .int .i64 a0_7], .int .i64 0, .int .i64 0, .bool false, undef, .int .i64 a2, .int .i64 a3, .slice (some ⟨W1.heap.size, 0, none⟩) 2 2, .bool true, .bool false, .bool false, .slice A1 l1.length c1, .func (.func 27) #[] #[.pointer (some ⟨w.heap.size + 1 + 1, 0, none⟩)], .bool false, .bool false, .slice A1 l1.length c1, .slice Am l1.length cm, .agg #[.int .i64 a0_0, .int .i64 a0_1, .int .i64 a0_2, .bool a0_3, .int .i64 a0_4, .int .i64 a0_5, .int .i64 a0_6, .int .i64 a0_7], .slice A1 l1.length c1, .func (.func 35) #[] #[.pointer (some ⟨W6.heap.size + 1, 0, none⟩), .pointer (some ⟨W6.heap.size, 0, none⟩)], .int .i64 (x.val : Int), undef, undef, undef, undef, undef, undef, undef, undef, undef, undef, undef, undef, undef, undef, undef, undef, undef, undef, undef, undef, undef, undef, undef, undef, undef, undef, undef], defers := [] }) ?assign ?body ?done ?stop
 case assign =>
  intro l x W K hK
  gi_wp2
  exact hK
 case stop =>
  rintro D c pre W _ _ h _
  exact h.elim
 case done =>
  rintro D ys W hD rfl hI hK
  have hmc : W.cell? ⟨Bm, 0, none⟩ = some (.slice Am l1.length cm) := (blk_cell hI.2.1 0).trans rfl
  have hlc : W.cell? ⟨Bm + 1, 0, none⟩ = some (.int .i64 (rm_marks (⟨a0_0, a0_1, a0_2, a0_3, a0_4, a0_5, a0_6, a0_7⟩ : S23) l1 a2 a3 (rm_pick (⟨a0_0, a0_1, a0_2, a0_3, a0_4, a0_5, a0_6, a0_7⟩ : S23) l1 l1.length)).2) := (blk_cell hI.2.2.1 0).trans rfl
  have HI := Lib.hid hI; clear hI
  have HK := Lib.hid hK; clear hK
  simp only [Exit.inBlock, Exit.then]
  go_wp2
  go_quiet (fail)
  go_wp2
  rw [Exit.noGoto_ret]
  have hp : Below W.heap.size W (W.drewN nq) := pw_below_drewN (Below.refl _ _) nq
  have hKq : (W.drewN nq).heap[D]? = some (.deferred (some [])) := HK.out
  refine ⟨by simp, .inl ⟨_, _, rfl, run_takeDeferred hKq, ?_⟩⟩
  have h2 := (HI.out.below hp).grown (grownBy_putObj' (W.drewN nq) D (.deferred none)) (fun r e => by cases e; exact ⟨Nat.le_trans H7.out.2.2.2.2.2.size hD, _, hKq, rfl⟩)
  exact ⟨_, results_tmp3 rfl _ _ _, _, rfl, Kd.R_mono (Kd.R_lower h2.2.2.2.1 (by omega)) (fun _ _ => trivial), h2.2.2.2.2.2⟩
 case body =>
  rintro l pre x W hI hlen
  obtain ⟨k0, k1, k2, k3, k4, k5, k6, k7, kl, kn, kw⟩ := hI.1.cells
  have hx : x.val < l1.length := x.isLt
  obtain ⟨i, hi⟩ : ∃ i, x.val = i := ⟨_, rfl⟩
  obtain ⟨ad, had, he0, he1, he2, he3, he4, he5, he6, he7, he8, he9, he10, he11⟩ := at_T25 HC.out (i : Int) (by omega) (by omega)
  obtain rfl := had
  replace he0 := (hI.2.2.2.2.2.cell (World.block_lt_of_cell? w _ he0)).trans he0
  replace he1 := (hI.2.2.2.2.2.cell (World.block_lt_of_cell? w _ he1)).trans he1
  replace he2 := (hI.2.2.2.2.2.cell (World.block_lt_of_cell? w _ he2)).trans he2
  replace he3 := (hI.2.2.2.2.2.cell (World.block_lt_of_cell? w _ he3)).trans he3
  replace he4 := (hI.2.2.2.2.2.cell (World.block_lt_of_cell? w _ he4)).trans he4
  replace he5 := (hI.2.2.2.2.2.cell (World.block_lt_of_cell? w _ he5)).trans he5
  replace he6 := (hI.2.2.2.2.2.cell (World.block_lt_of_cell? w _ he6)).trans he6
  replace he7 := (hI.2.2.2.2.2.cell (World.block_lt_of_cell? w _ he7)).trans he7
  replace he8 := (hI.2.2.2.2.2.cell (World.block_lt_of_cell? w _ he8)).trans he8
  replace he9 := (hI.2.2.2.2.2.cell (World.block_lt_of_cell? w _ he9)).trans he9
  replace he10 := (hI.2.2.2.2.2.cell (World.block_lt_of_cell? w _ he10)).trans he10
  replace he11 := (hI.2.2.2.2.2.cell (World.block_lt_of_cell? w _ he11)).trans he11
  have hg : rd_T25 l1 (i : Int) = l1[x] := by rw [rd_T25, Int.toNat_natCast, List.getD_eq_getElem?_getD, ← hi, List.getElem?_eq_getElem hx]; rfl
  simp only [Int.toNat_natCast] at he3
  obtain ⟨xe, hxe⟩ : ∃ xe, l1[x] = xe := ⟨_, rfl⟩
  rw [hg, hxe] at he3
  have HXE := Lib.hid hxe
  rw [hi]
  have hmc : W.cell? ⟨Bm, 0, none⟩ = some (.slice Am l1.length cm) := (blk_cell hI.2.1 0).trans rfl
  have hlc : W.cell? ⟨Bm + 1, 0, none⟩ = some (.int .i64 (rm_marks (⟨a0_0, a0_1, a0_2, a0_3, a0_4, a0_5, a0_6, a0_7⟩ : S23) l1 a2 a3 pre).2) := (blk_cell hI.2.2.1 0).trans rfl
  have HI := Lib.hid hI; clear hI
  have hi0 : (0 : Int) ≤ (i : Int) := by omega
  have hi1 : (i : Int) < (l1.length : Int) := by omega
  have HX := Lib.hid hi; clear hi hxe he0 he1 he2 he4 he5 he6 he7 he8 he9 he10 he11 hg
  have hmix : Try.prog.follows .mixedOrders = true := by kernel_rfl
  obtain ⟨lf, hlf⟩ : ∃ lf, wrap64 (wrap64 (wrap64 (xe.f3 + a0_2) + a3) - a2) = lf := ⟨_, rfl⟩
  have HLF := Lib.hid (show rm_left (⟨a0_0, a0_1, a0_2, a0_3, a0_4, a0_5, a0_6, a0_7⟩ : S23) a2 a3 l1[x] = lf from by rw [HXE.out]; exact hlf)
  obtain ⟨st, hst⟩ : ∃ st, rm_marks (⟨a0_0, a0_1, a0_2, a0_3, a0_4, a0_5, a0_6, a0_7⟩ : S23) l1 a2 a3 pre = st := ⟨_, rfl⟩
  rw [hst] at HI hlc
  have HST := Lib.hid hst; clear hst
  obtain ⟨m0, n0⟩ := st
  have hBw : w.heap.size ≤ Bm := by have := HI.out.2.2.2.2.1; omega
  by_cases hq : lf > 0
  ·have hstep : rm_step (⟨a0_0, a0_1, a0_2, a0_3, a0_4, a0_5, a0_6, a0_7⟩ : S23) l1 a2 a3 (m0, n0) x = (m0, mx n0 lf) := by unfold rm_step; rw [HLF.out, if_pos hq]
   have HSTEP := Lib.hid hstep; clear hstep
   gi_wp2
   refine region_quiet_round l (by kernel_rfl) (by assumption) (by kernel_rfl) ?_
   repeat (gi_big_quiet_step (fail))
   refine wpQuietIn_nil ?_
   rintro _ ⟨nq, rfl⟩
   have HB1 := Lib.hid ((HI.out.below (pw_below_drewN (Below.refl _ W) nq)).long (mx n0 lf))
   have hfz : W.frozen? ⟨Bm + 1, 0, none⟩ = false := blk_frozen HI.out.2.2.1 0
   have hBW : w.heap.size ≤ Bm + 1 := by omega
   have hBK : W6.heap.size ≠ Bm + 1 := by omega
   gi_wp2
   all_goals
    refine ⟨(rf_keepsN W _).trans (KeepsOthers.setCell _ _ _), ⟨(pw_below_drewN (Below.refl _ W) _).setCell (p := ⟨Bm + 1, 0, none⟩) hBW _, fun b hb o ho => ?_⟩, ?_⟩
    ·rw [List.mem_singleton.1 hb] at ho ⊢
     exact heap_set ho hBK
    ·show RmI _ _ _ _ _ _ _ (rm_marks (⟨a0_0, a0_1, a0_2, a0_3, a0_4, a0_5, a0_6, a0_7⟩ : S23) l1 a2 a3 (pre ++ [x])) _
     rw [rm_marks_snoc, HST.out, HSTEP.out]
     have h9 := HB1.out
     first
     | (have e : mx n0 lf = lf := (by unfold mx; omega); rw [e] at h9 ⊢; exact h9)
     | (have e : mx n0 lf = n0 := (by unfold mx; omega); rw [e] at h9 ⊢; exact h9)
  ·have hstep : rm_step (⟨a0_0, a0_1, a0_2, a0_3, a0_4, a0_5, a0_6, a0_7⟩ : S23) l1 a2 a3 (m0, n0) x = (m0.set i (⟨(rd_T25 m0 (i : Int)).f0, (rd_T25 m0 (i : Int)).f1, (rd_T25 m0 (i : Int)).f2, (rd_T25 m0 (i : Int)).f3, (rd_T25 m0 (i : Int)).f4, (rd_T25 m0 (i : Int)).f5, true, false, (rd_T25 m0 (i : Int)).f8, (rd_T25 m0 (i : Int)).f9, (rd_T25 m0 (i : Int)).f10, (rd_T25 m0 (i : Int)).f11⟩ : S25), n0) := by unfold rm_step; rw [HLF.out, if_neg hq, HX.out]
   have HSTEP := Lib.hid hstep; clear hstep
   have hlen0 : m0.length = l1.length := by have h := rm_fold_len (⟨a0_0, a0_1, a0_2, a0_3, a0_4, a0_5, a0_6, a0_7⟩ : S23) l1 a2 a3 pre (l1, 0); rw [show List.foldl (rm_step (⟨a0_0, a0_1, a0_2, a0_3, a0_4, a0_5, a0_6, a0_7⟩ : S23) l1 a2 a3) (l1, 0) pre = (m0, n0) from HST.out] at h; exact h
   obtain ⟨g, cap, hgv, _⟩ := Kd.R_form HI.out.2.2.2.1 (by show 0 < m0.length; omega)
   simp only [Value.slice.injEq] at hgv
   obtain ⟨rfl, -, -⟩ := hgv
   obtain ⟨ce, hcl, hM, hcc, hfr⟩ := Kd.R_elem HI.out.2.2.2.1 z25 (i : Int) hi0 hi1
   have hce := k25_openM hM
   subst hce
   have hs6 := hcc 6 _ rfl
   have hs7 := hcc 7 _ rfl
   have hf6 := hfr 6
   have hf7 := hfr 7
   have hg1 : g < Bm := HI.out.2.2.2.1.1 g rfl
   have hg0 := Kd.R_base HI.out.2.2.2.1 g rfl
   simp only [show (k25).sz = 12 from rfl, Int.toNat_natCast] at hs6 hs7 hf6 hf7
   have HLN0 := Lib.hid hlen0
   clear hcc hfr hM hcl hlen0
   gi_wp2
   refine region_quiet_round l (by kernel_rfl) (by assumption) (by kernel_rfl) ?_
   repeat (gi_big_quiet_step (fail))
   refine wpQuietIn_nil ?_
   rintro _ ⟨nq, rfl⟩
   have HB1 := Lib.hid (fun m => (HI.out.below (pw_below_drewN (Below.refl _ W) m)).mark i (by omega))
   have hgW : w.heap.size ≤ g := by omega
   have hgK : W6.heap.size ≠ g := by omega
   gi_wp2
   gi_region_with_o (fail)
   all_goals
    gi_wp2
    refine ⟨((rf_keepsN W _).trans (KeepsOthers.setCell _ _ _)).trans (KeepsOthers.setCell _ _ _), ⟨((pw_below_drewN (Below.refl _ W) _).setCell (p := ⟨g, i * 12 + 6, none⟩) hgW _).setCell (p := ⟨g, i * 12 + 7, none⟩) hgW _, fun b hb o ho => ?_⟩, ?_⟩
    ·rw [List.mem_singleton.1 hb] at ho ⊢
     exact heap_set (heap_set ho hgK) hgK
    ·show RmI _ _ _ _ _ _ _ (rm_marks (⟨a0_0, a0_1, a0_2, a0_3, a0_4, a0_5, a0_6, a0_7⟩ : S23) l1 a2 a3 (pre ++ [x])) _
     rw [rm_marks_snoc, HST.out, HSTEP.out]
     exact HB1.out _
end
theorem rack_Mark.calls (a0_0 : Int) (a0_1 : Int) (a0_2 : Int) (a0_3 : Bool) (a0_4 : Int) (a0_5 : Int) (a0_6 : Int) (a0_7 : Int) (A1 : Option Addr) (c1 : Nat) (l1 : List S25) (a2 : Int) (a3 : Int) (r1 : List S25) (r2 : Int) (r3 : Int) (w : World) (hr1 : Kd.C k25 w A1 l1.length l1) (hc1 : l1.length ≤ c1) (h : rack_Mark.f a0_0 a0_1 a0_2 a0_3 a0_4 a0_5 a0_6 a0_7 l1 a2 a3 = some (r1, r2, r3)) :
  Calls Try.prog 16 #[.agg #[.int .i64 a0_0, .int .i64 a0_1, .int .i64 a0_2, .bool a0_3, .int .i64 a0_4, .int .i64 a0_5, .int .i64 a0_6, .int .i64 a0_7], .slice A1 l1.length c1, .int .i64 a2, .int .i64 a3] w fun e w' => ∃ v0_ : Value, e = .returned (.tuple #[v0_, .int .i64 r2, .int .i64 r3]) ∧ Kd.R k25 25 w' w.heap.size (fun _ => True) v0_ r1 ∧ Below w.heap.size w w' := by
 unfold rack_Mark.f at h
 by_cases hc : rm_chk (⟨a0_0, a0_1, a0_2, a0_3, a0_4, a0_5, a0_6, a0_7⟩ : S23) = 0
 ·rw [if_pos hc] at h
  by_cases hw : rm_within 1125899906842624 [a2, a3] = true
  ·rw [if_pos hw] at h
   by_cases ha : l1.any (rm_bad a2) = true
   ·rw [if_pos ha] at h
    simp only [Option.some.injEq, Prod.mk.injEq] at h
    obtain ⟨rfl, rfl, rfl⟩ := h
    exact (rm_err3 a0_0 a0_1 a0_2 a0_3 a0_4 a0_5 a0_6 a0_7 A1 c1 l1 a2 a3 w hr1 hc hw ha).mono fun e w' ⟨he, hb⟩ => ⟨_, he, Kd.R_nil _ _ _ _ _, hb⟩
   ·rw [if_neg ha] at h
    by_cases hl : l1.length < 1759218604441
    ·rw [if_pos hl] at h
     simp only [Option.some.injEq, Prod.mk.injEq] at h
     obtain ⟨rfl, rfl, rfl⟩ := h
     exact rm_main a0_0 a0_1 a0_2 a0_3 a0_4 a0_5 a0_6 a0_7 A1 c1 l1 a2 a3 w hc1 hr1 hc hw (Bool.eq_false_iff.mpr ha) hl
    ·rw [if_neg hl] at h; cases h
  ·rw [if_neg hw] at h
   simp only [Option.some.injEq, Prod.mk.injEq] at h
   obtain ⟨rfl, rfl, rfl⟩ := h
   exact (rm_err2 a0_0 a0_1 a0_2 a0_3 a0_4 a0_5 a0_6 a0_7 A1 c1 l1 a2 a3 w hr1 hc (Bool.eq_false_iff.mpr hw)).mono fun e w' ⟨he, hb⟩ => ⟨_, he, Kd.R_nil _ _ _ _ _, hb⟩
 ·rw [if_neg hc] at h
  simp only [Option.some.injEq, Prod.mk.injEq] at h
  obtain ⟨rfl, rfl, rfl⟩ := h
  exact (rm_err1 a0_0 a0_1 a0_2 a0_3 a0_4 a0_5 a0_6 a0_7 A1 c1 l1 a2 a3 w hr1 hc).mono fun e w' ⟨he, hb⟩ => ⟨_, he, Kd.R_nil _ _ _ _ _, hb⟩


end Go.Proofs.Ytfckpjljpeaikaa.PA

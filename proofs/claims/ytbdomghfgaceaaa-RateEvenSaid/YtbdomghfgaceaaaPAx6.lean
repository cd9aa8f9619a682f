-- Written for the seat Ytbdomghfgaceaaa by this session's program hyb.py (the print's functions, with externals typed by hand).
import Derived.Deep.DeepCutAuto
import Derived.Laws.BitsLemmas
import Derived.Lib.Hide
import Derived.LoopIn
import Derived.LoopNIn
import Derived.OwnWalkIn
import Derived.RangeFuncBound
import Derived.RangeFuncBox
import Derived.RangeFuncCalls
import Derived.RangeFuncLeaves
import Derived.RangeFuncNested
import Derived.Shelf.Abstract
import Derived.Shelf.RegionOpen
import Derived.Sort.BigQuietIn
import Derived.Sort.CutIn
import Derived.Sort.QuietThIn
import Derived.TacticsInMore
import Derived.WalkKit
import Derived.Test.YtbdomghfgaceaaaPAx0
import Derived.Test.YtbdomghfgaceaaaPAx3
import Derived.Test.YtbdomghfgaceaaaPAx5
namespace Go.Proofs.Ytbdomghfgaceaaa.PA
open Go.RowKit Go.Proofs.YtbdomghfgaceaaaW.PrintWords Go.Proofs.YtbdomghfgaceaaaW.PrintLast Go.Proofs.YtbdomghfgaceaaaW.PrintMore
attribute [local go_sem] max2_int min2_int max_two min_two max_three min_three max_four min_four   -- for this text's walks alone
set_option linter.unusedVariables false
set_option linter.unusedSimpArgs false

/-! ### rate_Given: function 7 (typed by hand) -/
/-! aux: cells of boxes, kept -/
section
open Go.Shelf
theorem rf_new (W : World) (v : Value) (t : TypeId) : (W.alloc (.cells #[v] t)).cell? ⟨W.heap.size, 0, none⟩ = some v ∧ (W.alloc (.cells #[v] t)).frozen? ⟨W.heap.size, 0, none⟩ = false := ⟨(Boxed.new W t v).cell, (Boxed.new W t v).frozen⟩
theorem rf_cell {W : World} {a : Addr} {v : Value} (o : Obj) (h : W.cell? a = some v) : (W.alloc o).cell? a = some v := cell_kept h (World.grownBy_alloc W o none) (fun r e => by cases e)
theorem rf_frozen {W : World} {a : Addr} {v : Value} (o : Obj) (h : W.cell? a = some v) (hf : W.frozen? a = false) : (W.alloc o).frozen? a = false := (frozen_kept h (World.grownBy_alloc W o none) (fun r e => by cases e)).trans hf
theorem rf_keepsN (W : World) (n : Nat) : KeepsOthers W (W.drewN n) := ⟨Nat.le_refl _, fun _ _ h _ => h⟩
end

/-! aux: a region that draws its order, quiet, within a round of a loop over an iterator -/
section
open Go.Shelf
def noDefer (l : List Oper) : Bool := l.all fun o => match o.op with | .defer _ => false | _ => true
theorem noDefer_at {l : List Oper} (h : noDefer l = true) {i : Nat} {o : Oper} (ho : l.toArray[i]? = some o) : ∀ c, o.op ≠ .defer c := by
  intro c hc
  have hm : o ∈ l := by
    have : l[i]? = some o := by simpa using ho
    exact List.mem_of_getElem? this
  have := List.all_eq_true.1 h o hm
  rw [hc] at this
  exact absurd this (by simp)
theorem wpOp_round {F : Fence} {n lp : Nat} {P : Program} {l : List Oper} {Q : Exit → Act → World → Prop} {i : Nat} {K K' : Act → World → Prop} {a : Act} {w : World} (hnd : noDefer l = true) (hK : ∀ a w, K a w → K' a w)
    (h : wpOpIn F n P l.toArray Q i K a w) : wpOpIn (F.inRound lp) n P l.toArray Q i K' a w := by
  unfold wpOpIn at h ⊢
  cases ho : l.toArray[i]? with
  | none => simp only [ho] at h ⊢; exact hK _ _ h
  | some o =>
    simp only [ho] at h ⊢
    split at h
    · rename_i hw
      rw [if_pos hw]
      have h := Oper.wpIn_mono hK h
      refine ⟨h.1, ?_⟩
      have h2 := h.2
      rw [Oper.semAt_plain F _ _ (noDefer_at hnd ho)] at h2
      rw [Oper.semAt_plain (F.inRound lp) _ _ (noDefer_at hnd ho)]
      generalize (execOp a.eval o).run P w = r at h2 ⊢
      exact h2
    · rename_i hw
      rw [if_neg hw]
      exact ⟨h.1, hK _ _ h.2⟩
theorem wpAny_round {F : Fence} {n lp : Nat} {P : Program} {md : Region.Mode} {l : List Oper} {Q : Exit → Act → World → Prop} (hnd : noDefer l = true) : ∀ (fuel : Nat) (listed : Array Bool) (a : Act) (w : World),
    wpAnyIn F n P md l.toArray Q fuel listed a w → wpAnyIn (F.inRound lp) n P md l.toArray Q fuel listed a w
  | 0, _, _, _, h => h
  | fuel + 1, _, _, _, h => ⟨h.1, fun i hi => wpOp_round hnd (fun a w h => wpAny_round hnd fuel _ a w h) (h.2 i hi)⟩
theorem region_quiet_round {n : Nat} {P : Program} {id : Nat} {Q : Exit → Act → World → Prop} {a : Act} {w : World} {l : List Oper} (lp : Nat) (hnd : noDefer l = true) (hm : P.follows .mixedOrders = true) (hB : Region.lexB .any l.toArray = true)
    (h : wpQuietIn Fence.wide n P l.toArray (fun w' => ∃ n, w' = w.drewN n) (fun a' => ∀ w', (∃ n, w' = w.drewN n) → Q .normal a' w') l a) : (Code.region id l.toArray true).wpIn (Fence.wide.inRound lp) n P Q a w := by
  have hB0 := hB
  simp only [Region.lexB, Bool.and_eq_true] at hB
  refine wpIn_region_any hm (wpAny_round hnd _ _ _ _ (wpAnyIn_of_quiet (C := fun w' => ∃ n, w' = w.drewN n) (Q := fun a' => ∀ w', (∃ n, w' = w.drewN n) → Q .normal a' w') rfl (fun _ w' hw' h => h w' hw') _ _ _ _ ⟨1, rfl⟩ ?_))
  have := wpAnyQIn_lex (F := Fence.wide) (n := n) (C := fun w' => ∃ n, w' = w.drewN n) (md := .any) hB.1 l 0 (Array.replicate l.toArray.size false) a (by simp) (by simpa using hB.2) h
  simpa using this
end

/-! aux: what a round keeps; blocks that lie as they lay -/
section
open Go.Shelf
theorem grown_none {W W' : World} (h : Below W.heap.size W W') : W.grownBy W' none := ⟨h.os, h.tape, h.output, h.size, fun k hk _ => h.block k hk⟩
theorem abides_below {β : Type} {B : Nat} {J : β → World → Prop} (h : AbidesFrom B J) {s : β} {W W' : World} (hs : J s W) (hb : Below W.heap.size W W') : J s W' := h s W W' none hs (grown_none hb) (fun r e => by cases e)
/-- What a round keeps: all below base, and the blocks bs. -/
def KpB (base : Nat) (bs : List Nat) (A B : World) : Prop := Below base A B ∧ ∀ b ∈ bs, ∀ o, A.heap[b]? = some o → B.heap[b]? = some o
theorem KpB.trans {base : Nat} {bs : List Nat} {A B C : World} (h : KpB base bs A B) (k : KpB base bs B C) : KpB base bs A C := ⟨h.1.trans k.1, fun b hb o ho => k.2 b hb o (h.2 b hb o ho)⟩
theorem KpB.refl (base : Nat) (bs : List Nat) (A : World) : KpB base bs A A := ⟨Below.refl _ _, fun _ _ _ h => h⟩
theorem KpB.of_below {base : Nat} {bs : List Nat} {A B : World} (h : Below A.heap.size A B) (hb : base ≤ A.heap.size) : KpB base bs A B := ⟨h.mono hb, fun b _ o ho => (h.block b (Array.getElem?_eq_some_iff.1 ho).1).trans ho⟩
theorem KpB.put {base : Nat} {bs : List Nat} {w : World} (hn : base ≤ w.heap.size) (hbs : ∀ b ∈ bs, b < w.heap.size) (W : World) (l : Nat) (o o' : Obj) (hl : w.heap.size ≤ l) (h : W.heap[l]? = some o) (h1 : o.isCells = false) (h2 : o.isWalk = false) : KpB base bs W (W.putObj l o') :=
  ⟨belowK_b hn W l o o' hl h h1 h2, fun b hb o1 ho => (World.putObj_heap_other (by have := hbs b hb; omega)).trans ho⟩
theorem blk_own {W W' : World} {row : Option Nat} {b : Nat} {cs : Array Value} {t : TypeId} {z : Nat × Nat} (h : W.heap[b]? = some (.cells cs t z)) (hg : W.grownBy W' row) (hr : ∀ r, row = some r → ∃ o : Obj, W.heap[r]? = some o ∧ o.isCells = false) : W'.heap[b]? = some (.cells cs t z) :=
  (hg.block b (blk_lt h) (fun e => by obtain ⟨o, ho, h2⟩ := hr b e.symm; rw [h] at ho; injection ho with ho; rw [← ho] at h2; cases h2)).trans h
theorem R_own' {α : Type} {d : Kd α} {e base : Nat} {ok : Nat → Prop} {W W' : World} {v : Value} {xs : List α} {row : Option Nat} (h : d.R e W base ok v xs) (hg : W.grownBy W' row) (hr : ∀ r, row = some r → ∃ o : Obj, W.heap[r]? = some o ∧ o.isCells = false) : d.R e W' base ok v xs :=
  Kd.R_mono (Kd.R_move (Kd.R_bound h) (fun k hk => by
    obtain ⟨_, _, _, q, _, cells, hc⟩ := hk
    rw [blk_own hc hg hr, hc])) (fun _ hk => hk.1)
theorem heap_set {W : World} {p : Addr} {u : Value} {k : Nat} {o : Obj} (h : W.heap[k]? = some o) (hk : k ≠ p.block) : (W.setCell p u).heap[k]? = some o := (Below.heap_setCell W p u k hk).trans h
theorem blk_nx {W : World} {o p : Obj} : ((W.alloc o).alloc p).heap[W.heap.size + 1]? = some p := by
  have h := World.alloc_heap_new (W.alloc o) p; rwa [World.size_alloc] at h
end

/-! aux: regions inside a round, by the plain walk's steps -/
section
open Go.Shelf
def noDeferR (l : List Oper) : Bool := l.all fun o => match o.op with | .defer _ => false | _ => true
theorem noDeferR_at {l : List Oper} (h : noDeferR l = true) {o : Oper} (hm : o ∈ l) : ∀ c, o.op ≠ .defer c := by
  intro c hc
  have := List.all_eq_true.1 h o hm
  rw [hc] at this
  exact absurd this (by simp)
theorem rowsIn_wide_round {n lp : Nat} {P : Program} {row : String} {args : Array Value} {w : World} {R : Value → World → Prop} (h : Rows P row args w R) : RowsIn (Fence.wide.inRound lp) n P row args w R :=
  fun c cs _ => let ⟨v, w', r, s⟩ := h c cs; ⟨v, w', r, stepsIn_wide.2 s⟩
theorem oper_toRound {n lp : Nat} {P : Program} {o : Oper} {Q : Exit → Act → World → Prop} {K K' : Act → World → Prop} {a : Act} {w : World} (hnd : ∀ c, o.op ≠ .defer c) (hK : ∀ a w, K a w → K' a w) (h : o.wp P a w K Q) :
    o.wpIn (Fence.wide.inRound lp) n P a w K' Q := by
  refine ⟨fun _ _ => trivial, ?_⟩
  rw [Oper.semAt_eq _ _ _ hnd]
  unfold Oper.wp at h
  generalize (execOp a.eval o).run P w = r at h ⊢
  cases r with
  | ok x w' =>
    cases x <;> simp only [Oper.upon, Oper.uponIn] at h ⊢ <;>
      first
        | exact hK _ _ h
        | exact ⟨fun h => absurd h (by simp [Fence.wide]), CallsIn.inRound lp (callsIn_wide.2 (Calls.mono h (fun e w'' he => by cases e <;> first | exact hK _ _ he | exact he)))⟩
        | exact ⟨fun h => absurd h (by simp [Fence.wide]), rowsIn_wide_round (Rows.mono h (fun _ _ he => hK _ _ he))⟩
        | exact h
  | halt x w' => cases x <;> simp only [Oper.upon, Oper.uponIn] at h ⊢ <;> exact h
theorem list_toRound {n lp : Nat} {P : Program} {ops : Array Oper} {Q : Exit → Act → World → Prop} (hQ : ¬ LetsOut Q) : ∀ (l : List Oper), noDeferR l = true → ∀ (a : Act) (w : World), wpList P ops Q l a w → wpListIn (Fence.wide.inRound lp) n P ops Q l a w
  | [], _, _, _, h => h
  | o :: l, hnd, a, w, h => by
    have hd : noDeferR l = true := by unfold noDeferR at hnd ⊢; simp only [List.all_cons, Bool.and_eq_true] at hnd; exact hnd.2
    have ih := list_toRound (n := n) (lp := lp) (P := P) (ops := ops) hQ l hd
    unfold wpList at h
    unfold wpListIn
    split at h
    · rename_i hw
      rw [if_pos hw]
      rcases h with h | ⟨_, h⟩
      · exact oper_toRound (noDeferR_at hnd List.mem_cons_self) (fun a w h => ih a w h) h
      · exact absurd h hQ
    · rename_i hw
      rw [if_neg hw]
      exact ⟨fun _ _ => trivial, ih _ _ h⟩
theorem wpOp_toRound {n lp : Nat} {P : Program} {l : List Oper} {Q : Exit → Act → World → Prop} {i : Nat} {K K' : Act → World → Prop} {a : Act} {w : World} (hQ : ¬ LetsOut Q) (hnd : noDeferR l = true) (hK : ∀ a w, K a w → K' a w)
    (h : wpOp P l.toArray Q i K a w) : wpOpIn (Fence.wide.inRound lp) n P l.toArray Q i K' a w := by
  unfold wpOp at h
  unfold wpOpIn
  cases ho : l.toArray[i]? with
  | none => simp only [ho] at h ⊢; exact hK _ _ h
  | some o =>
    simp only [ho] at h ⊢
    have hm : o ∈ l := by
      have : l[i]? = some o := by simpa using ho
      exact List.mem_of_getElem? this
    split at h
    · rename_i hw
      rw [if_pos hw]
      rcases h with h | ⟨_, h⟩
      · exact oper_toRound (noDeferR_at hnd hm) hK h
      · exact absurd h hQ
    · rename_i hw
      rw [if_neg hw]
      exact ⟨fun _ _ => trivial, hK _ _ h⟩
theorem wpAny_toRound {n lp : Nat} {P : Program} {md : Region.Mode} {l : List Oper} {Q : Exit → Act → World → Prop} (hQ : ¬ LetsOut Q) (hnd : noDeferR l = true) : ∀ (fuel : Nat) (listed : Array Bool) (a : Act) (w : World),
    wpAny P md l.toArray Q fuel listed a w → wpAnyIn (Fence.wide.inRound lp) n P md l.toArray Q fuel listed a w
  | 0, _, _, _, h => h
  | fuel + 1, _, _, _, h => ⟨h.1, fun i hi => wpOp_toRound hQ hnd (fun a w h => wpAny_toRound hQ hnd fuel _ a w h) (h.2 i hi)⟩
/-- A plain region of a round. -/
theorem list_r {n lp id : Nat} {P : Program} {l : List Oper} {Q : Exit → Act → World → Prop} {a : Act} {w : World} (hQ : ¬ LetsOut Q) (hnd : noDeferR l = true) (h : wpList P l.toArray Q l a w) : (Code.region id l.toArray false).wpIn (Fence.wide.inRound lp) n P Q a w :=
  wpIn_region_lit (list_toRound hQ l hnd a w h)
/-- A region of a round that draws its order. -/
theorem start_r {n lp id m : Nat} {P : Program} {ops : List Oper} {Q : Exit → Act → World → Prop} {S : World → Prop} {ds : List Nat} {a : Act} {w : World} (l : Array Bool) (hQ : ¬ LetsOut Q) (hnd : noDeferR ops = true) (hm : P.follows .mixedOrders = true) (hn : ops.length = m) (hl : Array.replicate m false = l) (hS : S w.drew)
    (h : S w.drew → wpAnyLast P .any ops.toArray Q S ds m l a w.drew) : (Code.region id ops.toArray true).wpIn (Fence.wide.inRound lp) n P Q a w := by
  subst hn
  subst hl
  exact wpIn_region_any hm (wpAny_toRound hQ hnd _ _ _ _ (by have := wpAny_of_last _ _ _ _ (h hS); simpa using this))
end

section
open Go.Shelf
attribute [local go_sem] Oper.semAt_some
def rt_n (x : S33) : Int := wrap64 (x.f1 - x.f0)
set_option maxRecDepth 100000 in
set_option maxHeartbeats 8000000 in
theorem rt_sizes (n : Nat) (hn : 1 ≤ n) (lp Bl : Nat) (A0 : Option Addr) (c0 : Nat) (l0 : List S33) (w0 : World) (J Jx : List (Fin l0.length) → World → Prop) (W : World) (hJ : AbidesFrom W.heap.size J)
    (hY : ∀ pre x W1, J pre W1 → pre.length < l0.length + 1 → YieldAt Fence.wide (n - 1) Try.prog lp #[.int .i64 (x.val : Int), .int .i64 (rt_n l0[x])] W1 fun e W' =>
      (e = .returned (.bool true) ∧ J (pre ++ [x]) W' ∧ KpB w0.heap.size [] W1 W') ∨ (e = .returned (.bool false) ∧ Jx (pre ++ [x]) W'))
    (hBl : W.cell? ⟨Bl, 0, none⟩ = some (.slice A0 l0.length c0)) (hC : Kd.C k33 w0 A0 l0.length l0) (hB : Below w0.heap.size w0 W) (h0 : J [] W) :
    CallsIn Fence.wide n Try.prog 17 #[.func (.yield lp) #[] #[], .pointer (some ⟨Bl, 0, none⟩)] W fun e W' => (∃ v, e = .returned v) ∧
      ((∃ ys, ys = List.finRange l0.length ∧ J ys W') ∨ (∃ pre, True ∧ Jx pre W')) := by
  refine callsIn_of_wp Try.func17 rfl trivial ?_ rfl
  simp only [Try.ntmps17, List.size_toArray, List.length_cons, List.length_nil, Nat.reduceAdd, Nat.reduceSub, Array.replicate_succ, Array.replicate_zero, List.push_toArray, List.append_toArray, List.nil_append, List.cons_append]
  have hm : l0.length ≤ 9223372036854775807 := hC.2.1
  have HC := Lib.hid hC; clear hC
  have HY := Lib.hid hY; clear hY
  have HJ := Lib.hid hJ; clear hJ
  gi_wp2
  gi_loopw [7] (fun i wr => ∃ k : Nat, k ≤ l0.length ∧ i = .int .i64 k ∧ J ((List.finRange l0.length).take k) wr ∧ KpB w0.heap.size [] W wr ∧ W.heap.size ≤ wr.heap.size)
    (fun i _ => l0.length - (intOf i).toNat)
  case atStart => exact ⟨0, Nat.zero_le _, rfl, by rw [List.take_zero]; exact h0, KpB.refl _ _ _, Nat.le_refl _⟩
  case round =>
    obtain ⟨k, hk, rfl, hJs, hnx, hsz⟩ := hrel
    by_cases hlt : k < l0.length
    · have hbw : Below w0.heap.size w0 wr := hB.trans hnx.1
      obtain ⟨ad, had, hx0, hx1, hx2, hx3, hx4, hx5, hx6, hx7, hx8, hx9, hx10, hx11⟩ := at_T33 HC.out (k : Int) (by omega) (by omega)
      obtain rfl := had
      replace hx0 := (hbw.cell (World.block_lt_of_cell? w0 _ hx0)).trans hx0
      replace hx1 := (hbw.cell (World.block_lt_of_cell? w0 _ hx1)).trans hx1
      replace hx2 := (hbw.cell (World.block_lt_of_cell? w0 _ hx2)).trans hx2
      replace hx3 := (hbw.cell (World.block_lt_of_cell? w0 _ hx3)).trans hx3
      replace hx4 := (hbw.cell (World.block_lt_of_cell? w0 _ hx4)).trans hx4
      replace hx5 := (hbw.cell (World.block_lt_of_cell? w0 _ hx5)).trans hx5
      replace hx6 := (hbw.cell (World.block_lt_of_cell? w0 _ hx6)).trans hx6
      replace hx7 := (hbw.cell (World.block_lt_of_cell? w0 _ hx7)).trans hx7
      replace hx8 := (hbw.cell (World.block_lt_of_cell? w0 _ hx8)).trans hx8
      replace hx9 := (hbw.cell (World.block_lt_of_cell? w0 _ hx9)).trans hx9
      replace hx10 := (hbw.cell (World.block_lt_of_cell? w0 _ hx10)).trans hx10
      replace hx11 := (hbw.cell (World.block_lt_of_cell? w0 _ hx11)).trans hx11
      have hg : l0.getD k z33 = l0[k] := by rw [List.getD_eq_getElem?_getD, List.getElem?_eq_getElem hlt]; rfl
      have hrd : rd_T33 l0 (k : Int) = l0[k] := by rw [← hg]; rfl
      simp only [Int.toNat_natCast, hrd] at hx0 hx1 hx2 hx3 hx4 hx5 hx6 hx7 hx8 hx9 hx10 hx11
      have hps : (List.finRange l0.length).take (k + 1) = (List.finRange l0.length).take k ++ [⟨k, hlt⟩] := by
        rw [List.take_succ_eq_append_getElem (by simpa using hlt), List.getElem_finRange]; rfl
      have hy0 := HY.out ((List.finRange l0.length).take k) ⟨k, hlt⟩
      have hlen : ((List.finRange l0.length).take k).length < l0.length + 1 := by rw [List.length_take]; simp; omega
      have hn0 : rt_n l0[(⟨k, hlt⟩ : Fin l0.length)] = rt_n l0[k] := rfl
      rw [hn0] at hy0
      obtain ⟨x, hx⟩ : ∃ x, l0[k] = x := ⟨_, rfl⟩
      rw [hx] at hx0 hx1 hx2 hx3 hx4 hx5 hx6 hx7 hx8 hx9 hx10 hx11 hy0
      have HPS := Lib.hid hps; have HNX := Lib.hid hnx; have HJs := Lib.hid hJs; have HBW := Lib.hid hbw
      have hbx : Below wr.heap.size wr (wr.alloc (.cells #[.int .i64 x.f0, .int .i64 x.f1, .bool x.f2, .int .i64 x.f3, .int .i64 x.f4, .bool x.f5, .bool x.f6, .bool x.f7, .int .i64 x.f8, .int .i64 x.f9, .int .i64 x.f10, .bool x.f11] 33)) := (Below.refl _ wr).alloc (Nat.le_refl _) _
      have HBX := Lib.hid hbx
      obtain ⟨fn, tmps, assign, body, hy, hR⟩ := hy0 _ (abides_below HJ.out HJs.out HBX.out) hlen
      unfold rt_n at hy
      clear hg hrd hps hx hnx hJs hbw hbx hlen hn0 hy0
      have hlt' : (k : Int) < l0.length := by omega
      gi_wp2
      refine hR.mono ?_
      rintro e W3 (⟨rfl, hJ3, hk3⟩ | ⟨rfl, hJx3⟩)
      · have HJ3 := Lib.hid hJ3; have HK3 := Lib.hid hk3; clear hJ3 hk3
        gi_wp2
        go_roundw
        case rel => exact ⟨k + 1, by omega, by simp, by rw [HPS.out]; exact HJ3.out, (HNX.out.trans (KpB.of_below HBX.out (HBW.out.size))).trans HK3.out, Nat.le_trans (Nat.le_trans hsz HBX.out.size) HK3.out.1.size⟩
        case measure => simp [intOf]; omega
      · have HJX := Lib.hid hJx3; clear hJx3
        gi_wp2
        refine bodyPost_ret (results_none rfl _ _ _) rfl ?_
        exact ⟨⟨_, rfl⟩, .inr ⟨_, trivial, HJX.out⟩⟩
    · obtain rfl : k = l0.length := by omega
      have HJs := Lib.hid (show J (List.finRange l0.length) wr from by rw [List.take_of_length_le (by simp)] at hJs; exact hJs); clear hJs
      gi_wp2
      go_end0
      exact ⟨⟨_, rfl⟩, .inl ⟨_, rfl, HJs.out⟩⟩
end
theorem rt_sizes_call (A : Option Addr) (n c : Nat) (w : World) : Calls Try.prog 13 #[.slice A n c] w fun e w' => e = .returned (.func (.func 17) #[] #[.pointer (some ⟨w.heap.size, 0, none⟩)]) ∧ w.alloc (.cells #[.slice A n c] 24) = w' := by
  go_enter Try.func13, Try.ntmps13
  go_wp2
  go_ret
  exact ⟨rfl, rfl⟩
theorem rt_late (a : Int) (w : World) : Calls Try.prog 15 #[.int .i64 a] w fun e w' => e = .returned (.int .i64 (mn 1125899906842624 a)) ∧ w = w' := by
  go_enter Try.func15, Try.ntmps15
  go_wp2
  all_goals (go_ret; exact ⟨by (try unfold mn); (try simp_all) <;> (try omega), rfl⟩)
section
theorem rt_rnum : ((Try.prog).funcs[7]?).map (·.results) = some #[.cell 8 23, .cell 9 26, .cell 10 27] := by kernel_rfl
theorem rt_res (tmps : Array Value) (W : World) (b8 b9 b10 : Nat) (c8 c9 : Array Value) (e : Int) (h8 : tmps.getD 8 undef = .pointer (some ⟨b8, 0, none⟩)) (h9 : tmps.getD 9 undef = .pointer (some ⟨b9, 0, none⟩)) (h10 : tmps.getD 10 undef = .pointer (some ⟨b10, 0, none⟩))
    (k8 : W.heap[b8]? = some (.cells c8 23 (0, 0))) (k9 : W.heap[b9]? = some (.cells c9 26 (0, 0))) (k10 : W.heap[b10]? = some (.cells #[.int .i64 e] 27 (0, 0))) (s8 : c8.size = 4) (s9 : c9.size = 8) :
    (results Try.f7 tmps).run Try.prog W = .ok (.tuple #[.agg c8, .agg c9, .int .i64 e]) W := by
  have l8 := run_loadVar_row (P := Try.prog) W b8 23 23 c8 (0, 0) _ k8 Try.underlying23 rfl (by rw [s8]; kernel_rfl)
  have l9 := run_loadVar_row (P := Try.prog) W b9 26 26 c9 (0, 0) _ k9 Try.underlying26 rfl (by rw [s9]; kernel_rfl)
  have hc : W.cell? ⟨b10, 0, none⟩ = some (.int .i64 e) := (blk_cell k10 0).trans rfl
  have hf : W.frozen? ⟨b10, 0, none⟩ = false := blk_frozen k10 0
  have l10 : (loadVar 27 ⟨b10, 0, none⟩).run Try.prog W = .ok (.int .i64 e) W := by
    go_simp
  unfold results
  rw [show (Try.f7).results = [ResultVar.cell 8 23, .cell 9 26, .cell 10 27].toArray from rfl, List.mapM_toArray]
  simp only [Sem.run_bind, Sem.run_map, List.mapM_cons, List.mapM_nil]
  simp [h8, h9, h10, asAddr, l8, l9, l10]
end
def rt_Hold (p : Prop) : Prop := p
theorem rt_hold_of {p : Prop} (h : rt_Hold p) : p := h
theorem rt_hold_mk {p : Prop} (h : p) : rt_Hold p := h
theorem rt_two (W : World) (x y : Int) (t : TypeId) : Kd.C (Kd.int .i64) (W.alloc (.cells #[.int .i64 x, .int .i64 y] t)) (some ⟨W.heap.size, 0, none⟩) ([x, y] : List Int).length [x, y] := by
  have hb := blk_new W (.cells #[.int .i64 x, .int .i64 y] t)
  refine ⟨rfl, by simp, fun _ => ⟨_, rfl, fun j p hj => ⟨[.int .i64 p], rfl, rfl, fun i u hu => ?_⟩⟩⟩
  match i, hu with
  | 0, hu =>
    obtain rfl : Value.int .i64 p = u := by simpa using hu
    rw [Addr.add_lit]
    match j, hj with
    | 0, hj =>
      obtain rfl : x = p := by simpa using hj
      exact (blk_cell hb 0).trans rfl
    | 1, hj =>
      obtain rfl : y = p := by simpa using hj
      exact (blk_cell hb 1).trans rfl
def rt_tm (x : Int) : Bool := decide (0 ≤ x) && decide (x ≤ 1125899906842624)
theorem rt_tm_loop (l : List Int) (hl : l.length ≤ 1000) (d : Nat) : ∀ i : Nat, i + d = l.length → ∀ k, 2 * d + 1 ≤ k → rate_time.l0 k l (l.length : Int) (i : Int) = some ((l.drop i).all rt_tm) := by
  induction d with
  | zero =>
    intro i hi k hk
    obtain ⟨k, rfl⟩ : ∃ m, k = m + 1 := ⟨k - 1, by omega⟩
    rw [rate_time.l0, if_neg (by omega), List.drop_of_length_le (by omega)]; rfl
  | succ d ih =>
    intro i hi k hk
    obtain ⟨k, rfl⟩ : ∃ m, k = m + 1 := ⟨k - 1, by omega⟩
    have hlt : i < l.length := by omega
    have c1 : (i : Int) < (l.length : Int) := Int.ofNat_lt.2 hlt
    have e1 : rd l (i : Int) = l[i] := by rw [rd, Int.toNat_natCast, List.getD_eq_getElem?_getD, List.getElem?_eq_getElem hlt]; rfl
    have hw1 : wrap64 ((i : Int) + 1) = ((i + 1 : Nat) : Int) := by unfold wrap64; omega
    have ih := ih (i + 1) (by omega) k (by omega)
    rw [rate_time.l0, if_pos c1, if_pos (Int.natCast_nonneg i), if_pos c1, e1, hw1, ih, List.drop_eq_getElem_cons hlt, List.all_cons]
    unfold rt_tm
    by_cases h : l[i] < 0
    · rw [if_pos h, decide_eq_false (show ¬ 0 ≤ l[i] by omega)]; rfl
    · rw [if_neg h, decide_eq_true (show 0 ≤ l[i] by omega)]
      by_cases h2 : l[i] > 1125899906842624
      · rw [if_pos h2, decide_eq_false (show ¬ l[i] ≤ 1125899906842624 by omega)]; rfl
      · rw [if_neg h2, decide_eq_true (show l[i] ≤ 1125899906842624 by omega)]; rfl
theorem rt_time_f (l : List Int) (hl : l.length ≤ 4) : rate_time.f 9 l = some (l.all rt_tm) := by
  rw [rate_time.f]; exact (rt_tm_loop l (by omega) l.length 0 (by omega) 9 (by omega)).trans (by simp)
def rt_chk (q : S23) : Int := if [q.f0, q.f1, q.f2, q.f3].all rt_tm = true then 0 else 230
theorem rt_chk_f (q : S23) : rate_Check.f 9 q.f0 q.f1 q.f2 q.f3 = some (rt_chk q) := by
  rw [rate_Check.f, rt_time_f _ (by simp)]
  simp only [Option.bind_some]
  unfold rt_chk
  split <;> rfl
def rt_rec (x : S33) : Bool := decide (0 ≤ x.f0) && (decide (x.f0 ≤ x.f1) && (decide (wrap64 (x.f1 - x.f0) ≤ 1073741824) && [x.f8, x.f9, x.f10, x.f3].all rt_tm))
theorem rt_rec_f (x : S33) : rate_rec.f 9 x.f0 x.f1 x.f2 x.f3 x.f4 x.f5 x.f6 x.f7 x.f8 x.f9 x.f10 x.f11 = some (rt_rec x) := by
  rw [rate_rec.f, rt_time_f _ (by simp)]
  simp only [Option.bind_some]
  unfold rt_rec
  by_cases h0 : x.f0 ≥ 0
  · rw [if_pos h0, decide_eq_true (show 0 ≤ x.f0 from h0), Bool.true_and]
    by_cases h1 : x.f0 ≤ x.f1
    · rw [if_pos h1, decide_eq_true h1, Bool.true_and]
      by_cases h2 : wrap64 (x.f1 - x.f0) ≤ 1073741824
      · rw [if_pos h2, decide_eq_true h2, Bool.true_and]
      · rw [if_neg h2, decide_eq_false h2, Bool.false_and]
    · rw [if_neg h1, decide_eq_false h1, Bool.false_and]
  · rw [if_neg h0, decide_eq_false (show ¬ 0 ≤ x.f0 from h0), Bool.false_and]
def rt_step (l : List S33) (s : Int × Int × S33) (i : Fin l.length) : Int × Int × S33 :=
  (mn 1125899906842624 (wrap64 (s.1 + rt_n l[i])), mn 1125899906842624 (wrap64 (s.2.1 + rt_n l[i])), if i.val = 0 ∨ l[i].f8 ≥ s.2.2.f8 then l[i] else s.2.2)
def rt_fold (g : Int) (l : List S33) (pre : List (Fin l.length)) : Int × Int × S33 := pre.foldl (rt_step l) (g, 0, z33)
theorem rt_fold_snoc (g : Int) (l : List S33) (pre : List (Fin l.length)) (x : Fin l.length) : rt_fold g l (pre ++ [x]) = rt_step l (rt_fold g l pre) x := by simp [rt_fold]
def rt_t (x : S33) (now : Int) : Int := mx (wrap64 (x.f3 - x.f10)) (wrap64 (now - x.f9))
def rt_rate (g : Int) (x : S33) (now low : Int) : Option Int := if rt_t x now ≥ mx 1 low ∧ x.f8 < g then (seq_MulDiv.f 2 (wrap64 (g - x.f8)) 1000000 (rt_t x now)).bind fun r => some r.1 else some 0
def rt_rtt (x : S33) (now : Int) : Int := if x.f4 = 1 then mx 0 (wrap64 (now - x.f3)) else 0
/-- What lies in rate.Given's variables. -/
def RtB (w : World) (v : Value) (B : Nat) (cq c8 c9 c10 cs co : Array Value) (W : World) : Prop :=
  W.heap[w.heap.size]? = some (.cells cq 23 (0, 0)) ∧ W.heap[w.heap.size + 1]? = some (.cells #[v] 24 (0, 0)) ∧ W.heap[w.heap.size + 1 + 1]? = some (.cells c8 23 (0, 0)) ∧ W.heap[w.heap.size + 1 + 1 + 1]? = some (.cells c9 26 (0, 0)) ∧ W.heap[w.heap.size + 1 + 1 + 1 + 1]? = some (.cells c10 27 (0, 0)) ∧ W.heap[B]? = some (.cells cs 26 (0, 0)) ∧ W.heap[B + 1]? = some (.cells co 33 (0, 0)) ∧ w.heap.size + 1 + 1 + 1 + 1 < B ∧ Below w.heap.size w W
section
variable {w W W' : World} {v : Value} {B : Nat} {cq c8 c9 c10 cs co : Array Value}
theorem RtB.grown {row : Option Nat} (h : RtB w v B cq c8 c9 c10 cs co W) (hg : W.grownBy W' row) (hr : ∀ r, row = some r → w.heap.size ≤ r ∧ ∃ o : Obj, W.heap[r]? = some o ∧ o.isCells = false) : RtB w v B cq c8 c9 c10 cs co W' := by
  obtain ⟨h0, h1, h2, h3, h4, h5, h6, h7, h8⟩ := h
  have hr' := fun r e => (hr r e).2
  exact ⟨blk_own h0 hg hr', blk_own h1 hg hr', blk_own h2 hg hr', blk_own h3 hg hr', blk_own h4 hg hr', blk_own h5 hg hr', blk_own h6 hg hr', h7, h8.grown hg h8.size (fun k e => (hr k e).1)⟩
theorem RtB.below (h : RtB w v B cq c8 c9 c10 cs co W) (hb : Below W.heap.size W W') : RtB w v B cq c8 c9 c10 cs co W' := h.grown (grown_none hb) (fun r e => by cases e)
theorem RtB.cast {dq d8 d9 d10 ds dd : Array Value} (h : RtB w v B cq c8 c9 c10 cs co W) (e0 : cq = dq) (e1 : c8 = d8) (e2 : c9 = d9) (e3 : c10 = d10) (e4 : cs = ds) (e5 : co = dd) : RtB w v B dq d8 d9 d10 ds dd W := by subst e0; subst e1; subst e2; subst e3; subst e4; subst e5; exact h
theorem RtB.set_q (h : RtB w v B cq c8 c9 c10 cs co W) (j : Nat) (u : Value) : RtB w v B (cq.setIfInBounds j u) c8 c9 c10 cs co (W.setCell ⟨w.heap.size, j, none⟩ u) := by
  obtain ⟨h0, h1, h2, h3, h4, h5, h6, h7, h8⟩ := h
  exact ⟨blk_set h0 j u, blk_far h1 (p := ⟨w.heap.size, j, none⟩) (by show w.heap.size + 1 ≠ w.heap.size; omega) u, blk_far h2 (p := ⟨w.heap.size, j, none⟩) (by show w.heap.size + 1 + 1 ≠ w.heap.size; omega) u, blk_far h3 (p := ⟨w.heap.size, j, none⟩) (by show w.heap.size + 1 + 1 + 1 ≠ w.heap.size; omega) u, blk_far h4 (p := ⟨w.heap.size, j, none⟩) (by show w.heap.size + 1 + 1 + 1 + 1 ≠ w.heap.size; omega) u, blk_far h5 (p := ⟨w.heap.size, j, none⟩) (by show B ≠ w.heap.size; omega) u, blk_far h6 (p := ⟨w.heap.size, j, none⟩) (by show B + 1 ≠ w.heap.size; omega) u, h7, h8.setCell (p := ⟨w.heap.size, j, none⟩) (by show w.heap.size ≤ w.heap.size; omega) _⟩
theorem RtB.set_r8 (h : RtB w v B cq c8 c9 c10 cs co W) (j : Nat) (u : Value) : RtB w v B cq (c8.setIfInBounds j u) c9 c10 cs co (W.setCell ⟨w.heap.size + 1 + 1, j, none⟩ u) := by
  obtain ⟨h0, h1, h2, h3, h4, h5, h6, h7, h8⟩ := h
  exact ⟨blk_far h0 (p := ⟨w.heap.size + 1 + 1, j, none⟩) (by show w.heap.size ≠ w.heap.size + 1 + 1; omega) u, blk_far h1 (p := ⟨w.heap.size + 1 + 1, j, none⟩) (by show w.heap.size + 1 ≠ w.heap.size + 1 + 1; omega) u, blk_set h2 j u, blk_far h3 (p := ⟨w.heap.size + 1 + 1, j, none⟩) (by show w.heap.size + 1 + 1 + 1 ≠ w.heap.size + 1 + 1; omega) u, blk_far h4 (p := ⟨w.heap.size + 1 + 1, j, none⟩) (by show w.heap.size + 1 + 1 + 1 + 1 ≠ w.heap.size + 1 + 1; omega) u, blk_far h5 (p := ⟨w.heap.size + 1 + 1, j, none⟩) (by show B ≠ w.heap.size + 1 + 1; omega) u, blk_far h6 (p := ⟨w.heap.size + 1 + 1, j, none⟩) (by show B + 1 ≠ w.heap.size + 1 + 1; omega) u, h7, h8.setCell (p := ⟨w.heap.size + 1 + 1, j, none⟩) (by show w.heap.size ≤ w.heap.size + 1 + 1; omega) _⟩
theorem RtB.set_r9 (h : RtB w v B cq c8 c9 c10 cs co W) (j : Nat) (u : Value) : RtB w v B cq c8 (c9.setIfInBounds j u) c10 cs co (W.setCell ⟨w.heap.size + 1 + 1 + 1, j, none⟩ u) := by
  obtain ⟨h0, h1, h2, h3, h4, h5, h6, h7, h8⟩ := h
  exact ⟨blk_far h0 (p := ⟨w.heap.size + 1 + 1 + 1, j, none⟩) (by show w.heap.size ≠ w.heap.size + 1 + 1 + 1; omega) u, blk_far h1 (p := ⟨w.heap.size + 1 + 1 + 1, j, none⟩) (by show w.heap.size + 1 ≠ w.heap.size + 1 + 1 + 1; omega) u, blk_far h2 (p := ⟨w.heap.size + 1 + 1 + 1, j, none⟩) (by show w.heap.size + 1 + 1 ≠ w.heap.size + 1 + 1 + 1; omega) u, blk_set h3 j u, blk_far h4 (p := ⟨w.heap.size + 1 + 1 + 1, j, none⟩) (by show w.heap.size + 1 + 1 + 1 + 1 ≠ w.heap.size + 1 + 1 + 1; omega) u, blk_far h5 (p := ⟨w.heap.size + 1 + 1 + 1, j, none⟩) (by show B ≠ w.heap.size + 1 + 1 + 1; omega) u, blk_far h6 (p := ⟨w.heap.size + 1 + 1 + 1, j, none⟩) (by show B + 1 ≠ w.heap.size + 1 + 1 + 1; omega) u, h7, h8.setCell (p := ⟨w.heap.size + 1 + 1 + 1, j, none⟩) (by show w.heap.size ≤ w.heap.size + 1 + 1 + 1; omega) _⟩
theorem RtB.set_r10 (h : RtB w v B cq c8 c9 c10 cs co W) (j : Nat) (u : Value) : RtB w v B cq c8 c9 (c10.setIfInBounds j u) cs co (W.setCell ⟨w.heap.size + 1 + 1 + 1 + 1, j, none⟩ u) := by
  obtain ⟨h0, h1, h2, h3, h4, h5, h6, h7, h8⟩ := h
  exact ⟨blk_far h0 (p := ⟨w.heap.size + 1 + 1 + 1 + 1, j, none⟩) (by show w.heap.size ≠ w.heap.size + 1 + 1 + 1 + 1; omega) u, blk_far h1 (p := ⟨w.heap.size + 1 + 1 + 1 + 1, j, none⟩) (by show w.heap.size + 1 ≠ w.heap.size + 1 + 1 + 1 + 1; omega) u, blk_far h2 (p := ⟨w.heap.size + 1 + 1 + 1 + 1, j, none⟩) (by show w.heap.size + 1 + 1 ≠ w.heap.size + 1 + 1 + 1 + 1; omega) u, blk_far h3 (p := ⟨w.heap.size + 1 + 1 + 1 + 1, j, none⟩) (by show w.heap.size + 1 + 1 + 1 ≠ w.heap.size + 1 + 1 + 1 + 1; omega) u, blk_set h4 j u, blk_far h5 (p := ⟨w.heap.size + 1 + 1 + 1 + 1, j, none⟩) (by show B ≠ w.heap.size + 1 + 1 + 1 + 1; omega) u, blk_far h6 (p := ⟨w.heap.size + 1 + 1 + 1 + 1, j, none⟩) (by show B + 1 ≠ w.heap.size + 1 + 1 + 1 + 1; omega) u, h7, h8.setCell (p := ⟨w.heap.size + 1 + 1 + 1 + 1, j, none⟩) (by show w.heap.size ≤ w.heap.size + 1 + 1 + 1 + 1; omega) _⟩
theorem RtB.set_s (h : RtB w v B cq c8 c9 c10 cs co W) (j : Nat) (u : Value) : RtB w v B cq c8 c9 c10 (cs.setIfInBounds j u) co (W.setCell ⟨B, j, none⟩ u) := by
  obtain ⟨h0, h1, h2, h3, h4, h5, h6, h7, h8⟩ := h
  exact ⟨blk_far h0 (p := ⟨B, j, none⟩) (by show w.heap.size ≠ B; omega) u, blk_far h1 (p := ⟨B, j, none⟩) (by show w.heap.size + 1 ≠ B; omega) u, blk_far h2 (p := ⟨B, j, none⟩) (by show w.heap.size + 1 + 1 ≠ B; omega) u, blk_far h3 (p := ⟨B, j, none⟩) (by show w.heap.size + 1 + 1 + 1 ≠ B; omega) u, blk_far h4 (p := ⟨B, j, none⟩) (by show w.heap.size + 1 + 1 + 1 + 1 ≠ B; omega) u, blk_set h5 j u, blk_far h6 (p := ⟨B, j, none⟩) (by show B + 1 ≠ B; omega) u, h7, h8.setCell (p := ⟨B, j, none⟩) (by show w.heap.size ≤ B; omega) _⟩
theorem RtB.set_o (h : RtB w v B cq c8 c9 c10 cs co W) (j : Nat) (u : Value) : RtB w v B cq c8 c9 c10 cs (co.setIfInBounds j u) (W.setCell ⟨B + 1, j, none⟩ u) := by
  obtain ⟨h0, h1, h2, h3, h4, h5, h6, h7, h8⟩ := h
  exact ⟨blk_far h0 (p := ⟨B + 1, j, none⟩) (by show w.heap.size ≠ B + 1; omega) u, blk_far h1 (p := ⟨B + 1, j, none⟩) (by show w.heap.size + 1 ≠ B + 1; omega) u, blk_far h2 (p := ⟨B + 1, j, none⟩) (by show w.heap.size + 1 + 1 ≠ B + 1; omega) u, blk_far h3 (p := ⟨B + 1, j, none⟩) (by show w.heap.size + 1 + 1 + 1 ≠ B + 1; omega) u, blk_far h4 (p := ⟨B + 1, j, none⟩) (by show w.heap.size + 1 + 1 + 1 + 1 ≠ B + 1; omega) u, blk_far h5 (p := ⟨B + 1, j, none⟩) (by show B ≠ B + 1; omega) u, blk_set h6 j u, h7, h8.setCell (p := ⟨B + 1, j, none⟩) (by show w.heap.size ≤ B + 1; omega) _⟩
end
def rate_Given_.x : Nat := 0
def rate_Given.f (a0_0 : Int) (a0_1 : Int) (a0_2 : Int) (a0_3 : Int) (l1 : List S33) (a2 : Int) (a3 : Int) : Option (Int × Int × Int × Int × Int × Int × Int × Int × Bool × Int × Int × Int × Int) :=
  if rt_chk (⟨a0_0, a0_1, a0_2, a0_3⟩ : S23) = 0 then (if [a2, a3].all rt_tm = true then (if l1.all rt_rec = true then (if l1.length = 0 then some ((rt_fold a0_0 l1 (List.finRange l1.length)).1, a0_1, a0_2, a0_3, a2, (rt_fold a0_0 l1 (List.finRange l1.length)).2.1, 0, 0, false, (rt_fold a0_0 l1 (List.finRange l1.length)).1, 0, 0, 0) else (rt_rate (rt_fold a0_0 l1 (List.finRange l1.length)).1 (rt_fold a0_0 l1 (List.finRange l1.length)).2.2 a2 a3).bind fun r => some ((rt_fold a0_0 l1 (List.finRange l1.length)).1, a2, (rt_fold a0_0 l1 (List.finRange l1.length)).2.2.f3, (if a0_3 < (rt_fold a0_0 l1 (List.finRange l1.length)).1 then 0 else a0_3), a2, (rt_fold a0_0 l1 (List.finRange l1.length)).2.1, rt_rtt (rt_fold a0_0 l1 (List.finRange l1.length)).2.2 a2, r, (rt_fold a0_0 l1 (List.finRange l1.length)).2.2.f11, (rt_fold a0_0 l1 (List.finRange l1.length)).1, (rt_fold a0_0 l1 (List.finRange l1.length)).2.2.f8, 0, 0)) else some (0, 0, 0, 0, 0, 0, 0, 0, false, 0, 0, 0, 2)) else some (0, 0, 0, 0, 0, 0, 0, 0, false, 0, 0, 0, 2)) else some (0, 0, 0, 0, 0, 0, 0, 0, false, 0, 0, 0, rt_chk (⟨a0_0, a0_1, a0_2, a0_3⟩ : S23))
theorem RtB.drew {w W : World} {v : Value} {B : Nat} {cq c8 c9 c10 cs co : Array Value} (h : RtB w v B cq c8 c9 c10 cs co W) : RtB w v B cq c8 c9 c10 cs co W.drew := h.below (below_drew1 (Below.refl _ _))
theorem rt_then {K : Act → World → Prop} {Q : Exit → Act → World → Prop} {a : Act} {W : World} (h : ∀ W', W = W' → Exit.then K Q .normal a W') : Exit.then K Q .normal a W := h W rfl
theorem rt_wpg {P : Program} {c : Code} {Q : Exit → Act → World → Prop} {a : Act} {W : World} (h : ∀ W', W = W' → Code.wp P c Q a W') : Code.wp P c Q a W := h W rfl
theorem rt_wpi {F : Fence} {n : Nat} {P : Program} {c : Code} {Q : Exit → Act → World → Prop} {a : Act} {W : World} (h : ∀ W', W = W' → Code.wpIn F n P c Q a W') : Code.wpIn F n P c Q a W := h W rfl
theorem rt_hbelow {W W' : World} {D : Nat} {o : Obj} (hb : Below W.heap.size W W') (h : W.heap[D]? = some o) : W'.heap[D]? = some o := (hb.block D (Array.getElem?_eq_some_iff.1 h).1).trans h
theorem rt_max (ats : Array TypeId) (ty : TypeId) (a b : Int) : Builtin.max_ ats ty #[.int .i64 a, .int .i64 b] = pure (Value.int .i64 (mx a b)) := by
  simp only [Builtin.max_, List.foldlM_cons, List.foldlM_nil]
  unfold Builtin.max2 mx
  simp
theorem rt_hdrew {W : World} {D : Nat} {o : Option Obj} (h : W.heap[D]? = o) : W.drew.heap[D]? = o := h
theorem rt_dec (p : Prop) [Decidable p] : decide p = true ∧ p ∨ decide p = false ∧ ¬ p := by by_cases h : p <;> simp [h]
theorem rt_five (w : World) (o0 o1 o2 o3 o4 : Obj) : let W := ((((w.alloc o0).alloc o1).alloc o2).alloc o3).alloc o4; W.heap[w.heap.size]? = some o0 ∧ W.heap[w.heap.size + 1]? = some o1 ∧ W.heap[w.heap.size + 1 + 1]? = some o2 ∧ W.heap[w.heap.size + 1 + 1 + 1]? = some o3 ∧ W.heap[w.heap.size + 1 + 1 + 1 + 1]? = some o4 ∧ W.heap.size = w.heap.size + 1 + 1 + 1 + 1 + 1 ∧ Below w.heap.size w W := by
  intro W
  have s1 : (w.alloc o0).heap.size = w.heap.size + 1 := World.size_alloc _ _
  have s2 : ((w.alloc o0).alloc o1).heap.size = w.heap.size + 1 + 1 := by rw [World.size_alloc, s1]
  have s3 : (((w.alloc o0).alloc o1).alloc o2).heap.size = w.heap.size + 1 + 1 + 1 := by rw [World.size_alloc, s2]
  have s4 : ((((w.alloc o0).alloc o1).alloc o2).alloc o3).heap.size = w.heap.size + 1 + 1 + 1 + 1 := by rw [World.size_alloc, s3]
  refine ⟨blk_alloc (blk_alloc (blk_alloc (blk_alloc (blk_new w _) _) _) _) _, blk_alloc (blk_alloc (blk_alloc ?_ _) _) _, blk_alloc (blk_alloc ?_ _) _, blk_alloc ?_ _, ?_, by rw [World.size_alloc, s4], below_alloc (below_alloc (below_alloc (below_alloc (below_alloc (Below.refl _ _) _) _) _) _) _⟩
  · have h := blk_new (w.alloc o0) o1; rwa [s1] at h
  · have h := blk_new ((w.alloc o0).alloc o1) o2; rwa [s2] at h
  · have h := blk_new (((w.alloc o0).alloc o1).alloc o2) o3; rwa [s3] at h
  · have h := blk_new ((((w.alloc o0).alloc o1).alloc o2).alloc o3) o4; rwa [s4] at h
/-- The five boxes that rate.Given begins with. -/
def RtA (w : World) (q : S23) (v : Value) (c8 c9 c10 : Array Value) (W : World) : Prop := W.heap[w.heap.size]? = some (.cells #[.int .i64 q.f0, .int .i64 q.f1, .int .i64 q.f2, .int .i64 q.f3] 23 (0, 0)) ∧ W.heap[w.heap.size + 1]? = some (.cells #[v] 24 (0, 0)) ∧ W.heap[w.heap.size + 1 + 1]? = some (.cells c8 23 (0, 0)) ∧ W.heap[w.heap.size + 1 + 1 + 1]? = some (.cells c9 26 (0, 0)) ∧ W.heap[w.heap.size + 1 + 1 + 1 + 1]? = some (.cells c10 27 (0, 0)) ∧ Below w.heap.size w W
theorem RtA.below {w W W' : World} {q : S23} {v : Value} {c8 c9 c10 : Array Value} (h : RtA w q v c8 c9 c10 W) (hb : Below W.heap.size W W') : RtA w q v c8 c9 c10 W' :=
  ⟨blk_below h.1 hb, blk_below h.2.1 hb, blk_below h.2.2.1 hb, blk_below h.2.2.2.1 hb, blk_below h.2.2.2.2.1 hb, below_step h.2.2.2.2.2 hb⟩
theorem RtA.cast {w W : World} {q : S23} {v : Value} {c8 c9 c10 d8 d9 d10 : Array Value} (h : RtA w q v c8 c9 c10 W) (e1 : c8 = d8) (e2 : c9 = d9) (e3 : c10 = d10) : RtA w q v d8 d9 d10 W := by subst e1; subst e2; subst e3; exact h
theorem RtA.set_r8 {w W : World} {q : S23} {v : Value} {c8 c9 c10 : Array Value} (h : RtA w q v c8 c9 c10 W) (j : Nat) (u : Value) : RtA w q v (c8.setIfInBounds j u) c9 c10 (W.setCell ⟨w.heap.size + 1 + 1, j, none⟩ u) := by
  obtain ⟨h0, h1, h2, h3, h4, h8⟩ := h
  exact ⟨blk_far h0 (p := ⟨w.heap.size + 1 + 1, j, none⟩) (by show w.heap.size ≠ w.heap.size + 1 + 1; omega) u, blk_far h1 (p := ⟨w.heap.size + 1 + 1, j, none⟩) (by show w.heap.size + 1 ≠ w.heap.size + 1 + 1; omega) u, blk_set h2 j u, blk_far h3 (p := ⟨w.heap.size + 1 + 1, j, none⟩) (by show w.heap.size + 1 + 1 + 1 ≠ w.heap.size + 1 + 1; omega) u, blk_far h4 (p := ⟨w.heap.size + 1 + 1, j, none⟩) (by show w.heap.size + 1 + 1 + 1 + 1 ≠ w.heap.size + 1 + 1; omega) u, h8.setCell (p := ⟨w.heap.size + 1 + 1, j, none⟩) (by show w.heap.size ≤ w.heap.size + 1 + 1; omega) _⟩
theorem RtA.set_r9 {w W : World} {q : S23} {v : Value} {c8 c9 c10 : Array Value} (h : RtA w q v c8 c9 c10 W) (j : Nat) (u : Value) : RtA w q v c8 (c9.setIfInBounds j u) c10 (W.setCell ⟨w.heap.size + 1 + 1 + 1, j, none⟩ u) := by
  obtain ⟨h0, h1, h2, h3, h4, h8⟩ := h
  exact ⟨blk_far h0 (p := ⟨w.heap.size + 1 + 1 + 1, j, none⟩) (by show w.heap.size ≠ w.heap.size + 1 + 1 + 1; omega) u, blk_far h1 (p := ⟨w.heap.size + 1 + 1 + 1, j, none⟩) (by show w.heap.size + 1 ≠ w.heap.size + 1 + 1 + 1; omega) u, blk_far h2 (p := ⟨w.heap.size + 1 + 1 + 1, j, none⟩) (by show w.heap.size + 1 + 1 ≠ w.heap.size + 1 + 1 + 1; omega) u, blk_set h3 j u, blk_far h4 (p := ⟨w.heap.size + 1 + 1 + 1, j, none⟩) (by show w.heap.size + 1 + 1 + 1 + 1 ≠ w.heap.size + 1 + 1 + 1; omega) u, h8.setCell (p := ⟨w.heap.size + 1 + 1 + 1, j, none⟩) (by show w.heap.size ≤ w.heap.size + 1 + 1 + 1; omega) _⟩
theorem RtA.set_r10 {w W : World} {q : S23} {v : Value} {c8 c9 c10 : Array Value} (h : RtA w q v c8 c9 c10 W) (j : Nat) (u : Value) : RtA w q v c8 c9 (c10.setIfInBounds j u) (W.setCell ⟨w.heap.size + 1 + 1 + 1 + 1, j, none⟩ u) := by
  obtain ⟨h0, h1, h2, h3, h4, h8⟩ := h
  exact ⟨blk_far h0 (p := ⟨w.heap.size + 1 + 1 + 1 + 1, j, none⟩) (by show w.heap.size ≠ w.heap.size + 1 + 1 + 1 + 1; omega) u, blk_far h1 (p := ⟨w.heap.size + 1 + 1 + 1 + 1, j, none⟩) (by show w.heap.size + 1 ≠ w.heap.size + 1 + 1 + 1 + 1; omega) u, blk_far h2 (p := ⟨w.heap.size + 1 + 1 + 1 + 1, j, none⟩) (by show w.heap.size + 1 + 1 ≠ w.heap.size + 1 + 1 + 1 + 1; omega) u, blk_far h3 (p := ⟨w.heap.size + 1 + 1 + 1 + 1, j, none⟩) (by show w.heap.size + 1 + 1 + 1 ≠ w.heap.size + 1 + 1 + 1 + 1; omega) u, blk_set h4 j u, h8.setCell (p := ⟨w.heap.size + 1 + 1 + 1 + 1, j, none⟩) (by show w.heap.size ≤ w.heap.size + 1 + 1 + 1 + 1; omega) _⟩
theorem rt_done {w W : World} {q : S23} {v : Value} {c8 c9 : Array Value} {e : Int} {tmps : Array Value} (h : RtA w q v c8 c9 #[.int .i64 e] W) (h8 : tmps.getD 8 undef = .pointer (some ⟨w.heap.size + 1 + 1, 0, none⟩)) (h9 : tmps.getD 9 undef = .pointer (some ⟨w.heap.size + 1 + 1 + 1, 0, none⟩)) (h10 : tmps.getD 10 undef = .pointer (some ⟨w.heap.size + 1 + 1 + 1 + 1, 0, none⟩)) (s8 : c8.size = 4) (s9 : c9.size = 8) :
    bodyPost Try.prog Try.f7 (fun e' w' => e' = .returned (.tuple #[.agg c8, .agg c9, .int .i64 e]) ∧ Below w.heap.size w w') .ret ⟨tmps, []⟩ W :=
  bodyPost_ret (rt_res _ _ _ _ _ _ _ _ h8 h9 h10 h.2.2.1 h.2.2.2.1 h.2.2.2.2.1 s8 s9) rfl ⟨rfl, h.2.2.2.2.2⟩

set_option maxRecDepth 100000 in
set_option maxHeartbeats 1000000 in
theorem rt_err1 (a0_0 : Int) (a0_1 : Int) (a0_2 : Int) (a0_3 : Int)
    (A1 : Option Addr) (c1 : Nat) (l1 : List S33) (a2 : Int) (a3 : Int) (w : World) (hr1 : Kd.C k33 w A1 l1.length l1) (hc : rt_chk (⟨a0_0, a0_1, a0_2, a0_3⟩ : S23) ≠ 0) :
    Calls Try.prog 7 #[.agg #[.int .i64 a0_0, .int .i64 a0_1, .int .i64 a0_2, .int .i64 a0_3], .slice A1 l1.length c1, .int .i64 a2, .int .i64 a3] w fun e w' => e = .returned (.tuple #[.agg #[.int .i64 0, .int .i64 0, .int .i64 0, .int .i64 0], .agg #[.int .i64 0, .int .i64 0, .int .i64 0, .int .i64 0, .bool false, .int .i64 0, .int .i64 0, .int .i64 0], .int .i64 (rt_chk (⟨a0_0, a0_1, a0_2, a0_3⟩ : S23))]) ∧ Below w.heap.size w w' := by
  have HE := Lib.hid (rt_chk_f (⟨a0_0, a0_1, a0_2, a0_3⟩ : S23))
  obtain ⟨ec, hec⟩ : ∃ ec, rt_chk (⟨a0_0, a0_1, a0_2, a0_3⟩ : S23) = ec := ⟨_, rfl⟩
  rw [hec] at HE hc ⊢
  have q0 : (ec != 0) = true := bne_iff_ne.mpr hc
  clear hr1 hec hc
  have h5 := rt_five w (.cells #[.int .i64 a0_0, .int .i64 a0_1, .int .i64 a0_2, .int .i64 a0_3] 23) (.cells #[.slice A1 l1.length c1] 24) (.cells #[.int .i64 0, .int .i64 0, .int .i64 0, .int .i64 0] 23) (.cells #[.int .i64 0, .int .i64 0, .int .i64 0, .int .i64 0, .bool false, .int .i64 0, .int .i64 0, .int .i64 0] 26) (.cells #[.int .i64 0] 27)
  have HA := Lib.hid (show RtA w (⟨a0_0, a0_1, a0_2, a0_3⟩ : S23) (.slice A1 l1.length c1) #[.int .i64 0, .int .i64 0, .int .i64 0, .int .i64 0] #[.int .i64 0, .int .i64 0, .int .i64 0, .int .i64 0, .bool false, .int .i64 0, .int .i64 0, .int .i64 0] #[.int .i64 0] _ from ⟨h5.1, h5.2.1, h5.2.2.1, h5.2.2.2.1, h5.2.2.2.2.1, h5.2.2.2.2.2.2⟩)
  clear h5
  go_enter Try.func7, Try.ntmps7
  go_wp2_with (go_at_call 11; refine (rate_Check.calls 9 a0_0 a0_1 a0_2 a0_3 ec _ HE.out).mono ?_; rintro e W1 ⟨rfl, hb⟩; have HA1 := Lib.hid (HA.out.below hb); clear hb; have z8_0 : W1.cell? ⟨w.heap.size + 1 + 1, 0, none⟩ = some (.int .i64 0) := (blk_cell HA1.out.2.2.1 0).trans rfl; have y8_0 : W1.frozen? ⟨w.heap.size + 1 + 1, 0, none⟩ = false := blk_frozen HA1.out.2.2.1 0; have z8_1 : W1.cell? ⟨w.heap.size + 1 + 1, 1, none⟩ = some (.int .i64 0) := (blk_cell HA1.out.2.2.1 1).trans rfl; have y8_1 : W1.frozen? ⟨w.heap.size + 1 + 1, 1, none⟩ = false := blk_frozen HA1.out.2.2.1 1; have z8_2 : W1.cell? ⟨w.heap.size + 1 + 1, 2, none⟩ = some (.int .i64 0) := (blk_cell HA1.out.2.2.1 2).trans rfl; have y8_2 : W1.frozen? ⟨w.heap.size + 1 + 1, 2, none⟩ = false := blk_frozen HA1.out.2.2.1 2; have z8_3 : W1.cell? ⟨w.heap.size + 1 + 1, 3, none⟩ = some (.int .i64 0) := (blk_cell HA1.out.2.2.1 3).trans rfl; have y8_3 : W1.frozen? ⟨w.heap.size + 1 + 1, 3, none⟩ = false := blk_frozen HA1.out.2.2.1 3; have z9_0 : W1.cell? ⟨w.heap.size + 1 + 1 + 1, 0, none⟩ = some (.int .i64 0) := (blk_cell HA1.out.2.2.2.1 0).trans rfl; have y9_0 : W1.frozen? ⟨w.heap.size + 1 + 1 + 1, 0, none⟩ = false := blk_frozen HA1.out.2.2.2.1 0; have z9_1 : W1.cell? ⟨w.heap.size + 1 + 1 + 1, 1, none⟩ = some (.int .i64 0) := (blk_cell HA1.out.2.2.2.1 1).trans rfl; have y9_1 : W1.frozen? ⟨w.heap.size + 1 + 1 + 1, 1, none⟩ = false := blk_frozen HA1.out.2.2.2.1 1; have z9_2 : W1.cell? ⟨w.heap.size + 1 + 1 + 1, 2, none⟩ = some (.int .i64 0) := (blk_cell HA1.out.2.2.2.1 2).trans rfl; have y9_2 : W1.frozen? ⟨w.heap.size + 1 + 1 + 1, 2, none⟩ = false := blk_frozen HA1.out.2.2.2.1 2; have z9_3 : W1.cell? ⟨w.heap.size + 1 + 1 + 1, 3, none⟩ = some (.int .i64 0) := (blk_cell HA1.out.2.2.2.1 3).trans rfl; have y9_3 : W1.frozen? ⟨w.heap.size + 1 + 1 + 1, 3, none⟩ = false := blk_frozen HA1.out.2.2.2.1 3; have z9_4 : W1.cell? ⟨w.heap.size + 1 + 1 + 1, 4, none⟩ = some (.bool false) := (blk_cell HA1.out.2.2.2.1 4).trans rfl; have y9_4 : W1.frozen? ⟨w.heap.size + 1 + 1 + 1, 4, none⟩ = false := blk_frozen HA1.out.2.2.2.1 4; have z9_5 : W1.cell? ⟨w.heap.size + 1 + 1 + 1, 5, none⟩ = some (.int .i64 0) := (blk_cell HA1.out.2.2.2.1 5).trans rfl; have y9_5 : W1.frozen? ⟨w.heap.size + 1 + 1 + 1, 5, none⟩ = false := blk_frozen HA1.out.2.2.2.1 5; have z9_6 : W1.cell? ⟨w.heap.size + 1 + 1 + 1, 6, none⟩ = some (.int .i64 0) := (blk_cell HA1.out.2.2.2.1 6).trans rfl; have y9_6 : W1.frozen? ⟨w.heap.size + 1 + 1 + 1, 6, none⟩ = false := blk_frozen HA1.out.2.2.2.1 6; have z9_7 : W1.cell? ⟨w.heap.size + 1 + 1 + 1, 7, none⟩ = some (.int .i64 0) := (blk_cell HA1.out.2.2.2.1 7).trans rfl; have y9_7 : W1.frozen? ⟨w.heap.size + 1 + 1 + 1, 7, none⟩ = false := blk_frozen HA1.out.2.2.2.1 7; have z10_0 : W1.cell? ⟨w.heap.size + 1 + 1 + 1 + 1, 0, none⟩ = some (.int .i64 0) := (blk_cell HA1.out.2.2.2.2.1 0).trans rfl; have y10_0 : W1.frozen? ⟨w.heap.size + 1 + 1 + 1 + 1, 0, none⟩ = false := blk_frozen HA1.out.2.2.2.2.1 0)
  exact rt_done (q := (⟨a0_0, a0_1, a0_2, a0_3⟩ : S23)) (v := .slice A1 l1.length c1) (RtA.cast (by repeat (first | with_reducible exact HA1.out | with_reducible apply RtA.set_r8 | with_reducible apply RtA.set_r9 | with_reducible apply RtA.set_r10)) (by rfl) (by rfl) (by rfl)) rfl rfl rfl (by rfl) (by rfl)
set_option maxRecDepth 100000 in
set_option maxHeartbeats 1000000 in
theorem rt_err2 (a0_0 : Int) (a0_1 : Int) (a0_2 : Int) (a0_3 : Int)
    (A1 : Option Addr) (c1 : Nat) (l1 : List S33) (a2 : Int) (a3 : Int) (w : World) (hr1 : Kd.C k33 w A1 l1.length l1) (hc : rt_chk (⟨a0_0, a0_1, a0_2, a0_3⟩ : S23) = 0) (ht : [a2, a3].all rt_tm = false) :
    Calls Try.prog 7 #[.agg #[.int .i64 a0_0, .int .i64 a0_1, .int .i64 a0_2, .int .i64 a0_3], .slice A1 l1.length c1, .int .i64 a2, .int .i64 a3] w fun e w' => e = .returned (.tuple #[.agg #[.int .i64 0, .int .i64 0, .int .i64 0, .int .i64 0], .agg #[.int .i64 0, .int .i64 0, .int .i64 0, .int .i64 0, .bool false, .int .i64 0, .int .i64 0, .int .i64 0], .int .i64 2]) ∧ Below w.heap.size w w' := by
  have HE := Lib.hid ((rt_chk_f (⟨a0_0, a0_1, a0_2, a0_3⟩ : S23)).trans (congrArg some hc))
  have HT := Lib.hid ((rt_time_f [a2, a3] (by simp)).trans (congrArg some ht))
  clear hr1 hc ht
  have h5 := rt_five w (.cells #[.int .i64 a0_0, .int .i64 a0_1, .int .i64 a0_2, .int .i64 a0_3] 23) (.cells #[.slice A1 l1.length c1] 24) (.cells #[.int .i64 0, .int .i64 0, .int .i64 0, .int .i64 0] 23) (.cells #[.int .i64 0, .int .i64 0, .int .i64 0, .int .i64 0, .bool false, .int .i64 0, .int .i64 0, .int .i64 0] 26) (.cells #[.int .i64 0] 27)
  have HA := Lib.hid (show RtA w (⟨a0_0, a0_1, a0_2, a0_3⟩ : S23) (.slice A1 l1.length c1) #[.int .i64 0, .int .i64 0, .int .i64 0, .int .i64 0] #[.int .i64 0, .int .i64 0, .int .i64 0, .int .i64 0, .bool false, .int .i64 0, .int .i64 0, .int .i64 0] #[.int .i64 0] _ from ⟨h5.1, h5.2.1, h5.2.2.1, h5.2.2.2.1, h5.2.2.2.2.1, h5.2.2.2.2.2.2⟩)
  clear h5
  go_enter Try.func7, Try.ntmps7
  go_wp2_with (first | (go_at_call 11; refine (rate_Check.calls 9 a0_0 a0_1 a0_2 a0_3 0 _ HE.out).mono ?_; rintro e W1 ⟨rfl, hb⟩; have HA1 := Lib.hid (HA.out.below hb); clear hb) | (go_at_call 12; refine (rate_time.calls 9 _ _ [a2, a3] false _ (rt_two _ _ _ _) (by simp) HT.out).mono ?_; rintro e W2 ⟨rfl, ⟨nd, hnd⟩⟩; have HA2 := Lib.hid (RtA.below (W' := W2) HA1.out (by rw [hnd]; exact pw_below_drewN (below_alloc (Below.refl _ _) _) _)); clear hnd; have z8_0 : W2.cell? ⟨w.heap.size + 1 + 1, 0, none⟩ = some (.int .i64 0) := (blk_cell HA2.out.2.2.1 0).trans rfl; have y8_0 : W2.frozen? ⟨w.heap.size + 1 + 1, 0, none⟩ = false := blk_frozen HA2.out.2.2.1 0; have z8_1 : W2.cell? ⟨w.heap.size + 1 + 1, 1, none⟩ = some (.int .i64 0) := (blk_cell HA2.out.2.2.1 1).trans rfl; have y8_1 : W2.frozen? ⟨w.heap.size + 1 + 1, 1, none⟩ = false := blk_frozen HA2.out.2.2.1 1; have z8_2 : W2.cell? ⟨w.heap.size + 1 + 1, 2, none⟩ = some (.int .i64 0) := (blk_cell HA2.out.2.2.1 2).trans rfl; have y8_2 : W2.frozen? ⟨w.heap.size + 1 + 1, 2, none⟩ = false := blk_frozen HA2.out.2.2.1 2; have z8_3 : W2.cell? ⟨w.heap.size + 1 + 1, 3, none⟩ = some (.int .i64 0) := (blk_cell HA2.out.2.2.1 3).trans rfl; have y8_3 : W2.frozen? ⟨w.heap.size + 1 + 1, 3, none⟩ = false := blk_frozen HA2.out.2.2.1 3; have z9_0 : W2.cell? ⟨w.heap.size + 1 + 1 + 1, 0, none⟩ = some (.int .i64 0) := (blk_cell HA2.out.2.2.2.1 0).trans rfl; have y9_0 : W2.frozen? ⟨w.heap.size + 1 + 1 + 1, 0, none⟩ = false := blk_frozen HA2.out.2.2.2.1 0; have z9_1 : W2.cell? ⟨w.heap.size + 1 + 1 + 1, 1, none⟩ = some (.int .i64 0) := (blk_cell HA2.out.2.2.2.1 1).trans rfl; have y9_1 : W2.frozen? ⟨w.heap.size + 1 + 1 + 1, 1, none⟩ = false := blk_frozen HA2.out.2.2.2.1 1; have z9_2 : W2.cell? ⟨w.heap.size + 1 + 1 + 1, 2, none⟩ = some (.int .i64 0) := (blk_cell HA2.out.2.2.2.1 2).trans rfl; have y9_2 : W2.frozen? ⟨w.heap.size + 1 + 1 + 1, 2, none⟩ = false := blk_frozen HA2.out.2.2.2.1 2; have z9_3 : W2.cell? ⟨w.heap.size + 1 + 1 + 1, 3, none⟩ = some (.int .i64 0) := (blk_cell HA2.out.2.2.2.1 3).trans rfl; have y9_3 : W2.frozen? ⟨w.heap.size + 1 + 1 + 1, 3, none⟩ = false := blk_frozen HA2.out.2.2.2.1 3; have z9_4 : W2.cell? ⟨w.heap.size + 1 + 1 + 1, 4, none⟩ = some (.bool false) := (blk_cell HA2.out.2.2.2.1 4).trans rfl; have y9_4 : W2.frozen? ⟨w.heap.size + 1 + 1 + 1, 4, none⟩ = false := blk_frozen HA2.out.2.2.2.1 4; have z9_5 : W2.cell? ⟨w.heap.size + 1 + 1 + 1, 5, none⟩ = some (.int .i64 0) := (blk_cell HA2.out.2.2.2.1 5).trans rfl; have y9_5 : W2.frozen? ⟨w.heap.size + 1 + 1 + 1, 5, none⟩ = false := blk_frozen HA2.out.2.2.2.1 5; have z9_6 : W2.cell? ⟨w.heap.size + 1 + 1 + 1, 6, none⟩ = some (.int .i64 0) := (blk_cell HA2.out.2.2.2.1 6).trans rfl; have y9_6 : W2.frozen? ⟨w.heap.size + 1 + 1 + 1, 6, none⟩ = false := blk_frozen HA2.out.2.2.2.1 6; have z9_7 : W2.cell? ⟨w.heap.size + 1 + 1 + 1, 7, none⟩ = some (.int .i64 0) := (blk_cell HA2.out.2.2.2.1 7).trans rfl; have y9_7 : W2.frozen? ⟨w.heap.size + 1 + 1 + 1, 7, none⟩ = false := blk_frozen HA2.out.2.2.2.1 7; have z10_0 : W2.cell? ⟨w.heap.size + 1 + 1 + 1 + 1, 0, none⟩ = some (.int .i64 0) := (blk_cell HA2.out.2.2.2.2.1 0).trans rfl; have y10_0 : W2.frozen? ⟨w.heap.size + 1 + 1 + 1 + 1, 0, none⟩ = false := blk_frozen HA2.out.2.2.2.2.1 0))
  exact rt_done (q := (⟨a0_0, a0_1, a0_2, a0_3⟩ : S23)) (v := .slice A1 l1.length c1) (RtA.cast (by repeat (first | with_reducible exact HA2.out | with_reducible apply RtA.set_r8 | with_reducible apply RtA.set_r9 | with_reducible apply RtA.set_r10)) (by rfl) (by rfl) (by rfl)) rfl rfl rfl (by rfl) (by rfl)
section
open Go.Shelf
attribute [local go_sem] Oper.semAt_some
attribute [local go_sem ↓] rt_max
set_option maxRecDepth 100000 in
set_option maxHeartbeats 40000000 in
theorem rt_main (a0_0 : Int) (a0_1 : Int) (a0_2 : Int) (a0_3 : Int)
    (A1 : Option Addr) (c1 : Nat) (l1 : List S33) (a2 : Int) (a3 : Int) (w : World) (hr1 : Kd.C k33 w A1 l1.length l1) (hc : rt_chk (⟨a0_0, a0_1, a0_2, a0_3⟩ : S23) = 0) (ht : [a2, a3].all rt_tm = true) (r1 : Int) (r2 : Int) (r3 : Int) (r4 : Int) (r5 : Int) (r6 : Int) (r7 : Int) (r8 : Int) (r9 : Bool) (r10 : Int) (r11 : Int) (r12 : Int) (r13 : Int) (HF : (if l1.all rt_rec = true then (if l1.length = 0 then some ((rt_fold a0_0 l1 (List.finRange l1.length)).1, a0_1, a0_2, a0_3, a2, (rt_fold a0_0 l1 (List.finRange l1.length)).2.1, 0, 0, false, (rt_fold a0_0 l1 (List.finRange l1.length)).1, 0, 0, 0) else (rt_rate (rt_fold a0_0 l1 (List.finRange l1.length)).1 (rt_fold a0_0 l1 (List.finRange l1.length)).2.2 a2 a3).bind fun r => some ((rt_fold a0_0 l1 (List.finRange l1.length)).1, a2, (rt_fold a0_0 l1 (List.finRange l1.length)).2.2.f3, (if a0_3 < (rt_fold a0_0 l1 (List.finRange l1.length)).1 then 0 else a0_3), a2, (rt_fold a0_0 l1 (List.finRange l1.length)).2.1, rt_rtt (rt_fold a0_0 l1 (List.finRange l1.length)).2.2 a2, r, (rt_fold a0_0 l1 (List.finRange l1.length)).2.2.f11, (rt_fold a0_0 l1 (List.finRange l1.length)).1, (rt_fold a0_0 l1 (List.finRange l1.length)).2.2.f8, 0, 0)) else some (0, 0, 0, 0, 0, 0, 0, 0, false, 0, 0, 0, 2)) = some (r1, r2, r3, r4, r5, r6, r7, r8, r9, r10, r11, r12, r13)) :
    Calls Try.prog 7 #[.agg #[.int .i64 a0_0, .int .i64 a0_1, .int .i64 a0_2, .int .i64 a0_3], .slice A1 l1.length c1, .int .i64 a2, .int .i64 a3] w fun e w' => e = .returned (.tuple #[.agg #[.int .i64 r1, .int .i64 r2, .int .i64 r3, .int .i64 r4], .agg #[.int .i64 r5, .int .i64 r6, .int .i64 r7, .int .i64 r8, .bool r9, .int .i64 r10, .int .i64 r11, .int .i64 r12], .int .i64 r13]) ∧ Below w.heap.size w w' := by
  have HE := Lib.hid ((rt_chk_f (⟨a0_0, a0_1, a0_2, a0_3⟩ : S23)).trans (congrArg some hc))
  have HT := Lib.hid ((rt_time_f [a2, a3] (by simp)).trans (congrArg some ht))
  have HC := Lib.hid hr1
  clear hr1 hc ht
  have h5 := rt_five w (.cells #[.int .i64 a0_0, .int .i64 a0_1, .int .i64 a0_2, .int .i64 a0_3] 23) (.cells #[.slice A1 l1.length c1] 24) (.cells #[.int .i64 0, .int .i64 0, .int .i64 0, .int .i64 0] 23) (.cells #[.int .i64 0, .int .i64 0, .int .i64 0, .int .i64 0, .bool false, .int .i64 0, .int .i64 0, .int .i64 0] 26) (.cells #[.int .i64 0] 27)
  have HA := Lib.hid (show RtA w (⟨a0_0, a0_1, a0_2, a0_3⟩ : S23) (.slice A1 l1.length c1) #[.int .i64 0, .int .i64 0, .int .i64 0, .int .i64 0] #[.int .i64 0, .int .i64 0, .int .i64 0, .int .i64 0, .bool false, .int .i64 0, .int .i64 0, .int .i64 0] #[.int .i64 0] _ from ⟨h5.1, h5.2.1, h5.2.2.1, h5.2.2.2.1, h5.2.2.2.2.1, h5.2.2.2.2.2.2⟩)
  clear h5
  refine callsIn_wide (n := 9).1 ?_
  refine callsIn_of_wp_marks Try.func7 rfl trivial ?_ rfl
  refine wpIn_wide.2 ?_
  simp only [Try.ntmps7, List.size_toArray, List.length_cons, List.length_nil, Nat.reduceAdd, Nat.reduceSub, Array.replicate_succ, Array.replicate_zero, List.push_toArray, List.append_toArray, List.nil_append, List.cons_append]
  go_wp2_with (first | (go_at_call 11; refine (rate_Check.calls 9 a0_0 a0_1 a0_2 a0_3 0 _ HE.out).mono ?_; rintro e W1 ⟨rfl, hb⟩; have HA1 := Lib.hid (HA.out.below hb); clear hb) | (go_at_call 12; refine (rate_time.calls 9 _ _ [a2, a3] true _ (rt_two _ _ _ _) (by simp) HT.out).mono ?_; rintro e W2 ⟨rfl, ⟨nd, hnd⟩⟩; have HA2 := Lib.hid (RtA.below (W' := W2) HA1.out (by rw [hnd]; exact pw_below_drewN (below_alloc (Below.refl _ _) _) _)); clear hnd; have hl0 : ((W2.alloc (.cells #[.int .i64 a2, .int .i64 0, .int .i64 0, .int .i64 0, .bool false, .int .i64 0, .int .i64 0, .int .i64 0] 26)).alloc (.cells #[.int .i64 0, .int .i64 0, .bool false, .int .i64 0, .int .i64 0, .bool false, .bool false, .bool false, .int .i64 0, .int .i64 0, .int .i64 0, .bool false] 33)).cell? ⟨w.heap.size + 1, 0, none⟩ = some (.slice A1 l1.length c1) := (blk_cell (blk_alloc (blk_alloc HA2.out.2.1 _) _) 0).trans rfl) | (go_at_call 13; refine (rt_sizes_call _ _ _ _).mono ?_; rintro e W5 ⟨rfl, hw5⟩))
  clear hl0
  obtain ⟨B, hB⟩ : ∃ B, W2.heap.size = B := ⟨_, rfl⟩
  have hBw : w.heap.size + 1 + 1 + 1 + 1 < B := by rw [← hB]; exact blk_lt HA2.out.2.2.2.2.1
  have H5 := Lib.hid (show RtB w (.slice A1 l1.length c1) B #[.int .i64 a0_0, .int .i64 a0_1, .int .i64 a0_2, .int .i64 a0_3] #[.int .i64 0, .int .i64 0, .int .i64 0, .int .i64 0] #[.int .i64 0, .int .i64 0, .int .i64 0, .int .i64 0, .bool false, .int .i64 0, .int .i64 0, .int .i64 0] #[.int .i64 0] #[.int .i64 a2, .int .i64 0, .int .i64 0, .int .i64 0, .bool false, .int .i64 0, .int .i64 0, .int .i64 0] #[.int .i64 0, .int .i64 0, .bool false, .int .i64 0, .int .i64 0, .bool false, .bool false, .bool false, .int .i64 0, .int .i64 0, .int .i64 0, .bool false] W5 from by
    have e5 : W2.heap[W2.heap.size]? = none := by simp
    rw [← hw5, ← hB]
    exact ⟨blk_alloc (blk_alloc (blk_alloc HA2.out.1 _) _) _, blk_alloc (blk_alloc (blk_alloc HA2.out.2.1 _) _) _, blk_alloc (blk_alloc (blk_alloc HA2.out.2.2.1 _) _) _, blk_alloc (blk_alloc (blk_alloc HA2.out.2.2.2.1 _) _) _, blk_alloc (blk_alloc (blk_alloc HA2.out.2.2.2.2.1 _) _) _, blk_alloc (blk_alloc (blk_new W2 _) _) _, blk_alloc blk_nx _, blk_lt HA2.out.2.2.2.2.1, below_alloc (below_alloc (below_alloc HA2.out.2.2.2.2.2 _) _) _⟩)
  have HL5 := Lib.hid (show W5.heap[B + 1 + 1]? = some (.cells #[.slice A1 l1.length c1] 24 (0, 0)) from by
    rw [← hw5, ← hB]
    have h := blk_new ((W2.alloc (.cells #[.int .i64 a2, .int .i64 0, .int .i64 0, .int .i64 0, .bool false, .int .i64 0, .int .i64 0, .int .i64 0] 26)).alloc (.cells #[.int .i64 0, .int .i64 0, .bool false, .int .i64 0, .int .i64 0, .bool false, .bool false, .bool false, .int .i64 0, .int .i64 0, .int .i64 0, .bool false] 33)) (.cells #[.slice A1 l1.length c1] 24)
    rw [World.size_alloc, World.size_alloc] at h; exact h)
  have hsz : W5.heap.size = B + 1 + 1 + 1 := by rw [← hw5, ← hB]; simp
  rw [hB]
  clear hB hw5 HA2
  refine wpIn_wide (n := 9).1 ?_
  refine wpIn_rangeFunc_ownF (α := Fin l1.length) (encs := fun x => #[.int .i64 (x.val : Int), .int .i64 (rt_n l1[x])]) (Kp := KpB w.heap.size [B + 1 + 1]) (S := fun ys => ys = List.finRange l1.length) (Sp := fun _ => True) (N := l1.length + 1) (w0 := W5)
    rfl (by omega) (gf := 17) (lb := #[.pointer (some ⟨B + 1 + 1, 0, none⟩)]) rfl trivial (enters_of Try.func17 (by kernel_rfl) rfl)
    (fun l J Jx W hW hJ hJx hY h0 => rt_sizes 8 (by omega) l (B + 1 + 1) A1 c1 l1 w J Jx W hJ (fun pre x W1 hj hl => by
      obtain ⟨fn, tmps, assign, body, hy, hR⟩ := hY pre x W1 hj hl
      refine ⟨fn, tmps, assign, body, hy, hR.mono ?_⟩
      rintro e W3 (⟨h1, h2, h3⟩ | h1)
      · exact .inl ⟨h1, h2, ⟨h3.1, fun b hb => by cases hb⟩⟩
      · exact .inr h1) ((hW.cell (p := ⟨B + 1 + 1, 0, none⟩) (blk_lt HL5.out)).trans ((blk_cell HL5.out 0).trans rfl)) HC.out (H5.out.2.2.2.2.2.2.2.2.trans (hW.mono H5.out.2.2.2.2.2.2.2.2.size)) h0)
    KpB.trans (KpB.put H5.out.2.2.2.2.2.2.2.2.size (by intro b hb; rw [List.mem_singleton.1 hb, hsz]; omega)) (Below.refl _ _) (fun _ => rfl)
    (fun pre W => (∀ y ∈ pre, rt_rec l1[y] = true) ∧ RtB w (.slice A1 l1.length c1) B #[.int .i64 (rt_fold a0_0 l1 pre).1, .int .i64 a0_1, .int .i64 a0_2, .int .i64 a0_3] #[.int .i64 0, .int .i64 0, .int .i64 0, .int .i64 0] #[.int .i64 0, .int .i64 0, .int .i64 0, .int .i64 0, .bool false, .int .i64 0, .int .i64 0, .int .i64 0] #[.int .i64 0] #[.int .i64 a2, .int .i64 (rt_fold a0_0 l1 pre).2.1, .int .i64 0, .int .i64 0, .bool false, .int .i64 0, .int .i64 0, .int .i64 0] #[.int .i64 (rt_fold a0_0 l1 pre).2.2.f0, .int .i64 (rt_fold a0_0 l1 pre).2.2.f1, .bool (rt_fold a0_0 l1 pre).2.2.f2, .int .i64 (rt_fold a0_0 l1 pre).2.2.f3, .int .i64 (rt_fold a0_0 l1 pre).2.2.f4, .bool (rt_fold a0_0 l1 pre).2.2.f5, .bool (rt_fold a0_0 l1 pre).2.2.f6, .bool (rt_fold a0_0 l1 pre).2.2.f7, .int .i64 (rt_fold a0_0 l1 pre).2.2.f8, .int .i64 (rt_fold a0_0 l1 pre).2.2.f9, .int .i64 (rt_fold a0_0 l1 pre).2.2.f10, .bool (rt_fold a0_0 l1 pre).2.2.f11] W) (fun c _ W => c = .ret ∧ (∃ x : Fin l1.length, rt_rec l1[x] = false) ∧ ∃ dq ds dd, RtB w (.slice A1 l1.length c1) B dq #[.int .i64 0, .int .i64 0, .int .i64 0, .int .i64 0] #[.int .i64 0, .int .i64 0, .int .i64 0, .int .i64 0, .bool false, .int .i64 0, .int .i64 0, .int .i64 0] #[.int .i64 2] ds dd W)
    (fun s A B row hs hg hr => ⟨hs.1, hs.2.grown hg (fun r e => ⟨Nat.le_trans H5.out.2.2.2.2.2.2.2.2.size (hr r e).1, (hr r e).2⟩)⟩)
    (fun c s A B row hs hg hr => by obtain ⟨h1, h2, dq, ds, dd, h3⟩ := hs; exact ⟨h1, h2, dq, ds, dd, h3.grown hg (fun r e => ⟨Nat.le_trans H5.out.2.2.2.2.2.2.2.2.size (hr r e).1, (hr r e).2⟩)⟩) ⟨(fun y hy => by cases hy), H5.out⟩
    (fun x => { tmps := #[.agg #[.int .i64 a0_0, .int .i64 a0_1, .int .i64 a0_2, .int .i64 a0_3], .slice A1 l1.length c1, .int .i64 a2, .int .i64 a3, .pointer (some ⟨w.heap.size, 0, none⟩), .pointer (some ⟨w.heap.size + 1, 0, none⟩), undef, undef, .pointer (some ⟨w.heap.size + 1 + 1, 0, none⟩), .pointer (some ⟨w.heap.size + 1 + 1 + 1, 0, none⟩), .pointer (some ⟨w.heap.size + 1 + 1 + 1 + 1, 0, none⟩), .int .i64 0, .pointer (some ⟨B, 0, none⟩), .pointer (some ⟨B + 1, 0, none⟩), .int .i64 (x.val : Int), .int .i64 (rt_n l1[x]), undef, .agg #[.int .i64 a0_0, .int .i64 a0_1, .int .i64 a0_2, .int .i64 a0_3], .int .i64 0, .int .i64 0, .bool false, undef, undef, undef, .int .i64 a2, .int .i64 a3, .slice (some ⟨W1.heap.size, 0, none⟩) 2 2, .bool true, .bool false, undef, undef, .int .i64 a2, .agg #[.int .i64 a2, .int .i64 0, .int .i64 0, .int .i64 0, .bool false, .int .i64 0, .int .i64 0, .int .i64 0], .slice A1 l1.length c1, .func (.func 17) #[] #[.pointer (some ⟨B + 1 + 1, 0, none⟩)], .int .i64 (x.val : Int), .int .i64 (rt_n l1[x]), undef, undef, undef, undef, undef, undef, undef, undef, undef, undef, undef, undef, undef, undef, undef, undef, undef, undef, undef, undef, undef, undef, undef, undef, undef, undef, undef, undef, undef, undef, undef, undef, undef, undef, undef, undef, undef, undef, undef, undef, undef, undef, undef, undef, undef, undef, undef, undef, undef, undef, undef, undef, undef, undef, undef, undef, undef, undef, undef, undef, undef, undef, undef, undef, undef, undef, undef, undef, undef, undef, undef, undef, undef, undef, undef, undef, undef, undef, undef, undef, undef, undef, undef, undef, undef, undef, undef, undef, undef, undef, undef, undef, undef, undef, undef, undef, undef, undef, undef, undef, undef, undef, undef, undef], defers := [] }) ?assign ?body ?done ?stop
  case assign =>
    intro l x W K hK
    gi_wp2
    exact hK
  case stop =>
    rintro D c pre W hD _ ⟨rfl, ⟨x, hx⟩, dq, ds, dd, h⟩ hK
    have hall : l1.all rt_rec = false := by
      rw [List.all_eq_false]
      exact ⟨l1[x], List.getElem_mem _, by rw [hx]; decide⟩
    rw [if_neg (by rw [hall]; decide)] at HF
    simp only [Option.some.injEq, Prod.mk.injEq] at HF
    obtain ⟨rfl, rfl, rfl, rfl, rfl, rfl, rfl, rfl, rfl, rfl, rfl, rfl, rfl⟩ := HF
    gi_wp2
    refine ⟨by simp, .inl ⟨_, _, rfl, run_takeDeferred hK, ?_⟩⟩
    have h2 := h.grown (grownBy_putObj' W D (.deferred none)) (fun r e => by cases e; exact ⟨Nat.le_trans H5.out.2.2.2.2.2.2.2.2.size hD, _, hK, rfl⟩)
    exact ⟨_, rt_res _ _ (w.heap.size + 1 + 1) (w.heap.size + 1 + 1 + 1) (w.heap.size + 1 + 1 + 1 + 1) _ _ _ rfl rfl rfl h2.2.2.1 h2.2.2.2.1 h2.2.2.2.2.1 rfl rfl, rfl, h2.2.2.2.2.2.2.2.2⟩
  case done =>
    rintro D ys W hD rfl hI hK
    have hall : l1.all rt_rec = true := by
      rw [List.all_eq_true]
      intro x hx
      obtain ⟨j, hj, rfl⟩ := List.getElem_of_mem hx
      exact hI.1 ⟨j, hj⟩ (List.mem_finRange _)
    rw [if_pos hall] at HF
    have HI := Lib.hid hI.2; clear hI
    have HK := Lib.hid hK; clear hK
    have hD0 : D ≠ w.heap.size := by omega
    have hD2 : D ≠ w.heap.size + 1 + 1 := by omega
    have hD3 : D ≠ w.heap.size + 1 + 1 + 1 := by omega
    have hD4 : D ≠ w.heap.size + 1 + 1 + 1 + 1 := by omega
    have hD5 : D ≠ B := by omega
    have hD6 : D ≠ B + 1 := by omega
    obtain ⟨s, hs⟩ : ∃ s, rt_fold a0_0 l1 (List.finRange l1.length) = s := ⟨_, rfl⟩
    rw [hs] at HI HF
    clear hs
    obtain ⟨g, ak, xo⟩ := s
    simp only at HI HF
    simp only [Exit.inBlock, Exit.then]
    have kq0 : W.cell? ⟨w.heap.size, 0, none⟩ = some (.int .i64 g) := (blk_cell HI.out.1 0).trans rfl
    have kl0 : W.cell? ⟨w.heap.size + 1, 0, none⟩ = some (.slice A1 l1.length c1) := (blk_cell HI.out.2.1 0).trans rfl
    have ks5 : W.frozen? ⟨B, 5, none⟩ = false := blk_frozen HI.out.2.2.2.2.2.1 5
    have kt5 : W.cell? ⟨B, 5, none⟩ = some (.int .i64 0) := (blk_cell HI.out.2.2.2.2.2.1 5).trans rfl
    go_wp2
    all_goals
      obtain ⟨W9, hw9⟩ : ∃ W9, W.setCell ⟨B, 5, none⟩ (.int .i64 g) = W9 := ⟨_, rfl⟩
      have H9 := Lib.hid (show RtB w (.slice A1 l1.length c1) B #[.int .i64 g, .int .i64 a0_1, .int .i64 a0_2, .int .i64 a0_3] #[.int .i64 0, .int .i64 0, .int .i64 0, .int .i64 0] #[.int .i64 0, .int .i64 0, .int .i64 0, .int .i64 0, .bool false, .int .i64 0, .int .i64 0, .int .i64 0] #[.int .i64 0] #[.int .i64 a2, .int .i64 ak, .int .i64 0, .int .i64 0, .bool false, .int .i64 g, .int .i64 0, .int .i64 0] #[.int .i64 xo.f0, .int .i64 xo.f1, .bool xo.f2, .int .i64 xo.f3, .int .i64 xo.f4, .bool xo.f5, .bool xo.f6, .bool xo.f7, .int .i64 xo.f8, .int .i64 xo.f9, .int .i64 xo.f10, .bool xo.f11] W9 from by rw [← hw9]; exact RtB.cast (HI.out.set_s 5 (.int .i64 g)) (by first | with_reducible rfl | (simp only [List.setIfInBounds_toArray, List.set_cons_zero, List.set_cons_succ]; done)) (by first | with_reducible rfl | (simp only [List.setIfInBounds_toArray, List.set_cons_zero, List.set_cons_succ]; done)) (by first | with_reducible rfl | (simp only [List.setIfInBounds_toArray, List.set_cons_zero, List.set_cons_succ]; done)) (by first | with_reducible rfl | (simp only [List.setIfInBounds_toArray, List.set_cons_zero, List.set_cons_succ]; done)) (by first | with_reducible rfl | (simp only [List.setIfInBounds_toArray, List.set_cons_zero, List.set_cons_succ]; done)) (by first | with_reducible rfl | (simp only [List.setIfInBounds_toArray, List.set_cons_zero, List.set_cons_succ]; done)))
      have HK9 := Lib.hid (show W9.heap[D]? = some (.deferred (some [])) from by rw [← hw9]; exact heap_set HK.out (show D ≠ B by omega))
      rw [hw9]
      clear kq0 kl0 ks5 kt5 hw9
    · have hz : l1.length = 0 := by have h9 := (by assumption : ((l1.length : Int) == 0) = true); simpa using h9
      rw [if_pos hz] at HF
      simp only [Option.some.injEq, Prod.mk.injEq] at HF
      obtain ⟨rfl, rfl, rfl, rfl, rfl, rfl, rfl, rfl, rfl, rfl, rfl, rfl, rfl⟩ := HF
      have k0_0 : W9.cell? ⟨w.heap.size, 0, none⟩ = some (.int .i64 g) := (blk_cell H9.out.1 0).trans rfl
      have k0_1 : W9.cell? ⟨w.heap.size, 1, none⟩ = some (.int .i64 a0_1) := (blk_cell H9.out.1 1).trans rfl
      have k0_2 : W9.cell? ⟨w.heap.size, 2, none⟩ = some (.int .i64 a0_2) := (blk_cell H9.out.1 2).trans rfl
      have k0_3 : W9.cell? ⟨w.heap.size, 3, none⟩ = some (.int .i64 a0_3) := (blk_cell H9.out.1 3).trans rfl
      have k5_0 : W9.cell? ⟨B, 0, none⟩ = some (.int .i64 a2) := (blk_cell H9.out.2.2.2.2.2.1 0).trans rfl
      have k5_1 : W9.cell? ⟨B, 1, none⟩ = some (.int .i64 ak) := (blk_cell H9.out.2.2.2.2.2.1 1).trans rfl
      have k5_2 : W9.cell? ⟨B, 2, none⟩ = some (.int .i64 0) := (blk_cell H9.out.2.2.2.2.2.1 2).trans rfl
      have k5_3 : W9.cell? ⟨B, 3, none⟩ = some (.int .i64 0) := (blk_cell H9.out.2.2.2.2.2.1 3).trans rfl
      have k5_4 : W9.cell? ⟨B, 4, none⟩ = some (.bool false) := (blk_cell H9.out.2.2.2.2.2.1 4).trans rfl
      have k5_5 : W9.cell? ⟨B, 5, none⟩ = some (.int .i64 g) := (blk_cell H9.out.2.2.2.2.2.1 5).trans rfl
      have k5_6 : W9.cell? ⟨B, 6, none⟩ = some (.int .i64 0) := (blk_cell H9.out.2.2.2.2.2.1 6).trans rfl
      have k5_7 : W9.cell? ⟨B, 7, none⟩ = some (.int .i64 0) := (blk_cell H9.out.2.2.2.2.2.1 7).trans rfl
      have k2_0 : W9.cell? ⟨w.heap.size + 1 + 1, 0, none⟩ = some (.int .i64 0) := (blk_cell H9.out.2.2.1 0).trans rfl
      have kf2_0 : W9.frozen? ⟨w.heap.size + 1 + 1, 0, none⟩ = false := blk_frozen H9.out.2.2.1 0
      have k2_1 : W9.cell? ⟨w.heap.size + 1 + 1, 1, none⟩ = some (.int .i64 0) := (blk_cell H9.out.2.2.1 1).trans rfl
      have kf2_1 : W9.frozen? ⟨w.heap.size + 1 + 1, 1, none⟩ = false := blk_frozen H9.out.2.2.1 1
      have k2_2 : W9.cell? ⟨w.heap.size + 1 + 1, 2, none⟩ = some (.int .i64 0) := (blk_cell H9.out.2.2.1 2).trans rfl
      have kf2_2 : W9.frozen? ⟨w.heap.size + 1 + 1, 2, none⟩ = false := blk_frozen H9.out.2.2.1 2
      have k2_3 : W9.cell? ⟨w.heap.size + 1 + 1, 3, none⟩ = some (.int .i64 0) := (blk_cell H9.out.2.2.1 3).trans rfl
      have kf2_3 : W9.frozen? ⟨w.heap.size + 1 + 1, 3, none⟩ = false := blk_frozen H9.out.2.2.1 3
      have k3_0 : W9.cell? ⟨w.heap.size + 1 + 1 + 1, 0, none⟩ = some (.int .i64 0) := (blk_cell H9.out.2.2.2.1 0).trans rfl
      have kf3_0 : W9.frozen? ⟨w.heap.size + 1 + 1 + 1, 0, none⟩ = false := blk_frozen H9.out.2.2.2.1 0
      have k3_1 : W9.cell? ⟨w.heap.size + 1 + 1 + 1, 1, none⟩ = some (.int .i64 0) := (blk_cell H9.out.2.2.2.1 1).trans rfl
      have kf3_1 : W9.frozen? ⟨w.heap.size + 1 + 1 + 1, 1, none⟩ = false := blk_frozen H9.out.2.2.2.1 1
      have k3_2 : W9.cell? ⟨w.heap.size + 1 + 1 + 1, 2, none⟩ = some (.int .i64 0) := (blk_cell H9.out.2.2.2.1 2).trans rfl
      have kf3_2 : W9.frozen? ⟨w.heap.size + 1 + 1 + 1, 2, none⟩ = false := blk_frozen H9.out.2.2.2.1 2
      have k3_3 : W9.cell? ⟨w.heap.size + 1 + 1 + 1, 3, none⟩ = some (.int .i64 0) := (blk_cell H9.out.2.2.2.1 3).trans rfl
      have kf3_3 : W9.frozen? ⟨w.heap.size + 1 + 1 + 1, 3, none⟩ = false := blk_frozen H9.out.2.2.2.1 3
      have k3_4 : W9.cell? ⟨w.heap.size + 1 + 1 + 1, 4, none⟩ = some (.bool false) := (blk_cell H9.out.2.2.2.1 4).trans rfl
      have kf3_4 : W9.frozen? ⟨w.heap.size + 1 + 1 + 1, 4, none⟩ = false := blk_frozen H9.out.2.2.2.1 4
      have k3_5 : W9.cell? ⟨w.heap.size + 1 + 1 + 1, 5, none⟩ = some (.int .i64 0) := (blk_cell H9.out.2.2.2.1 5).trans rfl
      have kf3_5 : W9.frozen? ⟨w.heap.size + 1 + 1 + 1, 5, none⟩ = false := blk_frozen H9.out.2.2.2.1 5
      have k3_6 : W9.cell? ⟨w.heap.size + 1 + 1 + 1, 6, none⟩ = some (.int .i64 0) := (blk_cell H9.out.2.2.2.1 6).trans rfl
      have kf3_6 : W9.frozen? ⟨w.heap.size + 1 + 1 + 1, 6, none⟩ = false := blk_frozen H9.out.2.2.2.1 6
      have k3_7 : W9.cell? ⟨w.heap.size + 1 + 1 + 1, 7, none⟩ = some (.int .i64 0) := (blk_cell H9.out.2.2.2.1 7).trans rfl
      have kf3_7 : W9.frozen? ⟨w.heap.size + 1 + 1 + 1, 7, none⟩ = false := blk_frozen H9.out.2.2.2.1 7
      have k4_0 : W9.cell? ⟨w.heap.size + 1 + 1 + 1 + 1, 0, none⟩ = some (.int .i64 0) := (blk_cell H9.out.2.2.2.2.1 0).trans rfl
      have kf4_0 : W9.frozen? ⟨w.heap.size + 1 + 1 + 1 + 1, 0, none⟩ = false := blk_frozen H9.out.2.2.2.2.1 0
      go_region
      refine rt_then ?_; intro W10 hw10
      have H10 := Lib.hid (show RtB w (.slice A1 l1.length c1) B #[.int .i64 g, .int .i64 a0_1, .int .i64 a0_2, .int .i64 a0_3] #[.int .i64 g, .int .i64 a0_1, .int .i64 a0_2, .int .i64 a0_3] #[.int .i64 a2, .int .i64 ak, .int .i64 0, .int .i64 0, .bool false, .int .i64 g, .int .i64 0, .int .i64 0] #[.int .i64 0] #[.int .i64 a2, .int .i64 ak, .int .i64 0, .int .i64 0, .bool false, .int .i64 g, .int .i64 0, .int .i64 0] #[.int .i64 xo.f0, .int .i64 xo.f1, .bool xo.f2, .int .i64 xo.f3, .int .i64 xo.f4, .bool xo.f5, .bool xo.f6, .bool xo.f7, .int .i64 xo.f8, .int .i64 xo.f9, .int .i64 xo.f10, .bool xo.f11] W10 from by rw [← hw10]; exact RtB.cast (by repeat (first | with_reducible exact H9.out | with_reducible apply RtB.set_q | with_reducible apply RtB.set_r8 | with_reducible apply RtB.set_r9 | with_reducible apply RtB.set_r10 | with_reducible apply RtB.set_s | with_reducible apply RtB.set_o | with_reducible apply RtB.drew)) (by first | with_reducible rfl | (simp only [List.setIfInBounds_toArray, List.set_cons_zero, List.set_cons_succ]; done)) (by first | with_reducible rfl | (simp only [List.setIfInBounds_toArray, List.set_cons_zero, List.set_cons_succ]; done)) (by first | with_reducible rfl | (simp only [List.setIfInBounds_toArray, List.set_cons_zero, List.set_cons_succ]; done)) (by first | with_reducible rfl | (simp only [List.setIfInBounds_toArray, List.set_cons_zero, List.set_cons_succ]; done)) (by first | with_reducible rfl | (simp only [List.setIfInBounds_toArray, List.set_cons_zero, List.set_cons_succ]; done)) (by first | with_reducible rfl | (simp only [List.setIfInBounds_toArray, List.set_cons_zero, List.set_cons_succ]; done)))
      have HK10 := Lib.hid (show W10.heap[D]? = some (.deferred (some [])) from by rw [← hw10]; repeat (first | with_reducible exact HK9.out | with_reducible refine rt_hdrew ?_ | (with_reducible refine heap_set ?_ (by first | assumption | (dsimp only; omega)))))
      clear hw10 k0_0 k0_1 k0_2 k0_3 k5_0 k5_1 k5_2 k5_3 k5_4 k5_5 k5_6 k5_7 k2_0 kf2_0 k2_1 kf2_1 k2_2 kf2_2 k2_3 kf2_3 k3_0 kf3_0 k3_1 kf3_1 k3_2 kf3_2 k3_3 kf3_3 k3_4 kf3_4 k3_5 kf3_5 k3_6 kf3_6 k3_7 kf3_7 k4_0 kf4_0
      go_wp2
      refine ⟨by simp, .inl ⟨_, _, rfl, run_takeDeferred HK10.out, ?_⟩⟩
      have h2 := (H10.out).grown (grownBy_putObj' W10 D (.deferred none)) (fun r e => by cases e; exact ⟨Nat.le_trans H5.out.2.2.2.2.2.2.2.2.size hD, _, HK10.out, rfl⟩)
      exact ⟨_, rt_res _ _ (w.heap.size + 1 + 1) (w.heap.size + 1 + 1 + 1) (w.heap.size + 1 + 1 + 1 + 1) _ _ _ rfl rfl rfl h2.2.2.1 h2.2.2.2.1 h2.2.2.2.2.1 rfl rfl, rfl, h2.2.2.2.2.2.2.2.2⟩
    · have hz : l1.length ≠ 0 := by have h9 := (by assumption : ((l1.length : Int) == 0) = false); simpa using h9
      rw [if_neg hz] at HF
      obtain ⟨rv, hrate, HF⟩ := Option.bind_eq_some_iff.1 HF
      obtain ⟨q3, hq3⟩ : ∃ q3, (if a0_3 < g then 0 else a0_3) = q3 := ⟨_, rfl⟩
      obtain ⟨v7, hv7⟩ : ∃ v7, rt_rtt xo a2 = v7 := ⟨_, rfl⟩
      rw [hq3, hv7] at HF
      simp only [Option.some.injEq, Prod.mk.injEq] at HF
      obtain ⟨rfl, rfl, rfl, rfl, rfl, rfl, rfl, rfl, rfl, rfl, rfl, rfl, rfl⟩ := HF
      have HQ3 := Lib.hid hq3; have HV7 := Lib.hid hv7; have HRT := Lib.hid hrate
      clear hq3 hv7 hrate
      have k0_0 : W9.cell? ⟨w.heap.size, 0, none⟩ = some (.int .i64 g) := (blk_cell H9.out.1 0).trans rfl
      have kf0_0 : W9.frozen? ⟨w.heap.size, 0, none⟩ = false := blk_frozen H9.out.1 0
      have k0_1 : W9.cell? ⟨w.heap.size, 1, none⟩ = some (.int .i64 a0_1) := (blk_cell H9.out.1 1).trans rfl
      have kf0_1 : W9.frozen? ⟨w.heap.size, 1, none⟩ = false := blk_frozen H9.out.1 1
      have k0_2 : W9.cell? ⟨w.heap.size, 2, none⟩ = some (.int .i64 a0_2) := (blk_cell H9.out.1 2).trans rfl
      have kf0_2 : W9.frozen? ⟨w.heap.size, 2, none⟩ = false := blk_frozen H9.out.1 2
      have k0_3 : W9.cell? ⟨w.heap.size, 3, none⟩ = some (.int .i64 a0_3) := (blk_cell H9.out.1 3).trans rfl
      have kf0_3 : W9.frozen? ⟨w.heap.size, 3, none⟩ = false := blk_frozen H9.out.1 3
      have k6_0 : W9.cell? ⟨B + 1, 0, none⟩ = some (.int .i64 xo.f0) := (blk_cell H9.out.2.2.2.2.2.2.1 0).trans rfl
      have k6_1 : W9.cell? ⟨B + 1, 1, none⟩ = some (.int .i64 xo.f1) := (blk_cell H9.out.2.2.2.2.2.2.1 1).trans rfl
      have k6_2 : W9.cell? ⟨B + 1, 2, none⟩ = some (.bool xo.f2) := (blk_cell H9.out.2.2.2.2.2.2.1 2).trans rfl
      have k6_3 : W9.cell? ⟨B + 1, 3, none⟩ = some (.int .i64 xo.f3) := (blk_cell H9.out.2.2.2.2.2.2.1 3).trans rfl
      have k6_4 : W9.cell? ⟨B + 1, 4, none⟩ = some (.int .i64 xo.f4) := (blk_cell H9.out.2.2.2.2.2.2.1 4).trans rfl
      have k6_5 : W9.cell? ⟨B + 1, 5, none⟩ = some (.bool xo.f5) := (blk_cell H9.out.2.2.2.2.2.2.1 5).trans rfl
      have k6_6 : W9.cell? ⟨B + 1, 6, none⟩ = some (.bool xo.f6) := (blk_cell H9.out.2.2.2.2.2.2.1 6).trans rfl
      have k6_7 : W9.cell? ⟨B + 1, 7, none⟩ = some (.bool xo.f7) := (blk_cell H9.out.2.2.2.2.2.2.1 7).trans rfl
      have k6_8 : W9.cell? ⟨B + 1, 8, none⟩ = some (.int .i64 xo.f8) := (blk_cell H9.out.2.2.2.2.2.2.1 8).trans rfl
      have k6_9 : W9.cell? ⟨B + 1, 9, none⟩ = some (.int .i64 xo.f9) := (blk_cell H9.out.2.2.2.2.2.2.1 9).trans rfl
      have k6_10 : W9.cell? ⟨B + 1, 10, none⟩ = some (.int .i64 xo.f10) := (blk_cell H9.out.2.2.2.2.2.2.1 10).trans rfl
      have k6_11 : W9.cell? ⟨B + 1, 11, none⟩ = some (.bool xo.f11) := (blk_cell H9.out.2.2.2.2.2.2.1 11).trans rfl
      go_region
      refine rt_then ?_; intro W10 hw10
      have H10 := Lib.hid (show RtB w (.slice A1 l1.length c1) B #[.int .i64 g, .int .i64 a2, .int .i64 xo.f3, .int .i64 a0_3] #[.int .i64 0, .int .i64 0, .int .i64 0, .int .i64 0] #[.int .i64 0, .int .i64 0, .int .i64 0, .int .i64 0, .bool false, .int .i64 0, .int .i64 0, .int .i64 0] #[.int .i64 0] #[.int .i64 a2, .int .i64 ak, .int .i64 0, .int .i64 0, .bool false, .int .i64 g, .int .i64 0, .int .i64 0] #[.int .i64 xo.f0, .int .i64 xo.f1, .bool xo.f2, .int .i64 xo.f3, .int .i64 xo.f4, .bool xo.f5, .bool xo.f6, .bool xo.f7, .int .i64 xo.f8, .int .i64 xo.f9, .int .i64 xo.f10, .bool xo.f11] W10 from by rw [← hw10]; exact RtB.cast (by repeat (first | with_reducible exact H9.out | with_reducible apply RtB.set_q | with_reducible apply RtB.set_r8 | with_reducible apply RtB.set_r9 | with_reducible apply RtB.set_r10 | with_reducible apply RtB.set_s | with_reducible apply RtB.set_o | with_reducible apply RtB.drew)) (by first | with_reducible rfl | (simp only [List.setIfInBounds_toArray, List.set_cons_zero, List.set_cons_succ]; done)) (by first | with_reducible rfl | (simp only [List.setIfInBounds_toArray, List.set_cons_zero, List.set_cons_succ]; done)) (by first | with_reducible rfl | (simp only [List.setIfInBounds_toArray, List.set_cons_zero, List.set_cons_succ]; done)) (by first | with_reducible rfl | (simp only [List.setIfInBounds_toArray, List.set_cons_zero, List.set_cons_succ]; done)) (by first | with_reducible rfl | (simp only [List.setIfInBounds_toArray, List.set_cons_zero, List.set_cons_succ]; done)) (by first | with_reducible rfl | (simp only [List.setIfInBounds_toArray, List.set_cons_zero, List.set_cons_succ]; done)))
      have HK10 := Lib.hid (show W10.heap[D]? = some (.deferred (some [])) from by rw [← hw10]; repeat (first | with_reducible exact HK9.out | with_reducible refine rt_hdrew ?_ | (with_reducible refine heap_set ?_ (by first | assumption | (dsimp only; omega)))))
      clear hw10 k0_0 kf0_0 k0_1 kf0_1 k0_2 kf0_2 k0_3 kf0_3 k6_0 k6_1 k6_2 k6_3 k6_4 k6_5 k6_6 k6_7 k6_8 k6_9 k6_10 k6_11
      have k0_0 : W10.cell? ⟨w.heap.size, 0, none⟩ = some (.int .i64 g) := (blk_cell H10.out.1 0).trans rfl
      have kf0_0 : W10.frozen? ⟨w.heap.size, 0, none⟩ = false := blk_frozen H10.out.1 0
      have k0_1 : W10.cell? ⟨w.heap.size, 1, none⟩ = some (.int .i64 a2) := (blk_cell H10.out.1 1).trans rfl
      have kf0_1 : W10.frozen? ⟨w.heap.size, 1, none⟩ = false := blk_frozen H10.out.1 1
      have k0_2 : W10.cell? ⟨w.heap.size, 2, none⟩ = some (.int .i64 xo.f3) := (blk_cell H10.out.1 2).trans rfl
      have kf0_2 : W10.frozen? ⟨w.heap.size, 2, none⟩ = false := blk_frozen H10.out.1 2
      have k0_3 : W10.cell? ⟨w.heap.size, 3, none⟩ = some (.int .i64 a0_3) := (blk_cell H10.out.1 3).trans rfl
      have kf0_3 : W10.frozen? ⟨w.heap.size, 3, none⟩ = false := blk_frozen H10.out.1 3
      have h3 : (decide (a0_3 < g) = true ∧ a0_3 < g) ∧ 0 = q3 ∨ (decide (a0_3 < g) = false ∧ ¬ a0_3 < g) ∧ a0_3 = q3 := by
        rcases rt_dec (a0_3 < g) with ⟨d3, e3⟩ | ⟨d3, e3⟩
        · exact .inl ⟨⟨d3, e3⟩, by rw [← HQ3.out, if_pos e3]⟩
        · exact .inr ⟨⟨d3, e3⟩, by rw [← HQ3.out, if_neg e3]⟩
      have h7 : ((xo.f4 == 1) = true ∧ xo.f4 = 1) ∧ mx 0 (wrap64 (a2 - xo.f3)) = v7 ∨ ((xo.f4 == 1) = false ∧ ¬ xo.f4 = 1) ∧ 0 = v7 := by
        by_cases e : xo.f4 = 1
        · exact .inl ⟨⟨by rw [e]; rfl, e⟩, by rw [← HV7.out, rt_rtt, if_pos e]⟩
        · exact .inr ⟨⟨beq_eq_false_iff_ne.mpr e, e⟩, by rw [← HV7.out, rt_rtt, if_neg e]⟩
      have h8 : ((decide (mx 1 a3 ≤ rt_t xo a2) = true ∧ mx 1 a3 ≤ rt_t xo a2) ∧ (decide (xo.f8 < g) = true ∧ xo.f8 < g) ∧ (∃ z, seq_MulDiv.f 2 (wrap64 (g - xo.f8)) 1000000 (rt_t xo a2) = some (rv, z))) ∨ ((decide (mx 1 a3 ≤ rt_t xo a2) = true ∧ mx 1 a3 ≤ rt_t xo a2) ∧ (decide (xo.f8 < g) = false ∧ g ≤ xo.f8) ∧ 0 = rv) ∨ ((decide (mx 1 a3 ≤ rt_t xo a2) = false ∧ rt_t xo a2 < mx 1 a3) ∧ 0 = rv) := by
        have h := HRT.out
        unfold rt_rate at h
        by_cases e1 : rt_t xo a2 ≥ mx 1 a3
        · by_cases e2 : xo.f8 < g
          · rw [if_pos ⟨e1, e2⟩] at h
            obtain ⟨⟨u, z⟩, hu, hv⟩ := Option.bind_eq_some_iff.1 h
            obtain rfl : u = rv := Option.some.inj hv
            exact .inl ⟨⟨decide_eq_true e1, e1⟩, ⟨decide_eq_true e2, e2⟩, z, hu⟩
          · rw [if_neg (fun q => e2 q.2)] at h
            exact .inr (.inl ⟨⟨decide_eq_true e1, e1⟩, ⟨decide_eq_false e2, Int.not_lt.1 e2⟩, Option.some.inj h⟩)
        · rw [if_neg (fun q => e1 q.1)] at h
          exact .inr (.inr ⟨⟨decide_eq_false e1, Int.not_le.1 e1⟩, Option.some.inj h⟩)
      have H7 := Lib.hid h7; have H8 := Lib.hid h8
      clear h7 h8
      have HH3 := Lib.hid h3; clear h3
      go_upto_if 90 with (fail)
      go_cut [] from 73 to 91 (fun wx => RtB w (.slice A1 l1.length c1) B #[.int .i64 g, .int .i64 a2, .int .i64 xo.f3, .int .i64 q3] #[.int .i64 0, .int .i64 0, .int .i64 0, .int .i64 0] #[.int .i64 0, .int .i64 0, .int .i64 0, .int .i64 0, .bool false, .int .i64 0, .int .i64 0, .int .i64 0] #[.int .i64 0] #[.int .i64 a2, .int .i64 ak, .int .i64 0, .int .i64 0, .bool false, .int .i64 g, .int .i64 0, .int .i64 0] #[.int .i64 xo.f0, .int .i64 xo.f1, .bool xo.f2, .int .i64 xo.f3, .int .i64 xo.f4, .bool xo.f5, .bool xo.f6, .bool xo.f7, .int .i64 xo.f8, .int .i64 xo.f9, .int .i64 xo.f10, .bool xo.f11] wx ∧ wx.heap[D]? = some (.deferred (some [])))
      case first =>
        rcases HH3.out with ⟨⟨d3, p3⟩, e3⟩ | ⟨⟨d3, p3⟩, e3⟩
        all_goals
          have E3 := Lib.hid e3; clear e3
          go_wp2
          go_meet
          exact ⟨RtB.cast (by repeat (first | with_reducible exact H10.out | with_reducible apply RtB.set_q | with_reducible apply RtB.set_r8 | with_reducible apply RtB.set_r9 | with_reducible apply RtB.set_r10 | with_reducible apply RtB.set_s | with_reducible apply RtB.set_o | with_reducible apply RtB.drew)) (by first | with_reducible rfl | (simp only [List.setIfInBounds_toArray, List.set_cons_zero, List.set_cons_succ]; done) | (rw [← E3.out]; first | done | (simp only [List.setIfInBounds_toArray, List.set_cons_zero, List.set_cons_succ]; done))) (by first | with_reducible rfl | (simp only [List.setIfInBounds_toArray, List.set_cons_zero, List.set_cons_succ]; done)) (by first | with_reducible rfl | (simp only [List.setIfInBounds_toArray, List.set_cons_zero, List.set_cons_succ]; done)) (by first | with_reducible rfl | (simp only [List.setIfInBounds_toArray, List.set_cons_zero, List.set_cons_succ]; done)) (by first | with_reducible rfl | (simp only [List.setIfInBounds_toArray, List.set_cons_zero, List.set_cons_succ]; done)) (by first | with_reducible rfl | (simp only [List.setIfInBounds_toArray, List.set_cons_zero, List.set_cons_succ]; done)), by repeat (first | with_reducible exact HK10.out | with_reducible refine rt_hdrew ?_ | (with_reducible refine heap_set ?_ (by first | assumption | (dsimp only; omega))))⟩
      case rest =>
      obtain ⟨h11, k11⟩ := hcut
      have H11 := Lib.hid h11; have HK11 := Lib.hid k11
      clear h11 k11 k0_0 kf0_0 k0_1 kf0_1 k0_2 kf0_2 k0_3 kf0_3
      have k5_0 : wc.cell? ⟨B, 0, none⟩ = some (.int .i64 a2) := (blk_cell H11.out.2.2.2.2.2.1 0).trans rfl
      have kf5_0 : wc.frozen? ⟨B, 0, none⟩ = false := blk_frozen H11.out.2.2.2.2.2.1 0
      have k5_1 : wc.cell? ⟨B, 1, none⟩ = some (.int .i64 ak) := (blk_cell H11.out.2.2.2.2.2.1 1).trans rfl
      have kf5_1 : wc.frozen? ⟨B, 1, none⟩ = false := blk_frozen H11.out.2.2.2.2.2.1 1
      have k5_2 : wc.cell? ⟨B, 2, none⟩ = some (.int .i64 0) := (blk_cell H11.out.2.2.2.2.2.1 2).trans rfl
      have kf5_2 : wc.frozen? ⟨B, 2, none⟩ = false := blk_frozen H11.out.2.2.2.2.2.1 2
      have k5_3 : wc.cell? ⟨B, 3, none⟩ = some (.int .i64 0) := (blk_cell H11.out.2.2.2.2.2.1 3).trans rfl
      have kf5_3 : wc.frozen? ⟨B, 3, none⟩ = false := blk_frozen H11.out.2.2.2.2.2.1 3
      have k5_4 : wc.cell? ⟨B, 4, none⟩ = some (.bool false) := (blk_cell H11.out.2.2.2.2.2.1 4).trans rfl
      have kf5_4 : wc.frozen? ⟨B, 4, none⟩ = false := blk_frozen H11.out.2.2.2.2.2.1 4
      have k5_5 : wc.cell? ⟨B, 5, none⟩ = some (.int .i64 g) := (blk_cell H11.out.2.2.2.2.2.1 5).trans rfl
      have kf5_5 : wc.frozen? ⟨B, 5, none⟩ = false := blk_frozen H11.out.2.2.2.2.2.1 5
      have k5_6 : wc.cell? ⟨B, 6, none⟩ = some (.int .i64 0) := (blk_cell H11.out.2.2.2.2.2.1 6).trans rfl
      have kf5_6 : wc.frozen? ⟨B, 6, none⟩ = false := blk_frozen H11.out.2.2.2.2.2.1 6
      have k5_7 : wc.cell? ⟨B, 7, none⟩ = some (.int .i64 0) := (blk_cell H11.out.2.2.2.2.2.1 7).trans rfl
      have kf5_7 : wc.frozen? ⟨B, 7, none⟩ = false := blk_frozen H11.out.2.2.2.2.2.1 7
      have k6_0 : wc.cell? ⟨B + 1, 0, none⟩ = some (.int .i64 xo.f0) := (blk_cell H11.out.2.2.2.2.2.2.1 0).trans rfl
      have k6_1 : wc.cell? ⟨B + 1, 1, none⟩ = some (.int .i64 xo.f1) := (blk_cell H11.out.2.2.2.2.2.2.1 1).trans rfl
      have k6_2 : wc.cell? ⟨B + 1, 2, none⟩ = some (.bool xo.f2) := (blk_cell H11.out.2.2.2.2.2.2.1 2).trans rfl
      have k6_3 : wc.cell? ⟨B + 1, 3, none⟩ = some (.int .i64 xo.f3) := (blk_cell H11.out.2.2.2.2.2.2.1 3).trans rfl
      have k6_4 : wc.cell? ⟨B + 1, 4, none⟩ = some (.int .i64 xo.f4) := (blk_cell H11.out.2.2.2.2.2.2.1 4).trans rfl
      have k6_5 : wc.cell? ⟨B + 1, 5, none⟩ = some (.bool xo.f5) := (blk_cell H11.out.2.2.2.2.2.2.1 5).trans rfl
      have k6_6 : wc.cell? ⟨B + 1, 6, none⟩ = some (.bool xo.f6) := (blk_cell H11.out.2.2.2.2.2.2.1 6).trans rfl
      have k6_7 : wc.cell? ⟨B + 1, 7, none⟩ = some (.bool xo.f7) := (blk_cell H11.out.2.2.2.2.2.2.1 7).trans rfl
      have k6_8 : wc.cell? ⟨B + 1, 8, none⟩ = some (.int .i64 xo.f8) := (blk_cell H11.out.2.2.2.2.2.2.1 8).trans rfl
      have k6_9 : wc.cell? ⟨B + 1, 9, none⟩ = some (.int .i64 xo.f9) := (blk_cell H11.out.2.2.2.2.2.2.1 9).trans rfl
      have k6_10 : wc.cell? ⟨B + 1, 10, none⟩ = some (.int .i64 xo.f10) := (blk_cell H11.out.2.2.2.2.2.2.1 10).trans rfl
      have k6_11 : wc.cell? ⟨B + 1, 11, none⟩ = some (.bool xo.f11) := (blk_cell H11.out.2.2.2.2.2.2.1 11).trans rfl
      go_wp2
      go_region
      refine rt_then ?_; intro W12 hw12
      have H12 := Lib.hid (show RtB w (.slice A1 l1.length c1) B #[.int .i64 g, .int .i64 a2, .int .i64 xo.f3, .int .i64 q3] #[.int .i64 0, .int .i64 0, .int .i64 0, .int .i64 0] #[.int .i64 0, .int .i64 0, .int .i64 0, .int .i64 0, .bool false, .int .i64 0, .int .i64 0, .int .i64 0] #[.int .i64 0] #[.int .i64 a2, .int .i64 ak, .int .i64 0, .int .i64 0, .bool xo.f11, .int .i64 g, .int .i64 xo.f8, .int .i64 0] #[.int .i64 xo.f0, .int .i64 xo.f1, .bool xo.f2, .int .i64 xo.f3, .int .i64 xo.f4, .bool xo.f5, .bool xo.f6, .bool xo.f7, .int .i64 xo.f8, .int .i64 xo.f9, .int .i64 xo.f10, .bool xo.f11] W12 from by rw [← hw12]; exact RtB.cast (by repeat (first | with_reducible exact H11.out | with_reducible apply RtB.set_q | with_reducible apply RtB.set_r8 | with_reducible apply RtB.set_r9 | with_reducible apply RtB.set_r10 | with_reducible apply RtB.set_s | with_reducible apply RtB.set_o | with_reducible apply RtB.drew)) (by first | with_reducible rfl | (simp only [List.setIfInBounds_toArray, List.set_cons_zero, List.set_cons_succ]; done)) (by first | with_reducible rfl | (simp only [List.setIfInBounds_toArray, List.set_cons_zero, List.set_cons_succ]; done)) (by first | with_reducible rfl | (simp only [List.setIfInBounds_toArray, List.set_cons_zero, List.set_cons_succ]; done)) (by first | with_reducible rfl | (simp only [List.setIfInBounds_toArray, List.set_cons_zero, List.set_cons_succ]; done)) (by first | with_reducible rfl | (simp only [List.setIfInBounds_toArray, List.set_cons_zero, List.set_cons_succ]; done)) (by first | with_reducible rfl | (simp only [List.setIfInBounds_toArray, List.set_cons_zero, List.set_cons_succ]; done)))
      have HK12 := Lib.hid (show W12.heap[D]? = some (.deferred (some [])) from by rw [← hw12]; repeat (first | with_reducible exact HK11.out | with_reducible refine rt_hdrew ?_ | (with_reducible refine heap_set ?_ (by first | assumption | (dsimp only; omega)))))
      clear hw12 k5_0 kf5_0 k5_1 kf5_1 k5_2 kf5_2 k5_3 kf5_3 k5_4 kf5_4 k5_5 kf5_5 k5_6 kf5_6 k5_7 kf5_7 k6_0 k6_1 k6_2 k6_3 k6_4 k6_5 k6_6 k6_7 k6_8 k6_9 k6_10 k6_11
      have k5_2 : W12.cell? ⟨B, 2, none⟩ = some (.int .i64 0) := (blk_cell H12.out.2.2.2.2.2.1 2).trans rfl
      have kf5_2 : W12.frozen? ⟨B, 2, none⟩ = false := blk_frozen H12.out.2.2.2.2.2.1 2
      have k6_3 : W12.cell? ⟨B + 1, 3, none⟩ = some (.int .i64 xo.f3) := (blk_cell H12.out.2.2.2.2.2.2.1 3).trans rfl
      have k6_4 : W12.cell? ⟨B + 1, 4, none⟩ = some (.int .i64 xo.f4) := (blk_cell H12.out.2.2.2.2.2.2.1 4).trans rfl
      obtain ⟨m1, hm1⟩ : ∃ m1, mx 0 (wrap64 (a2 - xo.f3)) = m1 := ⟨_, rfl⟩
      have hn1 : (if (0 : Int) < wrap64 (a2 - xo.f3) then wrap64 (a2 - xo.f3) else 0) = m1 := hm1
      have h7 : ((xo.f4 == 1) = true ∧ xo.f4 = 1) ∧ m1 = v7 ∨ ((xo.f4 == 1) = false ∧ ¬ xo.f4 = 1) ∧ 0 = v7 := by rw [← hm1]; exact H7.out
      clear hm1
      have HH7 := Lib.hid h7; clear h7
      go_upto_if 100 with (fail)
      go_cut [] from 73 to 106 (fun wx => RtB w (.slice A1 l1.length c1) B #[.int .i64 g, .int .i64 a2, .int .i64 xo.f3, .int .i64 q3] #[.int .i64 0, .int .i64 0, .int .i64 0, .int .i64 0] #[.int .i64 0, .int .i64 0, .int .i64 0, .int .i64 0, .bool false, .int .i64 0, .int .i64 0, .int .i64 0] #[.int .i64 0] #[.int .i64 a2, .int .i64 ak, .int .i64 v7, .int .i64 0, .bool xo.f11, .int .i64 g, .int .i64 xo.f8, .int .i64 0] #[.int .i64 xo.f0, .int .i64 xo.f1, .bool xo.f2, .int .i64 xo.f3, .int .i64 xo.f4, .bool xo.f5, .bool xo.f6, .bool xo.f7, .int .i64 xo.f8, .int .i64 xo.f9, .int .i64 xo.f10, .bool xo.f11] wx ∧ wx.heap[D]? = some (.deferred (some [])))
      case first =>
        rcases HH7.out with ⟨⟨d4, p4⟩, e4⟩ | ⟨⟨d4, p4⟩, e4⟩
        all_goals
          have E4 := Lib.hid e4; clear e4
          go_wp2
          go_meet
          exact ⟨RtB.cast (by repeat (first | with_reducible exact H12.out | with_reducible apply RtB.set_q | with_reducible apply RtB.set_r8 | with_reducible apply RtB.set_r9 | with_reducible apply RtB.set_r10 | with_reducible apply RtB.set_s | with_reducible apply RtB.set_o | with_reducible apply RtB.drew)) (by first | with_reducible rfl | (simp only [List.setIfInBounds_toArray, List.set_cons_zero, List.set_cons_succ]; done)) (by first | with_reducible rfl | (simp only [List.setIfInBounds_toArray, List.set_cons_zero, List.set_cons_succ]; done)) (by first | with_reducible rfl | (simp only [List.setIfInBounds_toArray, List.set_cons_zero, List.set_cons_succ]; done)) (by first | with_reducible rfl | (simp only [List.setIfInBounds_toArray, List.set_cons_zero, List.set_cons_succ]; done)) (by first | with_reducible rfl | (simp only [List.setIfInBounds_toArray, List.set_cons_zero, List.set_cons_succ]; done) | (rw [← E4.out]; first | done | (simp only [List.setIfInBounds_toArray, List.set_cons_zero, List.set_cons_succ]; done))) (by first | with_reducible rfl | (simp only [List.setIfInBounds_toArray, List.set_cons_zero, List.set_cons_succ]; done)), by repeat (first | with_reducible exact HK12.out | with_reducible refine rt_hdrew ?_ | (with_reducible refine heap_set ?_ (by first | assumption | (dsimp only; omega))))⟩
      case rest =>
      obtain ⟨h13, k13⟩ := hcut
      have H13 := Lib.hid h13; have HK13 := Lib.hid k13
      clear h13 k13 hn1 HH7 k5_2 kf5_2 k6_3 k6_4
      have k0_0 : wc.cell? ⟨w.heap.size, 0, none⟩ = some (.int .i64 g) := (blk_cell H13.out.1 0).trans rfl
      have k5_3 : wc.cell? ⟨B, 3, none⟩ = some (.int .i64 0) := (blk_cell H13.out.2.2.2.2.2.1 3).trans rfl
      have kf5_3 : wc.frozen? ⟨B, 3, none⟩ = false := blk_frozen H13.out.2.2.2.2.2.1 3
      have k6_3 : wc.cell? ⟨B + 1, 3, none⟩ = some (.int .i64 xo.f3) := (blk_cell H13.out.2.2.2.2.2.2.1 3).trans rfl
      have k6_8 : wc.cell? ⟨B + 1, 8, none⟩ = some (.int .i64 xo.f8) := (blk_cell H13.out.2.2.2.2.2.2.1 8).trans rfl
      have k6_9 : wc.cell? ⟨B + 1, 9, none⟩ = some (.int .i64 xo.f9) := (blk_cell H13.out.2.2.2.2.2.2.1 9).trans rfl
      have k6_10 : wc.cell? ⟨B + 1, 10, none⟩ = some (.int .i64 xo.f10) := (blk_cell H13.out.2.2.2.2.2.2.1 10).trans rfl
      obtain ⟨m2, hm2⟩ : ∃ m2, mx (wrap64 (xo.f3 - xo.f10)) (wrap64 (a2 - xo.f9)) = m2 := ⟨_, rfl⟩
      obtain ⟨m3, hm3⟩ : ∃ m3, mx 1 a3 = m3 := ⟨_, rfl⟩
      have hn2 : (if wrap64 (xo.f3 - xo.f10) < wrap64 (a2 - xo.f9) then wrap64 (a2 - xo.f9) else wrap64 (xo.f3 - xo.f10)) = m2 := hm2
      have hn3 : (if (1 : Int) < a3 then a3 else 1) = m3 := hm3
      have h8 : ((decide (m3 ≤ m2) = true ∧ m3 ≤ m2) ∧ (decide (xo.f8 < g) = true ∧ xo.f8 < g) ∧ (∃ z, seq_MulDiv.f 2 (wrap64 (g - xo.f8)) 1000000 m2 = some (rv, z))) ∨ ((decide (m3 ≤ m2) = true ∧ m3 ≤ m2) ∧ (decide (xo.f8 < g) = false ∧ g ≤ xo.f8) ∧ 0 = rv) ∨ ((decide (m3 ≤ m2) = false ∧ m2 < m3) ∧ 0 = rv) := by rw [← hm2, ← hm3]; exact H8.out
      clear hm2 hm3
      have HH8 := Lib.hid h8; clear h8
      rcases HH8.out with ⟨⟨d5, p5⟩, ⟨d6, p6⟩, z, hz8⟩ | ⟨⟨d5, p5⟩, ⟨d6, p6⟩, e8⟩ | ⟨⟨d5, p5⟩, e8⟩
      · have HZ := Lib.hid hz8; clear hz8
        go_wp2_with (go_at_call 16; (with_reducible refine (seq_MulDiv.calls 2 _ _ _ rv z _ HZ.out).mono ?_); rintro e W13 ⟨rfl, hb⟩; have H15 := Lib.hid (show RtB w (.slice A1 l1.length c1) B #[.int .i64 g, .int .i64 a2, .int .i64 xo.f3, .int .i64 q3] #[.int .i64 0, .int .i64 0, .int .i64 0, .int .i64 0] #[.int .i64 0, .int .i64 0, .int .i64 0, .int .i64 0, .bool false, .int .i64 0, .int .i64 0, .int .i64 0] #[.int .i64 0] #[.int .i64 a2, .int .i64 ak, .int .i64 v7, .int .i64 0, .bool xo.f11, .int .i64 g, .int .i64 xo.f8, .int .i64 0] #[.int .i64 xo.f0, .int .i64 xo.f1, .bool xo.f2, .int .i64 xo.f3, .int .i64 xo.f4, .bool xo.f5, .bool xo.f6, .bool xo.f7, .int .i64 xo.f8, .int .i64 xo.f9, .int .i64 xo.f10, .bool xo.f11] W13 from RtB.below H13.out hb); have HK15 := Lib.hid (show W13.heap[D]? = some (.deferred (some [])) from rt_hbelow hb HK13.out); clear hb; have u5_3 : W13.cell? ⟨B, 3, none⟩ = some (.int .i64 0) := (blk_cell H15.out.2.2.2.2.2.1 3).trans rfl; have uf5_3 : W13.frozen? ⟨B, 3, none⟩ = false := blk_frozen H15.out.2.2.2.2.2.1 3)
        refine rt_wpg ?_; intro W14 hw14
        have H14 := Lib.hid (show RtB w (.slice A1 l1.length c1) B #[.int .i64 g, .int .i64 a2, .int .i64 xo.f3, .int .i64 q3] #[.int .i64 0, .int .i64 0, .int .i64 0, .int .i64 0] #[.int .i64 0, .int .i64 0, .int .i64 0, .int .i64 0, .bool false, .int .i64 0, .int .i64 0, .int .i64 0] #[.int .i64 0] #[.int .i64 a2, .int .i64 ak, .int .i64 v7, .int .i64 rv, .bool xo.f11, .int .i64 g, .int .i64 xo.f8, .int .i64 0] #[.int .i64 xo.f0, .int .i64 xo.f1, .bool xo.f2, .int .i64 xo.f3, .int .i64 xo.f4, .bool xo.f5, .bool xo.f6, .bool xo.f7, .int .i64 xo.f8, .int .i64 xo.f9, .int .i64 xo.f10, .bool xo.f11] W14 from by rw [← hw14]; exact RtB.cast (by repeat (first | with_reducible exact H15.out | with_reducible apply RtB.set_q | with_reducible apply RtB.set_r8 | with_reducible apply RtB.set_r9 | with_reducible apply RtB.set_r10 | with_reducible apply RtB.set_s | with_reducible apply RtB.set_o | with_reducible apply RtB.drew)) (by first | with_reducible rfl | (simp only [List.setIfInBounds_toArray, List.set_cons_zero, List.set_cons_succ]; done)) (by first | with_reducible rfl | (simp only [List.setIfInBounds_toArray, List.set_cons_zero, List.set_cons_succ]; done)) (by first | with_reducible rfl | (simp only [List.setIfInBounds_toArray, List.set_cons_zero, List.set_cons_succ]; done)) (by first | with_reducible rfl | (simp only [List.setIfInBounds_toArray, List.set_cons_zero, List.set_cons_succ]; done)) (by first | with_reducible rfl | (simp only [List.setIfInBounds_toArray, List.set_cons_zero, List.set_cons_succ]; done)) (by first | with_reducible rfl | (simp only [List.setIfInBounds_toArray, List.set_cons_zero, List.set_cons_succ]; done)))
        have HK14 := Lib.hid (show W14.heap[D]? = some (.deferred (some [])) from by rw [← hw14]; repeat (first | with_reducible exact HK15.out | with_reducible refine rt_hdrew ?_ | (with_reducible refine heap_set ?_ (by first | assumption | (dsimp only; omega)))))
        clear hw14 u5_3 uf5_3 hn2 hn3 d5 d6 p5 p6 k0_0 k5_3 kf5_3 k6_3 k6_8 k6_9 k6_10
        have k0_0 : W14.cell? ⟨w.heap.size, 0, none⟩ = some (.int .i64 g) := (blk_cell H14.out.1 0).trans rfl
        have k0_1 : W14.cell? ⟨w.heap.size, 1, none⟩ = some (.int .i64 a2) := (blk_cell H14.out.1 1).trans rfl
        have k0_2 : W14.cell? ⟨w.heap.size, 2, none⟩ = some (.int .i64 xo.f3) := (blk_cell H14.out.1 2).trans rfl
        have k0_3 : W14.cell? ⟨w.heap.size, 3, none⟩ = some (.int .i64 q3) := (blk_cell H14.out.1 3).trans rfl
        have k5_0 : W14.cell? ⟨B, 0, none⟩ = some (.int .i64 a2) := (blk_cell H14.out.2.2.2.2.2.1 0).trans rfl
        have k5_1 : W14.cell? ⟨B, 1, none⟩ = some (.int .i64 ak) := (blk_cell H14.out.2.2.2.2.2.1 1).trans rfl
        have k5_2 : W14.cell? ⟨B, 2, none⟩ = some (.int .i64 v7) := (blk_cell H14.out.2.2.2.2.2.1 2).trans rfl
        have k5_3 : W14.cell? ⟨B, 3, none⟩ = some (.int .i64 rv) := (blk_cell H14.out.2.2.2.2.2.1 3).trans rfl
        have k5_4 : W14.cell? ⟨B, 4, none⟩ = some (.bool xo.f11) := (blk_cell H14.out.2.2.2.2.2.1 4).trans rfl
        have k5_5 : W14.cell? ⟨B, 5, none⟩ = some (.int .i64 g) := (blk_cell H14.out.2.2.2.2.2.1 5).trans rfl
        have k5_6 : W14.cell? ⟨B, 6, none⟩ = some (.int .i64 xo.f8) := (blk_cell H14.out.2.2.2.2.2.1 6).trans rfl
        have k5_7 : W14.cell? ⟨B, 7, none⟩ = some (.int .i64 0) := (blk_cell H14.out.2.2.2.2.2.1 7).trans rfl
        have k2_0 : W14.cell? ⟨w.heap.size + 1 + 1, 0, none⟩ = some (.int .i64 0) := (blk_cell H14.out.2.2.1 0).trans rfl
        have kf2_0 : W14.frozen? ⟨w.heap.size + 1 + 1, 0, none⟩ = false := blk_frozen H14.out.2.2.1 0
        have k2_1 : W14.cell? ⟨w.heap.size + 1 + 1, 1, none⟩ = some (.int .i64 0) := (blk_cell H14.out.2.2.1 1).trans rfl
        have kf2_1 : W14.frozen? ⟨w.heap.size + 1 + 1, 1, none⟩ = false := blk_frozen H14.out.2.2.1 1
        have k2_2 : W14.cell? ⟨w.heap.size + 1 + 1, 2, none⟩ = some (.int .i64 0) := (blk_cell H14.out.2.2.1 2).trans rfl
        have kf2_2 : W14.frozen? ⟨w.heap.size + 1 + 1, 2, none⟩ = false := blk_frozen H14.out.2.2.1 2
        have k2_3 : W14.cell? ⟨w.heap.size + 1 + 1, 3, none⟩ = some (.int .i64 0) := (blk_cell H14.out.2.2.1 3).trans rfl
        have kf2_3 : W14.frozen? ⟨w.heap.size + 1 + 1, 3, none⟩ = false := blk_frozen H14.out.2.2.1 3
        have k3_0 : W14.cell? ⟨w.heap.size + 1 + 1 + 1, 0, none⟩ = some (.int .i64 0) := (blk_cell H14.out.2.2.2.1 0).trans rfl
        have kf3_0 : W14.frozen? ⟨w.heap.size + 1 + 1 + 1, 0, none⟩ = false := blk_frozen H14.out.2.2.2.1 0
        have k3_1 : W14.cell? ⟨w.heap.size + 1 + 1 + 1, 1, none⟩ = some (.int .i64 0) := (blk_cell H14.out.2.2.2.1 1).trans rfl
        have kf3_1 : W14.frozen? ⟨w.heap.size + 1 + 1 + 1, 1, none⟩ = false := blk_frozen H14.out.2.2.2.1 1
        have k3_2 : W14.cell? ⟨w.heap.size + 1 + 1 + 1, 2, none⟩ = some (.int .i64 0) := (blk_cell H14.out.2.2.2.1 2).trans rfl
        have kf3_2 : W14.frozen? ⟨w.heap.size + 1 + 1 + 1, 2, none⟩ = false := blk_frozen H14.out.2.2.2.1 2
        have k3_3 : W14.cell? ⟨w.heap.size + 1 + 1 + 1, 3, none⟩ = some (.int .i64 0) := (blk_cell H14.out.2.2.2.1 3).trans rfl
        have kf3_3 : W14.frozen? ⟨w.heap.size + 1 + 1 + 1, 3, none⟩ = false := blk_frozen H14.out.2.2.2.1 3
        have k3_4 : W14.cell? ⟨w.heap.size + 1 + 1 + 1, 4, none⟩ = some (.bool false) := (blk_cell H14.out.2.2.2.1 4).trans rfl
        have kf3_4 : W14.frozen? ⟨w.heap.size + 1 + 1 + 1, 4, none⟩ = false := blk_frozen H14.out.2.2.2.1 4
        have k3_5 : W14.cell? ⟨w.heap.size + 1 + 1 + 1, 5, none⟩ = some (.int .i64 0) := (blk_cell H14.out.2.2.2.1 5).trans rfl
        have kf3_5 : W14.frozen? ⟨w.heap.size + 1 + 1 + 1, 5, none⟩ = false := blk_frozen H14.out.2.2.2.1 5
        have k3_6 : W14.cell? ⟨w.heap.size + 1 + 1 + 1, 6, none⟩ = some (.int .i64 0) := (blk_cell H14.out.2.2.2.1 6).trans rfl
        have kf3_6 : W14.frozen? ⟨w.heap.size + 1 + 1 + 1, 6, none⟩ = false := blk_frozen H14.out.2.2.2.1 6
        have k3_7 : W14.cell? ⟨w.heap.size + 1 + 1 + 1, 7, none⟩ = some (.int .i64 0) := (blk_cell H14.out.2.2.2.1 7).trans rfl
        have kf3_7 : W14.frozen? ⟨w.heap.size + 1 + 1 + 1, 7, none⟩ = false := blk_frozen H14.out.2.2.2.1 7
        have k4_0 : W14.cell? ⟨w.heap.size + 1 + 1 + 1 + 1, 0, none⟩ = some (.int .i64 0) := (blk_cell H14.out.2.2.2.2.1 0).trans rfl
        have kf4_0 : W14.frozen? ⟨w.heap.size + 1 + 1 + 1 + 1, 0, none⟩ = false := blk_frozen H14.out.2.2.2.2.1 0
        go_region
        refine rt_then ?_; intro W15 hw15
        have H15 := Lib.hid (show RtB w (.slice A1 l1.length c1) B #[.int .i64 g, .int .i64 a2, .int .i64 xo.f3, .int .i64 q3] #[.int .i64 g, .int .i64 a2, .int .i64 xo.f3, .int .i64 q3] #[.int .i64 a2, .int .i64 ak, .int .i64 v7, .int .i64 rv, .bool xo.f11, .int .i64 g, .int .i64 xo.f8, .int .i64 0] #[.int .i64 0] #[.int .i64 a2, .int .i64 ak, .int .i64 v7, .int .i64 rv, .bool xo.f11, .int .i64 g, .int .i64 xo.f8, .int .i64 0] #[.int .i64 xo.f0, .int .i64 xo.f1, .bool xo.f2, .int .i64 xo.f3, .int .i64 xo.f4, .bool xo.f5, .bool xo.f6, .bool xo.f7, .int .i64 xo.f8, .int .i64 xo.f9, .int .i64 xo.f10, .bool xo.f11] W15 from by rw [← hw15]; exact RtB.cast (by repeat (first | with_reducible exact H14.out | with_reducible apply RtB.set_q | with_reducible apply RtB.set_r8 | with_reducible apply RtB.set_r9 | with_reducible apply RtB.set_r10 | with_reducible apply RtB.set_s | with_reducible apply RtB.set_o | with_reducible apply RtB.drew)) (by first | with_reducible rfl | (simp only [List.setIfInBounds_toArray, List.set_cons_zero, List.set_cons_succ]; done)) (by first | with_reducible rfl | (simp only [List.setIfInBounds_toArray, List.set_cons_zero, List.set_cons_succ]; done)) (by first | with_reducible rfl | (simp only [List.setIfInBounds_toArray, List.set_cons_zero, List.set_cons_succ]; done)) (by first | with_reducible rfl | (simp only [List.setIfInBounds_toArray, List.set_cons_zero, List.set_cons_succ]; done)) (by first | with_reducible rfl | (simp only [List.setIfInBounds_toArray, List.set_cons_zero, List.set_cons_succ]; done)) (by first | with_reducible rfl | (simp only [List.setIfInBounds_toArray, List.set_cons_zero, List.set_cons_succ]; done)))
        have HK15 := Lib.hid (show W15.heap[D]? = some (.deferred (some [])) from by rw [← hw15]; repeat (first | with_reducible exact HK14.out | with_reducible refine rt_hdrew ?_ | (with_reducible refine heap_set ?_ (by first | assumption | (dsimp only; omega)))))
        clear hw15 k0_0 k0_1 k0_2 k0_3 k5_0 k5_1 k5_2 k5_3 k5_4 k5_5 k5_6 k5_7 k2_0 kf2_0 k2_1 kf2_1 k2_2 kf2_2 k2_3 kf2_3 k3_0 kf3_0 k3_1 kf3_1 k3_2 kf3_2 k3_3 kf3_3 k3_4 kf3_4 k3_5 kf3_5 k3_6 kf3_6 k3_7 kf3_7 k4_0 kf4_0
        go_wp2
        refine ⟨by simp, .inl ⟨_, _, rfl, run_takeDeferred HK15.out, ?_⟩⟩
        have h2 := (H15.out).grown (grownBy_putObj' W15 D (.deferred none)) (fun r e => by cases e; exact ⟨Nat.le_trans H5.out.2.2.2.2.2.2.2.2.size hD, _, HK15.out, rfl⟩)
        exact ⟨_, rt_res _ _ (w.heap.size + 1 + 1) (w.heap.size + 1 + 1 + 1) (w.heap.size + 1 + 1 + 1 + 1) _ _ _ rfl rfl rfl h2.2.2.1 h2.2.2.2.1 h2.2.2.2.2.1 rfl rfl, rfl, h2.2.2.2.2.2.2.2.2⟩
      all_goals
        have E8 := Lib.hid e8; clear e8
        go_wp2
        refine rt_wpg ?_; intro W14 hw14
        have H14 := Lib.hid (show RtB w (.slice A1 l1.length c1) B #[.int .i64 g, .int .i64 a2, .int .i64 xo.f3, .int .i64 q3] #[.int .i64 0, .int .i64 0, .int .i64 0, .int .i64 0] #[.int .i64 0, .int .i64 0, .int .i64 0, .int .i64 0, .bool false, .int .i64 0, .int .i64 0, .int .i64 0] #[.int .i64 0] #[.int .i64 a2, .int .i64 ak, .int .i64 v7, .int .i64 rv, .bool xo.f11, .int .i64 g, .int .i64 xo.f8, .int .i64 0] #[.int .i64 xo.f0, .int .i64 xo.f1, .bool xo.f2, .int .i64 xo.f3, .int .i64 xo.f4, .bool xo.f5, .bool xo.f6, .bool xo.f7, .int .i64 xo.f8, .int .i64 xo.f9, .int .i64 xo.f10, .bool xo.f11] W14 from by rw [← hw14]; exact RtB.cast (by repeat (first | with_reducible exact H13.out | with_reducible apply RtB.set_q | with_reducible apply RtB.set_r8 | with_reducible apply RtB.set_r9 | with_reducible apply RtB.set_r10 | with_reducible apply RtB.set_s | with_reducible apply RtB.set_o | with_reducible apply RtB.drew)) (by first | with_reducible rfl | (simp only [List.setIfInBounds_toArray, List.set_cons_zero, List.set_cons_succ]; done)) (by first | with_reducible rfl | (simp only [List.setIfInBounds_toArray, List.set_cons_zero, List.set_cons_succ]; done)) (by first | with_reducible rfl | (simp only [List.setIfInBounds_toArray, List.set_cons_zero, List.set_cons_succ]; done)) (by first | with_reducible rfl | (simp only [List.setIfInBounds_toArray, List.set_cons_zero, List.set_cons_succ]; done)) (by first | with_reducible rfl | (simp only [List.setIfInBounds_toArray, List.set_cons_zero, List.set_cons_succ]; done) | (rw [← E8.out]; first | done | (simp only [List.setIfInBounds_toArray, List.set_cons_zero, List.set_cons_succ]; done))) (by first | with_reducible rfl | (simp only [List.setIfInBounds_toArray, List.set_cons_zero, List.set_cons_succ]; done)))
        have HK14 := Lib.hid (show W14.heap[D]? = some (.deferred (some [])) from by rw [← hw14]; repeat (first | with_reducible exact HK13.out | with_reducible refine rt_hdrew ?_ | (with_reducible refine heap_set ?_ (by first | assumption | (dsimp only; omega)))))
        clear hw14 hn2 hn3 d5 p5 k0_0 k5_3 kf5_3 k6_3 k6_8 k6_9 k6_10
        have k0_0 : W14.cell? ⟨w.heap.size, 0, none⟩ = some (.int .i64 g) := (blk_cell H14.out.1 0).trans rfl
        have k0_1 : W14.cell? ⟨w.heap.size, 1, none⟩ = some (.int .i64 a2) := (blk_cell H14.out.1 1).trans rfl
        have k0_2 : W14.cell? ⟨w.heap.size, 2, none⟩ = some (.int .i64 xo.f3) := (blk_cell H14.out.1 2).trans rfl
        have k0_3 : W14.cell? ⟨w.heap.size, 3, none⟩ = some (.int .i64 q3) := (blk_cell H14.out.1 3).trans rfl
        have k5_0 : W14.cell? ⟨B, 0, none⟩ = some (.int .i64 a2) := (blk_cell H14.out.2.2.2.2.2.1 0).trans rfl
        have k5_1 : W14.cell? ⟨B, 1, none⟩ = some (.int .i64 ak) := (blk_cell H14.out.2.2.2.2.2.1 1).trans rfl
        have k5_2 : W14.cell? ⟨B, 2, none⟩ = some (.int .i64 v7) := (blk_cell H14.out.2.2.2.2.2.1 2).trans rfl
        have k5_3 : W14.cell? ⟨B, 3, none⟩ = some (.int .i64 rv) := (blk_cell H14.out.2.2.2.2.2.1 3).trans rfl
        have k5_4 : W14.cell? ⟨B, 4, none⟩ = some (.bool xo.f11) := (blk_cell H14.out.2.2.2.2.2.1 4).trans rfl
        have k5_5 : W14.cell? ⟨B, 5, none⟩ = some (.int .i64 g) := (blk_cell H14.out.2.2.2.2.2.1 5).trans rfl
        have k5_6 : W14.cell? ⟨B, 6, none⟩ = some (.int .i64 xo.f8) := (blk_cell H14.out.2.2.2.2.2.1 6).trans rfl
        have k5_7 : W14.cell? ⟨B, 7, none⟩ = some (.int .i64 0) := (blk_cell H14.out.2.2.2.2.2.1 7).trans rfl
        have k2_0 : W14.cell? ⟨w.heap.size + 1 + 1, 0, none⟩ = some (.int .i64 0) := (blk_cell H14.out.2.2.1 0).trans rfl
        have kf2_0 : W14.frozen? ⟨w.heap.size + 1 + 1, 0, none⟩ = false := blk_frozen H14.out.2.2.1 0
        have k2_1 : W14.cell? ⟨w.heap.size + 1 + 1, 1, none⟩ = some (.int .i64 0) := (blk_cell H14.out.2.2.1 1).trans rfl
        have kf2_1 : W14.frozen? ⟨w.heap.size + 1 + 1, 1, none⟩ = false := blk_frozen H14.out.2.2.1 1
        have k2_2 : W14.cell? ⟨w.heap.size + 1 + 1, 2, none⟩ = some (.int .i64 0) := (blk_cell H14.out.2.2.1 2).trans rfl
        have kf2_2 : W14.frozen? ⟨w.heap.size + 1 + 1, 2, none⟩ = false := blk_frozen H14.out.2.2.1 2
        have k2_3 : W14.cell? ⟨w.heap.size + 1 + 1, 3, none⟩ = some (.int .i64 0) := (blk_cell H14.out.2.2.1 3).trans rfl
        have kf2_3 : W14.frozen? ⟨w.heap.size + 1 + 1, 3, none⟩ = false := blk_frozen H14.out.2.2.1 3
        have k3_0 : W14.cell? ⟨w.heap.size + 1 + 1 + 1, 0, none⟩ = some (.int .i64 0) := (blk_cell H14.out.2.2.2.1 0).trans rfl
        have kf3_0 : W14.frozen? ⟨w.heap.size + 1 + 1 + 1, 0, none⟩ = false := blk_frozen H14.out.2.2.2.1 0
        have k3_1 : W14.cell? ⟨w.heap.size + 1 + 1 + 1, 1, none⟩ = some (.int .i64 0) := (blk_cell H14.out.2.2.2.1 1).trans rfl
        have kf3_1 : W14.frozen? ⟨w.heap.size + 1 + 1 + 1, 1, none⟩ = false := blk_frozen H14.out.2.2.2.1 1
        have k3_2 : W14.cell? ⟨w.heap.size + 1 + 1 + 1, 2, none⟩ = some (.int .i64 0) := (blk_cell H14.out.2.2.2.1 2).trans rfl
        have kf3_2 : W14.frozen? ⟨w.heap.size + 1 + 1 + 1, 2, none⟩ = false := blk_frozen H14.out.2.2.2.1 2
        have k3_3 : W14.cell? ⟨w.heap.size + 1 + 1 + 1, 3, none⟩ = some (.int .i64 0) := (blk_cell H14.out.2.2.2.1 3).trans rfl
        have kf3_3 : W14.frozen? ⟨w.heap.size + 1 + 1 + 1, 3, none⟩ = false := blk_frozen H14.out.2.2.2.1 3
        have k3_4 : W14.cell? ⟨w.heap.size + 1 + 1 + 1, 4, none⟩ = some (.bool false) := (blk_cell H14.out.2.2.2.1 4).trans rfl
        have kf3_4 : W14.frozen? ⟨w.heap.size + 1 + 1 + 1, 4, none⟩ = false := blk_frozen H14.out.2.2.2.1 4
        have k3_5 : W14.cell? ⟨w.heap.size + 1 + 1 + 1, 5, none⟩ = some (.int .i64 0) := (blk_cell H14.out.2.2.2.1 5).trans rfl
        have kf3_5 : W14.frozen? ⟨w.heap.size + 1 + 1 + 1, 5, none⟩ = false := blk_frozen H14.out.2.2.2.1 5
        have k3_6 : W14.cell? ⟨w.heap.size + 1 + 1 + 1, 6, none⟩ = some (.int .i64 0) := (blk_cell H14.out.2.2.2.1 6).trans rfl
        have kf3_6 : W14.frozen? ⟨w.heap.size + 1 + 1 + 1, 6, none⟩ = false := blk_frozen H14.out.2.2.2.1 6
        have k3_7 : W14.cell? ⟨w.heap.size + 1 + 1 + 1, 7, none⟩ = some (.int .i64 0) := (blk_cell H14.out.2.2.2.1 7).trans rfl
        have kf3_7 : W14.frozen? ⟨w.heap.size + 1 + 1 + 1, 7, none⟩ = false := blk_frozen H14.out.2.2.2.1 7
        have k4_0 : W14.cell? ⟨w.heap.size + 1 + 1 + 1 + 1, 0, none⟩ = some (.int .i64 0) := (blk_cell H14.out.2.2.2.2.1 0).trans rfl
        have kf4_0 : W14.frozen? ⟨w.heap.size + 1 + 1 + 1 + 1, 0, none⟩ = false := blk_frozen H14.out.2.2.2.2.1 0
        go_region
        refine rt_then ?_; intro W15 hw15
        have H15 := Lib.hid (show RtB w (.slice A1 l1.length c1) B #[.int .i64 g, .int .i64 a2, .int .i64 xo.f3, .int .i64 q3] #[.int .i64 g, .int .i64 a2, .int .i64 xo.f3, .int .i64 q3] #[.int .i64 a2, .int .i64 ak, .int .i64 v7, .int .i64 rv, .bool xo.f11, .int .i64 g, .int .i64 xo.f8, .int .i64 0] #[.int .i64 0] #[.int .i64 a2, .int .i64 ak, .int .i64 v7, .int .i64 rv, .bool xo.f11, .int .i64 g, .int .i64 xo.f8, .int .i64 0] #[.int .i64 xo.f0, .int .i64 xo.f1, .bool xo.f2, .int .i64 xo.f3, .int .i64 xo.f4, .bool xo.f5, .bool xo.f6, .bool xo.f7, .int .i64 xo.f8, .int .i64 xo.f9, .int .i64 xo.f10, .bool xo.f11] W15 from by rw [← hw15]; exact RtB.cast (by repeat (first | with_reducible exact H14.out | with_reducible apply RtB.set_q | with_reducible apply RtB.set_r8 | with_reducible apply RtB.set_r9 | with_reducible apply RtB.set_r10 | with_reducible apply RtB.set_s | with_reducible apply RtB.set_o | with_reducible apply RtB.drew)) (by first | with_reducible rfl | (simp only [List.setIfInBounds_toArray, List.set_cons_zero, List.set_cons_succ]; done)) (by first | with_reducible rfl | (simp only [List.setIfInBounds_toArray, List.set_cons_zero, List.set_cons_succ]; done)) (by first | with_reducible rfl | (simp only [List.setIfInBounds_toArray, List.set_cons_zero, List.set_cons_succ]; done)) (by first | with_reducible rfl | (simp only [List.setIfInBounds_toArray, List.set_cons_zero, List.set_cons_succ]; done)) (by first | with_reducible rfl | (simp only [List.setIfInBounds_toArray, List.set_cons_zero, List.set_cons_succ]; done)) (by first | with_reducible rfl | (simp only [List.setIfInBounds_toArray, List.set_cons_zero, List.set_cons_succ]; done)))
        have HK15 := Lib.hid (show W15.heap[D]? = some (.deferred (some [])) from by rw [← hw15]; repeat (first | with_reducible exact HK14.out | with_reducible refine rt_hdrew ?_ | (with_reducible refine heap_set ?_ (by first | assumption | (dsimp only; omega)))))
        clear hw15 k0_0 k0_1 k0_2 k0_3 k5_0 k5_1 k5_2 k5_3 k5_4 k5_5 k5_6 k5_7 k2_0 kf2_0 k2_1 kf2_1 k2_2 kf2_2 k2_3 kf2_3 k3_0 kf3_0 k3_1 kf3_1 k3_2 kf3_2 k3_3 kf3_3 k3_4 kf3_4 k3_5 kf3_5 k3_6 kf3_6 k3_7 kf3_7 k4_0 kf4_0
        go_wp2
        refine ⟨by simp, .inl ⟨_, _, rfl, run_takeDeferred HK15.out, ?_⟩⟩
        have h2 := (H15.out).grown (grownBy_putObj' W15 D (.deferred none)) (fun r e => by cases e; exact ⟨Nat.le_trans H5.out.2.2.2.2.2.2.2.2.size hD, _, HK15.out, rfl⟩)
        exact ⟨_, rt_res _ _ (w.heap.size + 1 + 1) (w.heap.size + 1 + 1 + 1) (w.heap.size + 1 + 1 + 1 + 1) _ _ _ rfl rfl rfl h2.2.2.1 h2.2.2.2.1 h2.2.2.2.2.1 rfl rfl, rfl, h2.2.2.2.2.2.2.2.2⟩
  case body =>
    rintro l pre x W ⟨hall, hI⟩ hlen
    have hx : x.val < l1.length := x.isLt
    obtain ⟨i, hi⟩ : ∃ i, x.val = i := ⟨_, rfl⟩
    obtain ⟨s, hs⟩ : ∃ s, rt_fold a0_0 l1 pre = s := ⟨_, rfl⟩
    rw [hs] at hI
    obtain ⟨g, ak, xo⟩ := s
    simp only at hI
    have kl0 : W.cell? ⟨w.heap.size + 1, 0, none⟩ = some (.slice A1 l1.length c1) := (blk_cell hI.2.1 0).trans rfl
    obtain ⟨ad, had, hv0, hv1, hv2, hv3, hv4, hv5, hv6, hv7, hv8, hv9, hv10, hv11⟩ := at_T33 HC.out (i : Int) (by omega) (by omega)
    obtain rfl := had
    have he0 := (hI.2.2.2.2.2.2.2.2.cell (World.block_lt_of_cell? w _ hv0)).trans hv0
    have he1 := (hI.2.2.2.2.2.2.2.2.cell (World.block_lt_of_cell? w _ hv1)).trans hv1
    have he2 := (hI.2.2.2.2.2.2.2.2.cell (World.block_lt_of_cell? w _ hv2)).trans hv2
    have he3 := (hI.2.2.2.2.2.2.2.2.cell (World.block_lt_of_cell? w _ hv3)).trans hv3
    have he4 := (hI.2.2.2.2.2.2.2.2.cell (World.block_lt_of_cell? w _ hv4)).trans hv4
    have he5 := (hI.2.2.2.2.2.2.2.2.cell (World.block_lt_of_cell? w _ hv5)).trans hv5
    have he6 := (hI.2.2.2.2.2.2.2.2.cell (World.block_lt_of_cell? w _ hv6)).trans hv6
    have he7 := (hI.2.2.2.2.2.2.2.2.cell (World.block_lt_of_cell? w _ hv7)).trans hv7
    have he8 := (hI.2.2.2.2.2.2.2.2.cell (World.block_lt_of_cell? w _ hv8)).trans hv8
    have he9 := (hI.2.2.2.2.2.2.2.2.cell (World.block_lt_of_cell? w _ hv9)).trans hv9
    have he10 := (hI.2.2.2.2.2.2.2.2.cell (World.block_lt_of_cell? w _ hv10)).trans hv10
    have he11 := (hI.2.2.2.2.2.2.2.2.cell (World.block_lt_of_cell? w _ hv11)).trans hv11
    have hg : rd_T33 l1 (i : Int) = l1[x] := by rw [rd_T33, Int.toNat_natCast, List.getD_eq_getElem?_getD, ← hi, List.getElem?_eq_getElem hx]; rfl
    simp only [Int.toNat_natCast] at he0 he1 he2 he3 he4 he5 he6 he7 he8 he9 he10 he11 hv0 hv1 hv2 hv3 hv4 hv5 hv6 hv7 hv8 hv9 hv10 hv11
    obtain ⟨xe, hxe⟩ : ∃ xe, l1[x] = xe := ⟨_, rfl⟩
    rw [hg, hxe] at he0 he1 he2 he3 he4 he5 he6 he7 he8 he9 he10 he11 hv0 hv1 hv2 hv3 hv4 hv5 hv6 hv7 hv8 hv9 hv10 hv11
    have HV0 := Lib.hid hv0; clear hv0; have HV1 := Lib.hid hv1; clear hv1; have HV2 := Lib.hid hv2; clear hv2; have HV3 := Lib.hid hv3; clear hv3; have HV4 := Lib.hid hv4; clear hv4; have HV5 := Lib.hid hv5; clear hv5; have HV6 := Lib.hid hv6; clear hv6; have HV7 := Lib.hid hv7; clear hv7; have HV8 := Lib.hid hv8; clear hv8; have HV9 := Lib.hid hv9; clear hv9; have HV10 := Lib.hid hv10; clear hv10; have HV11 := Lib.hid hv11; clear hv11
    have HXE := Lib.hid hxe; have HS := Lib.hid hs
    rw [show rt_n l1[x] = rt_n xe from by rw [hxe], hi]
    have HI := Lib.hid hI; clear hI
    have HALL := Lib.hid hall; clear hall
    have hi0 : (0 : Int) ≤ (i : Int) := by omega
    have hi1 : (i : Int) < (l1.length : Int) := by omega
    have HX := Lib.hid hi; clear hi hxe hg hs
    have hmix : Try.prog.follows .mixedOrders = true := by kernel_rfl
    obtain ⟨rb, hrb⟩ : ∃ rb, rt_rec xe = rb := ⟨_, rfl⟩
    have HR := Lib.hid ((rt_rec_f xe).trans (congrArg some hrb))
    have HRB := Lib.hid hrb; clear hrb
    cases rb with
    | false =>
      gi_wp2_with (refine ⟨trivial, ?_⟩; gi_at_call 14; refine (CallsIn.inRound l (callsIn_wide.2 (rate_rec.calls 9 xe.f0 xe.f1 xe.f2 xe.f3 xe.f4 xe.f5 xe.f6 xe.f7 xe.f8 xe.f9 xe.f10 xe.f11 false _ HR.out))).mono ?_; rintro e W8 ⟨rfl, hb⟩; have HK8 := Lib.hid (KeepsOthers.of_grownBy (grown_none hb) (by intro j o hj; cases hj)); have HB8 := Lib.hid hb; have HI8 := Lib.hid (HI.out.below hb); clear hb; have z8_0 : W8.cell? ⟨w.heap.size + 1 + 1, 0, none⟩ = some (.int .i64 0) := (blk_cell HI8.out.2.2.1 0).trans rfl; have y8_0 : W8.frozen? ⟨w.heap.size + 1 + 1, 0, none⟩ = false := blk_frozen HI8.out.2.2.1 0; have z8_1 : W8.cell? ⟨w.heap.size + 1 + 1, 1, none⟩ = some (.int .i64 0) := (blk_cell HI8.out.2.2.1 1).trans rfl; have y8_1 : W8.frozen? ⟨w.heap.size + 1 + 1, 1, none⟩ = false := blk_frozen HI8.out.2.2.1 1; have z8_2 : W8.cell? ⟨w.heap.size + 1 + 1, 2, none⟩ = some (.int .i64 0) := (blk_cell HI8.out.2.2.1 2).trans rfl; have y8_2 : W8.frozen? ⟨w.heap.size + 1 + 1, 2, none⟩ = false := blk_frozen HI8.out.2.2.1 2; have z8_3 : W8.cell? ⟨w.heap.size + 1 + 1, 3, none⟩ = some (.int .i64 0) := (blk_cell HI8.out.2.2.1 3).trans rfl; have y8_3 : W8.frozen? ⟨w.heap.size + 1 + 1, 3, none⟩ = false := blk_frozen HI8.out.2.2.1 3; have z9_0 : W8.cell? ⟨w.heap.size + 1 + 1 + 1, 0, none⟩ = some (.int .i64 0) := (blk_cell HI8.out.2.2.2.1 0).trans rfl; have y9_0 : W8.frozen? ⟨w.heap.size + 1 + 1 + 1, 0, none⟩ = false := blk_frozen HI8.out.2.2.2.1 0; have z9_1 : W8.cell? ⟨w.heap.size + 1 + 1 + 1, 1, none⟩ = some (.int .i64 0) := (blk_cell HI8.out.2.2.2.1 1).trans rfl; have y9_1 : W8.frozen? ⟨w.heap.size + 1 + 1 + 1, 1, none⟩ = false := blk_frozen HI8.out.2.2.2.1 1; have z9_2 : W8.cell? ⟨w.heap.size + 1 + 1 + 1, 2, none⟩ = some (.int .i64 0) := (blk_cell HI8.out.2.2.2.1 2).trans rfl; have y9_2 : W8.frozen? ⟨w.heap.size + 1 + 1 + 1, 2, none⟩ = false := blk_frozen HI8.out.2.2.2.1 2; have z9_3 : W8.cell? ⟨w.heap.size + 1 + 1 + 1, 3, none⟩ = some (.int .i64 0) := (blk_cell HI8.out.2.2.2.1 3).trans rfl; have y9_3 : W8.frozen? ⟨w.heap.size + 1 + 1 + 1, 3, none⟩ = false := blk_frozen HI8.out.2.2.2.1 3; have z9_4 : W8.cell? ⟨w.heap.size + 1 + 1 + 1, 4, none⟩ = some (.bool false) := (blk_cell HI8.out.2.2.2.1 4).trans rfl; have y9_4 : W8.frozen? ⟨w.heap.size + 1 + 1 + 1, 4, none⟩ = false := blk_frozen HI8.out.2.2.2.1 4; have z9_5 : W8.cell? ⟨w.heap.size + 1 + 1 + 1, 5, none⟩ = some (.int .i64 0) := (blk_cell HI8.out.2.2.2.1 5).trans rfl; have y9_5 : W8.frozen? ⟨w.heap.size + 1 + 1 + 1, 5, none⟩ = false := blk_frozen HI8.out.2.2.2.1 5; have z9_6 : W8.cell? ⟨w.heap.size + 1 + 1 + 1, 6, none⟩ = some (.int .i64 0) := (blk_cell HI8.out.2.2.2.1 6).trans rfl; have y9_6 : W8.frozen? ⟨w.heap.size + 1 + 1 + 1, 6, none⟩ = false := blk_frozen HI8.out.2.2.2.1 6; have z9_7 : W8.cell? ⟨w.heap.size + 1 + 1 + 1, 7, none⟩ = some (.int .i64 0) := (blk_cell HI8.out.2.2.2.1 7).trans rfl; have y9_7 : W8.frozen? ⟨w.heap.size + 1 + 1 + 1, 7, none⟩ = false := blk_frozen HI8.out.2.2.2.1 7; have z10_0 : W8.cell? ⟨w.heap.size + 1 + 1 + 1 + 1, 0, none⟩ = some (.int .i64 0) := (blk_cell HI8.out.2.2.2.2.1 0).trans rfl; have y10_0 : W8.frozen? ⟨w.heap.size + 1 + 1 + 1 + 1, 0, none⟩ = false := blk_frozen HI8.out.2.2.2.2.1 0)
      refine ⟨by repeat (first | with_reducible exact HK8.out | with_reducible refine KeepsOthers.trans ?_ (KeepsOthers.setCell _ _ _)), rfl, ⟨x, by rw [HXE.out]; exact HRB.out⟩, #[.int .i64 g, .int .i64 a0_1, .int .i64 a0_2, .int .i64 a0_3], #[.int .i64 a2, .int .i64 ak, .int .i64 0, .int .i64 0, .bool false, .int .i64 0, .int .i64 0, .int .i64 0], #[.int .i64 xo.f0, .int .i64 xo.f1, .bool xo.f2, .int .i64 xo.f3, .int .i64 xo.f4, .bool xo.f5, .bool xo.f6, .bool xo.f7, .int .i64 xo.f8, .int .i64 xo.f9, .int .i64 xo.f10, .bool xo.f11], ?_⟩
      exact RtB.cast (by repeat (first | with_reducible exact HI8.out | with_reducible apply RtB.set_q | with_reducible apply RtB.set_r8 | with_reducible apply RtB.set_r9 | with_reducible apply RtB.set_r10 | with_reducible apply RtB.set_s | with_reducible apply RtB.set_o | with_reducible apply RtB.drew)) (by first | with_reducible rfl | (simp only [List.setIfInBounds_toArray, List.set_cons_zero, List.set_cons_succ]; done)) (by first | with_reducible rfl | (simp only [List.setIfInBounds_toArray, List.set_cons_zero, List.set_cons_succ]; done)) (by first | with_reducible rfl | (simp only [List.setIfInBounds_toArray, List.set_cons_zero, List.set_cons_succ]; done)) (by first | with_reducible rfl | (simp only [List.setIfInBounds_toArray, List.set_cons_zero, List.set_cons_succ]; done)) (by first | with_reducible rfl | (simp only [List.setIfInBounds_toArray, List.set_cons_zero, List.set_cons_succ]; done)) (by first | with_reducible rfl | (simp only [List.setIfInBounds_toArray, List.set_cons_zero, List.set_cons_succ]; done))
    | true =>
      gi_wp2_with (refine ⟨trivial, ?_⟩; gi_at_call 14; refine (CallsIn.inRound l (callsIn_wide.2 (rate_rec.calls 9 xe.f0 xe.f1 xe.f2 xe.f3 xe.f4 xe.f5 xe.f6 xe.f7 xe.f8 xe.f9 xe.f10 xe.f11 true _ HR.out))).mono ?_; rintro e W8 ⟨rfl, hb⟩; have HK8 := Lib.hid (KeepsOthers.of_grownBy (grown_none hb) (by intro j o hj; cases hj)); have HB8 := Lib.hid hb; have HI8 := Lib.hid (HI.out.below hb); clear hb; skip)
      refine start_r (m := 14) (S := fun w' => w'.cell? ⟨w.heap.size, 0, none⟩ = some (.int .i64 g) ∧ w'.cell? ⟨B, 1, none⟩ = some (.int .i64 ak)) (ds := [11, 13]) #[false, false, false, false, false, false, false, false, false, false, false, false, false, false] (by rintro ⟨_, _, h⟩; exact h) (by rfl) (by kernel_rfl) rfl rfl ⟨(blk_cell HI8.out.1 0).trans rfl, (blk_cell HI8.out.2.2.2.2.2.1 1).trans rfl⟩ (fun hHeld => ?_)
      have HI9 := Lib.hid (RtB.drew HI8.out); have HK9 := Lib.hid (show KeepsOthers W W8.drew from HK8.out.trans (KeepsOthers.drew _)); have HB9 := Lib.hid (show Below W.heap.size W W8.drew from below_drew1 HB8.out)
      generalize W8.drew = W9 at HI9 HK9 HB9 hHeld ⊢
      refine pure_ (i := 0) (N := some 45) (v := ?_) (a' := ?_) #[true, false, false, false, false, false, false, false, false, false, false, false, false, false] rfl rfl (by kernel_rfl) (fun _ _ _ h => h) (Or.inl ⟨by rfl, ?_⟩) ?_ ?_
      rotate_left
      · intro w'
        go_simp
        with_reducible rfl
      rotate_left
      · simp only [Act.put, List.setIfInBounds_toArray, List.set_cons_zero, List.set_cons_succ, i64_w, i32_w]
        rfl
      refine pure_ (i := 2) (N := some 47) (v := ?_) (a' := ?_) #[true, false, true, false, false, false, false, false, false, false, false, false, false, false] rfl rfl (by kernel_rfl) (fun _ _ _ h => h) (Or.inl ⟨by rfl, ?_⟩) ?_ ?_
      rotate_left
      · intro w'
        go_simp
        with_reducible rfl
      rotate_left
      · simp only [Act.put, List.setIfInBounds_toArray, List.set_cons_zero, List.set_cons_succ, i64_w, i32_w]
        rfl
      refine pure_ (i := 5) (N := some 50) (v := ?_) (a' := ?_) #[true, false, true, false, false, true, false, false, false, false, false, false, false, false] rfl rfl (by kernel_rfl) (fun _ _ _ h => h) (Or.inl ⟨by rfl, ?_⟩) ?_ ?_
      rotate_left
      · intro w'
        go_simp
        with_reducible rfl
      rotate_left
      · simp only [Act.put, List.setIfInBounds_toArray, List.set_cons_zero, List.set_cons_succ, i64_w, i32_w]
        rfl
      refine pure_ (i := 7) (N := some 52) (v := ?_) (a' := ?_) #[true, false, true, false, false, true, false, true, false, false, false, false, false, false] rfl rfl (by kernel_rfl) (fun _ _ _ h => h) (Or.inl ⟨by rfl, ?_⟩) ?_ ?_
      rotate_left
      · intro w'
        go_simp
        with_reducible rfl
      rotate_left
      · simp only [Act.put, List.setIfInBounds_toArray, List.set_cons_zero, List.set_cons_succ, i64_w, i32_w]
        rfl
      refine take_ (i := 1) (N := some 46) (v := ?_) (a' := ?_) #[true, true, true, false, false, true, false, true, false, false, false, false, false, false] rfl rfl (by kernel_rfl) (fun _ _ _ h => h) (Or.inl ⟨by rfl, ?_⟩) hHeld ?_ ?_
      rotate_left
      · rintro w' ⟨s0, s1⟩
        go_simp
        with_reducible rfl
      rotate_left
      · simp only [Act.put, List.setIfInBounds_toArray, List.set_cons_zero, List.set_cons_succ, i64_w, i32_w]
        rfl
      refine pure_ (i := 3) (N := some 48) (v := ?_) (a' := ?_) #[true, true, true, true, false, true, false, true, false, false, false, false, false, false] rfl rfl (by kernel_rfl) (fun _ _ _ h => h) (Or.inl ⟨by rfl, ?_⟩) ?_ ?_
      rotate_left
      · intro w'
        go_simp
        with_reducible rfl
      rotate_left
      · simp only [Act.put, List.setIfInBounds_toArray, List.set_cons_zero, List.set_cons_succ, i64_w, i32_w]
        rfl
      refine take_ (i := 6) (N := some 51) (v := ?_) (a' := ?_) #[true, true, true, true, false, true, true, true, false, false, false, false, false, false] rfl rfl (by kernel_rfl) (fun _ _ _ h => h) (Or.inl ⟨by rfl, ?_⟩) hHeld ?_ ?_
      rotate_left
      · rintro w' ⟨s0, s1⟩
        go_simp
        with_reducible rfl
      rotate_left
      · simp only [Act.put, List.setIfInBounds_toArray, List.set_cons_zero, List.set_cons_succ, i64_w, i32_w]
        rfl
      refine pure_ (i := 8) (N := some 53) (v := ?_) (a' := ?_) #[true, true, true, true, false, true, true, true, true, false, false, false, false, false] rfl rfl (by kernel_rfl) (fun _ _ _ h => h) (Or.inl ⟨by rfl, ?_⟩) ?_ ?_
      rotate_left
      · intro w'
        go_simp
        with_reducible rfl
      rotate_left
      · simp only [Act.put, List.setIfInBounds_toArray, List.set_cons_zero, List.set_cons_succ, i64_w, i32_w]
        rfl
      refine one_ (i := 4) (N := some 49) #[true, true, true, true, true, true, true, true, true, false, false, false, false, false] rfl rfl (by kernel_rfl) (by decide) (fun K hK => ?_)
      refine goes_ Try.func15 (by kernel_rfl) rfl #[.int .i64 (wrap64 (g + rt_n xe))] (by rfl) rfl rfl (by simp only [List.map_toArray, List.map_cons, List.map_nil]; rfl) ?_
      with_reducible refine (rt_late _ _).mono ?_
      rintro e w' ⟨rfl, rfl⟩
      refine ⟨_, rfl, ?_⟩
      refine hK.out _ _ ⟨hHeld.1, hHeld.2⟩ (fun hHeld => ?_)
      clear hK K
      refine norm_ (a' := ?_) ?_ ?_
      rotate_left
      · show Act.put _ (some 49) _ = _
        simp only [Act.put, List.setIfInBounds_toArray, List.set_cons_zero, List.set_cons_succ, i64_w, i32_w]
        rfl
      refine pure_ (i := 10) (N := some 55) (v := ?_) (a' := ?_) #[true, true, true, true, true, true, true, true, true, false, true, false, false, false] rfl rfl (by kernel_rfl) (fun _ _ _ h => h) (Or.inl ⟨by rfl, ?_⟩) ?_ ?_
      rotate_left
      · intro w'
        go_simp
        with_reducible rfl
      rotate_left
      · simp only [Act.put, List.setIfInBounds_toArray, List.set_cons_zero, List.set_cons_succ, i64_w, i32_w]
        rfl
      refine one_ (i := 9) (N := some 54) #[true, true, true, true, true, true, true, true, true, true, true, false, false, false] rfl rfl (by kernel_rfl) (by decide) (fun K hK => ?_)
      refine goes_ Try.func15 (by kernel_rfl) rfl #[.int .i64 (wrap64 (ak + rt_n xe))] (by rfl) rfl rfl (by simp only [List.map_toArray, List.map_cons, List.map_nil]; rfl) ?_
      with_reducible refine (rt_late _ _).mono ?_
      rintro e w' ⟨rfl, rfl⟩
      refine ⟨_, rfl, ?_⟩
      refine hK.out _ _ ⟨hHeld.1, hHeld.2⟩ (fun hHeld => ?_)
      clear hK K
      refine norm_ (a' := ?_) ?_ ?_
      rotate_left
      · show Act.put _ (some 54) _ = _
        simp only [Act.put, List.setIfInBounds_toArray, List.set_cons_zero, List.set_cons_succ, i64_w, i32_w]
        rfl
      refine last_ (i := 11) (N := none) #[true, true, true, true, true, true, true, true, true, true, true, true, false, false] rfl rfl (by kernel_rfl) (by decide) (fun K hK => ?_)
      have hs0 : W9.cell? ⟨w.heap.size, 0, none⟩ = some (.int .i64 g) := hHeld.1
      have hf0 : W9.frozen? ⟨w.heap.size, 0, none⟩ = false := blk_frozen HI9.out.1 0
      refine skip_ (w1 := ?_) (by rfl) rfl ?_ ?_
      rotate_left
      · go_simp
        rfl
      refine hK.out _ _ ?_
      clear hK K
      refine pure_ (i := 12) (N := some 56) (v := ?_) (a' := ?_) #[true, true, true, true, true, true, true, true, true, true, true, true, true, false] rfl rfl (by kernel_rfl) (fun _ _ _ h => h) (Or.inl ⟨by rfl, ?_⟩) ?_ ?_
      rotate_left
      · intro w'
        go_simp
        with_reducible rfl
      rotate_left
      · simp only [Act.put, List.setIfInBounds_toArray, List.set_cons_zero, List.set_cons_succ, i64_w, i32_w]
        rfl
      refine last_ (i := 13) (N := none) #[true, true, true, true, true, true, true, true, true, true, true, true, true, true] rfl rfl (by kernel_rfl) (by decide) (fun K hK => ?_)
      have hs1 : W9.cell? ⟨B, 1, none⟩ = some (.int .i64 ak) := hHeld.2
      have hf1 : W9.frozen? ⟨B, 1, none⟩ = false := blk_frozen HI9.out.2.2.2.2.2.1 1
      have hn0 : w.heap.size ≠ B := by omega
      have hn1 : B ≠ w.heap.size := by omega
      refine skip_ (w1 := ?_) (by rfl) rfl ?_ ?_
      rotate_left
      · go_simp
        rfl
      refine hK.out _ _ ?_
      clear hK K
      refine done_ (by kernel_rfl) ?_
      obtain ⟨g1, hg1⟩ : ∃ g1, mn 1125899906842624 (wrap64 (g + rt_n xe)) = g1 := ⟨_, rfl⟩
      obtain ⟨ak1, hak1⟩ : ∃ ak1, mn 1125899906842624 (wrap64 (ak + rt_n xe)) = ak1 := ⟨_, rfl⟩
      rw [hg1, hak1]
      clear hHeld
      refine rt_then ?_; intro W10 hw10
      have HI10 := Lib.hid (show RtB w (.slice (some ad) l1.length c1) B #[.int .i64 g1, .int .i64 a0_1, .int .i64 a0_2, .int .i64 a0_3] #[.int .i64 0, .int .i64 0, .int .i64 0, .int .i64 0] #[.int .i64 0, .int .i64 0, .int .i64 0, .int .i64 0, .bool false, .int .i64 0, .int .i64 0, .int .i64 0] #[.int .i64 0] #[.int .i64 a2, .int .i64 ak1, .int .i64 0, .int .i64 0, .bool false, .int .i64 0, .int .i64 0, .int .i64 0] #[.int .i64 xo.f0, .int .i64 xo.f1, .bool xo.f2, .int .i64 xo.f3, .int .i64 xo.f4, .bool xo.f5, .bool xo.f6, .bool xo.f7, .int .i64 xo.f8, .int .i64 xo.f9, .int .i64 xo.f10, .bool xo.f11] W10 from by rw [← hw10]; exact RtB.cast (by repeat (first | with_reducible exact HI9.out | with_reducible apply RtB.set_q | with_reducible apply RtB.set_s)) (by first | with_reducible rfl | (simp only [List.setIfInBounds_toArray, List.set_cons_zero, List.set_cons_succ]; done)) (by first | with_reducible rfl | (simp only [List.setIfInBounds_toArray, List.set_cons_zero, List.set_cons_succ]; done)) (by first | with_reducible rfl | (simp only [List.setIfInBounds_toArray, List.set_cons_zero, List.set_cons_succ]; done)) (by first | with_reducible rfl | (simp only [List.setIfInBounds_toArray, List.set_cons_zero, List.set_cons_succ]; done)) (by first | with_reducible rfl | (simp only [List.setIfInBounds_toArray, List.set_cons_zero, List.set_cons_succ]; done)) (by first | with_reducible rfl | (simp only [List.setIfInBounds_toArray, List.set_cons_zero, List.set_cons_succ]; done)))
      have HK10 := Lib.hid (show KeepsOthers W W10 from by rw [← hw10]; repeat (first | with_reducible exact HK9.out | with_reducible refine KeepsOthers.trans ?_ (KeepsOthers.setCell _ _ _)))
      have HB10 := Lib.hid (show Below w.heap.size W W10 from by rw [← hw10]; exact ((HB9.out.mono HI.out.2.2.2.2.2.2.2.2.size).setCell (p := ⟨w.heap.size, 0, none⟩) (Nat.le_refl _) _).setCell (p := ⟨B, 1, none⟩) (by show w.heap.size ≤ B; omega) _)
      have HN10 := Lib.hid (show ∀ o, W.heap[B + 1 + 1]? = some o → W10.heap[B + 1 + 1]? = some o from fun o ho => by rw [← hw10]; exact heap_set (heap_set (rt_hbelow HB9.out ho) (by dsimp only; omega)) (by dsimp only; omega))
      have HG1 := Lib.hid hg1; have HAK1 := Lib.hid hak1
      clear hw10 hg1 hak1 HK9 HB9 HI9 HK8 HB8 HI8
      gi_wp2
      have i0 : i = 0 ∨ i ≠ 0 := Decidable.em _
      have HF := Lib.hid (show i = 0 ∨ i ≠ 0 from i0); clear i0
      rcases HF.out with h0 | h0
      · have h1 : ((i : Int) == 0) = true := by rw [h0]; rfl
        have H0 := Lib.hid h0; clear h0
        refine start_r (m := 12) (S := fun w' => w'.cell? ⟨w.heap.size + 1, 0, none⟩ = some (.slice (some ad) l1.length c1) ∧ w'.cell? ⟨(ad.add (i * 12)).block, (ad.add (i * 12)).off + 8, none⟩ = some (.int .i64 xe.f8) ∧ w'.cell? ⟨B + 1, 8, none⟩ = some (.int .i64 xo.f8)) (ds := []) #[false, false, false, false, false, false, false, false, false, false, false, false] (by rintro ⟨_, _, h⟩; exact h) (by rfl) (by kernel_rfl) rfl rfl ⟨(blk_cell HI10.out.2.1 0).trans rfl, (HI10.out.2.2.2.2.2.2.2.2.cell (World.block_lt_of_cell? w _ HV8.out)).trans HV8.out, (blk_cell HI10.out.2.2.2.2.2.2.1 8).trans rfl⟩ (fun hHeld => ?_)
        have HI11 := Lib.hid (RtB.drew HI10.out); have HK11 := Lib.hid (show KeepsOthers W W10.drew from HK10.out.trans (KeepsOthers.drew _)); have HB11 := Lib.hid (show Below w.heap.size W W10.drew from below_drew1 HB10.out); have HN11 := Lib.hid (show ∀ o, W.heap[B + 1 + 1]? = some o → W10.drew.heap[B + 1 + 1]? = some o from HN10.out)
        generalize W10.drew = W11 at HI11 HK11 HB11 HN11 hHeld ⊢
        refine pure_ (i := 0) (N := some 57) (v := ?_) (a' := ?_) #[true, false, false, false, false, false, false, false, false, false, false, false] rfl rfl (by kernel_rfl) (fun _ _ _ h => h) (Or.inl ⟨by rfl, ?_⟩) ?_ ?_
        rotate_left
        · intro w'
          go_simp
          with_reducible rfl
        rotate_left
        · simp only [Act.put, List.setIfInBounds_toArray, List.set_cons_zero, List.set_cons_succ, i64_w, i32_w]
          rfl
        refine pure_ (i := 1) (N := some 58) (v := ?_) (a' := ?_) #[true, true, false, false, false, false, false, false, false, false, false, false] rfl rfl (by kernel_rfl) (fun _ _ _ h => h) (Or.inl ⟨by rfl, ?_⟩) ?_ ?_
        rotate_left
        · intro w'
          go_simp
          with_reducible rfl
        rotate_left
        · simp only [Act.put, List.setIfInBounds_toArray, List.set_cons_zero, List.set_cons_succ, i64_w, i32_w]
          rfl
        refine pure_ (i := 2) (N := some 59) (v := ?_) (a' := ?_) #[true, true, true, false, false, false, false, false, false, false, false, false] rfl rfl (by kernel_rfl) (fun _ _ _ h => h) (Or.inl ⟨by rfl, ?_⟩) ?_ ?_
        rotate_left
        · intro w'
          go_simp
          with_reducible rfl
        rotate_left
        · simp only [Act.put, List.setIfInBounds_toArray, List.set_cons_zero, List.set_cons_succ, i64_w, i32_w]
          rfl
        refine pure_ (i := 3) (N := some 60) (v := undef) (a' := ?_) #[true, true, true, true, false, false, false, false, false, false, false, false] rfl rfl (by kernel_rfl) (fun _ _ _ h => h) (Or.inr ⟨by rfl, rfl⟩) ?_ ?_
        rotate_left
        · simp only [Act.put, List.setIfInBounds_toArray, List.set_cons_zero, List.set_cons_succ, i64_w, i32_w]
          rfl
        refine pure_ (i := 4) (N := some 61) (v := undef) (a' := ?_) #[true, true, true, true, true, false, false, false, false, false, false, false] rfl rfl (by kernel_rfl) (fun _ _ _ h => h) (Or.inr ⟨by rfl, rfl⟩) ?_ ?_
        rotate_left
        · simp only [Act.put, List.setIfInBounds_toArray, List.set_cons_zero, List.set_cons_succ, i64_w, i32_w]
          rfl
        refine pure_ (i := 5) (N := some 62) (v := undef) (a' := ?_) #[true, true, true, true, true, true, false, false, false, false, false, false] rfl rfl (by kernel_rfl) (fun _ _ _ h => h) (Or.inr ⟨by rfl, rfl⟩) ?_ ?_
        rotate_left
        · simp only [Act.put, List.setIfInBounds_toArray, List.set_cons_zero, List.set_cons_succ, i64_w, i32_w]
          rfl
        refine pure_ (i := 6) (N := some 63) (v := undef) (a' := ?_) #[true, true, true, true, true, true, true, false, false, false, false, false] rfl rfl (by kernel_rfl) (fun _ _ _ h => h) (Or.inr ⟨by rfl, rfl⟩) ?_ ?_
        rotate_left
        · simp only [Act.put, List.setIfInBounds_toArray, List.set_cons_zero, List.set_cons_succ, i64_w, i32_w]
          rfl
        refine pure_ (i := 7) (N := some 64) (v := undef) (a' := ?_) #[true, true, true, true, true, true, true, true, false, false, false, false] rfl rfl (by kernel_rfl) (fun _ _ _ h => h) (Or.inr ⟨by rfl, rfl⟩) ?_ ?_
        rotate_left
        · simp only [Act.put, List.setIfInBounds_toArray, List.set_cons_zero, List.set_cons_succ, i64_w, i32_w]
          rfl
        refine pure_ (i := 8) (N := some 65) (v := undef) (a' := ?_) #[true, true, true, true, true, true, true, true, true, false, false, false] rfl rfl (by kernel_rfl) (fun _ _ _ h => h) (Or.inr ⟨by rfl, rfl⟩) ?_ ?_
        rotate_left
        · simp only [Act.put, List.setIfInBounds_toArray, List.set_cons_zero, List.set_cons_succ, i64_w, i32_w]
          rfl
        refine pure_ (i := 9) (N := some 66) (v := undef) (a' := ?_) #[true, true, true, true, true, true, true, true, true, true, false, false] rfl rfl (by kernel_rfl) (fun _ _ _ h => h) (Or.inr ⟨by rfl, rfl⟩) ?_ ?_
        rotate_left
        · simp only [Act.put, List.setIfInBounds_toArray, List.set_cons_zero, List.set_cons_succ, i64_w, i32_w]
          rfl
        refine pure_ (i := 10) (N := some 67) (v := undef) (a' := ?_) #[true, true, true, true, true, true, true, true, true, true, true, false] rfl rfl (by kernel_rfl) (fun _ _ _ h => h) (Or.inr ⟨by rfl, rfl⟩) ?_ ?_
        rotate_left
        · simp only [Act.put, List.setIfInBounds_toArray, List.set_cons_zero, List.set_cons_succ, i64_w, i32_w]
          rfl
        refine pure_ (i := 11) (N := some 68) (v := ?_) (a' := ?_) #[true, true, true, true, true, true, true, true, true, true, true, true] rfl rfl (by kernel_rfl) (fun _ _ _ h => h) (Or.inl ⟨by rfl, ?_⟩) ?_ ?_
        rotate_left
        · intro w'
          go_simp
          with_reducible rfl
        rotate_left
        · simp only [Act.put, List.setIfInBounds_toArray, List.set_cons_zero, List.set_cons_succ, i64_w, i32_w]
          rfl
        refine done_ (by kernel_rfl) ?_
        clear hHeld
        have e0 := (HI11.out.2.2.2.2.2.2.2.2.cell (World.block_lt_of_cell? w _ HV0.out)).trans HV0.out
        have e1 := (HI11.out.2.2.2.2.2.2.2.2.cell (World.block_lt_of_cell? w _ HV1.out)).trans HV1.out
        have e2 := (HI11.out.2.2.2.2.2.2.2.2.cell (World.block_lt_of_cell? w _ HV2.out)).trans HV2.out
        have e3 := (HI11.out.2.2.2.2.2.2.2.2.cell (World.block_lt_of_cell? w _ HV3.out)).trans HV3.out
        have e4 := (HI11.out.2.2.2.2.2.2.2.2.cell (World.block_lt_of_cell? w _ HV4.out)).trans HV4.out
        have e5 := (HI11.out.2.2.2.2.2.2.2.2.cell (World.block_lt_of_cell? w _ HV5.out)).trans HV5.out
        have e6 := (HI11.out.2.2.2.2.2.2.2.2.cell (World.block_lt_of_cell? w _ HV6.out)).trans HV6.out
        have e7 := (HI11.out.2.2.2.2.2.2.2.2.cell (World.block_lt_of_cell? w _ HV7.out)).trans HV7.out
        have e8 := (HI11.out.2.2.2.2.2.2.2.2.cell (World.block_lt_of_cell? w _ HV8.out)).trans HV8.out
        have e9 := (HI11.out.2.2.2.2.2.2.2.2.cell (World.block_lt_of_cell? w _ HV9.out)).trans HV9.out
        have e10 := (HI11.out.2.2.2.2.2.2.2.2.cell (World.block_lt_of_cell? w _ HV10.out)).trans HV10.out
        have e11 := (HI11.out.2.2.2.2.2.2.2.2.cell (World.block_lt_of_cell? w _ HV11.out)).trans HV11.out
        have k6_0 : W11.cell? ⟨B + 1, 0, none⟩ = some (.int .i64 xo.f0) := (blk_cell HI11.out.2.2.2.2.2.2.1 0).trans rfl
        have kf6_0 : W11.frozen? ⟨B + 1, 0, none⟩ = false := blk_frozen HI11.out.2.2.2.2.2.2.1 0
        have k6_1 : W11.cell? ⟨B + 1, 1, none⟩ = some (.int .i64 xo.f1) := (blk_cell HI11.out.2.2.2.2.2.2.1 1).trans rfl
        have kf6_1 : W11.frozen? ⟨B + 1, 1, none⟩ = false := blk_frozen HI11.out.2.2.2.2.2.2.1 1
        have k6_2 : W11.cell? ⟨B + 1, 2, none⟩ = some (.bool xo.f2) := (blk_cell HI11.out.2.2.2.2.2.2.1 2).trans rfl
        have kf6_2 : W11.frozen? ⟨B + 1, 2, none⟩ = false := blk_frozen HI11.out.2.2.2.2.2.2.1 2
        have k6_3 : W11.cell? ⟨B + 1, 3, none⟩ = some (.int .i64 xo.f3) := (blk_cell HI11.out.2.2.2.2.2.2.1 3).trans rfl
        have kf6_3 : W11.frozen? ⟨B + 1, 3, none⟩ = false := blk_frozen HI11.out.2.2.2.2.2.2.1 3
        have k6_4 : W11.cell? ⟨B + 1, 4, none⟩ = some (.int .i64 xo.f4) := (blk_cell HI11.out.2.2.2.2.2.2.1 4).trans rfl
        have kf6_4 : W11.frozen? ⟨B + 1, 4, none⟩ = false := blk_frozen HI11.out.2.2.2.2.2.2.1 4
        have k6_5 : W11.cell? ⟨B + 1, 5, none⟩ = some (.bool xo.f5) := (blk_cell HI11.out.2.2.2.2.2.2.1 5).trans rfl
        have kf6_5 : W11.frozen? ⟨B + 1, 5, none⟩ = false := blk_frozen HI11.out.2.2.2.2.2.2.1 5
        have k6_6 : W11.cell? ⟨B + 1, 6, none⟩ = some (.bool xo.f6) := (blk_cell HI11.out.2.2.2.2.2.2.1 6).trans rfl
        have kf6_6 : W11.frozen? ⟨B + 1, 6, none⟩ = false := blk_frozen HI11.out.2.2.2.2.2.2.1 6
        have k6_7 : W11.cell? ⟨B + 1, 7, none⟩ = some (.bool xo.f7) := (blk_cell HI11.out.2.2.2.2.2.2.1 7).trans rfl
        have kf6_7 : W11.frozen? ⟨B + 1, 7, none⟩ = false := blk_frozen HI11.out.2.2.2.2.2.2.1 7
        have k6_8 : W11.cell? ⟨B + 1, 8, none⟩ = some (.int .i64 xo.f8) := (blk_cell HI11.out.2.2.2.2.2.2.1 8).trans rfl
        have kf6_8 : W11.frozen? ⟨B + 1, 8, none⟩ = false := blk_frozen HI11.out.2.2.2.2.2.2.1 8
        have k6_9 : W11.cell? ⟨B + 1, 9, none⟩ = some (.int .i64 xo.f9) := (blk_cell HI11.out.2.2.2.2.2.2.1 9).trans rfl
        have kf6_9 : W11.frozen? ⟨B + 1, 9, none⟩ = false := blk_frozen HI11.out.2.2.2.2.2.2.1 9
        have k6_10 : W11.cell? ⟨B + 1, 10, none⟩ = some (.int .i64 xo.f10) := (blk_cell HI11.out.2.2.2.2.2.2.1 10).trans rfl
        have kf6_10 : W11.frozen? ⟨B + 1, 10, none⟩ = false := blk_frozen HI11.out.2.2.2.2.2.2.1 10
        have k6_11 : W11.cell? ⟨B + 1, 11, none⟩ = some (.bool xo.f11) := (blk_cell HI11.out.2.2.2.2.2.2.1 11).trans rfl
        have kf6_11 : W11.frozen? ⟨B + 1, 11, none⟩ = false := blk_frozen HI11.out.2.2.2.2.2.2.1 11
        have kl : W11.cell? ⟨w.heap.size + 1, 0, none⟩ = some (.slice (some ad) l1.length c1) := (blk_cell HI11.out.2.1 0).trans rfl
        gi_wp2
        refine ⟨KeepsOthers.trans HK11.out (by repeat (first | with_reducible exact KeepsOthers.refl _ | with_reducible refine KeepsOthers.trans ?_ (KeepsOthers.setCell _ _ _))), ⟨by repeat (first | with_reducible exact HB11.out | (with_reducible refine Below.setCell ?_ (by dsimp only; omega) _)), fun b hb o ho => ?_⟩, fun y hy => ?_, ?_⟩
        · obtain rfl := List.mem_singleton.1 hb
          repeat (with_reducible refine heap_set ?_ (by dsimp only; omega))
          exact HN11.out o ho
        · rcases List.mem_append.1 hy with hy | hy
          · exact HALL.out y hy
          · obtain rfl := List.mem_singleton.1 hy
            exact (congrArg rt_rec HXE.out).trans HRB.out
        · have hst : rt_step l1 (g, ak, xo) x = (g1, ak1, xe) := by
            simp only [rt_step]
            rw [HXE.out, HG1.out, HAK1.out, if_pos (Or.inl (HX.out.trans H0.out))]
          rw [rt_fold_snoc, HS.out, hst]
          exact RtB.cast (by repeat (first | with_reducible exact HI11.out | with_reducible apply RtB.set_o)) (by first | with_reducible rfl | (simp only [List.setIfInBounds_toArray, List.set_cons_zero, List.set_cons_succ]; done)) (by first | with_reducible rfl | (simp only [List.setIfInBounds_toArray, List.set_cons_zero, List.set_cons_succ]; done)) (by first | with_reducible rfl | (simp only [List.setIfInBounds_toArray, List.set_cons_zero, List.set_cons_succ]; done)) (by first | with_reducible rfl | (simp only [List.setIfInBounds_toArray, List.set_cons_zero, List.set_cons_succ]; done)) (by first | with_reducible rfl | (simp only [List.setIfInBounds_toArray, List.set_cons_zero, List.set_cons_succ]; done)) (by first | with_reducible rfl | (simp only [List.setIfInBounds_toArray, List.set_cons_zero, List.set_cons_succ]; done))
      · rcases rt_dec (xo.f8 ≤ xe.f8) with h8 | h8
        · have h1 : ((i : Int) == 0) = false := by simp; omega
          have h2 := h8.1; have h3 := h8.1
          refine start_r (m := 12) (S := fun w' => w'.cell? ⟨w.heap.size + 1, 0, none⟩ = some (.slice (some ad) l1.length c1) ∧ w'.cell? ⟨(ad.add (i * 12)).block, (ad.add (i * 12)).off + 8, none⟩ = some (.int .i64 xe.f8) ∧ w'.cell? ⟨B + 1, 8, none⟩ = some (.int .i64 xo.f8)) (ds := []) #[false, false, false, false, false, false, false, false, false, false, false, false] (by rintro ⟨_, _, h⟩; exact h) (by rfl) (by kernel_rfl) rfl rfl ⟨(blk_cell HI10.out.2.1 0).trans rfl, (HI10.out.2.2.2.2.2.2.2.2.cell (World.block_lt_of_cell? w _ HV8.out)).trans HV8.out, (blk_cell HI10.out.2.2.2.2.2.2.1 8).trans rfl⟩ (fun hHeld => ?_)
          have HI11 := Lib.hid (RtB.drew HI10.out); have HK11 := Lib.hid (show KeepsOthers W W10.drew from HK10.out.trans (KeepsOthers.drew _)); have HB11 := Lib.hid (show Below w.heap.size W W10.drew from below_drew1 HB10.out); have HN11 := Lib.hid (show ∀ o, W.heap[B + 1 + 1]? = some o → W10.drew.heap[B + 1 + 1]? = some o from HN10.out)
          generalize W10.drew = W11 at HI11 HK11 HB11 HN11 hHeld ⊢
          refine pure_ (i := 0) (N := some 57) (v := ?_) (a' := ?_) #[true, false, false, false, false, false, false, false, false, false, false, false] rfl rfl (by kernel_rfl) (fun _ _ _ h => h) (Or.inl ⟨by rfl, ?_⟩) ?_ ?_
          rotate_left
          · intro w'
            go_simp
            with_reducible rfl
          rotate_left
          · simp only [Act.put, List.setIfInBounds_toArray, List.set_cons_zero, List.set_cons_succ, i64_w, i32_w]
            rfl
          refine pure_ (i := 1) (N := some 58) (v := ?_) (a' := ?_) #[true, true, false, false, false, false, false, false, false, false, false, false] rfl rfl (by kernel_rfl) (fun _ _ _ h => h) (Or.inl ⟨by rfl, ?_⟩) ?_ ?_
          rotate_left
          · intro w'
            go_simp
            with_reducible rfl
          rotate_left
          · simp only [Act.put, List.setIfInBounds_toArray, List.set_cons_zero, List.set_cons_succ, i64_w, i32_w]
            rfl
          refine pure_ (i := 2) (N := some 59) (v := ?_) (a' := ?_) #[true, true, true, false, false, false, false, false, false, false, false, false] rfl rfl (by kernel_rfl) (fun _ _ _ h => h) (Or.inl ⟨by rfl, ?_⟩) ?_ ?_
          rotate_left
          · intro w'
            go_simp
            with_reducible rfl
          rotate_left
          · simp only [Act.put, List.setIfInBounds_toArray, List.set_cons_zero, List.set_cons_succ, i64_w, i32_w]
            rfl
          refine pure_ (i := 4) (N := some 61) (v := ?_) (a' := ?_) #[true, true, true, false, true, false, false, false, false, false, false, false] rfl rfl (by kernel_rfl) (fun _ _ _ h => h) (Or.inl ⟨by rfl, ?_⟩) ?_ ?_
          rotate_left
          · intro w'
            go_simp
            with_reducible rfl
          rotate_left
          · simp only [Act.put, List.setIfInBounds_toArray, List.set_cons_zero, List.set_cons_succ, i64_w, i32_w]
            rfl
          refine pure_ (i := 8) (N := some 65) (v := ?_) (a' := ?_) #[true, true, true, false, true, false, false, false, true, false, false, false] rfl rfl (by kernel_rfl) (fun _ _ _ h => h) (Or.inl ⟨by rfl, ?_⟩) ?_ ?_
          rotate_left
          · intro w'
            go_simp
            with_reducible rfl
          rotate_left
          · simp only [Act.put, List.setIfInBounds_toArray, List.set_cons_zero, List.set_cons_succ, i64_w, i32_w]
            rfl
          refine take_ (i := 3) (N := some 60) (v := ?_) (a' := ?_) #[true, true, true, true, true, false, false, false, true, false, false, false] rfl rfl (by kernel_rfl) (fun _ _ _ h => h) (Or.inl ⟨by rfl, ?_⟩) hHeld ?_ ?_
          rotate_left
          · rintro w' ⟨s0, s1, s2⟩
            go_simp
            with_reducible rfl
          rotate_left
          · simp only [Act.put, List.setIfInBounds_toArray, List.set_cons_zero, List.set_cons_succ, i64_w, i32_w]
            rfl
          refine pure_ (i := 5) (N := some 62) (v := ?_) (a' := ?_) #[true, true, true, true, true, true, false, false, true, false, false, false] rfl rfl (by kernel_rfl) (fun _ _ _ h => h) (Or.inl ⟨by rfl, ?_⟩) ?_ ?_
          rotate_left
          · intro w'
            go_simp
            with_reducible rfl
          rotate_left
          · simp only [Act.put, List.setIfInBounds_toArray, List.set_cons_zero, List.set_cons_succ, i64_w, i32_w]
            rfl
          refine pure_ (i := 6) (N := some 63) (v := ?_) (a' := ?_) #[true, true, true, true, true, true, true, false, true, false, false, false] rfl rfl (by kernel_rfl) (fun _ _ _ h => h) (Or.inl ⟨by rfl, ?_⟩) ?_ ?_
          rotate_left
          · intro w'
            go_simp
            with_reducible rfl
          rotate_left
          · simp only [Act.put, List.setIfInBounds_toArray, List.set_cons_zero, List.set_cons_succ, i64_w, i32_w]
            rfl
          refine take_ (i := 7) (N := some 64) (v := ?_) (a' := ?_) #[true, true, true, true, true, true, true, true, true, false, false, false] rfl rfl (by kernel_rfl) (fun _ _ _ h => h) (Or.inl ⟨by rfl, ?_⟩) hHeld ?_ ?_
          rotate_left
          · rintro w' ⟨s0, s1, s2⟩
            go_simp
            with_reducible rfl
          rotate_left
          · simp only [Act.put, List.setIfInBounds_toArray, List.set_cons_zero, List.set_cons_succ, i64_w, i32_w]
            rfl
          refine take_ (i := 9) (N := some 66) (v := ?_) (a' := ?_) #[true, true, true, true, true, true, true, true, true, true, false, false] rfl rfl (by kernel_rfl) (fun _ _ _ h => h) (Or.inl ⟨by rfl, ?_⟩) hHeld ?_ ?_
          rotate_left
          · rintro w' ⟨s0, s1, s2⟩
            go_simp
            with_reducible rfl
          rotate_left
          · simp only [Act.put, List.setIfInBounds_toArray, List.set_cons_zero, List.set_cons_succ, i64_w, i32_w]
            rfl
          refine pure_ (i := 10) (N := some 67) (v := ?_) (a' := ?_) #[true, true, true, true, true, true, true, true, true, true, true, false] rfl rfl (by kernel_rfl) (fun _ _ _ h => h) (Or.inl ⟨by rfl, ?_⟩) ?_ ?_
          rotate_left
          · intro w'
            go_simp
            with_reducible rfl
          rotate_left
          · simp only [Act.put, List.setIfInBounds_toArray, List.set_cons_zero, List.set_cons_succ, i64_w, i32_w]
            rfl
          refine pure_ (i := 11) (N := some 68) (v := ?_) (a' := ?_) #[true, true, true, true, true, true, true, true, true, true, true, true] rfl rfl (by kernel_rfl) (fun _ _ _ h => h) (Or.inl ⟨by rfl, ?_⟩) ?_ ?_
          rotate_left
          · intro w'
            go_simp
            with_reducible rfl
          rotate_left
          · simp only [Act.put, List.setIfInBounds_toArray, List.set_cons_zero, List.set_cons_succ, i64_w, i32_w]
            rfl
          refine done_ (by kernel_rfl) ?_
          clear hHeld
          have e0 := (HI11.out.2.2.2.2.2.2.2.2.cell (World.block_lt_of_cell? w _ HV0.out)).trans HV0.out
          have e1 := (HI11.out.2.2.2.2.2.2.2.2.cell (World.block_lt_of_cell? w _ HV1.out)).trans HV1.out
          have e2 := (HI11.out.2.2.2.2.2.2.2.2.cell (World.block_lt_of_cell? w _ HV2.out)).trans HV2.out
          have e3 := (HI11.out.2.2.2.2.2.2.2.2.cell (World.block_lt_of_cell? w _ HV3.out)).trans HV3.out
          have e4 := (HI11.out.2.2.2.2.2.2.2.2.cell (World.block_lt_of_cell? w _ HV4.out)).trans HV4.out
          have e5 := (HI11.out.2.2.2.2.2.2.2.2.cell (World.block_lt_of_cell? w _ HV5.out)).trans HV5.out
          have e6 := (HI11.out.2.2.2.2.2.2.2.2.cell (World.block_lt_of_cell? w _ HV6.out)).trans HV6.out
          have e7 := (HI11.out.2.2.2.2.2.2.2.2.cell (World.block_lt_of_cell? w _ HV7.out)).trans HV7.out
          have e8 := (HI11.out.2.2.2.2.2.2.2.2.cell (World.block_lt_of_cell? w _ HV8.out)).trans HV8.out
          have e9 := (HI11.out.2.2.2.2.2.2.2.2.cell (World.block_lt_of_cell? w _ HV9.out)).trans HV9.out
          have e10 := (HI11.out.2.2.2.2.2.2.2.2.cell (World.block_lt_of_cell? w _ HV10.out)).trans HV10.out
          have e11 := (HI11.out.2.2.2.2.2.2.2.2.cell (World.block_lt_of_cell? w _ HV11.out)).trans HV11.out
          have k6_0 : W11.cell? ⟨B + 1, 0, none⟩ = some (.int .i64 xo.f0) := (blk_cell HI11.out.2.2.2.2.2.2.1 0).trans rfl
          have kf6_0 : W11.frozen? ⟨B + 1, 0, none⟩ = false := blk_frozen HI11.out.2.2.2.2.2.2.1 0
          have k6_1 : W11.cell? ⟨B + 1, 1, none⟩ = some (.int .i64 xo.f1) := (blk_cell HI11.out.2.2.2.2.2.2.1 1).trans rfl
          have kf6_1 : W11.frozen? ⟨B + 1, 1, none⟩ = false := blk_frozen HI11.out.2.2.2.2.2.2.1 1
          have k6_2 : W11.cell? ⟨B + 1, 2, none⟩ = some (.bool xo.f2) := (blk_cell HI11.out.2.2.2.2.2.2.1 2).trans rfl
          have kf6_2 : W11.frozen? ⟨B + 1, 2, none⟩ = false := blk_frozen HI11.out.2.2.2.2.2.2.1 2
          have k6_3 : W11.cell? ⟨B + 1, 3, none⟩ = some (.int .i64 xo.f3) := (blk_cell HI11.out.2.2.2.2.2.2.1 3).trans rfl
          have kf6_3 : W11.frozen? ⟨B + 1, 3, none⟩ = false := blk_frozen HI11.out.2.2.2.2.2.2.1 3
          have k6_4 : W11.cell? ⟨B + 1, 4, none⟩ = some (.int .i64 xo.f4) := (blk_cell HI11.out.2.2.2.2.2.2.1 4).trans rfl
          have kf6_4 : W11.frozen? ⟨B + 1, 4, none⟩ = false := blk_frozen HI11.out.2.2.2.2.2.2.1 4
          have k6_5 : W11.cell? ⟨B + 1, 5, none⟩ = some (.bool xo.f5) := (blk_cell HI11.out.2.2.2.2.2.2.1 5).trans rfl
          have kf6_5 : W11.frozen? ⟨B + 1, 5, none⟩ = false := blk_frozen HI11.out.2.2.2.2.2.2.1 5
          have k6_6 : W11.cell? ⟨B + 1, 6, none⟩ = some (.bool xo.f6) := (blk_cell HI11.out.2.2.2.2.2.2.1 6).trans rfl
          have kf6_6 : W11.frozen? ⟨B + 1, 6, none⟩ = false := blk_frozen HI11.out.2.2.2.2.2.2.1 6
          have k6_7 : W11.cell? ⟨B + 1, 7, none⟩ = some (.bool xo.f7) := (blk_cell HI11.out.2.2.2.2.2.2.1 7).trans rfl
          have kf6_7 : W11.frozen? ⟨B + 1, 7, none⟩ = false := blk_frozen HI11.out.2.2.2.2.2.2.1 7
          have k6_8 : W11.cell? ⟨B + 1, 8, none⟩ = some (.int .i64 xo.f8) := (blk_cell HI11.out.2.2.2.2.2.2.1 8).trans rfl
          have kf6_8 : W11.frozen? ⟨B + 1, 8, none⟩ = false := blk_frozen HI11.out.2.2.2.2.2.2.1 8
          have k6_9 : W11.cell? ⟨B + 1, 9, none⟩ = some (.int .i64 xo.f9) := (blk_cell HI11.out.2.2.2.2.2.2.1 9).trans rfl
          have kf6_9 : W11.frozen? ⟨B + 1, 9, none⟩ = false := blk_frozen HI11.out.2.2.2.2.2.2.1 9
          have k6_10 : W11.cell? ⟨B + 1, 10, none⟩ = some (.int .i64 xo.f10) := (blk_cell HI11.out.2.2.2.2.2.2.1 10).trans rfl
          have kf6_10 : W11.frozen? ⟨B + 1, 10, none⟩ = false := blk_frozen HI11.out.2.2.2.2.2.2.1 10
          have k6_11 : W11.cell? ⟨B + 1, 11, none⟩ = some (.bool xo.f11) := (blk_cell HI11.out.2.2.2.2.2.2.1 11).trans rfl
          have kf6_11 : W11.frozen? ⟨B + 1, 11, none⟩ = false := blk_frozen HI11.out.2.2.2.2.2.2.1 11
          have kl : W11.cell? ⟨w.heap.size + 1, 0, none⟩ = some (.slice (some ad) l1.length c1) := (blk_cell HI11.out.2.1 0).trans rfl
          gi_wp2
          refine ⟨KeepsOthers.trans HK11.out (by repeat (first | with_reducible exact KeepsOthers.refl _ | with_reducible refine KeepsOthers.trans ?_ (KeepsOthers.setCell _ _ _))), ⟨by repeat (first | with_reducible exact HB11.out | (with_reducible refine Below.setCell ?_ (by dsimp only; omega) _)), fun b hb o ho => ?_⟩, fun y hy => ?_, ?_⟩
          · obtain rfl := List.mem_singleton.1 hb
            repeat (with_reducible refine heap_set ?_ (by dsimp only; omega))
            exact HN11.out o ho
          · rcases List.mem_append.1 hy with hy | hy
            · exact HALL.out y hy
            · obtain rfl := List.mem_singleton.1 hy
              exact (congrArg rt_rec HXE.out).trans HRB.out
          · have hst : rt_step l1 (g, ak, xo) x = (g1, ak1, xe) := by
              simp only [rt_step]
              rw [HXE.out, HG1.out, HAK1.out, if_pos (Or.inr h8.2)]
            rw [rt_fold_snoc, HS.out, hst]
            exact RtB.cast (by repeat (first | with_reducible exact HI11.out | with_reducible apply RtB.set_o)) (by first | with_reducible rfl | (simp only [List.setIfInBounds_toArray, List.set_cons_zero, List.set_cons_succ]; done)) (by first | with_reducible rfl | (simp only [List.setIfInBounds_toArray, List.set_cons_zero, List.set_cons_succ]; done)) (by first | with_reducible rfl | (simp only [List.setIfInBounds_toArray, List.set_cons_zero, List.set_cons_succ]; done)) (by first | with_reducible rfl | (simp only [List.setIfInBounds_toArray, List.set_cons_zero, List.set_cons_succ]; done)) (by first | with_reducible rfl | (simp only [List.setIfInBounds_toArray, List.set_cons_zero, List.set_cons_succ]; done)) (by first | with_reducible rfl | (simp only [List.setIfInBounds_toArray, List.set_cons_zero, List.set_cons_succ]; done))
        · have h1 : ((i : Int) == 0) = false := by simp; omega
          have h2 := h8.1
          refine start_r (m := 12) (S := fun w' => w'.cell? ⟨w.heap.size + 1, 0, none⟩ = some (.slice (some ad) l1.length c1) ∧ w'.cell? ⟨(ad.add (i * 12)).block, (ad.add (i * 12)).off + 8, none⟩ = some (.int .i64 xe.f8) ∧ w'.cell? ⟨B + 1, 8, none⟩ = some (.int .i64 xo.f8)) (ds := []) #[false, false, false, false, false, false, false, false, false, false, false, false] (by rintro ⟨_, _, h⟩; exact h) (by rfl) (by kernel_rfl) rfl rfl ⟨(blk_cell HI10.out.2.1 0).trans rfl, (HI10.out.2.2.2.2.2.2.2.2.cell (World.block_lt_of_cell? w _ HV8.out)).trans HV8.out, (blk_cell HI10.out.2.2.2.2.2.2.1 8).trans rfl⟩ (fun hHeld => ?_)
          have HI11 := Lib.hid (RtB.drew HI10.out); have HK11 := Lib.hid (show KeepsOthers W W10.drew from HK10.out.trans (KeepsOthers.drew _)); have HB11 := Lib.hid (show Below w.heap.size W W10.drew from below_drew1 HB10.out); have HN11 := Lib.hid (show ∀ o, W.heap[B + 1 + 1]? = some o → W10.drew.heap[B + 1 + 1]? = some o from HN10.out)
          generalize W10.drew = W11 at HI11 HK11 HB11 HN11 hHeld ⊢
          refine pure_ (i := 0) (N := some 57) (v := ?_) (a' := ?_) #[true, false, false, false, false, false, false, false, false, false, false, false] rfl rfl (by kernel_rfl) (fun _ _ _ h => h) (Or.inl ⟨by rfl, ?_⟩) ?_ ?_
          rotate_left
          · intro w'
            go_simp
            with_reducible rfl
          rotate_left
          · simp only [Act.put, List.setIfInBounds_toArray, List.set_cons_zero, List.set_cons_succ, i64_w, i32_w]
            rfl
          refine pure_ (i := 1) (N := some 58) (v := ?_) (a' := ?_) #[true, true, false, false, false, false, false, false, false, false, false, false] rfl rfl (by kernel_rfl) (fun _ _ _ h => h) (Or.inl ⟨by rfl, ?_⟩) ?_ ?_
          rotate_left
          · intro w'
            go_simp
            with_reducible rfl
          rotate_left
          · simp only [Act.put, List.setIfInBounds_toArray, List.set_cons_zero, List.set_cons_succ, i64_w, i32_w]
            rfl
          refine pure_ (i := 2) (N := some 59) (v := ?_) (a' := ?_) #[true, true, true, false, false, false, false, false, false, false, false, false] rfl rfl (by kernel_rfl) (fun _ _ _ h => h) (Or.inl ⟨by rfl, ?_⟩) ?_ ?_
          rotate_left
          · intro w'
            go_simp
            with_reducible rfl
          rotate_left
          · simp only [Act.put, List.setIfInBounds_toArray, List.set_cons_zero, List.set_cons_succ, i64_w, i32_w]
            rfl
          refine pure_ (i := 4) (N := some 61) (v := ?_) (a' := ?_) #[true, true, true, false, true, false, false, false, false, false, false, false] rfl rfl (by kernel_rfl) (fun _ _ _ h => h) (Or.inl ⟨by rfl, ?_⟩) ?_ ?_
          rotate_left
          · intro w'
            go_simp
            with_reducible rfl
          rotate_left
          · simp only [Act.put, List.setIfInBounds_toArray, List.set_cons_zero, List.set_cons_succ, i64_w, i32_w]
            rfl
          refine pure_ (i := 8) (N := some 65) (v := ?_) (a' := ?_) #[true, true, true, false, true, false, false, false, true, false, false, false] rfl rfl (by kernel_rfl) (fun _ _ _ h => h) (Or.inl ⟨by rfl, ?_⟩) ?_ ?_
          rotate_left
          · intro w'
            go_simp
            with_reducible rfl
          rotate_left
          · simp only [Act.put, List.setIfInBounds_toArray, List.set_cons_zero, List.set_cons_succ, i64_w, i32_w]
            rfl
          refine take_ (i := 3) (N := some 60) (v := ?_) (a' := ?_) #[true, true, true, true, true, false, false, false, true, false, false, false] rfl rfl (by kernel_rfl) (fun _ _ _ h => h) (Or.inl ⟨by rfl, ?_⟩) hHeld ?_ ?_
          rotate_left
          · rintro w' ⟨s0, s1, s2⟩
            go_simp
            with_reducible rfl
          rotate_left
          · simp only [Act.put, List.setIfInBounds_toArray, List.set_cons_zero, List.set_cons_succ, i64_w, i32_w]
            rfl
          refine pure_ (i := 5) (N := some 62) (v := ?_) (a' := ?_) #[true, true, true, true, true, true, false, false, true, false, false, false] rfl rfl (by kernel_rfl) (fun _ _ _ h => h) (Or.inl ⟨by rfl, ?_⟩) ?_ ?_
          rotate_left
          · intro w'
            go_simp
            with_reducible rfl
          rotate_left
          · simp only [Act.put, List.setIfInBounds_toArray, List.set_cons_zero, List.set_cons_succ, i64_w, i32_w]
            rfl
          refine pure_ (i := 6) (N := some 63) (v := ?_) (a' := ?_) #[true, true, true, true, true, true, true, false, true, false, false, false] rfl rfl (by kernel_rfl) (fun _ _ _ h => h) (Or.inl ⟨by rfl, ?_⟩) ?_ ?_
          rotate_left
          · intro w'
            go_simp
            with_reducible rfl
          rotate_left
          · simp only [Act.put, List.setIfInBounds_toArray, List.set_cons_zero, List.set_cons_succ, i64_w, i32_w]
            rfl
          refine take_ (i := 7) (N := some 64) (v := ?_) (a' := ?_) #[true, true, true, true, true, true, true, true, true, false, false, false] rfl rfl (by kernel_rfl) (fun _ _ _ h => h) (Or.inl ⟨by rfl, ?_⟩) hHeld ?_ ?_
          rotate_left
          · rintro w' ⟨s0, s1, s2⟩
            go_simp
            with_reducible rfl
          rotate_left
          · simp only [Act.put, List.setIfInBounds_toArray, List.set_cons_zero, List.set_cons_succ, i64_w, i32_w]
            rfl
          refine take_ (i := 9) (N := some 66) (v := ?_) (a' := ?_) #[true, true, true, true, true, true, true, true, true, true, false, false] rfl rfl (by kernel_rfl) (fun _ _ _ h => h) (Or.inl ⟨by rfl, ?_⟩) hHeld ?_ ?_
          rotate_left
          · rintro w' ⟨s0, s1, s2⟩
            go_simp
            with_reducible rfl
          rotate_left
          · simp only [Act.put, List.setIfInBounds_toArray, List.set_cons_zero, List.set_cons_succ, i64_w, i32_w]
            rfl
          refine pure_ (i := 10) (N := some 67) (v := ?_) (a' := ?_) #[true, true, true, true, true, true, true, true, true, true, true, false] rfl rfl (by kernel_rfl) (fun _ _ _ h => h) (Or.inl ⟨by rfl, ?_⟩) ?_ ?_
          rotate_left
          · intro w'
            go_simp
            with_reducible rfl
          rotate_left
          · simp only [Act.put, List.setIfInBounds_toArray, List.set_cons_zero, List.set_cons_succ, i64_w, i32_w]
            rfl
          refine pure_ (i := 11) (N := some 68) (v := ?_) (a' := ?_) #[true, true, true, true, true, true, true, true, true, true, true, true] rfl rfl (by kernel_rfl) (fun _ _ _ h => h) (Or.inl ⟨by rfl, ?_⟩) ?_ ?_
          rotate_left
          · intro w'
            go_simp
            with_reducible rfl
          rotate_left
          · simp only [Act.put, List.setIfInBounds_toArray, List.set_cons_zero, List.set_cons_succ, i64_w, i32_w]
            rfl
          refine done_ (by kernel_rfl) ?_
          clear hHeld
          gi_wp2
          refine ⟨KeepsOthers.trans HK11.out (KeepsOthers.refl _), ⟨HB11.out, fun b hb o ho => ?_⟩, fun y hy => ?_, ?_⟩
          · obtain rfl := List.mem_singleton.1 hb
            repeat (with_reducible refine heap_set ?_ (by dsimp only; omega))
            exact HN11.out o ho
          · rcases List.mem_append.1 hy with hy | hy
            · exact HALL.out y hy
            · obtain rfl := List.mem_singleton.1 hy
              exact (congrArg rt_rec HXE.out).trans HRB.out
          · have hst : rt_step l1 (g, ak, xo) x = (g1, ak1, xo) := by
              simp only [rt_step]
              rw [HXE.out, HG1.out, HAK1.out, if_neg (by rintro (h | h); (rw [HX.out] at h; exact h0 h); (have h9 := h8.2; omega))]
            rw [rt_fold_snoc, HS.out, hst]
            exact RtB.cast (by repeat (first | with_reducible exact HI11.out | with_reducible apply RtB.set_o)) (by first | with_reducible rfl | (simp only [List.setIfInBounds_toArray, List.set_cons_zero, List.set_cons_succ]; done)) (by first | with_reducible rfl | (simp only [List.setIfInBounds_toArray, List.set_cons_zero, List.set_cons_succ]; done)) (by first | with_reducible rfl | (simp only [List.setIfInBounds_toArray, List.set_cons_zero, List.set_cons_succ]; done)) (by first | with_reducible rfl | (simp only [List.setIfInBounds_toArray, List.set_cons_zero, List.set_cons_succ]; done)) (by first | with_reducible rfl | (simp only [List.setIfInBounds_toArray, List.set_cons_zero, List.set_cons_succ]; done)) (by first | with_reducible rfl | (simp only [List.setIfInBounds_toArray, List.set_cons_zero, List.set_cons_succ]; done))
      
end
theorem rate_Given.calls (a0_0 : Int) (a0_1 : Int) (a0_2 : Int) (a0_3 : Int) (A1 : Option Addr) (c1 : Nat) (l1 : List S33) (a2 : Int) (a3 : Int) (r1 : Int) (r2 : Int) (r3 : Int) (r4 : Int) (r5 : Int) (r6 : Int) (r7 : Int) (r8 : Int) (r9 : Bool) (r10 : Int) (r11 : Int) (r12 : Int) (r13 : Int) (w : World) (hr1 : Kd.C k33 w A1 l1.length l1) (hc1 : l1.length ≤ c1) (h : rate_Given.f a0_0 a0_1 a0_2 a0_3 l1 a2 a3 = some (r1, r2, r3, r4, r5, r6, r7, r8, r9, r10, r11, r12, r13)) :
    Calls Try.prog 7 #[.agg #[.int .i64 a0_0, .int .i64 a0_1, .int .i64 a0_2, .int .i64 a0_3], .slice A1 l1.length c1, .int .i64 a2, .int .i64 a3] w fun e w' => e = .returned (.tuple #[.agg #[.int .i64 r1, .int .i64 r2, .int .i64 r3, .int .i64 r4], .agg #[.int .i64 r5, .int .i64 r6, .int .i64 r7, .int .i64 r8, .bool r9, .int .i64 r10, .int .i64 r11, .int .i64 r12], .int .i64 r13]) ∧ Below w.heap.size w w' := by
  unfold rate_Given.f at h
  by_cases hc : rt_chk (⟨a0_0, a0_1, a0_2, a0_3⟩ : S23) = 0
  · rw [if_pos hc] at h
    by_cases ht : [a2, a3].all rt_tm = true
    · rw [if_pos ht] at h
      exact rt_main a0_0 a0_1 a0_2 a0_3 A1 c1 l1 a2 a3 w hr1 hc ht r1 r2 r3 r4 r5 r6 r7 r8 r9 r10 r11 r12 r13 h
    · rw [if_neg ht] at h
      simp only [Option.some.injEq, Prod.mk.injEq] at h
      obtain ⟨rfl, rfl, rfl, rfl, rfl, rfl, rfl, rfl, rfl, rfl, rfl, rfl, rfl⟩ := h
      exact rt_err2 a0_0 a0_1 a0_2 a0_3 A1 c1 l1 a2 a3 w hr1 hc (by simpa using ht)
  · rw [if_neg hc] at h
    simp only [Option.some.injEq, Prod.mk.injEq] at h
    obtain ⟨rfl, rfl, rfl, rfl, rfl, rfl, rfl, rfl, rfl, rfl, rfl, rfl, rfl⟩ := h
    exact rt_err1 a0_0 a0_1 a0_2 a0_3 A1 c1 l1 a2 a3 w hr1 hc


end Go.Proofs.Ytbdomghfgaceaaa.PA

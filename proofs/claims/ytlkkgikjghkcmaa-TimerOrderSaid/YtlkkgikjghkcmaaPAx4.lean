-- Written for the seat Ytlkkgikjghkcmaa by this session's program hyb.py (the print's functions, with externals typed by hand).
import Derived.Lib.Hide
import Derived.LoopIn
import Derived.LoopNIn
import Derived.OwnWalkIn
import Derived.RangeFuncBound
import Derived.RangeFuncBox
import Derived.RangeFuncCalls
import Derived.RangeFuncLeaves
import Derived.RangeFuncNested
import Derived.Shelf.Abstract
import Derived.Shelf.AbstractIn
import Derived.Shelf.RegionOpen
import Derived.TacticsInMore
import Derived.WalkKit
import Derived.Test.YtlkkgikjghkcmaaPAx0
import Derived.Test.YtlkkgikjghkcmaaPAx2
import Derived.Test.YtlkkgikjghkcmaaPAx3
namespace Go.Proofs.Ytlkkgikjghkcmaa.PA
open Go.RowKit Go.Proofs.YtlkkgikjghkcmaaW.PrintWords Go.Proofs.YtlkkgikjghkcmaaW.PrintLast Go.Proofs.YtlkkgikjghkcmaaW.PrintMore
attribute [local go_sem] max2_int min2_int max_two min_two max_three min_three max_four min_four   -- for this text's walks alone
set_option linter.unusedVariables false
set_option linter.unusedSimpArgs false

/-! ### timer_Stop: function 13 (typed by hand) -/
/-! aux: regions inside a round, by the plain walk's steps -/
section
open Go.Shelf
def noDeferR (l : List Oper) : Bool := l.all fun o => match o.op with | .defer _ => false | _ => true
theorem noDeferR_at {l : List Oper} (h : noDeferR l = true) {o : Oper} (hm : o ∈ l) : ∀ c, o.op ≠ .defer c := by
 intro c hc
 have := List.all_eq_true.1 h o hm
 rw [hc] at this
 exact absurd this (by simp)
theorem rowsIn_wide_round {n lp : Nat} {P : Program} {row : String} {args : Array Value} {w : World} {R : Value → World → Prop} (h : Rows P row args w R) : RowsIn (Fence.wide.inRound lp) n P row args w R :=
 fun c cs _ => let ⟨v, w', r, s⟩ := h c cs; ⟨v, w', r, stepsIn_wide.2 s⟩
theorem oper_toRound {n lp : Nat} {P : Program} {o : Oper} {Q : Exit → Act → World → Prop} {K K' : Act → World → Prop} {a : Act} {w : World} (hnd : ∀ c, o.op ≠ .defer c) (hK : ∀ a w, K a w → K' a w) (h : o.wp P a w K Q) :
  o.wpIn (Fence.wide.inRound lp) n P a w K' Q := by
 refine ⟨fun _ _ => trivial, ?_⟩
 rw [Oper.semAt_eq _ _ _ hnd]
 unfold Oper.wp at h
 generalize (execOp a.eval o).run P w = r at h ⊢
 cases r with
 | ok x w' =>
  cases x <;> simp only [Oper.upon, Oper.uponIn] at h ⊢ <;>
   first
    | exact hK _ _ h
    | exact ⟨fun h => absurd h (by simp [Fence.wide]), CallsIn.inRound lp (callsIn_wide.2 (Calls.mono h (fun e w'' he => by cases e <;> first | exact hK _ _ he | exact he)))⟩
    | exact ⟨fun h => absurd h (by simp [Fence.wide]), rowsIn_wide_round (Rows.mono h (fun _ _ he => hK _ _ he))⟩
    | exact h
 | halt x w' => cases x <;> simp only [Oper.upon, Oper.uponIn] at h ⊢ <;> exact h
theorem list_toRound {n lp : Nat} {P : Program} {ops : Array Oper} {Q : Exit → Act → World → Prop} (hQ : ¬ LetsOut Q) : ∀ (l : List Oper), noDeferR l = true → ∀ (a : Act) (w : World), wpList P ops Q l a w → wpListIn (Fence.wide.inRound lp) n P ops Q l a w
 | [], _, _, _, h => h
 | o :: l, hnd, a, w, h => by
  have hd : noDeferR l = true := by unfold noDeferR at hnd ⊢; simp only [List.all_cons, Bool.and_eq_true] at hnd; exact hnd.2
  have ih := list_toRound (n := n) (lp := lp) (P := P) (ops := ops) hQ l hd
  unfold wpList at h
  unfold wpListIn
  split at h
  ·rename_i hw
   rw [if_pos hw]
   rcases h with h | ⟨_, h⟩
   ·exact oper_toRound (noDeferR_at hnd List.mem_cons_self) (fun a w h => ih a w h) h
   ·exact absurd h hQ
  ·rename_i hw
   rw [if_neg hw]
   exact ⟨fun _ _ => trivial, ih _ _ h⟩
theorem wpOp_toRound {n lp : Nat} {P : Program} {l : List Oper} {Q : Exit → Act → World → Prop} {i : Nat} {K K' : Act → World → Prop} {a : Act} {w : World} (hQ : ¬ LetsOut Q) (hnd : noDeferR l = true) (hK : ∀ a w, K a w → K' a w)
  (h : wpOp P l.toArray Q i K a w) : wpOpIn (Fence.wide.inRound lp) n P l.toArray Q i K' a w := by
 unfold wpOp at h
 unfold wpOpIn
 cases ho : l.toArray[i]? with
 | none => simp only [ho] at h ⊢; exact hK _ _ h
 | some o =>
  simp only [ho] at h ⊢
  have hm : o ∈ l := by
   have : l[i]? = some o := by simpa using ho
   exact List.mem_of_getElem? this
  split at h
  ·rename_i hw
   rw [if_pos hw]
   rcases h with h | ⟨_, h⟩
   ·exact oper_toRound (noDeferR_at hnd hm) hK h
   ·exact absurd h hQ
  ·rename_i hw
   rw [if_neg hw]
   exact ⟨fun _ _ => trivial, hK _ _ h⟩
theorem wpAny_toRound {n lp : Nat} {P : Program} {md : Region.Mode} {l : List Oper} {Q : Exit → Act → World → Prop} (hQ : ¬ LetsOut Q) (hnd : noDeferR l = true) : ∀ (fuel : Nat) (listed : Array Bool) (a : Act) (w : World),
  wpAny P md l.toArray Q fuel listed a w → wpAnyIn (Fence.wide.inRound lp) n P md l.toArray Q fuel listed a w
 | 0, _, _, _, h => h
 | fuel + 1, _, _, _, h => ⟨h.1, fun i hi => wpOp_toRound hQ hnd (fun a w h => wpAny_toRound hQ hnd fuel _ a w h) (h.2 i hi)⟩
/-- A plain region of a round. -/
theorem list_r {n lp id : Nat} {P : Program} {l : List Oper} {Q : Exit → Act → World → Prop} {a : Act} {w : World} (hQ : ¬ LetsOut Q) (hnd : noDeferR l = true) (h : wpList P l.toArray Q l a w) : (Code.region id l.toArray false).wpIn (Fence.wide.inRound lp) n P Q a w :=
 wpIn_region_lit (list_toRound hQ l hnd a w h)
/-- A region of a round that draws its order. -/
theorem start_r {n lp id m : Nat} {P : Program} {ops : List Oper} {Q : Exit → Act → World → Prop} {S : World → Prop} {ds : List Nat} {a : Act} {w : World} (l : Array Bool) (hQ : ¬ LetsOut Q) (hnd : noDeferR ops = true) (hm : P.follows .mixedOrders = true) (hn : ops.length = m) (hl : Array.replicate m false = l) (hS : S w.drew)
  (h : S w.drew → wpAnyLast P .any ops.toArray Q S ds m l a w.drew) : (Code.region id ops.toArray true).wpIn (Fence.wide.inRound lp) n P Q a w := by
 subst hn
 subst hl
 exact wpIn_region_any hm (wpAny_toRound hQ hnd _ _ _ _ (by have := wpAny_of_last _ _ _ _ (h hS); simpa using this))
end

section
open Go.Shelf
attribute [local go_sem] Oper.semAt_some
def tm_not (kk : Int) (x : S38) : Bool := decide (x.f0 ≠ kk)
theorem tm_hb {W W' : World} {D : Nat} {o : Obj} (hb : Below W.heap.size W W') (h : W.heap[D]? = some o) : W'.heap[D]? = some o := (hb.block D (Array.getElem?_eq_some_iff.1 h).1).trans h
theorem tm_take_succ (q : S38 → Bool) (l : List S38) (k : Nat) (h : k < l.length) : (l.take (k + 1)).filter q = (l.take k).filter q ++ (if q l[k] = true then [l[k]] else []) := by
 rw [List.take_succ_eq_append_getElem h, List.filter_append]
 congr 1
 by_cases hp : q l[k] = true
 ·rw [if_pos hp]; simp [List.filter, hp]
 ·rw [if_neg hp]; simp [List.filter, hp]
set_option maxRecDepth 100000 in
set_option maxHeartbeats 8000000 in
theorem tm_others (n : Nat) (hn : 1 ≤ n) (kk : Int) (lp Bl Bk : Nat) (A0 : Option Addr) (c0 : Nat) (l0 : List S38) (w0 : World) (J Jx : List S38 → World → Prop) (W : World) (hJ : AbidesFrom W.heap.size J)
  (hY : ∀ pre x W1, J pre W1 → pre.length < l0.length + 1 → YieldAt Fence.wide (n - 1) Try.prog lp #[.agg #[.int .i64 x.f0, .int .i64 x.f1]] W1 fun e W' =>
   (e = .returned (.bool true) ∧ J (pre ++ [x]) W' ∧ KpB w0.heap.size [Bk] W1 W') ∨ (e = .returned (.bool false) ∧ Jx (pre ++ [x]) W'))
  (hBl : W.cell? ⟨Bl, 0, none⟩ = some (.slice A0 l0.length c0)) (hBk : W.heap[Bk]? = some (.cells #[.int .i64 kk] 28 (0, 0))) (hC : Kd.C k38 w0 A0 l0.length l0) (hB : Below w0.heap.size w0 W) (h0 : J [] W) :
  CallsIn Fence.wide n Try.prog 33 #[.func (.yield lp) #[] #[], .pointer (some ⟨Bl, 0, none⟩), .pointer (some ⟨Bk, 0, none⟩)] W fun e W' => (∃ v, e = .returned v) ∧
   ((∃ ys, ys = l0.filter (tm_not kk) ∧ J ys W') ∨ (∃ pre, True ∧ Jx pre W')) := by
 refine callsIn_of_wp Try.func33 rfl trivial ?_ rfl
 simp only [Try.ntmps33, List.size_toArray, List.length_cons, List.length_nil, Nat.reduceAdd, Nat.reduceSub, Array.replicate_succ, Array.replicate_zero, List.push_toArray, List.append_toArray, List.nil_append, List.cons_append]
 have hm : l0.length ≤ 9223372036854775807 := hC.2.1
 have HC := Lib.hid hC; clear hC
 have HY := Lib.hid hY; clear hY
 have HJ := Lib.hid hJ; clear hJ
 have HBk := Lib.hid hBk; clear hBk
 gi_wp2
 gi_loopw [8] (fun i wr => ∃ k : Nat, k ≤ l0.length ∧ i = .int .i64 k ∧ J ((l0.take k).filter (tm_not kk)) wr ∧ KpB w0.heap.size [Bk] W wr ∧ W.heap.size ≤ wr.heap.size)
  (fun i _ => l0.length - (intOf i).toNat)
 case atStart => exact ⟨0, Nat.zero_le _, rfl, by rw [List.take_zero]; exact h0, KpB.refl _ _ _, Nat.le_refl _⟩
 case round =>
  obtain ⟨k, hk, rfl, hJs, hnx, hsz⟩ := hrel
  by_cases hlt : k < l0.length
  ·have hbw : Below w0.heap.size w0 wr := hB.trans hnx.1
   have hbt : wr.heap[Bk]? = some (.cells #[.int .i64 kk] 28 (0, 0)) := hnx.2 Bk (by simp) _ HBk.out
   obtain ⟨ad, had, hx0, hx1⟩ := at_T38 HC.out (k : Int) (by omega) (by omega)
   obtain rfl := had
   replace hx0 := (hbw.cell (World.block_lt_of_cell? w0 _ hx0)).trans hx0
   replace hx1 := (hbw.cell (World.block_lt_of_cell? w0 _ hx1)).trans hx1
   have hg : l0.getD k z38 = l0[k] := by rw [List.getD_eq_getElem?_getD, List.getElem?_eq_getElem hlt]; rfl
   have hrd : rd_T38 l0 (k : Int) = l0[k] := by rw [← hg]; rfl
   simp only [Int.toNat_natCast, hrd] at hx0 hx1
   have hps := tm_take_succ (tm_not kk) l0 k hlt
   have hlen : ((l0.take k).filter (tm_not kk)).length < l0.length + 1 := by have := List.length_filter_le (tm_not kk) (l0.take k); rw [List.length_take] at this; omega
   obtain ⟨x, hx⟩ : ∃ x, l0[k] = x := ⟨_, rfl⟩
   rw [hx] at hx0 hx1 hps
   have HPS := Lib.hid hps; have HNX := Lib.hid hnx; have HJs := Lib.hid hJs; have HBW := Lib.hid hbw
   have hbx : Below wr.heap.size wr (wr.alloc (.cells #[.int .i64 x.f0, .int .i64 x.f1] 38)) := (Below.refl _ wr).alloc (Nat.le_refl _) _
   have HBX := Lib.hid hbx
   have hbt0 : (wr.alloc (.cells #[.int .i64 x.f0, .int .i64 x.f1] 38)).cell? ⟨Bk, 0, none⟩ = some (.int .i64 kk) := (blk_cell (blk_alloc hbt _) 0).trans rfl
   have hlt' : (k : Int) < l0.length := by omega
   have hq0 : tm_not kk x = decide (x.f0 ≠ kk) := rfl
   by_cases hq : x.f0 = kk
   ·have hq1 : (x.f0 != kk) = false := bne_eq_false_iff_eq.mpr hq
    rw [decide_eq_false (by simpa using hq)] at hq0
    have HQ := Lib.hid hq0
    clear hg hrd hps hx hnx hJs hbw hbx hlen hbt hq hq0
    gi_wp2
    refine ⟨(by intro f hf; cases hf), ?_⟩
    gi_wp2
    go_roundw
    case rel => exact ⟨k + 1, by omega, by simp, by rw [HPS.out, HQ.out]; simpa using abides_below HJ.out HJs.out HBX.out, HNX.out.trans (KpB.of_below HBX.out HBW.out.size), Nat.le_trans hsz HBX.out.size⟩
    case measure => simp [intOf]; omega
   ·have hq1 : (x.f0 != kk) = true := bne_iff_ne.mpr hq
    rw [decide_eq_true hq] at hq0
    have HQ := Lib.hid hq0
    obtain ⟨fn, tmps, assign, body, hy, hR⟩ := HY.out ((l0.take k).filter (tm_not kk)) x _ (abides_below HJ.out HJs.out HBX.out) hlen
    clear hg hrd hps hx hnx hJs hbw hbx hlen hbt hq hq0
    gi_wp2
    refine hR.mono ?_
    rintro e W3 (⟨rfl, hJ3, hk3⟩ | ⟨rfl, hJx3⟩)
    ·have HJ3 := Lib.hid hJ3; have HK3 := Lib.hid hk3; clear hJ3 hk3
     gi_wp2
     go_roundw
     case rel => exact ⟨k + 1, by omega, by simp, by rw [HPS.out, HQ.out, if_pos rfl]; exact HJ3.out, (HNX.out.trans (KpB.of_below HBX.out HBW.out.size)).trans HK3.out, Nat.le_trans (Nat.le_trans hsz HBX.out.size) HK3.out.1.size⟩
     case measure => simp [intOf]; omega
    ·have HJX := Lib.hid hJx3; clear hJx3
     gi_wp2
     refine bodyPost_ret (results_none rfl _ _ _) rfl ?_
     exact ⟨⟨_, rfl⟩, .inr ⟨_, trivial, HJX.out⟩⟩
  ·obtain rfl : k = l0.length := by omega
   have HJs := Lib.hid (show J (l0.filter (tm_not kk)) wr from by rw [List.take_length] at hJs; exact hJs); clear hJs
   gi_wp2
   go_end0
   exact ⟨⟨_, rfl⟩, .inl ⟨_, rfl, HJs.out⟩⟩
theorem tm_others_call (A : Option Addr) (n c : Nat) (kk : Int) (w : World) : Calls Try.prog 20 #[.slice A n c, .int .i64 kk] w fun e w' => e = .returned (.func (.func 33) #[] #[.pointer (some ⟨w.heap.size, 0, none⟩), .pointer (some ⟨w.heap.size + 1, 0, none⟩)]) ∧ (w.alloc (.cells #[.slice A n c] 22)).alloc (.cells #[.int .i64 kk] 28) = w' := by
 go_enter Try.func20, Try.ntmps20
 go_wp2
 go_ret
 exact ⟨rfl, rfl⟩
end
theorem tm_ok_lt (l : List S38) (h : tm_chk l = 0) (i : Nat) (hi : i < l.length) : tm_ok l i = true := by
 unfold tm_chk at h
 by_cases hq : (List.range l.length).all (tm_ok l) = true
 ·exact List.all_eq_true.1 hq i (List.mem_range.2 hi)
 ·rw [if_neg hq] at h; cases h
theorem tm_at (l : List S38) (h : tm_chk l = 0) : ∀ i : Nat, i < l.length → (i : Int) + 1 ≤ (l.getD i z38).f0 ∧ (l.getD i z38).f0 ≤ 5 := by
 intro i
 induction i with
 | zero =>
  intro hi
  have := tm_ok_lt l h 0 hi
  unfold tm_ok tm_may at this
  simp only [Bool.and_eq_true, decide_eq_true_eq] at this
  omega
 | succ i ih =>
  intro hi
  have h1 := ih (by omega)
  have := tm_ok_lt l h (i + 1) hi
  unfold tm_ok tm_may at this
  simp only [Bool.and_eq_true, Bool.or_eq_true, decide_eq_true_eq, Nat.add_sub_cancel] at this
  omega
theorem tm_len (l : List S38) (h : tm_chk l = 0) : l.length ≤ 5 := by
 by_cases hl : 5 < l.length
 ·have := tm_at l h 5 hl; omega
 ·omega
def TmOk (Bo k : Nat) : Prop := k < Bo ∨ Bo + 1 + 1 + 1 ≤ k
/-- What lies in the variables between two rounds. -/
def TmI (w : World) (Bo : Nat) (pre : List S38) (W : World) : Prop :=
 ∃ v, W.heap[Bo]? = some (.cells #[v] 22 (0, 0)) ∧ Kd.R k38 38 W w.heap.size (TmOk Bo) v pre ∧ Below w.heap.size w W ∧ Bo + 1 + 1 + 1 ≤ W.heap.size ∧ w.heap.size ≤ Bo
theorem TmI.grown {w W W' : World} {Bo : Nat} {pre : List S38} {row : Option Nat} (h : TmI w Bo pre W) (hg : W.grownBy W' row) (hr : ∀ r, row = some r → w.heap.size ≤ r ∧ ∃ o : Obj, W.heap[r]? = some o ∧ o.isCells = false) : TmI w Bo pre W' := by
 obtain ⟨v, h1, h2, h3, h4, h5⟩ := h
 exact ⟨v, blk_own h1 hg (fun r e => (hr r e).2), R_own' h2 hg (fun r e => (hr r e).2), h3.grown hg h3.size (fun r e => (hr r e).1), Nat.le_trans h4 hg.size, h5⟩
theorem TmI.below {w W W' : World} {Bo : Nat} {pre : List S38} (h : TmI w Bo pre W) (hb : Below W.heap.size W W') : TmI w Bo pre W' := h.grown (grown_none hb) (fun r e => by cases e)
theorem tm_put1 {W : World} {b : Nat} {v u : Value} {t : TypeId} (h : W.heap[b]? = some (.cells #[v] t (0, 0))) : (W.setCell ⟨b, 0, none⟩ u).heap[b]? = some (.cells #[u] t (0, 0)) := (blk_set h 0 u).trans rfl
theorem tm_stay {w W w1 : World} {Bo : Nat} {pre : List S38} {v : Value} (h1 : W.heap[Bo]? = some (.cells #[v] 22 (0, 0))) (h2 : Kd.R k38 38 W w.heap.size (TmOk Bo) v pre) (h4 : Bo + 1 + 1 + 1 ≤ W.heap.size) (hg : W.grownBy w1 v.ownBlock) : w1.heap[Bo]? = some (.cells #[v] 22 (0, 0)) :=
 (hg.block Bo (by omega) (fun e => by have := h2.1 _ e.symm; unfold TmOk at this; omega)).trans h1
theorem tm_snoc {w W w1 : World} {Bo B : Nat} {pre : List S38} {x : S38} {v v1 : Value} (h1 : W.heap[Bo]? = some (.cells #[v] 22 (0, 0))) (h2 : Kd.R k38 38 W w.heap.size (TmOk Bo) v pre) (h4 : Bo + 1 + 1 + 1 ≤ W.heap.size) (h5 : w.heap.size ≤ Bo)
  (ho : Kd.R k38 38 w1 w.heap.size (TmOk Bo) v1 (pre ++ [x])) (hb : Below w.heap.size w w1) (hg : W.grownBy w1 v.ownBlock) :
  KeepsFrom B W (w1.setCell ⟨Bo, 0, none⟩ v1) ∧ KpB w.heap.size [Bo + 1 + 1] W (w1.setCell ⟨Bo, 0, none⟩ v1) ∧ TmI w Bo (pre ++ [x]) (w1.setCell ⟨Bo, 0, none⟩ v1) := by
 have hne : ∀ j, j = Bo ∨ j = Bo + 1 + 1 → some j ≠ v.ownBlock := by
  intro j hj e
  have := h2.1 j e.symm
  unfold TmOk at this
  omega
 have hbo : w1.heap[Bo]? = some (.cells #[v] 22 (0, 0)) := (hg.block Bo (by omega) (hne Bo (.inl rfl))).trans h1
 have hko : KeepsOthers W w1 := ⟨hg.size, fun k o hk ho => (hg.block k (Array.getElem?_eq_some_iff.1 hk).1 (fun e => by
  obtain ⟨inner, how, _⟩ := h2.2
  obtain ⟨cells, hc⟩ := own_typed how k e.symm
  rw [hc] at hk
  obtain rfl := Option.some.inj hk
  cases ho)).trans hk⟩
 refine ⟨(hko.trans (KeepsOthers.setCell _ _ _)).from _, ⟨?_, fun b hb' o hbo' => ?_⟩, ⟨v1, tm_put1 hbo, ?_, hb.setCell (p := ⟨Bo, 0, none⟩) h5 _, ?_, h5⟩⟩
 ·refine (Below.grown (Below.refl _ W) hg (Nat.le_trans h5 (by omega)) (fun r e => Kd.R_base h2 r e)).setCell (p := ⟨Bo, 0, none⟩) h5 _
 ·obtain rfl := List.mem_singleton.1 hb'
  exact heap_set ((hg.block _ (by omega) (hne _ (.inr rfl))).trans hbo') (by show Bo + 1 + 1 ≠ Bo; omega)
 ·exact Kd.R_far ho (fun k hk => by unfold TmOk at hk; show k ≠ Bo; omega) _
 ·exact Nat.le_trans (Nat.le_trans h4 hg.size) (((Below.refl _ w1).setCell (p := ⟨Bo, 0, none⟩) (Nat.le_refl _) _ : Below Bo w1 _).size)
theorem tm_three (w : World) (o0 o1 o2 : Obj) : let W := ((w.alloc o0).alloc o1).alloc o2; W.heap[w.heap.size]? = some o0 ∧ W.heap[w.heap.size + 1]? = some o1 ∧ W.heap[w.heap.size + 1 + 1]? = some o2 ∧ W.heap.size = w.heap.size + 1 + 1 + 1 ∧ Below w.heap.size w W := by
 intro W
 have s1 : (w.alloc o0).heap.size = w.heap.size + 1 := World.size_alloc _ _
 have s2 : ((w.alloc o0).alloc o1).heap.size = w.heap.size + 1 + 1 := by rw [World.size_alloc, s1]
 refine ⟨blk_alloc (blk_alloc (blk_new w _) _) _, blk_alloc ?_ _, ?_, by rw [World.size_alloc, s2], below_alloc (below_alloc (below_alloc (Below.refl _ _) _) _) _⟩
 ·have h := blk_new (w.alloc o0) o1; rwa [s1] at h
 ·have h := blk_new ((w.alloc o0).alloc o1) o2; rwa [s2] at h
def tm_stop (l : List S38) (kk : Int) : List S38 × Int := if tm_chk l ≠ 0 then ([], tm_chk l) else if 1 ≤ kk ∧ kk ≤ 5 then (l.filter (tm_not kk), 0) else ([], 2)
def timer_Stop.f (l0 : List S38) (a1 : Int) : Option (List S38 × Int) := some (tm_stop l0 a1)
section
open Go.Shelf
attribute [local go_sem] Oper.semAt_some
set_option maxRecDepth 100000 in
set_option maxHeartbeats 8000000 in
theorem timer_Stop.calls (A0 : Option Addr) (c0 : Nat) (l0 : List S38) (a1 : Int) (r1 : List S38) (r2 : Int) (w : World) (hr0 : Kd.C k38 w A0 l0.length l0) (hc0 : l0.length ≤ c0) (h : timer_Stop.f l0 a1 = some (r1, r2)) :
  Calls Try.prog 13 #[.slice A0 l0.length c0, .int .i64 a1] w fun e w' => ∃ v0_ : Value, e = .returned (.tuple #[v0_, .int .i64 r2]) ∧ Kd.R k38 38 w' w.heap.size (fun _ => True) v0_ r1 ∧ Below w.heap.size w w' := by
 have hr : tm_stop l0 a1 = (r1, r2) := Option.some.inj h
 clear h
 have HC := Lib.hid hr0; have HC0 := Lib.hid hc0
 clear hr0 hc0
 unfold tm_stop at hr
 obtain ⟨ec, hec⟩ : ∃ ec, tm_chk l0 = ec := ⟨_, rfl⟩
 rw [hec] at hr
 have HE := Lib.hid hec
 by_cases h1 : ec = 0
 case neg =>
  have q1 : (ec != 0) = true := bne_iff_ne.mpr h1
  rw [if_pos h1] at hr
  obtain ⟨rfl, rfl⟩ := Prod.mk.inj hr
  clear hr h1 hec
  go_enter Try.func13, Try.ntmps13
  go_wp2_with (go_at_call 8; refine (tm_check A0 c0 l0 _ HC.out HC0.out).mono ?_; rintro e w1 ⟨rfl, hb⟩; have HB1 := Lib.hid hb; clear hb; rw [HE.out])
  go_ret2
  exact ⟨_, rfl, Kd.R_nil _ _ _ _ _, HB1.out⟩
 subst h1
 rw [if_neg (by simp)] at hr
 by_cases h2 : 1 ≤ a1 ∧ a1 ≤ 5
 case neg =>
  rw [if_neg h2] at hr
  obtain ⟨rfl, rfl⟩ := Prod.mk.inj hr
  have hm : tm_may (⟨a1, 0⟩ : S38) = false := by unfold tm_may; by_cases h3 : 1 ≤ a1 <;> by_cases h4 : a1 ≤ 5 <;> simp_all
  have HM := Lib.hid (show timer_may.f a1 0 = some false from by have := tm_may_f (⟨a1, 0⟩ : S38); rw [hm] at this; exact this)
  clear hr h2 hec hm
  go_enter Try.func13, Try.ntmps13
  go_wp2_with (first | (go_at_call 8; refine (tm_check A0 c0 l0 _ HC.out HC0.out).mono ?_; rintro e w1 ⟨rfl, hb⟩; have HB1 := Lib.hid hb; clear hb; rw [HE.out]) | (go_at_call 19; refine (timer_may.calls a1 0 _ _ HM.out).mono ?_; rintro e w2 ⟨rfl, hb⟩; have HB2 := Lib.hid (below_step HB1.out hb); clear hb))
  go_ret2
  exact ⟨_, rfl, Kd.R_nil _ _ _ _ _, HB2.out⟩
 rw [if_pos h2] at hr
 obtain ⟨rfl, rfl⟩ := Prod.mk.inj hr
 have hm : tm_may (⟨a1, 0⟩ : S38) = true := by unfold tm_may; simp [h2.1, h2.2]
 have HM := Lib.hid (show timer_may.f a1 0 = some true from by have := tm_may_f (⟨a1, 0⟩ : S38); rw [hm] at this; exact this)
 have HL := Lib.hid (tm_len l0 hec)
 clear hr h2 hec hm
 refine callsIn_wide (n := 9).1 ?_
 refine callsIn_of_wp_marks Try.func13 rfl trivial ?_ rfl
 refine wpIn_wide.2 ?_
 simp only [Try.ntmps13, List.size_toArray, List.length_cons, List.length_nil, Nat.reduceAdd, Nat.reduceSub, Array.replicate_succ, Array.replicate_zero, List.push_toArray, List.append_toArray, List.nil_append, List.cons_append]
 go_wp2_with (first | (go_at_call 8; refine (tm_check A0 c0 l0 _ HC.out HC0.out).mono ?_; rintro e w1 ⟨rfl, hb⟩; have HB1 := Lib.hid hb; clear hb; rw [HE.out]) | (go_at_call 19; refine (timer_may.calls a1 0 _ _ HM.out).mono ?_; rintro e w2 ⟨rfl, hb⟩; have HB2 := Lib.hid (below_step HB1.out hb); clear hb) | (go_at_call 20; refine (tm_others_call _ _ _ _ _).mono ?_; rintro e w3 ⟨rfl, hw'⟩))
 have h5 := tm_three w2 (.cells #[.slice none 0 0] 22) (.cells #[.slice A0 l0.length c0] 22) (.cells #[.int .i64 a1] 28)
 try simp only [World.size_alloc]
 obtain ⟨W0, hW0⟩ : ∃ W0, (((w2.alloc (.cells #[.slice none 0 0] 22)).alloc (.cells #[.slice A0 l0.length c0] 22)).alloc (.cells #[.int .i64 a1] 28)) = W0 := ⟨_, rfl⟩
 rw [hW0] at hw'
 subst hw'
 simp only [hW0] at h5
 have HF := Lib.hid h5
 have HI0 := Lib.hid (show TmI w w2.heap.size [] W0 from ⟨_, HF.out.1, Kd.R_nil _ _ _ _ _, HB2.out.trans (HF.out.2.2.2.2.mono HB2.out.size), Nat.le_of_eq HF.out.2.2.2.1.symm, HB2.out.size⟩)
 clear h5 hW0
 refine wpIn_wide (n := 9).1 ?_
 refine wpIn_rangeFunc_ownH (α := S38) (encs := fun x => #[.agg #[.int .i64 x.f0, .int .i64 x.f1]]) (Kp := KpB w.heap.size [w2.heap.size + 1 + 1]) (S := fun ys => ys = l0.filter (tm_not a1)) (Sp := fun _ => True) (N := l0.length + 1) (w0 := W0)
  rfl (by omega) (gf := 33) (lb := #[.pointer (some ⟨w2.heap.size + 1, 0, none⟩), .pointer (some ⟨w2.heap.size + 1 + 1, 0, none⟩)]) rfl trivial (enters_of Try.func33 (by kernel_rfl) rfl)
  (fun l J Jx W hW hJ hJx hY h0 => tm_others 8 (by omega) a1 l (w2.heap.size + 1) (w2.heap.size + 1 + 1) A0 c0 l0 w J Jx W hJ (fun pre x W1 hj hl => hY pre x W1 hj hl)
   ((hW.cell (p := ⟨w2.heap.size + 1, 0, none⟩) (blk_lt HF.out.2.1)).trans ((blk_cell HF.out.2.1 0).trans rfl)) (tm_hb (W := W0) hW HF.out.2.2.1) HC.out (HI0.out.choose_spec.2.2.1.trans (hW.mono HI0.out.choose_spec.2.2.1.size)) h0)
  KpB.trans (KpB.put HI0.out.choose_spec.2.2.1.size (by intro b hb; rw [List.mem_singleton.1 hb, HF.out.2.2.2.1]; omega)) (Below.refl _ _) (fun _ => rfl)
  (fun pre W => TmI w w2.heap.size pre W) (fun _ _ _ => False)
  (fun s A B row hs hg hr => hs.grown hg (fun r e => ⟨Nat.le_trans HI0.out.choose_spec.2.2.1.size (hr r e).1, (hr r e).2⟩))
  (fun c s A B row hs hg hr => hs) HI0.out
  (fun x a' W => ∃ b : Nat, a' = { tmps := #[.slice A0 l0.length c0, .int .i64 a1, undef, undef, .slice none 0 0, .int .i64 0, .int .i64 0, .pointer (some ⟨w2.heap.size, 0, none⟩), .pointer (some ⟨b, 0, none⟩), .slice A0 l0.length c0, .int .i64 0, .int .i64 0, .bool false, undef, .int .i64 a1, .agg #[.int .i64 a1, .int .i64 0], .bool true, .bool false, .slice A0 l0.length c0, .int .i64 a1, .func (.func 33) #[] #[.pointer (some ⟨w2.heap.size + 1, 0, none⟩), .pointer (some ⟨w2.heap.size + 1 + 1, 0, none⟩)], .agg #[.int .i64 x.f0, .int .i64 x.f1], undef, undef, undef, undef, undef], defers := [] } ∧ w2.heap.size + 1 + 1 + 1 ≤ b ∧ W.heap[b]? = some (.cells #[.int .i64 x.f0, .int .i64 x.f1] 38 (0, 0)))
  (fun x a' s A B row hs hg hr => by obtain ⟨b, h1, h2, h3⟩ := hs; exact ⟨b, h1, h2, blk_own h3 hg (fun r e => (hr r e).2)⟩) ?assign ?body ?done ?stop
 case assign =>
  intro l pre x W K hI hK
  rw [show W0.heap.size = w2.heap.size + 1 + 1 + 1 from HF.out.2.2.2.1] at hK
  gi_wp2
  exact hK _ _ ((KeepsOthers.alloc _ _).from _) (KpB.of_below (below_alloc (Below.refl _ _) _) hI.choose_spec.2.2.1.size) (hI.below (below_alloc (Below.refl _ _) _)) ⟨W.heap.size, rfl, hI.choose_spec.2.2.2.1, blk_new W _⟩
 case body =>
  rintro l pre x a' W hl0 _ hI ⟨b, rfl, hb, hx⟩ hlen
  obtain ⟨v, h1, h2, h3, h4, h5⟩ := hI
  have k0 := (blk_cell h1 0).trans rfl
  have kf := blk_frozen h1 0
  have y0 := (blk_cell hx 0).trans rfl
  have y1 := (blk_cell hx 1).trans rfl
  have H1 := Lib.hid h1; have H2 := Lib.hid h2; have H3 := Lib.hid h3; have H4 := Lib.hid h4; have H5 := Lib.hid h5
  have HLN := Lib.hid hlen
  clear h1 h2 h3 h4 h5 hlen hx
  refine wpIn_block ?_
  refine list_r (by rintro ⟨_, _, h⟩; exact h) (by rfl) ?_
  go_wp2_with ((with_reducible refine gate_builtin (b := .append) (xs := #[.tmp 22, .tmp 24]) rfl ?_); at_builtin; refine Kd.R_append k38 (w0 := w) w.heap.size rfl (.tmp 22) (.tmp 24) 22 38 (.agg #[.int .i64 0, .int .i64 0]) 16 rfl Try.underlying22 info38 rfl (by decide) (by omega) v pre x [.int .i64 x.f0, .int .i64 x.f1] (TmOk w2.heap.size) (fun _ => False) rfl rfl ?aP (fun _ hk => hk.elim) ?aF ?aO ?aB ?aS ?aL ?_; (case aP => exact k38_mkM _ _ _ x); (case aB => exact H3.out); (case aF => exact (fun k hk => Or.inr (Nat.le_trans H4.out hk))); (case aO => exact H2.out); (case aS => exact H3.out.size); (case aL => have := HLN.out; have := HL.out; omega); intro v1 w9 ho hb9 hg hat; obtain ⟨A1, c1, rfl⟩ := Kd.R_slice ho; have HO := Lib.hid ho; have HB9 := Lib.hid hb9; have HG := Lib.hid hg; have k1 : w9.cell? ⟨w2.heap.size, 0, none⟩ = some v := (blk_cell (tm_stay H1.out H2.out H4.out HG.out) 0).trans rfl; have kf1 := blk_frozen (tm_stay H1.out H2.out H4.out HG.out) 0; clear ho hb9 hg hat)
  exact tm_snoc H1.out H2.out H4.out H5.out (by have := HO.out; rwa [List.length_append, List.length_singleton] at this) HB9.out HG.out
 case done =>
  rintro D ys W hD rfl hI hK
  have HI := Lib.hid hI; have HK := Lib.hid hK
  obtain ⟨v, h1, h2, h3, h4, h5⟩ := hI
  have k0 := (blk_cell h1 0).trans rfl
  have H2 := Lib.hid h2
  clear h1 h2 h3 h4 h5 hK
  simp only [Exit.inBlock, Exit.then]
  go_wp2
  refine ⟨by simp, .inl ⟨_, _, rfl, run_takeDeferred HK.out, ?_⟩⟩
  have hI2 := HI.out.grown (grownBy_putObj' W D (.deferred none)) (fun r e => by cases e; exact ⟨Nat.le_trans HI0.out.choose_spec.2.2.1.size hD, _, HK.out, rfl⟩)
  exact ⟨_, results_tmp2 rfl _ _ _, _, rfl, Kd.R_mono (R_own' H2.out (grownBy_putObj' W D (.deferred none)) (fun r e => by cases e; exact ⟨_, HK.out, rfl⟩)) (fun _ _ => trivial), hI2.choose_spec.2.2.1⟩
 case stop =>
  rintro D c pre W _ _ h _
  exact h.elim
end

end Go.Proofs.Ytlkkgikjghkcmaa.PA

-- Written for the seat Ytgpbighdegdlfaa by this session's program hyb.py (the print's functions, with externals typed by hand).
import Derived.Lib.Hide
import Derived.LoopIn
import Derived.LoopNIn
import Derived.OwnWalkIn
import Derived.RangeFuncBound
import Derived.RangeFuncBox
import Derived.RangeFuncCalls
import Derived.RangeFuncLeaves
import Derived.RangeFuncNested
import Derived.Shelf.Abstract
import Derived.Shelf.AbstractIn
import Derived.Shelf.RegionOpen
import Derived.TacticsInMore
import Derived.WalkKit
import Derived.Test.YtgpbighdegdlfaaPAx0
import Derived.Test.YtgpbighdegdlfaaPAx2
import Derived.Test.YtgpbighdegdlfaaPAx3
import Derived.Test.YtgpbighdegdlfaaPAx4
import Derived.Test.YtgpbighdegdlfaaPAx9
namespace Go.Proofs.Ytgpbighdegdlfaa.PA
open Go.RowKit Go.Proofs.YtgpbighdegdlfaaW.PrintWords Go.Proofs.YtgpbighdegdlfaaW.PrintLast Go.Proofs.YtgpbighdegdlfaaW.PrintMore
attribute [local go_sem] max2_int min2_int max_two min_two max_three min_three max_four min_four   -- for this text's walks alone
set_option linter.unusedVariables false
set_option linter.unusedSimpArgs false

/-! ### board_Pipe: function 14 (typed by hand) -/
/-! aux: cells of boxes, kept -/
section
open Go.Shelf
end

/-! aux: a region that draws its order, quiet, within a round of a loop over an iterator -/
section
open Go.Shelf
end

/-! aux: what a round keeps; blocks that lie as they lay -/
section
open Go.Shelf
theorem grown_none {W W' : World} (h : Below W.heap.size W W') : W.grownBy W' none := ⟨h.os, h.tape, h.output, h.size, fun k hk _ => h.block k hk⟩
theorem abides_below {β : Type} {B : Nat} {J : β → World → Prop} (h : AbidesFrom B J) {s : β} {W W' : World} (hs : J s W) (hb : Below W.heap.size W W') : J s W' := h s W W' none hs (grown_none hb) (fun r e => by cases e)
/-- What a round keeps: all below base, and the blocks bs. -/
def KpB (base : Nat) (bs : List Nat) (A B : World) : Prop := Below base A B ∧ ∀ b ∈ bs, ∀ o, A.heap[b]? = some o → B.heap[b]? = some o
theorem KpB.trans {base : Nat} {bs : List Nat} {A B C : World} (h : KpB base bs A B) (k : KpB base bs B C) : KpB base bs A C := ⟨h.1.trans k.1, fun b hb o ho => k.2 b hb o (h.2 b hb o ho)⟩
theorem KpB.refl (base : Nat) (bs : List Nat) (A : World) : KpB base bs A A := ⟨Below.refl _ _, fun _ _ _ h => h⟩
theorem KpB.of_below {base : Nat} {bs : List Nat} {A B : World} (h : Below A.heap.size A B) (hb : base ≤ A.heap.size) : KpB base bs A B := ⟨h.mono hb, fun b _ o ho => (h.block b (Array.getElem?_eq_some_iff.1 ho).1).trans ho⟩
theorem KpB.put {base : Nat} {bs : List Nat} {w : World} (hn : base ≤ w.heap.size) (hbs : ∀ b ∈ bs, b < w.heap.size) (W : World) (l : Nat) (o o' : Obj) (hl : w.heap.size ≤ l) (h : W.heap[l]? = some o) (h1 : o.isCells = false) (h2 : o.isWalk = false) : KpB base bs W (W.putObj l o') :=
 ⟨belowK_b hn W l o o' hl h h1 h2, fun b hb o1 ho => (World.putObj_heap_other (by have := hbs b hb; omega)).trans ho⟩
theorem blk_own {W W' : World} {row : Option Nat} {b : Nat} {cs : Array Value} {t : TypeId} {z : Nat × Nat} (h : W.heap[b]? = some (.cells cs t z)) (hg : W.grownBy W' row) (hr : ∀ r, row = some r → ∃ o : Obj, W.heap[r]? = some o ∧ o.isCells = false) : W'.heap[b]? = some (.cells cs t z) :=
 (hg.block b (blk_lt h) (fun e => by obtain ⟨o, ho, h2⟩ := hr b e.symm; rw [h] at ho; injection ho with ho; rw [← ho] at h2; cases h2)).trans h
theorem heap_set {W : World} {p : Addr} {u : Value} {k : Nat} {o : Obj} (h : W.heap[k]? = some o) (hk : k ≠ p.block) : (W.setCell p u).heap[k]? = some o := (Below.heap_setCell W p u k hk).trans h
end

section
open Go.Shelf
attribute [local go_sem] Oper.semAt_some
def bd_may (x : S38) : Bool := decide (0 ≤ x.f0) && (decide (x.f0 < x.f1) && (decide (x.f1 ≤ 1125899906842625) && (decide (1 ≤ x.f4) && ((x.f6 || !x.f7) && (!(x.f5 && x.f6) && !([x.f3, x.f8, x.f9, x.f10].any bt_out))))))
theorem bd_may_f (x : S38) : board_may.f x.f0 x.f1 x.f2 x.f3 x.f4 x.f5 x.f6 x.f7 x.f8 x.f9 x.f10 x.f11 = some (bd_may x) := by
 unfold board_may.f bd_may board_time.f
 simp only [Option.bind_some]
 by_cases h0 : x.f0 ≥ 0
 ·by_cases h1 : x.f0 < x.f1
  ·by_cases h2 : x.f1 ≤ 1125899906842625
   ·by_cases h3 : x.f4 ≥ 1
    ·cases h6 : x.f6 <;> cases h5 : x.f5 <;> cases h7 : x.f7 <;> simp [h0, h1, h2, h3]
    ·simp [h0, h1, h2, h3]
   ·simp [h0, h1, h2]
  ·simp [h0, h1]
 ·simp [h0]
def bd_ok (l : List S38) (i : Nat) : Bool := bd_may (l.getD i z38) && (decide (i = 0) || (decide ((l.getD (i - 1) z38).f1 = (l.getD i z38).f0) && !(l.getD (i - 1) z38).f2))
def bd_chk (l : List S38) : Int := if (l.length : Int) > 65536 then 100 else if (List.range l.length).all (bd_ok l) = true then 0 else 100
theorem bd_wrap {n : Int} (h0 : -9223372036854775808 ≤ n) (h1 : n ≤ 9223372036854775807) : wrap64 n = n := by unfold wrap64; omega
theorem bd_chk_loop (l : List S38) (hl : l.length ≤ 65536) (d : Nat) : ∀ i : Nat, i + d = l.length → ∀ k, 2 * d + 1 ≤ k → board_Check.l0 k l l (l.length : Int) (i : Int) = some (if (List.range' i d).all (bd_ok l) = true then 0 else 100) := by
 induction d with
 | zero =>
  intro i hi k hk
  obtain ⟨k, rfl⟩ : ∃ m, k = m + 1 := ⟨k - 1, by omega⟩
  rw [board_Check.l0, if_neg (by omega)]; rfl
 | succ d ih =>
  intro i hi k hk
  obtain ⟨k, rfl⟩ : ∃ m, k = m + 2 := ⟨k - 2, by omega⟩
  have hlt : i < l.length := by omega
  have c1 : (i : Int) < (l.length : Int) := Int.ofNat_lt.2 hlt
  have e1 : rd_T38 l (i : Int) = l.getD i z38 := by rw [rd_T38, Int.toNat_natCast]
  have hw1 : wrap64 ((i : Int) + 1) = ((i + 1 : Nat) : Int) := by rw [bd_wrap (by omega) (by omega)]; rfl
  have ih := ih (i + 1) (by omega) k (by omega)
  have hno : board_Check.j1 (k + 1) l l (l.length : Int) (i : Int) true = some 100 := by rw [board_Check.j1, if_pos rfl]
  have hyes : board_Check.j1 (k + 1) l l (l.length : Int) (i : Int) false = some (if (List.range' (i + 1) d).all (bd_ok l) = true then 0 else 100) := by rw [board_Check.j1, if_neg (by decide), hw1, ih]
  rw [board_Check.l0, if_pos c1, if_pos (Int.natCast_nonneg i), if_pos c1, e1, bd_may_f, List.range'_succ, List.all_cons]
  simp only [Option.bind_some]
  generalize hx : l.getD i z38 = x
  have hok : bd_ok l i = (bd_may x && (decide (i = 0) || (decide ((l.getD (i - 1) z38).f1 = x.f0) && !(l.getD (i - 1) z38).f2))) := by rw [bd_ok, hx]
  rw [hok]
  cases hm : bd_may x with
  | false => simp [hno]
  | true =>
   rw [Bool.true_and, if_pos rfl]
   by_cases h0 : i = 0
   ·rw [decide_eq_true h0, Bool.true_or, Bool.true_and, if_neg (by omega), hyes]
   ·have hw2 : wrap64 ((i : Int) - 1) = ((i - 1 : Nat) : Int) := by rw [bd_wrap (by omega) (by omega)]; omega
    have e2 : rd_T38 l ((i - 1 : Nat) : Int) = l.getD (i - 1) z38 := by rw [rd_T38, Int.toNat_natCast]
    rw [hw2, e2, decide_eq_false h0, Bool.false_or]
    generalize l.getD (i - 1) z38 = y
    rw [if_pos (by omega), if_pos (by omega), if_pos (by omega)]
    by_cases h1 : y.f1 = x.f0
    ·rw [if_pos h1, decide_eq_true h1, Bool.true_and]
     cases h2 : y.f2 with
     | false => rw [hyes]; rfl
     | true => rw [hno]; rfl
    ·rw [if_neg h1, decide_eq_false h1, hno]; rfl
theorem bd_chk_f (l : List S38) (k : Nat) (hk : 131074 ≤ k) : board_Check.f k l = some (bd_chk l) := by
 rw [board_Check.f, bd_chk]
 by_cases h : (l.length : Int) > 65536
 ·rw [if_pos h, if_pos h]
 ·rw [if_neg h, if_neg h]
  have := bd_chk_loop l (by omega) l.length 0 (by omega) k (by omega)
  rw [← List.range_eq_range'] at this
  exact this
theorem bd_hb {W W' : World} {D : Nat} {o : Obj} (hb : Below W.heap.size W W') (h : W.heap[D]? = some o) : W'.heap[D]? = some o := (hb.block D (Array.getElem?_eq_some_iff.1 h).1).trans h
def bd_pick (p : S38 → Bool) (l : List S38) (k : Nat) : List (Fin l.length) := ((List.finRange l.length).take k).filter fun i => p l[i]
theorem bd_pick_len (p : S38 → Bool) (l : List S38) (k : Nat) : (bd_pick p l k).length ≤ l.length := Nat.le_trans (List.length_filter_le _ _) (by rw [List.length_take]; simp; omega)
theorem bd_pick_succ (p : S38 → Bool) (l : List S38) (k : Nat) (h : k < l.length) : bd_pick p l (k + 1) = bd_pick p l k ++ (if p l[k] = true then [⟨k, h⟩] else []) := by
 unfold bd_pick
 have e : (List.finRange l.length).take (k + 1) = (List.finRange l.length).take k ++ [⟨k, h⟩] := by
  rw [List.take_succ_eq_append_getElem (by simpa using h), List.getElem_finRange]; rfl
 rw [e, List.filter_append]
 congr 1
 by_cases hp : p l[k] = true
 ·rw [if_pos hp]; simp [List.filter, hp]
 ·rw [if_neg hp]; simp [List.filter, hp]
theorem bd_pick_prefix (p : S38 → Bool) (l : List S38) (k : Nat) : bd_pick p l k <+: bd_pick p l l.length := by
 unfold bd_pick
 rw [show (List.finRange l.length).take l.length = List.finRange l.length from List.take_of_length_le (by simp)]
 exact (List.take_prefix _ _).filter _
def bd_all (p : S38 → Bool) (l : List S38) : List (Fin l.length) := if bd_chk l = 0 then bd_pick p l l.length else []
set_option maxRecDepth 100000 in
set_option maxHeartbeats 8000000 in
theorem bd_those (n : Nat) (hn : 1 ≤ n) (g : Nat) (p : S38 → Bool) (eg : ∀ args w, (callFunc g args).run Try.prog w = .ok (.enter g args) w)
  (hp : ∀ (x : S38) (W : World), Calls Try.prog g #[.agg #[.int .i64 x.f0, .int .i64 x.f1, .bool x.f2, .int .i64 x.f3, .int .i64 x.f4, .bool x.f5, .bool x.f6, .bool x.f7, .int .i64 x.f8, .int .i64 x.f9, .int .i64 x.f10, .bool x.f11]] W fun e W' => e = .returned (.bool (p x)) ∧ Below W.heap.size W W')
  (lp Bl Bt : Nat) (A0 : Option Addr) (c0 : Nat) (l0 : List S38) (w0 : World) (J Jx : List (Fin l0.length) → World → Prop) (W : World) (hJ : AbidesFrom W.heap.size J)
  (hY : ∀ pre x W1, J pre W1 → pre.length < l0.length + 1 → YieldAt Fence.wide (n - 1) Try.prog lp #[.int .i64 (x.val : Int), .agg #[.int .i64 l0[x].f0, .int .i64 l0[x].f1, .bool l0[x].f2, .int .i64 l0[x].f3, .int .i64 l0[x].f4, .bool l0[x].f5, .bool l0[x].f6, .bool l0[x].f7, .int .i64 l0[x].f8, .int .i64 l0[x].f9, .int .i64 l0[x].f10, .bool l0[x].f11]] W1 fun e W' =>
   (e = .returned (.bool true) ∧ J (pre ++ [x]) W' ∧ KpB w0.heap.size [Bt] W1 W') ∨ (e = .returned (.bool false) ∧ Jx (pre ++ [x]) W'))
  (hBl : W.cell? ⟨Bl, 0, none⟩ = some (.slice A0 l0.length c0)) (hBlt : Bl < W.heap.size) (hBt : W.heap[Bt]? = some (.cells #[.func (.func g) #[] #[]] 53 (0, 0))) (hC : Kd.C k38 w0 A0 l0.length l0) (hc : l0.length ≤ c0) (hB : Below w0.heap.size w0 W) (h0 : J [] W) :
  CallsIn Fence.wide n Try.prog 45 #[.func (.yield lp) #[] #[], .pointer (some ⟨Bl, 0, none⟩), .pointer (some ⟨Bt, 0, none⟩)] W fun e W' => (∃ v, e = .returned v) ∧
   ((∃ ys, ys = bd_all p l0 ∧ J ys W') ∨ (∃ pre, pre <+: bd_all p l0 ∧ Jx pre W')) := by
 refine callsIn_of_wp Try.func45 rfl trivial ?_ rfl
 simp only [Try.ntmps45, List.size_toArray, List.length_cons, List.length_nil, Nat.reduceAdd, Nat.reduceSub, Array.replicate_succ, Array.replicate_zero, List.push_toArray, List.append_toArray, List.nil_append, List.cons_append]
 have hm : l0.length ≤ 9223372036854775807 := hC.2.1
 have HC := Lib.hid hC; clear hC
 have HBt := Lib.hid hBt; clear hBt
 have HY := Lib.hid hY; clear hY
 have HJ := Lib.hid hJ; clear hJ
 have HP := Lib.hid hp; clear hp
 have HE := Lib.hid (bd_chk_f l0 131074 (by omega))
 have HCW := Lib.hid (Kd.C_below (w1 := W) HC.out hB)
 have HCC := Lib.hid hc; clear hc
 obtain ⟨ec, hec⟩ : ∃ ec, bd_chk l0 = ec := ⟨_, rfl⟩
 rw [hec] at HE
 have HEC := Lib.hid hec; clear hec
 by_cases hz : ec = 0
 case neg =>
  have q0 : (ec != 0) = true := bne_iff_ne.mpr hz
  have HZ := Lib.hid hz; clear hz
  gi_wp2_with (refine ⟨trivial, ?_⟩; gi_at_call 23; refine (callsIn_wide.2 (board_Check.calls 131074 A0 c0 l0 ec _ HCW.out HCC.out HE.out)).mono ?_; rintro e W1 ⟨rfl, hb⟩; have HB1 := Lib.hid hb; clear hb)
  refine bodyPost_ret (results_none rfl _ _ _) rfl ?_
  exact ⟨⟨_, rfl⟩, .inl ⟨_, rfl, by rw [bd_all, HEC.out, if_neg HZ.out]; exact abides_below HJ.out h0 HB1.out⟩⟩
 subst hz
 have HJ0 := Lib.hid h0; clear h0
 gi_wp2_with (refine ⟨trivial, ?_⟩; gi_at_call 23; refine (callsIn_wide.2 (board_Check.calls 131074 A0 c0 l0 0 _ HCW.out HCC.out HE.out)).mono ?_; rintro e W1 ⟨rfl, hb⟩; have hBl1 : W1.cell? ⟨Bl, 0, none⟩ = some (.slice A0 l0.length c0) := (hb.cell (p := ⟨Bl, 0, none⟩) hBlt).trans hBl; have HB1 := Lib.hid hb; clear hb hBl)
 have HJ1 := Lib.hid (abides_below HJ.out HJ0.out HB1.out)
 have HBt1 := Lib.hid (bd_hb HB1.out HBt.out)
 have HBW1 := Lib.hid (hB.trans (HB1.out.mono hB.size))
 have hp0 : bd_pick p l0 0 = [] := rfl
 have HP0 := Lib.hid hp0; clear hp0
 have HS1 := Lib.hid HB1.out.size
 clear hBl1
 gi_loopw [11] (fun i wr => ∃ k : Nat, k ≤ l0.length ∧ i = .int .i64 k ∧ J (bd_pick p l0 k) wr ∧ KpB w0.heap.size [Bt] W1 wr ∧ W1.heap.size ≤ wr.heap.size)
  (fun i _ => l0.length - (intOf i).toNat)
 case atStart => exact ⟨0, Nat.zero_le _, rfl, by rw [HP0.out]; exact HJ1.out, KpB.refl _ _ _, Nat.le_refl _⟩
 case round =>
  obtain ⟨k, hk, rfl, hJs, hnx, hsz⟩ := hrel
  by_cases hlt : k < l0.length
  ·have hbw : Below w0.heap.size w0 wr := HBW1.out.trans hnx.1
   have hbt : wr.heap[Bt]? = some (.cells #[.func (.func g) #[] #[]] 53 (0, 0)) := hnx.2 Bt (by simp) _ HBt1.out
   obtain ⟨ad, had, hx0, hx1, hx2, hx3, hx4, hx5, hx6, hx7, hx8, hx9, hx10, hx11⟩ := at_T38 HC.out (k : Int) (by omega) (by omega)
   obtain rfl := had
   replace hx0 := (hbw.cell (World.block_lt_of_cell? w0 _ hx0)).trans hx0
   replace hx1 := (hbw.cell (World.block_lt_of_cell? w0 _ hx1)).trans hx1
   replace hx2 := (hbw.cell (World.block_lt_of_cell? w0 _ hx2)).trans hx2
   replace hx3 := (hbw.cell (World.block_lt_of_cell? w0 _ hx3)).trans hx3
   replace hx4 := (hbw.cell (World.block_lt_of_cell? w0 _ hx4)).trans hx4
   replace hx5 := (hbw.cell (World.block_lt_of_cell? w0 _ hx5)).trans hx5
   replace hx6 := (hbw.cell (World.block_lt_of_cell? w0 _ hx6)).trans hx6
   replace hx7 := (hbw.cell (World.block_lt_of_cell? w0 _ hx7)).trans hx7
   replace hx8 := (hbw.cell (World.block_lt_of_cell? w0 _ hx8)).trans hx8
   replace hx9 := (hbw.cell (World.block_lt_of_cell? w0 _ hx9)).trans hx9
   replace hx10 := (hbw.cell (World.block_lt_of_cell? w0 _ hx10)).trans hx10
   replace hx11 := (hbw.cell (World.block_lt_of_cell? w0 _ hx11)).trans hx11
   have hg : l0.getD k z38 = l0[k] := by rw [List.getD_eq_getElem?_getD, List.getElem?_eq_getElem hlt]; rfl
   have hrd : rd_T38 l0 (k : Int) = l0[k] := by rw [← hg]; rfl
   simp only [Int.toNat_natCast, hrd] at hx0 hx1 hx2 hx3 hx4 hx5 hx6 hx7 hx8 hx9 hx10 hx11
   have hps := bd_pick_succ p l0 k hlt
   have hy0 := fun pre W1 hj hl => HY.out pre ⟨k, hlt⟩ W1 hj hl
   have he0 : l0[(⟨k, hlt⟩ : Fin l0.length)] = l0[k] := rfl
   simp only [he0] at hy0
   obtain ⟨x, hx⟩ : ∃ x, l0[k] = x := ⟨_, rfl⟩
   rw [hx] at hx0 hx1 hx2 hx3 hx4 hx5 hx6 hx7 hx8 hx9 hx10 hx11 hps
   simp only [hx] at hy0
   have HX := Lib.hid hx
   have HPS := Lib.hid hps
   have HY0 := Lib.hid hy0
   have HLN := Lib.hid (bd_pick_len p l0 k)
   obtain ⟨pk, hpk⟩ : ∃ pk, bd_pick p l0 k = pk := ⟨_, rfl⟩
   have HPK := Lib.hid hpk
   rw [hpk] at hJs
   have HNX := Lib.hid hnx
   have HJs := Lib.hid hJs
   have HBW := Lib.hid hbw
   have hbx : Below wr.heap.size wr (wr.alloc (.cells #[.int .i64 x.f0, .int .i64 x.f1, .bool x.f2, .int .i64 x.f3, .int .i64 x.f4, .bool x.f5, .bool x.f6, .bool x.f7, .int .i64 x.f8, .int .i64 x.f9, .int .i64 x.f10, .bool x.f11] 38)) := (Below.refl _ wr).alloc (Nat.le_refl _) _
   have HBX := Lib.hid hbx
   have hbt0 : (wr.alloc (.cells #[.int .i64 x.f0, .int .i64 x.f1, .bool x.f2, .int .i64 x.f3, .int .i64 x.f4, .bool x.f5, .bool x.f6, .bool x.f7, .int .i64 x.f8, .int .i64 x.f9, .int .i64 x.f10, .bool x.f11] 38)).cell? ⟨Bt, 0, none⟩ = some (.func (.func g) #[] #[]) := (blk_cell (blk_alloc hbt _) 0).trans rfl
   clear hg hrd hps hx hpk hnx hJs hbw hbx hy0 he0 hbt
   have hlt' : (k : Int) < l0.length := by omega
   have HQ := Lib.hid (HP.out x (wr.alloc (.cells #[.int .i64 x.f0, .int .i64 x.f1, .bool x.f2, .int .i64 x.f3, .int .i64 x.f4, .bool x.f5, .bool x.f6, .bool x.f7, .int .i64 x.f8, .int .i64 x.f9, .int .i64 x.f10, .bool x.f11] 38)))
   by_cases hq : p x = true
   ·rw [hq] at HQ
    have HQT := Lib.hid hq; clear hq
    have hlen2 : pk.length < l0.length + 1 := by have := HLN.out; rw [HPK.out] at this; omega
    gi_wp2_with (refine ⟨trivial, ?_⟩; gi_at_fn g; refine (callsIn_wide.2 HQ.out).mono ?_; rintro e w' ⟨rfl, hb2⟩; have HB2 := Lib.hid (HBX.out.trans (hb2.mono HBX.out.size)); have hxb := blk_below (blk_new wr (.cells #[.int .i64 x.f0, .int .i64 x.f1, .bool x.f2, .int .i64 x.f3, .int .i64 x.f4, .bool x.f5, .bool x.f6, .bool x.f7, .int .i64 x.f8, .int .i64 x.f9, .int .i64 x.f10, .bool x.f11] 38)) hb2; have y0 := (blk_cell hxb 0).trans rfl; have y1 := (blk_cell hxb 1).trans rfl; have y2 := (blk_cell hxb 2).trans rfl; have y3 := (blk_cell hxb 3).trans rfl; have y4 := (blk_cell hxb 4).trans rfl; have y5 := (blk_cell hxb 5).trans rfl; have y6 := (blk_cell hxb 6).trans rfl; have y7 := (blk_cell hxb 7).trans rfl; have y8 := (blk_cell hxb 8).trans rfl; have y9 := (blk_cell hxb 9).trans rfl; have y10 := (blk_cell hxb 10).trans rfl; have y11 := (blk_cell hxb 11).trans rfl; clear hb2 hxb; obtain ⟨fn, tmps, assign, body, hy, hR⟩ := HY0.out pk _ (abides_below HJ.out HJs.out HB2.out) hlen2)
    refine hR.mono ?_
    rintro e W3 (⟨rfl, hJ3, hk3⟩ | ⟨rfl, hJx3⟩)
    ·have HJ3 := Lib.hid hJ3; have HK3 := Lib.hid hk3; clear hJ3 hk3
     gi_wp2
     go_roundw
     case rel => exact ⟨k + 1, by omega, by simp, by rw [HPS.out, if_pos HQT.out, HPK.out]; exact HJ3.out, (HNX.out.trans (KpB.of_below HB2.out (HBW.out.size))).trans HK3.out, Nat.le_trans (Nat.le_trans hsz HB2.out.size) HK3.out.1.size⟩
     case measure => simp [intOf]; omega
    ·have HJX := Lib.hid hJx3; clear hJx3
     gi_wp2
     refine bodyPost_ret (results_none rfl _ _ _) rfl ?_
     exact ⟨⟨_, rfl⟩, .inr ⟨_, by rw [bd_all, HEC.out, if_pos rfl]; have h1 := bd_pick_prefix p l0 (k + 1); rw [HPS.out, if_pos HQT.out, HPK.out] at h1; exact h1, HJX.out⟩⟩
   ·have hq' : p x = false := Bool.eq_false_iff.mpr hq
    rw [hq'] at HQ
    have HQF := Lib.hid hq'; clear hq hq'
    gi_wp2_with (refine ⟨trivial, ?_⟩; gi_at_fn g; refine (callsIn_wide.2 HQ.out).mono ?_; rintro e w' ⟨rfl, hb2⟩; have HB2 := Lib.hid (HBX.out.trans (hb2.mono HBX.out.size)); clear hb2)
    refine ⟨(by intro f hf; cases hf), ?_⟩
    gi_wp2
    go_roundw
    case rel => exact ⟨k + 1, by omega, by simp, by rw [HPS.out, if_neg (by rw [HQF.out]; decide), HPK.out]; simpa using abides_below HJ.out HJs.out HB2.out, HNX.out.trans (KpB.of_below HB2.out (HBW.out.size)), Nat.le_trans hsz HB2.out.size⟩
    case measure => simp [intOf]; omega
  ·obtain rfl : k = l0.length := by omega
   have HJs := Lib.hid hJs; clear hJs
   gi_wp2
   go_end0
   exact ⟨⟨_, rfl⟩, .inl ⟨_, rfl, by rw [bd_all, HEC.out, if_pos rfl]; exact HJs.out⟩⟩
theorem bd_those_call (v f : Value) (w : World) (hv : v.oneCell' = true) (hf : f.oneCell' = true) : Calls Try.prog 36 #[v, f] w fun e w' => e = .returned (.func (.func 45) #[] #[.pointer (some ⟨w.heap.size, 0, none⟩), .pointer (some ⟨w.heap.size + 1, 0, none⟩)]) ∧ (w.alloc (.cells #[v] 22)).alloc (.cells #[f] 53) = w' := by
 go_enter Try.func36, Try.ntmps36
 go_wp2
 go_ret
 exact ⟨rfl, rfl⟩
end

theorem blk_set1 {W : World} {b : Nat} {v u : Value} {t : TypeId} (h : W.heap[b]? = some (.cells #[v] t (0, 0))) : (W.setCell ⟨b, 0, none⟩ u).heap[b]? = some (.cells #[u] t (0, 0)) := (blk_set h 0 u).trans rfl
theorem bd_three (w : World) (o0 o1 o2 : Obj) : let W := ((w.alloc o0).alloc o1).alloc o2; W.heap[w.heap.size]? = some o0 ∧ W.heap[w.heap.size + 1]? = some o1 ∧ W.heap[w.heap.size + 1 + 1]? = some o2 ∧ W.heap.size = w.heap.size + 1 + 1 + 1 ∧ Below w.heap.size w W := by
 intro W
 have s1 : (w.alloc o0).heap.size = w.heap.size + 1 := World.size_alloc _ _
 have s2 : ((w.alloc o0).alloc o1).heap.size = w.heap.size + 1 + 1 := by rw [World.size_alloc, s1]
 refine ⟨blk_alloc (blk_alloc (blk_new w _) _) _, blk_alloc ?_ _, ?_, by rw [World.size_alloc, s2], below_alloc (below_alloc (below_alloc (Below.refl _ _) _) _) _⟩
 ·have h := blk_new (w.alloc o0) o1; rwa [s1] at h
 ·have h := blk_new ((w.alloc o0).alloc o1) o2; rwa [s2] at h
def bd_out (x : S38) : Bool := !x.f5 && (x.f7 || !x.f6)
theorem bd_out_calls (x : S38) (W : World) : Calls Try.prog 37 #[.agg #[.int .i64 x.f0, .int .i64 x.f1, .bool x.f2, .int .i64 x.f3, .int .i64 x.f4, .bool x.f5, .bool x.f6, .bool x.f7, .int .i64 x.f8, .int .i64 x.f9, .int .i64 x.f10, .bool x.f11]] W fun e W' => e = .returned (.bool (bd_out x)) ∧ Below W.heap.size W W' :=
 board_out.calls x.f0 x.f1 x.f2 x.f3 x.f4 x.f5 x.f6 x.f7 x.f8 x.f9 x.f10 x.f11 (bd_out x) W (by unfold board_out.f bd_out; cases x.f5 <;> cases x.f6 <;> cases x.f7 <;> rfl)
def Pipe_fold (l0 : List S38) (pre : List (Fin l0.length)) : Int := pre.foldl (fun n i => wrap64 (n + wrap64 (l0[i].f1 - l0[i].f0))) 0
theorem Pipe_fold_snoc (l0 : List S38) (pre : List (Fin l0.length)) (x : Fin l0.length) : Pipe_fold l0 (pre ++ [x]) = wrap64 (Pipe_fold l0 pre + wrap64 (l0[x].f1 - l0[x].f0)) := by simp [Pipe_fold]
section
open Go.Shelf
attribute [local go_sem] Oper.semAt_some
def Pipe_g (l0 : List S38) : Int := Pipe_fold l0 (bd_all bd_out l0)
def board_Pipe.f (l0 : List S38) : Option Int := some (Pipe_g l0)
set_option maxRecDepth 100000 in
set_option maxHeartbeats 8000000 in
theorem board_Pipe.calls (A0 : Option Addr) (c0 : Nat) (l0 : List S38) (r : Int) (w : World) (hr0 : Kd.C k38 w A0 l0.length l0) (hc0 : l0.length ≤ c0) (h : board_Pipe.f l0 = some r) :
  Calls Try.prog 14 #[.slice A0 l0.length c0] w fun e w' => e = .returned (.int .i64 r) ∧ Below w.heap.size w w' := by
 have hr := Option.some.inj h
 clear h
 have HR := Lib.hid hr; clear hr
 have HC := Lib.hid hr0; have HC0 := Lib.hid hc0; clear hr0 hc0
 have hm : l0.length ≤ 9223372036854775807 := HC.out.2.1
 refine callsIn_wide (n := 9).1 ?_
 refine callsIn_of_wp_marks Try.func14 rfl trivial ?_ rfl
 simp only [Try.ntmps14, List.size_toArray, List.length_cons, List.length_nil, Nat.reduceAdd, Nat.reduceSub, Array.replicate_succ, Array.replicate_zero, List.push_toArray, List.append_toArray, List.nil_append, List.cons_append]
 gi_wp2_with (refine ⟨trivial, ?_⟩; gi_at_call 36; refine (callsIn_wide.2 (bd_those_call _ _ _ rfl rfl)).mono ?_; rintro e w' ⟨rfl, hw'⟩)
 have h5 := bd_three w (.cells #[.int .i64 0] 3) (.cells #[.slice A0 l0.length c0] 22) (.cells #[.func (.func 37) #[] #[]] 53)
 try simp only [World.size_alloc]
 obtain ⟨w1, hw1⟩ : ∃ w1, (((w.alloc (.cells #[.int .i64 0] 3)).alloc (.cells #[.slice A0 l0.length c0] 22)).alloc (.cells #[.func (.func 37) #[] #[]] 53)) = w1 := ⟨_, rfl⟩
 rw [hw1] at hw'
 subst hw'
 simp only [hw1] at h5
 have HF := Lib.hid h5
 clear h5 hw1
 refine wpIn_rangeFunc_ownH (α := Fin l0.length) (encs := fun x => #[.int .i64 (x.val : Int), .agg #[.int .i64 l0[x].f0, .int .i64 l0[x].f1, .bool l0[x].f2, .int .i64 l0[x].f3, .int .i64 l0[x].f4, .bool l0[x].f5, .bool l0[x].f6, .bool l0[x].f7, .int .i64 l0[x].f8, .int .i64 l0[x].f9, .int .i64 l0[x].f10, .bool l0[x].f11]]) (Kp := KpB w.heap.size [w.heap.size + 1 + 1]) (S := fun ys => ys = bd_all bd_out l0) (Sp := fun pre => pre <+: bd_all bd_out l0) (N := l0.length + 1) (w0 := w1)
  rfl (by omega) (gf := 45) (lb := #[.pointer (some ⟨w.heap.size + 1, 0, none⟩), .pointer (some ⟨w.heap.size + 1 + 1, 0, none⟩)]) rfl trivial (enters_of Try.func45 (by kernel_rfl) rfl)
  (fun l J Jx W hW hJ hJx hY h0 => bd_those 8 (by omega) 37 bd_out (enters_of Try.func37 (by kernel_rfl) rfl) bd_out_calls l (w.heap.size + 1) (w.heap.size + 1 + 1) A0 c0 l0 w J Jx W hJ (fun pre x W1 hj hl => hY pre x W1 hj hl)
   ((hW.cell (p := ⟨w.heap.size + 1, 0, none⟩) (blk_lt HF.out.2.1)).trans ((blk_cell HF.out.2.1 0).trans rfl)) (Nat.lt_of_lt_of_le (blk_lt HF.out.2.1) hW.size) (bd_hb (W := w1) hW HF.out.2.2.1) HC.out HC0.out (HF.out.2.2.2.2.trans (hW.mono HF.out.2.2.2.2.size)) h0)
  KpB.trans (KpB.put HF.out.2.2.2.2.size (by intro b hb; rw [List.mem_singleton.1 hb, HF.out.2.2.2.1]; omega)) (Below.refl _ _) (fun _ => rfl)
  (fun pre W => W.heap[w.heap.size]? = some (.cells #[.int .i64 (Pipe_fold l0 pre)] 3 (0, 0)) ∧ Below w.heap.size w W ∧ w.heap.size + 1 + 1 + 1 ≤ W.heap.size) (fun _ _ _ => False)
  (fun s A B row hs hg hr => ⟨blk_own hs.1 hg (fun r e => (hr r e).2), hs.2.1.grown hg hs.2.1.size (fun r e => Nat.le_trans HF.out.2.2.2.2.size (hr r e).1), Nat.le_trans hs.2.2 hg.size⟩)
  (fun c s A B row hs hg hr => hs) ⟨HF.out.1, HF.out.2.2.2.2, Nat.le_of_eq HF.out.2.2.2.1.symm⟩
  (fun x a' W => ∃ b : Nat, a' = { tmps := #[.slice A0 l0.length c0, undef, .int .i64 0, .pointer (some ⟨w.heap.size, 0, none⟩), undef, .pointer (some ⟨b, 0, none⟩), .slice A0 l0.length c0, .func (.func 45) #[] #[.pointer (some ⟨w.heap.size + 1, 0, none⟩), .pointer (some ⟨w.heap.size + 1 + 1, 0, none⟩)], .int .i64 (x.val : Int), .agg #[.int .i64 l0[x].f0, .int .i64 l0[x].f1, .bool l0[x].f2, .int .i64 l0[x].f3, .int .i64 l0[x].f4, .bool l0[x].f5, .bool l0[x].f6, .bool l0[x].f7, .int .i64 l0[x].f8, .int .i64 l0[x].f9, .int .i64 l0[x].f10, .bool l0[x].f11], undef, undef, undef, undef, undef, undef, undef, undef], defers := [] } ∧ w.heap.size + 1 + 1 + 1 ≤ b ∧ W.heap[b]? = some (.cells #[.int .i64 l0[x].f0, .int .i64 l0[x].f1, .bool l0[x].f2, .int .i64 l0[x].f3, .int .i64 l0[x].f4, .bool l0[x].f5, .bool l0[x].f6, .bool l0[x].f7, .int .i64 l0[x].f8, .int .i64 l0[x].f9, .int .i64 l0[x].f10, .bool l0[x].f11] 38 (0, 0))) (fun x a' s A B row h hg hr => by obtain ⟨b, h1, h2, h3⟩ := h; exact ⟨b, h1, h2, blk_own h3 hg (fun r e => (hr r e).2)⟩) ?assign ?body ?done ?stop
 case assign =>
  intro l pre x W K hI hK
  rw [show w1.heap.size = w.heap.size + 1 + 1 + 1 from HF.out.2.2.2.1] at hK
  gi_wp2
  exact hK _ _ ((KeepsOthers.alloc _ _).from _) (KpB.of_below (below_alloc (Below.refl _ _) _) hI.2.1.size) ⟨blk_alloc hI.1 _, below_alloc hI.2.1 _, by rw [World.size_alloc]; exact Nat.le_succ_of_le hI.2.2⟩ ⟨W.heap.size, rfl, hI.2.2, blk_new W _⟩
 case body =>
  rintro l pre x a' W hl0 _ hI ⟨b, rfl, hb, hx⟩ hlen
  have k0 := (blk_cell hI.1 0).trans rfl
  have kf := blk_frozen hI.1 0
  have y0 := (blk_cell hx 0).trans rfl
  have y1 := (blk_cell hx 1).trans rfl
  have hs := Pipe_fold_snoc l0 pre x
  obtain ⟨n, hn⟩ : ∃ n, Pipe_fold l0 pre = n := ⟨_, rfl⟩
  obtain ⟨f0, hf0⟩ : ∃ n, l0[x].f0 = n := ⟨_, rfl⟩
  obtain ⟨f1, hf1⟩ : ∃ n, l0[x].f1 = n := ⟨_, rfl⟩
  rw [hn, hf0, hf1] at hs
  rw [hn] at k0
  rw [hf0, hf1] at y0 y1
  have HS := Lib.hid hs; have HI := Lib.hid hI; have HX := Lib.hid hx; have HB := Lib.hid hb
  clear hs hI hx hn hf0 hf1 hl0 hlen
  gi_wp2
  exact ⟨(KeepsOthers.setCell _ _ _).from _, ⟨(Below.refl w.heap.size W).setCell (p := ⟨w.heap.size, 0, none⟩) (Nat.le_refl _) _, fun b hb o ho => heap_set ho (by have := List.mem_singleton.1 hb; show b ≠ w.heap.size; omega)⟩, by rw [HS.out]; exact blk_set1 HI.out.1, HI.out.2.1.setCell (p := ⟨w.heap.size, 0, none⟩) (Nat.le_refl _) _, Nat.le_trans HI.out.2.2 (((Below.refl _ W).setCell (p := ⟨w.heap.size, 0, none⟩) (Nat.le_refl _) _ : Below w.heap.size W _).size)⟩
 case done =>
  rintro D ys W hD rfl hI hK
  have k0 := (blk_cell hI.1 0).trans rfl
  have HI := Lib.hid hI.2.1; have HK := Lib.hid hK
  rw [show Pipe_fold l0 (bd_all bd_out l0) = r from HR.out] at k0
  clear hI hK
  gi_wp2
  refine ⟨by simp, .inl ⟨_, _, rfl, run_takeDeferred HK.out, ?_⟩⟩
  exact ⟨_, results_tmp rfl _ _ _, rfl, HI.out.trans (belowK_b (w := w) (Nat.le_refl _) W D _ _ (Nat.le_trans HF.out.2.2.2.2.size hD) HK.out rfl rfl)⟩
 case stop =>
  rintro D c pre W _ _ h _
  exact h.elim
end

end Go.Proofs.Ytgpbighdegdlfaa.PA

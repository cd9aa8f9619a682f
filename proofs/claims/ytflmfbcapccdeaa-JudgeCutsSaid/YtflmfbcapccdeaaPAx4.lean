-- Written for the seat Ytflmfbcapccdeaa by this session's program hyb.py (the print's functions, with externals typed by hand).
import Derived.Lib.Hide
import Derived.LoopIn
import Derived.LoopNIn
import Derived.OwnWalkIn
import Derived.RangeFuncBound
import Derived.RangeFuncBox
import Derived.RangeFuncCalls
import Derived.RangeFuncLeaves
import Derived.RangeFuncNested
import Derived.Shelf.Abstract
import Derived.Shelf.AbstractIn
import Derived.Shelf.RegionOpen
import Derived.TacticsInMore
import Derived.WalkKit
import Derived.Test.YtflmfbcapccdeaaPAx0
import Derived.Test.YtflmfbcapccdeaaPAx2
import Derived.Test.YtflmfbcapccdeaaPAx3
namespace Go.Proofs.Ytflmfbcapccdeaa.PA
open Go.RowKit Go.Proofs.YtflmfbcapccdeaaW.PrintWords Go.Proofs.YtflmfbcapccdeaaW.PrintLast Go.Proofs.YtflmfbcapccdeaaW.PrintMore
attribute [local go_sem] max2_int min2_int max_two min_two max_three min_three max_four min_four   -- for this text's walks alone
set_option linter.unusedVariables false
set_option linter.unusedSimpArgs false

/-! ### span_Gaps: function 28 (typed by hand) -/
/-! aux: cells of boxes, kept -/
section
open Go.Shelf
theorem rf_new (W : World) (v : Value) (t : TypeId) : (W.alloc (.cells #[v] t)).cell? ⟨W.heap.size, 0, none⟩ = some v ∧ (W.alloc (.cells #[v] t)).frozen? ⟨W.heap.size, 0, none⟩ = false := ⟨(Boxed.new W t v).cell, (Boxed.new W t v).frozen⟩
theorem rf_cell {W : World} {a : Addr} {v : Value} (o : Obj) (h : W.cell? a = some v) : (W.alloc o).cell? a = some v := cell_kept h (World.grownBy_alloc W o none) (fun r e => by cases e)
theorem rf_frozen {W : World} {a : Addr} {v : Value} (o : Obj) (h : W.cell? a = some v) (hf : W.frozen? a = false) : (W.alloc o).frozen? a = false := (frozen_kept h (World.grownBy_alloc W o none) (fun r e => by cases e)).trans hf
theorem rf_keepsN (W : World) (n : Nat) : KeepsOthers W (W.drewN n) := ⟨Nat.le_refl _, fun _ _ h _ => h⟩
end

/-! aux: a region that draws its order, quiet, within a round of a loop over an iterator -/
section
open Go.Shelf
end

/-! aux: what a round keeps; blocks that lie as they lay -/
section
open Go.Shelf
theorem grown_none {W W' : World} (h : Below W.heap.size W W') : W.grownBy W' none := ⟨h.os, h.tape, h.output, h.size, fun k hk _ => h.block k hk⟩
theorem abides_below {β : Type} {B : Nat} {J : β → World → Prop} (h : AbidesFrom B J) {s : β} {W W' : World} (hs : J s W) (hb : Below W.heap.size W W') : J s W' := h s W W' none hs (grown_none hb) (fun r e => by cases e)
/-- What a round keeps: all below base, and the blocks bs. -/
def KpB (base : Nat) (bs : List Nat) (A B : World) : Prop := Below base A B ∧ ∀ b ∈ bs, ∀ o, A.heap[b]? = some o → B.heap[b]? = some o
theorem KpB.trans {base : Nat} {bs : List Nat} {A B C : World} (h : KpB base bs A B) (k : KpB base bs B C) : KpB base bs A C := ⟨h.1.trans k.1, fun b hb o ho => k.2 b hb o (h.2 b hb o ho)⟩
theorem KpB.refl (base : Nat) (bs : List Nat) (A : World) : KpB base bs A A := ⟨Below.refl _ _, fun _ _ _ h => h⟩
theorem KpB.of_below {base : Nat} {bs : List Nat} {A B : World} (h : Below A.heap.size A B) (hb : base ≤ A.heap.size) : KpB base bs A B := ⟨h.mono hb, fun b _ o ho => (h.block b (Array.getElem?_eq_some_iff.1 ho).1).trans ho⟩
theorem KpB.put {base : Nat} {bs : List Nat} {w : World} (hn : base ≤ w.heap.size) (hbs : ∀ b ∈ bs, b < w.heap.size) (W : World) (l : Nat) (o o' : Obj) (hl : w.heap.size ≤ l) (h : W.heap[l]? = some o) (h1 : o.isCells = false) (h2 : o.isWalk = false) : KpB base bs W (W.putObj l o') :=
 ⟨belowK_b hn W l o o' hl h h1 h2, fun b hb o1 ho => (World.putObj_heap_other (by have := hbs b hb; omega)).trans ho⟩
theorem blk_own {W W' : World} {row : Option Nat} {b : Nat} {cs : Array Value} {t : TypeId} {z : Nat × Nat} (h : W.heap[b]? = some (.cells cs t z)) (hg : W.grownBy W' row) (hr : ∀ r, row = some r → ∃ o : Obj, W.heap[r]? = some o ∧ o.isCells = false) : W'.heap[b]? = some (.cells cs t z) :=
 (hg.block b (blk_lt h) (fun e => by obtain ⟨o, ho, h2⟩ := hr b e.symm; rw [h] at ho; injection ho with ho; rw [← ho] at h2; cases h2)).trans h
theorem R_own' {α : Type} {d : Kd α} {e base : Nat} {ok : Nat → Prop} {W W' : World} {v : Value} {xs : List α} {row : Option Nat} (h : d.R e W base ok v xs) (hg : W.grownBy W' row) (hr : ∀ r, row = some r → ∃ o : Obj, W.heap[r]? = some o ∧ o.isCells = false) : d.R e W' base ok v xs :=
 Kd.R_mono (Kd.R_move (Kd.R_bound h) (fun k hk => by
  obtain ⟨_, _, _, q, _, cells, hc⟩ := hk
  rw [blk_own hc hg hr, hc])) (fun _ hk => hk.1)
theorem heap_set {W : World} {p : Addr} {u : Value} {k : Nat} {o : Obj} (h : W.heap[k]? = some o) (hk : k ≠ p.block) : (W.setCell p u).heap[k]? = some o := (Below.heap_setCell W p u k hk).trans h
end

/-! aux: regions inside a round, by the plain walk's steps -/
section
open Go.Shelf
def noDeferR (l : List Oper) : Bool := l.all fun o => match o.op with | .defer _ => false | _ => true
theorem noDeferR_at {l : List Oper} (h : noDeferR l = true) {o : Oper} (hm : o ∈ l) : ∀ c, o.op ≠ .defer c := by
 intro c hc
 have := List.all_eq_true.1 h o hm
 rw [hc] at this
 exact absurd this (by simp)
theorem rowsIn_wide_round {n lp : Nat} {P : Program} {row : String} {args : Array Value} {w : World} {R : Value → World → Prop} (h : Rows P row args w R) : RowsIn (Fence.wide.inRound lp) n P row args w R :=
 fun c cs _ => let ⟨v, w', r, s⟩ := h c cs; ⟨v, w', r, stepsIn_wide.2 s⟩
theorem oper_toRound {n lp : Nat} {P : Program} {o : Oper} {Q : Exit → Act → World → Prop} {K K' : Act → World → Prop} {a : Act} {w : World} (hnd : ∀ c, o.op ≠ .defer c) (hK : ∀ a w, K a w → K' a w) (h : o.wp P a w K Q) :
  o.wpIn (Fence.wide.inRound lp) n P a w K' Q := by
 refine ⟨fun _ _ => trivial, ?_⟩
 rw [Oper.semAt_eq _ _ _ hnd]
 unfold Oper.wp at h
 generalize (execOp a.eval o).run P w = r at h ⊢
 cases r with
 | ok x w' =>
  cases x <;> simp only [Oper.upon, Oper.uponIn] at h ⊢ <;>
   first
    | exact hK _ _ h
    | exact ⟨fun h => absurd h (by simp [Fence.wide]), CallsIn.inRound lp (callsIn_wide.2 (Calls.mono h (fun e w'' he => by cases e <;> first | exact hK _ _ he | exact he)))⟩
    | exact ⟨fun h => absurd h (by simp [Fence.wide]), rowsIn_wide_round (Rows.mono h (fun _ _ he => hK _ _ he))⟩
    | exact h
 | halt x w' => cases x <;> simp only [Oper.upon, Oper.uponIn] at h ⊢ <;> exact h
theorem list_toRound {n lp : Nat} {P : Program} {ops : Array Oper} {Q : Exit → Act → World → Prop} (hQ : ¬ LetsOut Q) : ∀ (l : List Oper), noDeferR l = true → ∀ (a : Act) (w : World), wpList P ops Q l a w → wpListIn (Fence.wide.inRound lp) n P ops Q l a w
 | [], _, _, _, h => h
 | o :: l, hnd, a, w, h => by
  have hd : noDeferR l = true := by unfold noDeferR at hnd ⊢; simp only [List.all_cons, Bool.and_eq_true] at hnd; exact hnd.2
  have ih := list_toRound (n := n) (lp := lp) (P := P) (ops := ops) hQ l hd
  unfold wpList at h
  unfold wpListIn
  split at h
  ·rename_i hw
   rw [if_pos hw]
   rcases h with h | ⟨_, h⟩
   ·exact oper_toRound (noDeferR_at hnd List.mem_cons_self) (fun a w h => ih a w h) h
   ·exact absurd h hQ
  ·rename_i hw
   rw [if_neg hw]
   exact ⟨fun _ _ => trivial, ih _ _ h⟩
theorem wpOp_toRound {n lp : Nat} {P : Program} {l : List Oper} {Q : Exit → Act → World → Prop} {i : Nat} {K K' : Act → World → Prop} {a : Act} {w : World} (hQ : ¬ LetsOut Q) (hnd : noDeferR l = true) (hK : ∀ a w, K a w → K' a w)
  (h : wpOp P l.toArray Q i K a w) : wpOpIn (Fence.wide.inRound lp) n P l.toArray Q i K' a w := by
 unfold wpOp at h
 unfold wpOpIn
 cases ho : l.toArray[i]? with
 | none => simp only [ho] at h ⊢; exact hK _ _ h
 | some o =>
  simp only [ho] at h ⊢
  have hm : o ∈ l := by
   have : l[i]? = some o := by simpa using ho
   exact List.mem_of_getElem? this
  split at h
  ·rename_i hw
   rw [if_pos hw]
   rcases h with h | ⟨_, h⟩
   ·exact oper_toRound (noDeferR_at hnd hm) hK h
   ·exact absurd h hQ
  ·rename_i hw
   rw [if_neg hw]
   exact ⟨fun _ _ => trivial, hK _ _ h⟩
theorem wpAny_toRound {n lp : Nat} {P : Program} {md : Region.Mode} {l : List Oper} {Q : Exit → Act → World → Prop} (hQ : ¬ LetsOut Q) (hnd : noDeferR l = true) : ∀ (fuel : Nat) (listed : Array Bool) (a : Act) (w : World),
  wpAny P md l.toArray Q fuel listed a w → wpAnyIn (Fence.wide.inRound lp) n P md l.toArray Q fuel listed a w
 | 0, _, _, _, h => h
 | fuel + 1, _, _, _, h => ⟨h.1, fun i hi => wpOp_toRound hQ hnd (fun a w h => wpAny_toRound hQ hnd fuel _ a w h) (h.2 i hi)⟩
/-- A plain region of a round. -/
theorem list_r {n lp id : Nat} {P : Program} {l : List Oper} {Q : Exit → Act → World → Prop} {a : Act} {w : World} (hQ : ¬ LetsOut Q) (hnd : noDeferR l = true) (h : wpList P l.toArray Q l a w) : (Code.region id l.toArray false).wpIn (Fence.wide.inRound lp) n P Q a w :=
 wpIn_region_lit (list_toRound hQ l hnd a w h)
/-- A region of a round that draws its order. -/
theorem start_r {n lp id m : Nat} {P : Program} {ops : List Oper} {Q : Exit → Act → World → Prop} {S : World → Prop} {ds : List Nat} {a : Act} {w : World} (l : Array Bool) (hQ : ¬ LetsOut Q) (hnd : noDeferR ops = true) (hm : P.follows .mixedOrders = true) (hn : ops.length = m) (hl : Array.replicate m false = l) (hS : S w.drew)
  (h : S w.drew → wpAnyLast P .any ops.toArray Q S ds m l a w.drew) : (Code.region id ops.toArray true).wpIn (Fence.wide.inRound lp) n P Q a w := by
 subst hn
 subst hl
 exact wpIn_region_any hm (wpAny_toRound hQ hnd _ _ _ _ (by have := wpAny_of_last _ _ _ _ (h hS); simpa using this))
end

/-! aux: a loop over an iterator that tells, with each element, what lies in the world -/
section
open Go Go.RowKit
/-- The iterator's word: each yield is asked only where G holds; when it ends, S. -/
def Tells {α : Type} (n : Nat) (P : Program) (g : Nat) (lb : Array Value) (encs : α → Array Value) (Kp : World → World → Prop) (G : List α → α → World → Prop) (S : List α → Prop) (w : World) : Prop :=
 ∀ (l : Nat) (J : List α → World → Prop) (W : World), Below w.heap.size w W → AbidesFrom W.heap.size J →
  (∀ pre x W1, J pre W1 → G pre x W1 → YieldAt Fence.wide (n - 1) P l (encs x) W1 fun e W' => e = .returned (.bool true) ∧ J (pre ++ [x]) W' ∧ Kp W1 W') →
  J [] W →
  CallsIn Fence.wide n P g (#[.func (.yield l) #[] #[]] ++ lb) W fun e W' => (∃ v, e = .returned v) ∧ ∃ xs, S xs ∧ J xs W'
/-- How a round's body ends here: off its end. -/
def bodyEnd {α : Type} (B : Nat) (Kp : World → World → Prop) (I : List α → World → Prop) (xs : List α) (W : World) : Exit → Act → World → Prop
 | .normal, _, W' => KeepsFrom B W W' ∧ Kp W W' ∧ I xs W'
 | _, _, _ => False
theorem range_tells {α : Type} {n : Nat} {P : Program} {g : Operand} {ps : Array Tmp} {assign body : Code} {Q : Exit → Act → World → Prop} {a : Act} {w : World}
  (h1 : 1 ≤ n) {gf : Nat} {lb : Array Value} (hg : a.eval g = .func (.func gf) #[] lb) (eg : ∀ args w, (callFunc gf args).run P w = .ok (.enter gf args) w)
  {encs : α → Array Value} {Kp : World → World → Prop} {G : List α → α → World → Prop} {S : List α → Prop} (hseq : Tells (n - 1) P gf lb encs Kp G S w)
  (hKt : ∀ {A B C : World}, Kp A B → Kp B C → Kp A C) (hKb : ∀ (W : World) (l : Nat) (o o' : Obj), w.heap.size ≤ l → W.heap[l]? = some o → o.isCells = false → o.isWalk = false → Kp W (W.putObj l o')) (hps : ∀ x, (encs x).size = ps.size)
  (I : List α → World → Prop) (hI : OwnFrom w.heap.size I) (h0 : I [] w) (Ax : List α → α → Act → World → Prop) (hAx : ∀ pre x a', OwnFrom w.heap.size (fun (_ : Unit) W => Ax pre x a' W))
  (hassign : ∀ (l : Nat) (pre : List α) (x : α) (W : World) (K : Act → World → Prop), I pre W → G pre x W → (∀ a' W', KeepsFrom w.heap.size W W' → Kp W W' → I pre W' → Ax pre x a' W' → K a' W') →
   assign.wpIn (Fence.wide.inRound l) (n - 1 - 1) P (Exit.then K (fun _ _ _ => False)) { tmps := (ps.zip (encs x)).foldl (fun t (p, v) => t.setIfInBounds p v) a.tmps, defers := [] } W)
  (hbody : ∀ (l : Nat) (pre : List α) (x : α) (a' : Act) (W : World), I pre W → Ax pre x a' W → body.wpIn (Fence.wide.inRound l) (n - 1 - 1) P (bodyEnd w.heap.size Kp I (pre ++ [x]) W) a' W)
  (hdone : ∀ (D : Nat) (xs : List α) (W : World), w.heap.size ≤ D → S xs → I xs W → W.heap[D]? = some (.deferred (some [])) → Q .normal { a with defers := { target := .collected D, args := #[] } :: a.defers } W) :
  (Code.rangeFunc g ps assign body).wpIn Fence.wide n P Q a w := by
 refine wpIn_rangeFunc ?_
 intro fn hfn
 rw [show Fence.wide.round = none from rfl]
 -- the loop's record, in the state st
 generalize hrc : (fun st : LoopState => ({ state := st, pending := none, fn, tmps := a.tmps, params := ps, assign, body, defers := w.heap.size } : Loop)) = rc
 generalize hV : (w.alloc (.deferred (some []))).alloc (.loop (rc .ready)) = V
 have bV : Below w.heap.size w V := by rw [← hV]; exact ((Below.refl _ w).alloc (Nat.le_refl _) _).alloc (by simp) _
 have sV : V.heap.size = w.heap.size + 1 + 1 := by rw [← hV, World.size_alloc, World.size_alloc]
 have atL : V.heap[w.heap.size + 1]? = some (.loop (rc .ready)) := by
  rw [← hV]; simpa [World.size_alloc] using World.alloc_heap_new (w.alloc (.deferred (some []))) (.loop (rc .ready))
 have atD : V.heap[w.heap.size]? = some (.deferred (some [])) := by
  rw [← hV]; exact (Below.heap_alloc _ _ _ (by simp)).trans (World.alloc_heap_new w _)
 have iV : I [] V := by rw [← hV]; exact hI.alloc _ (hI.alloc _ h0)
 refine ⟨w.heap.size + 1, [{ target := .collected w.heap.size, args := #[] }], V, { target := .fn (.func gf) lb, args := #[.func (.yield (w.heap.size + 1)) #[] #[]] }, V, gf,
  #[.func (.yield (w.heap.size + 1)) #[] #[]] ++ lb, V, by rw [← hV, ← hrc]; exact run_enterLoop_outer _ _ _ _ _, by simp only [resolve, hg]; simp [go_sem], fun _ _ => trivial, by simp [invoke, go_sem, eg], fun _ => h1, ?_⟩
 have own2 : ∀ {A : World} {row : Option Nat}, (∀ r, row = some r → V.heap.size ≤ r ∧ ∃ o : Obj, A.heap[r]? = some o ∧ o.isWalk = true) → (∀ r, row = some r → w.heap.size ≤ r ∧ ∃ o : Obj, A.heap[r]? = some o ∧ o.isCells = false) :=
  fun hr r e => by obtain ⟨hB, o, ho, hw⟩ := hr r e; exact ⟨by omega, o, ho, Obj.not_cells_of_walk hw⟩
 refine (hseq (w.heap.size + 1) (fun pre W => I pre W ∧ W.heap[w.heap.size + 1]? = some (.loop (rc .ready)) ∧ W.heap[w.heap.size]? = some (.deferred (some []))) V bV
  (fun s A B row hs hg' hr => ⟨hI s A B row hs.1 hg' (own2 hr), (grownBy_keeps hg' (fun r e => (hr r e).2) hs.2.1 rfl).trans hs.2.1, (grownBy_keeps hg' (fun r e => (hr r e).2) hs.2.2 rfl).trans hs.2.2⟩) ?_ ⟨iV, atL, atD⟩).mono ?_
 ·rintro pre x W ⟨hi, hl, hk⟩ hgx
  have hy := run_yield (P := P) (args := encs x) hl (by rw [← hrc]; exact hps x)
  rw [← hrc] at hy
  refine ⟨fn, _, assign, body, hy, roundIn_of_wpIn hfn (hassign _ pre x W _ hi hgx ?_)⟩
  clear hy
  intro a' W1 kf1 kp1 i1 ax1
  have l1 := kf1.same _ _ (by omega) hl rfl
  have k1 := kf1.same _ _ (Nat.le_refl _) hk rfl
  have lt1 : w.heap.size + 1 < W1.heap.size := (Array.getElem?_eq_some_iff.1 l1).1
  refine ⟨_, run_beginRound l1 (by rw [← hrc]), ?_⟩
  generalize hW2 : W1.putObj (w.heap.size + 1) (.loop { rc .ready with state := .busy }) = W2
  have l2 : W2.heap[w.heap.size + 1]? = some (.loop { rc .ready with state := .busy }) := by rw [← hW2]; exact World.putObj_heap_same lt1
  have k2 : W2.heap[w.heap.size]? = some (.deferred (some [])) := by rw [← hW2]; exact (World.putObj_heap_other (by omega)).trans k1
  have kp2 : Kp W1 W2 := by rw [← hW2]; exact hKb _ _ _ _ (by omega) l1 rfl rfl
  refine wpIn_mono (hbody _ pre x a' W2 (by rw [← hW2]; exact hI.putObj _ i1 (by omega) l1 rfl) (by rw [← hW2]; exact (hAx pre x a').putObj (s := ()) _ ax1 (by omega) l1 rfl)) ?_
  rintro e a3 W3 hp
  cases e with
  | normal =>
   obtain ⟨kf3, kp3, i3⟩ := hp
   have l3 := kf3.same _ _ (by omega) l2 rfl
   have hr := run_endRound (P := P) none l3
   refine ⟨_, _, hr, rfl, ⟨hI.putObj _ i3 (by omega) l3 rfl, ?_, ?_⟩, hKt kp1 (hKt (hKt kp2 kp3) (hKb _ _ _ _ (by omega) l3 rfl rfl))⟩
   ·rw [World.putObj_heap_same (Array.getElem?_eq_some_iff.1 l3).1, ← hrc]; rfl
   ·exact (World.putObj_heap_other (by omega)).trans (kf3.same _ _ (Nat.le_refl _) k2 rfl)
  | _ => exact hp.elim
 ·rintro e W2 ⟨⟨v, rfl⟩, xs, hS, hi, hl, hk⟩
  have he := run_endLoop (P := P) hl (by rw [← hrc]; simp)
  rw [← hrc] at he hl
  exact ⟨none, _, he, hdone _ xs _ (Nat.le_refl _) hS (hI.putObj _ hi (by omega) hl rfl) ((World.putObj_heap_other (by omega)).trans hk)⟩
end

section
open Go.Shelf
attribute [local go_sem] Oper.semAt_some
/-- A part of x that lies in s; it may be none. -/
def wn_part (s x : S57) : S57 := ⟨mx x.f0 s.f0, mn x.f1 s.f1⟩
def wn_is (x : S57) : Bool := decide (x.f0 < x.f1)
def wn_parts (s : S57) (l : List S57) : List S57 := (l.map (wn_part s)).filter wn_is
theorem wn_parts_succ (s : S57) (l : List S57) (k : Nat) (h : k < l.length) : wn_parts s (l.take (k + 1)) = wn_parts s (l.take k) ++ (if wn_is (wn_part s l[k]) = true then [wn_part s l[k]] else []) := by
 unfold wn_parts
 rw [List.take_succ_eq_append_getElem h, List.map_append, List.filter_append]
 congr 1
 by_cases hp : wn_is (wn_part s l[k]) = true
 ·rw [if_pos hp]; simp [List.filter, hp]
 ·rw [if_neg hp]; simp [List.filter, hp]
theorem wn_len (s : S57) (l : List S57) (k : Nat) : (wn_parts s (l.take k)).length ≤ l.length := Nat.le_trans (List.length_filter_le _ _) (by rw [List.length_map, List.length_take]; omega)
set_option maxRecDepth 100000 in
set_option maxHeartbeats 8000000 in
theorem wn_tells (n : Nat) (hn : 1 ≤ n) (s : S57) (Bl Bs : Nat) (A0 : Option Addr) (c0 : Nat) (l0 : List S57) (w0 wL : World)
  (hBl : wL.heap[Bl]? = some (.cells #[.slice A0 l0.length c0] 28 (0, 0))) (hBs : wL.heap[Bs]? = some (.cells #[.int .i64 s.f0, .int .i64 s.f1] 57 (0, 0))) (hC : Kd.C k57 w0 A0 l0.length l0) (hB : Below w0.heap.size w0 wL) :
  Tells n Try.prog 69 #[.pointer (some ⟨Bl, 0, none⟩), .pointer (some ⟨Bs, 0, none⟩)] (fun x => #[.agg #[.int .i64 x.f0, .int .i64 x.f1]]) (KpB w0.heap.size [Bs]) (fun pre _ _ => pre.length < l0.length + 1) (fun ys => ys = wn_parts s l0) wL := by
 intro lp J W hW hJ hY h0
 have k0 : W.cell? ⟨Bl, 0, none⟩ = some (.slice A0 l0.length c0) := (hW.cell (p := ⟨Bl, 0, none⟩) (blk_lt hBl)).trans ((blk_cell hBl 0).trans rfl)
 have hbs : W.heap[Bs]? = some (.cells #[.int .i64 s.f0, .int .i64 s.f1] 57 (0, 0)) := (hW.block Bs (Array.getElem?_eq_some_iff.1 hBs).1).trans hBs
 have hB0 : Below w0.heap.size w0 W := hB.trans (hW.mono hB.size)
 refine callsIn_of_wp Try.func69 rfl trivial ?_ rfl
 simp only [Try.ntmps69, List.size_toArray, List.length_cons, List.length_nil, Nat.reduceAdd, Nat.reduceSub, Array.replicate_succ, Array.replicate_zero, List.push_toArray, List.append_toArray, List.nil_append, List.cons_append]
 have hm : l0.length ≤ 9223372036854775807 := hC.2.1
 have HC := Lib.hid hC; clear hC
 have HY := Lib.hid hY; clear hY
 have HJ := Lib.hid hJ; clear hJ
 have HB := Lib.hid hB0; clear hB0
 have HBs := Lib.hid hbs; clear hbs
 clear hBl hBs hB
 have HW := Lib.hid hW; clear hW
 gi_wp2
 gi_loopw [9] (fun i wr => ∃ k : Nat, k ≤ l0.length ∧ i = .int .i64 k ∧ J (wn_parts s (l0.take k)) wr ∧ KpB w0.heap.size [Bs] W wr ∧ W.heap.size ≤ wr.heap.size)
  (fun i _ => l0.length - (intOf i).toNat)
 case atStart => exact ⟨0, Nat.zero_le _, rfl, by rw [List.take_zero]; exact h0, KpB.refl _ _ _, Nat.le_refl _⟩
 case round =>
  obtain ⟨k, hk, rfl, hJs, hnx, hsz⟩ := hrel
  by_cases hlt : k < l0.length
  ·have hbw : Below w0.heap.size w0 wr := HB.out.trans hnx.1
   have hbt : wr.heap[Bs]? = some (.cells #[.int .i64 s.f0, .int .i64 s.f1] 57 (0, 0)) := hnx.2 Bs (by simp) _ HBs.out
   obtain ⟨ad, had, hx0, hx1⟩ := at_T57 HC.out (k : Int) (by omega) (by omega)
   obtain rfl := had
   replace hx0 := (hbw.cell (World.block_lt_of_cell? w0 _ hx0)).trans hx0
   replace hx1 := (hbw.cell (World.block_lt_of_cell? w0 _ hx1)).trans hx1
   have hg : l0.getD k z57 = l0[k] := by rw [List.getD_eq_getElem?_getD, List.getElem?_eq_getElem hlt]; rfl
   have hrd : rd_T57 l0 (k : Int) = l0[k] := by rw [← hg]; rfl
   simp only [Int.toNat_natCast, hrd] at hx0 hx1
   have hps := wn_parts_succ s l0 k hlt
   obtain ⟨x, hx⟩ : ∃ x, l0[k] = x := ⟨_, rfl⟩
   rw [hx] at hx0 hx1 hps
   have HNX := Lib.hid hnx; have HJs := Lib.hid hJs; have HBW := Lib.hid hbw
   have hbx : Below wr.heap.size wr (wr.alloc (.cells #[.int .i64 x.f0, .int .i64 x.f1] 57)) := (Below.refl _ wr).alloc (Nat.le_refl _) _
   have ht0 : (wr.alloc (.cells #[.int .i64 x.f0, .int .i64 x.f1] 57)).cell? ⟨Bs, 0, none⟩ = some (.int .i64 s.f0) := (blk_cell (blk_alloc hbt _) 0).trans rfl
   have ht1 : (wr.alloc (.cells #[.int .i64 x.f0, .int .i64 x.f1] 57)).cell? ⟨Bs, 1, none⟩ = some (.int .i64 s.f1) := (blk_cell (blk_alloc hbt _) 1).trans rfl
   have HBX := Lib.hid hbx
   have hlt' : (k : Int) < l0.length := by omega
   obtain ⟨y, hy⟩ : ∃ y, wn_part s x = y := ⟨_, rfl⟩
   have hmx : (if x.f0 < s.f0 then s.f0 else x.f0) = y.f0 := by rw [← hy]; rfl
   have hmn : (if s.f1 < x.f1 then s.f1 else x.f1) = y.f1 := by rw [← hy]; rfl
   rw [hy] at hps
   have HPS := Lib.hid hps
   have hby : Below wr.heap.size wr ((wr.alloc (.cells #[.int .i64 x.f0, .int .i64 x.f1] 57)).alloc (.cells #[.int .i64 y.f0, .int .i64 y.f1] 57)) := hbx.alloc hbx.size _
   have HBY := Lib.hid hby
   clear hg hrd hps hx hnx hJs hbw hbx hbt hy hby
   by_cases hq : y.f0 < y.f1
   ·have HQ := Lib.hid hq
    obtain ⟨fn, tmps, assign, body, hy, hR⟩ := HY.out (wn_parts s (l0.take k)) y _ (abides_below HJ.out HJs.out HBY.out) (Nat.lt_succ_of_le (wn_len s l0 k))
    gi_wp2
    refine hR.mono ?_
    rintro e W3 ⟨rfl, hJ3, hk3⟩
    have HJ3 := Lib.hid hJ3; have HK3 := Lib.hid hk3; clear hJ3 hk3
    gi_wp2
    go_roundw
    case rel => exact ⟨k + 1, by omega, by simp, by rw [HPS.out, show wn_is y = true from decide_eq_true HQ.out, if_pos rfl]; exact HJ3.out, (HNX.out.trans (KpB.of_below HBY.out HBW.out.size)).trans HK3.out, Nat.le_trans (Nat.le_trans hsz HBY.out.size) HK3.out.1.size⟩
    case measure => simp [intOf]; omega
   ·have HQ := Lib.hid hq
    gi_wp2
    refine ⟨(by intro f hf; cases hf), ?_⟩
    gi_wp2
    go_roundw
    case rel => exact ⟨k + 1, by omega, by simp, by rw [HPS.out, show wn_is y = false from decide_eq_false (Int.not_lt.2 HQ.out)]; simpa using abides_below HJ.out HJs.out HBY.out, HNX.out.trans (KpB.of_below HBY.out HBW.out.size), Nat.le_trans hsz HBY.out.size⟩
    case measure => simp [intOf]; omega
  ·obtain rfl : k = l0.length := by omega
   have HJs := Lib.hid (show J (wn_parts s l0) wr from by rw [List.take_length] at hJs; exact hJs); clear hJs
   gi_wp2
   go_end0
   exact ⟨⟨_, rfl⟩, _, rfl, HJs.out⟩
theorem wn_call (A : Option Addr) (n c : Nat) (a b : Int) (w : World) : Calls Try.prog 50 #[.slice A n c, .agg #[.int .i64 a, .int .i64 b]] w fun e w' => e = .returned (.func (.func 69) #[] #[.pointer (some ⟨w.heap.size, 0, none⟩), .pointer (some ⟨w.heap.size + 1, 0, none⟩)]) ∧ (w.alloc (.cells #[.slice A n c] 28)).alloc (.cells #[.int .i64 a, .int .i64 b] 57) = w' := by
 go_enter Try.func50, Try.ntmps50
 go_wp2
 go_ret
 exact ⟨rfl, rfl⟩
def sp_ok1 (x : S57) : Bool := decide (0 ≤ x.f0) && (decide (x.f0 < x.f1) && decide (x.f1 ≤ 1125899906842624))
def sp_ok (l : List S57) (i : Nat) : Bool := sp_ok1 (l.getD i z57) && (decide (i = 0) || decide ((l.getD (i - 1) z57).f1 < (l.getD i z57).f0))
def sp_chk (l : List S57) : Int := if (List.range l.length).all (sp_ok l) = true then 0 else 60
theorem sp_wrap {n : Int} (h0 : -9223372036854775808 ≤ n) (h1 : n ≤ 9223372036854775807) : wrap64 n = n := by unfold wrap64; omega
theorem sp_chk_loop (l : List S57) (hl : l.length ≤ 9223372036854775806) (d : Nat) : ∀ i : Nat, i + d = l.length → ∀ k, 2 * d + 1 ≤ k → span_Check.l0 k l l (l.length : Int) (i : Int) = some (if (List.range' i d).all (sp_ok l) = true then 0 else 60) := by
 induction d with
 | zero =>
  intro i hi k hk
  obtain ⟨k, rfl⟩ : ∃ m, k = m + 1 := ⟨k - 1, by omega⟩
  rw [span_Check.l0, if_neg (by omega)]; rfl
 | succ d ih =>
  intro i hi k hk
  obtain ⟨k, rfl⟩ : ∃ m, k = m + 2 := ⟨k - 2, by omega⟩
  have hlt : i < l.length := by omega
  have c1 : (i : Int) < (l.length : Int) := Int.ofNat_lt.2 hlt
  have e1 : rd_T57 l (i : Int) = l.getD i z57 := by rw [rd_T57, Int.toNat_natCast]
  have hw1 : wrap64 ((i : Int) + 1) = ((i + 1 : Nat) : Int) := by rw [sp_wrap (by omega) (by omega)]; rfl
  have ih := ih (i + 1) (by omega) k (by omega)
  have hno : span_Check.j1 (k + 1) l l (l.length : Int) (i : Int) true = some 60 := by rw [span_Check.j1, if_pos rfl]
  have hyes : span_Check.j1 (k + 1) l l (l.length : Int) (i : Int) false = some (if (List.range' (i + 1) d).all (sp_ok l) = true then 0 else 60) := by rw [span_Check.j1, if_neg (by decide), hw1, ih]
  rw [span_Check.l0, if_pos c1, if_pos (Int.natCast_nonneg i), if_pos c1, e1, List.range'_succ, List.all_cons]
  generalize hx : l.getD i z57 = x
  have hok : sp_ok l i = (sp_ok1 x && (decide (i = 0) || decide ((l.getD (i - 1) z57).f1 < x.f0))) := by rw [sp_ok, hx]
  rw [hok]
  unfold sp_ok1 span_may.f
  by_cases h0 : x.f0 ≥ 0
  ·by_cases h1 : x.f0 ≤ x.f1
   ·rw [if_pos h0, if_pos h1]
    simp only [Option.bind_some]
    by_cases h2 : x.f1 ≤ 1125899906842624
    ·rw [if_pos (by simpa using h2)]
     by_cases h3 : x.f0 = x.f1
     ·rw [if_pos h3, hno, decide_eq_false (by omega : ¬ x.f0 < x.f1)]; simp
     ·rw [if_neg h3, decide_eq_true (show 0 ≤ x.f0 from h0), decide_eq_true (by omega : x.f0 < x.f1), decide_eq_true h2]
      by_cases h4 : i = 0
      ·rw [if_neg (by omega), hyes, decide_eq_true h4]; simp only [Bool.true_and, Bool.true_or]
      ·have hw2 : wrap64 ((i : Int) - 1) = ((i - 1 : Nat) : Int) := by rw [sp_wrap (by omega) (by omega)]; omega
       have e2 : rd_T57 l ((i - 1 : Nat) : Int) = l.getD (i - 1) z57 := by rw [rd_T57, Int.toNat_natCast]
       rw [if_pos (by omega), hw2, e2, decide_eq_false h4, if_pos (by omega), if_pos (by omega)]
       generalize l.getD (i - 1) z57 = y
       by_cases h5 : y.f1 < x.f0
       ·rw [decide_eq_false (by omega : ¬ y.f1 ≥ x.f0), hyes, decide_eq_true h5]; simp only [Bool.true_and, Bool.false_or]
       ·rw [decide_eq_true (by omega : y.f1 ≥ x.f0), hno, decide_eq_false h5]; simp
    ·rw [if_neg (by simpa using h2), hno, decide_eq_false h2]; simp
   ·rw [if_pos h0, if_neg h1]
    simp only [Option.bind_some]
    rw [if_neg (by decide), hno, decide_eq_false (by omega : ¬ x.f0 < x.f1)]; simp
  ·rw [if_neg h0]
   simp only [Option.bind_some]
   rw [if_neg (by decide), hno, decide_eq_false (by omega : ¬ 0 ≤ x.f0)]; simp
theorem sp_chk_f (l : List S57) (hl : l.length ≤ 9223372036854775806) (k : Nat) (hk : 2 * l.length + 1 ≤ k) : span_Check.f k l = some (sp_chk l) := by
 rw [span_Check.f, sp_chk]
 have := sp_chk_loop l hl l.length 0 (by omega) k hk
 rw [← List.range_eq_range'] at this
 exact this
theorem sp_hb {W W' : World} {D : Nat} {o : Obj} (hb : Below W.heap.size W W') (h : W.heap[D]? = some o) : W'.heap[D]? = some o := (hb.block D (Array.getElem?_eq_some_iff.1 h).1).trans h
/-- The gaps: what lies between the parts. -/
def gp_step (r : List S57 × Int) (x : S57) : List S57 × Int := (if r.2 < x.f0 then r.1 ++ [⟨r.2, x.f0⟩] else r.1, x.f1)
def gp_fold (a : Int) (l : List S57) : List S57 × Int := l.foldl gp_step ([], a)
theorem gp_fold_snoc (a : Int) (l : List S57) (x : S57) : gp_fold a (l ++ [x]) = gp_step (gp_fold a l) x := by simp [gp_fold]
theorem gp_len (a : Int) (l : List S57) : (gp_fold a l).1.length ≤ l.length := by
 suffices h : ∀ (l : List S57) r, (l.foldl gp_step r).1.length ≤ r.1.length + l.length by simpa [gp_fold] using h l ([], a)
 intro l
 induction l with
 | nil => intro r; simp
 | cons x l ih =>
  intro r
  have := ih (gp_step r x)
  rw [List.foldl_cons, List.length_cons]
  have h2 : (gp_step r x).1.length ≤ r.1.length + 1 := by unfold gp_step; dsimp only; split <;> simp
  omega
def gp_end (r : List S57 × Int) (b : Int) : List S57 := if r.2 < b then r.1 ++ [⟨r.2, b⟩] else r.1
def gp_gaps (l : List S57) (a b : Int) : List S57 := if sp_chk l ≠ 0 then [] else if a ≥ b then [] else gp_end (gp_fold a (wn_parts ⟨a, b⟩ l)) b
def span_Gaps.f (l0 : List S57) (a b : Int) : Option (List S57) := if l0.length < 4398046511104 then some (gp_gaps l0 a b) else none
/-- What lies in the variables between two rounds. -/
def GpI (w w1 : World) (a : Int) (pre : List S57) (W : World) : Prop :=
 ∃ v, W.heap[w1.heap.size]? = some (.cells #[v] 28 (0, 0)) ∧ W.heap[w1.heap.size + 1]? = some (.cells #[.int .i64 (gp_fold a pre).2] 3 (0, 0)) ∧
  Kd.R k57 57 W w.heap.size (fun k => w1.heap.size + 1 + 1 + 1 + 1 ≤ k) v (gp_fold a pre).1 ∧ Below w1.heap.size w1 W ∧ w1.heap.size + 1 + 1 + 1 + 1 ≤ W.heap.size
theorem GpI.grown {w w1 W W' : World} {a : Int} {pre : List S57} {row : Option Nat} (h : GpI w w1 a pre W) (hg : W.grownBy W' row) (hr : ∀ r, row = some r → w1.heap.size ≤ r ∧ ∃ o : Obj, W.heap[r]? = some o ∧ o.isCells = false) : GpI w w1 a pre W' := by
 obtain ⟨v, h1, h2, h3, h4, h5⟩ := h
 exact ⟨v, blk_own h1 hg (fun r e => (hr r e).2), blk_own h2 hg (fun r e => (hr r e).2), R_own' h3 hg (fun r e => (hr r e).2), h4.grown hg h4.size (fun r e => (hr r e).1), Nat.le_trans h5 hg.size⟩
theorem GpI.below {w w1 W W' : World} {a : Int} {pre : List S57} (h : GpI w w1 a pre W) (hb : Below W.heap.size W W') : GpI w w1 a pre W' := h.grown (grown_none hb) (fun r e => by cases e)
theorem gp_put1 {W : World} {b : Nat} {v u : Value} {t : TypeId} (h : W.heap[b]? = some (.cells #[v] t (0, 0))) : (W.setCell ⟨b, 0, none⟩ u).heap[b]? = some (.cells #[u] t (0, 0)) := (blk_set h 0 u).trans rfl
theorem gp_four (w : World) (o0 o1 o2 o3 : Obj) : let W := (((w.alloc o0).alloc o1).alloc o2).alloc o3; W.heap[w.heap.size]? = some o0 ∧ W.heap[w.heap.size + 1]? = some o1 ∧ W.heap[w.heap.size + 1 + 1]? = some o2 ∧ W.heap[w.heap.size + 1 + 1 + 1]? = some o3 ∧ W.heap.size = w.heap.size + 1 + 1 + 1 + 1 ∧ Below w.heap.size w W := by
 intro W
 have s1 : (w.alloc o0).heap.size = w.heap.size + 1 := World.size_alloc _ _
 have s2 : ((w.alloc o0).alloc o1).heap.size = w.heap.size + 1 + 1 := by rw [World.size_alloc, s1]
 have s3 : (((w.alloc o0).alloc o1).alloc o2).heap.size = w.heap.size + 1 + 1 + 1 := by rw [World.size_alloc, s2]
 refine ⟨blk_alloc (blk_alloc (blk_alloc (blk_new w _) _) _) _, blk_alloc (blk_alloc ?_ _) _, blk_alloc ?_ _, ?_, by rw [World.size_alloc, s3], below_alloc (below_alloc (below_alloc (below_alloc (Below.refl _ _) _) _) _) _⟩
 ·have h := blk_new (w.alloc o0) o1; rwa [s1] at h
 ·have h := blk_new ((w.alloc o0).alloc o1) o2; rwa [s2] at h
 ·have h := blk_new (((w.alloc o0).alloc o1).alloc o2) o3; rwa [s3] at h
theorem gp_stay {w w1 W w9 : World} {v : Value} {o : List S57} {at_ : Int} (h1 : W.heap[w1.heap.size]? = some (.cells #[v] 28 (0, 0))) (h2 : W.heap[w1.heap.size + 1]? = some (.cells #[.int .i64 at_] 3 (0, 0))) (h3 : Kd.R k57 57 W w.heap.size (fun k => w1.heap.size + 1 + 1 + 1 + 1 ≤ k) v o) (h5 : w1.heap.size + 1 + 1 + 1 + 1 ≤ W.heap.size) (hg : W.grownBy w9 v.ownBlock) :
  w9.heap[w1.heap.size]? = some (.cells #[v] 28 (0, 0)) ∧ w9.heap[w1.heap.size + 1]? = some (.cells #[.int .i64 at_] 3 (0, 0)) := by
 have hne : ∀ j, j < w1.heap.size + 1 + 1 + 1 + 1 → some j ≠ v.ownBlock := by
  intro j hj e
  have := h3.1 _ e.symm
  dsimp only at this
  omega
 exact ⟨(hg.block _ (by omega) (hne _ (by omega))).trans h1, (hg.block _ (by omega) (hne _ (by omega))).trans h2⟩
theorem gp_at {w w1 W w9 : World} {v v1 : Value} {o : List S57} {at_ : Int} {b : Nat} {x : S57} (h1 : W.heap[w1.heap.size]? = some (.cells #[v] 28 (0, 0))) (h2 : W.heap[w1.heap.size + 1]? = some (.cells #[.int .i64 at_] 3 (0, 0))) (h3 : Kd.R k57 57 W w.heap.size (fun k => w1.heap.size + 1 + 1 + 1 + 1 ≤ k) v o) (h5 : w1.heap.size + 1 + 1 + 1 + 1 ≤ W.heap.size)
  (hx : W.heap[b]? = some (.cells #[.int .i64 x.f0, .int .i64 x.f1] 57 (0, 0))) (hb : w1.heap.size + 1 + 1 + 1 + 1 ≤ b) (hbu : some b ≠ v.ownBlock) (hg : W.grownBy w9 v.ownBlock) :
  w9.cell? ⟨w1.heap.size, 0, none⟩ = some v ∧ w9.frozen? ⟨w1.heap.size, 0, none⟩ = false ∧ (w9.setCell ⟨w1.heap.size, 0, none⟩ v1).cell? ⟨w1.heap.size + 1, 0, none⟩ = some (.int .i64 at_) ∧ (w9.setCell ⟨w1.heap.size, 0, none⟩ v1).frozen? ⟨w1.heap.size + 1, 0, none⟩ = false ∧ (w9.setCell ⟨w1.heap.size, 0, none⟩ v1).cell? ⟨b, 1, none⟩ = some (.int .i64 x.f1) := by
 obtain ⟨q1, q2⟩ := gp_stay h1 h2 h3 h5 hg
 have q3 : (w9.setCell ⟨w1.heap.size, 0, none⟩ v1).heap[w1.heap.size + 1]? = some (.cells #[.int .i64 at_] 3 (0, 0)) := heap_set q2 (by show w1.heap.size + 1 ≠ w1.heap.size; omega)
 have q4 : (w9.setCell ⟨w1.heap.size, 0, none⟩ v1).heap[b]? = some (.cells #[.int .i64 x.f0, .int .i64 x.f1] 57 (0, 0)) := heap_set ((hg.block b (Array.getElem?_eq_some_iff.1 hx).1 hbu).trans hx) (by show b ≠ w1.heap.size; omega)
 exact ⟨(blk_cell q1 0).trans rfl, blk_frozen q1 0, (blk_cell q3 0).trans rfl, blk_frozen q3 0, (blk_cell q4 1).trans rfl⟩
theorem gp_def {w w1 W w9 : World} {v v1 : Value} {o : List S57} {D : Nat} (h1 : W.heap[w1.heap.size]? = some (.cells #[v] 28 (0, 0))) (h3 : Kd.R k57 57 W w.heap.size (fun k => w1.heap.size + 1 + 1 + 1 + 1 ≤ k) v o) (hK : W.heap[D]? = some (.deferred (some []))) (hg : W.grownBy w9 v.ownBlock) :
  (w9.setCell ⟨w1.heap.size, 0, none⟩ v1).heap[D]? = some (.deferred (some [])) := by
 refine heap_set ((hg.block D (Array.getElem?_eq_some_iff.1 hK).1 (fun e => ?_)).trans hK) (fun e => ?_)
 ·obtain ⟨inner, how⟩ := Kd.R_own h3
  obtain ⟨cells, hc⟩ := own_typed how D e.symm
  rw [hc] at hK
  cases hK
 ·have e : D = w1.heap.size := e
  rw [e, h1] at hK
  cases hK
theorem gp_move {w w1 W : World} {B a y : Int} {C : Nat} {pre : List S57} {x : S57} {v : Value} {o : List S57} (h1 : W.heap[w1.heap.size]? = some (.cells #[v] 28 (0, 0))) (h2 : W.heap[w1.heap.size + 1]? = some (.cells #[.int .i64 B] 3 (0, 0))) (h3 : Kd.R k57 57 W w.heap.size (fun k => w1.heap.size + 1 + 1 + 1 + 1 ≤ k) v o) (hb1 : Below w.heap.size w w1) (h4 : Below w1.heap.size w1 W) (h5 : w1.heap.size + 1 + 1 + 1 + 1 ≤ W.heap.size)
  (hf : gp_fold a (pre ++ [x]) = (o, y)) :
  KeepsFrom C W (W.setCell ⟨w1.heap.size + 1, 0, none⟩ (.int .i64 y)) ∧ KpB w.heap.size [w1.heap.size + 1 + 1 + 1] W (W.setCell ⟨w1.heap.size + 1, 0, none⟩ (.int .i64 y)) ∧ GpI w w1 a (pre ++ [x]) (W.setCell ⟨w1.heap.size + 1, 0, none⟩ (.int .i64 y)) := by
 have hs : w.heap.size ≤ w1.heap.size + 1 := Nat.le_trans hb1.size (Nat.le_succ _)
 refine ⟨(KeepsOthers.setCell _ _ _).from _, ⟨(Below.refl _ W).setCell (p := ⟨w1.heap.size + 1, 0, none⟩) hs _, fun b hb' o hbo' => ?_⟩, v, heap_set h1 (by show w1.heap.size ≠ w1.heap.size + 1; omega), ?_, ?_, h4.setCell (p := ⟨w1.heap.size + 1, 0, none⟩) (Nat.le_succ _) _, Nat.le_trans h5 (((Below.refl _ W).setCell (p := ⟨w1.heap.size + 1, 0, none⟩) (Nat.le_refl _) _ : Below (w1.heap.size + 1) W _).size)⟩
 ·obtain rfl := List.mem_singleton.1 hb'
  exact heap_set hbo' (by show w1.heap.size + 1 + 1 + 1 ≠ w1.heap.size + 1; omega)
 ·rw [hf]; exact gp_put1 h2
 ·rw [hf]; exact Kd.R_far h3 (fun k hk => by show k ≠ w1.heap.size + 1; omega) _
theorem gp_snoc {w w1 W w9 : World} {a y at_ : Int} {C : Nat} {pre : List S57} {x z : S57} {v v1 : Value} {o : List S57} (h1 : W.heap[w1.heap.size]? = some (.cells #[v] 28 (0, 0))) (h2 : W.heap[w1.heap.size + 1]? = some (.cells #[.int .i64 at_] 3 (0, 0))) (h3 : Kd.R k57 57 W w.heap.size (fun k => w1.heap.size + 1 + 1 + 1 + 1 ≤ k) v o) (hb1 : Below w.heap.size w w1) (h4 : Below w1.heap.size w1 W) (h5 : w1.heap.size + 1 + 1 + 1 + 1 ≤ W.heap.size) (hC : w1.heap.size + 1 + 1 + 1 + 1 ≤ C)
  (hg : W.grownBy w9 v.ownBlock) (hb9 : Below w.heap.size w w9) (ho : Kd.R k57 57 w9 w.heap.size (fun k => w1.heap.size + 1 + 1 + 1 + 1 ≤ k) v1 (o ++ [z])) (hf : gp_fold a (pre ++ [x]) = (o ++ [z], y)) :
  KeepsFrom C W ((w9.setCell ⟨w1.heap.size, 0, none⟩ v1).setCell ⟨w1.heap.size + 1, 0, none⟩ (.int .i64 y)) ∧ KpB w.heap.size [w1.heap.size + 1 + 1 + 1] W ((w9.setCell ⟨w1.heap.size, 0, none⟩ v1).setCell ⟨w1.heap.size + 1, 0, none⟩ (.int .i64 y)) ∧ GpI w w1 a (pre ++ [x]) ((w9.setCell ⟨w1.heap.size, 0, none⟩ v1).setCell ⟨w1.heap.size + 1, 0, none⟩ (.int .i64 y)) := by
 obtain ⟨q1, q2⟩ := gp_stay h1 h2 h3 h5 hg
 have hne : ∀ j, some j = v.ownBlock → w1.heap.size + 1 + 1 + 1 + 1 ≤ j := fun j e => h3.1 _ e.symm
 have hko : KeepsOthers W w9 := ⟨hg.size, fun k o hk ho => (hg.block k (Array.getElem?_eq_some_iff.1 hk).1 (fun e => by
  obtain ⟨inner, how⟩ := Kd.R_own h3
  obtain ⟨cells, hc⟩ := own_typed how k e.symm
  rw [hc] at hk
  obtain rfl := Option.some.inj hk
  cases ho)).trans hk⟩
 have hs : w.heap.size ≤ w1.heap.size := hb1.size
 have b9 : Below w1.heap.size w1 w9 := h4.grown hg h4.size (fun r e => by have := hne r e.symm; omega)
 have p1 := gp_put1 (u := v1) q1
 have p2 : (w9.setCell ⟨w1.heap.size, 0, none⟩ v1).heap[w1.heap.size + 1]? = some (.cells #[.int .i64 at_] 3 (0, 0)) := heap_set q2 (by show w1.heap.size + 1 ≠ w1.heap.size; omega)
 have p3 := Kd.R_far (p := ⟨w1.heap.size, 0, none⟩) ho (fun k hk => by show k ≠ w1.heap.size; omega) v1
 have p4 : Below w1.heap.size w1 (w9.setCell ⟨w1.heap.size, 0, none⟩ v1) := b9.setCell (p := ⟨w1.heap.size, 0, none⟩) (Nat.le_refl _) _
 have p5 : w1.heap.size + 1 + 1 + 1 + 1 ≤ (w9.setCell ⟨w1.heap.size, 0, none⟩ v1).heap.size := Nat.le_trans (Nat.le_trans h5 hg.size) (((Below.refl _ w9).setCell (p := ⟨w1.heap.size, 0, none⟩) (Nat.le_refl _) _ : Below w1.heap.size w9 _).size)
 obtain ⟨r1, r2, r3⟩ := gp_move (C := C) p1 p2 p3 hb1 p4 p5 hf
 refine ⟨((hko.trans (KeepsOthers.setCell _ _ _)).from _).trans r1, KpB.trans ⟨?_, fun b hb' o hbo' => ?_⟩ r2, r3⟩
 ·exact (Below.grown (Below.refl _ W) hg (by omega) (fun r e => Kd.R_base h3 r e)).setCell (p := ⟨w1.heap.size, 0, none⟩) hs _
 ·obtain rfl := List.mem_singleton.1 hb'
  exact heap_set ((hg.block _ (by omega) (fun e => by have := hne _ e; omega)).trans hbo') (by show w1.heap.size + 1 + 1 + 1 ≠ w1.heap.size; omega)
set_option maxRecDepth 100000 in
set_option maxHeartbeats 8000000 in
theorem span_Gaps.calls (A0 : Option Addr) (c0 : Nat) (l0 : List S57) (a1_0 a1_1 : Int) (r : List S57) (w : World) (hr0 : Kd.C k57 w A0 l0.length l0) (hc0 : l0.length ≤ c0) (h : span_Gaps.f l0 a1_0 a1_1 = some r) :
  Calls Try.prog 28 #[.slice A0 l0.length c0, .agg #[.int .i64 a1_0, .int .i64 a1_1]] w fun e w' => ∃ v0_ : Value, e = .returned v0_ ∧ Kd.R k57 57 w' w.heap.size (fun _ => True) v0_ r ∧ Below w.heap.size w w' := by
 unfold span_Gaps.f at h
 by_cases hl : l0.length < 4398046511104
 case neg => rw [if_neg hl] at h; cases h
 rw [if_pos hl] at h
 have hr := Option.some.inj h
 clear h
 obtain ⟨ec, hec⟩ : ∃ ec, sp_chk l0 = ec := ⟨_, rfl⟩
 have HE := Lib.hid (show span_Check.f (2 * l0.length + 1) l0 = some ec from by rw [← hec]; exact sp_chk_f l0 (by omega) _ (Nat.le_refl _))
 rw [gp_gaps, hec] at hr
 have HC := Lib.hid hr0; have HC0 := Lib.hid hc0; have HL := Lib.hid hl
 clear hr0 hc0 hl hec
 by_cases h1 : ec = 0
 case neg =>
  have q1 : (ec != 0) = true := bne_iff_ne.mpr h1
  rw [if_pos h1] at hr
  subst hr
  clear h1
  go_enter Try.func28, Try.ntmps28
  go_wp2_with (go_at_call 49; refine (span_Check.calls (2 * l0.length + 1) A0 c0 l0 _ _ (Kd.C_below HC.out (below_alloc (Below.refl _ _) _)) HC0.out HE.out).mono ?_; rintro e w1 ⟨rfl, hb⟩; have HB1 := Lib.hid ((below_alloc (Below.refl w.heap.size w) (.cells #[.int .i64 a1_0, .int .i64 a1_1] 57)).trans (hb.mono (by rw [World.size_alloc]; omega))); have HBX := Lib.hid hb; have hs0 : w1.cell? ⟨w.heap.size, 0, none⟩ = some (.int .i64 a1_0) := (blk_cell (sp_hb hb (blk_new w _)) 0).trans rfl; have hs1 : w1.cell? ⟨w.heap.size, 1, none⟩ = some (.int .i64 a1_1) := (blk_cell (sp_hb hb (blk_new w _)) 1).trans rfl; have hs0a : (w1.alloc (.cells #[.slice none 0 0] 28)).cell? ⟨w.heap.size, 0, none⟩ = some (.int .i64 a1_0) := rf_cell _ hs0; have hs0b : ((w1.alloc (.cells #[.slice none 0 0] 28)).alloc (.cells #[.int .i64 a1_0] 3)).cell? ⟨w.heap.size, 0, none⟩ = some (.int .i64 a1_0) := rf_cell _ hs0a; have hs1b : ((w1.alloc (.cells #[.slice none 0 0] 28)).alloc (.cells #[.int .i64 a1_0] 3)).cell? ⟨w.heap.size, 1, none⟩ = some (.int .i64 a1_1) := rf_cell _ (rf_cell _ hs1); clear hb)
  go_ret
  exact ⟨_, rfl, Kd.R_nil _ _ _ _ _, HB1.out⟩
 subst h1
 rw [if_neg (by simp)] at hr
 by_cases h2 : a1_0 ≥ a1_1
 case pos =>
  rw [if_pos h2] at hr
  subst hr
  go_enter Try.func28, Try.ntmps28
  go_wp2_with (go_at_call 49; refine (span_Check.calls (2 * l0.length + 1) A0 c0 l0 _ _ (Kd.C_below HC.out (below_alloc (Below.refl _ _) _)) HC0.out HE.out).mono ?_; rintro e w1 ⟨rfl, hb⟩; have HB1 := Lib.hid ((below_alloc (Below.refl w.heap.size w) (.cells #[.int .i64 a1_0, .int .i64 a1_1] 57)).trans (hb.mono (by rw [World.size_alloc]; omega))); have HBX := Lib.hid hb; have hs0 : w1.cell? ⟨w.heap.size, 0, none⟩ = some (.int .i64 a1_0) := (blk_cell (sp_hb hb (blk_new w _)) 0).trans rfl; have hs1 : w1.cell? ⟨w.heap.size, 1, none⟩ = some (.int .i64 a1_1) := (blk_cell (sp_hb hb (blk_new w _)) 1).trans rfl; have hs0a : (w1.alloc (.cells #[.slice none 0 0] 28)).cell? ⟨w.heap.size, 0, none⟩ = some (.int .i64 a1_0) := rf_cell _ hs0; have hs0b : ((w1.alloc (.cells #[.slice none 0 0] 28)).alloc (.cells #[.int .i64 a1_0] 3)).cell? ⟨w.heap.size, 0, none⟩ = some (.int .i64 a1_0) := rf_cell _ hs0a; have hs1b : ((w1.alloc (.cells #[.slice none 0 0] 28)).alloc (.cells #[.int .i64 a1_0] 3)).cell? ⟨w.heap.size, 1, none⟩ = some (.int .i64 a1_1) := rf_cell _ (rf_cell _ hs1); clear hb)
  go_ret
  exact ⟨_, rfl, Kd.R_nil _ _ _ _ _, HB1.out⟩
 rw [if_neg h2] at hr
 have HR := Lib.hid hr; clear hr
 refine callsIn_wide (n := 9).1 ?_
 refine callsIn_of_wp_marks Try.func28 rfl trivial ?_ rfl
 refine wpIn_wide.2 ?_
 simp only [Try.ntmps28, List.size_toArray, List.length_cons, List.length_nil, Nat.reduceAdd, Nat.reduceSub, Array.replicate_succ, Array.replicate_zero, List.push_toArray, List.append_toArray, List.nil_append, List.cons_append]
 go_wp2_with (first | (go_at_call 49; refine (span_Check.calls (2 * l0.length + 1) A0 c0 l0 _ _ (Kd.C_below HC.out (below_alloc (Below.refl _ _) _)) HC0.out HE.out).mono ?_; rintro e w1 ⟨rfl, hb⟩; have HB1 := Lib.hid ((below_alloc (Below.refl w.heap.size w) (.cells #[.int .i64 a1_0, .int .i64 a1_1] 57)).trans (hb.mono (by rw [World.size_alloc]; omega))); have HBX := Lib.hid hb; have hs0 : w1.cell? ⟨w.heap.size, 0, none⟩ = some (.int .i64 a1_0) := (blk_cell (sp_hb hb (blk_new w _)) 0).trans rfl; have hs1 : w1.cell? ⟨w.heap.size, 1, none⟩ = some (.int .i64 a1_1) := (blk_cell (sp_hb hb (blk_new w _)) 1).trans rfl; have hs0a : (w1.alloc (.cells #[.slice none 0 0] 28)).cell? ⟨w.heap.size, 0, none⟩ = some (.int .i64 a1_0) := rf_cell _ hs0; have hs0b : ((w1.alloc (.cells #[.slice none 0 0] 28)).alloc (.cells #[.int .i64 a1_0] 3)).cell? ⟨w.heap.size, 0, none⟩ = some (.int .i64 a1_0) := rf_cell _ hs0a; have hs1b : ((w1.alloc (.cells #[.slice none 0 0] 28)).alloc (.cells #[.int .i64 a1_0] 3)).cell? ⟨w.heap.size, 1, none⟩ = some (.int .i64 a1_1) := rf_cell _ (rf_cell _ hs1); clear hb) | (go_at_call 50; refine (wn_call _ _ _ _ _ _).mono ?_; rintro e w3 ⟨rfl, hw'⟩))
 have h5 := gp_four w1 (.cells #[.slice none 0 0] 28) (.cells #[.int .i64 a1_0] 3) (.cells #[.slice A0 l0.length c0] 28) (.cells #[.int .i64 a1_0, .int .i64 a1_1] 57)
 try simp only [World.size_alloc]
 obtain ⟨W0, hW0⟩ : ∃ W0, ((((w1.alloc (.cells #[.slice none 0 0] 28)).alloc (.cells #[.int .i64 a1_0] 3)).alloc (.cells #[.slice A0 l0.length c0] 28)).alloc (.cells #[.int .i64 a1_0, .int .i64 a1_1] 57)) = W0 := ⟨_, rfl⟩
 rw [hW0] at hw'
 subst hw'
 simp only [hW0] at h5
 have HF := Lib.hid h5
 have HI0 := Lib.hid (show GpI w w1 a1_0 [] W0 from ⟨_, HF.out.1, HF.out.2.1, Kd.R_nil _ _ _ _ _, HF.out.2.2.2.2.2, Nat.le_of_eq HF.out.2.2.2.2.1.symm⟩)
 have HS0 := Lib.hid hs0; have HS1 := Lib.hid hs1
 have hsl : w.heap.size < w1.heap.size := World.block_lt_of_cell? w1 _ hs0
 have HN := Lib.hid (show (wn_parts (⟨a1_0, a1_1⟩ : S57) l0).length ≤ l0.length from Nat.le_trans (List.length_filter_le _ _) (by rw [List.length_map]; exact Nat.le_refl _))
 clear h5 hW0 hs0 hs1 hs0a hs0b hs1b
 refine wpIn_wide (n := 9).1 ?_
 refine range_tells (α := S57) (encs := fun x => #[.agg #[.int .i64 x.f0, .int .i64 x.f1]]) (Kp := KpB w.heap.size [w1.heap.size + 1 + 1 + 1]) (G := fun pre x _ => pre.length < l0.length + 1) (S := fun ys => ys = wn_parts ⟨a1_0, a1_1⟩ l0)
  (by omega) (gf := 69) (lb := #[.pointer (some ⟨w1.heap.size + 1 + 1, 0, none⟩), .pointer (some ⟨w1.heap.size + 1 + 1 + 1, 0, none⟩)]) rfl (enters_of Try.func69 (by kernel_rfl) rfl)
  (wn_tells 8 (by omega) ⟨a1_0, a1_1⟩ (w1.heap.size + 1 + 1) (w1.heap.size + 1 + 1 + 1) A0 c0 l0 w W0 HF.out.2.2.1 HF.out.2.2.2.1 HC.out (HB1.out.trans (HF.out.2.2.2.2.2.mono HB1.out.size)))
  KpB.trans (KpB.put (Nat.le_trans HB1.out.size HF.out.2.2.2.2.2.size) (by intro b hb; rw [List.mem_singleton.1 hb, HF.out.2.2.2.2.1]; omega)) (fun _ => rfl)
  (fun pre W => GpI w w1 a1_0 pre W) (fun s A B row hs hg hr => hs.grown hg (fun r e => ⟨Nat.le_trans HF.out.2.2.2.2.2.size (hr r e).1, (hr r e).2⟩)) HI0.out
  (fun pre x a' W => ∃ b : Nat, a' = { tmps := #[.slice A0 l0.length c0, .agg #[.int .i64 a1_0, .int .i64 a1_1], undef, .pointer (some ⟨w.heap.size, 0, none⟩), .slice none 0 0, .pointer (some ⟨w1.heap.size, 0, none⟩), .pointer (some ⟨w1.heap.size + 1, 0, none⟩), .pointer (some ⟨b, 0, none⟩), .slice A0 l0.length c0, .int .i64 0, .bool false, .bool false, .pointer (some ⟨w.heap.size, 0, none⟩), .int .i64 a1_0, .pointer (some ⟨w.heap.size, 1, none⟩), .int .i64 a1_1, .bool (decide (a1_1 ≤ a1_0)), .bool (decide (a1_1 ≤ a1_0)), .pointer (some ⟨w.heap.size, 0, none⟩), .int .i64 a1_0, .slice A0 l0.length c0, .agg #[.int .i64 a1_0, .int .i64 a1_1], .func (.func 69) #[] #[.pointer (some ⟨w1.heap.size + 1 + 1, 0, none⟩), .pointer (some ⟨w1.heap.size + 1 + 1 + 1, 0, none⟩)], .agg #[.int .i64 x.f0, .int .i64 x.f1], undef, undef, undef, undef, undef, undef, undef, undef, undef, undef, undef, undef, undef, undef, undef, undef, undef, undef, undef, undef, undef, undef, undef, undef, undef], defers := [] } ∧ pre.length < l0.length + 1 ∧ w1.heap.size + 1 + 1 + 1 + 1 ≤ b ∧ W.heap[b]? = some (.cells #[.int .i64 x.f0, .int .i64 x.f1] 57 (0, 0)) ∧ ∃ u, W.heap[w1.heap.size]? = some (.cells #[u] 28 (0, 0)) ∧ some b ≠ u.ownBlock)
  (fun pre x a' s A B row hs hg hr => by
   obtain ⟨b, h1, h2, h3, h4, u, h5, h6⟩ := hs
   exact ⟨b, h1, h2, h3, blk_own h4 hg (fun r e => (hr r e).2), u, blk_own h5 hg (fun r e => (hr r e).2), h6⟩) ?assign ?body ?done
 case assign =>
  intro l pre x W K hI hG hK
  rw [show W0.heap.size = w1.heap.size + 1 + 1 + 1 + 1 from HF.out.2.2.2.2.1] at hK
  gi_wp2
  obtain ⟨v, h1, h2, h3, h4, h5⟩ := hI
  refine hK _ _ ((KeepsOthers.alloc _ _).from _) (KpB.of_below (below_alloc (Below.refl _ _) _) (Nat.le_trans (Nat.le_trans HB1.out.size h4.size) (Nat.le_refl _))) (GpI.below ⟨v, h1, h2, h3, h4, h5⟩ (below_alloc (Below.refl _ _) _)) ⟨W.heap.size, rfl, hG, h5, blk_new W _, v, blk_alloc h1 _, ?_⟩
  obtain ⟨inner, how⟩ := Kd.R_own h3
  exact fun e => absurd (own_lt how _ e.symm) (Nat.lt_irrefl _)
 case body =>
  rintro l pre x a' W ⟨v, h1, h2, h3, h4, h5⟩ ⟨b, rfl, hlen, hb, hx, u, hu, hbu⟩
  obtain rfl : v = u := by rw [h1] at hu; injection hu with hu; injection hu with hu; injection hu with hu; injection hu
  have hsn := gp_fold_snoc a1_0 pre x
  have hgl := gp_len a1_0 pre
  obtain ⟨⟨o, at_⟩, hst⟩ : ∃ s, gp_fold a1_0 pre = s := ⟨_, rfl⟩
  rw [hst] at hsn hgl h2 h3
  have k0 := (blk_cell h1 0).trans rfl
  have kf := blk_frozen h1 0
  have k1 := (blk_cell h2 0).trans rfl
  have kg := blk_frozen h2 0
  have y0 := (blk_cell hx 0).trans rfl
  have y1 := (blk_cell hx 1).trans rfl
  have H1 := Lib.hid h1; have H2 := Lib.hid h2; have H3 := Lib.hid h3; have H4 := Lib.hid h4; have H5 := Lib.hid h5; have HX := Lib.hid hx; have HBU := Lib.hid hbu
  have HLN := Lib.hid hlen; have HSN := Lib.hid hsn; have HST := Lib.hid hst; have HGL := Lib.hid hgl
  have HB := Lib.hid hb
  have HB4 := Lib.hid (show Below w.heap.size w W from HB1.out.trans (h4.mono HB1.out.size))
  clear h1 h2 h3 h4 h5 hlen hsn hst hgl hx hbu hu hb
  refine wpIn_block ?_
  refine wpIn_seq ?_
  refine wpIn_seq ?_
  by_cases hq : at_ < x.f0
  ·refine list_r (by rintro ⟨_, _, h⟩; exact h) (by rfl) ?_
   go_wp2
   refine wpIn_cond_true (by first | rfl | simp [go_sem, hq]) ?_
   refine list_r (by rintro ⟨_, _, h⟩; exact h) (by rfl) ?_
   go_wp2_with ((with_reducible refine gate_builtin (b := .append) (xs := #[.tmp 28, .tmp 33]) rfl ?_); at_builtin; refine Kd.R_append k57 (w0 := w) w.heap.size rfl (.tmp 28) (.tmp 33) 28 57 (.agg #[.int .i64 0, .int .i64 0]) 16 rfl Try.underlying28 info57 rfl (by decide) (by omega) v o ⟨at_, x.f0⟩ [.int .i64 at_, .int .i64 x.f0] (fun k => w1.heap.size + 1 + 1 + 1 + 1 ≤ k) (fun _ => False) rfl rfl ?aP (fun _ hk => hk.elim) ?aF ?aO ?aB ?aS ?aL ?_; (case aP => exact k57_mkM _ _ _ ⟨at_, x.f0⟩); (case aB => exact HB4.out); (case aF => exact (fun k hk => Nat.le_trans H5.out hk)); (case aO => exact H3.out); (case aS => exact HB4.out.size); (case aL => have q1 := HLN.out; have q2 := HL.out; have q3 : o.length ≤ pre.length := HGL.out; omega); intro v1 w9 ho hb9 hg hat; obtain ⟨A1, c1, rfl⟩ := Kd.R_slice ho; have HO := Lib.hid ho; have HB9 := Lib.hid hb9; have HG := Lib.hid hg; obtain ⟨k2, kf2, k3, kf3, y2⟩ := gp_at (v1 := .slice A1 (o.length + 1) c1) H1.out H2.out H3.out H5.out HX.out HB.out HBU.out HG.out; clear ho hb9 hg hat)
   refine list_r (by rintro ⟨_, _, h⟩; exact h) (by rfl) ?_
   go_wp2
   have HQ := Lib.hid hq
   exact gp_snoc H1.out H2.out H3.out HB1.out H4.out H5.out (Nat.le_of_eq HF.out.2.2.2.2.1.symm) HG.out HB9.out (by have := HO.out; rwa [List.length_append, List.length_singleton] at this) (by rw [HSN.out]; unfold gp_step; rw [if_pos HQ.out])
  ·refine list_r (by rintro ⟨_, _, h⟩; exact h) (by rfl) ?_
   go_wp2
   refine wpIn_cond_false (by first | rfl | simp [go_sem, hq]) ?_
   refine wpIn_skip ?_
   refine list_r (by rintro ⟨_, _, h⟩; exact h) (by rfl) ?_
   go_wp2
   have HQ := Lib.hid hq
   exact gp_move H1.out H2.out H3.out HB1.out H4.out H5.out (by rw [HSN.out]; unfold gp_step; rw [if_neg (show ¬ at_ < x.f0 from by have := HQ.out; omega)])
 case done =>
  rintro D ys W hD rfl hI hK
  have HI := Lib.hid hI; have HK := Lib.hid hK
  obtain ⟨v, h1, h2, h3, h4, h5⟩ := hI
  have hgl := gp_len a1_0 (wn_parts ⟨a1_0, a1_1⟩ l0)
  have hr := HR.out
  obtain ⟨⟨o, at_⟩, hst⟩ : ∃ s, gp_fold a1_0 (wn_parts ⟨a1_0, a1_1⟩ l0) = s := ⟨_, rfl⟩
  rw [hst] at hgl h2 h3 hr
  have k0 := (blk_cell h1 0).trans rfl
  have k1 := (blk_cell h2 0).trans rfl
  have kf := blk_frozen h1 0
  have z1 : W.cell? ⟨w.heap.size, 1, none⟩ = some (.int .i64 a1_1) := (h4.cell (p := ⟨w.heap.size, 1, none⟩) hsl).trans HS1.out
  have H1 := Lib.hid h1; have H2 := Lib.hid h2; have H3 := Lib.hid h3; have H4 := Lib.hid h4; have H5 := Lib.hid h5; have HGL := Lib.hid hgl
  have HB4 := Lib.hid (show Below w.heap.size w W from HB1.out.trans (h4.mono HB1.out.size))
  have hbt : w1.heap.size ≤ D := Nat.le_trans HF.out.2.2.2.2.2.size hD
  unfold gp_end at hr
  dsimp only at hr
  clear h1 h2 h3 h4 h5 hK hgl hst hD
  simp only [Exit.inBlock, Exit.then]
  by_cases hq : at_ < a1_1
  ·rw [if_pos hq] at hr
   have HRR := Lib.hid hr; clear hr
   go_wp2_with ((with_reducible refine gate_builtin (b := .append) (xs := #[.tmp 41, .tmp 46]) rfl ?_); at_builtin; refine Kd.R_append k57 (w0 := w) w.heap.size rfl (.tmp 41) (.tmp 46) 28 57 (.agg #[.int .i64 0, .int .i64 0]) 16 rfl Try.underlying28 info57 rfl (by decide) (by omega) v o ⟨at_, a1_1⟩ [.int .i64 at_, .int .i64 a1_1] (fun k => w1.heap.size + 1 + 1 + 1 + 1 ≤ k) (fun _ => False) rfl rfl ?aP (fun _ hk => hk.elim) ?aF ?aO ?aB ?aS ?aL ?_; (case aP => exact k57_mkM _ _ _ ⟨at_, a1_1⟩); (case aB => exact HB4.out); (case aF => exact (fun k hk => Nat.le_trans H5.out hk)); (case aO => exact H3.out); (case aS => exact HB4.out.size); (case aL => have q2 := HL.out; have q3 : o.length ≤ _ := HGL.out; have q4 := HN.out; omega); intro v1 w9 ho hb9 hg hat; obtain ⟨A1, c1, rfl⟩ := Kd.R_slice ho; have HO := Lib.hid ho; have HB9 := Lib.hid hb9; have HG := Lib.hid hg; obtain ⟨q5, _⟩ := gp_stay H1.out H2.out H3.out H5.out HG.out; have k2 := (blk_cell q5 0).trans rfl; have kf2 := blk_frozen q5 0; clear q5; clear ho hb9 hg hat)
   refine ⟨by simp, .inl ⟨_, _, rfl, run_takeDeferred (gp_def H1.out H3.out HK.out HG.out), ?_⟩⟩
   have hp := grownBy_putObj' (w9.setCell ⟨w1.heap.size, 0, none⟩ (.slice A1 (o.length + 1) c1)) D (.deferred none)
   have hro : Kd.R k57 57 w9 w.heap.size (fun k => w1.heap.size + 1 + 1 + 1 + 1 ≤ k) (.slice A1 (o.length + 1) c1) (o ++ [⟨at_, a1_1⟩]) := by have := HO.out; rwa [List.length_append, List.length_singleton] at this
   rw [← HRR.out]
   have hdf := gp_def (v1 := .slice A1 (o.length + 1) c1) H1.out H3.out HK.out HG.out
   refine ⟨_, results_tmp rfl _ _ _, _, rfl, Kd.R_mono (R_own' (Kd.R_far (p := ⟨w1.heap.size, 0, none⟩) hro (fun k hk => by show k ≠ w1.heap.size; omega) _) hp (fun r e => by cases e; exact ⟨_, hdf, rfl⟩)) (fun _ _ => trivial), ?_⟩
   exact (HB9.out.setCell (p := ⟨w1.heap.size, 0, none⟩) HB1.out.size _).grown hp (HB9.out.setCell (p := ⟨w1.heap.size, 0, none⟩) HB1.out.size (.slice A1 (o.length + 1) c1)).size (fun r e => by cases e; exact Nat.le_trans HB1.out.size hbt)
  ·rw [if_neg hq] at hr
   subst hr
   go_wp2
   refine ⟨by simp, .inl ⟨_, _, rfl, run_takeDeferred HK.out, ?_⟩⟩
   exact ⟨_, results_tmp rfl _ _ _, _, rfl, Kd.R_mono (R_own' H3.out (grownBy_putObj' W D (.deferred none)) (fun r e => by cases e; exact ⟨_, HK.out, rfl⟩)) (fun _ _ => trivial), HB4.out.grown (grownBy_putObj' W D (.deferred none)) HB4.out.size (fun r e => by cases e; exact Nat.le_trans HB1.out.size hbt)⟩
end

end Go.Proofs.Ytflmfbcapccdeaa.PA

-- Written for the seat Ytflmfbcapccdeaa by this session's program hyb.py (the print's functions, with externals typed by hand).
import Derived.Lib.Hide
import Derived.LoopIn
import Derived.LoopNIn
import Derived.OwnWalkIn
import Derived.RangeFuncBound
import Derived.RangeFuncBox
import Derived.RangeFuncCalls
import Derived.RangeFuncLeaves
import Derived.RangeFuncNested
import Derived.Shelf.Abstract
import Derived.Shelf.AbstractIn
import Derived.Shelf.RegionOpen
import Derived.TacticsInMore
import Derived.WalkKit
import Derived.Test.YtflmfbcapccdeaaPAx0
import Derived.Test.YtflmfbcapccdeaaPAx4
import Derived.Test.YtflmfbcapccdeaaPAx7
namespace Go.Proofs.Ytflmfbcapccdeaa.PA
open Go.RowKit Go.Proofs.YtflmfbcapccdeaaW.PrintWords Go.Proofs.YtflmfbcapccdeaaW.PrintLast Go.Proofs.YtflmfbcapccdeaaW.PrintMore
attribute [local go_sem] max2_int min2_int max_two min_two max_three min_three max_four min_four   -- for this text's walks alone
set_option linter.unusedVariables false
set_option linter.unusedSimpArgs false

/-! ### judge_Cover: function 12 (typed by hand) -/
section
open Go.Shelf
attribute [local go_sem] Oper.semAt_some
/-- What a round of a loop over what was covered keeps: all below the base, and the blocks of spans and of the log's box. -/
def KpT (base : Nat) (A B : World) : Prop := Below base A B ∧ ∀ (b : Nat) (cs : Array Value) (t : TypeId), (t = 57 ∨ t = 22) → A.heap[b]? = some (Obj.cells cs t (0, 0)) → B.heap[b]? = some (Obj.cells cs t (0, 0))
theorem KpT.refl (base : Nat) (A : World) : KpT base A A := ⟨Below.refl _ _, fun _ _ _ _ h => h⟩
theorem KpT.trans {base : Nat} {A B C : World} (h : KpT base A B) (k : KpT base B C) : KpT base A C := ⟨h.1.trans k.1, fun b cs t ht ho => k.2 b cs t ht (h.2 b cs t ht ho)⟩
theorem KpT.of_below {base : Nat} {A B : World} (h : Below A.heap.size A B) (hb : base ≤ A.heap.size) : KpT base A B := ⟨h.mono hb, fun b cs t _ ho => (h.block b (Array.getElem?_eq_some_iff.1 ho).1).trans ho⟩
theorem KpT.put {base : Nat} {w : World} (hn : base ≤ w.heap.size) (W : World) (l : Nat) (o o' : Obj) (hl : w.heap.size ≤ l) (h : W.heap[l]? = some o) (h1 : o.isCells = false) (h2 : o.isWalk = false) : KpT base W (W.putObj l o') :=
 ⟨belowK_b hn W l o o' hl h h1 h2, fun b cs t _ ho => (World.putObj_heap_other (by rintro rfl; rw [h] at ho; injection ho with ho; rw [ho] at h1; cases h1)).trans ho⟩
theorem KpT.R {base : Nat} {A B : World} {v : Value} {xs : List S57} (h : KpT base A B) (hr : Kd.R k57 57 A base (fun _ => True) v xs) : Kd.R k57 57 B base (fun _ => True) v xs :=
 Kd.R_mono (Kd.R_move (Kd.R_bound hr) (fun k hk => by
  obtain ⟨_, _, _, q, hq, cells, hc⟩ := hk
  have e : q = 57 := by simpa [k57, Kd.iso, Kd.pair, Kd.int, Kd.scalar] using hq
  subst e
  rw [h.2 k cells _ (.inl rfl) hc, hc])) (fun _ _ => trivial)
/-- What was sent, ahead of each: as span.Add says. -/
def Cov (l : List S39) (cov : Nat → List S57) : Prop := cov 0 = [] ∧ ∀ k (h : k < l.length), ∃ K r e, span_Add.f K (cov k) l[k].f2 l[k].f3 = some (r, e) ∧ cov (k + 1) = if e = 0 then r else cov k
set_option maxRecDepth 100000 in
set_option maxHeartbeats 8000000 in
theorem cv_tells (n : Nat) (hn : 1 ≤ n) (Bl : Nat) (A0 : Option Addr) (c0 : Nat) (l0 : List S39) (cov : Nat → List S57) (hcov : Cov l0 cov) (w0 wL : World)
  (hBl : wL.heap[Bl]? = some (.cells #[.slice A0 l0.length c0] 22 (0, 0))) (hC : Kd.C k39 w0 A0 l0.length l0) (hB : Below w0.heap.size w0 wL) :
  Tells n Try.prog 47 #[.pointer (some ⟨Bl, 0, none⟩)] (fun x : Value × Value => #[x.1, x.2]) (KpT w0.heap.size) (fun pre x W => pre.length < l0.length ∧ Kd.R k57 57 W w0.heap.size (fun _ => True) x.1 (cov pre.length) ∧ Kd.R k57 57 W w0.heap.size (fun _ => True) x.2 (cov (pre.length + 1))) (fun ys => ys.length = l0.length) wL := by
 intro lp J W hW hJ hY h0
 have k0 : W.cell? ⟨Bl, 0, none⟩ = some (.slice A0 l0.length c0) := (hW.cell (p := ⟨Bl, 0, none⟩) (blk_lt hBl)).trans ((blk_cell hBl 0).trans rfl)
 have hB0 : Below w0.heap.size w0 W := hB.trans (hW.mono hB.size)
 refine callsIn_of_wp Try.func47 rfl trivial ?_ rfl
 simp only [Try.ntmps47, List.size_toArray, List.length_cons, List.length_nil, Nat.reduceAdd, Nat.reduceSub, Array.replicate_succ, Array.replicate_zero, List.push_toArray, List.append_toArray, List.nil_append, List.cons_append]
 have hm : l0.length ≤ 9223372036854775807 := hC.2.1
 have HC := Lib.hid hC; clear hC
 have HY := Lib.hid hY; clear hY
 have HJ := Lib.hid hJ; clear hJ
 have HB := Lib.hid hB0; clear hB0
 have HCV := Lib.hid hcov; clear hcov
 clear hBl hB
 have HW := Lib.hid hW; clear hW
 gi_wp2
 gi_loopw [10, 3] (fun i ah wr => ∃ pre : List (Value × Value), pre.length ≤ l0.length ∧ i = .int .i64 (pre.length : Int) ∧ J pre wr ∧ Kd.R k57 57 wr w0.heap.size (fun _ => True) ah (cov pre.length) ∧ KpT w0.heap.size W wr ∧ W.heap.size ≤ wr.heap.size)
  (fun i _ _ => l0.length - (intOf i).toNat)
 case atStart => exact ⟨[], Nat.zero_le _, rfl, h0, by rw [show cov ([] : List (Value × Value)).length = [] from HCV.out.1]; exact Kd.R_nil _ _ _ _ _, KpT.refl _ _, Nat.le_refl _⟩
 case round =>
  obtain ⟨pre, hk, rfl, hJs, hRa, hnx, hsz⟩ := hrel
  by_cases hlt : pre.length < l0.length
  ·have hbw : Below w0.heap.size w0 wr := HB.out.trans hnx.1
   obtain ⟨k, hkk⟩ : ∃ k, pre.length = k := ⟨_, rfl⟩
   rw [hkk] at hk hlt hRa ⊢
   obtain ⟨ad, A1, c1, had, hx0, hx1, hx2, hx3, hx4, hx5, hx6, _⟩ := at_T39 HC.out (k : Int) (by omega) (by omega)
   obtain rfl := had
   replace hx0 := (hbw.cell (World.block_lt_of_cell? w0 _ hx0)).trans hx0
   replace hx1 := (hbw.cell (World.block_lt_of_cell? w0 _ hx1)).trans hx1
   replace hx2 := (hbw.cell (World.block_lt_of_cell? w0 _ hx2)).trans hx2
   replace hx3 := (hbw.cell (World.block_lt_of_cell? w0 _ hx3)).trans hx3
   replace hx4 := (hbw.cell (World.block_lt_of_cell? w0 _ hx4)).trans hx4
   replace hx5 := (hbw.cell (World.block_lt_of_cell? w0 _ hx5)).trans hx5
   replace hx6 := (hbw.cell (World.block_lt_of_cell? w0 _ hx6)).trans hx6
   have hg : l0.getD k z39 = l0[k] := by rw [List.getD_eq_getElem?_getD, List.getElem?_eq_getElem hlt]; rfl
   have hrd : rd_T39 l0 (k : Int) = l0[k] := by rw [← hg]; rfl
   simp only [Int.toNat_natCast, hrd] at hx0 hx1 hx2 hx3 hx4 hx5 hx6
   obtain ⟨K, r, e, hadd, hnext⟩ := HCV.out.2 k hlt
   obtain ⟨x, hx⟩ : ∃ x, l0[k] = x := ⟨_, rfl⟩
   rw [hx] at hx0 hx1 hx2 hx3 hx4 hx5 hx6 hadd
   obtain ⟨Aa, ca, rfl, hle, hCa⟩ := Kd.R_reads hRa
   have HNX := Lib.hid hnx; have HJs := Lib.hid hJs; have HBW := Lib.hid hbw; have HRA := Lib.hid hRa; have HAD := Lib.hid hadd; have HNE := Lib.hid hnext; have HLE := Lib.hid hle; have HCA := Lib.hid hCa; have HKK := Lib.hid hkk
   have hbx : Below wr.heap.size wr (wr.alloc (.cells #[.slice A1 x.f0.length c1, .int .i64 x.f1, .int .i64 x.f2, .int .i64 x.f3, .int .i64 x.f4, .int .i64 x.f5, .int .i64 x.f6] 39)) := (Below.refl _ wr).alloc (Nat.le_refl _) _
   have HBX := Lib.hid hbx
   have hlt' : (k : Int) < l0.length := by omega
   obtain ⟨cv, hcv⟩ : ∃ cv, cov k = cv := ⟨_, rfl⟩
   rw [hcv] at HRA HAD HNE HLE HCA ⊢
   have HCVK := Lib.hid hcv
   clear hg hrd hx hnx hJs hbw hbx hRa hadd hnext hle hCa hcv hkk
   by_cases he : e = 0
   ·have q0 : (e != 0) = false := bne_eq_false_iff_eq.mpr he
    have HE := Lib.hid he; clear he
    gi_wp2_with (refine ⟨trivial, ?_⟩; gi_at_call 48; refine (callsIn_wide.2 (span_Add.calls K Aa ca cv x.f2 x.f3 r e _ (Kd.C_below HCA.out HBX.out) HLE.out HAD.out)).mono ?_; rintro ee W2 ⟨v2, rfl, hR2, hb2⟩; have HR2 := Lib.hid (Kd.R_lower hR2 (Nat.le_trans HBW.out.size HBX.out.size)); have HB2 := Lib.hid (HBX.out.trans (hb2.mono HBX.out.size)); clear hR2 hb2; have HR1 := Lib.hid (Kd.R_below HRA.out HB2.out); have HN2 := Lib.hid (by rw [HNE.out, if_pos HE.out]; exact HR2.out : Kd.R k57 57 W2 w0.heap.size (fun _ => True) (v2) (cov (k + 1))); obtain ⟨fn, tmps, assign, body, hy, hR⟩ := HY.out pre ((.slice Aa cv.length ca : Value), (v2 : Value)) W2 (abides_below HJ.out HJs.out HB2.out) ⟨by rw [HKK.out]; exact hlt, by rw [HKK.out, HCVK.out]; exact HR1.out, by rw [HKK.out]; exact HN2.out⟩; dsimp only at hy)
    refine hR.mono ?_
    rintro e3 W3 ⟨rfl, hJ3, hk3⟩
    have HJ3 := Lib.hid hJ3; have HK3 := Lib.hid hk3; clear hJ3 hk3
    gi_wp2
    go_roundw
    case rel => exact ⟨pre ++ [(.slice Aa cv.length ca, v2)], by rw [List.length_append, HKK.out]; exact hlt, by rw [List.length_append, HKK.out]; rfl, HJ3.out, by rw [List.length_append, HKK.out]; exact KpT.R HK3.out HN2.out, (HNX.out.trans (KpT.of_below HB2.out HBW.out.size)).trans HK3.out, Nat.le_trans (Nat.le_trans hsz HB2.out.size) HK3.out.1.size⟩
    case measure => simp [intOf]; omega
   ·have q0 : (e != 0) = true := bne_iff_ne.mpr he
    have HE := Lib.hid he; clear he
    gi_wp2_with (refine ⟨trivial, ?_⟩; gi_at_call 48; refine (callsIn_wide.2 (span_Add.calls K Aa ca cv x.f2 x.f3 r e _ (Kd.C_below HCA.out HBX.out) HLE.out HAD.out)).mono ?_; rintro ee W2 ⟨v2, rfl, hR2, hb2⟩; have HR2 := Lib.hid (Kd.R_lower hR2 (Nat.le_trans HBW.out.size HBX.out.size)); have HB2 := Lib.hid (HBX.out.trans (hb2.mono HBX.out.size)); clear hR2 hb2; have HR1 := Lib.hid (Kd.R_below HRA.out HB2.out); have HN2 := Lib.hid (by rw [HNE.out, if_neg HE.out]; exact HR1.out : Kd.R k57 57 W2 w0.heap.size (fun _ => True) (.slice Aa cv.length ca) (cov (k + 1))); obtain ⟨fn, tmps, assign, body, hy, hR⟩ := HY.out pre ((.slice Aa cv.length ca : Value), (.slice Aa cv.length ca : Value)) W2 (abides_below HJ.out HJs.out HB2.out) ⟨by rw [HKK.out]; exact hlt, by rw [HKK.out, HCVK.out]; exact HR1.out, by rw [HKK.out]; exact HN2.out⟩; dsimp only at hy)
    refine hR.mono ?_
    rintro e3 W3 ⟨rfl, hJ3, hk3⟩
    have HJ3 := Lib.hid hJ3; have HK3 := Lib.hid hk3; clear hJ3 hk3
    gi_wp2
    go_roundw
    case rel => exact ⟨pre ++ [(.slice Aa cv.length ca, .slice Aa cv.length ca)], by rw [List.length_append, HKK.out]; exact hlt, by rw [List.length_append, HKK.out]; rfl, HJ3.out, by rw [List.length_append, HKK.out]; exact KpT.R HK3.out HN2.out, (HNX.out.trans (KpT.of_below HB2.out HBW.out.size)).trans HK3.out, Nat.le_trans (Nat.le_trans hsz HB2.out.size) HK3.out.1.size⟩
    case measure => simp [intOf]; omega
  ·have hpl : pre.length = l0.length := by omega
   have HPL := Lib.hid hpl
   have HJs := Lib.hid hJs; clear hJs hRa
   rw [hpl] at hk hlt ⊢
   clear hpl
   gi_wp2
   go_end0
   exact ⟨⟨_, rfl⟩, _, HPL.out, HJs.out⟩
theorem cv_call (v : Value) (w : World) (hv : v.oneCell' = true) : Calls Try.prog 27 #[v] w fun e w' => e = .returned (.func (.func 47) #[] #[.pointer (some ⟨w.heap.size, 0, none⟩)]) ∧ w.alloc (.cells #[v] 22) = w' := by
 go_enter Try.func27, Try.ntmps27
 go_wp2
 go_ret
 exact ⟨rfl, rfl⟩
/-- What was sent when n have been. -/
def cvs (K : Nat) (l : List S39) : Nat → Option (List S57)
 | 0 => some []
 | n + 1 => (cvs K l n).bind fun acc => (span_Add.f K acc (l.getD n z39).f2 (l.getD n z39).f3).map fun r => if r.2 = 0 then r.1 else acc
def cv_K (l : List S39) : Nat := 8 * l.length + 1000
def judge_Cover.f (l0 : List S39) : Option (List S57) := cvs (cv_K l0) l0 l0.length
theorem cvs_some {K : Nat} {l : List S39} : ∀ n {r : List S57}, cvs K l n = some r → ∀ m, m ≤ n → ∃ x, cvs K l m = some x
 | 0, r, h, m, hm => ⟨[], by rw [show m = 0 by omega]; rfl⟩
 | n + 1, r, h, m, hm => by
  rcases Nat.lt_or_ge m (n + 1) with h1 | h1
  ·cases hc : cvs K l n with
   | none => rw [cvs, hc] at h; cases h
   | some x => exact cvs_some n hc m (by omega)
  ·obtain rfl : m = n + 1 := by omega
   exact ⟨_, h⟩
theorem cvs_cov {K : Nat} {l : List S39} {r : List S57} (h : cvs K l l.length = some r) : Cov l (fun n => (cvs K l n).getD []) ∧ (cvs K l l.length).getD [] = r := by
 refine ⟨⟨rfl, fun k hk => ?_⟩, by rw [h]; rfl⟩
 obtain ⟨x, hx⟩ := cvs_some _ h k (by omega)
 obtain ⟨y, hy⟩ := cvs_some _ h (k + 1) (by omega)
 have hg : l.getD k z39 = l[k] := by rw [List.getD_eq_getElem?_getD, List.getElem?_eq_getElem hk]; rfl
 have hy' := hy
 rw [cvs, hx, Option.bind_some, hg] at hy
 cases ha : span_Add.f K x l[k].f2 l[k].f3 with
 | none => rw [ha] at hy; cases hy
 | some q =>
  rw [ha] at hy
  refine ⟨K, q.1, q.2, ?_, ?_⟩
  ·show span_Add.f K ((cvs K l k).getD []) _ _ = _
   rw [hx]; exact ha
  ·show (cvs K l (k + 1)).getD [] = if q.2 = 0 then q.1 else (cvs K l k).getD []
   rw [hy', hx]; exact (Option.some.inj hy).symm
def CvI (w : World) (cov : Nat → List S57) (pre : List (Value × Value)) (W : World) : Prop :=
 ∃ v, W.heap[w.heap.size]? = some (.cells #[v] 28 (0, 0)) ∧ Kd.R k57 57 W w.heap.size (fun _ => True) v (cov pre.length) ∧ Below w.heap.size w W ∧ w.heap.size + 1 + 1 ≤ W.heap.size
theorem CvI.grown {w W W' : World} {cov : Nat → List S57} {pre : List (Value × Value)} {row : Option Nat} (h : CvI w cov pre W) (hg : W.grownBy W' row) (hr : ∀ r, row = some r → w.heap.size ≤ r ∧ ∃ o : Obj, W.heap[r]? = some o ∧ o.isCells = false) : CvI w cov pre W' := by
 obtain ⟨v, h1, h3, h4, h5⟩ := h
 exact ⟨v, blk_own h1 hg (fun r e => (hr r e).2), R_own' h3 hg (fun r e => (hr r e).2), h4.grown hg h4.size (fun r e => (hr r e).1), Nat.le_trans h5 hg.size⟩
theorem cv_ne {q : Nat} (hq : q ∈ 57 :: (k57).E) : q ≠ 28 := by
 have e : q = 57 := by simpa [k57, Kd.iso, Kd.pair, Kd.int, Kd.scalar] using hq
 subst e
 decide
theorem cv_put {w W : World} {cov : Nat → List S57} {pre : List (Value × Value)} {x : Value × Value} {C : Nat} (h : CvI w cov pre W) (hx : Kd.R k57 57 W w.heap.size (fun _ => True) x.2 (cov (pre.length + 1))) :
  KeepsFrom C W (W.setCell ⟨w.heap.size, 0, none⟩ x.2) ∧ KpT w.heap.size W (W.setCell ⟨w.heap.size, 0, none⟩ x.2) ∧ CvI w cov (pre ++ [x]) (W.setCell ⟨w.heap.size, 0, none⟩ x.2) := by
 obtain ⟨v, h1, h3, h4, h5⟩ := h
 refine ⟨(KeepsOthers.setCell _ _ _).from _, ⟨(Below.refl _ W).setCell (p := ⟨w.heap.size, 0, none⟩) (Nat.le_refl _) _, fun b cs t ht ho => ?_⟩, x.2, gp_put1 h1, ?_, h4.setCell (p := ⟨w.heap.size, 0, none⟩) (Nat.le_refl _) _, Nat.le_trans h5 (((Below.refl _ W).setCell (p := ⟨w.heap.size, 0, none⟩) (Nat.le_refl _) _ : Below w.heap.size W _).size)⟩
 ·refine heap_set ho (fun e => ?_)
  have e : b = w.heap.size := e
  rw [e, h1] at ho
  injection ho with ho
  injection ho with _ ho
  rcases ht with rfl | rfl <;> cases ho
 ·rw [List.length_append]
  exact Kd.R_set hx h1 (fun q hq => cv_ne hq) 0 _
set_option maxRecDepth 100000 in
set_option maxHeartbeats 8000000 in
theorem judge_Cover.calls (A0 : Option Addr) (c0 : Nat) (l0 : List S39) (r : List S57) (w : World) (hr0 : Kd.C k39 w A0 l0.length l0) (hc0 : l0.length ≤ c0) (h : judge_Cover.f l0 = some r) :
  Calls Try.prog 12 #[.slice A0 l0.length c0] w fun e w' => ∃ v0_ : Value, e = .returned v0_ ∧ Kd.R k57 57 w' w.heap.size (fun _ => True) v0_ r ∧ Below w.heap.size w w' := by
 obtain ⟨hcov, hr⟩ := cvs_cov h
 obtain ⟨cov, hcv⟩ : ∃ cov : Nat → List S57, (fun n => (cvs (cv_K l0) l0 n).getD []) = cov := ⟨_, rfl⟩
 rw [hcv] at hcov
 have hr : cov l0.length = r := by rw [← hcv]; exact hr
 subst hr
 have HCV := Lib.hid hcov
 have HC := Lib.hid hr0
 clear h hcv hcov hr0
 refine callsIn_wide (n := 9).1 ?_
 refine callsIn_of_wp_marks Try.func12 rfl trivial ?_ rfl
 refine wpIn_wide.2 ?_
 simp only [Try.ntmps12, List.size_toArray, List.length_cons, List.length_nil, Nat.reduceAdd, Nat.reduceSub, Array.replicate_succ, Array.replicate_zero, List.push_toArray, List.append_toArray, List.nil_append, List.cons_append]
 go_wp2_with ((go_at_call 27; refine (cv_call _ _ rfl).mono ?_; rintro e w3 ⟨rfl, hw'⟩))
 try simp only [World.size_alloc]
 obtain ⟨W0, hW0⟩ : ∃ W0, ((w.alloc (.cells #[.slice none 0 0] 28)).alloc (.cells #[.slice A0 l0.length c0] 22)) = W0 := ⟨_, rfl⟩
 have hs1 : (w.alloc (.cells #[.slice none 0 0] 28)).heap.size = w.heap.size + 1 := World.size_alloc _ _
 have hb0 : W0.heap[w.heap.size]? = some (.cells #[.slice none 0 0] 28 (0, 0)) := by rw [← hW0]; exact blk_alloc (blk_new w _) _
 have hb1 : W0.heap[w.heap.size + 1]? = some (.cells #[.slice A0 l0.length c0] 22 (0, 0)) := by rw [← hW0]; have h := blk_new (w.alloc (.cells #[.slice none 0 0] 28)) (.cells #[.slice A0 l0.length c0] 22); rwa [hs1] at h
 have hb2 : W0.heap.size = w.heap.size + 1 + 1 := by rw [← hW0, World.size_alloc, hs1]
 have hb3 : Below w.heap.size w W0 := by rw [← hW0]; exact below_alloc (below_alloc (Below.refl _ _) _) _
 rw [hW0] at hw'
 subst hw'
 have HI0 := Lib.hid (show CvI w cov [] W0 from ⟨_, hb0, by rw [show cov ([] : List (Value × Value)).length = [] from HCV.out.1]; exact Kd.R_nil _ _ _ _ _, hb3, Nat.le_of_eq hb2.symm⟩)
 have HB3 := Lib.hid hb3; have HB1 := Lib.hid hb1; have HB2 := Lib.hid hb2
 clear hW0 hs1 hb0 hb1 hb2 hb3
 refine wpIn_wide (n := 9).1 ?_
 refine range_tells (α := Value × Value) (encs := fun x => #[x.1, x.2]) (Kp := KpT w.heap.size) (G := fun pre x W => pre.length < l0.length ∧ Kd.R k57 57 W w.heap.size (fun _ => True) x.1 (cov pre.length) ∧ Kd.R k57 57 W w.heap.size (fun _ => True) x.2 (cov (pre.length + 1))) (S := fun ys => ys.length = l0.length)
  (by omega) (gf := 47) (lb := #[.pointer (some ⟨w.heap.size + 1, 0, none⟩)]) rfl (enters_of Try.func47 (by kernel_rfl) rfl)
  (cv_tells 8 (by omega) (w.heap.size + 1) A0 c0 l0 cov HCV.out w W0 HB1.out HC.out HB3.out)
  KpT.trans (KpT.put HB3.out.size) (fun _ => rfl)
  (fun pre W => CvI w cov pre W) (fun s A B row hs hg hr => hs.grown hg (fun r e => ⟨Nat.le_trans HB3.out.size (hr r e).1, (hr r e).2⟩)) HI0.out
  (fun pre x a' W => a' = { tmps := #[.slice A0 l0.length c0, undef, .slice none 0 0, .pointer (some ⟨w.heap.size, 0, none⟩), undef, x.2, .slice A0 l0.length c0, .func (.func 47) #[] #[.pointer (some ⟨w.heap.size + 1, 0, none⟩)], x.1, x.2, undef, undef], defers := [] } ∧ Kd.R k57 57 W w.heap.size (fun _ => True) x.2 (cov (pre.length + 1)))
  (fun pre x a' s A B row hs hg hr => ⟨hs.1, R_own' hs.2 hg (fun r e => (hr r e).2)⟩) ?assign ?body ?done
 case assign =>
  intro l pre x W K hI hG hK
  gi_wp2
  exact hK _ _ (KeepsFrom.refl _ _) (KpT.refl _ _) hI ⟨rfl, hG.2.2⟩
 case body =>
  rintro l pre ⟨x1, x2⟩ a' W hI ⟨rfl, hx⟩
  dsimp only at hx
  obtain ⟨A9, c9, rfl⟩ := Kd.R_slice hx
  have HI := Lib.hid hI; have HX := Lib.hid hx
  obtain ⟨v, h1, h3, h4, h5⟩ := hI
  have k0 := (blk_cell h1 0).trans rfl
  have kf := blk_frozen h1 0
  clear h1 h3 h4 h5 hx
  refine wpIn_block ?_
  refine list_r (by rintro ⟨_, _, h⟩; exact h) (by rfl) ?_
  go_wp2
  exact cv_put (x := (x1, .slice A9 (cov (pre.length + 1)).length c9)) HI.out HX.out
 case done =>
  rintro D ys W hD hys hI hK
  have HI := Lib.hid hI; have HK := Lib.hid hK
  obtain ⟨v, h1, h3, h4, h5⟩ := hI
  rw [hys] at h3
  have k0 := (blk_cell h1 0).trans rfl
  have H3 := Lib.hid h3; have H4 := Lib.hid h4
  clear h1 h3 h4 h5 hK hys
  simp only [Exit.inBlock, Exit.then]
  go_wp2
  refine ⟨by simp, .inl ⟨_, _, rfl, run_takeDeferred HK.out, ?_⟩⟩
  exact ⟨_, results_tmp rfl _ _ _, _, rfl, R_own' H3.out (grownBy_putObj' W D (.deferred none)) (fun r e => by cases e; exact ⟨_, HK.out, rfl⟩), H4.out.grown (grownBy_putObj' W D (.deferred none)) H4.out.size (fun r e => by cases e; exact Nat.le_trans HB3.out.size hD)⟩
end

end Go.Proofs.Ytflmfbcapccdeaa.PA

/- A path that delivers evenly is sampled at its rate. -/
import Derived.Lib.Hide
import Derived.Deep.RegionHeld3
import Derived.Deep.CutRange
import Derived.Deep.QuietTactic
import Derived.IntWalk
import Derived.Deep.LoopGhost
import Derived.Test.YtbdomghfgaceaaaRateEvenF
import Derived.Test.YtbdomghfgaceaaaRateWin
set_option linter.unusedVariables false
set_option linter.unusedSimpArgs false
set_option autoImplicit false
namespace Go.Proofs.Ytbdomghfgaceaaa.Pure
open Go.RowKit Go.Proofs.Ytbdomghfgaceaaa.PA Go.Proofs.YtbdomghfgaceaaaW.PrintWords Go.Proofs.YtbdomghfgaceaaaW.PrintLast Go.Proofs.YtbdomghfgaceaaaW.PrintMore Go.Proofs.Ytbdomghfgaceaaa.RateFacts Go.Proofs.Ytbdomghfgaceaaa.RateEvenF Go.Proofs.Ytbdomghfgaceaaa.RateWin
def Hold (p : Prop) : Prop := p
theorem hold_of {p : Prop} (h : Hold p) : p := h
def rs (s g : Int) (D : Nat) : Nat → Nat → List Value
  | _, 0 => []
  | a, m + 1 => xv (ev_x s g D a) ++ rs s g D (a + 1) m
theorem rs_snoc (s g : Int) (D a m : Nat) : rs s g D a m ++ xv (ev_x s g D (a + m)) = rs s g D a (m + 1) := by
  induction m generalizing a with
  | zero => simp [rs]
  | succ m ih =>
    rw [rs, List.append_assoc, show a + (m + 1) = a + 1 + m by omega, ih, ← rs]
def qv (q : R) : Array Value := #[.int .i64 q.f0, .int .i64 q.f1, .int .i64 q.f2, .int .i64 q.f3]
theorem set4 {W : World} {B : Nat} {t : TypeId} {a0 a1 a2 a3 : Value} (h : W.heap[B]? = some (.cells #[a0, a1, a2, a3] t (0, 0))) (x0 x1 x2 x3 : Value) : ((((W.setCell ⟨B, 0, none⟩ x0).setCell ⟨B, 1, none⟩ x1).setCell ⟨B, 2, none⟩ x2).setCell ⟨B, 3, none⟩ x3).heap[B]? = some (.cells #[x0, x1, x2, x3] t (0, 0)) := by
  have k := blk_set (blk_set (blk_set (blk_set h 0 x0) 1 x1) 2 x2) 3 x3
  simpa only [List.setIfInBounds_toArray, List.set_cons_zero, List.set_cons_succ] using k
theorem set8 {W : World} {B : Nat} {t : TypeId} {a0 a1 a2 a3 a4 a5 a6 a7 : Value} (h : W.heap[B]? = some (.cells #[a0, a1, a2, a3, a4, a5, a6, a7] t (0, 0))) (x0 x1 x2 x3 x4 x5 x6 x7 : Value) : ((((((((W.setCell ⟨B, 0, none⟩ x0).setCell ⟨B, 1, none⟩ x1).setCell ⟨B, 2, none⟩ x2).setCell ⟨B, 3, none⟩ x3).setCell ⟨B, 4, none⟩ x4).setCell ⟨B, 5, none⟩ x5).setCell ⟨B, 6, none⟩ x6).setCell ⟨B, 7, none⟩ x7).heap[B]? = some (.cells #[x0, x1, x2, x3, x4, x5, x6, x7] t (0, 0)) := by
  have k := blk_set (blk_set (blk_set (blk_set (blk_set (blk_set (blk_set (blk_set h 0 x0) 1 x1) 2 x2) 3 x3) 4 x4) 5 x5) 6 x6) 7 x7
  simpa only [List.setIfInBounds_toArray, List.set_cons_zero, List.set_cons_succ] using k
theorem new_at {W : World} {n : Nat} (h : W.heap.size = n) (o : Obj) : (W.alloc o).heap[n]? = some o := by subst h; exact blk_new W o
theorem heap_far {W : World} {k : Nat} {p : Addr} (h : k ≠ p.block) (u : Value) : (W.setCell p u).heap[k]? = W.heap[k]? := Below.heap_setCell W p u k h
set_option maxHeartbeats 40000000 in
set_option maxRecDepth 100000 in
theorem even_in (s g d m : Int) (D n : Nat) (hs : 1 ≤ s ∧ s ≤ 10000) (hg : 1 ≤ g ∧ g ≤ 100000) (hD : 1 ≤ D ∧ D ≤ 50) (hn : 1 ≤ n ∧ n ≤ 60) (hd : d = (D : Int)) (hm : m = (n : Int)) (w : World) :
    Calls Try.prog 5 #[.int .i64 s, .int .i64 g, .int .i64 d, .int .i64 m] w fun e w' => e = .returned (.bool true) ∧ Below w.heap.size w w' := by
  have g1 : decide (s < 1) = false := decide_eq_false (by omega)
  have g2 : decide (10000 < s) = false := decide_eq_false (by omega)
  have g3 : decide (g < 1) = false := decide_eq_false (by omega)
  have g4 : decide (100000 < g) = false := decide_eq_false (by omega)
  have g5 : decide (d < 1) = false := decide_eq_false (by omega)
  have g6 : decide (50 < d) = false := decide_eq_false (by omega)
  have g7 : decide (m < 1) = false := decide_eq_false (by omega)
  have g8 : decide (60 < m) = false := decide_eq_false (by omega)
  have e1 : wrap64 (m + d) = m + d := w64 (by omega) (by omega)
  have HS := Lib.hid hs; have HG := Lib.hid hg; have HD := Lib.hid hD; have HN := Lib.hid hn; have Hd := Lib.hid hd; have Hm := Lib.hid hm
  clear hs hg hD hn hd hm
  obtain ⟨b, hb⟩ : ∃ b, w.heap.size = b := ⟨_, rfl⟩
  have HBQ := Lib.hid hb
  go_enter Try.func5, Try.ntmps5
  go_wp2_with fail
  go_loopg [10, 11] (n + D) (fun gk fl i wr => ∃ r : Nat, gk + r = n + D ∧ i = .int .i64 (r : Int) ∧ Hid (Win wr b fl (min r D) (rs s g D (r - D) (min r D))) ∧ Hid (wr.heap[b]? = some (.cells (qv (ev_q s g D r)) 23 (0, 0))) ∧ Hid (Below w.heap.size w wr))
  case atStart =>
    refine ⟨0, by omega, rfl, ?_, ?_, ?_⟩
    · show Win _ b _ (min 0 D) (rs s g D (0 - D) (min 0 D))
      rw [Nat.zero_min]
      exact Win.nil _ b
    · subst hb
      show _ = some (Obj.cells (qv (ev_q s g D 0)) 23 (0, 0))
      rw [show ev_q s g D 0 = ⟨0, 0, 0, 0⟩ from by rw [ev_q, if_pos (by omega)]]
      exact blk_new w _
    · exact below_alloc (Below.refl _ _) _
  case round =>
    obtain ⟨r, hr, rfl, HW, HQ, HB⟩ := hrel
    by_cases hlt : r < n + D
    · have HLT := Lib.hid hlt; have HR := Lib.hid hr; clear hr hlt
      obtain ⟨i, hi⟩ : ∃ i : Int, (r : Int) = i := ⟨_, rfl⟩
      obtain ⟨nw, hnw⟩ : ∃ nw : Int, i * g = nw := ⟨_, rfl⟩
      have hnb := mulb (r : Int) g (by omega) (by have := HLT.out; have := HN.out; have := HD.out; omega) (by have := HG.out; omega) (by have := HG.out; omega)
      rw [hi, hnw] at hnb
      have e2 : wrap64 (i * g) = nw := by rw [hnw]; exact w64 (by omega) (by omega)
      have c1 : decide (i < m + d) = true := decide_eq_true (by have := HLT.out; have := Hd.out; have := Hm.out; omega)
      rw [hi]
      have HI := Lib.hid hi; have HNW := Lib.hid hnw; have HNB := Lib.hid hnb
      clear hi hnw hnb
      obtain ⟨bb, c2⟩ : ∃ bb, decide (d ≤ i) = bb := ⟨_, rfl⟩
      go_upto_if 63 with (fail)
      go_cut [10, 12] from 51 to 130 (fun fl a12 wx => a12 = .int .i64 nw ∧ ∃ a m2 : Nat, a + m2 = r ∧ Hid (Win wx b fl m2 (rs s g D a m2)) ∧ Hid (wx.heap[b]? = some (.cells (qv (ev_q s g D (r + 1))) 23 (0, 0))) ∧ Hid (Below w.heap.size w wx) ∧ a = r + 1 - D ∧ m2 + 1 = min (r + 1) D)
      case first =>
        cases bb with
        | false =>
          have hld : r < D := by have := of_decide_eq_false c2; have := Hd.out; have := HI.out; omega
          go_wp2
          go_meet
          case rel =>
            refine ⟨by first | rfl | (simp [e2]; done), 0, r, by omega, ?_, ?_, HB, by omega, by omega⟩
            · have h1 : min r D = r := by omega
              have h2 : r - D = 0 := by omega
              have h3 := HW.out
              rw [h1, h2] at h3; exact h3
            · have h3 := HQ.out
              have e1 : ev_q s g D r = ⟨0, 0, 0, 0⟩ := by rw [ev_q, if_pos (by omega)]
              have e2 : ev_q s g D (r + 1) = ⟨0, 0, 0, 0⟩ := by rw [ev_q, if_pos (by omega)]
              rw [e1] at h3
              show _ = some (Obj.cells (qv (ev_q s g D (r + 1))) 23 (0, 0))
              rw [e2]; exact h3
        | true =>
          have hld : D ≤ r := by have := of_decide_eq_true c2; have := Hd.out; have := HI.out; omega
          obtain ⟨j, rfl⟩ : ∃ j, r = D + j := ⟨r - D, by omega⟩
          have HD' := HD.out; have HN' := HN.out; have HLT' := HLT.out
          have hw1 : Win wr b u10 (D - 1 + 1) (xv (ev_x s g D j) ++ rs s g D (j + 1) (D - 1)) := by
            have h3 := HW.out
            rw [show min (D + j) D = D - 1 + 1 by omega, show D + j - D = j by omega] at h3
            exact h3
          obtain ⟨ao, cap, rfl⟩ : ∃ ao cap, u10 = .slice ao (D - 1 + 1) cap := by
            obtain ⟨ao, _, _, cap, e, _⟩ := hw1
            exact ⟨ao, cap, e⟩
          obtain ⟨hcap, hrow⟩ := Win.first hw1
          have hw2 := Win.tail hw1
          obtain ⟨u0, hu0, _, hsz, _⟩ := info_parts info33
          have cut1 := cut_to (P := Try.prog) 24 33 .i64 Try.underlying24 hu0 ao (D - 1 + 1) cap 1 (by omega) (by omega) (by have := hw1; obtain ⟨_, _, _, _, e, hc, _⟩ := this; cases e; exact hc.le)
          have cut2 := cut_from (P := Try.prog) 24 33 .i64 Try.underlying24 hu0 12 hsz ao (D - 1 + 1) cap 1 (by omega) (by omega)
          rw [show (1 : Int).toNat = 1 from rfl] at cut1 cut2
          obtain ⟨ao2, hao2⟩ : ∃ a : Option Addr, (if cap = 1 then ao else ao.map (·.add 12)) = a := ⟨_, rfl⟩
          rw [hao2] at hw2
          rw [Nat.one_mul, hao2, Nat.add_sub_cancel] at cut2
          have HCUT2 := Lib.hid cut2; clear cut2 hao2
          have HROW := Lib.hid hrow; have HW2 := Lib.hid hw2; clear hw1 hw2 hrow
          have HCAP := Lib.hid hcap; clear hcap
          obtain ⟨rt, bfr, hgv, hrt⟩ := ev_given s g D j HS.out HG.out HD' (by omega)
          rw [HI.out, HNW.out, ← Hd.out] at hgv
          obtain ⟨dg, hdg⟩ : ∃ x : Int, d * g = x := ⟨_, rfl⟩
          have hdb := mulb (D : Int) g (by omega) (by omega) (by have := HG.out; omega) (by have := HG.out; omega)
          rw [← Hd.out, hdg] at hdb
          rw [hdg] at hgv
          have e3 : wrap64 (d * g) = dg := by rw [hdg]; exact w64 (by omega) (by omega)
          have e4 : wrap64 (2 * d) = 2 * d := w64 (by have := Hd.out; omega) (by have := Hd.out; omega)
          have e5 : wrap64 (2 * d + 1) = 2 * d + 1 := w64 (by have := Hd.out; omega) (by have := Hd.out; omega)
          have e6 : wrap64 (s * 1000000) = s * 1000000 := w64 (by have := HS.out; omega) (by have := HS.out; omega)
          clear hdb hdg
          have KG := Lib.hid (fun (W : World) (hB : Below wr.heap.size wr W) => show Calls Try.prog 7 #[_, .slice ao 1 cap, _, _] W _ from rate_Given.calls _ _ _ _ ao cap [ev_x s g D j] nw 0 _ _ _ _ _ _ _ _ _ _ _ _ _ W (Kd.C_below HROW.out hB) HCAP.out hgv)
          have hq := HQ.out
          have p0 := (blk_cell hq 0).trans rfl; have p1 := (blk_cell hq 1).trans rfl; have p2 := (blk_cell hq 2).trans rfl; have p3 := (blk_cell hq 3).trans rfl
          have HRT := Lib.hid hrt
          clear hq hgv hrt HD' HN' HLT' hld
          have KS := Lib.hid (fun (W : World) (hB : Below wr.heap.size wr W) => show W.cell? ⟨b, 0, none⟩ = some (.int .i64 (ev_q s g D (D + j)).f0) ∧ W.cell? ⟨b, 1, none⟩ = some (.int .i64 (ev_q s g D (D + j)).f1) ∧ W.cell? ⟨b, 2, none⟩ = some (.int .i64 (ev_q s g D (D + j)).f2) ∧ W.cell? ⟨b, 3, none⟩ = some (.int .i64 (ev_q s g D (D + j)).f3) from ⟨(blk_cell (blk_below HQ.out hB) 0).trans rfl, (blk_cell (blk_below HQ.out hB) 1).trans rfl, (blk_cell (blk_below HQ.out hB) 2).trans rfl, (blk_cell (blk_below HQ.out hB) 3).trans rfl⟩)
          go_upto_region 10 with (fail)
          go_cut [12, 13, 14, 15] from 51 to 130 (fun a12 a13 a14 a15 wy => a12 = .int .i64 nw ∧ ∃ B13 B14 : Nat, a13 = .pointer (some ⟨B13, 0, none⟩) ∧ a14 = .pointer (some ⟨B14, 0, none⟩) ∧ a15 = .int .i64 0 ∧ Hid (wy.heap[B13]? = some (.cells #[.int .i64 (ev_q s g D (D + j + 1)).f0, .int .i64 (ev_q s g D (D + j + 1)).f1, .int .i64 (ev_q s g D (D + j + 1)).f2, .int .i64 (ev_q s g D (D + j + 1)).f3] 23 (0, 0))) ∧ Hid (wy.heap[B14]? = some (.cells #[.int .i64 nw, .int .i64 s, .int .i64 dg, .int .i64 rt, .bool false, .int .i64 (ev_q s g D (D + j + 1)).f0, .int .i64 bfr, .int .i64 0] 26 (0, 0))) ∧ Hid (Below wr.heap.size wr wy) ∧ b < B13)
          case first =>
            go_region_held3 (fun W => W.cell? ⟨b, 0, none⟩ = some (.int .i64 (ev_q s g D (D + j)).f0) ∧ W.cell? ⟨b, 1, none⟩ = some (.int .i64 (ev_q s g D (D + j)).f1) ∧ W.cell? ⟨b, 2, none⟩ = some (.int .i64 (ev_q s g D (D + j)).f2) ∧ W.cell? ⟨b, 3, none⟩ = some (.int .i64 (ev_q s g D (D + j)).f3)) (exact KS.out _ (by repeat (first | with_reducible exact Below.refl _ _ | with_reducible apply below_alloc | with_reducible apply below_drew1 | (with_reducible refine below_set ?_ (by simp; try omega)) | (with_reducible refine below_step ?_ (by assumption))))) (first
              | (go_at_call 7; with_reducible refine (KG.out _ ?row).mono ?_; (case row => repeat (first | with_reducible exact Below.refl _ _ | with_reducible apply below_alloc | with_reducible apply below_drew1)); rintro e w1 ⟨rfl, hb⟩; (first
                | (have H1 := blk_below (blk_drew (blk_alloc (blk_new wr _) _)) hb; have H2 := blk_below (blk_drew (blk_nx (W := wr))) hb; have hl1 := blk_lt H1; have hl2 := blk_lt H2; have x0 := (blk_cell H1 0).trans rfl; have xf0 := blk_frozen H1 0; have x1 := (blk_cell H1 1).trans rfl; have xf1 := blk_frozen H1 1; have x2 := (blk_cell H1 2).trans rfl; have xf2 := blk_frozen H1 2; have x3 := (blk_cell H1 3).trans rfl; have xf3 := blk_frozen H1 3; have x4 := (blk_cell H1 4).trans rfl; have xf4 := blk_frozen H1 4; have x5 := (blk_cell H1 5).trans rfl; have xf5 := blk_frozen H1 5; have x6 := (blk_cell H1 6).trans rfl; have xf6 := blk_frozen H1 6; have x7 := (blk_cell H1 7).trans rfl; have xf7 := blk_frozen H1 7; have y0 := (blk_cell H2 0).trans rfl; have yf0 := blk_frozen H2 0; have y1 := (blk_cell H2 1).trans rfl; have yf1 := blk_frozen H2 1; have y2 := (blk_cell H2 2).trans rfl; have yf2 := blk_frozen H2 2; have y3 := (blk_cell H2 3).trans rfl; have yf3 := blk_frozen H2 3; have y4 := (blk_cell H2 4).trans rfl; have yf4 := blk_frozen H2 4; have y5 := (blk_cell H2 5).trans rfl; have yf5 := blk_frozen H2 5; have y6 := (blk_cell H2 6).trans rfl; have yf6 := blk_frozen H2 6; have y7 := (blk_cell H2 7).trans rfl; have yf7 := blk_frozen H2 7)
                | (have H1 := blk_below (blk_drew (blk_new wr _)) hb; have hl1 := blk_lt H1; have hn1 := Nat.ne_of_gt hl1; have hn2 := Nat.ne_of_lt hl1; have x0 := (blk_cell H1 0).trans rfl; have xf0 := blk_frozen H1 0; have x1 := (blk_cell H1 1).trans rfl; have xf1 := blk_frozen H1 1; have x2 := (blk_cell H1 2).trans rfl; have xf2 := blk_frozen H1 2; have x3 := (blk_cell H1 3).trans rfl; have xf3 := blk_frozen H1 3; have x4 := (blk_cell H1 4).trans rfl; have xf4 := blk_frozen H1 4; have x5 := (blk_cell H1 5).trans rfl; have xf5 := blk_frozen H1 5; have x6 := (blk_cell H1 6).trans rfl; have xf6 := blk_frozen H1 6; have x7 := (blk_cell H1 7).trans rfl; have xf7 := blk_frozen H1 7)
                | skip)))
            all_goals go_wp2
            all_goals go_meet
            next =>
              refine ⟨by first | rfl | (simp [e2]; done), _, _, rfl, rfl, rfl, ?_, ?_, ?_, ?_⟩
              · exact Lib.hid (blk_alloc (blk_new w1 _) _)
              · exact Lib.hid (blk_nx)
              · exact Lib.hid (below_alloc (below_alloc (below_step (below_drew1 (Below.refl _ wr)) hb) _) _)
              · exact Nat.lt_of_lt_of_le (blk_lt HQ.out) hb.size
            next =>
              refine ⟨by first | rfl | (simp [e2]; done), _, _, rfl, rfl, rfl, ?_, ?_, ?_, ?_⟩
              · exact Lib.hid (blk_nx)
              · exact Lib.hid (blk_alloc (blk_new w1 _) _)
              · exact Lib.hid (below_alloc (below_alloc (below_step (below_drew1 (Below.refl _ wr)) hb) _) _)
              · exact Nat.lt_succ_of_lt (Nat.lt_of_lt_of_le (blk_lt HQ.out) hb.size)
            next =>
              refine ⟨by first | rfl | (simp [e2]; done), _, _, rfl, rfl, rfl, ?_, ?_, ?_, ?_⟩
              · exact Lib.hid (blk_alloc (set4 H1 _ _ _ _) _)
              · exact Lib.hid (new_at (by simp) _)
              · exact Lib.hid (below_alloc (below_set (below_set (below_set (below_set (below_step (below_drew1 (below_alloc (Below.refl _ wr) _)) hb) (Nat.le_refl _)) (Nat.le_refl _)) (Nat.le_refl _)) (Nat.le_refl _)) _)
              · exact blk_lt HQ.out
            next =>
              refine ⟨by first | rfl | (simp [e2]; done), _, _, rfl, rfl, rfl, ?_, ?_, ?_, ?_⟩
              · exact Lib.hid (blk_far (blk_far (blk_far (blk_far (blk_far (blk_far (blk_far (blk_far (set4 H1 _ _ _ _) (Nat.ne_of_lt (Nat.lt_succ_self _)) _) (Nat.ne_of_lt (Nat.lt_succ_self _)) _) (Nat.ne_of_lt (Nat.lt_succ_self _)) _) (Nat.ne_of_lt (Nat.lt_succ_self _)) _) (Nat.ne_of_lt (Nat.lt_succ_self _)) _) (Nat.ne_of_lt (Nat.lt_succ_self _)) _) (Nat.ne_of_lt (Nat.lt_succ_self _)) _) (Nat.ne_of_lt (Nat.lt_succ_self _)) _)
              · exact Lib.hid (set8 (blk_far (blk_far (blk_far (blk_far (H2) (Nat.ne_of_gt (Nat.lt_succ_self _)) _) (Nat.ne_of_gt (Nat.lt_succ_self _)) _) (Nat.ne_of_gt (Nat.lt_succ_self _)) _) (Nat.ne_of_gt (Nat.lt_succ_self _)) _) _ _ _ _ _ _ _ _)
              · exact Lib.hid (below_set (below_set (below_set (below_set (below_set (below_set (below_set (below_set (below_set (below_set (below_set (below_set (below_step (below_drew1 (below_alloc (below_alloc (Below.refl _ wr) _) _)) hb) (Nat.le_refl _)) (Nat.le_refl _)) (Nat.le_refl _)) (Nat.le_refl _)) (Nat.le_succ _)) (Nat.le_succ _)) (Nat.le_succ _)) (Nat.le_succ _)) (Nat.le_succ _)) (Nat.le_succ _)) (Nat.le_succ _)) (Nat.le_succ _))
              · exact blk_lt HQ.out
            next =>
              refine ⟨by first | rfl | (simp [e2]; done), _, _, rfl, rfl, rfl, ?_, ?_, ?_, ?_⟩
              · exact Lib.hid (new_at (by simp) _)
              · exact Lib.hid (blk_alloc (set8 H1 _ _ _ _ _ _ _ _) _)
              · exact Lib.hid (below_alloc (below_set (below_set (below_set (below_set (below_set (below_set (below_set (below_set (below_step (below_drew1 (below_alloc (Below.refl _ wr) _)) hb) (Nat.le_refl _)) (Nat.le_refl _)) (Nat.le_refl _)) (Nat.le_refl _)) (Nat.le_refl _)) (Nat.le_refl _)) (Nat.le_refl _)) (Nat.le_refl _)) _)
              · exact Nat.lt_of_lt_of_le (blk_lt HQ.out) (below_size (below_step (below_drew1 (below_alloc (Below.refl _ wr) _)) hb))
            next =>
              refine ⟨by first | rfl | (simp [e2]; done), _, _, rfl, rfl, rfl, ?_, ?_, ?_, ?_⟩
              · exact Lib.hid (blk_far (blk_far (blk_far (blk_far (blk_far (blk_far (blk_far (blk_far (set4 H2 _ _ _ _) (Nat.ne_of_gt (Nat.lt_succ_self _)) _) (Nat.ne_of_gt (Nat.lt_succ_self _)) _) (Nat.ne_of_gt (Nat.lt_succ_self _)) _) (Nat.ne_of_gt (Nat.lt_succ_self _)) _) (Nat.ne_of_gt (Nat.lt_succ_self _)) _) (Nat.ne_of_gt (Nat.lt_succ_self _)) _) (Nat.ne_of_gt (Nat.lt_succ_self _)) _) (Nat.ne_of_gt (Nat.lt_succ_self _)) _)
              · exact Lib.hid (set8 (blk_far (blk_far (blk_far (blk_far (H1) (Nat.ne_of_lt (Nat.lt_succ_self _)) _) (Nat.ne_of_lt (Nat.lt_succ_self _)) _) (Nat.ne_of_lt (Nat.lt_succ_self _)) _) (Nat.ne_of_lt (Nat.lt_succ_self _)) _) _ _ _ _ _ _ _ _)
              · exact Lib.hid (below_set (below_set (below_set (below_set (below_set (below_set (below_set (below_set (below_set (below_set (below_set (below_set (below_step (below_drew1 (below_alloc (below_alloc (Below.refl _ wr) _) _)) hb) (Nat.le_succ _)) (Nat.le_succ _)) (Nat.le_succ _)) (Nat.le_succ _)) (Nat.le_refl _)) (Nat.le_refl _)) (Nat.le_refl _)) (Nat.le_refl _)) (Nat.le_refl _)) (Nat.le_refl _)) (Nat.le_refl _)) (Nat.le_refl _))
              · exact Nat.lt_succ_of_lt (blk_lt HQ.out)
          case rest =>
            obtain ⟨rfl, B13, B14, rfl, rfl, rfl, H13, H14, HBc, hb13⟩ := hcut
            have hqc := blk_below HQ.out HBc.out
            have hne := Nat.ne_of_lt hb13
            have hne' := Nat.ne_of_gt hb13
            have x0 := (blk_cell H13.out 0).trans rfl; have x1 := (blk_cell H13.out 1).trans rfl; have x2 := (blk_cell H13.out 2).trans rfl; have x3 := (blk_cell H13.out 3).trans rfl
            have y1 := (blk_cell H14.out 1).trans rfl; have y2 := (blk_cell H14.out 2).trans rfl; have y3 := (blk_cell H14.out 3).trans rfl
            have z0 : wc.cell? ⟨b, 0, none⟩ = some (.int .i64 (ev_q s g D (D + j)).f0) := (blk_cell hqc 0).trans rfl
            have z1 : wc.cell? ⟨b, 1, none⟩ = some (.int .i64 (ev_q s g D (D + j)).f1) := (blk_cell hqc 1).trans rfl
            have z2 : wc.cell? ⟨b, 2, none⟩ = some (.int .i64 (ev_q s g D (D + j)).f2) := (blk_cell hqc 2).trans rfl
            have z3 : wc.cell? ⟨b, 3, none⟩ = some (.int .i64 (ev_q s g D (D + j)).f3) := (blk_cell hqc 3).trans rfl
            have zf0 := blk_frozen hqc 0; have zf1 := blk_frozen hqc 1; have zf2 := blk_frozen hqc 2; have zf3 := blk_frozen hqc 3
            have HQC := Lib.hid hqc; clear hqc
            have cut2 := HCUT2.out
            have w1' : IntKind.i64.wrap (2 * d) = 2 * d := IntWalk.i64_in _ (by have := Hd.out; have := HD.out; omega)
            have w2' : IntKind.i64.wrap (2 * d + 1) = 2 * d + 1 := IntWalk.i64_in _ (by have := Hd.out; have := HD.out; omega)
            have w3' : IntKind.i64.wrap (s * 1000000) = s * 1000000 := IntWalk.i64_in _ (by have := HS.out; omega)
            have w4' : IntKind.i64.wrap ((s * 1000000).tdiv g) = s * 1000000 / g := IntWalk.i64_quo _ _ (by have := HS.out; have := HG.out; omega)
            have hg0 : ¬ g = 0 := by have := HG.out; omega
            obtain ⟨b2, c3⟩ : ∃ b2, decide (2 * d + 1 ≤ i) = b2 := ⟨_, rfl⟩
            have hrt2 : b2 = true → rt = s * 1000000 / g := by
              intro h
              subst h
              have h1 := of_decide_eq_true c3
              have h2 := Hd.out; have h3 := HI.out
              exact HRT.out (by omega)
            cases b2 with
            | false =>
              clear hrt2
              go_upto_region 13 with (fail)
              go_quiet (fail)
              go_wp2
              go_meet
              case rel =>
                have hq4 : (wc.drewN nq).heap[b]? = some (.cells #[.int .i64 (ev_q s g D (D + j)).f0, .int .i64 (ev_q s g D (D + j)).f1, .int .i64 (ev_q s g D (D + j)).f2, .int .i64 (ev_q s g D (D + j)).f3] 23 (0, 0)) := HQC.out
                have hd1 := HD.out
                refine ⟨by first | rfl | (simp [e2]; done), j + 1, D - 1, by omega, ?_, ?_, ?_, by omega, by omega⟩
                · exact Lib.hid (HW2.out.keep (fun k h1 h2 => (heap_far (Nat.ne_of_gt h1) _).trans ((heap_far (Nat.ne_of_gt h1) _).trans ((heap_far (Nat.ne_of_gt h1) _).trans ((heap_far (Nat.ne_of_gt h1) _).trans (HBc.out.block k h2))))))
                · exact Lib.hid (set4 hq4 _ _ _ _)
                · exact Lib.hid (below_set (below_set (below_set (below_set (pw_below_drewN (below_step HB.out HBc.out) nq) (Nat.le_of_eq HBQ.out)) (Nat.le_of_eq HBQ.out)) (Nat.le_of_eq HBQ.out)) (Nat.le_of_eq HBQ.out))
            | true =>
              have hrt3 := hrt2 rfl
              subst hrt3
              clear hrt2
              go_upto_region 13 with (fail)
              go_quiet (fail)
              go_wp2
              go_meet
              case rel =>
                have hq4 : (wc.drewN nq).heap[b]? = some (.cells #[.int .i64 (ev_q s g D (D + j)).f0, .int .i64 (ev_q s g D (D + j)).f1, .int .i64 (ev_q s g D (D + j)).f2, .int .i64 (ev_q s g D (D + j)).f3] 23 (0, 0)) := HQC.out
                have hd1 := HD.out
                refine ⟨by first | rfl | (simp [e2]; done), j + 1, D - 1, by omega, ?_, ?_, ?_, by omega, by omega⟩
                · exact Lib.hid (HW2.out.keep (fun k h1 h2 => (heap_far (Nat.ne_of_gt h1) _).trans ((heap_far (Nat.ne_of_gt h1) _).trans ((heap_far (Nat.ne_of_gt h1) _).trans ((heap_far (Nat.ne_of_gt h1) _).trans (HBc.out.block k h2))))))
                · exact Lib.hid (set4 hq4 _ _ _ _)
                · exact Lib.hid (below_set (below_set (below_set (below_set (pw_below_drewN (below_step HB.out HBc.out) nq) (Nat.le_of_eq HBQ.out)) (Nat.le_of_eq HBQ.out)) (Nat.le_of_eq HBQ.out)) (Nat.le_of_eq HBQ.out))
      case rest =>
        obtain ⟨rfl, a, m2, ham, HW3, HQ3, HB3, ha, hm2⟩ := hcut
        clear HW HQ HB
        have HW := HW3; have HQ := HQ3; have HB := HB3; clear HW3 HQ3 HB3
        have HA := Lib.hid ham; have HA2 := Lib.hid ha; have HM2 := Lib.hid hm2
        clear ham ha hm2
        have hD1 := HD.out; have hN1 := HN.out; have hlt1 := HLT.out; have hs1 := HS.out; have hg1 := HG.out
        have hsb := mulb (r : Int) s (by omega) (by omega) (by omega) (by omega)
        have hsb2 := mulb ((r : Int) + 1) s (by omega) (by omega) (by omega) (by omega)
        obtain ⟨bz, hbz⟩ : ∃ bz : Bool, (i == 0) = bz := ⟨_, rfl⟩
        have hsn := ev_sent s g D r hs1 hg1 hD1 (by omega) bz (by rw [← hbz]; intro h; have := eq_of_beq h; have := HI.out; omega)
        obtain ⟨ps, hps⟩ : ∃ ps : Int, i * s = ps := ⟨_, rfl⟩
        obtain ⟨ps2, hps2⟩ : ∃ ps : Int, (i + 1) * s = ps := ⟨_, rfl⟩
        rw [HI.out, hps] at hsb
        rw [HI.out, hps2] at hsb2
        rw [HI.out, hps, hps2, HNW.out] at hsn
        have e7 : wrap64 (i * s) = ps := by rw [hps]; exact w64 (by omega) (by omega)
        have e8 : wrap64 (i + 1) = i + 1 := w64 (by have := HI.out; omega) (by have := HI.out; omega)
        have e9 : wrap64 ((i + 1) * s) = ps2 := by rw [hps2]; exact w64 (by omega) (by omega)
        have hbz' : decide (i = 0) = bz := by rw [← hbz]; rfl
        have HSN := Lib.hid hsn
        have HXE := Lib.hid (show xv (ev_x s g D r) = [.int .i64 ps, .int .i64 ps2, .bool false, .int .i64 nw, .int .i64 1, .bool false, .bool false, .bool false, .int .i64 (ev_q s g D (r + 1)).f0, .int .i64 (ev_q s g D (r + 1)).f1, .int .i64 (ev_q s g D (r + 1)).f2, .bool false] from by
          unfold xv ev_x
          rw [HI.out, hps, hps2, HNW.out])
        clear hsn hsb hsb2 hD1 hN1 hlt1 hs1 hg1 hps hps2
        obtain ⟨ao, cap, rfl⟩ : ∃ ao cap, u10 = .slice ao m2 cap := by
          obtain ⟨ao, _, _, cap, e, _⟩ := HW.out
          exact ⟨ao, cap, e⟩
        have z0 : wc.cell? ⟨b, 0, none⟩ = some (.int .i64 (ev_q s g D (r + 1)).f0) := (blk_cell HQ.out 0).trans rfl
        have z1 : wc.cell? ⟨b, 1, none⟩ = some (.int .i64 (ev_q s g D (r + 1)).f1) := (blk_cell HQ.out 1).trans rfl
        have z2 : wc.cell? ⟨b, 2, none⟩ = some (.int .i64 (ev_q s g D (r + 1)).f2) := (blk_cell HQ.out 2).trans rfl
        have z3 : wc.cell? ⟨b, 3, none⟩ = some (.int .i64 (ev_q s g D (r + 1)).f3) := (blk_cell HQ.out 3).trans rfl
        go_wp2_with (first
          | (go_at_call 10; refine (rate_Sent.calls 9 _ _ _ _ _ _ _ _ _ _ _ _ _ _ _ _ _ _ _ _ _ _ _ _ _ _ _ _ _ _ _ _ _ _ _ _ HSN.out).mono ?_; rintro e w1 ⟨rfl, hb1⟩; have HB1 := Lib.hid hb1; have hb4 := blk_alloc (blk_alloc (blk_below HQ.out hb1) (.cells #[.int .i64 (ev_q s g D (r + 1)).f0, .int .i64 (ev_q s g D (r + 1)).f1, .int .i64 (ev_q s g D (r + 1)).f2, .int .i64 (ev_q s g D (r + 1)).f3] 23)) (.cells #[.int .i64 ps, .int .i64 ps2, .bool false, .int .i64 nw, .int .i64 1, .bool false, .bool false, .bool false, .int .i64 (ev_q s g D (r + 1)).f0, .int .i64 (ev_q s g D (r + 1)).f1, .int .i64 (ev_q s g D (r + 1)).f2, .bool false] 33); have v0 : ((w1.alloc (.cells #[.int .i64 (ev_q s g D (r + 1)).f0, .int .i64 (ev_q s g D (r + 1)).f1, .int .i64 (ev_q s g D (r + 1)).f2, .int .i64 (ev_q s g D (r + 1)).f3] 23)).alloc (.cells #[.int .i64 ps, .int .i64 ps2, .bool false, .int .i64 nw, .int .i64 1, .bool false, .bool false, .bool false, .int .i64 (ev_q s g D (r + 1)).f0, .int .i64 (ev_q s g D (r + 1)).f1, .int .i64 (ev_q s g D (r + 1)).f2, .bool false] 33)).cell? ⟨b, 0, none⟩ = some (.int .i64 (ev_q s g D (r + 1)).f0) := (blk_cell hb4 0).trans rfl; have v1 : ((w1.alloc (.cells #[.int .i64 (ev_q s g D (r + 1)).f0, .int .i64 (ev_q s g D (r + 1)).f1, .int .i64 (ev_q s g D (r + 1)).f2, .int .i64 (ev_q s g D (r + 1)).f3] 23)).alloc (.cells #[.int .i64 ps, .int .i64 ps2, .bool false, .int .i64 nw, .int .i64 1, .bool false, .bool false, .bool false, .int .i64 (ev_q s g D (r + 1)).f0, .int .i64 (ev_q s g D (r + 1)).f1, .int .i64 (ev_q s g D (r + 1)).f2, .bool false] 33)).cell? ⟨b, 1, none⟩ = some (.int .i64 (ev_q s g D (r + 1)).f1) := (blk_cell hb4 1).trans rfl; have v2 : ((w1.alloc (.cells #[.int .i64 (ev_q s g D (r + 1)).f0, .int .i64 (ev_q s g D (r + 1)).f1, .int .i64 (ev_q s g D (r + 1)).f2, .int .i64 (ev_q s g D (r + 1)).f3] 23)).alloc (.cells #[.int .i64 ps, .int .i64 ps2, .bool false, .int .i64 nw, .int .i64 1, .bool false, .bool false, .bool false, .int .i64 (ev_q s g D (r + 1)).f0, .int .i64 (ev_q s g D (r + 1)).f1, .int .i64 (ev_q s g D (r + 1)).f2, .bool false] 33)).cell? ⟨b, 2, none⟩ = some (.int .i64 (ev_q s g D (r + 1)).f2) := (blk_cell hb4 2).trans rfl; have v3 : ((w1.alloc (.cells #[.int .i64 (ev_q s g D (r + 1)).f0, .int .i64 (ev_q s g D (r + 1)).f1, .int .i64 (ev_q s g D (r + 1)).f2, .int .i64 (ev_q s g D (r + 1)).f3] 23)).alloc (.cells #[.int .i64 ps, .int .i64 ps2, .bool false, .int .i64 nw, .int .i64 1, .bool false, .bool false, .bool false, .int .i64 (ev_q s g D (r + 1)).f0, .int .i64 (ev_q s g D (r + 1)).f1, .int .i64 (ev_q s g D (r + 1)).f2, .bool false] 33)).cell? ⟨b, 3, none⟩ = some (.int .i64 (ev_q s g D (r + 1)).f3) := (blk_cell hb4 3).trans rfl; have vf0 := blk_frozen hb4 0; have vf1 := blk_frozen hb4 1; have vf2 := blk_frozen hb4 2; have vf3 := blk_frozen hb4 3; have hnb := Nat.ne_of_gt (Nat.lt_succ_of_lt (blk_lt (blk_below HQ.out hb1))); have hb5 : ((((((w1.alloc (.cells #[.int .i64 (ev_q s g D (r + 1)).f0, .int .i64 (ev_q s g D (r + 1)).f1, .int .i64 (ev_q s g D (r + 1)).f2, .int .i64 (ev_q s g D (r + 1)).f3] 23)).alloc (.cells #[.int .i64 ps, .int .i64 ps2, .bool false, .int .i64 nw, .int .i64 1, .bool false, .bool false, .bool false, .int .i64 (ev_q s g D (r + 1)).f0, .int .i64 (ev_q s g D (r + 1)).f1, .int .i64 (ev_q s g D (r + 1)).f2, .bool false] 33)).setCell ⟨b, 0, none⟩ (.int .i64 (ev_q s g D (r + 1)).f0)).setCell ⟨b, 1, none⟩ (.int .i64 (ev_q s g D (r + 1)).f1)).setCell ⟨b, 2, none⟩ (.int .i64 (ev_q s g D (r + 1)).f2)).setCell ⟨b, 3, none⟩ (.int .i64 (ev_q s g D (r + 1)).f3)).heap[w1.heap.size + 1]? = some (.cells #[.int .i64 ps, .int .i64 ps2, .bool false, .int .i64 nw, .int .i64 1, .bool false, .bool false, .bool false, .int .i64 (ev_q s g D (r + 1)).f0, .int .i64 (ev_q s g D (r + 1)).f1, .int .i64 (ev_q s g D (r + 1)).f2, .bool false] 33 (0, 0)) := blk_far (blk_far (blk_far (blk_far blk_nx hnb _) hnb _) hnb _) hnb _; have t0 := (blk_cell hb5 0).trans rfl; have t1 := (blk_cell hb5 1).trans rfl; have t2 := (blk_cell hb5 2).trans rfl; have t3 := (blk_cell hb5 3).trans rfl; have t4 := (blk_cell hb5 4).trans rfl; have t5 := (blk_cell hb5 5).trans rfl; have t6 := (blk_cell hb5 6).trans rfl; have t7 := (blk_cell hb5 7).trans rfl; have t8 := (blk_cell hb5 8).trans rfl; have t9 := (blk_cell hb5 9).trans rfl; have t10 := (blk_cell hb5 10).trans rfl; have t11 := (blk_cell hb5 11).trans rfl; have HB5 := Lib.hid hb5; have HB4 := Lib.hid hb4; clear hb5 hnb; clear hb4)
          | (at_builtin; refine hold_of ?_))
        have hbl := blk_lt HQ.out
        have hsz1 := HB1.out.size
        have kS : ((((((w1.alloc (.cells #[.int .i64 (ev_q s g D (r + 1)).f0, .int .i64 (ev_q s g D (r + 1)).f1, .int .i64 (ev_q s g D (r + 1)).f2, .int .i64 (ev_q s g D (r + 1)).f3] 23)).alloc (.cells #[.int .i64 ps, .int .i64 ps2, .bool false, .int .i64 nw, .int .i64 1, .bool false, .bool false, .bool false, .int .i64 (ev_q s g D (r + 1)).f0, .int .i64 (ev_q s g D (r + 1)).f1, .int .i64 (ev_q s g D (r + 1)).f2, .bool false] 33)).setCell ⟨b, 0, none⟩ (.int .i64 (ev_q s g D (r + 1)).f0)).setCell ⟨b, 1, none⟩ (.int .i64 (ev_q s g D (r + 1)).f1)).setCell ⟨b, 2, none⟩ (.int .i64 (ev_q s g D (r + 1)).f2)).setCell ⟨b, 3, none⟩ (.int .i64 (ev_q s g D (r + 1)).f3)).heap[b]? = some (.cells (qv (ev_q s g D (r + 1))) 23 (0, 0)) := set4 HB4.out _ _ _ _
        have bS : Below w.heap.size w ((((((w1.alloc (.cells #[.int .i64 (ev_q s g D (r + 1)).f0, .int .i64 (ev_q s g D (r + 1)).f1, .int .i64 (ev_q s g D (r + 1)).f2, .int .i64 (ev_q s g D (r + 1)).f3] 23)).alloc (.cells #[.int .i64 ps, .int .i64 ps2, .bool false, .int .i64 nw, .int .i64 1, .bool false, .bool false, .bool false, .int .i64 (ev_q s g D (r + 1)).f0, .int .i64 (ev_q s g D (r + 1)).f1, .int .i64 (ev_q s g D (r + 1)).f2, .bool false] 33)).setCell ⟨b, 0, none⟩ (.int .i64 (ev_q s g D (r + 1)).f0)).setCell ⟨b, 1, none⟩ (.int .i64 (ev_q s g D (r + 1)).f1)).setCell ⟨b, 2, none⟩ (.int .i64 (ev_q s g D (r + 1)).f2)).setCell ⟨b, 3, none⟩ (.int .i64 (ev_q s g D (r + 1)).f3)) := below_set (below_set (below_set (below_set (below_alloc (below_alloc (below_step HB.out HB1.out) _) _) (Nat.le_of_eq HBQ.out)) (Nat.le_of_eq HBQ.out)) (Nat.le_of_eq HBQ.out)) (Nat.le_of_eq HBQ.out)
        have wS : Win ((((((w1.alloc (.cells #[.int .i64 (ev_q s g D (r + 1)).f0, .int .i64 (ev_q s g D (r + 1)).f1, .int .i64 (ev_q s g D (r + 1)).f2, .int .i64 (ev_q s g D (r + 1)).f3] 23)).alloc (.cells #[.int .i64 ps, .int .i64 ps2, .bool false, .int .i64 nw, .int .i64 1, .bool false, .bool false, .bool false, .int .i64 (ev_q s g D (r + 1)).f0, .int .i64 (ev_q s g D (r + 1)).f1, .int .i64 (ev_q s g D (r + 1)).f2, .bool false] 33)).setCell ⟨b, 0, none⟩ (.int .i64 (ev_q s g D (r + 1)).f0)).setCell ⟨b, 1, none⟩ (.int .i64 (ev_q s g D (r + 1)).f1)).setCell ⟨b, 2, none⟩ (.int .i64 (ev_q s g D (r + 1)).f2)).setCell ⟨b, 3, none⟩ (.int .i64 (ev_q s g D (r + 1)).f3)) b (.slice ao m2 cap) m2 (rs s g D a m2) := HW.out.keep (fun k h1 h2 => (heap_far (Nat.ne_of_gt h1) _).trans ((heap_far (Nat.ne_of_gt h1) _).trans ((heap_far (Nat.ne_of_gt h1) _).trans ((heap_far (Nat.ne_of_gt h1) _).trans ((Below.heap_alloc _ _ k (by rw [World.size_alloc]; omega)).trans ((Below.heap_alloc w1 _ k (by omega)).trans (HB1.out.block k h2)))))))
        have zS : ((((((w1.alloc (.cells #[.int .i64 (ev_q s g D (r + 1)).f0, .int .i64 (ev_q s g D (r + 1)).f1, .int .i64 (ev_q s g D (r + 1)).f2, .int .i64 (ev_q s g D (r + 1)).f3] 23)).alloc (.cells #[.int .i64 ps, .int .i64 ps2, .bool false, .int .i64 nw, .int .i64 1, .bool false, .bool false, .bool false, .int .i64 (ev_q s g D (r + 1)).f0, .int .i64 (ev_q s g D (r + 1)).f1, .int .i64 (ev_q s g D (r + 1)).f2, .bool false] 33)).setCell ⟨b, 0, none⟩ (.int .i64 (ev_q s g D (r + 1)).f0)).setCell ⟨b, 1, none⟩ (.int .i64 (ev_q s g D (r + 1)).f1)).setCell ⟨b, 2, none⟩ (.int .i64 (ev_q s g D (r + 1)).f2)).setCell ⟨b, 3, none⟩ (.int .i64 (ev_q s g D (r + 1)).f3)).heap.size = w1.heap.size + 2 := by simp
        have HSN' := HSN; clear HSN'
        generalize ((((((w1.alloc (.cells #[.int .i64 (ev_q s g D (r + 1)).f0, .int .i64 (ev_q s g D (r + 1)).f1, .int .i64 (ev_q s g D (r + 1)).f2, .int .i64 (ev_q s g D (r + 1)).f3] 23)).alloc (.cells #[.int .i64 ps, .int .i64 ps2, .bool false, .int .i64 nw, .int .i64 1, .bool false, .bool false, .bool false, .int .i64 (ev_q s g D (r + 1)).f0, .int .i64 (ev_q s g D (r + 1)).f1, .int .i64 (ev_q s g D (r + 1)).f2, .bool false] 33)).setCell ⟨b, 0, none⟩ (.int .i64 (ev_q s g D (r + 1)).f0)).setCell ⟨b, 1, none⟩ (.int .i64 (ev_q s g D (r + 1)).f1)).setCell ⟨b, 2, none⟩ (.int .i64 (ev_q s g D (r + 1)).f2)).setCell ⟨b, 3, none⟩ (.int .i64 (ev_q s g D (r + 1)).f3)) = WS at kS bS wS zS ⊢
        have kN := blk_alloc kS (.cells #[.int .i64 ps, .int .i64 ps2, .bool false, .int .i64 nw, .int .i64 1, .bool false, .bool false, .bool false, .int .i64 (ev_q s g D (r + 1)).f0, .int .i64 (ev_q s g D (r + 1)).f1, .int .i64 (ev_q s g D (r + 1)).f2, .bool false] 33)
        have bN := below_alloc bS (.cells #[.int .i64 ps, .int .i64 ps2, .bool false, .int .i64 nw, .int .i64 1, .bool false, .bool false, .bool false, .int .i64 (ev_q s g D (r + 1)).f0, .int .i64 (ev_q s g D (r + 1)).f1, .int .i64 (ev_q s g D (r + 1)).f2, .bool false] 33)
        have wN : Win (WS.alloc (.cells #[.int .i64 ps, .int .i64 ps2, .bool false, .int .i64 nw, .int .i64 1, .bool false, .bool false, .bool false, .int .i64 (ev_q s g D (r + 1)).f0, .int .i64 (ev_q s g D (r + 1)).f1, .int .i64 (ev_q s g D (r + 1)).f2, .bool false] 33)) b (.slice ao m2 cap) m2 (rs s g D a m2) := wS.keep (fun k _ h2 => Below.heap_alloc WS _ k h2)
        have nN : (WS.alloc (.cells #[.int .i64 ps, .int .i64 ps2, .bool false, .int .i64 nw, .int .i64 1, .bool false, .bool false, .bool false, .int .i64 (ev_q s g D (r + 1)).f0, .int .i64 (ev_q s g D (r + 1)).f1, .int .i64 (ev_q s g D (r + 1)).f2, .bool false] 33)).heap[w1.heap.size + 2]? = some (.cells #[.int .i64 ps, .int .i64 ps2, .bool false, .int .i64 nw, .int .i64 1, .bool false, .bool false, .bool false, .int .i64 (ev_q s g D (r + 1)).f0, .int .i64 (ev_q s g D (r + 1)).f1, .int .i64 (ev_q s g D (r + 1)).f2, .bool false] 33 (0, 0)) := new_at zS _
        obtain ⟨u0, hu0, hz0, hsz, hby⟩ := info_parts info33
        have hm2b : m2 + 1 ≤ 50 := by have := HM2.out; have := HD.out; omega
        refine wpList_append_win _ rfl (.tmp 127) (.tmp 129) 24 rfl wN (blk_lt kN) u0 _ 80 Try.underlying24 hu0 hz0 hsz hby rfl rfl ⟨w1.heap.size + 2, 0, none⟩ _ (xv (ev_x s g D r)) rfl rfl (by
          intro j u hu
          rw [HXE.out] at hu
          rw [Addr.add_lit, Nat.zero_add]
          exact (blk_cell nN j).trans (by simpa using hu)) (by
          intro u hu
          simp only [xv, List.mem_cons, List.not_mem_nil, or_false] at hu
          rcases hu with rfl | rfl | rfl | rfl | rfl | rfl | rfl | rfl | rfl | rfl | rfl | rfl <;> rfl) (by show m2 + 1 ≤ 9223372036854775807; omega) (by omega) ?_
        intro v' w' hwin hgr
        obtain ⟨row, hgr, hrow⟩ := hgr
        go_wp2
        go_roundg (gk - 1)
        case measure => have := HR.out; have := HLT.out; omega
        case rel =>
          have hR := HR.out; have hL := HLT.out; have hA := HA.out; have hA2 := HA2.out; have hM2 := HM2.out
          refine ⟨r + 1, by omega, by rw [← HI.out, w64 (by have := HD.out; have := HN.out; omega) (by have := HD.out; have := HN.out; omega)]; rfl, ?_, ?_, ?_⟩
          · rw [← hA, rs_snoc] at hwin
            rw [hA2, hM2] at hwin
            have e5 : r + 1 - D = r + 1 - D := rfl
            exact Lib.hid (by rw [← hM2] at hwin ⊢; exact hwin)
          · exact Lib.hid ((hgr.block b (blk_lt kN) (fun e => absurd (hrow b e.symm) (Nat.lt_irrefl b))).trans kN)
          · exact Lib.hid (bN.grown hgr bN.size (fun k e => by have := hrow k e; have := HBQ.out; omega))
    · obtain rfl : r = n + D := by omega
      have c9 : decide (((n + D : Nat) : Int) < m + d) = false := decide_eq_false (by have := Hd.out; have := Hm.out; omega)
      have c8 : ((n + D : Nat) : Int) = m + d := by have := Hd.out; have := Hm.out; omega
      rw [c8]
      have c7 : decide (m + d < m + d) = false := decide_eq_false (by omega)
      go_wp2_with (go_at_call 8; refine (tidewaylaw17_heads.calls true _ rfl).mono ?_; rintro e W3 ⟨rfl, hb3⟩)
      go_ret
      exact ⟨rfl, below_step HB.out hb3⟩
set_option maxHeartbeats 40000000 in
set_option maxRecDepth 100000 in
theorem even_out (s g d m : Int) (w : World) (h : s < 1 ∨ 10000 < s ∨ g < 1 ∨ 100000 < g ∨ d < 1 ∨ 50 < d ∨ m < 1 ∨ 60 < m) :
    Calls Try.prog 5 #[.int .i64 s, .int .i64 g, .int .i64 d, .int .i64 m] w fun e w' => e = .returned (.bool true) ∧ Below w.heap.size w w' := by
  have HH := Lib.hid h
  clear h
  go_enter Try.func5, Try.ntmps5
  by_cases h0 : s < 1
  · have g0 : decide (s < 1) = true := decide_eq_true h0
    clear h0
    go_wp2_with (go_at_call 8; refine (tidewaylaw17_heads.calls true _ rfl).mono ?_; rintro e w4 ⟨rfl, hb4⟩)
    go_ret
    exact ⟨rfl, hb4⟩
  have g0 : decide (s < 1) = false := decide_eq_false h0
  by_cases h1 : 10000 < s
  · have g1 : decide (10000 < s) = true := decide_eq_true h1
    clear h1
    go_wp2_with (go_at_call 8; refine (tidewaylaw17_heads.calls true _ rfl).mono ?_; rintro e w4 ⟨rfl, hb4⟩)
    go_ret
    exact ⟨rfl, hb4⟩
  have g1 : decide (10000 < s) = false := decide_eq_false h1
  by_cases h2 : g < 1
  · have g2 : decide (g < 1) = true := decide_eq_true h2
    clear h2
    go_wp2_with (go_at_call 8; refine (tidewaylaw17_heads.calls true _ rfl).mono ?_; rintro e w4 ⟨rfl, hb4⟩)
    go_ret
    exact ⟨rfl, hb4⟩
  have g2 : decide (g < 1) = false := decide_eq_false h2
  by_cases h3 : 100000 < g
  · have g3 : decide (100000 < g) = true := decide_eq_true h3
    clear h3
    go_wp2_with (go_at_call 8; refine (tidewaylaw17_heads.calls true _ rfl).mono ?_; rintro e w4 ⟨rfl, hb4⟩)
    go_ret
    exact ⟨rfl, hb4⟩
  have g3 : decide (100000 < g) = false := decide_eq_false h3
  by_cases h4 : d < 1
  · have g4 : decide (d < 1) = true := decide_eq_true h4
    clear h4
    go_wp2_with (go_at_call 8; refine (tidewaylaw17_heads.calls true _ rfl).mono ?_; rintro e w4 ⟨rfl, hb4⟩)
    go_ret
    exact ⟨rfl, hb4⟩
  have g4 : decide (d < 1) = false := decide_eq_false h4
  by_cases h5 : 50 < d
  · have g5 : decide (50 < d) = true := decide_eq_true h5
    clear h5
    go_wp2_with (go_at_call 8; refine (tidewaylaw17_heads.calls true _ rfl).mono ?_; rintro e w4 ⟨rfl, hb4⟩)
    go_ret
    exact ⟨rfl, hb4⟩
  have g5 : decide (50 < d) = false := decide_eq_false h5
  by_cases h6 : m < 1
  · have g6 : decide (m < 1) = true := decide_eq_true h6
    clear h6
    go_wp2_with (go_at_call 8; refine (tidewaylaw17_heads.calls true _ rfl).mono ?_; rintro e w4 ⟨rfl, hb4⟩)
    go_ret
    exact ⟨rfl, hb4⟩
  have g6 : decide (m < 1) = false := decide_eq_false h6
  have g7 : decide (60 < m) = true := decide_eq_true (by have := HH.out; omega)
  clear h0 h1 h2 h3 h4 h5 h6
  go_wp2_with (go_at_call 8; refine (tidewaylaw17_heads.calls true _ rfl).mono ?_; rintro e w4 ⟨rfl, hb4⟩)
  go_ret
  exact ⟨rfl, hb4⟩
theorem RateEven_calls (s g d m : Int) (w : World) (h0 : (Lit.int .i64 s).wf = true) (h1 : (Lit.int .i64 g).wf = true) (h2 : (Lit.int .i64 d).wf = true) (h3 : (Lit.int .i64 m).wf = true) :
    Calls Try.prog 5 #[.int .i64 s, .int .i64 g, .int .i64 d, .int .i64 m] w fun e w' => e = .returned (.bool true) ∧ Below w.heap.size w w' := by
  by_cases h : s < 1 ∨ 10000 < s ∨ g < 1 ∨ 100000 < g ∨ d < 1 ∨ 50 < d ∨ m < 1 ∨ 60 < m
  · exact even_out s g d m w h
  · exact even_in s g d m d.toNat m.toNat (by omega) (by omega) (by omega) (by omega) (by omega) (by omega) w
end Go.Proofs.Ytbdomghfgaceaaa.Pure

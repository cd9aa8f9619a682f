/- A bit turned twice is as it was, and a doubled one taken is the first. -/
import Derived.Test.YtpmiiokoialbmaaNetTFacts
import Derived.WalkKit
import Derived.Lib.Hide
set_option linter.unusedVariables false
set_option linter.unusedSimpArgs false
set_option autoImplicit false
namespace Go.Proofs.Ytpmiiokoialbmaa.Pure
open Go.RowKit Go.Proofs.Ytpmiiokoialbmaa.PD Go.Proofs.YtpmiiokoialbmaaW.PrintWords Go.Proofs.YtpmiiokoialbmaaW.PrintLast Go.Proofs.YtpmiiokoialbmaaW.PrintMore Go.Proofs.Ytpmiiokoialbmaa.NetDFacts Go.Proofs.Ytpmiiokoialbmaa.NetTFacts
def Hold (p : Prop) : Prop := p
theorem hold_of {p : Prop} (h : Hold p) : p := h
theorem hold_mk {p : Prop} (h : p) : Hold p := h
theorem add_plain_ (b i : Nat) : (⟨b, 0, none⟩ : Addr).add i = ⟨b, i, none⟩ := by rw [Addr.add_lit, Nat.zero_add]
/-- A row of one datagram reads as that. -/
theorem one_row {w : World} {A : Option Addr} {m c b : Nat} {f : List Int} {t : Int} (hb : w.heap.size = b) (hm : f.length = m) (hl : m ≤ c) (h : Kd.C (Kd.int .u8) w A f.length f) :
    Kd.C k26 (w.alloc (.cells #[.slice A m c, .int .i64 t] 26)) (some ⟨b, 0, none⟩) ([⟨f, t⟩] : List D).length [⟨f, t⟩] := by
  subst hb; subst hm
  refine ⟨rfl, by simp, fun _ => ⟨_, rfl, fun j p hj => ?_⟩⟩
  match j, hj with
  | 0, hj =>
    obtain rfl : (⟨f, t⟩ : D) = p := by simpa using hj
    refine ⟨[.slice A f.length c, .int .i64 t], rfl, k26_mk _ (⟨f, t⟩ : D) hl (Kd.C_alloc h _), fun i u hu => ?_⟩
    match i, hu with
    | 0, hu =>
      obtain rfl : Value.slice A f.length c = u := by simpa using hu
      show (w.alloc _).cell? ((⟨w.heap.size, 0, none⟩ : Addr).add 0) = _
      rw [add_plain_]
      exact (blk_cell (blk_new w _) 0).trans rfl
    | 1, hu =>
      obtain rfl : Value.int .i64 t = u := by simpa using hu
      show (w.alloc _).cell? ((⟨w.heap.size, 0, none⟩ : Addr).add 1) = _
      rw [add_plain_]
      exact (blk_cell (blk_new w _) 1).trans rfl
set_option maxRecDepth 100000 in
set_option maxHeartbeats 8000000 in
theorem NetTwice_calls (A0 : Option Addr) (c0 : Nat) (l : List D) (a b : Int) (W : World) (hr0 : Kd.C k26 W A0 l.length l) (hc0 : l.length ≤ c0)
    (w0 : Wf l) (w1 : (Lit.int .i64 a).wf = true) (w2 : (Lit.int .i64 b).wf = true) :
    Calls Try.prog 6 #[.slice A0 l.length c0, .int .i64 a, .int .i64 b] W fun e W' => e = .returned (.bool true) ∧ Below W.heap.size W W' := by
  have hl := lim w0
  have hll : l.length < 4398046511100 := by simp only [net_lim, Bool.and_eq_true, decide_eq_true_eq] at hl; exact hl.1
  obtain ⟨m, e, hs1, hs2⟩ := twice l a b w0 (wf64 w2)
  obtain ⟨d, g, hd, hcase⟩ := doubled l a hl
  have sm : ∀ x : List D, x.length ≤ l.length + 1 → tidewayref05_Same.f (l.length + 20) x x = some true := fun x hx => same x (by omega) _ (by omega)
  have hh := heads (l.length + 20) (by omega)
  have Hl := Lib.hid hr0; clear hr0
  have Hs1 := Lib.hid hs1; clear hs1
  have Hd := Lib.hid hd; clear hd
  have Hsm := Lib.hid sm; clear sm
  have Hh := Lib.hid hh; clear hh
  have HB := Lib.hid (Below.refl W.heap.size W)
  clear w0 w1 w2 hl
  by_cases he : e = 0
  · subst he
    rcases hcase with ⟨hg, rfl⟩ | ⟨rfl, hg⟩
    · obtain ⟨hs3, hml, hs4⟩ := hs2 rfl
      have Hs3 := Lib.hid hs3; clear hs3
      have Hs4 := Lib.hid hs4; clear hs4 hs2
      have Hml := Lib.hid hml; clear hml
      have q2 : (g == 0) = false := beq_eq_false_iff_ne.mpr hg
      have q3 : (g != 0) = true := bne_iff_ne.mpr hg
      clear hg
      go_enter Try.func6, Try.ntmps6
      go_wp2_with (first | (go_at_call 20; refine hold_of ?_))
      refine hold_mk ?_
      refine (net_Spoil.calls A0 c0 l a b m 0 _ (by repeat (first | exact Hl | refine Kd.C_alloc ?_ _ | refine Kd.C_drewN ?_ _ | refine Kd.C_drew ?_)) hc0 Hs1).mono ?_
      rintro e_ W1 ⟨v, rfl, h, b1⟩
      have Hl' : Kd.C k26 W1 A0 (l).length (l) := Kd.C_below (by repeat (first | exact Hl | refine Kd.C_alloc ?_ _ | refine Kd.C_drewN ?_ _ | refine Kd.C_drew ?_)) b1
      clear Hl; have Hl := Lib.hid Hl'; clear Hl'
      have HB' : Below W.heap.size W W1 := below_step (by repeat (first | exact HB | refine below_alloc ?_ _ | refine pw_below_drewN ?_ _ | refine below_drew1 ?_)) b1
      clear HB; have HB := Lib.hid HB'; clear HB'
      clear b1
      obtain ⟨Am, cm, em⟩ := Kd.V_slice h
      subst em
      have rm := (Kd.V_reads' h).2.2
      have lm : (m).length ≤ cm := (Kd.V_reads' h).2.1
      have Rm := Lib.hid rm; clear rm h
      go_wp2_with (first | (go_at_call 20; refine hold_of ?_))
      refine hold_mk ?_
      refine (net_Spoil.calls Am cm m a b l 0 _ (by repeat (first | exact Rm | refine Kd.C_alloc ?_ _ | refine Kd.C_drewN ?_ _ | refine Kd.C_drew ?_)) lm Hs3).mono ?_
      rintro e_ W2 ⟨v, rfl, h, b2⟩
      have Hl' : Kd.C k26 W2 A0 (l).length (l) := Kd.C_below (by repeat (first | exact Hl | refine Kd.C_alloc ?_ _ | refine Kd.C_drewN ?_ _ | refine Kd.C_drew ?_)) b2
      clear Hl; have Hl := Lib.hid Hl'; clear Hl'
      have Rm' : Kd.C k26 W2 Am (m).length (m) := Kd.C_below (by repeat (first | exact Rm | refine Kd.C_alloc ?_ _ | refine Kd.C_drewN ?_ _ | refine Kd.C_drew ?_)) b2
      clear Rm; have Rm := Lib.hid Rm'; clear Rm'
      have HB' : Below W.heap.size W W2 := below_step (by repeat (first | exact HB | refine below_alloc ?_ _ | refine pw_below_drewN ?_ _ | refine below_drew1 ?_)) b2
      clear HB; have HB := Lib.hid HB'; clear HB'
      clear b2
      obtain ⟨An, cn, en⟩ := Kd.V_slice h
      subst en
      have rn := (Kd.V_reads' h).2.2
      have ln : (l).length ≤ cn := (Kd.V_reads' h).2.1
      have Rn := Lib.hid rn; clear rn h
      go_wp2_with (first | (go_at_call 17; refine hold_of ?_))
      refine hold_mk ?_
      refine (tidewayref05_Same.calls (l.length + 20) An cn l A0 c0 l true _ (by repeat (first | exact Rn | refine Kd.C_alloc ?_ _ | refine Kd.C_drewN ?_ _ | refine Kd.C_drew ?_)) ln (by repeat (first | exact Hl | refine Kd.C_alloc ?_ _ | refine Kd.C_drewN ?_ _ | refine Kd.C_drew ?_)) hc0 (Hsm _ (by omega))).mono ?_
      rintro e_ wq ⟨rfl, nd1, rfl⟩
      go_wp2_with (first | (go_at_call 17; refine hold_of ?_))
      refine hold_mk ?_
      refine (tidewayref05_Same.calls (l.length + 20) Am cm m A0 c0 l false _ (by repeat (first | exact Rm | refine Kd.C_alloc ?_ _ | refine Kd.C_drewN ?_ _ | refine Kd.C_drew ?_)) lm (by repeat (first | exact Hl | refine Kd.C_alloc ?_ _ | refine Kd.C_drewN ?_ _ | refine Kd.C_drew ?_)) hc0 Hs4).mono ?_
      rintro e_ wq ⟨rfl, nd2, rfl⟩
      go_wp2_with (first | (go_at_call 18; refine hold_of ?_))
      refine hold_mk ?_
      refine (net_Double.calls A0 c0 l a [] g _ (by repeat (first | exact Hl | refine Kd.C_alloc ?_ _ | refine Kd.C_drewN ?_ _ | refine Kd.C_drew ?_)) hc0 Hd).mono ?_
      rintro e_ W3 ⟨v, rfl, h, b3⟩
      have Hl' : Kd.C k26 W3 A0 (l).length (l) := Kd.C_below (by repeat (first | exact Hl | refine Kd.C_alloc ?_ _ | refine Kd.C_drewN ?_ _ | refine Kd.C_drew ?_)) b3
      clear Hl; have Hl := Lib.hid Hl'; clear Hl'
      have HB' : Below W.heap.size W W3 := below_step (by repeat (first | exact HB | refine below_alloc ?_ _ | refine pw_below_drewN ?_ _ | refine below_drew1 ?_)) b3
      clear HB; have HB := Lib.hid HB'; clear HB'
      clear b3
      obtain ⟨Ad, cd, ed⟩ := Kd.V_slice h
      subst ed
      have rd := (Kd.V_reads' h).2.2
      have ld : ([]).length ≤ cd := (Kd.V_reads' h).2.1
      have Rd := Lib.hid rd; clear rd h
      go_wp2_with (first | (go_at_call 9; refine hold_of ?_))
      refine hold_mk ?_
      refine (tidewaylaw05_heads.calls (l.length + 20) true _ Hh).mono ?_
      rintro e W16 ⟨rfl, b16⟩
      have HB' : Below W.heap.size W W16 := below_step (by repeat (first | exact HB | refine below_alloc ?_ _ | refine pw_below_drewN ?_ _ | refine below_drew1 ?_)) b16
      clear b16
      have HBF := Lib.hid HB'; clear HB'
      go_wp2
      go_ret
      exact ⟨rfl, HBF⟩
    · obtain ⟨hs3, hml, hs4⟩ := hs2 rfl
      have Hs3 := Lib.hid hs3; clear hs3
      have Hs4 := Lib.hid hs4; clear hs4 hs2
      have Hml := Lib.hid hml; clear hml
      obtain ⟨x, ht1, r, ht2⟩ := hg
      have Ht1 := Lib.hid ht1; clear ht1
      have Ht2 := Lib.hid ht2; clear ht2
      go_enter Try.func6, Try.ntmps6
      go_wp2_with (first | (go_at_call 20; refine hold_of ?_))
      refine hold_mk ?_
      refine (net_Spoil.calls A0 c0 l a b m 0 _ (by repeat (first | exact Hl | refine Kd.C_alloc ?_ _ | refine Kd.C_drewN ?_ _ | refine Kd.C_drew ?_)) hc0 Hs1).mono ?_
      rintro e_ W1 ⟨v, rfl, h, b1⟩
      have Hl' : Kd.C k26 W1 A0 (l).length (l) := Kd.C_below (by repeat (first | exact Hl | refine Kd.C_alloc ?_ _ | refine Kd.C_drewN ?_ _ | refine Kd.C_drew ?_)) b1
      clear Hl; have Hl := Lib.hid Hl'; clear Hl'
      have HB' : Below W.heap.size W W1 := below_step (by repeat (first | exact HB | refine below_alloc ?_ _ | refine pw_below_drewN ?_ _ | refine below_drew1 ?_)) b1
      clear HB; have HB := Lib.hid HB'; clear HB'
      clear b1
      obtain ⟨Am, cm, em⟩ := Kd.V_slice h
      subst em
      have rm := (Kd.V_reads' h).2.2
      have lm : (m).length ≤ cm := (Kd.V_reads' h).2.1
      have Rm := Lib.hid rm; clear rm h
      go_wp2_with (first | (go_at_call 20; refine hold_of ?_))
      refine hold_mk ?_
      refine (net_Spoil.calls Am cm m a b l 0 _ (by repeat (first | exact Rm | refine Kd.C_alloc ?_ _ | refine Kd.C_drewN ?_ _ | refine Kd.C_drew ?_)) lm Hs3).mono ?_
      rintro e_ W2 ⟨v, rfl, h, b2⟩
      have Hl' : Kd.C k26 W2 A0 (l).length (l) := Kd.C_below (by repeat (first | exact Hl | refine Kd.C_alloc ?_ _ | refine Kd.C_drewN ?_ _ | refine Kd.C_drew ?_)) b2
      clear Hl; have Hl := Lib.hid Hl'; clear Hl'
      have Rm' : Kd.C k26 W2 Am (m).length (m) := Kd.C_below (by repeat (first | exact Rm | refine Kd.C_alloc ?_ _ | refine Kd.C_drewN ?_ _ | refine Kd.C_drew ?_)) b2
      clear Rm; have Rm := Lib.hid Rm'; clear Rm'
      have HB' : Below W.heap.size W W2 := below_step (by repeat (first | exact HB | refine below_alloc ?_ _ | refine pw_below_drewN ?_ _ | refine below_drew1 ?_)) b2
      clear HB; have HB := Lib.hid HB'; clear HB'
      clear b2
      obtain ⟨An, cn, en⟩ := Kd.V_slice h
      subst en
      have rn := (Kd.V_reads' h).2.2
      have ln : (l).length ≤ cn := (Kd.V_reads' h).2.1
      have Rn := Lib.hid rn; clear rn h
      go_wp2_with (first | (go_at_call 17; refine hold_of ?_))
      refine hold_mk ?_
      refine (tidewayref05_Same.calls (l.length + 20) An cn l A0 c0 l true _ (by repeat (first | exact Rn | refine Kd.C_alloc ?_ _ | refine Kd.C_drewN ?_ _ | refine Kd.C_drew ?_)) ln (by repeat (first | exact Hl | refine Kd.C_alloc ?_ _ | refine Kd.C_drewN ?_ _ | refine Kd.C_drew ?_)) hc0 (Hsm _ (by omega))).mono ?_
      rintro e_ wq ⟨rfl, nd1, rfl⟩
      go_wp2_with (first | (go_at_call 17; refine hold_of ?_))
      refine hold_mk ?_
      refine (tidewayref05_Same.calls (l.length + 20) Am cm m A0 c0 l false _ (by repeat (first | exact Rm | refine Kd.C_alloc ?_ _ | refine Kd.C_drewN ?_ _ | refine Kd.C_drew ?_)) lm (by repeat (first | exact Hl | refine Kd.C_alloc ?_ _ | refine Kd.C_drewN ?_ _ | refine Kd.C_drew ?_)) hc0 Hs4).mono ?_
      rintro e_ wq ⟨rfl, nd2, rfl⟩
      go_wp2_with (first | (go_at_call 18; refine hold_of ?_))
      refine hold_mk ?_
      refine (net_Double.calls A0 c0 l a d 0 _ (by repeat (first | exact Hl | refine Kd.C_alloc ?_ _ | refine Kd.C_drewN ?_ _ | refine Kd.C_drew ?_)) hc0 Hd).mono ?_
      rintro e_ W3 ⟨v, rfl, h, b3⟩
      have Hl' : Kd.C k26 W3 A0 (l).length (l) := Kd.C_below (by repeat (first | exact Hl | refine Kd.C_alloc ?_ _ | refine Kd.C_drewN ?_ _ | refine Kd.C_drew ?_)) b3
      clear Hl; have Hl := Lib.hid Hl'; clear Hl'
      have HB' : Below W.heap.size W W3 := below_step (by repeat (first | exact HB | refine below_alloc ?_ _ | refine pw_below_drewN ?_ _ | refine below_drew1 ?_)) b3
      clear HB; have HB := Lib.hid HB'; clear HB'
      clear b3
      obtain ⟨Ad, cd, ed⟩ := Kd.V_slice h
      subst ed
      have rd := (Kd.V_reads' h).2.2
      have ld : (d).length ≤ cd := (Kd.V_reads' h).2.1
      have Rd := Lib.hid rd; clear rd h
      go_wp2_with (first | (go_at_call 12; refine hold_of ?_))
      refine hold_mk ?_
      refine (net_Take.calls Ad cd d (l.length : Int) x.f0 x.f1 l 0 _ (by repeat (first | exact Rd | refine Kd.C_alloc ?_ _ | refine Kd.C_drewN ?_ _ | refine Kd.C_drew ?_)) ld Ht1).mono ?_
      rintro e_ W4 ⟨v, v2, rfl, h, h2, b4⟩
      have Hl' : Kd.C k26 W4 A0 (l).length (l) := Kd.C_below (by repeat (first | exact Hl | refine Kd.C_alloc ?_ _ | refine Kd.C_drewN ?_ _ | refine Kd.C_drew ?_)) b4
      clear Hl; have Hl := Lib.hid Hl'; clear Hl'
      have Rd' : Kd.C k26 W4 Ad (d).length (d) := Kd.C_below (by repeat (first | exact Rd | refine Kd.C_alloc ?_ _ | refine Kd.C_drewN ?_ _ | refine Kd.C_drew ?_)) b4
      clear Rd; have Rd := Lib.hid Rd'; clear Rd'
      have HB' : Below W.heap.size W W4 := below_step (by repeat (first | exact HB | refine below_alloc ?_ _ | refine pw_below_drewN ?_ _ | refine below_drew1 ?_)) b4
      clear HB; have HB := Lib.hid HB'; clear HB'
      clear b4
      obtain ⟨Ax, cx, ex⟩ := Kd.V_slice h
      subst ex
      have rx := (Kd.V_reads' h).2.2
      have lx : (x.f0).length ≤ cx := (Kd.V_reads' h).2.1
      have Rx := Lib.hid rx; clear rx h
      obtain ⟨Aleft, cleft, eleft⟩ := Kd.V_slice h2
      subst eleft
      have rleft := (Kd.V_reads' h2).2.2
      have lleft : (l).length ≤ cleft := (Kd.V_reads' h2).2.1
      have Rleft := Lib.hid rleft; clear rleft h2
      obtain ⟨t, ht⟩ : ∃ t : Int, x.f1 = t := ⟨_, rfl⟩
      rw [ht] at Ht2 ⊢
      go_wp2_with (first | (go_at_call 12; refine hold_of ?_))
      refine hold_mk ?_
      refine (net_Take.calls A0 c0 l a x.f0 t r 0 _ (by repeat (first | exact Hl | refine Kd.C_alloc ?_ _ | refine Kd.C_drewN ?_ _ | refine Kd.C_drew ?_)) hc0 Ht2).mono ?_
      rintro e_ W6 ⟨v, v2, rfl, h, h2, b6⟩
      have kc : W6.heap[W4.heap.size]? = some (.cells #[.slice Ax x.f0.length cx, .int .i64 t] 26 (0, 0)) := (b6.block _ (by simp)).trans (blk_new W4 _)
      have kc0 : W6.cell? ⟨W4.heap.size, 0, none⟩ = some (.slice Ax x.f0.length cx) := (blk_cell kc 0).trans rfl
      have kc1 : W6.cell? ⟨W4.heap.size, 1, none⟩ = some (.int .i64 t) := (blk_cell kc 1).trans rfl
      have klt : W4.heap.size < W6.heap.size := blk_lt kc
      have Hl' : Kd.C k26 W6 A0 (l).length (l) := Kd.C_below (by repeat (first | exact Hl | refine Kd.C_alloc ?_ _ | refine Kd.C_drewN ?_ _ | refine Kd.C_drew ?_)) b6
      clear Hl; have Hl := Lib.hid Hl'; clear Hl'
      have Rd' : Kd.C k26 W6 Ad (d).length (d) := Kd.C_below (by repeat (first | exact Rd | refine Kd.C_alloc ?_ _ | refine Kd.C_drewN ?_ _ | refine Kd.C_drew ?_)) b6
      clear Rd; have Rd := Lib.hid Rd'; clear Rd'
      have Rx' : Kd.C (Kd.int .u8) W6 Ax (x.f0).length (x.f0) := Kd.C_below (by repeat (first | exact Rx | refine Kd.C_alloc ?_ _ | refine Kd.C_drewN ?_ _ | refine Kd.C_drew ?_)) b6
      clear Rx; have Rx := Lib.hid Rx'; clear Rx'
      have Rleft' : Kd.C k26 W6 Aleft (l).length (l) := Kd.C_below (by repeat (first | exact Rleft | refine Kd.C_alloc ?_ _ | refine Kd.C_drewN ?_ _ | refine Kd.C_drew ?_)) b6
      clear Rleft; have Rleft := Lib.hid Rleft'; clear Rleft'
      have HB' : Below W.heap.size W W6 := below_step (by repeat (first | exact HB | refine below_alloc ?_ _ | refine pw_below_drewN ?_ _ | refine below_drew1 ?_)) b6
      clear HB; have HB := Lib.hid HB'; clear HB'
      clear b6
      obtain ⟨Ay, cy, ey⟩ := Kd.V_slice h
      subst ey
      have ry := (Kd.V_reads' h).2.2
      have ly : (x.f0).length ≤ cy := (Kd.V_reads' h).2.1
      have Ry := Lib.hid ry; clear ry h
      clear h2
      have Kc := Lib.hid kc; clear kc
      go_wp2_with (first | (go_at_call 17; refine hold_of ?_))
      refine hold_mk ?_
      refine (tidewayref05_Same.calls (l.length + 20) Aleft cleft l A0 c0 l true _ (by repeat (first | exact Rleft | refine Kd.C_alloc ?_ _ | refine Kd.C_drewN ?_ _ | refine Kd.C_drew ?_)) lleft (by repeat (first | exact Hl | refine Kd.C_alloc ?_ _ | refine Kd.C_drewN ?_ _ | refine Kd.C_drew ?_)) hc0 (Hsm _ (by omega))).mono ?_
      rintro e_ wq ⟨rfl, nd3, rfl⟩
      go_wp2_with (first | (go_at_call 17; refine hold_of ?_))
      refine hold_mk ?_
      refine (tidewayref05_Same.calls (l.length + 20) (some ⟨W6.heap.size + 1, 0, none⟩) 1 [⟨x.f0, t⟩] (some ⟨W6.heap.size + 1 + 1, 0, none⟩) 1 [⟨x.f0, t⟩] true _ (Kd.C_alloc (one_row (by first | rfl | (simp; done) | (show (World.alloc _ _).heap.size = _; simp; done) | (show (World.alloc (World.alloc _ _) _).heap.size = _; simp; done)) rfl lx (by repeat (first | exact Rx | refine Kd.C_alloc ?_ _ | refine Kd.C_drewN ?_ _ | refine Kd.C_drew ?_))) _) (Nat.le_refl _) (one_row (by first | rfl | (simp; done) | (show (World.alloc _ _).heap.size = _; simp; done) | (show (World.alloc (World.alloc _ _) _).heap.size = _; simp; done)) rfl ly (by repeat (first | exact Ry | refine Kd.C_alloc ?_ _ | refine Kd.C_drewN ?_ _ | refine Kd.C_drew ?_))) (Nat.le_refl _) (Hsm _ (by simp))).mono ?_
      rintro e_ wq ⟨rfl, nd4, rfl⟩
      go_wp2_with (first | (go_at_call 9; refine hold_of ?_))
      refine hold_mk ?_
      refine (tidewaylaw05_heads.calls (l.length + 20) true _ Hh).mono ?_
      rintro e W16 ⟨rfl, b16⟩
      have HB' : Below W.heap.size W W16 := below_step (by repeat (first | exact HB | refine below_alloc ?_ _ | refine pw_below_drewN ?_ _ | refine below_drew1 ?_)) b16
      clear b16
      have HBF := Lib.hid HB'; clear HB'
      go_wp2
      go_ret
      exact ⟨rfl, HBF⟩
  · rcases hcase with ⟨hg, rfl⟩ | ⟨rfl, hg⟩
    · have q0 : (e == 0) = false := beq_eq_false_iff_ne.mpr he
      have q1 : (e != 0) = true := bne_iff_ne.mpr he
      clear hs2 he
      have q2 : (g == 0) = false := beq_eq_false_iff_ne.mpr hg
      have q3 : (g != 0) = true := bne_iff_ne.mpr hg
      clear hg
      go_enter Try.func6, Try.ntmps6
      go_wp2_with (first | (go_at_call 20; refine hold_of ?_))
      refine hold_mk ?_
      refine (net_Spoil.calls A0 c0 l a b m e _ (by repeat (first | exact Hl | refine Kd.C_alloc ?_ _ | refine Kd.C_drewN ?_ _ | refine Kd.C_drew ?_)) hc0 Hs1).mono ?_
      rintro e_ W1 ⟨v, rfl, h, b1⟩
      have Hl' : Kd.C k26 W1 A0 (l).length (l) := Kd.C_below (by repeat (first | exact Hl | refine Kd.C_alloc ?_ _ | refine Kd.C_drewN ?_ _ | refine Kd.C_drew ?_)) b1
      clear Hl; have Hl := Lib.hid Hl'; clear Hl'
      have HB' : Below W.heap.size W W1 := below_step (by repeat (first | exact HB | refine below_alloc ?_ _ | refine pw_below_drewN ?_ _ | refine below_drew1 ?_)) b1
      clear HB; have HB := Lib.hid HB'; clear HB'
      clear b1
      obtain ⟨Am, cm, em⟩ := Kd.V_slice h
      subst em
      have rm := (Kd.V_reads' h).2.2
      have lm : (m).length ≤ cm := (Kd.V_reads' h).2.1
      have Rm := Lib.hid rm; clear rm h
      go_wp2_with (first | (go_at_call 18; refine hold_of ?_))
      refine hold_mk ?_
      refine (net_Double.calls A0 c0 l a [] g _ (by repeat (first | exact Hl | refine Kd.C_alloc ?_ _ | refine Kd.C_drewN ?_ _ | refine Kd.C_drew ?_)) hc0 Hd).mono ?_
      rintro e_ W3 ⟨v, rfl, h, b3⟩
      have Hl' : Kd.C k26 W3 A0 (l).length (l) := Kd.C_below (by repeat (first | exact Hl | refine Kd.C_alloc ?_ _ | refine Kd.C_drewN ?_ _ | refine Kd.C_drew ?_)) b3
      clear Hl; have Hl := Lib.hid Hl'; clear Hl'
      have HB' : Below W.heap.size W W3 := below_step (by repeat (first | exact HB | refine below_alloc ?_ _ | refine pw_below_drewN ?_ _ | refine below_drew1 ?_)) b3
      clear HB; have HB := Lib.hid HB'; clear HB'
      clear b3
      obtain ⟨Ad, cd, ed⟩ := Kd.V_slice h
      subst ed
      have rd := (Kd.V_reads' h).2.2
      have ld : ([]).length ≤ cd := (Kd.V_reads' h).2.1
      have Rd := Lib.hid rd; clear rd h
      go_wp2_with (first | (go_at_call 9; refine hold_of ?_))
      refine hold_mk ?_
      refine (tidewaylaw05_heads.calls (l.length + 20) true _ Hh).mono ?_
      rintro e W16 ⟨rfl, b16⟩
      have HB' : Below W.heap.size W W16 := below_step (by repeat (first | exact HB | refine below_alloc ?_ _ | refine pw_below_drewN ?_ _ | refine below_drew1 ?_)) b16
      clear b16
      have HBF := Lib.hid HB'; clear HB'
      go_wp2
      go_ret
      exact ⟨rfl, HBF⟩
    · have q0 : (e == 0) = false := beq_eq_false_iff_ne.mpr he
      have q1 : (e != 0) = true := bne_iff_ne.mpr he
      clear hs2 he
      obtain ⟨x, ht1, r, ht2⟩ := hg
      have Ht1 := Lib.hid ht1; clear ht1
      have Ht2 := Lib.hid ht2; clear ht2
      go_enter Try.func6, Try.ntmps6
      go_wp2_with (first | (go_at_call 20; refine hold_of ?_))
      refine hold_mk ?_
      refine (net_Spoil.calls A0 c0 l a b m e _ (by repeat (first | exact Hl | refine Kd.C_alloc ?_ _ | refine Kd.C_drewN ?_ _ | refine Kd.C_drew ?_)) hc0 Hs1).mono ?_
      rintro e_ W1 ⟨v, rfl, h, b1⟩
      have Hl' : Kd.C k26 W1 A0 (l).length (l) := Kd.C_below (by repeat (first | exact Hl | refine Kd.C_alloc ?_ _ | refine Kd.C_drewN ?_ _ | refine Kd.C_drew ?_)) b1
      clear Hl; have Hl := Lib.hid Hl'; clear Hl'
      have HB' : Below W.heap.size W W1 := below_step (by repeat (first | exact HB | refine below_alloc ?_ _ | refine pw_below_drewN ?_ _ | refine below_drew1 ?_)) b1
      clear HB; have HB := Lib.hid HB'; clear HB'
      clear b1
      obtain ⟨Am, cm, em⟩ := Kd.V_slice h
      subst em
      have rm := (Kd.V_reads' h).2.2
      have lm : (m).length ≤ cm := (Kd.V_reads' h).2.1
      have Rm := Lib.hid rm; clear rm h
      go_wp2_with (first | (go_at_call 18; refine hold_of ?_))
      refine hold_mk ?_
      refine (net_Double.calls A0 c0 l a d 0 _ (by repeat (first | exact Hl | refine Kd.C_alloc ?_ _ | refine Kd.C_drewN ?_ _ | refine Kd.C_drew ?_)) hc0 Hd).mono ?_
      rintro e_ W3 ⟨v, rfl, h, b3⟩
      have Hl' : Kd.C k26 W3 A0 (l).length (l) := Kd.C_below (by repeat (first | exact Hl | refine Kd.C_alloc ?_ _ | refine Kd.C_drewN ?_ _ | refine Kd.C_drew ?_)) b3
      clear Hl; have Hl := Lib.hid Hl'; clear Hl'
      have HB' : Below W.heap.size W W3 := below_step (by repeat (first | exact HB | refine below_alloc ?_ _ | refine pw_below_drewN ?_ _ | refine below_drew1 ?_)) b3
      clear HB; have HB := Lib.hid HB'; clear HB'
      clear b3
      obtain ⟨Ad, cd, ed⟩ := Kd.V_slice h
      subst ed
      have rd := (Kd.V_reads' h).2.2
      have ld : (d).length ≤ cd := (Kd.V_reads' h).2.1
      have Rd := Lib.hid rd; clear rd h
      go_wp2_with (first | (go_at_call 12; refine hold_of ?_))
      refine hold_mk ?_
      refine (net_Take.calls Ad cd d (l.length : Int) x.f0 x.f1 l 0 _ (by repeat (first | exact Rd | refine Kd.C_alloc ?_ _ | refine Kd.C_drewN ?_ _ | refine Kd.C_drew ?_)) ld Ht1).mono ?_
      rintro e_ W4 ⟨v, v2, rfl, h, h2, b4⟩
      have Hl' : Kd.C k26 W4 A0 (l).length (l) := Kd.C_below (by repeat (first | exact Hl | refine Kd.C_alloc ?_ _ | refine Kd.C_drewN ?_ _ | refine Kd.C_drew ?_)) b4
      clear Hl; have Hl := Lib.hid Hl'; clear Hl'
      have Rd' : Kd.C k26 W4 Ad (d).length (d) := Kd.C_below (by repeat (first | exact Rd | refine Kd.C_alloc ?_ _ | refine Kd.C_drewN ?_ _ | refine Kd.C_drew ?_)) b4
      clear Rd; have Rd := Lib.hid Rd'; clear Rd'
      have HB' : Below W.heap.size W W4 := below_step (by repeat (first | exact HB | refine below_alloc ?_ _ | refine pw_below_drewN ?_ _ | refine below_drew1 ?_)) b4
      clear HB; have HB := Lib.hid HB'; clear HB'
      clear b4
      obtain ⟨Ax, cx, ex⟩ := Kd.V_slice h
      subst ex
      have rx := (Kd.V_reads' h).2.2
      have lx : (x.f0).length ≤ cx := (Kd.V_reads' h).2.1
      have Rx := Lib.hid rx; clear rx h
      obtain ⟨Aleft, cleft, eleft⟩ := Kd.V_slice h2
      subst eleft
      have rleft := (Kd.V_reads' h2).2.2
      have lleft : (l).length ≤ cleft := (Kd.V_reads' h2).2.1
      have Rleft := Lib.hid rleft; clear rleft h2
      obtain ⟨t, ht⟩ : ∃ t : Int, x.f1 = t := ⟨_, rfl⟩
      rw [ht] at Ht2 ⊢
      go_wp2_with (first | (go_at_call 12; refine hold_of ?_))
      refine hold_mk ?_
      refine (net_Take.calls A0 c0 l a x.f0 t r 0 _ (by repeat (first | exact Hl | refine Kd.C_alloc ?_ _ | refine Kd.C_drewN ?_ _ | refine Kd.C_drew ?_)) hc0 Ht2).mono ?_
      rintro e_ W6 ⟨v, v2, rfl, h, h2, b6⟩
      have kc : W6.heap[W4.heap.size]? = some (.cells #[.slice Ax x.f0.length cx, .int .i64 t] 26 (0, 0)) := (b6.block _ (by simp)).trans (blk_new W4 _)
      have kc0 : W6.cell? ⟨W4.heap.size, 0, none⟩ = some (.slice Ax x.f0.length cx) := (blk_cell kc 0).trans rfl
      have kc1 : W6.cell? ⟨W4.heap.size, 1, none⟩ = some (.int .i64 t) := (blk_cell kc 1).trans rfl
      have klt : W4.heap.size < W6.heap.size := blk_lt kc
      have Hl' : Kd.C k26 W6 A0 (l).length (l) := Kd.C_below (by repeat (first | exact Hl | refine Kd.C_alloc ?_ _ | refine Kd.C_drewN ?_ _ | refine Kd.C_drew ?_)) b6
      clear Hl; have Hl := Lib.hid Hl'; clear Hl'
      have Rd' : Kd.C k26 W6 Ad (d).length (d) := Kd.C_below (by repeat (first | exact Rd | refine Kd.C_alloc ?_ _ | refine Kd.C_drewN ?_ _ | refine Kd.C_drew ?_)) b6
      clear Rd; have Rd := Lib.hid Rd'; clear Rd'
      have Rx' : Kd.C (Kd.int .u8) W6 Ax (x.f0).length (x.f0) := Kd.C_below (by repeat (first | exact Rx | refine Kd.C_alloc ?_ _ | refine Kd.C_drewN ?_ _ | refine Kd.C_drew ?_)) b6
      clear Rx; have Rx := Lib.hid Rx'; clear Rx'
      have Rleft' : Kd.C k26 W6 Aleft (l).length (l) := Kd.C_below (by repeat (first | exact Rleft | refine Kd.C_alloc ?_ _ | refine Kd.C_drewN ?_ _ | refine Kd.C_drew ?_)) b6
      clear Rleft; have Rleft := Lib.hid Rleft'; clear Rleft'
      have HB' : Below W.heap.size W W6 := below_step (by repeat (first | exact HB | refine below_alloc ?_ _ | refine pw_below_drewN ?_ _ | refine below_drew1 ?_)) b6
      clear HB; have HB := Lib.hid HB'; clear HB'
      clear b6
      obtain ⟨Ay, cy, ey⟩ := Kd.V_slice h
      subst ey
      have ry := (Kd.V_reads' h).2.2
      have ly : (x.f0).length ≤ cy := (Kd.V_reads' h).2.1
      have Ry := Lib.hid ry; clear ry h
      clear h2
      have Kc := Lib.hid kc; clear kc
      go_wp2_with (first | (go_at_call 17; refine hold_of ?_))
      refine hold_mk ?_
      refine (tidewayref05_Same.calls (l.length + 20) Aleft cleft l A0 c0 l true _ (by repeat (first | exact Rleft | refine Kd.C_alloc ?_ _ | refine Kd.C_drewN ?_ _ | refine Kd.C_drew ?_)) lleft (by repeat (first | exact Hl | refine Kd.C_alloc ?_ _ | refine Kd.C_drewN ?_ _ | refine Kd.C_drew ?_)) hc0 (Hsm _ (by omega))).mono ?_
      rintro e_ wq ⟨rfl, nd3, rfl⟩
      go_wp2_with (first | (go_at_call 17; refine hold_of ?_))
      refine hold_mk ?_
      refine (tidewayref05_Same.calls (l.length + 20) (some ⟨W6.heap.size + 1, 0, none⟩) 1 [⟨x.f0, t⟩] (some ⟨W6.heap.size + 1 + 1, 0, none⟩) 1 [⟨x.f0, t⟩] true _ (Kd.C_alloc (one_row (by first | rfl | (simp; done) | (show (World.alloc _ _).heap.size = _; simp; done) | (show (World.alloc (World.alloc _ _) _).heap.size = _; simp; done)) rfl lx (by repeat (first | exact Rx | refine Kd.C_alloc ?_ _ | refine Kd.C_drewN ?_ _ | refine Kd.C_drew ?_))) _) (Nat.le_refl _) (one_row (by first | rfl | (simp; done) | (show (World.alloc _ _).heap.size = _; simp; done) | (show (World.alloc (World.alloc _ _) _).heap.size = _; simp; done)) rfl ly (by repeat (first | exact Ry | refine Kd.C_alloc ?_ _ | refine Kd.C_drewN ?_ _ | refine Kd.C_drew ?_))) (Nat.le_refl _) (Hsm _ (by simp))).mono ?_
      rintro e_ wq ⟨rfl, nd4, rfl⟩
      go_wp2_with (first | (go_at_call 9; refine hold_of ?_))
      refine hold_mk ?_
      refine (tidewaylaw05_heads.calls (l.length + 20) true _ Hh).mono ?_
      rintro e W16 ⟨rfl, b16⟩
      have HB' : Below W.heap.size W W16 := below_step (by repeat (first | exact HB | refine below_alloc ?_ _ | refine pw_below_drewN ?_ _ | refine below_drew1 ?_)) b16
      clear b16
      have HBF := Lib.hid HB'; clear HB'
      go_wp2
      go_ret
      exact ⟨rfl, HBF⟩
end Go.Proofs.Ytpmiiokoialbmaa.Pure

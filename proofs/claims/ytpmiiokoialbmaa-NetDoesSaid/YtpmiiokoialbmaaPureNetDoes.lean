/- What each call makes of datagrams is what the document says; what is handed in stays. -/
import Derived.Test.YtpmiiokoialbmaaNetDFacts
import Derived.WalkKit
import Derived.Lib.Hide
set_option linter.unusedVariables false
set_option linter.unusedSimpArgs false
set_option autoImplicit false
namespace Go.Proofs.Ytpmiiokoialbmaa.Pure
open Go.RowKit Go.Proofs.Ytpmiiokoialbmaa.PD Go.Proofs.YtpmiiokoialbmaaW.PrintWords Go.Proofs.YtpmiiokoialbmaaW.PrintLast Go.Proofs.YtpmiiokoialbmaaW.PrintMore Go.Proofs.Ytpmiiokoialbmaa.NetDFacts
def Hold (p : Prop) : Prop := p
theorem hold_of {p : Prop} (h : Hold p) : p := h
theorem hold_mk {p : Prop} (h : p) : Hold p := h
theorem add_plain_ (b i : Nat) : (⟨b, 0, none⟩ : Addr).add i = ⟨b, i, none⟩ := by rw [Addr.add_lit, Nat.zero_add]
/-- A row of one datagram reads as that. -/
theorem one_row {w : World} {A : Option Addr} {m c b : Nat} {f : List Int} {t : Int} (hb : w.heap.size = b) (hm : f.length = m) (hl : m ≤ c) (h : Kd.C (Kd.int .u8) w A f.length f) :
    Kd.C k26 (w.alloc (.cells #[.slice A m c, .int .i64 t] 26)) (some ⟨b, 0, none⟩) ([⟨f, t⟩] : List D).length [⟨f, t⟩] := by
  subst hb; subst hm
  refine ⟨rfl, by simp, fun _ => ⟨_, rfl, fun j p hj => ?_⟩⟩
  match j, hj with
  | 0, hj =>
    obtain rfl : (⟨f, t⟩ : D) = p := by simpa using hj
    refine ⟨[.slice A f.length c, .int .i64 t], rfl, k26_mk _ (⟨f, t⟩ : D) hl (Kd.C_alloc h _), fun i u hu => ?_⟩
    match i, hu with
    | 0, hu =>
      obtain rfl : Value.slice A f.length c = u := by simpa using hu
      show (w.alloc _).cell? ((⟨w.heap.size, 0, none⟩ : Addr).add 0) = _
      rw [add_plain_]
      exact (blk_cell (blk_new w _) 0).trans rfl
    | 1, hu =>
      obtain rfl : Value.int .i64 t = u := by simpa using hu
      show (w.alloc _).cell? ((⟨w.heap.size, 0, none⟩ : Addr).add 1) = _
      rw [add_plain_]
      exact (blk_cell (blk_new w _) 1).trans rfl
set_option maxRecDepth 100000 in
set_option maxHeartbeats 8000000 in
theorem NetDoes_calls (A0 : Option Addr) (c0 : Nat) (l : List D) (A1 : Option Addr) (c1 : Nat) (dt : List Int) (a b : Int) (W : World) (hr0 : Kd.C k26 W A0 l.length l) (hc0 : l.length ≤ c0) (hr1 : Kd.C (Kd.int .u8) W A1 dt.length dt) (hc1 : dt.length ≤ c1)
    (w0 : Wf l) (w1 : (∀ x ∈ dt, (Lit.int .u8 x).wf = true) ∧ dt.length * 1 ≤ 140737488351232 ∧ dt.length ≤ 9223372036854775807) (w2 : (Lit.int .i64 a).wf = true) (w3 : (Lit.int .i64 b).wf = true) :
    Calls Try.prog 5 #[.slice A0 l.length c0, .slice A1 dt.length c1, .int .i64 a, .int .i64 b] W fun e W' => e = .returned (.bool true) ∧ Below W.heap.size W W' := by
  have hl := lim w0
  have hll : l.length < 4398046511100 := by simp only [net_lim, Bool.and_eq_true, decide_eq_true_eq] at hl; exact hl.1
  have hcp := rcopy l hl (l.length + 20) (by omega)
  obtain ⟨sr, se, hs1, hs2, hs3⟩ := send l dt a hl (by have := w1.2.1; omega)
  obtain ⟨t1, t2, t3, t4, ht1, ht2, ht3⟩ := take l a hl
  obtain ⟨dr, de, hd1, hd2, hd3⟩ := double l a hl
  obtain ⟨pr, pe, hp1, hp2, hp3⟩ := spoil l a b hl (wf64 w3)
  have sm : ∀ x : List D, x.length ≤ l.length + 1 → tidewayref05_Same.f (l.length + 20) x x = some true := fun x hx => same x (by omega) _ (by omega)
  have hh := heads (l.length + 20) (by omega)
  have Hl := Lib.hid hr0; clear hr0
  have Hd := Lib.hid hr1; clear hr1
  have Hcp := Lib.hid hcp; clear hcp
  have Hs1 := Lib.hid hs1; clear hs1
  have Hs2 := Lib.hid hs2; clear hs2
  have Ht1 := Lib.hid ht1; clear ht1
  have Ht2 := Lib.hid ht2; clear ht2
  have Hd1 := Lib.hid hd1; clear hd1
  have Hd2 := Lib.hid hd2; clear hd2
  have Hp1 := Lib.hid hp1; clear hp1
  have Hp2 := Lib.hid hp2; clear hp2
  have Hsm := Lib.hid sm; clear sm
  have Hh := Lib.hid hh; clear hh
  have HB := Lib.hid (Below.refl W.heap.size W)
  clear w0 w1 w2 w3 hl
  go_enter Try.func5, Try.ntmps5
  go_wp2_with (first | (go_at_call 14; refine hold_of ?_))
  refine hold_mk ?_
  refine (tidewayref05_Copy.calls (l.length + 20) A0 c0 l l _ (by repeat (first | exact Hl | refine Kd.C_alloc ?_ _ | refine Kd.C_drewN ?_ _ | refine Kd.C_drew ?_)) hc0 Hcp).mono ?_
  rintro e W1 ⟨v, rfl, h, b1⟩
  have Hl' : Kd.C k26 W1 A0 (l).length (l) := Kd.C_below (by repeat (first | exact Hl | refine Kd.C_alloc ?_ _ | refine Kd.C_drewN ?_ _ | refine Kd.C_drew ?_)) b1
  clear Hl; have Hl := Lib.hid Hl'; clear Hl'
  have Hd' : Kd.C (Kd.int .u8) W1 A1 (dt).length (dt) := Kd.C_below (by repeat (first | exact Hd | refine Kd.C_alloc ?_ _ | refine Kd.C_drewN ?_ _ | refine Kd.C_drew ?_)) b1
  clear Hd; have Hd := Lib.hid Hd'; clear Hd'
  have HB' : Below W.heap.size W W1 := below_step (by repeat (first | exact HB | refine below_alloc ?_ _ | refine pw_below_drewN ?_ _ | refine below_drew1 ?_)) b1
  clear HB; have HB := Lib.hid HB'; clear HB'
  clear b1
  obtain ⟨Aown, cown, eown⟩ := Kd.S_slice h
  subst eown
  have rown := (Kd.S_reads' h).2.2
  have lown : (l).length ≤ cown := (Kd.S_reads' h).2.1
  have Rown := Lib.hid rown; clear rown h
  go_wp2_with (first | (go_at_call 11; refine hold_of ?_))
  refine hold_mk ?_
  refine (net_Send.calls Aown cown l A1 c1 dt a sr se _ (by repeat (first | exact Rown | refine Kd.C_alloc ?_ _ | refine Kd.C_drewN ?_ _ | refine Kd.C_drew ?_)) lown (by repeat (first | exact Hd | refine Kd.C_alloc ?_ _ | refine Kd.C_drewN ?_ _ | refine Kd.C_drew ?_)) hc1 Hs1).mono ?_
  rintro e W2 ⟨v, rfl, h, b2⟩
  have Hl' : Kd.C k26 W2 A0 (l).length (l) := Kd.C_below (by repeat (first | exact Hl | refine Kd.C_alloc ?_ _ | refine Kd.C_drewN ?_ _ | refine Kd.C_drew ?_)) b2
  clear Hl; have Hl := Lib.hid Hl'; clear Hl'
  have Hd' : Kd.C (Kd.int .u8) W2 A1 (dt).length (dt) := Kd.C_below (by repeat (first | exact Hd | refine Kd.C_alloc ?_ _ | refine Kd.C_drewN ?_ _ | refine Kd.C_drew ?_)) b2
  clear Hd; have Hd := Lib.hid Hd'; clear Hd'
  have Rown' : Kd.C k26 W2 Aown (l).length (l) := Kd.C_below (by repeat (first | exact Rown | refine Kd.C_alloc ?_ _ | refine Kd.C_drewN ?_ _ | refine Kd.C_drew ?_)) b2
  clear Rown; have Rown := Lib.hid Rown'; clear Rown'
  have HB' : Below W.heap.size W W2 := below_step (by repeat (first | exact HB | refine below_alloc ?_ _ | refine pw_below_drewN ?_ _ | refine below_drew1 ?_)) b2
  clear HB; have HB := Lib.hid HB'; clear HB'
  clear b2
  obtain ⟨Aa, ca, ea⟩ := Kd.V_slice h
  subst ea
  have ra := (Kd.V_reads' h).2.2
  have la : (sr).length ≤ ca := (Kd.V_reads' h).2.1
  have Ra := Lib.hid ra; clear ra h
  go_wp2_with (first | (go_at_call 15; refine hold_of ?_))
  refine hold_mk ?_
  refine (tidewayref05_Send.calls (l.length + 20) A0 c0 l A1 c1 dt a sr se _ (by repeat (first | exact Hl | refine Kd.C_alloc ?_ _ | refine Kd.C_drewN ?_ _ | refine Kd.C_drew ?_)) hc0 (by repeat (first | exact Hd | refine Kd.C_alloc ?_ _ | refine Kd.C_drewN ?_ _ | refine Kd.C_drew ?_)) hc1 Hs2).mono ?_
  rintro e W3 ⟨v, rfl, h, b3⟩
  have Hl' : Kd.C k26 W3 A0 (l).length (l) := Kd.C_below (by repeat (first | exact Hl | refine Kd.C_alloc ?_ _ | refine Kd.C_drewN ?_ _ | refine Kd.C_drew ?_)) b3
  clear Hl; have Hl := Lib.hid Hl'; clear Hl'
  have Hd' : Kd.C (Kd.int .u8) W3 A1 (dt).length (dt) := Kd.C_below (by repeat (first | exact Hd | refine Kd.C_alloc ?_ _ | refine Kd.C_drewN ?_ _ | refine Kd.C_drew ?_)) b3
  clear Hd; have Hd := Lib.hid Hd'; clear Hd'
  have Rown' : Kd.C k26 W3 Aown (l).length (l) := Kd.C_below (by repeat (first | exact Rown | refine Kd.C_alloc ?_ _ | refine Kd.C_drewN ?_ _ | refine Kd.C_drew ?_)) b3
  clear Rown; have Rown := Lib.hid Rown'; clear Rown'
  have Ra' : Kd.C k26 W3 Aa (sr).length (sr) := Kd.C_below (by repeat (first | exact Ra | refine Kd.C_alloc ?_ _ | refine Kd.C_drewN ?_ _ | refine Kd.C_drew ?_)) b3
  clear Ra; have Ra := Lib.hid Ra'; clear Ra'
  have HB' : Below W.heap.size W W3 := below_step (by repeat (first | exact HB | refine below_alloc ?_ _ | refine pw_below_drewN ?_ _ | refine below_drew1 ?_)) b3
  clear HB; have HB := Lib.hid HB'; clear HB'
  clear b3
  obtain ⟨Ab, cb, eb⟩ := Kd.S_slice h
  subst eb
  have rb := (Kd.S_reads' h).2.2
  have lb : (sr).length ≤ cb := (Kd.S_reads' h).2.1
  have Rb := Lib.hid rb; clear rb h
  go_wp2_with (first | (go_at_call 12; refine hold_of ?_))
  refine hold_mk ?_
  refine (net_Take.calls Aown cown l a t1 t2 t3 t4 _ (by repeat (first | exact Rown | refine Kd.C_alloc ?_ _ | refine Kd.C_drewN ?_ _ | refine Kd.C_drew ?_)) lown Ht1).mono ?_
  rintro e W4 ⟨v, v2, rfl, h, h2, b4⟩
  have Hl' : Kd.C k26 W4 A0 (l).length (l) := Kd.C_below (by repeat (first | exact Hl | refine Kd.C_alloc ?_ _ | refine Kd.C_drewN ?_ _ | refine Kd.C_drew ?_)) b4
  clear Hl; have Hl := Lib.hid Hl'; clear Hl'
  have Rown' : Kd.C k26 W4 Aown (l).length (l) := Kd.C_below (by repeat (first | exact Rown | refine Kd.C_alloc ?_ _ | refine Kd.C_drewN ?_ _ | refine Kd.C_drew ?_)) b4
  clear Rown; have Rown := Lib.hid Rown'; clear Rown'
  have Ra' : Kd.C k26 W4 Aa (sr).length (sr) := Kd.C_below (by repeat (first | exact Ra | refine Kd.C_alloc ?_ _ | refine Kd.C_drewN ?_ _ | refine Kd.C_drew ?_)) b4
  clear Ra; have Ra := Lib.hid Ra'; clear Ra'
  have Rb' : Kd.C k26 W4 Ab (sr).length (sr) := Kd.C_below (by repeat (first | exact Rb | refine Kd.C_alloc ?_ _ | refine Kd.C_drewN ?_ _ | refine Kd.C_drew ?_)) b4
  clear Rb; have Rb := Lib.hid Rb'; clear Rb'
  have HB' : Below W.heap.size W W4 := below_step (by repeat (first | exact HB | refine below_alloc ?_ _ | refine pw_below_drewN ?_ _ | refine below_drew1 ?_)) b4
  clear HB; have HB := Lib.hid HB'; clear HB'
  clear b4
  obtain ⟨Ac, cc, ec⟩ := Kd.V_slice h
  subst ec
  have rc := (Kd.V_reads' h).2.2
  have lc : (t1).length ≤ cc := (Kd.V_reads' h).2.1
  have Rc := Lib.hid rc; clear rc h
  obtain ⟨Ad, cd, ed⟩ := Kd.V_slice h2
  subst ed
  have rd := (Kd.V_reads' h2).2.2
  have ld : (t3).length ≤ cd := (Kd.V_reads' h2).2.1
  have Rd := Lib.hid rd; clear rd h2
  go_wp2_with (first | (go_at_call 16; refine hold_of ?_))
  refine hold_mk ?_
  refine (tidewayref05_Take.calls A0 c0 l a t1 t2 t3 t4 _ (by repeat (first | exact Hl | refine Kd.C_alloc ?_ _ | refine Kd.C_drewN ?_ _ | refine Kd.C_drew ?_)) hc0 Ht2).mono ?_
  rintro e W6 ⟨v, v2, rfl, h, h2, b6⟩
  have kc : W6.heap[W4.heap.size]? = some (.cells #[.slice Ac t1.length cc, .int .i64 t2] 26 (0, 0)) := (b6.block _ (by simp)).trans (blk_new W4 _)
  have kc0 : W6.cell? ⟨W4.heap.size, 0, none⟩ = some (.slice Ac t1.length cc) := (blk_cell kc 0).trans rfl
  have kc1 : W6.cell? ⟨W4.heap.size, 1, none⟩ = some (.int .i64 t2) := (blk_cell kc 1).trans rfl
  have klt : W4.heap.size < W6.heap.size := blk_lt kc
  have Hl' : Kd.C k26 W6 A0 (l).length (l) := Kd.C_below (by repeat (first | exact Hl | refine Kd.C_alloc ?_ _ | refine Kd.C_drewN ?_ _ | refine Kd.C_drew ?_)) b6
  clear Hl; have Hl := Lib.hid Hl'; clear Hl'
  have Rown' : Kd.C k26 W6 Aown (l).length (l) := Kd.C_below (by repeat (first | exact Rown | refine Kd.C_alloc ?_ _ | refine Kd.C_drewN ?_ _ | refine Kd.C_drew ?_)) b6
  clear Rown; have Rown := Lib.hid Rown'; clear Rown'
  have Ra' : Kd.C k26 W6 Aa (sr).length (sr) := Kd.C_below (by repeat (first | exact Ra | refine Kd.C_alloc ?_ _ | refine Kd.C_drewN ?_ _ | refine Kd.C_drew ?_)) b6
  clear Ra; have Ra := Lib.hid Ra'; clear Ra'
  have Rb' : Kd.C k26 W6 Ab (sr).length (sr) := Kd.C_below (by repeat (first | exact Rb | refine Kd.C_alloc ?_ _ | refine Kd.C_drewN ?_ _ | refine Kd.C_drew ?_)) b6
  clear Rb; have Rb := Lib.hid Rb'; clear Rb'
  have Rc' : Kd.C (Kd.int .u8) W6 Ac (t1).length (t1) := Kd.C_below (by repeat (first | exact Rc | refine Kd.C_alloc ?_ _ | refine Kd.C_drewN ?_ _ | refine Kd.C_drew ?_)) b6
  clear Rc; have Rc := Lib.hid Rc'; clear Rc'
  have Rd' : Kd.C k26 W6 Ad (t3).length (t3) := Kd.C_below (by repeat (first | exact Rd | refine Kd.C_alloc ?_ _ | refine Kd.C_drewN ?_ _ | refine Kd.C_drew ?_)) b6
  clear Rd; have Rd := Lib.hid Rd'; clear Rd'
  have HB' : Below W.heap.size W W6 := below_step (by repeat (first | exact HB | refine below_alloc ?_ _ | refine pw_below_drewN ?_ _ | refine below_drew1 ?_)) b6
  clear HB; have HB := Lib.hid HB'; clear HB'
  clear b6
  obtain ⟨Ax, cx, ex⟩ := Kd.V_slice h
  subst ex
  have rx := (Kd.V_reads' h).2.2
  have lx : (t1).length ≤ cx := (Kd.V_reads' h).2.1
  have Rx := Lib.hid rx; clear rx h
  obtain ⟨Ay, cy, ey⟩ := Kd.V_slice h2
  subst ey
  have ry := (Kd.V_reads' h2).2.2
  have ly : (t3).length ≤ cy := (Kd.V_reads' h2).2.1
  have Ry := Lib.hid ry; clear ry h2
  have Kc := Lib.hid kc; clear kc
  go_wp2_with (first | (go_at_call 17; refine hold_of ?_))
  refine hold_mk ?_
  refine (tidewayref05_Same.calls (l.length + 20) Aa ca (sr) Ab cb (sr) true _ (by repeat (first | exact Ra | refine Kd.C_alloc ?_ _ | refine Kd.C_drewN ?_ _ | refine Kd.C_drew ?_)) la (by repeat (first | exact Rb | refine Kd.C_alloc ?_ _ | refine Kd.C_drewN ?_ _ | refine Kd.C_drew ?_)) lb (Hsm _ hs3)).mono ?_
  rintro e wq ⟨rfl, nd, rfl⟩
  go_wp2_with (first | (go_at_call 17; refine hold_of ?_))
  refine hold_mk ?_
  refine (tidewayref05_Same.calls (l.length + 20) (some ⟨W6.heap.size + 1, 0, none⟩) 1 [⟨t1, t2⟩] (some ⟨W6.heap.size + 1 + 1, 0, none⟩) 1 [⟨t1, t2⟩] true _ (Kd.C_alloc (one_row (by first | rfl | (simp; done) | (show (World.alloc _ _).heap.size = _; simp; done) | (show (World.alloc (World.alloc _ _) _).heap.size = _; simp; done)) rfl lc (by repeat (first | exact Rc | refine Kd.C_alloc ?_ _ | refine Kd.C_drewN ?_ _ | refine Kd.C_drew ?_))) _) (Nat.le_refl _) (one_row (by first | rfl | (simp; done) | (show (World.alloc _ _).heap.size = _; simp; done) | (show (World.alloc (World.alloc _ _) _).heap.size = _; simp; done)) rfl lx (by repeat (first | exact Rx | refine Kd.C_alloc ?_ _ | refine Kd.C_drewN ?_ _ | refine Kd.C_drew ?_))) (Nat.le_refl _) (Hsm _ (by simp))).mono ?_
  rintro e wq ⟨rfl, nd2, rfl⟩
  go_wp2_with (first | (go_at_call 17; refine hold_of ?_))
  refine hold_mk ?_
  refine (tidewayref05_Same.calls (l.length + 20) Ad cd (t3) Ay cy (t3) true _ (by repeat (first | exact Rd | refine Kd.C_alloc ?_ _ | refine Kd.C_drewN ?_ _ | refine Kd.C_drew ?_)) ld (by repeat (first | exact Ry | refine Kd.C_alloc ?_ _ | refine Kd.C_drewN ?_ _ | refine Kd.C_drew ?_)) ly (Hsm _ (by omega))).mono ?_
  rintro e wq ⟨rfl, nd, rfl⟩
  go_wp2_with (first | (go_at_call 18; refine hold_of ?_))
  refine hold_mk ?_
  refine (net_Double.calls Aown cown l a dr de _ (by repeat (first | exact Rown | refine Kd.C_alloc ?_ _ | refine Kd.C_drewN ?_ _ | refine Kd.C_drew ?_)) lown Hd1).mono ?_
  rintro e W12 ⟨v, rfl, h, b12⟩
  have Hl' : Kd.C k26 W12 A0 (l).length (l) := Kd.C_below (by repeat (first | exact Hl | refine Kd.C_alloc ?_ _ | refine Kd.C_drewN ?_ _ | refine Kd.C_drew ?_)) b12
  clear Hl; have Hl := Lib.hid Hl'; clear Hl'
  have Rown' : Kd.C k26 W12 Aown (l).length (l) := Kd.C_below (by repeat (first | exact Rown | refine Kd.C_alloc ?_ _ | refine Kd.C_drewN ?_ _ | refine Kd.C_drew ?_)) b12
  clear Rown; have Rown := Lib.hid Rown'; clear Rown'
  have HB' : Below W.heap.size W W12 := below_step (by repeat (first | exact HB | refine below_alloc ?_ _ | refine pw_below_drewN ?_ _ | refine below_drew1 ?_)) b12
  clear HB; have HB := Lib.hid HB'; clear HB'
  clear b12
  obtain ⟨Am, cm, em⟩ := Kd.V_slice h
  subst em
  have rm := (Kd.V_reads' h).2.2
  have lm : (dr).length ≤ cm := (Kd.V_reads' h).2.1
  have Rm := Lib.hid rm; clear rm h
  go_wp2_with (first | (go_at_call 19; refine hold_of ?_))
  refine hold_mk ?_
  refine (tidewayref05_Double.calls (l.length + 20) A0 c0 l a dr de _ (by repeat (first | exact Hl | refine Kd.C_alloc ?_ _ | refine Kd.C_drewN ?_ _ | refine Kd.C_drew ?_)) hc0 Hd2).mono ?_
  rintro e W13 ⟨v, rfl, h, b13⟩
  have Hl' : Kd.C k26 W13 A0 (l).length (l) := Kd.C_below (by repeat (first | exact Hl | refine Kd.C_alloc ?_ _ | refine Kd.C_drewN ?_ _ | refine Kd.C_drew ?_)) b13
  clear Hl; have Hl := Lib.hid Hl'; clear Hl'
  have Rown' : Kd.C k26 W13 Aown (l).length (l) := Kd.C_below (by repeat (first | exact Rown | refine Kd.C_alloc ?_ _ | refine Kd.C_drewN ?_ _ | refine Kd.C_drew ?_)) b13
  clear Rown; have Rown := Lib.hid Rown'; clear Rown'
  have Rm' : Kd.C k26 W13 Am (dr).length (dr) := Kd.C_below (by repeat (first | exact Rm | refine Kd.C_alloc ?_ _ | refine Kd.C_drewN ?_ _ | refine Kd.C_drew ?_)) b13
  clear Rm; have Rm := Lib.hid Rm'; clear Rm'
  have HB' : Below W.heap.size W W13 := below_step (by repeat (first | exact HB | refine below_alloc ?_ _ | refine pw_below_drewN ?_ _ | refine below_drew1 ?_)) b13
  clear HB; have HB := Lib.hid HB'; clear HB'
  clear b13
  obtain ⟨An, cn, en⟩ := Kd.N_slice h
  subst en
  have rn := (Kd.N_reads' h).2.2
  have ln : (dr).length ≤ cn := (Kd.N_reads' h).2.1
  have Rn := Lib.hid rn; clear rn h
  go_wp2_with (first | (go_at_call 20; refine hold_of ?_))
  refine hold_mk ?_
  refine (net_Spoil.calls Aown cown l a b pr pe _ (by repeat (first | exact Rown | refine Kd.C_alloc ?_ _ | refine Kd.C_drewN ?_ _ | refine Kd.C_drew ?_)) lown Hp1).mono ?_
  rintro e W14 ⟨v, rfl, h, b14⟩
  have Hl' : Kd.C k26 W14 A0 (l).length (l) := Kd.C_below (by repeat (first | exact Hl | refine Kd.C_alloc ?_ _ | refine Kd.C_drewN ?_ _ | refine Kd.C_drew ?_)) b14
  clear Hl; have Hl := Lib.hid Hl'; clear Hl'
  have Rown' : Kd.C k26 W14 Aown (l).length (l) := Kd.C_below (by repeat (first | exact Rown | refine Kd.C_alloc ?_ _ | refine Kd.C_drewN ?_ _ | refine Kd.C_drew ?_)) b14
  clear Rown; have Rown := Lib.hid Rown'; clear Rown'
  have Rm' : Kd.C k26 W14 Am (dr).length (dr) := Kd.C_below (by repeat (first | exact Rm | refine Kd.C_alloc ?_ _ | refine Kd.C_drewN ?_ _ | refine Kd.C_drew ?_)) b14
  clear Rm; have Rm := Lib.hid Rm'; clear Rm'
  have Rn' : Kd.C k26 W14 An (dr).length (dr) := Kd.C_below (by repeat (first | exact Rn | refine Kd.C_alloc ?_ _ | refine Kd.C_drewN ?_ _ | refine Kd.C_drew ?_)) b14
  clear Rn; have Rn := Lib.hid Rn'; clear Rn'
  have HB' : Below W.heap.size W W14 := below_step (by repeat (first | exact HB | refine below_alloc ?_ _ | refine pw_below_drewN ?_ _ | refine below_drew1 ?_)) b14
  clear HB; have HB := Lib.hid HB'; clear HB'
  clear b14
  obtain ⟨Ao, co, eo⟩ := Kd.V_slice h
  subst eo
  have ro := (Kd.V_reads' h).2.2
  have lo : (pr).length ≤ co := (Kd.V_reads' h).2.1
  have Ro := Lib.hid ro; clear ro h
  go_wp2_with (first | (go_at_call 21; refine hold_of ?_))
  refine hold_mk ?_
  refine (tidewayref05_Spoil.calls (l.length + 20) A0 c0 l a b pr pe _ (by repeat (first | exact Hl | refine Kd.C_alloc ?_ _ | refine Kd.C_drewN ?_ _ | refine Kd.C_drew ?_)) hc0 Hp2).mono ?_
  rintro e W15 ⟨v, rfl, h, b15⟩
  have Hl' : Kd.C k26 W15 A0 (l).length (l) := Kd.C_below (by repeat (first | exact Hl | refine Kd.C_alloc ?_ _ | refine Kd.C_drewN ?_ _ | refine Kd.C_drew ?_)) b15
  clear Hl; have Hl := Lib.hid Hl'; clear Hl'
  have Rown' : Kd.C k26 W15 Aown (l).length (l) := Kd.C_below (by repeat (first | exact Rown | refine Kd.C_alloc ?_ _ | refine Kd.C_drewN ?_ _ | refine Kd.C_drew ?_)) b15
  clear Rown; have Rown := Lib.hid Rown'; clear Rown'
  have Rm' : Kd.C k26 W15 Am (dr).length (dr) := Kd.C_below (by repeat (first | exact Rm | refine Kd.C_alloc ?_ _ | refine Kd.C_drewN ?_ _ | refine Kd.C_drew ?_)) b15
  clear Rm; have Rm := Lib.hid Rm'; clear Rm'
  have Rn' : Kd.C k26 W15 An (dr).length (dr) := Kd.C_below (by repeat (first | exact Rn | refine Kd.C_alloc ?_ _ | refine Kd.C_drewN ?_ _ | refine Kd.C_drew ?_)) b15
  clear Rn; have Rn := Lib.hid Rn'; clear Rn'
  have Ro' : Kd.C k26 W15 Ao (pr).length (pr) := Kd.C_below (by repeat (first | exact Ro | refine Kd.C_alloc ?_ _ | refine Kd.C_drewN ?_ _ | refine Kd.C_drew ?_)) b15
  clear Ro; have Ro := Lib.hid Ro'; clear Ro'
  have HB' : Below W.heap.size W W15 := below_step (by repeat (first | exact HB | refine below_alloc ?_ _ | refine pw_below_drewN ?_ _ | refine below_drew1 ?_)) b15
  clear HB; have HB := Lib.hid HB'; clear HB'
  clear b15
  obtain ⟨Ap, cp, ep⟩ := Kd.S_slice h
  subst ep
  have rp := (Kd.S_reads' h).2.2
  have lp : (pr).length ≤ cp := (Kd.S_reads' h).2.1
  have Rp := Lib.hid rp; clear rp h
  go_wp2_with (first | (go_at_call 17; refine hold_of ?_))
  refine hold_mk ?_
  refine (tidewayref05_Same.calls (l.length + 20) Am cm (dr) An cn (dr) true _ (by repeat (first | exact Rm | refine Kd.C_alloc ?_ _ | refine Kd.C_drewN ?_ _ | refine Kd.C_drew ?_)) lm (by repeat (first | exact Rn | refine Kd.C_alloc ?_ _ | refine Kd.C_drewN ?_ _ | refine Kd.C_drew ?_)) ln (Hsm _ hd3)).mono ?_
  rintro e wq ⟨rfl, nd, rfl⟩
  go_wp2_with (first | (go_at_call 17; refine hold_of ?_))
  refine hold_mk ?_
  refine (tidewayref05_Same.calls (l.length + 20) Ao co (pr) Ap cp (pr) true _ (by repeat (first | exact Ro | refine Kd.C_alloc ?_ _ | refine Kd.C_drewN ?_ _ | refine Kd.C_drew ?_)) lo (by repeat (first | exact Rp | refine Kd.C_alloc ?_ _ | refine Kd.C_drewN ?_ _ | refine Kd.C_drew ?_)) lp (Hsm _ hp3)).mono ?_
  rintro e wq ⟨rfl, nd, rfl⟩
  go_wp2_with (first | (go_at_call 17; refine hold_of ?_))
  refine hold_mk ?_
  refine (tidewayref05_Same.calls (l.length + 20) Aown cown l A0 c0 l true _ (by repeat (first | exact Rown | refine Kd.C_alloc ?_ _ | refine Kd.C_drewN ?_ _ | refine Kd.C_drew ?_)) lown (by repeat (first | exact Hl | refine Kd.C_alloc ?_ _ | refine Kd.C_drewN ?_ _ | refine Kd.C_drew ?_)) hc0 (Hsm _ (by omega))).mono ?_
  rintro e wq ⟨rfl, nd5, rfl⟩
  go_wp2_with (first | (go_at_call 9; refine hold_of ?_))
  refine hold_mk ?_
  refine (tidewaylaw05_heads.calls (l.length + 20) true _ Hh).mono ?_
  rintro e W16 ⟨rfl, b16⟩
  have HB' : Below W.heap.size W W16 := below_step (by repeat (first | exact HB | refine below_alloc ?_ _ | refine pw_below_drewN ?_ _ | refine below_drew1 ?_)) b16
  clear b16
  have HBF := Lib.hid HB'; clear HB'
  go_wp2
  go_ret
  exact ⟨rfl, HBF⟩
end Go.Proofs.Ytpmiiokoialbmaa.Pure

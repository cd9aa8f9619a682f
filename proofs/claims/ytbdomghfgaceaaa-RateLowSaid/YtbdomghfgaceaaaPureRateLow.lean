/- Samples of a time that is too short tell no rate, and nothing else depends on that time. -/
import Derived.Test.YtbdomghfgaceaaaRateFacts
import Derived.Lib.Hide
set_option linter.unusedVariables false
set_option linter.unusedSimpArgs false
set_option autoImplicit false
namespace Go.Proofs.Ytbdomghfgaceaaa.Pure
open Go.RowKit Go.Proofs.Ytbdomghfgaceaaa.PA Go.Proofs.YtbdomghfgaceaaaW.PrintWords Go.Proofs.YtbdomghfgaceaaaW.PrintLast Go.Proofs.YtbdomghfgaceaaaW.PrintMore Go.Proofs.Ytbdomghfgaceaaa.RateFacts
set_option maxRecDepth 100000 in
set_option maxHeartbeats 8000000 in
theorem low_err (q0 q1 q2 q3 : Int) (A : Option Addr) (c : Nat) (l : List X) (now low : Int) (W : World) (hr : Kd.C k33 W A l.length l) (hc : l.length ≤ c) (r0 r1 r2 r3 r4 r5 r6 r7 r9 r10 r11 : Int) (r8 : Bool) (s0 s1 s2 s3 s4 s5 s6 s7 s9 s10 s11 : Int) (s8 : Bool) (e1 e2 : Int) (he : (e1 != 0) = true)
    (h1 : rate_Given.f q0 q1 q2 q3 l now 0 = some (r0, r1, r2, r3, r4, r5, r6, r7, r8, r9, r10, r11, e1)) (h2 : rate_Given.f q0 q1 q2 q3 l now low = some (s0, s1, s2, s3, s4, s5, s6, s7, s8, s9, s10, s11, e2)) :
    Calls Try.prog 3 #[.agg #[.int .i64 q0, .int .i64 q1, .int .i64 q2, .int .i64 q3], .slice A l.length c, .int .i64 now, .int .i64 low] W fun e W' => e = .returned (.bool true) ∧ Below W.heap.size W W' := by
  have H1 := Lib.hid h1; have H2 := Lib.hid h2; have HR := Lib.hid hr; have HC := Lib.hid hc
  clear h1 h2 hr hc
  skip
  have HQ := Lib.hid (blk_new W (.cells #[.int .i64 q0, .int .i64 q1, .int .i64 q2, .int .i64 q3] 23)); have HB0 := Lib.hid (below_alloc (Below.refl W.heap.size W) (.cells #[.int .i64 q0, .int .i64 q1, .int .i64 q2, .int .i64 q3] 23))
  have HRA := Lib.hid (Kd.C_alloc HR.out (.cells #[.int .i64 q0, .int .i64 q1, .int .i64 q2, .int .i64 q3] 23))
  go_enter Try.func3, Try.ntmps3
  go_wp2_with fail
  refine (rate_Given.calls q0 q1 q2 q3 A c l now 0 r0 r1 r2 r3 r4 r5 r6 r7 r8 r9 r10 r11 e1 _ HRA.out HC.out H1.out).mono ?_
  rintro e W1 ⟨rfl, hb⟩
  have HB1 := Lib.hid (below_step HB0.out hb)
  have b0 := blk_alloc (blk_alloc (blk_below HQ.out hb) (.cells #[.int .i64 r0, .int .i64 r1, .int .i64 r2, .int .i64 r3] 23)) (.cells #[.int .i64 r4, .int .i64 r5, .int .i64 r6, .int .i64 r7, .bool r8, .int .i64 r9, .int .i64 r10, .int .i64 r11] 26)
  have HR1 := Lib.hid (Kd.C_alloc (Kd.C_alloc (Kd.C_below HRA.out hb) (.cells #[.int .i64 r0, .int .i64 r1, .int .i64 r2, .int .i64 r3] 23)) (.cells #[.int .i64 r4, .int .i64 r5, .int .i64 r6, .int .i64 r7, .bool r8, .int .i64 r9, .int .i64 r10, .int .i64 r11] 26))
  have K1 := Lib.hid (blk_alloc (blk_new W1 (.cells #[.int .i64 r0, .int .i64 r1, .int .i64 r2, .int .i64 r3] 23)) (.cells #[.int .i64 r4, .int .i64 r5, .int .i64 r6, .int .i64 r7, .bool r8, .int .i64 r9, .int .i64 r10, .int .i64 r11] 26))
  have k2 : ((W1.alloc (.cells #[.int .i64 r0, .int .i64 r1, .int .i64 r2, .int .i64 r3] 23)).alloc (.cells #[.int .i64 r4, .int .i64 r5, .int .i64 r6, .int .i64 r7, .bool r8, .int .i64 r9, .int .i64 r10, .int .i64 r11] 26)).heap[W1.heap.size + 1]? = some (.cells #[.int .i64 r4, .int .i64 r5, .int .i64 r6, .int .i64 r7, .bool r8, .int .i64 r9, .int .i64 r10, .int .i64 r11] 26 (0, 0)) := blk_nx
  have K2 := Lib.hid k2
  clear hb k2
  have z0 := (blk_cell b0 0).trans rfl
  have z1 := (blk_cell b0 1).trans rfl
  have z2 := (blk_cell b0 2).trans rfl
  have z3 := (blk_cell b0 3).trans rfl
  clear b0
  go_wp2_with fail
  refine (rate_Given.calls q0 q1 q2 q3 A c l now low s0 s1 s2 s3 s4 s5 s6 s7 s8 s9 s10 s11 e2 _ HR1.out HC.out H2.out).mono ?_
  rintro e W2 ⟨rfl, hb⟩
  have HB2 := Lib.hid (below_step (below_alloc (below_alloc HB1.out _) _) hb)
  have L1 := Lib.hid (blk_below K1.out hb); have L2 := Lib.hid (blk_below K2.out hb)
  clear hb z0 z1 z2 z3
  go_wp2_with (go_at_call 8; refine (tidewaylaw17_heads.calls true _ rfl).mono ?_; rintro e W3 ⟨rfl, hb⟩; have HB3 := Lib.hid (below_step (below_alloc (below_alloc HB2.out _) _) hb); clear hb)
  go_ret
  exact ⟨rfl, HB3.out⟩
set_option maxRecDepth 100000 in
set_option maxHeartbeats 8000000 in
theorem low_arg (q0 q1 q2 q3 : Int) (A : Option Addr) (c : Nat) (l : List X) (now low : Int) (W : World) (hr : Kd.C k33 W A l.length l) (hc : l.length ≤ c) (r0 r1 r2 r3 r4 r5 r6 r7 r9 r10 r11 : Int) (r8 : Bool) (s0 s1 s2 s3 s4 s5 s6 s7 s9 s10 s11 : Int) (s8 : Bool)
    (h1 : rate_Given.f q0 q1 q2 q3 l now 0 = some (r0, r1, r2, r3, r4, r5, r6, r7, r8, r9, r10, r11, 0)) (h2 : rate_Given.f q0 q1 q2 q3 l now low = some (s0, s1, s2, s3, s4, s5, s6, s7, s8, s9, s10, s11, 2)) :
    Calls Try.prog 3 #[.agg #[.int .i64 q0, .int .i64 q1, .int .i64 q2, .int .i64 q3], .slice A l.length c, .int .i64 now, .int .i64 low] W fun e W' => e = .returned (.bool true) ∧ Below W.heap.size W W' := by
  have H1 := Lib.hid h1; have H2 := Lib.hid h2; have HR := Lib.hid hr; have HC := Lib.hid hc
  clear h1 h2 hr hc
  skip
  have HQ := Lib.hid (blk_new W (.cells #[.int .i64 q0, .int .i64 q1, .int .i64 q2, .int .i64 q3] 23)); have HB0 := Lib.hid (below_alloc (Below.refl W.heap.size W) (.cells #[.int .i64 q0, .int .i64 q1, .int .i64 q2, .int .i64 q3] 23))
  have HRA := Lib.hid (Kd.C_alloc HR.out (.cells #[.int .i64 q0, .int .i64 q1, .int .i64 q2, .int .i64 q3] 23))
  go_enter Try.func3, Try.ntmps3
  go_wp2_with fail
  refine (rate_Given.calls q0 q1 q2 q3 A c l now 0 r0 r1 r2 r3 r4 r5 r6 r7 r8 r9 r10 r11 0 _ HRA.out HC.out H1.out).mono ?_
  rintro e W1 ⟨rfl, hb⟩
  have HB1 := Lib.hid (below_step HB0.out hb)
  have b0 := blk_alloc (blk_alloc (blk_below HQ.out hb) (.cells #[.int .i64 r0, .int .i64 r1, .int .i64 r2, .int .i64 r3] 23)) (.cells #[.int .i64 r4, .int .i64 r5, .int .i64 r6, .int .i64 r7, .bool r8, .int .i64 r9, .int .i64 r10, .int .i64 r11] 26)
  have HR1 := Lib.hid (Kd.C_alloc (Kd.C_alloc (Kd.C_below HRA.out hb) (.cells #[.int .i64 r0, .int .i64 r1, .int .i64 r2, .int .i64 r3] 23)) (.cells #[.int .i64 r4, .int .i64 r5, .int .i64 r6, .int .i64 r7, .bool r8, .int .i64 r9, .int .i64 r10, .int .i64 r11] 26))
  have K1 := Lib.hid (blk_alloc (blk_new W1 (.cells #[.int .i64 r0, .int .i64 r1, .int .i64 r2, .int .i64 r3] 23)) (.cells #[.int .i64 r4, .int .i64 r5, .int .i64 r6, .int .i64 r7, .bool r8, .int .i64 r9, .int .i64 r10, .int .i64 r11] 26))
  have k2 : ((W1.alloc (.cells #[.int .i64 r0, .int .i64 r1, .int .i64 r2, .int .i64 r3] 23)).alloc (.cells #[.int .i64 r4, .int .i64 r5, .int .i64 r6, .int .i64 r7, .bool r8, .int .i64 r9, .int .i64 r10, .int .i64 r11] 26)).heap[W1.heap.size + 1]? = some (.cells #[.int .i64 r4, .int .i64 r5, .int .i64 r6, .int .i64 r7, .bool r8, .int .i64 r9, .int .i64 r10, .int .i64 r11] 26 (0, 0)) := blk_nx
  have K2 := Lib.hid k2
  clear hb k2
  have z0 := (blk_cell b0 0).trans rfl
  have z1 := (blk_cell b0 1).trans rfl
  have z2 := (blk_cell b0 2).trans rfl
  have z3 := (blk_cell b0 3).trans rfl
  clear b0
  go_wp2_with fail
  refine (rate_Given.calls q0 q1 q2 q3 A c l now low s0 s1 s2 s3 s4 s5 s6 s7 s8 s9 s10 s11 2 _ HR1.out HC.out H2.out).mono ?_
  rintro e W2 ⟨rfl, hb⟩
  have HB2 := Lib.hid (below_step (below_alloc (below_alloc HB1.out _) _) hb)
  have L1 := Lib.hid (blk_below K1.out hb); have L2 := Lib.hid (blk_below K2.out hb)
  clear hb z0 z1 z2 z3
  go_wp2_with (go_at_call 8; refine (tidewaylaw17_heads.calls true _ rfl).mono ?_; rintro e W3 ⟨rfl, hb⟩; have HB3 := Lib.hid (below_step (below_alloc (below_alloc HB2.out _) _) hb); clear hb)
  go_ret
  exact ⟨rfl, HB3.out⟩
set_option maxRecDepth 100000 in
set_option maxHeartbeats 8000000 in
theorem low_ok (q0 q1 q2 q3 : Int) (A : Option Addr) (c : Nat) (l : List X) (now low : Int) (W : World) (hr : Kd.C k33 W A l.length l) (hc : l.length ≤ c) (g p q d n k rt ra rb gg be fl : Int) (id : Bool) (hd : rb = ra ∨ rb ≠ ra ∧ rb = 0 ∧ 0 < low)
    (h1 : rate_Given.f q0 q1 q2 q3 l now 0 = some (g, p, q, d, n, k, rt, ra, id, gg, be, fl, 0)) (h2 : rate_Given.f q0 q1 q2 q3 l now low = some (g, p, q, d, n, k, rt, rb, id, gg, be, fl, 0)) :
    Calls Try.prog 3 #[.agg #[.int .i64 q0, .int .i64 q1, .int .i64 q2, .int .i64 q3], .slice A l.length c, .int .i64 now, .int .i64 low] W fun e W' => e = .returned (.bool true) ∧ Below W.heap.size W W' := by
  have H1 := Lib.hid h1; have H2 := Lib.hid h2; have HR := Lib.hid hr; have HC := Lib.hid hc
  clear h1 h2 hr hc
  have HD := Lib.hid hd; clear hd
  have HQ := Lib.hid (blk_new W (.cells #[.int .i64 q0, .int .i64 q1, .int .i64 q2, .int .i64 q3] 23)); have HB0 := Lib.hid (below_alloc (Below.refl W.heap.size W) (.cells #[.int .i64 q0, .int .i64 q1, .int .i64 q2, .int .i64 q3] 23))
  have HRA := Lib.hid (Kd.C_alloc HR.out (.cells #[.int .i64 q0, .int .i64 q1, .int .i64 q2, .int .i64 q3] 23))
  go_enter Try.func3, Try.ntmps3
  go_wp2_with fail
  refine (rate_Given.calls q0 q1 q2 q3 A c l now 0 g p q d n k rt ra id gg be fl 0 _ HRA.out HC.out H1.out).mono ?_
  rintro e W1 ⟨rfl, hb⟩
  have HB1 := Lib.hid (below_step HB0.out hb)
  have b0 := blk_alloc (blk_alloc (blk_below HQ.out hb) (.cells #[.int .i64 g, .int .i64 p, .int .i64 q, .int .i64 d] 23)) (.cells #[.int .i64 n, .int .i64 k, .int .i64 rt, .int .i64 ra, .bool id, .int .i64 gg, .int .i64 be, .int .i64 fl] 26)
  have HR1 := Lib.hid (Kd.C_alloc (Kd.C_alloc (Kd.C_below HRA.out hb) (.cells #[.int .i64 g, .int .i64 p, .int .i64 q, .int .i64 d] 23)) (.cells #[.int .i64 n, .int .i64 k, .int .i64 rt, .int .i64 ra, .bool id, .int .i64 gg, .int .i64 be, .int .i64 fl] 26))
  have K1 := Lib.hid (blk_alloc (blk_new W1 (.cells #[.int .i64 g, .int .i64 p, .int .i64 q, .int .i64 d] 23)) (.cells #[.int .i64 n, .int .i64 k, .int .i64 rt, .int .i64 ra, .bool id, .int .i64 gg, .int .i64 be, .int .i64 fl] 26))
  have k2 : ((W1.alloc (.cells #[.int .i64 g, .int .i64 p, .int .i64 q, .int .i64 d] 23)).alloc (.cells #[.int .i64 n, .int .i64 k, .int .i64 rt, .int .i64 ra, .bool id, .int .i64 gg, .int .i64 be, .int .i64 fl] 26)).heap[W1.heap.size + 1]? = some (.cells #[.int .i64 n, .int .i64 k, .int .i64 rt, .int .i64 ra, .bool id, .int .i64 gg, .int .i64 be, .int .i64 fl] 26 (0, 0)) := blk_nx
  have K2 := Lib.hid k2
  clear hb k2
  have z0 := (blk_cell b0 0).trans rfl
  have z1 := (blk_cell b0 1).trans rfl
  have z2 := (blk_cell b0 2).trans rfl
  have z3 := (blk_cell b0 3).trans rfl
  clear b0
  go_wp2_with fail
  refine (rate_Given.calls q0 q1 q2 q3 A c l now low g p q d n k rt rb id gg be fl 0 _ HR1.out HC.out H2.out).mono ?_
  rintro e W2 ⟨rfl, hb⟩
  have HB2 := Lib.hid (below_step (below_alloc (below_alloc HB1.out _) _) hb)
  have L1 := Lib.hid (blk_below K1.out hb); have L2 := Lib.hid (blk_below K2.out hb)
  clear hb z0 z1 z2 z3
  have M1 := Lib.hid (blk_alloc (blk_alloc L1.out (.cells #[.int .i64 g, .int .i64 p, .int .i64 q, .int .i64 d] 23)) (.cells #[.int .i64 n, .int .i64 k, .int .i64 rt, .int .i64 rb, .bool id, .int .i64 gg, .int .i64 be, .int .i64 fl] 26)); have M2 := Lib.hid (blk_alloc (blk_alloc L2.out (.cells #[.int .i64 g, .int .i64 p, .int .i64 q, .int .i64 d] 23)) (.cells #[.int .i64 n, .int .i64 k, .int .i64 rt, .int .i64 rb, .bool id, .int .i64 gg, .int .i64 be, .int .i64 fl] 26))
  have c3 : (((W2.alloc (.cells #[.int .i64 g, .int .i64 p, .int .i64 q, .int .i64 d] 23)).alloc (.cells #[.int .i64 n, .int .i64 k, .int .i64 rt, .int .i64 rb, .bool id, .int .i64 gg, .int .i64 be, .int .i64 fl] 26)).alloc (.cells #[.int .i64 n, .int .i64 k, .int .i64 rt, .int .i64 rb, .bool id, .int .i64 gg, .int .i64 be, .int .i64 fl] 26)).cell? ⟨W1.heap.size + 1, 3, none⟩ = some (.int .i64 ra) := (blk_cell (blk_alloc M2.out _) 3).trans rfl
  have a0 : (((W2.alloc (.cells #[.int .i64 g, .int .i64 p, .int .i64 q, .int .i64 d] 23)).alloc (.cells #[.int .i64 n, .int .i64 k, .int .i64 rt, .int .i64 rb, .bool id, .int .i64 gg, .int .i64 be, .int .i64 fl] 26)).alloc (.cells #[.int .i64 n, .int .i64 k, .int .i64 rt, .int .i64 ra, .bool id, .int .i64 gg, .int .i64 be, .int .i64 fl] 26)).cell? ⟨W1.heap.size, 0, none⟩ = some (.int .i64 g) := (blk_cell (blk_alloc M1.out _) 0).trans rfl
  have a1 : (((W2.alloc (.cells #[.int .i64 g, .int .i64 p, .int .i64 q, .int .i64 d] 23)).alloc (.cells #[.int .i64 n, .int .i64 k, .int .i64 rt, .int .i64 rb, .bool id, .int .i64 gg, .int .i64 be, .int .i64 fl] 26)).alloc (.cells #[.int .i64 n, .int .i64 k, .int .i64 rt, .int .i64 ra, .bool id, .int .i64 gg, .int .i64 be, .int .i64 fl] 26)).cell? ⟨W1.heap.size, 1, none⟩ = some (.int .i64 p) := (blk_cell (blk_alloc M1.out _) 1).trans rfl
  have a2 : (((W2.alloc (.cells #[.int .i64 g, .int .i64 p, .int .i64 q, .int .i64 d] 23)).alloc (.cells #[.int .i64 n, .int .i64 k, .int .i64 rt, .int .i64 rb, .bool id, .int .i64 gg, .int .i64 be, .int .i64 fl] 26)).alloc (.cells #[.int .i64 n, .int .i64 k, .int .i64 rt, .int .i64 ra, .bool id, .int .i64 gg, .int .i64 be, .int .i64 fl] 26)).cell? ⟨W1.heap.size, 2, none⟩ = some (.int .i64 q) := (blk_cell (blk_alloc M1.out _) 2).trans rfl
  have a3 : (((W2.alloc (.cells #[.int .i64 g, .int .i64 p, .int .i64 q, .int .i64 d] 23)).alloc (.cells #[.int .i64 n, .int .i64 k, .int .i64 rt, .int .i64 rb, .bool id, .int .i64 gg, .int .i64 be, .int .i64 fl] 26)).alloc (.cells #[.int .i64 n, .int .i64 k, .int .i64 rt, .int .i64 ra, .bool id, .int .i64 gg, .int .i64 be, .int .i64 fl] 26)).cell? ⟨W1.heap.size, 3, none⟩ = some (.int .i64 d) := (blk_cell (blk_alloc M1.out _) 3).trans rfl
  have b0 : (((W2.alloc (.cells #[.int .i64 g, .int .i64 p, .int .i64 q, .int .i64 d] 23)).alloc (.cells #[.int .i64 n, .int .i64 k, .int .i64 rt, .int .i64 rb, .bool id, .int .i64 gg, .int .i64 be, .int .i64 fl] 26)).alloc (.cells #[.int .i64 n, .int .i64 k, .int .i64 rt, .int .i64 ra, .bool id, .int .i64 gg, .int .i64 be, .int .i64 fl] 26)).cell? ⟨W1.heap.size + 1, 0, none⟩ = some (.int .i64 n) := (blk_cell (blk_alloc M2.out _) 0).trans rfl
  have b1 : (((W2.alloc (.cells #[.int .i64 g, .int .i64 p, .int .i64 q, .int .i64 d] 23)).alloc (.cells #[.int .i64 n, .int .i64 k, .int .i64 rt, .int .i64 rb, .bool id, .int .i64 gg, .int .i64 be, .int .i64 fl] 26)).alloc (.cells #[.int .i64 n, .int .i64 k, .int .i64 rt, .int .i64 ra, .bool id, .int .i64 gg, .int .i64 be, .int .i64 fl] 26)).cell? ⟨W1.heap.size + 1, 1, none⟩ = some (.int .i64 k) := (blk_cell (blk_alloc M2.out _) 1).trans rfl
  have b2 : (((W2.alloc (.cells #[.int .i64 g, .int .i64 p, .int .i64 q, .int .i64 d] 23)).alloc (.cells #[.int .i64 n, .int .i64 k, .int .i64 rt, .int .i64 rb, .bool id, .int .i64 gg, .int .i64 be, .int .i64 fl] 26)).alloc (.cells #[.int .i64 n, .int .i64 k, .int .i64 rt, .int .i64 ra, .bool id, .int .i64 gg, .int .i64 be, .int .i64 fl] 26)).cell? ⟨W1.heap.size + 1, 2, none⟩ = some (.int .i64 rt) := (blk_cell (blk_alloc M2.out _) 2).trans rfl
  have b3 : (((W2.alloc (.cells #[.int .i64 g, .int .i64 p, .int .i64 q, .int .i64 d] 23)).alloc (.cells #[.int .i64 n, .int .i64 k, .int .i64 rt, .int .i64 rb, .bool id, .int .i64 gg, .int .i64 be, .int .i64 fl] 26)).alloc (.cells #[.int .i64 n, .int .i64 k, .int .i64 rt, .int .i64 ra, .bool id, .int .i64 gg, .int .i64 be, .int .i64 fl] 26)).cell? ⟨W1.heap.size + 1, 3, none⟩ = some (.int .i64 ra) := (blk_cell (blk_alloc M2.out _) 3).trans rfl
  have b4 : (((W2.alloc (.cells #[.int .i64 g, .int .i64 p, .int .i64 q, .int .i64 d] 23)).alloc (.cells #[.int .i64 n, .int .i64 k, .int .i64 rt, .int .i64 rb, .bool id, .int .i64 gg, .int .i64 be, .int .i64 fl] 26)).alloc (.cells #[.int .i64 n, .int .i64 k, .int .i64 rt, .int .i64 ra, .bool id, .int .i64 gg, .int .i64 be, .int .i64 fl] 26)).cell? ⟨W1.heap.size + 1, 4, none⟩ = some (.bool id) := (blk_cell (blk_alloc M2.out _) 4).trans rfl
  have b5 : (((W2.alloc (.cells #[.int .i64 g, .int .i64 p, .int .i64 q, .int .i64 d] 23)).alloc (.cells #[.int .i64 n, .int .i64 k, .int .i64 rt, .int .i64 rb, .bool id, .int .i64 gg, .int .i64 be, .int .i64 fl] 26)).alloc (.cells #[.int .i64 n, .int .i64 k, .int .i64 rt, .int .i64 ra, .bool id, .int .i64 gg, .int .i64 be, .int .i64 fl] 26)).cell? ⟨W1.heap.size + 1, 5, none⟩ = some (.int .i64 gg) := (blk_cell (blk_alloc M2.out _) 5).trans rfl
  have b6 : (((W2.alloc (.cells #[.int .i64 g, .int .i64 p, .int .i64 q, .int .i64 d] 23)).alloc (.cells #[.int .i64 n, .int .i64 k, .int .i64 rt, .int .i64 rb, .bool id, .int .i64 gg, .int .i64 be, .int .i64 fl] 26)).alloc (.cells #[.int .i64 n, .int .i64 k, .int .i64 rt, .int .i64 ra, .bool id, .int .i64 gg, .int .i64 be, .int .i64 fl] 26)).cell? ⟨W1.heap.size + 1, 6, none⟩ = some (.int .i64 be) := (blk_cell (blk_alloc M2.out _) 6).trans rfl
  have b7 : (((W2.alloc (.cells #[.int .i64 g, .int .i64 p, .int .i64 q, .int .i64 d] 23)).alloc (.cells #[.int .i64 n, .int .i64 k, .int .i64 rt, .int .i64 rb, .bool id, .int .i64 gg, .int .i64 be, .int .i64 fl] 26)).alloc (.cells #[.int .i64 n, .int .i64 k, .int .i64 rt, .int .i64 ra, .bool id, .int .i64 gg, .int .i64 be, .int .i64 fl] 26)).cell? ⟨W1.heap.size + 1, 7, none⟩ = some (.int .i64 fl) := (blk_cell (blk_alloc M2.out _) 7).trans rfl
  rcases HD.out with rfl | ⟨hne, rfl, hlow⟩
  · have hlow := True.intro
    go_wp2_with (go_at_call 8; refine (tidewaylaw17_heads.calls true _ rfl).mono ?_; rintro e W3 ⟨rfl, hb⟩; have HB3 := Lib.hid (below_step (below_alloc (below_alloc (below_alloc HB2.out _) _) _) hb); clear hb)
    go_ret
    exact ⟨rfl, HB3.out⟩
  · have c1 : ((0 : Int) == ra) = false := beq_eq_false_iff_ne.mpr hne
    have c2 : decide (0 < low) = true := decide_eq_true hlow
    clear hne hlow
    go_wp2_with (go_at_call 8; refine (tidewaylaw17_heads.calls true _ rfl).mono ?_; rintro e W3 ⟨rfl, hb⟩; have HB3 := Lib.hid (below_step (below_alloc (below_alloc (below_alloc HB2.out _) _) _) hb); clear hb)
    go_ret
    exact ⟨rfl, HB3.out⟩
theorem RateLow_calls (q0 q1 q2 q3 : Int) (A : Option Addr) (c : Nat) (l : List X) (now low : Int) (W : World) (hr : Kd.C k33 W A l.length l) (hc : l.length ≤ c) (w0 : WfK ⟨q0, q1, q2, q3⟩) (w1 : WfL l) (w2 : (Lit.int .i64 now).wf = true) (w3 : (Lit.int .i64 low).wf = true) :
    Calls Try.prog 3 #[.agg #[.int .i64 q0, .int .i64 q1, .int .i64 q2, .int .i64 q3], .slice A l.length c, .int .i64 now, .int .i64 low] W fun e W' => e = .returned (.bool true) ∧ Below W.heap.size W W' := by
  have hz : Tm 0 := ⟨by omega, by unfold M; omega⟩
  by_cases h1 : rt_chk (⟨q0, q1, q2, q3⟩ : R) = 0
  · by_cases h2 : Tm now
    · by_cases h3 : l.all rt_rec = true
      · obtain ⟨g, a, o, _, _, ho, e1, e0⟩ := given_ok (⟨q0, q1, q2, q3⟩ : R) l now 0 h1 h2 hz h3 w1.1
        by_cases h4 : Tm low
        · obtain ⟨g', a', o', _, _, _, e2, e0'⟩ := given_ok (⟨q0, q1, q2, q3⟩ : R) l now low h1 h2 h4 h3 w1.1
          rw [e0] at e0'
          simp only [Prod.mk.injEq] at e0'
          obtain ⟨rfl, rfl, rfl⟩ := e0'
          by_cases h5 : l.length = 0
          · rw [if_pos h5] at e1 e2
            exact low_ok q0 q1 q2 q3 A c l now low W hr hc _ _ _ _ _ _ _ _ _ _ _ _ _ (Or.inl rfl) e1 e2
          · rw [if_neg h5] at e1 e2
            refine low_ok q0 q1 q2 q3 A c l now low W hr hc _ _ _ _ _ _ _ _ _ _ _ _ _ ?_ e1 e2
            unfold RateFacts.rate
            have hm := mxs 1 low; have hm0 := mxs 1 0
            by_cases h6 : rt_t o now ≥ mx 1 low ∧ o.f8 < g
            · rw [if_pos h6, if_pos ⟨by omega, h6.2⟩]; exact Or.inl rfl
            · rw [if_neg h6]
              by_cases h7 : rt_t o now ≥ mx 1 0 ∧ o.f8 < g
              · have hl : 0 < low := by
                  by_cases hl : 0 < low
                  · exact hl
                  · exact absurd ⟨by omega, h7.2⟩ h6
                rw [if_pos h7]
                by_cases h8 : (0 : Int) = mn ((g - o.f8) * 1000000 / rt_t o now) 9223372036854775807
                · exact Or.inl h8
                · exact Or.inr ⟨h8, rfl, hl⟩
              · rw [if_neg h7]; exact Or.inl rfl
        · have e2 := given_arg (⟨q0, q1, q2, q3⟩ : R) l now low h1 (fun h => h4 h.2)
          by_cases h5 : l.length = 0
          · rw [if_pos h5] at e1
            exact low_arg q0 q1 q2 q3 A c l now low W hr hc _ _ _ _ _ _ _ _ _ _ _ _ _ _ _ _ _ _ _ _ _ _ _ _ e1 e2
          · rw [if_neg h5] at e1
            exact low_arg q0 q1 q2 q3 A c l now low W hr hc _ _ _ _ _ _ _ _ _ _ _ _ _ _ _ _ _ _ _ _ _ _ _ _ e1 e2
      · have e1 := given_recs (⟨q0, q1, q2, q3⟩ : R) l now 0 h1 ⟨h2, hz⟩ h3
        by_cases h4 : Tm low
        · exact low_err q0 q1 q2 q3 A c l now low W hr hc _ _ _ _ _ _ _ _ _ _ _ _ _ _ _ _ _ _ _ _ _ _ _ _ 2 2 rfl e1 (given_recs (⟨q0, q1, q2, q3⟩ : R) l now low h1 ⟨h2, h4⟩ h3)
        · exact low_err q0 q1 q2 q3 A c l now low W hr hc _ _ _ _ _ _ _ _ _ _ _ _ _ _ _ _ _ _ _ _ _ _ _ _ 2 2 rfl e1 (given_arg (⟨q0, q1, q2, q3⟩ : R) l now low h1 (fun h => h4 h.2))
    · exact low_err q0 q1 q2 q3 A c l now low W hr hc _ _ _ _ _ _ _ _ _ _ _ _ _ _ _ _ _ _ _ _ _ _ _ _ 2 2 rfl (given_arg (⟨q0, q1, q2, q3⟩ : R) l now 0 h1 (fun h => h2 h.1)) (given_arg (⟨q0, q1, q2, q3⟩ : R) l now low h1 (fun h => h2 h.1))
  · exact low_err q0 q1 q2 q3 A c l now low W hr hc _ _ _ _ _ _ _ _ _ _ _ _ _ _ _ _ _ _ _ _ _ _ _ _ 230 230 rfl (given_state (⟨q0, q1, q2, q3⟩ : R) l now 0 h1) (given_state (⟨q0, q1, q2, q3⟩ : R) l now low h1)
end Go.Proofs.Ytbdomghfgaceaaa.Pure

/- What must come at any rate, walked: the statements' heads of layer 3. -/
import Derived.Test.YtenpekakmkemeaaWirePlain
import Derived.Test.YtenpekakmkemeaaPAx6
set_option linter.unusedVariables false
set_option linter.unusedSimpArgs false
set_option autoImplicit false
namespace Go.Proofs.Ytenpekakmkemeaa.WireG
open Go.RowKit Go.Proofs.Ytenpekakmkemeaa.PA Go.Proofs.YtenpekakmkemeaaW.PrintWords Go.Proofs.YtenpekakmkemeaaW.PrintMore
abbrev SEG (s : SG) (A13 : Option Addr) (c13 : Nat) (A14 : Option Addr) (c14 : Nat) : Value := .agg (wgcells s (.slice A13 s.f13.length c13) (.slice A14 s.f14.length c14))
/-- A segment that is read. -/
structure SegC (W : World) (s : SG) (A13 : Option Addr) (c13 : Nat) (A14 : Option Addr) (c14 : Nat) : Prop where
  h13 : Kd.C k56 W A13 s.f13.length s.f13
  l13 : s.f13.length ≤ c13
  h14 : Kd.C (Kd.int .u8) W A14 s.f14.length s.f14
  l14 : s.f14.length ≤ c14
theorem SegC.below {W W' : World} {s : SG} {A13 : Option Addr} {c13 : Nat} {A14 : Option Addr} {c14 : Nat} (h : SegC W s A13 c13 A14 c14) (hb : Below W.heap.size W W') : SegC W' s A13 c13 A14 c14 := ⟨Kd.C_below h.h13 hb, h.l13, Kd.C_below h.h14 hb, h.l14⟩
theorem SegC.of {W : World} {base base' : Nat} {ok ok' : Nat → Prop} {s : SG} {A13 : Option Addr} {c13 : Nat} {A14 : Option Addr} {c14 : Nat} (h13 : Kd.R k56 56 W base ok (.slice A13 s.f13.length c13) s.f13) (h14 : Kd.R (Kd.int .u8) 5 W base' ok' (.slice A14 s.f14.length c14) s.f14) : SegC W s A13 c13 A14 c14 :=
  ⟨(Kd.R_reads' h13).2.2, (Kd.R_reads' h13).2.1, (Kd.R_reads' h14).2.2, (Kd.R_reads' h14).2.1⟩
theorem same_l (s : SG) (hs : s.f13.length ≤ 1000) : ∀ (d i k : Nat), s.f13.length - i = d → i ≤ s.f13.length → d < k →
    tidewayref03_Same.l0 k (i : Int) s.f0 s.f1 s.f2 s.f3 s.f4 s.f5 s.f6 s.f7 s.f8 s.f9 s.f10 s.f11 s.f12 s.f13 s.f14 s.f0 s.f1 s.f2 s.f3 s.f4 s.f5 s.f6 s.f7 s.f8 s.f9 s.f10 s.f11 s.f12 s.f13 s.f14 = some true := by
  intro d
  induction d with
  | zero =>
    intro i k hd hi hk
    obtain ⟨k, rfl⟩ : ∃ j, k = j + 1 := ⟨k - 1, by omega⟩
    have c : ¬ (i : Int) < (s.f13.length : Int) := by omega
    rw [tidewayref03_Same.l0, if_neg c, tidewayref02_Same.f]
    simp only [Option.bind_some, beq_self_eq_true]
  | succ d ih =>
    intro i k hd hi hk
    obtain ⟨k, rfl⟩ : ∃ j, k = j + 1 := ⟨k - 1, by omega⟩
    have c : (i : Int) < (s.f13.length : Int) := by omega
    have c0 : (0 : Int) ≤ (i : Int) := by omega
    have hw : wrap64 ((i : Int) + 1) = ((i + 1 : Nat) : Int) := by rw [wg_w64 (by omega) (by omega)]; rfl
    rw [tidewayref03_Same.l0, if_pos c, if_pos c0, if_pos c, hw, ih (i + 1) k (by omega) (by omega) (by omega)]
    simp only [beq_self_eq_true, Bool.not_true, Bool.or_self, Bool.false_eq_true, if_false]
theorem same_refl (s : SG) (hs : s.f13.length ≤ 1000) : tidewayref03_Same.f 1005 s.f0 s.f1 s.f2 s.f3 s.f4 s.f5 s.f6 s.f7 s.f8 s.f9 s.f10 s.f11 s.f12 s.f13 s.f14 s.f0 s.f1 s.f2 s.f3 s.f4 s.f5 s.f6 s.f7 s.f8 s.f9 s.f10 s.f11 s.f12 s.f13 s.f14 = some true := by
  have h := same_l s hs s.f13.length 0 1003 (by omega) (by omega) (by omega)
  rw [show ((0 : Nat) : Int) = 0 from rfl] at h
  rw [tidewayref03_Same.f]
  simp only [if_true, bne_self_eq_false]
  rw [tidewayref03_Same.j0]
  simp only [if_true, bne_self_eq_false, Bool.false_eq_true, if_false]
  rw [tidewayref03_Same.j1, if_neg (by decide)]
  exact h
theorem wl_same (s : SG) (hs : s.f13.length ≤ 1000) (A13 : Option Addr) (c13 : Nat) (A14 : Option Addr) (c14 : Nat) (B13 : Option Addr) (d13 : Nat) (B14 : Option Addr) (d14 : Nat) (W : World) (h1 : SegC W s A13 c13 A14 c14) (h2 : SegC W s B13 d13 B14 d14) :
    Calls Try.prog 10 #[SEG s A13 c13 A14 c14, SEG s B13 d13 B14 d14] W fun e w' => e = .returned (.bool true) ∧ Below W.heap.size W w' := by
  refine (tidewayref03_Same.calls 1005 _ _ _ _ _ _ _ _ _ _ _ _ _ A13 c13 s.f13 A14 c14 s.f14 _ _ _ _ _ _ _ _ _ _ _ _ _ B13 d13 s.f13 B14 d14 s.f14 true W h1.h13 h1.l13 h1.h14 h1.l14 h2.h13 h2.l13 h2.h14 h2.l14 (same_refl s hs)).mono ?_
  intro e w' h
  exact ⟨h.1, by first | exact h.2 | exact h.2.below⟩
def s0 : SG := ⟨1, 2, 3, 0, 16, 0, 0, -1, -1, false, true, 7, 0, [], [9]⟩
theorem s0_chk : chk s0 = true := by decide +kernel
theorem s0_sum : sum_Sum.f [pseu 5 6 ((putB s0).length : Int), putB s0] = some 28326 := by decide +kernel
theorem s0_len : (putF 28326 s0).length = 33 := by decide +kernel
theorem s0_v1 : sum_Valid.f [four8 5 ++ four8 6 ++ [0, 6, (((putF 28326 s0).length : Int) / 256) % 256, ((putF 28326 s0).length : Int) % 256], putF 28326 s0] = some true := by decide +kernel
theorem s0_v2 : sum_Valid.f [four8 5 ++ four8 7 ++ [0, 6, (((putF 28326 s0).length : Int) / 256) % 256, ((putF 28326 s0).length : Int) % 256], putF 28326 s0] = some false := by decide +kernel
theorem s0_v3 : ∃ v, sum_Valid.f [four8 5 ++ four8 6 ++ [0, 6, ((((putF 28326 s0).take 19).length : Int) / 256) % 256, (((putF 28326 s0).take 19).length : Int) % 256], (putF 28326 s0).take 19] = some v := ⟨false, by kernel_rfl⟩
theorem s0_b : wgb (putF 28326 s0) := by
  have : (putF 28326 s0).all (fun c => decide (0 ≤ c) && decide (c ≤ 255)) = true := by decide +kernel
  intro c hc
  have := List.all_eq_true.1 this c hc
  simpa using this
theorem s0_wf : WfS s0 := ⟨⟨by decide, by decide⟩, ⟨by decide, by decide⟩, ⟨by decide, by decide⟩, ⟨by decide, by decide⟩, fun x hx => by simp [s0] at hx, fun c hc => by simp [s0] at hc; subst hc; exact ⟨by decide, by decide⟩⟩
theorem s0_g1 : wgget true (putF 28326 s0) = (s0, 0) := get_put _ _ s0_wf s0_chk
theorem s0_g2 : wgget false (putF 28326 s0) = (z26, 3) := by kernel_rfl
theorem s0_g3 (v : Bool) : wgget v ((putF 28326 s0).take 19) = (z26, 1) := by cases v <;> kernel_rfl
/-- A whole variable is loaded, by an operation that a guard lets through. -/
theorem wl_load {ops : Array Oper} {rest : List Oper} {o : Oper} {a : Act} {w : World} {Q : Exit → Act → World → Prop} (hw : Region.wanted o (yielded ops a.tmps) = true) (x : Operand) (ho : o.op = .load 26 x)
    (g : Nat) (hx : a.eval x = .pointer (some ⟨g, 0, none⟩)) (s : SG) (v d : Value) (hg : w.heap[g]? = some (.cells (wgcells s v d) 26 (0, 0)))
    (h : wpList Try.prog ops Q rest (a.put o.dst (.agg (wgcells s v d))) w) : wpList Try.prog ops Q (o :: rest) a w :=
  wpList_step fun K hK => by
    simp only [hw, if_true]
    exact wp_load_row 26 x ho g hx 26 _ (0, 0) _ hg Try.underlying26 rfl (by kernel_rfl) (hK _ _ h)
/-- A segment that Get has handed back is laid into a new variable. -/
theorem wl_laid {w w3 w4 : World} {base g : Nat} {s : SG} {A13 : Option Addr} {c13 : Nat} {A14 : Option Addr} {c14 : Nat} {cs : Array Value} (hb : Below base w w3) (hbase : base ≤ w3.heap.size) (hg : w3.heap.size = g) (h4 : w4.heap[g]? = some (.cells (wgcells s (.slice A13 s.f13.length c13) (.slice A14 s.f14.length c14)) 26 (0, 0))) (hg4 : (w3.alloc (.cells cs 26)).grownBy w4 (some g)) (hs : SegC w3 s A13 c13 A14 c14) :
    Below base w w4 ∧ Below w3.heap.size w3 w4 ∧ SegC w4 s A13 c13 A14 c14 := by
  have b1 : Below w3.heap.size w3 w4 := ((Below.refl _ w3).alloc (Nat.le_refl _) _).grown hg4 (by simp) (fun k hk => by cases hk; omega)
  exact ⟨hb.trans (b1.mono hbase), b1, hs.below b1⟩
set_option maxRecDepth 100000 in
set_option maxHeartbeats 16000000 in
theorem wl_heads (w : World) : Calls Try.prog 11 #[] w fun e w' => e = .returned (.bool true) ∧ Below w.heap.size w w' := by
  go_enter Try.func11, Try.ntmps11
  go_upto_region 2 with (fail)
  obtain ⟨g, hg⟩ : ∃ g, w.heap.size + 1 = g := ⟨_, rfl⟩
  have HB1 := Lib.hid (show Below w.heap.size w ((w.alloc (.cells #[.int .u8 9] 5)).alloc (.cells #[.int .i64 1, .int .i64 2, .int .u32 3, .int .u32 0, .int .i64 16, .int .i64 0, .int .i64 0, .int .i64 (-1), .int .i64 (-1), .bool false, .bool true, .int .u32 7, .int .u32 0, .slice none 0 0, .slice (some ⟨w.heap.size, 0, none⟩) 1 1] 26)) from ((Below.refl _ w).alloc (Nat.le_refl _) _).alloc (by simp) _)
  have HG1 := Lib.hid (show ((w.alloc (.cells #[.int .u8 9] 5)).alloc (.cells #[.int .i64 1, .int .i64 2, .int .u32 3, .int .u32 0, .int .i64 16, .int .i64 0, .int .i64 0, .int .i64 (-1), .int .i64 (-1), .bool false, .bool true, .int .u32 7, .int .u32 0, .slice none 0 0, .slice (some ⟨w.heap.size, 0, none⟩) 1 1] 26)).heap[g]? = some (.cells (wgcells s0 (.slice none 0 0) (.slice (some ⟨w.heap.size, 0, none⟩) 1 1)) 26 (0, 0)) from by rw [← hg]; exact (by have h_ := blk_new (w.alloc (.cells #[.int .u8 9] 5)) (.cells #[.int .i64 1, .int .i64 2, .int .u32 3, .int .u32 0, .int .i64 16, .int .i64 0, .int .i64 0, .int .i64 (-1), .int .i64 (-1), .bool false, .bool true, .int .u32 7, .int .u32 0, .slice none 0 0, .slice (some ⟨w.heap.size, 0, none⟩) 1 1] 26); rwa [World.size_alloc] at h_))
  have HS1 := Lib.hid (show SegC ((w.alloc (.cells #[.int .u8 9] 5)).alloc (.cells #[.int .i64 1, .int .i64 2, .int .u32 3, .int .u32 0, .int .i64 16, .int .i64 0, .int .i64 0, .int .i64 (-1), .int .i64 (-1), .bool false, .bool true, .int .u32 7, .int .u32 0, .slice none 0 0, .slice (some ⟨w.heap.size, 0, none⟩) 1 1] 26)) s0 none 0 (some ⟨w.heap.size, 0, none⟩) 1 from ⟨Kd.C_nil _ _, Nat.le_refl _, Kd.C_alloc (reads_lit w [9] 5 (by simp)) _, Nat.le_refl _⟩)
  rw [hg]
  clear hg
  obtain ⟨b0, hb0⟩ : ∃ b, w.heap.size = b := ⟨_, rfl⟩
  have HBB0 := Lib.hid hb0
  generalize ((w.alloc (.cells #[.int .u8 9] 5)).alloc (.cells #[.int .i64 1, .int .i64 2, .int .u32 3, .int .u32 0, .int .i64 16, .int .i64 0, .int .i64 0, .int .i64 (-1), .int .i64 (-1), .bool false, .bool true, .int .u32 7, .int .u32 0, .slice none 0 0, .slice (some ⟨w.heap.size, 0, none⟩) 1 1] 26)) = W1 at HB1 HG1 HS1 ⊢
  rw [hb0] at HG1 HS1 ⊢
  clear hb0
  go_upto_region 3 with (first
    | (refine gate_ (.load 26 (.tmp 1)) rfl ?_; refine wpList_load_row rfl 26 (.tmp 1) rfl g rfl 26 _ (0, 0) _ HG1.out Try.underlying26 rfl (by kernel_rfl) ?_)
    | (go_at_call 15; refine (wp_ok s0 none 0 (some ⟨b0, 0, none⟩) 1 5 6 28326 W1 HS1.out.h13 HS1.out.l13 HS1.out.h14 HS1.out.l14 s0_chk s0_sum).mono ?_; rintro e w2 ⟨hb2, gb, cap, rfl, hR⟩; have HB2 := Lib.hid (below_step HB1.out hb2); have HR2 := Lib.hid hR; have HG2 := Lib.hid (blk_below HG1.out hb2); have HS2 := Lib.hid (HS1.out.below hb2); clear hb2 hR))
  obtain ⟨B, hB⟩ : ∃ B, putF 28326 s0 = B := ⟨_, rfl⟩
  have hn := s0_len; have v1 := s0_v1; have v2 := s0_v2; have v3 := s0_v3; have hwb := s0_b; have g1 := s0_g1; have g2 := s0_g2; have g3 := s0_g3
  rw [hB] at hn v1 v2 v3 hwb g1 g2 g3 HR2 ⊢
  obtain ⟨vv, v3⟩ := v3
  have g3 := g3 vv
  have HN := Lib.hid hn; have V1 := Lib.hid v1; have V2 := Lib.hid v2; have V3 := Lib.hid v3; have WB := Lib.hid hwb; have G1 := Lib.hid g1; have G2 := Lib.hid g2; have G3 := Lib.hid g3
  have hcap := (Kd.R_reads' HR2.out).2.1
  have HCAP := Lib.hid hcap
  obtain ⟨u0, hu0, _, hsz, _⟩ := info_parts info5
  have cut19 := cut_to (P := Try.prog) 22 5 .i64 Try.underlying22 hu0 (some ⟨gb, 0, none⟩) B.length cap (19 : Int) (by omega) (by omega) hcap
  simp only [show ((19 : Int)).toNat = 19 from rfl] at cut19
  have l19 : (B.take 19).length = 19 := by rw [List.length_take]; omega
  have K3 := Lib.hid (fun (W : World) (hC : Kd.C (Kd.int .u8) W (some ⟨gb, 0, none⟩) B.length B) => wg_Get (some ⟨gb, 0, none⟩) cap (B.take 19) 5 6 vv W (Kd.C_take (m := 19) hC (by omega)) (by omega) (fun x hx => hwb x (List.mem_of_mem_take hx)) v3)
  rw [l19] at K3
  have c19 : decide ((B.length : Int) < 19) = false := decide_eq_false (by omega)
  have c33 : ((B.length : Int) == 33) = true := by rw [hn]; rfl
  clear hn v1 v2 v3 hwb g1 g2 g3 hB hcap l19
  go_upto_region 4 with (first
    | (go_at_call 8; refine (wg_Get (some ⟨gb, 0, none⟩) cap B 5 6 true w2 (Kd.R_reads' HR2.out).2.2 HCAP.out WB.out V1.out).mono ?_; rintro e w4a ⟨hb, v13, v14, rfl, r13, r14⟩; rw [G1.out] at r13 r14; rw [G1.out]; obtain ⟨A13_4, c13_4, e13⟩ := Kd.R_slice r13; obtain ⟨A14_4, c14_4, e14⟩ := Kd.R_slice r14; subst e13; subst e14; have HB4a := Lib.hid (below_step HB2.out hb); have HR4a := Lib.hid (Kd.R_below HR2.out hb); have HG4a := Lib.hid (blk_below HG2.out hb); have HS4a := Lib.hid (HS2.out.below hb); have HX4a := Lib.hid (SegC.of r13 r14); clear hb r13 r14)
    | (refine gate_ (.store 26 (.tmp 4) (.tmp 20)) rfl ?_; refine wg_store_op rfl rfl 26 (.tmp 4) (.tmp 20) rfl _ _ _ 26 _ rfl rfl rfl (by kernel_rfl) rfl (blk_new w4a _) rfl ?_; intro w4 h4 hg4))
  obtain ⟨hb, hbk, hx⟩ := wl_laid HB4a.out (Below.size HB4a.out) rfl h4 hg4 HX4a.out
  have HB4 := Lib.hid hb; have HR4 := Lib.hid (Kd.R_below HR4a.out hbk); have HG4 := Lib.hid (blk_below HG4a.out hbk); have HS4 := Lib.hid (HS4a.out.below hbk); have HX4 := Lib.hid hx
  obtain ⟨g4, hg4n⟩ : ∃ g4, w4a.heap.size = g4 := ⟨_, rfl⟩
  rw [hg4n] at h4 ⊢
  have HY4 := Lib.hid h4
  clear h4 hg4 hb hbk hx hg4n
  have n0 : wgno 0 = 0 := rfl
  have n1 : wgno 1 = 30 := rfl
  have n3 : wgno 3 = 32 := rfl
  go_upto_region 7 with (first
    | (go_at_call 8; refine (wg_Get (some ⟨gb, 0, none⟩) cap B 5 7 false w4 (Kd.R_reads' HR4.out).2.2 HCAP.out WB.out V2.out).mono ?_; rintro e w5a ⟨hb, v13, v14, rfl, r13, r14⟩; rw [G2.out] at r13 r14; rw [G2.out]; obtain ⟨A13_5, c13_5, e13⟩ := Kd.R_slice r13; obtain ⟨A14_5, c14_5, e14⟩ := Kd.R_slice r14; subst e13; subst e14; have HB5a := Lib.hid (below_step HB4.out hb); have HR5a := Lib.hid (Kd.R_below HR4.out hb); have HG5a := Lib.hid (blk_below HG4.out hb); have HS5a := Lib.hid (HS4.out.below hb); have HY5a := Lib.hid (blk_below HY4.out hb); have HX5a := Lib.hid (HX4.out.below hb); have HZ5a := Lib.hid (SegC.of r13 r14); clear hb r13 r14)
    | (refine gate_ (.store 26 (.tmp 6) (.tmp 28)) rfl ?_; refine wg_store_op rfl rfl 26 (.tmp 6) (.tmp 28) rfl _ _ _ 26 _ rfl rfl rfl (by kernel_rfl) rfl (blk_new w5a _) rfl ?_; intro w5 h5 hg5))
  obtain ⟨hb, hbk, hx⟩ := wl_laid HB5a.out (Below.size HB5a.out) rfl h5 hg5 HZ5a.out
  have HB5 := Lib.hid hb; have HR5 := Lib.hid (Kd.R_below HR5a.out hbk); have HG5 := Lib.hid (blk_below HG5a.out hbk); have HS5 := Lib.hid (HS5a.out.below hbk); have HY5 := Lib.hid (blk_below HY5a.out hbk); have HX5 := Lib.hid (HX5a.out.below hbk)
  clear h5 hg5 hb hbk hx HB5a HR5a HG5a HS5a HY5a HX5a HZ5a
  go_upto_region 8 with (first
    | (go_at_call 8; refine (K3.out w5 (Kd.R_reads' HR5.out).2.2).mono ?_; rintro e w6a ⟨hb, v13, v14, rfl, r13, r14⟩; rw [G3.out] at r13 r14; rw [G3.out]; obtain ⟨A13_6, c13_6, e13⟩ := Kd.R_slice r13; obtain ⟨A14_6, c14_6, e14⟩ := Kd.R_slice r14; subst e13; subst e14; have HB6a := Lib.hid (below_step HB5.out hb); have HR6a := Lib.hid (Kd.R_below HR5.out hb); have HG6a := Lib.hid (blk_below HG5.out hb); have HS6a := Lib.hid (HS5.out.below hb); have HY6a := Lib.hid (blk_below HY5.out hb); have HX6a := Lib.hid (HX5.out.below hb); have HZ6a := Lib.hid (SegC.of r13 r14); clear hb r13 r14)
    | (refine gate_ (.store 26 (.tmp 8) (.tmp 34)) rfl ?_; refine wg_store_op rfl rfl 26 (.tmp 8) (.tmp 34) rfl _ _ _ 26 _ rfl rfl rfl (by kernel_rfl) rfl (blk_new w6a _) rfl ?_; intro w6 h6 hg6))
  obtain ⟨hb, hbk, hx⟩ := wl_laid HB6a.out (Below.size HB6a.out) rfl h6 hg6 HZ6a.out
  have HB6 := Lib.hid hb; have HR6 := Lib.hid (Kd.R_below HR6a.out hbk); have HG6 := Lib.hid (blk_below HG6a.out hbk); have HS6 := Lib.hid (HS6a.out.below hbk); have HY6 := Lib.hid (blk_below HY6a.out hbk); have HX6 := Lib.hid (HX6a.out.below hbk)
  clear h6 hg6 hb hbk hx HB6a HR6a HG6a HS6a HY6a HX6a HZ6a
  go_wp2_with (first
    | (refine gate_ (.load 26 (.tmp 4)) rfl ?_; refine wl_load (by rfl) (.tmp 4) rfl g4 rfl _ _ _ HY6.out ?_)
    | (refine gate_ (.load 26 (.tmp 1)) rfl ?_; refine wl_load (by rfl) (.tmp 1) rfl g rfl _ _ _ HG6.out ?_)
    | (go_at_call 10; refine (wl_same s0 (by decide) _ _ _ _ _ _ _ _ w6 HX6.out HS6.out).mono ?_; rintro e w7 ⟨rfl, hb7⟩))
  go_ret
  exact ⟨rfl, below_step HB6.out hb7⟩
end Go.Proofs.Ytenpekakmkemeaa.WireG

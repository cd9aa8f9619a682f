/- The document's option of a segment, walked: what each option makes of a segment. -/
import Derived.Test.YtenpekakmkemeaaWireLaw
import Derived.Test.YtenpekakmkemeaaPAx5
import Derived.Test.YtenpekakmkemeaaPAx5
set_option linter.unusedVariables false
set_option linter.unusedSimpArgs false
set_option autoImplicit false
namespace Go.Proofs.Ytenpekakmkemeaa.WireG
open Go.RowKit Go.Proofs.Ytenpekakmkemeaa.PA Go.Proofs.YtenpekakmkemeaaW.PrintWords Go.Proofs.YtenpekakmkemeaaW.PrintLast Go.Proofs.YtenpekakmkemeaaW.PrintMore
attribute [local go_sem] max2_int min2_int max_two min_two
theorem wr_num_l (l : List Int) (hl : l.length ≤ 9223372036854775806) : ∀ (d i k : Nat) (n : Int), l.length - i = d → i ≤ l.length → d < k → tidewayref03_number.l0 k l n (i : Int) = some ((l.drop i).foldl wgs n) := by
  intro d
  induction d with
  | zero =>
    intro i k n hd hi hk
    obtain ⟨k, rfl⟩ : ∃ j, k = j + 1 := ⟨k - 1, by omega⟩
    rw [tidewayref03_number.l0, if_neg (by omega), List.drop_of_length_le (by omega)]; rfl
  | succ d ih =>
    intro i k n hd hi hk
    obtain ⟨k, rfl⟩ : ∃ j, k = j + 1 := ⟨k - 1, by omega⟩
    have hw : wrap64 ((i : Int) + 1) = ((i + 1 : Nat) : Int) := by rw [wg_w64 (by omega) (by omega)]; rfl
    have hr : rd l (i : Int) = l.getD i 0 := by simp [rd]
    have hdr : l.drop i = l.getD i 0 :: l.drop (i + 1) := by
      rw [List.drop_eq_getElem_cons (show i < l.length by omega), List.getD_eq_getElem?_getD, List.getElem?_eq_getElem (show i < l.length by omega)]; rfl
    rw [tidewayref03_number.l0, if_pos (by omega), if_pos (by omega), hw, ih (i + 1) k _ (by omega) (by omega) (by omega), hr, hdr]; rfl
theorem wr_num (l : List Int) (hl : l.length ≤ 9223372036854775806) : tidewayref03_number.f (l.length + 1) l = some (wgn l) := by
  have := wr_num_l l hl l.length 0 (l.length + 1) 0 (by omega) (by omega) (by omega)
  exact this
theorem wr_len (kind n : Int) (h0 : 0 ≤ n) (h1 : n ≤ 255) : tidewayref03_length.f kind n = some (wglen kind n) := by
  unfold tidewayref03_length.f wglen
  repeat' split
  all_goals (first | rfl | (congr 1; rw [eq_comm]; simp only [Bool.and_eq_true, decide_eq_true_eq, beq_iff_eq]; omega) | (congr 1; rw [Bool.eq_iff_iff]; simp only [Bool.and_eq_true, decide_eq_true_eq, beq_iff_eq]; omega) | skip)
theorem wr_res (tmps : Array Value) (p : Nat) (cs : Array Value) (W : World) (e6 : tmps[6]?.getD undef = .pointer (some ⟨p, 0, none⟩)) (hs : cs.size = 15) (hh : W.heap[p]? = some (.cells cs 26 (0, 0))) :
    (results Try.f35 tmps).run Try.prog W = .ok (.agg cs) W := by
  have h1 := run_loadVar_row (P := Try.prog) W p 26 26 _ (0, 0) _ hh Try.underlying26 rfl (by rw [hs]; kernel_rfl)
  simp [results, Try.results35, e6, asAddr, h1]
theorem wr_boxed (s : SG) (v d : Value) (w W1 : World) (h : (w.alloc (.cells (wgcells s v d) 26)).alloc (.cells (wgcells z26 (.slice none 0 0) (.slice none 0 0)) 26) = W1) :
    Below w.heap.size w W1 ∧ W1.heap[w.heap.size]? = some (.cells (wgcells s v d) 26 (0, 0)) ∧ W1.heap[w.heap.size + 1]? = some (.cells (wgcells z26 (.slice none 0 0) (.slice none 0 0)) 26 (0, 0)) := by
  subst h
  refine ⟨((Below.refl _ w).alloc (Nat.le_refl _) _).alloc (by simp) _, blk_alloc (blk_new w _) _, ?_⟩
  have h_ := blk_new (w.alloc (.cells (wgcells s v d) 26)) (.cells (wgcells z26 (.slice none 0 0) (.slice none 0 0)) 26)
  rwa [World.size_alloc] at h_
theorem wr_tail {w W w9 : World} {g g6 : Nat} (hg : w.heap.size = g) (hge : g ≤ g6) (hb : Below g w W) (h : W.grownBy w9 (some g6)) : Below w.heap.size w w9 := by
  subst hg
  exact hb.grown h hb.size (fun k hk => by cases hk; exact hge)
theorem wr_then {w W w2 : World} {g : Nat} (hg : w.heap.size = g) (hb : Below g w W) (h : Below W.heap.size W w2) : Below g w w2 := by
  subst hg
  exact below_step hb h
set_option maxRecDepth 100000 in
set_option maxHeartbeats 16000000 in
theorem wr_opt2 (s : SG) (A13 : Option Addr) (n13 c13 : Nat) (A14 : Option Addr) (n14 c14 : Nat) (A : Option Addr) (c : Nat) (b : List Int) (w : World) (hC : Kd.C (Kd.int .u8) w A b.length b) (hc : b.length ≤ c) (hb : wgb b) (hl : b.length ≤ 300) :
    Calls Try.prog 35 #[.agg (wgcells s (.slice A13 n13 c13) (.slice A14 n14 c14)), .int .u8 2, .slice A b.length c] w fun e w' => e = .returned (.agg (wgcells (wgopt s 2 b) (.slice A13 n13 c13) (.slice A14 n14 c14))) ∧ Below w.heap.size w w' := by
  have hnum := wr_num b (by omega)
  have hbd := wgn_bd hb
  obtain ⟨n, hn⟩ : ∃ n, wgn b = n := ⟨_, rfl⟩
  rw [hn] at hnum hbd
  have hw : wrap64 n = n := wg_w64 (by omega) (by omega)
  have HNUM := Lib.hid hnum; have HC := Lib.hid hC; have HCC := Lib.hid hc
  have HW := Lib.hid (show wgopt s 2 b = { s with f7 := n } from by rw [← hn]; rfl)
  clear hnum hbd hC hb hl hn hc
  go_enter Try.func35, Try.ntmps35
  go_upto_region 1 with (fail)
  obtain ⟨W1, hW1⟩ : ∃ W1, (w.alloc (.cells (wgcells s (.slice A13 n13 c13) (.slice A14 n14 c14)) 26)).alloc (.cells (wgcells z26 (.slice none 0 0) (.slice none 0 0)) 26) = W1 := ⟨_, rfl⟩
  obtain ⟨hb1, hg1, hg6⟩ := wr_boxed s (.slice A13 n13 c13) (.slice A14 n14 c14) w W1 hW1
  have hW1' : (w.alloc (.cells (wgcells s (.slice A13 n13 c13) (.slice A14 n14 c14)) 26)).alloc (.cells #[.int .i64 0, .int .i64 0, .int .u32 0, .int .u32 0, .int .i64 0, .int .i64 0, .int .i64 0, .int .i64 0, .int .i64 0, .bool false, .bool false, .int .u32 0, .int .u32 0, .slice none 0 0, .slice none 0 0] 26) = W1 := hW1
  rw [hW1']
  obtain ⟨g, hg⟩ : ∃ g, w.heap.size = g := ⟨_, rfl⟩
  obtain ⟨g6, hgg⟩ : ∃ g6, g + 1 = g6 := ⟨_, rfl⟩
  have hne : g6 ≠ g := by omega
  have hge : g ≤ g6 := by omega
  rw [hg] at hg1 hg6 hb1 ⊢
  rw [hgg] at hg6 ⊢
  have HB1 := Lib.hid hb1; have HG1 := Lib.hid hg1; have HG6 := Lib.hid hg6; have HGG := Lib.hid hg
  clear hW1 hW1' hgg hg hb1 hg1 hg6
  go_upto_region 17 with (go_at_call 19; refine (tidewayref03_number.calls _ A c b n W1 (Kd.C_below HC.out (HGG.out ▸ HB1.out)) HCC.out HNUM.out).mono ?_; rintro e w2 ⟨rfl, hd2⟩; have hb2 := hd2.below; have HBa := Lib.hid (wr_then HGG.out HB1.out hb2); have HGa := Lib.hid (blk_below HG1.out hb2); have HG6a := Lib.hid (blk_below HG6.out hb2); have hcell7 := (show w2.cell? ⟨g, 7, none⟩ = some (.int .i64 s.f7) from (blk_cell HGa.out 7).trans rfl); have hfz7 : w2.frozen? ⟨g, 7, none⟩ = false := blk_frozen HGa.out 7; clear hd2 hb2)
  have HL := Lib.hid (wgcells_ext (cs' := wgcells { s with f7 := n } (.slice A13 n13 c13) (.slice A14 n14 c14)) (blk_set HGa.out 7 (.int .i64 n)) rfl)
  have HL6 := Lib.hid (blk_far HG6a.out (p := ⟨g, 7, none⟩) hne (.int .i64 n))
  have HBL := Lib.hid (HBa.out.setCell (p := ⟨g, 7, none⟩) (Nat.le_refl _) (.int .i64 n))
  go_wp2_with (first
    | (refine gate_ (.load 26 (.tmp 3)) rfl ?_; refine wpList_load_row rfl 26 (.tmp 3) rfl g rfl 26 _ (0, 0) _ HL.out Try.underlying26 rfl (by kernel_rfl) ?_)
    | (refine gate_ (.store 26 (.tmp 6) (.tmp 64)) rfl ?_; refine wg_store_op rfl rfl 26 (.tmp 6) (.tmp 64) rfl _ _ _ 26 _ rfl rfl rfl (by kernel_rfl) rfl HL6.out rfl ?_; intro w9 h9 hg9))
  try simp only [Exit.inBlock, Exit.then]
  refine bodyPost_ret (wr_res _ g6 _ _ rfl rfl h9) rfl ?_
  exact ⟨by rw [HW.out]; rfl, wr_tail HGG.out hge HBL.out hg9⟩
set_option maxRecDepth 100000 in
set_option maxHeartbeats 16000000 in
theorem wr_opt3 (s : SG) (A13 : Option Addr) (n13 c13 : Nat) (A14 : Option Addr) (n14 c14 : Nat) (A : Option Addr) (c : Nat) (b : List Int) (w : World) (hC : Kd.C (Kd.int .u8) w A b.length b) (hb : wgb b) (h1 : 1 ≤ b.length) :
    Calls Try.prog 35 #[.agg (wgcells s (.slice A13 n13 c13) (.slice A14 n14 c14)), .int .u8 3, .slice A b.length c] w fun e w' => e = .returned (.agg (wgcells (wgopt s 3 b) (.slice A13 n13 c13) (.slice A14 n14 c14))) ∧ Below w.heap.size w w' := by
  obtain ⟨ad, rfl, h0⟩ := Kd.at_int hC 0 (by omega) (by omega)
  have h0' : w.cell? ad = some (.int .u8 (b.getD 0 0)) := by have := h0; simpa [Addr.add, rd] using this
  have hbd := hb (b.getD 0 0) (by rw [List.getD_eq_getElem?_getD, List.getElem?_eq_getElem (by omega)]; exact List.getElem_mem _)
  obtain ⟨x, hx⟩ : ∃ x, b.getD 0 0 = x := ⟨_, rfl⟩
  rw [hx] at h0' hbd
  have hw : wrap64 x = x := wg_w64 (by omega) (by omega)
  have HW := Lib.hid (show wgopt s 3 b = { s with f8 := mn x 14 } from by rw [← hx]; rfl)
  have H0 := Lib.hid h0'
  clear h0 hx hC hb h0' hbd
  go_enter Try.func35, Try.ntmps35
  go_upto_region 1 with (fail)
  obtain ⟨W1, hW1⟩ : ∃ W1, (w.alloc (.cells (wgcells s (.slice A13 n13 c13) (.slice A14 n14 c14)) 26)).alloc (.cells (wgcells z26 (.slice none 0 0) (.slice none 0 0)) 26) = W1 := ⟨_, rfl⟩
  obtain ⟨hb1, hg1, hg6⟩ := wr_boxed s (.slice A13 n13 c13) (.slice A14 n14 c14) w W1 hW1
  have hW1' : (w.alloc (.cells (wgcells s (.slice A13 n13 c13) (.slice A14 n14 c14)) 26)).alloc (.cells #[.int .i64 0, .int .i64 0, .int .u32 0, .int .u32 0, .int .i64 0, .int .i64 0, .int .i64 0, .int .i64 0, .int .i64 0, .bool false, .bool false, .int .u32 0, .int .u32 0, .slice none 0 0, .slice none 0 0] 26) = W1 := hW1
  rw [hW1']
  obtain ⟨g, hg⟩ : ∃ g, w.heap.size = g := ⟨_, rfl⟩
  obtain ⟨g6, hgg⟩ : ∃ g6, g + 1 = g6 := ⟨_, rfl⟩
  have hne : g6 ≠ g := by omega
  have hge : g ≤ g6 := by omega
  rw [hg] at hg1 hg6 hb1 ⊢
  rw [hgg] at hg6 ⊢
  have HB1 := Lib.hid hb1; have HG1 := Lib.hid hg1; have HG6 := Lib.hid hg6; have HGG := Lib.hid hg
  clear hW1 hW1' hgg hg hb1 hg1 hg6
  have hcx : W1.cell? ad = some (.int .u8 x) := (HB1.out.cell (HGG.out ▸ World.block_lt_of_cell? w _ H0.out)).trans H0.out
  have hcell8 := (show W1.cell? ⟨g, 8, none⟩ = some (.int .i64 s.f8) from (blk_cell HG1.out 8).trans rfl)
  have hfz8 : W1.frozen? ⟨g, 8, none⟩ = false := blk_frozen HG1.out 8
  have hmn : (if (14 : Int) < x then (14 : Int) else x) = mn x 14 := rfl
  obtain ⟨y, hy⟩ : ∃ y, mn x 14 = y := ⟨_, rfl⟩
  rw [hy] at hmn HW
  have HL := Lib.hid (wgcells_ext (cs' := wgcells { s with f8 := y } (.slice A13 n13 c13) (.slice A14 n14 c14)) (blk_set HG1.out 8 (.int .i64 y)) rfl)
  have HL6 := Lib.hid (blk_far HG6.out (p := ⟨g, 8, none⟩) hne (.int .i64 y))
  have HBL := Lib.hid (HB1.out.setCell (p := ⟨g, 8, none⟩) (Nat.le_refl _) (.int .i64 y))
  by_cases h14 : (14 : Int) < x
  · have hyy : y = 14 := by rw [← hmn, if_pos h14]
    subst hyy
    go_wp2_with (first
      | (refine gate_ (.load 26 (.tmp 3)) rfl ?_; refine wpList_load_row rfl 26 (.tmp 3) rfl g rfl 26 _ (0, 0) _ HL.out Try.underlying26 rfl (by kernel_rfl) ?_)
      | (refine gate_ (.store 26 (.tmp 6) (.tmp 64)) rfl ?_; refine wg_store_op rfl rfl 26 (.tmp 6) (.tmp 64) rfl _ _ _ 26 _ rfl rfl rfl (by kernel_rfl) rfl HL6.out rfl ?_; intro w9 h9 hg9))
    try simp only [Exit.inBlock, Exit.then]
    refine bodyPost_ret (wr_res _ g6 _ _ rfl rfl h9) rfl ?_
    exact ⟨by rw [HW.out]; rfl, wr_tail HGG.out hge HBL.out hg9⟩
  · have hyy : y = x := by rw [← hmn, if_neg h14]
    subst hyy
    go_wp2_with (first
      | (refine gate_ (.load 26 (.tmp 3)) rfl ?_; refine wpList_load_row rfl 26 (.tmp 3) rfl g rfl 26 _ (0, 0) _ HL.out Try.underlying26 rfl (by kernel_rfl) ?_)
      | (refine gate_ (.store 26 (.tmp 6) (.tmp 64)) rfl ?_; refine wg_store_op rfl rfl 26 (.tmp 6) (.tmp 64) rfl _ _ _ 26 _ rfl rfl rfl (by kernel_rfl) rfl HL6.out rfl ?_; intro w9 h9 hg9))
    try simp only [Exit.inBlock, Exit.then]
    refine bodyPost_ret (wr_res _ g6 _ _ rfl rfl h9) rfl ?_
    exact ⟨by rw [HW.out]; rfl, wr_tail HGG.out hge HBL.out hg9⟩
set_option maxRecDepth 100000 in
set_option maxHeartbeats 16000000 in
theorem wr_opt4 (s : SG) (A13 : Option Addr) (n13 c13 : Nat) (A14 : Option Addr) (n14 c14 : Nat) (A : Option Addr) (c : Nat) (b : List Int) (w : World) :
    Calls Try.prog 35 #[.agg (wgcells s (.slice A13 n13 c13) (.slice A14 n14 c14)), .int .u8 4, .slice A b.length c] w fun e w' => e = .returned (.agg (wgcells (wgopt s 4 b) (.slice A13 n13 c13) (.slice A14 n14 c14))) ∧ Below w.heap.size w w' := by
  have HW := Lib.hid (show wgopt s 4 b = { s with f9 := true } from rfl)
  go_enter Try.func35, Try.ntmps35
  go_upto_region 1 with (fail)
  obtain ⟨W1, hW1⟩ : ∃ W1, (w.alloc (.cells (wgcells s (.slice A13 n13 c13) (.slice A14 n14 c14)) 26)).alloc (.cells (wgcells z26 (.slice none 0 0) (.slice none 0 0)) 26) = W1 := ⟨_, rfl⟩
  obtain ⟨hb1, hg1, hg6⟩ := wr_boxed s (.slice A13 n13 c13) (.slice A14 n14 c14) w W1 hW1
  have hW1' : (w.alloc (.cells (wgcells s (.slice A13 n13 c13) (.slice A14 n14 c14)) 26)).alloc (.cells #[.int .i64 0, .int .i64 0, .int .u32 0, .int .u32 0, .int .i64 0, .int .i64 0, .int .i64 0, .int .i64 0, .int .i64 0, .bool false, .bool false, .int .u32 0, .int .u32 0, .slice none 0 0, .slice none 0 0] 26) = W1 := hW1
  rw [hW1']
  obtain ⟨g, hg⟩ : ∃ g, w.heap.size = g := ⟨_, rfl⟩
  obtain ⟨g6, hgg⟩ : ∃ g6, g + 1 = g6 := ⟨_, rfl⟩
  have hne : g6 ≠ g := by omega
  have hge : g ≤ g6 := by omega
  rw [hg] at hg1 hg6 hb1 ⊢
  rw [hgg] at hg6 ⊢
  have HB1 := Lib.hid hb1; have HG1 := Lib.hid hg1; have HG6 := Lib.hid hg6; have HGG := Lib.hid hg
  clear hW1 hW1' hgg hg hb1 hg1 hg6
  have hcell9 := (show W1.cell? ⟨g, 9, none⟩ = some (.bool s.f9) from (blk_cell HG1.out 9).trans rfl)
  have hfz9 : W1.frozen? ⟨g, 9, none⟩ = false := blk_frozen HG1.out 9
  have HL := Lib.hid (wgcells_ext (cs' := wgcells { s with f9 := true } (.slice A13 n13 c13) (.slice A14 n14 c14)) (blk_set HG1.out 9 (.bool true)) rfl)
  have HL6 := Lib.hid (blk_far HG6.out (p := ⟨g, 9, none⟩) hne (.bool true))
  have HBL := Lib.hid (HB1.out.setCell (p := ⟨g, 9, none⟩) (Nat.le_refl _) (.bool true))
  go_wp2_with (first
    | (refine gate_ (.load 26 (.tmp 3)) rfl ?_; refine wpList_load_row rfl 26 (.tmp 3) rfl g rfl 26 _ (0, 0) _ HL.out Try.underlying26 rfl (by kernel_rfl) ?_)
    | (refine gate_ (.store 26 (.tmp 6) (.tmp 64)) rfl ?_; refine wg_store_op rfl rfl 26 (.tmp 6) (.tmp 64) rfl _ _ _ 26 _ rfl rfl rfl (by kernel_rfl) rfl HL6.out rfl ?_; intro w9 h9 hg9))
  try simp only [Exit.inBlock, Exit.then]
  refine bodyPost_ret (wr_res _ g6 _ _ rfl rfl h9) rfl ?_
  exact ⟨by rw [HW.out]; rfl, wr_tail HGG.out hge HBL.out hg9⟩
set_option maxRecDepth 100000 in
set_option maxHeartbeats 16000000 in
theorem wr_opt_else (s : SG) (A13 : Option Addr) (n13 c13 : Nat) (A14 : Option Addr) (n14 c14 : Nat) (A : Option Addr) (c : Nat) (b : List Int) (w : World) (kind : Int) (h2 : kind ≠ 2) (h3 : kind ≠ 3) (h4 : kind ≠ 4) (h8 : kind ≠ 8) (h5 : kind ≠ 5) :
    Calls Try.prog 35 #[.agg (wgcells s (.slice A13 n13 c13) (.slice A14 n14 c14)), .int .u8 kind, .slice A b.length c] w fun e w' => e = .returned (.agg (wgcells (wgopt s kind b) (.slice A13 n13 c13) (.slice A14 n14 c14))) ∧ Below w.heap.size w w' := by
  have e2 : (kind == 2) = false := beq_false_of_ne h2
  have e3 : (kind == 3) = false := beq_false_of_ne h3
  have e4 : (kind == 4) = false := beq_false_of_ne h4
  have e8 : (kind == 8) = false := beq_false_of_ne h8
  have e5 : (kind == 5) = false := beq_false_of_ne h5
  have HW := Lib.hid (show wgopt s kind b = s from by unfold wgopt; rw [if_neg h2, if_neg h3, if_neg h4, if_neg h8, if_neg h5])
  clear h2 h3 h4 h8 h5
  go_enter Try.func35, Try.ntmps35
  go_upto_region 1 with (fail)
  obtain ⟨W1, hW1⟩ : ∃ W1, (w.alloc (.cells (wgcells s (.slice A13 n13 c13) (.slice A14 n14 c14)) 26)).alloc (.cells (wgcells z26 (.slice none 0 0) (.slice none 0 0)) 26) = W1 := ⟨_, rfl⟩
  obtain ⟨hb1, hg1, hg6⟩ := wr_boxed s (.slice A13 n13 c13) (.slice A14 n14 c14) w W1 hW1
  have hW1' : (w.alloc (.cells (wgcells s (.slice A13 n13 c13) (.slice A14 n14 c14)) 26)).alloc (.cells #[.int .i64 0, .int .i64 0, .int .u32 0, .int .u32 0, .int .i64 0, .int .i64 0, .int .i64 0, .int .i64 0, .int .i64 0, .bool false, .bool false, .int .u32 0, .int .u32 0, .slice none 0 0, .slice none 0 0] 26) = W1 := hW1
  rw [hW1']
  obtain ⟨g, hg⟩ : ∃ g, w.heap.size = g := ⟨_, rfl⟩
  obtain ⟨g6, hgg⟩ : ∃ g6, g + 1 = g6 := ⟨_, rfl⟩
  have hne : g6 ≠ g := by omega
  have hge : g ≤ g6 := by omega
  rw [hg] at hg1 hg6 hb1 ⊢
  rw [hgg] at hg6 ⊢
  have HB1 := Lib.hid hb1; have HG1 := Lib.hid hg1; have HG6 := Lib.hid hg6; have HGG := Lib.hid hg
  clear hW1 hW1' hgg hg hb1 hg1 hg6
  have HL := HG1
  have HL6 := HG6
  have HBL := HB1
  go_wp2_with (first
    | (refine gate_ (.load 26 (.tmp 3)) rfl ?_; refine wpList_load_row rfl 26 (.tmp 3) rfl g rfl 26 _ (0, 0) _ HL.out Try.underlying26 rfl (by kernel_rfl) ?_)
    | (refine gate_ (.store 26 (.tmp 6) (.tmp 64)) rfl ?_; refine wg_store_op rfl rfl 26 (.tmp 6) (.tmp 64) rfl _ _ _ 26 _ rfl rfl rfl (by kernel_rfl) rfl HL6.out rfl ?_; intro w9 h9 hg9))
  try simp only [Exit.inBlock, Exit.then]
  refine bodyPost_ret (wr_res _ g6 _ _ rfl rfl h9) rfl ?_
  exact ⟨by rw [HW.out]; rfl, wr_tail HGG.out hge HBL.out hg9⟩
set_option maxRecDepth 100000 in
set_option maxHeartbeats 16000000 in
theorem wr_opt8 (s : SG) (A13 : Option Addr) (n13 c13 : Nat) (A14 : Option Addr) (n14 c14 : Nat) (A : Option Addr) (c : Nat) (b : List Int) (w : World) (hC : Kd.C (Kd.int .u8) w A b.length b) (hc : b.length ≤ c) (hb : wgb b) (hl : b.length = 8) :
    Calls Try.prog 35 #[.agg (wgcells s (.slice A13 n13 c13) (.slice A14 n14 c14)), .int .u8 8, .slice A b.length c] w fun e w' => e = .returned (.agg (wgcells (wgopt s 8 b) (.slice A13 n13 c13) (.slice A14 n14 c14))) ∧ Below w.heap.size w w' := by
  obtain ⟨u0, hu0, _, hsz, _⟩ := info_parts info5
  have cut1 := cut_to (P := Try.prog) 22 5 .i64 Try.underlying22 hu0 A b.length c (4 : Int) (by omega) (by omega) hc
  have cut2 := cut_from (P := Try.prog) 22 5 .i64 Try.underlying22 hu0 1 hsz A b.length c (4 : Int) (by omega) (by omega)
  simp only [show ((4 : Int)).toNat = 4 from rfl, Nat.mul_one] at cut1 cut2
  obtain ⟨A2, hA2⟩ : ∃ a, (if c = 4 then A else A.map (·.add 4)) = a := ⟨_, rfl⟩
  rw [hA2] at cut2
  have R1 := Kd.C_take (m := 4) hC (by omega)
  have R2 := Kd.C_drop (m := 4) (c := c) hC (by omega) hc
  rw [show 4 * (Kd.int .u8).sz = 4 from rfl, hA2] at R2
  have l1 : (b.take 4).length = 4 := by rw [List.length_take]; omega
  have l2 : (b.drop 4).length = 4 := by rw [List.length_drop]; omega
  have G1 := wr_num (b.take 4) (by omega)
  have G2 := wr_num (b.drop 4) (by omega)
  obtain ⟨n1, hn1⟩ : ∃ n, wgn (b.take 4) = n := ⟨_, rfl⟩
  obtain ⟨n2, hn2⟩ : ∃ n, wgn (b.drop 4) = n := ⟨_, rfl⟩
  rw [hn1] at G1; rw [hn2] at G2
  have K1 := Lib.hid (fun (W : World) (hB : Below w.heap.size w W) => tidewayref03_number.calls _ A c (b.take 4) n1 W (Kd.C_below R1 hB) (by omega) G1)
  have K2 := Lib.hid (fun (W : World) (hB : Below w.heap.size w W) => tidewayref03_number.calls _ A2 (c - 4) (b.drop 4) n2 W (Kd.C_below R2 hB) (by omega) G2)
  rw [l1] at K1; rw [l2] at K2
  have HW := Lib.hid (show wgopt s 8 b = { s with f10 := true, f11 := n1, f12 := n2 } from by rw [← hn1, ← hn2]; rfl)
  rw [hl] at cut1 cut2 ⊢
  rw [show 8 - 4 = 4 from rfl] at cut2
  clear hC hb hl hc R1 R2 l1 l2 G1 G2 hn1 hn2 hA2
  go_enter Try.func35, Try.ntmps35
  go_upto_region 1 with (fail)
  obtain ⟨W1, hW1⟩ : ∃ W1, (w.alloc (.cells (wgcells s (.slice A13 n13 c13) (.slice A14 n14 c14)) 26)).alloc (.cells (wgcells z26 (.slice none 0 0) (.slice none 0 0)) 26) = W1 := ⟨_, rfl⟩
  obtain ⟨hb1, hg1, hg6⟩ := wr_boxed s (.slice A13 n13 c13) (.slice A14 n14 c14) w W1 hW1
  have hW1' : (w.alloc (.cells (wgcells s (.slice A13 n13 c13) (.slice A14 n14 c14)) 26)).alloc (.cells #[.int .i64 0, .int .i64 0, .int .u32 0, .int .u32 0, .int .i64 0, .int .i64 0, .int .i64 0, .int .i64 0, .int .i64 0, .bool false, .bool false, .int .u32 0, .int .u32 0, .slice none 0 0, .slice none 0 0] 26) = W1 := hW1
  rw [hW1']
  obtain ⟨g, hg⟩ : ∃ g, w.heap.size = g := ⟨_, rfl⟩
  obtain ⟨g6, hgg⟩ : ∃ g6, g + 1 = g6 := ⟨_, rfl⟩
  have hne : g6 ≠ g := by omega
  have hge : g ≤ g6 := by omega
  rw [hg] at hg1 hg6 hb1 ⊢
  rw [hgg] at hg6 ⊢
  have HB1 := Lib.hid hb1; have HG1 := Lib.hid hg1; have HG6 := Lib.hid hg6; have HGG := Lib.hid hg
  clear hW1 hW1' hgg hg hb1 hg1 hg6
  have hcell10 := (show W1.cell? ⟨g, 10, none⟩ = some (.bool s.f10) from (blk_cell HG1.out 10).trans rfl)
  have hfz10 : W1.frozen? ⟨g, 10, none⟩ = false := blk_frozen HG1.out 10
  have HG2 := Lib.hid (wgcells_ext (cs' := wgcells { s with f10 := true } (.slice A13 n13 c13) (.slice A14 n14 c14)) (blk_set HG1.out 10 (.bool true)) rfl)
  have HG62 := Lib.hid (blk_far HG6.out (p := ⟨g, 10, none⟩) hne (.bool true))
  have HB2 := Lib.hid (HB1.out.setCell (p := ⟨g, 10, none⟩) (Nat.le_refl _) (.bool true))
  go_upto_region 11 with (go_at_call 19; refine (K1.out _ (HGG.out ▸ HB2.out)).mono ?_; rintro e w2 ⟨rfl, hd2⟩; have hb2 := hd2.below; have HBa := Lib.hid (wr_then HGG.out HB2.out hb2); have HGa := Lib.hid (blk_below HG2.out hb2); have HG6a := Lib.hid (blk_below HG62.out hb2); have hcell11 := (show w2.cell? ⟨g, 11, none⟩ = some (.int .u32 s.f11) from (blk_cell HGa.out 11).trans rfl); have hfz11 : w2.frozen? ⟨g, 11, none⟩ = false := blk_frozen HGa.out 11; clear hd2 hb2)
  have HG3 := Lib.hid (wgcells_ext (cs' := wgcells { s with f10 := true, f11 := n1 } (.slice A13 n13 c13) (.slice A14 n14 c14)) (blk_set HGa.out 11 (.int .u32 n1)) rfl)
  have HG63 := Lib.hid (blk_far HG6a.out (p := ⟨g, 11, none⟩) hne (.int .u32 n1))
  have HB3 := Lib.hid (HBa.out.setCell (p := ⟨g, 11, none⟩) (Nat.le_refl _) (.int .u32 n1))
  go_upto_region 17 with (go_at_call 19; refine (K2.out _ (HGG.out ▸ HB3.out)).mono ?_; rintro e w4 ⟨rfl, hd4⟩; have hb4 := hd4.below; have HBb := Lib.hid (wr_then HGG.out HB3.out hb4); have HGb := Lib.hid (blk_below HG3.out hb4); have HG6b := Lib.hid (blk_below HG63.out hb4); have hcell12 := (show w4.cell? ⟨g, 12, none⟩ = some (.int .u32 s.f12) from (blk_cell HGb.out 12).trans rfl); have hfz12 : w4.frozen? ⟨g, 12, none⟩ = false := blk_frozen HGb.out 12; clear hd4 hb4)
  have HL := Lib.hid (wgcells_ext (cs' := wgcells { s with f10 := true, f11 := n1, f12 := n2 } (.slice A13 n13 c13) (.slice A14 n14 c14)) (blk_set HGb.out 12 (.int .u32 n2)) rfl)
  have HL6 := Lib.hid (blk_far HG6b.out (p := ⟨g, 12, none⟩) hne (.int .u32 n2))
  have HBL := Lib.hid (HBb.out.setCell (p := ⟨g, 12, none⟩) (Nat.le_refl _) (.int .u32 n2))
  go_wp2_with (first
    | (refine gate_ (.load 26 (.tmp 3)) rfl ?_; refine wpList_load_row rfl 26 (.tmp 3) rfl g rfl 26 _ (0, 0) _ HL.out Try.underlying26 rfl (by kernel_rfl) ?_)
    | (refine gate_ (.store 26 (.tmp 6) (.tmp 64)) rfl ?_; refine wg_store_op rfl rfl 26 (.tmp 6) (.tmp 64) rfl _ _ _ 26 _ rfl rfl rfl (by kernel_rfl) rfl HL6.out rfl ?_; intro w9 h9 hg9))
  try simp only [Exit.inBlock, Exit.then]
  refine bodyPost_ret (wr_res _ g6 _ _ rfl rfl h9) rfl ?_
  exact ⟨by rw [HW.out]; rfl, wr_tail HGG.out hge HBL.out hg9⟩
theorem wr_q {W w2 : World} (h : Below W.heap.size W w2) : Below W.heap.size W w2 := h
theorem wr_num_calls (w : World) (A2 : Option Addr) (c2 : Nat) (l : List Int) (n : Int) (hl : l.length = 4) (hR : Kd.C (Kd.int .u8) w A2 l.length l) (hc : l.length ≤ c2) (G : tidewayref03_number.f (l.length + 1) l = some n) (W : World) (hB : Below w.heap.size w W) :
    Calls Try.prog 19 #[.slice A2 4 c2] W fun e w' => e = .returned (.int .u32 n) ∧ Below w.heap.size w w' ∧ Below W.heap.size W w' := by
  have h := tidewayref03_number.calls _ A2 c2 l n W (Kd.C_below hR hB) hc G
  rw [hl] at h
  refine h.mono ?_
  rintro e w' ⟨rfl, hd⟩
  exact ⟨rfl, below_step hB hd.below, hd.below⟩
theorem wr_take (b : List Int) (j : Nat) : (b.take (j + 4)).drop j = (b.drop j).take 4 := by rw [List.drop_take]; congr 1; omega
theorem wr_take2 (b : List Int) (j : Nat) : (b.take (j + 8)).drop (j + 4) = ((b.drop j).take 8).drop 4 := by
  rw [List.drop_take, List.drop_take, List.drop_drop]; congr 1; omega
set_option maxRecDepth 100000 in
set_option maxHeartbeats 16000000 in
theorem wr_opt5 (s : SG) (A14 : Option Addr) (n14 c14 : Nat) (A : Option Addr) (c : Nat) (b : List Int) (w : World) (hC : Kd.C (Kd.int .u8) w A b.length b) (hc : b.length ≤ c) (hl : b.length ≤ 300) (h8 : b.length % 8 = 0) (hn : s.f13 = []) :
    Calls Try.prog 35 #[.agg (wgcells s (.slice none 0 0) (.slice A14 n14 c14)), .int .u8 5, .slice A b.length c] w fun e w' => ∃ v', e = .returned (.agg (wgcells (wgopt s 5 b) v' (.slice A14 n14 c14))) ∧ Kd.R k56 56 w' w.heap.size (fun _ => True) v' (wgopt s 5 b).f13 ∧ Below w.heap.size w w' := by
  have HC := Lib.hid hC; have HLL := Lib.hid hl; have H8 := Lib.hid h8; have HNN := Lib.hid hn; have HCC := Lib.hid hc
  clear hC hl h8 hn hc
  go_enter Try.func35, Try.ntmps35
  go_upto_region 1 with (fail)
  obtain ⟨W1, hW1⟩ : ∃ W1, (w.alloc (.cells (wgcells s (.slice none 0 0) (.slice A14 n14 c14)) 26)).alloc (.cells (wgcells z26 (.slice none 0 0) (.slice none 0 0)) 26) = W1 := ⟨_, rfl⟩
  obtain ⟨hb1, hg1, hg6⟩ := wr_boxed s (.slice none 0 0) (.slice A14 n14 c14) w W1 hW1
  have hW1' : (w.alloc (.cells (wgcells s (.slice none 0 0) (.slice A14 n14 c14)) 26)).alloc (.cells #[.int .i64 0, .int .i64 0, .int .u32 0, .int .u32 0, .int .i64 0, .int .i64 0, .int .i64 0, .int .i64 0, .int .i64 0, .bool false, .bool false, .int .u32 0, .int .u32 0, .slice none 0 0, .slice none 0 0] 26) = W1 := hW1
  rw [hW1']
  obtain ⟨g, hg⟩ : ∃ g, w.heap.size = g := ⟨_, rfl⟩
  obtain ⟨g6, hgg⟩ : ∃ g6, g + 1 = g6 := ⟨_, rfl⟩
  have hne : g6 ≠ g := by omega
  have hge : g ≤ g6 := by omega
  rw [hg] at hg1 hg6 hb1 ⊢
  rw [hgg] at hg6 ⊢
  have HB1 := Lib.hid hb1; have HG1 := Lib.hid hg1; have HG6 := Lib.hid hg6; have HGG := Lib.hid hg
  clear hW1 hW1' hgg hg hb1 hg1 hg6
  have HS0 := Lib.hid (show Wgs W1 w.heap.size g s (.slice A14 n14 c14) from ⟨by rw [HGG.out]; exact Nat.le_refl _, _, HG1.out, by rw [HNN.out]; exact Kd.R_nil _ _ _ _ _⟩)
  have HB0 := Lib.hid (show Below w.heap.size w W1 from HGG.out ▸ HB1.out)
  have HL0 := HLL.out
  have HEQ0 := Lib.hid (show wgopt s 5 b = { s with f13 := s.f13 ++ wgblocks ((b.drop 0).length + 1) (b.drop 0) } from rfl)
  clear HG1 HB1
  go_wp2_with fail
  go_loopg [7] b.length (fun m v7 wr => ∃ (j : Nat) (cur : SG), j + m = b.length ∧ v7 = .int .i64 (j : Int) ∧ Hid (j % 8 = 0) ∧ Hid (Wgs wr w.heap.size g cur (.slice A14 n14 c14)) ∧ Hid (wr.heap[g6]? = some (.cells (wgcells z26 (.slice none 0 0) (.slice none 0 0)) 26 (0, 0))) ∧ Hid (Below w.heap.size w wr) ∧ Hid (wgopt s 5 b = { cur with f13 := cur.f13 ++ wgblocks ((b.drop j).length + 1) (b.drop j) }) ∧ Hid (cur.f13.length + m ≤ 1300))
  case atStart => exact ⟨0, s, by omega, rfl, Lib.hid rfl, HS0, HG6, HB0, HEQ0, Lib.hid (by rw [HNN.out]; simp; omega)⟩
  case round =>
    obtain ⟨j, cur, hjm, rfl, HJ8, HS, H6, HB, HE, HLN0⟩ := hrel
    by_cases hz : j = b.length
    · have k0 : ¬ j < b.length := by omega
      have hcur : wgopt s 5 b = cur := by rw [HE.out, hz, List.drop_of_length_le (Nat.le_refl _), wgblocks, if_pos (by rfl), List.append_nil]
      have HCUR := Lib.hid hcur
      obtain ⟨hbg, v, hh, hR⟩ := HS.out
      obtain ⟨Av, cv, ev⟩ := Kd.R_slice hR
      subst ev
      have HL := Lib.hid hh; have HR := Lib.hid hR; have HBG := Lib.hid hbg
      clear hz hcur hh hR hbg
      go_wp2_with (first
        | (refine gate_ (.load 26 (.tmp 3)) rfl ?_; refine wpList_load_row rfl 26 (.tmp 3) rfl g rfl 26 _ (0, 0) _ HL.out Try.underlying26 rfl (by kernel_rfl) ?_)
        | (refine gate_ (.store 26 (.tmp 6) (.tmp 64)) rfl ?_; refine wg_store_op rfl rfl 26 (.tmp 6) (.tmp 64) rfl _ _ _ 26 _ rfl rfl rfl (by kernel_rfl) rfl H6.out rfl ?_; intro w9 h9 hg9))
      try simp only [Exit.inBlock, Exit.then]
      refine bodyPost_ret (wr_res _ g6 _ _ rfl rfl h9) rfl ?_
      refine ⟨_, by rw [HCUR.out]; rfl, ?_, wr_tail rfl (HGG.out.symm ▸ hge) HB.out hg9⟩
      rw [HCUR.out]
      exact wg_R_store HR.out H6.out (by decide) hg9
    · have hjl : j + 8 ≤ b.length := by have := HJ8.out; have := H8.out; omega
      have k0 : j < b.length := by omega
      have e4 : wrap64 ((j : Int) + 4) = (j : Int) + 4 := wg_w64 (by omega) (by omega)
      have e8 : wrap64 ((j : Int) + 8) = (j : Int) + 8 := wg_w64 (by omega) (by omega)
      obtain ⟨u0, hu0, _, hsz, _⟩ := info_parts info5
      have cut1 := cut_mid (P := Try.prog) 22 5 .i64 .i64 Try.underlying22 hu0 1 hsz A b.length c (j : Int) ((j : Int) + 4) (by omega) (by omega) (by omega) HCC.out
      have cut2 := cut_mid (P := Try.prog) 22 5 .i64 .i64 Try.underlying22 hu0 1 hsz A b.length c ((j : Int) + 4) ((j : Int) + 8) (by omega) (by omega) (by omega) HCC.out
      simp only [show ((j : Int)).toNat = j by omega, show ((j : Int) + 4).toNat = j + 4 by omega, show ((j : Int) + 8).toNat = j + 8 by omega, Nat.mul_one, show j + 4 - j = 4 by omega, show j + 8 - (j + 4) = 4 by omega] at cut1 cut2
      obtain ⟨A1, hA1⟩ : ∃ a, (if c = j then A else A.map (·.add j)) = a := ⟨_, rfl⟩
      obtain ⟨A2, hA2⟩ : ∃ a, (if c = j + 4 then A else A.map (·.add (j + 4))) = a := ⟨_, rfl⟩
      rw [hA1] at cut1
      rw [hA2] at cut2
      have R1 := Kd.C_mid (lo := j) (hi := j + 4) (c := c) HC.out (by omega) (by omega) HCC.out
      have R2 := Kd.C_mid (lo := j + 4) (hi := j + 8) (c := c) HC.out (by omega) (by omega) HCC.out
      rw [show j * (Kd.int .u8).sz = j from Nat.mul_one j, hA1, wr_take] at R1
      rw [show (j + 4) * (Kd.int .u8).sz = j + 4 from Nat.mul_one _, hA2, wr_take2] at R2
      have l1 : ((b.drop j).take 4).length = 4 := by rw [List.length_take, List.length_drop]; omega
      have l2 : (((b.drop j).take 8).drop 4).length = 4 := by rw [List.length_drop, List.length_take, List.length_drop]; omega
      have G1 := wr_num ((b.drop j).take 4) (by omega)
      have G2 := wr_num (((b.drop j).take 8).drop 4) (by omega)
      obtain ⟨n1, hn1⟩ : ∃ n, wgn ((b.drop j).take 4) = n := ⟨_, rfl⟩
      obtain ⟨n2, hn2⟩ : ∃ n, wgn (((b.drop j).take 8).drop 4) = n := ⟨_, rfl⟩
      rw [hn1] at G1; rw [hn2] at G2
      have hcl := HCC.out
      have K1 := Lib.hid (wr_num_calls w A1 (c - j) _ n1 l1 R1 (by omega) G1)
      have K2 := Lib.hid (wr_num_calls w A2 (c - (j + 4)) _ n2 l2 R2 (by omega) G2)
      have HBE := Lib.hid (show wgopt s 5 b = { cur with f13 := cur.f13 ++ [⟨n1, n2⟩] ++ wgblocks ((b.drop (j + 8)).length + 1) (b.drop (j + 8)) } by
        rw [HE.out, wgblocks, if_neg (by rw [List.length_drop]; omega), hn1, hn2, List.append_assoc, List.singleton_append, List.drop_drop]
        rw [wgblocks_up (b.drop j).length (b.drop (j + 8)) (by rw [List.length_drop, List.length_drop]; omega)])
      obtain ⟨hbg, v, hh, hR⟩ := HS.out
      have HH := Lib.hid hh; have HR := Lib.hid hR; have HBG := Lib.hid hbg
      have HLN := Lib.hid (show (cur.f13.length + 1) * 8 ≤ 140737488355328 by have := HLN0.out; omega)
      have HJL := Lib.hid hjl; have HJM := Lib.hid hjm
      clear hA1 hA2 R1 R2 l1 l2 G1 G2 hn1 hn2 hh hR hbg HE HS hz hcl hsz
      go_upto_region 16 with (fail)
      refine start_ (n := 20) (S := fun w' => w'.cell? ⟨g, 13, none⟩ = some v) (ds := [17, 19]) #[false, false, false, false, false, false, false, false, false, false, false, false, false, false, false, false, false, false, false, false] (by kernel_rfl) rfl rfl (((blk_cell HH.out 13).trans rfl)) (fun hHeld => ?_)
      refine pure_ (i := 0) (N := some 45) (v := ?_) (a' := ?_) #[true, false, false, false, false, false, false, false, false, false, false, false, false, false, false, false, false, false, false, false] rfl rfl (by kernel_rfl) (fun _ _ _ h => h) (Or.inl ⟨by rfl, ?_⟩) ?_ ?_
      rotate_left
      · intro w'
        go_simp
        with_reducible rfl
      rotate_left
      · simp only [Act.put, List.setIfInBounds_toArray, List.set_cons_zero, List.set_cons_succ, i64_w, i32_w]
        rfl
      refine pure_ (i := 2) (N := some 47) (v := ?_) (a' := ?_) #[true, false, true, false, false, false, false, false, false, false, false, false, false, false, false, false, false, false, false, false] rfl rfl (by kernel_rfl) (fun _ _ _ h => h) (Or.inl ⟨by rfl, ?_⟩) ?_ ?_
      rotate_left
      · intro w'
        go_simp
        with_reducible rfl
      rotate_left
      · simp only [Act.put, List.setIfInBounds_toArray, List.set_cons_zero, List.set_cons_succ, i64_w, i32_w]
        rfl
      refine pure_ (i := 3) (N := some 48) (v := ?_) (a' := ?_) #[true, false, true, true, false, false, false, false, false, false, false, false, false, false, false, false, false, false, false, false] rfl rfl (by kernel_rfl) (fun _ _ _ h => h) (Or.inl ⟨by rfl, ?_⟩) ?_ ?_
      rotate_left
      · intro w'
        go_simp
        with_reducible rfl
      rotate_left
      · simp only [Act.put, List.setIfInBounds_toArray, List.set_cons_zero, List.set_cons_succ, i64_w, i32_w]
        rfl
      refine pure_ (i := 4) (N := some 49) (v := ?_) (a' := ?_) #[true, false, true, true, true, false, false, false, false, false, false, false, false, false, false, false, false, false, false, false] rfl rfl (by kernel_rfl) (fun _ _ _ h => h) (Or.inl ⟨by rfl, ?_⟩) ?_ ?_
      rotate_left
      · intro w'
        go_simp
        with_reducible rfl
      rotate_left
      · simp only [Act.put, List.setIfInBounds_toArray, List.set_cons_zero, List.set_cons_succ, i64_w, i32_w]
        rfl
      refine pure_ (i := 5) (N := some 50) (v := ?_) (a' := ?_) #[true, false, true, true, true, true, false, false, false, false, false, false, false, false, false, false, false, false, false, false] rfl rfl (by kernel_rfl) (fun _ _ _ h => h) (Or.inl ⟨by rfl, ?_⟩) ?_ ?_
      rotate_left
      · intro w'
        go_simp
        with_reducible rfl
      rotate_left
      · simp only [Act.put, List.setIfInBounds_toArray, List.set_cons_zero, List.set_cons_succ, i64_w, i32_w]
        rfl
      refine pure_ (i := 6) (N := some 51) (v := ?_) (a' := ?_) #[true, false, true, true, true, true, true, false, false, false, false, false, false, false, false, false, false, false, false, false] rfl rfl (by kernel_rfl) (fun _ _ _ h => h) (Or.inl ⟨by rfl, ?_⟩) ?_ ?_
      rotate_left
      · intro w'
        go_simp
        with_reducible rfl
      rotate_left
      · simp only [Act.put, List.setIfInBounds_toArray, List.set_cons_zero, List.set_cons_succ, i64_w, i32_w]
        rfl
      refine pure_ (i := 8) (N := some 53) (v := ?_) (a' := ?_) #[true, false, true, true, true, true, true, false, true, false, false, false, false, false, false, false, false, false, false, false] rfl rfl (by kernel_rfl) (fun _ _ _ h => h) (Or.inl ⟨by rfl, ?_⟩) ?_ ?_
      rotate_left
      · intro w'
        go_simp
        with_reducible rfl
      rotate_left
      · simp only [Act.put, List.setIfInBounds_toArray, List.set_cons_zero, List.set_cons_succ, i64_w, i32_w]
        rfl
      refine pure_ (i := 9) (N := some 54) (v := ?_) (a' := ?_) #[true, false, true, true, true, true, true, false, true, true, false, false, false, false, false, false, false, false, false, false] rfl rfl (by kernel_rfl) (fun _ _ _ h => h) (Or.inl ⟨by rfl, ?_⟩) ?_ ?_
      rotate_left
      · intro w'
        go_simp
        with_reducible rfl
      rotate_left
      · simp only [Act.put, List.setIfInBounds_toArray, List.set_cons_zero, List.set_cons_succ, i64_w, i32_w]
        rfl
      refine pure_ (i := 10) (N := some 55) (v := ?_) (a' := ?_) #[true, false, true, true, true, true, true, false, true, true, true, false, false, false, false, false, false, false, false, false] rfl rfl (by kernel_rfl) (fun _ _ _ h => h) (Or.inl ⟨by rfl, ?_⟩) ?_ ?_
      rotate_left
      · intro w'
        go_simp
        with_reducible rfl
      rotate_left
      · simp only [Act.put, List.setIfInBounds_toArray, List.set_cons_zero, List.set_cons_succ, i64_w, i32_w]
        rfl
      refine pure_ (i := 11) (N := some 56) (v := ?_) (a' := ?_) #[true, false, true, true, true, true, true, false, true, true, true, true, false, false, false, false, false, false, false, false] rfl rfl (by kernel_rfl) (fun _ _ _ h => h) (Or.inl ⟨by rfl, ?_⟩) ?_ ?_
      rotate_left
      · intro w'
        go_simp
        with_reducible rfl
      rotate_left
      · simp only [Act.put, List.setIfInBounds_toArray, List.set_cons_zero, List.set_cons_succ, i64_w, i32_w]
        rfl
      refine pure_ (i := 12) (N := some 57) (v := ?_) (a' := ?_) #[true, false, true, true, true, true, true, false, true, true, true, true, true, false, false, false, false, false, false, false] rfl rfl (by kernel_rfl) (fun _ _ _ h => h) (Or.inl ⟨by rfl, ?_⟩) ?_ ?_
      rotate_left
      · intro w'
        go_simp
        with_reducible rfl
      rotate_left
      · simp only [Act.put, List.setIfInBounds_toArray, List.set_cons_zero, List.set_cons_succ, i64_w, i32_w]
        rfl
      refine pure_ (i := 13) (N := some 58) (v := ?_) (a' := ?_) #[true, false, true, true, true, true, true, false, true, true, true, true, true, true, false, false, false, false, false, false] rfl rfl (by kernel_rfl) (fun _ _ _ h => h) (Or.inl ⟨by rfl, ?_⟩) ?_ ?_
      rotate_left
      · intro w'
        go_simp
        with_reducible rfl
      rotate_left
      · simp only [Act.put, List.setIfInBounds_toArray, List.set_cons_zero, List.set_cons_succ, i64_w, i32_w]
        rfl
      refine take_ (i := 1) (N := some 46) (v := ?_) (a' := ?_) #[true, true, true, true, true, true, true, false, true, true, true, true, true, true, false, false, false, false, false, false] rfl rfl (by kernel_rfl) (fun _ _ _ h => h) (Or.inl ⟨by rfl, ?_⟩) hHeld ?_ ?_
      rotate_left
      · intro w' s0
        go_simp
        with_reducible rfl
      rotate_left
      · simp only [Act.put, List.setIfInBounds_toArray, List.set_cons_zero, List.set_cons_succ, i64_w, i32_w]
        rfl
      refine one_ (i := 7) (N := some 52) #[true, true, true, true, true, true, true, true, true, true, true, true, true, true, false, false, false, false, false, false] rfl rfl (by kernel_rfl) (by decide) (fun K hK => ?_)
      refine goes_ Try.func19 (by kernel_rfl) rfl #[.slice A1 4 (c - j)] (by rfl) rfl rfl (by simp only [List.map_toArray, List.map_cons, List.map_nil]; rfl) ?_
      with_reducible refine (K1.out _ (by repeat (first | exact HB.out | with_reducible apply below_drew1 | with_reducible refine pw_below_drewN ?_ _ | with_reducible refine below_alloc ?_ _))).mono ?_
      rintro e u1 ⟨rfl, hq1, ht1⟩
      refine ⟨_, rfl, ?_⟩
      refine hK.out _ _ ((((wr_q ht1).cell (World.block_lt_of_cell? _ _ hHeld)).trans hHeld)) (fun hHeld => ?_)
      clear hK K
      refine norm_ (a' := ?_) ?_ ?_
      rotate_left
      · show Act.put _ (some 52) _ = _
        simp only [Act.put, List.setIfInBounds_toArray, List.set_cons_zero, List.set_cons_succ, i64_w, i32_w]
        rfl
      refine one_ (i := 14) (N := some 59) #[true, true, true, true, true, true, true, true, true, true, true, true, true, true, true, false, false, false, false, false] rfl rfl (by kernel_rfl) (by decide) (fun K hK => ?_)
      refine goes_ Try.func19 (by kernel_rfl) rfl #[.slice A2 4 (c - (j + 4))] (by rfl) rfl rfl (by simp only [List.map_toArray, List.map_cons, List.map_nil]; rfl) ?_
      with_reducible refine (K2.out _ (by repeat (first | exact hq1 | with_reducible apply below_drew1 | with_reducible refine pw_below_drewN ?_ _ | with_reducible refine below_alloc ?_ _))).mono ?_
      rintro e u2 ⟨rfl, hq2, ht2⟩
      refine ⟨_, rfl, ?_⟩
      refine hK.out _ _ ((((wr_q ht2).cell (World.block_lt_of_cell? _ _ hHeld)).trans hHeld)) (fun hHeld => ?_)
      clear hK K
      refine norm_ (a' := ?_) ?_ ?_
      rotate_left
      · show Act.put _ (some 59) _ = _
        simp only [Act.put, List.setIfInBounds_toArray, List.set_cons_zero, List.set_cons_succ, i64_w, i32_w]
        rfl
      refine pure_ (i := 15) (N := some 60) (v := ?_) (a' := ?_) #[true, true, true, true, true, true, true, true, true, true, true, true, true, true, true, true, false, false, false, false] rfl rfl (by kernel_rfl) (fun _ _ _ h => h) (Or.inl ⟨by rfl, ?_⟩) ?_ ?_
      rotate_left
      · intro w'
        go_simp
        with_reducible rfl
      rotate_left
      · simp only [Act.put, List.setIfInBounds_toArray, List.set_cons_zero, List.set_cons_succ, i64_w, i32_w]
        rfl
      refine one_ (i := 16) (N := some 61) #[true, true, true, true, true, true, true, true, true, true, true, true, true, true, true, true, true, false, false, false] rfl rfl (by kernel_rfl) (by decide) (fun K hK => ?_)
      refine value_ (w1 := ?_) (v := ?_) (by rfl) rfl ?_ ?_
      rotate_left 2
      · go_simp
        constructor
        · rfl
        · rfl
      refine hK.out _ _ ((((below_alloc (Below.refl _ _) _).cell (World.block_lt_of_cell? _ _ hHeld)).trans hHeld)) (fun hHeld => ?_)
      clear hK K
      refine norm_ (a' := ?_) ?_ ?_
      rotate_left
      · show Act.put _ (some 61) _ = _
        simp only [Act.put, List.setIfInBounds_toArray, List.set_cons_zero, List.set_cons_succ, i64_w, i32_w]
        rfl
      refine last_ (i := 17) (N := some 62) #[true, true, true, true, true, true, true, true, true, true, true, true, true, true, true, true, true, true, false, false] rfl rfl (by kernel_rfl) (by decide) (fun K hK => ?_)
      have HR2 := Lib.hid (Kd.R_below (Kd.R_below (Kd.R_drew HR.out) ht1) ht2)
      have HH2 := Lib.hid (blk_below (blk_below (blk_drew HH.out) ht1) ht2)
      have H62 := Lib.hid (blk_below (blk_below (blk_drew H6.out) ht1) ht2)
      refine Kd.R_append_step k56 (w0 := w) w.heap.size (by rfl) (.tmp 46) (.tmp 61) 24 56 (.agg #[.int .u32 0, .int .u32 0]) 8 (by rfl) Try.underlying24 wg_info (by rfl) (by decide) (by decide) v cur.f13 ⟨n1, n2⟩ [.int .u32 n1, .int .u32 n2] (fun _ => True) (fun _ => False) (by rfl) (by rfl) (k56_mkM _ _ _ _) (fun _ h => h.elim) (fun _ _ => trivial) (by repeat (first | exact HR2.out | with_reducible refine Kd.R_drew ?_ | with_reducible refine Kd.R_drewN ?_ _ | with_reducible refine Kd.R_alloc ?_ _)) (by repeat (first | exact hq2 | with_reducible apply below_drew1 | with_reducible refine pw_below_drewN ?_ _ | with_reducible refine below_alloc ?_ _)) (by have h_ := Below.size (by repeat (first | exact hq2 | with_reducible apply below_drew1 | with_reducible refine pw_below_drewN ?_ _ | with_reducible refine below_alloc ?_ _)); exact h_) HLN.out ?_
      intro v1 w1 hR1 hB1 hg1 hat1
      obtain ⟨Av, cv, ev⟩ := Kd.R_slice hR1
      rw [List.length_append, List.length_singleton] at ev
      subst ev
      refine hK.out _ _ ?_
      clear hK K
      refine norm_ (a' := ?_) ?_ ?_
      rotate_left
      · show Act.put _ (some 62) _ = _
        simp only [Act.put, List.setIfInBounds_toArray, List.set_cons_zero, List.set_cons_succ, i64_w, i32_w]
        rfl
      refine pure_ (i := 18) (N := some 63) (v := ?_) (a' := ?_) #[true, true, true, true, true, true, true, true, true, true, true, true, true, true, true, true, true, true, true, false] rfl rfl (by kernel_rfl) (fun _ _ _ h => h) (Or.inl ⟨by rfl, ?_⟩) ?_ ?_
      rotate_left
      · intro w'
        go_simp
        with_reducible rfl
      rotate_left
      · simp only [Act.put, List.setIfInBounds_toArray, List.set_cons_zero, List.set_cons_succ, i64_w, i32_w]
        rfl
      refine last_ (i := 19) (N := none) #[true, true, true, true, true, true, true, true, true, true, true, true, true, true, true, true, true, true, true, true] rfl rfl (by kernel_rfl) (by decide) (fun K hK => ?_)
      have hh1 := blk_grown (by repeat (first | exact HH2.out | with_reducible refine blk_drew ?_ | with_reducible refine blk_drewN ?_ _ | with_reducible refine blk_alloc ?_ _)) hg1 (Kd.R_ne (by repeat (first | exact HR2.out | with_reducible refine Kd.R_drew ?_ | with_reducible refine Kd.R_drewN ?_ _ | with_reducible refine Kd.R_alloc ?_ _)) (by repeat (first | exact HH2.out | with_reducible refine blk_drew ?_ | with_reducible refine blk_drewN ?_ _ | with_reducible refine blk_alloc ?_ _)) (by decide))
      have hh6 := blk_grown (by repeat (first | exact H62.out | with_reducible refine blk_drew ?_ | with_reducible refine blk_drewN ?_ _ | with_reducible refine blk_alloc ?_ _)) hg1 (Kd.R_ne (by repeat (first | exact HR2.out | with_reducible refine Kd.R_drew ?_ | with_reducible refine Kd.R_drewN ?_ _ | with_reducible refine Kd.R_alloc ?_ _)) (by repeat (first | exact H62.out | with_reducible refine blk_drew ?_ | with_reducible refine blk_drewN ?_ _ | with_reducible refine blk_alloc ?_ _)) (by decide))
      have hs13 : w1.cell? ⟨g, 13, none⟩ = some v := (blk_cell hh1 13).trans rfl
      have hf13 : w1.frozen? ⟨g, 13, none⟩ = false := blk_frozen hh1 13
      refine skip_ (w1 := ?_) (by rfl) rfl ?_ ?_
      rotate_left
      · go_simp
        rfl
      refine hK.out _ _ ?_
      clear hK K
      refine done_ (by kernel_rfl) ?_
      have HW := Lib.hid (show Wgs (w1.setCell ⟨g, 13, none⟩ (.slice Av (cur.f13.length + 1) cv)) w.heap.size g { cur with f13 := cur.f13 ++ [⟨n1, n2⟩] } (.slice A14 n14 c14) from ⟨HBG.out, _, wgcells_ext (blk_set hh1 13 _) rfl, Kd.R_set hR1 hh1 (by decide) 13 _⟩)
      have HB9 := Lib.hid (show Below w.heap.size w (w1.setCell ⟨g, 13, none⟩ (.slice Av (cur.f13.length + 1) cv)) from hB1.setCell (p := ⟨g, 13, none⟩) HBG.out _)
      have H69 := Lib.hid (blk_far hh6 (p := ⟨g, 13, none⟩) hne (.slice Av (cur.f13.length + 1) cv))
      clear hR1 hB1 hg1 hat1 hh1 hh6 hs13 hf13
      generalize w1.setCell ⟨g, 13, none⟩ (.slice Av (cur.f13.length + 1) cv) = w9 at HW H69 HB9 ⊢
      go_wp2
      go_roundg (gk - 8)
      case measure => have := HJL.out; have := HJM.out; omega
      case rel =>
        refine ⟨j + 8, { cur with f13 := cur.f13 ++ [⟨n1, n2⟩] }, by have := HJM.out; have := HJL.out; omega, rfl, Lib.hid (by have := HJ8.out; omega), HW, H69, HB9, HBE, Lib.hid ?_⟩
        have := HLN0.out; have := HJL.out; have := HJM.out
        rw [List.length_append, List.length_singleton]; omega
end Go.Proofs.Ytenpekakmkemeaa.WireG

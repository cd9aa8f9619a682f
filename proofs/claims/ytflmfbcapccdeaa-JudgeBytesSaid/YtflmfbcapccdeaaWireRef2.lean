/- The document's options of a segment, walked: one behind the other. -/
import Derived.Test.YtflmfbcapccdeaaWireLaw
import Derived.Test.YtflmfbcapccdeaaPAx22
import Derived.Test.YtflmfbcapccdeaaWireGet
import Derived.Lib.Hide
import Derived.WalkKit
set_option linter.unusedVariables false
set_option linter.unusedSimpArgs false
set_option autoImplicit false
namespace Go.Proofs.Ytflmfbcapccdeaa.WireG
open Go.RowKit Go.Proofs.Ytflmfbcapccdeaa.PA Go.Proofs.YtflmfbcapccdeaaW.PrintWords Go.Proofs.YtflmfbcapccdeaaW.PrintLast Go.Proofs.YtflmfbcapccdeaaW.PrintMore
attribute [local go_sem] max2_int min2_int max_two min_two
theorem wr_num_l (l : List Int) (hl : l.length ≤ 9223372036854775806) : ∀ (d i k : Nat) (n : Int), l.length - i = d → i ≤ l.length → d < k → tidewayref03_number.l0 k l n (i : Int) = some ((l.drop i).foldl wgs n) := by
  intro d
  induction d with
  | zero =>
    intro i k n hd hi hk
    obtain ⟨k, rfl⟩ : ∃ j, k = j + 1 := ⟨k - 1, by omega⟩
    rw [tidewayref03_number.l0, if_neg (by omega), List.drop_of_length_le (by omega)]; rfl
  | succ d ih =>
    intro i k n hd hi hk
    obtain ⟨k, rfl⟩ : ∃ j, k = j + 1 := ⟨k - 1, by omega⟩
    have hw : wrap64 ((i : Int) + 1) = ((i + 1 : Nat) : Int) := by rw [wg_w64 (by omega) (by omega)]; rfl
    have hr : rd l (i : Int) = l.getD i 0 := by simp [rd]
    have hdr : l.drop i = l.getD i 0 :: l.drop (i + 1) := by
      rw [List.drop_eq_getElem_cons (show i < l.length by omega), List.getD_eq_getElem?_getD, List.getElem?_eq_getElem (show i < l.length by omega)]; rfl
    rw [tidewayref03_number.l0, if_pos (by omega), if_pos (by omega), hw, ih (i + 1) k _ (by omega) (by omega) (by omega), hr, hdr]; rfl
theorem wr_num (l : List Int) (hl : l.length ≤ 9223372036854775806) : tidewayref03_number.f (l.length + 1) l = some (wgn l) := by
  have := wr_num_l l hl l.length 0 (l.length + 1) 0 (by omega) (by omega) (by omega)
  exact this
theorem wr_len (kind n : Int) (h0 : 0 ≤ n) (h1 : n ≤ 255) : tidewayref03_length.f kind n = some (wglen kind n) := by
  unfold tidewayref03_length.f wglen
  repeat' split
  all_goals (first | rfl | (congr 1; rw [eq_comm]; simp only [Bool.and_eq_true, decide_eq_true_eq, beq_iff_eq]; omega) | (congr 1; rw [Bool.eq_iff_iff]; simp only [Bool.and_eq_true, decide_eq_true_eq, beq_iff_eq]; omega) | skip)
theorem wr_res (tmps : Array Value) (p : Nat) (cs : Array Value) (W : World) (e6 : tmps[6]?.getD undef = .pointer (some ⟨p, 0, none⟩)) (hs : cs.size = 15) (hh : W.heap[p]? = some (.cells cs 53 (0, 0))) :
    (results Try.f91 tmps).run Try.prog W = .ok (.agg cs) W := by
  have h1 := run_loadVar_row (P := Try.prog) W p 53 53 _ (0, 0) _ hh Try.underlying53 rfl (by rw [hs]; kernel_rfl)
  simp [results, Try.results91, e6, asAddr, h1]
theorem wr_boxed (s : SG) (v d : Value) (w W1 : World) (h : (w.alloc (.cells (wgcells s v d) 53)).alloc (.cells (wgcells z53 (.slice none 0 0) (.slice none 0 0)) 53) = W1) :
    Below w.heap.size w W1 ∧ W1.heap[w.heap.size]? = some (.cells (wgcells s v d) 53 (0, 0)) ∧ W1.heap[w.heap.size + 1]? = some (.cells (wgcells z53 (.slice none 0 0) (.slice none 0 0)) 53 (0, 0)) := by
  subst h
  refine ⟨((Below.refl _ w).alloc (Nat.le_refl _) _).alloc (by simp) _, blk_alloc (blk_new w _) _, ?_⟩
  have h_ := blk_new (w.alloc (.cells (wgcells s v d) 53)) (.cells (wgcells z53 (.slice none 0 0) (.slice none 0 0)) 53)
  rwa [World.size_alloc] at h_
theorem wr_tail {w W w9 : World} {g g6 : Nat} (hg : w.heap.size = g) (hge : g ≤ g6) (hb : Below g w W) (h : W.grownBy w9 (some g6)) : Below w.heap.size w w9 := by
  subst hg
  exact hb.grown h hb.size (fun k hk => by cases hk; exact hge)
theorem wr_then {w W w2 : World} {g : Nat} (hg : w.heap.size = g) (hb : Below g w W) (h : Below W.heap.size W w2) : Below g w w2 := by
  subst hg
  exact below_step hb h
set_option maxRecDepth 100000 in
set_option maxHeartbeats 16000000 in
theorem wr_opt2 (s : SG) (A13 : Option Addr) (n13 c13 : Nat) (A14 : Option Addr) (n14 c14 : Nat) (A : Option Addr) (c : Nat) (b : List Int) (w : World) (hC : Kd.C (Kd.int .u8) w A b.length b) (hc : b.length ≤ c) (hb : wgb b) (hl : b.length ≤ 300) :
    Calls Try.prog 91 #[.agg (wgcells s (.slice A13 n13 c13) (.slice A14 n14 c14)), .int .u8 2, .slice A b.length c] w fun e w' => e = .returned (.agg (wgcells (wgopt s 2 b) (.slice A13 n13 c13) (.slice A14 n14 c14))) ∧ Below w.heap.size w w' := by
  have hnum := wr_num b (by omega)
  have hbd := wgn_bd hb
  obtain ⟨n, hn⟩ : ∃ n, wgn b = n := ⟨_, rfl⟩
  rw [hn] at hnum hbd
  have hw : wrap64 n = n := wg_w64 (by omega) (by omega)
  have HNUM := Lib.hid hnum; have HC := Lib.hid hC; have HCC := Lib.hid hc
  have HW := Lib.hid (show wgopt s 2 b = { s with f7 := n } from by rw [← hn]; rfl)
  clear hnum hbd hC hb hl hn hc
  go_enter Try.func91, Try.ntmps91
  go_upto_region 1 with (fail)
  obtain ⟨W1, hW1⟩ : ∃ W1, (w.alloc (.cells (wgcells s (.slice A13 n13 c13) (.slice A14 n14 c14)) 53)).alloc (.cells (wgcells z53 (.slice none 0 0) (.slice none 0 0)) 53) = W1 := ⟨_, rfl⟩
  obtain ⟨hb1, hg1, hg6⟩ := wr_boxed s (.slice A13 n13 c13) (.slice A14 n14 c14) w W1 hW1
  have hW1' : (w.alloc (.cells (wgcells s (.slice A13 n13 c13) (.slice A14 n14 c14)) 53)).alloc (.cells #[.int .i64 0, .int .i64 0, .int .u32 0, .int .u32 0, .int .i64 0, .int .i64 0, .int .i64 0, .int .i64 0, .int .i64 0, .bool false, .bool false, .int .u32 0, .int .u32 0, .slice none 0 0, .slice none 0 0] 53) = W1 := hW1
  rw [hW1']
  obtain ⟨g, hg⟩ : ∃ g, w.heap.size = g := ⟨_, rfl⟩
  obtain ⟨g6, hgg⟩ : ∃ g6, g + 1 = g6 := ⟨_, rfl⟩
  have hne : g6 ≠ g := by omega
  have hge : g ≤ g6 := by omega
  rw [hg] at hg1 hg6 hb1 ⊢
  rw [hgg] at hg6 ⊢
  have HB1 := Lib.hid hb1; have HG1 := Lib.hid hg1; have HG6 := Lib.hid hg6; have HGG := Lib.hid hg
  clear hW1 hW1' hgg hg hb1 hg1 hg6
  go_upto_region 17 with (go_at_call 61; refine (tidewayref03_number.calls _ A c b n W1 (Kd.C_below HC.out (HGG.out ▸ HB1.out)) HCC.out HNUM.out).mono ?_; rintro e w2 ⟨rfl, hd2⟩; have hb2 := hd2.below; have HBa := Lib.hid (wr_then HGG.out HB1.out hb2); have HGa := Lib.hid (blk_below HG1.out hb2); have HG6a := Lib.hid (blk_below HG6.out hb2); have hcell7 := (show w2.cell? ⟨g, 7, none⟩ = some (.int .i64 s.f7) from (blk_cell HGa.out 7).trans rfl); have hfz7 : w2.frozen? ⟨g, 7, none⟩ = false := blk_frozen HGa.out 7; clear hd2 hb2)
  have HL := Lib.hid (wgcells_ext (cs' := wgcells { s with f7 := n } (.slice A13 n13 c13) (.slice A14 n14 c14)) (blk_set HGa.out 7 (.int .i64 n)) rfl)
  have HL6 := Lib.hid (blk_far HG6a.out (p := ⟨g, 7, none⟩) hne (.int .i64 n))
  have HBL := Lib.hid (HBa.out.setCell (p := ⟨g, 7, none⟩) (Nat.le_refl _) (.int .i64 n))
  go_wp2_with (first
    | (refine gate_ (.load 53 (.tmp 3)) rfl ?_; refine wpList_load_row rfl 53 (.tmp 3) rfl g rfl 53 _ (0, 0) _ HL.out Try.underlying53 rfl (by kernel_rfl) ?_)
    | (refine gate_ (.store 53 (.tmp 6) (.tmp 64)) rfl ?_; refine wg_store_op rfl rfl 53 (.tmp 6) (.tmp 64) rfl _ _ _ 53 _ rfl rfl rfl (by kernel_rfl) rfl HL6.out rfl ?_; intro w9 h9 hg9))
  try simp only [Exit.inBlock, Exit.then]
  refine bodyPost_ret (wr_res _ g6 _ _ rfl rfl h9) rfl ?_
  exact ⟨by rw [HW.out]; rfl, wr_tail HGG.out hge HBL.out hg9⟩
set_option maxRecDepth 100000 in
set_option maxHeartbeats 16000000 in
theorem wr_opt3 (s : SG) (A13 : Option Addr) (n13 c13 : Nat) (A14 : Option Addr) (n14 c14 : Nat) (A : Option Addr) (c : Nat) (b : List Int) (w : World) (hC : Kd.C (Kd.int .u8) w A b.length b) (hb : wgb b) (h1 : 1 ≤ b.length) :
    Calls Try.prog 91 #[.agg (wgcells s (.slice A13 n13 c13) (.slice A14 n14 c14)), .int .u8 3, .slice A b.length c] w fun e w' => e = .returned (.agg (wgcells (wgopt s 3 b) (.slice A13 n13 c13) (.slice A14 n14 c14))) ∧ Below w.heap.size w w' := by
  obtain ⟨ad, rfl, h0⟩ := Kd.at_int hC 0 (by omega) (by omega)
  have h0' : w.cell? ad = some (.int .u8 (b.getD 0 0)) := by have := h0; simpa [Addr.add, rd] using this
  have hbd := hb (b.getD 0 0) (by rw [List.getD_eq_getElem?_getD, List.getElem?_eq_getElem (by omega)]; exact List.getElem_mem _)
  obtain ⟨x, hx⟩ : ∃ x, b.getD 0 0 = x := ⟨_, rfl⟩
  rw [hx] at h0' hbd
  have hw : wrap64 x = x := wg_w64 (by omega) (by omega)
  have HW := Lib.hid (show wgopt s 3 b = { s with f8 := mn x 14 } from by rw [← hx]; rfl)
  have H0 := Lib.hid h0'
  clear h0 hx hC hb h0' hbd
  go_enter Try.func91, Try.ntmps91
  go_upto_region 1 with (fail)
  obtain ⟨W1, hW1⟩ : ∃ W1, (w.alloc (.cells (wgcells s (.slice A13 n13 c13) (.slice A14 n14 c14)) 53)).alloc (.cells (wgcells z53 (.slice none 0 0) (.slice none 0 0)) 53) = W1 := ⟨_, rfl⟩
  obtain ⟨hb1, hg1, hg6⟩ := wr_boxed s (.slice A13 n13 c13) (.slice A14 n14 c14) w W1 hW1
  have hW1' : (w.alloc (.cells (wgcells s (.slice A13 n13 c13) (.slice A14 n14 c14)) 53)).alloc (.cells #[.int .i64 0, .int .i64 0, .int .u32 0, .int .u32 0, .int .i64 0, .int .i64 0, .int .i64 0, .int .i64 0, .int .i64 0, .bool false, .bool false, .int .u32 0, .int .u32 0, .slice none 0 0, .slice none 0 0] 53) = W1 := hW1
  rw [hW1']
  obtain ⟨g, hg⟩ : ∃ g, w.heap.size = g := ⟨_, rfl⟩
  obtain ⟨g6, hgg⟩ : ∃ g6, g + 1 = g6 := ⟨_, rfl⟩
  have hne : g6 ≠ g := by omega
  have hge : g ≤ g6 := by omega
  rw [hg] at hg1 hg6 hb1 ⊢
  rw [hgg] at hg6 ⊢
  have HB1 := Lib.hid hb1; have HG1 := Lib.hid hg1; have HG6 := Lib.hid hg6; have HGG := Lib.hid hg
  clear hW1 hW1' hgg hg hb1 hg1 hg6
  have hcx : W1.cell? ad = some (.int .u8 x) := (HB1.out.cell (HGG.out ▸ World.block_lt_of_cell? w _ H0.out)).trans H0.out
  have hcell8 := (show W1.cell? ⟨g, 8, none⟩ = some (.int .i64 s.f8) from (blk_cell HG1.out 8).trans rfl)
  have hfz8 : W1.frozen? ⟨g, 8, none⟩ = false := blk_frozen HG1.out 8
  have hmn : (if (14 : Int) < x then (14 : Int) else x) = mn x 14 := rfl
  obtain ⟨y, hy⟩ : ∃ y, mn x 14 = y := ⟨_, rfl⟩
  rw [hy] at hmn HW
  have HL := Lib.hid (wgcells_ext (cs' := wgcells { s with f8 := y } (.slice A13 n13 c13) (.slice A14 n14 c14)) (blk_set HG1.out 8 (.int .i64 y)) rfl)
  have HL6 := Lib.hid (blk_far HG6.out (p := ⟨g, 8, none⟩) hne (.int .i64 y))
  have HBL := Lib.hid (HB1.out.setCell (p := ⟨g, 8, none⟩) (Nat.le_refl _) (.int .i64 y))
  by_cases h14 : (14 : Int) < x
  · have hyy : y = 14 := by rw [← hmn, if_pos h14]
    subst hyy
    go_wp2_with (first
      | (refine gate_ (.load 53 (.tmp 3)) rfl ?_; refine wpList_load_row rfl 53 (.tmp 3) rfl g rfl 53 _ (0, 0) _ HL.out Try.underlying53 rfl (by kernel_rfl) ?_)
      | (refine gate_ (.store 53 (.tmp 6) (.tmp 64)) rfl ?_; refine wg_store_op rfl rfl 53 (.tmp 6) (.tmp 64) rfl _ _ _ 53 _ rfl rfl rfl (by kernel_rfl) rfl HL6.out rfl ?_; intro w9 h9 hg9))
    try simp only [Exit.inBlock, Exit.then]
    refine bodyPost_ret (wr_res _ g6 _ _ rfl rfl h9) rfl ?_
    exact ⟨by rw [HW.out]; rfl, wr_tail HGG.out hge HBL.out hg9⟩
  · have hyy : y = x := by rw [← hmn, if_neg h14]
    subst hyy
    go_wp2_with (first
      | (refine gate_ (.load 53 (.tmp 3)) rfl ?_; refine wpList_load_row rfl 53 (.tmp 3) rfl g rfl 53 _ (0, 0) _ HL.out Try.underlying53 rfl (by kernel_rfl) ?_)
      | (refine gate_ (.store 53 (.tmp 6) (.tmp 64)) rfl ?_; refine wg_store_op rfl rfl 53 (.tmp 6) (.tmp 64) rfl _ _ _ 53 _ rfl rfl rfl (by kernel_rfl) rfl HL6.out rfl ?_; intro w9 h9 hg9))
    try simp only [Exit.inBlock, Exit.then]
    refine bodyPost_ret (wr_res _ g6 _ _ rfl rfl h9) rfl ?_
    exact ⟨by rw [HW.out]; rfl, wr_tail HGG.out hge HBL.out hg9⟩
set_option maxRecDepth 100000 in
set_option maxHeartbeats 16000000 in
theorem wr_opt4 (s : SG) (A13 : Option Addr) (n13 c13 : Nat) (A14 : Option Addr) (n14 c14 : Nat) (A : Option Addr) (c : Nat) (b : List Int) (w : World) :
    Calls Try.prog 91 #[.agg (wgcells s (.slice A13 n13 c13) (.slice A14 n14 c14)), .int .u8 4, .slice A b.length c] w fun e w' => e = .returned (.agg (wgcells (wgopt s 4 b) (.slice A13 n13 c13) (.slice A14 n14 c14))) ∧ Below w.heap.size w w' := by
  have HW := Lib.hid (show wgopt s 4 b = { s with f9 := true } from rfl)
  go_enter Try.func91, Try.ntmps91
  go_upto_region 1 with (fail)
  obtain ⟨W1, hW1⟩ : ∃ W1, (w.alloc (.cells (wgcells s (.slice A13 n13 c13) (.slice A14 n14 c14)) 53)).alloc (.cells (wgcells z53 (.slice none 0 0) (.slice none 0 0)) 53) = W1 := ⟨_, rfl⟩
  obtain ⟨hb1, hg1, hg6⟩ := wr_boxed s (.slice A13 n13 c13) (.slice A14 n14 c14) w W1 hW1
  have hW1' : (w.alloc (.cells (wgcells s (.slice A13 n13 c13) (.slice A14 n14 c14)) 53)).alloc (.cells #[.int .i64 0, .int .i64 0, .int .u32 0, .int .u32 0, .int .i64 0, .int .i64 0, .int .i64 0, .int .i64 0, .int .i64 0, .bool false, .bool false, .int .u32 0, .int .u32 0, .slice none 0 0, .slice none 0 0] 53) = W1 := hW1
  rw [hW1']
  obtain ⟨g, hg⟩ : ∃ g, w.heap.size = g := ⟨_, rfl⟩
  obtain ⟨g6, hgg⟩ : ∃ g6, g + 1 = g6 := ⟨_, rfl⟩
  have hne : g6 ≠ g := by omega
  have hge : g ≤ g6 := by omega
  rw [hg] at hg1 hg6 hb1 ⊢
  rw [hgg] at hg6 ⊢
  have HB1 := Lib.hid hb1; have HG1 := Lib.hid hg1; have HG6 := Lib.hid hg6; have HGG := Lib.hid hg
  clear hW1 hW1' hgg hg hb1 hg1 hg6
  have hcell9 := (show W1.cell? ⟨g, 9, none⟩ = some (.bool s.f9) from (blk_cell HG1.out 9).trans rfl)
  have hfz9 : W1.frozen? ⟨g, 9, none⟩ = false := blk_frozen HG1.out 9
  have HL := Lib.hid (wgcells_ext (cs' := wgcells { s with f9 := true } (.slice A13 n13 c13) (.slice A14 n14 c14)) (blk_set HG1.out 9 (.bool true)) rfl)
  have HL6 := Lib.hid (blk_far HG6.out (p := ⟨g, 9, none⟩) hne (.bool true))
  have HBL := Lib.hid (HB1.out.setCell (p := ⟨g, 9, none⟩) (Nat.le_refl _) (.bool true))
  go_wp2_with (first
    | (refine gate_ (.load 53 (.tmp 3)) rfl ?_; refine wpList_load_row rfl 53 (.tmp 3) rfl g rfl 53 _ (0, 0) _ HL.out Try.underlying53 rfl (by kernel_rfl) ?_)
    | (refine gate_ (.store 53 (.tmp 6) (.tmp 64)) rfl ?_; refine wg_store_op rfl rfl 53 (.tmp 6) (.tmp 64) rfl _ _ _ 53 _ rfl rfl rfl (by kernel_rfl) rfl HL6.out rfl ?_; intro w9 h9 hg9))
  try simp only [Exit.inBlock, Exit.then]
  refine bodyPost_ret (wr_res _ g6 _ _ rfl rfl h9) rfl ?_
  exact ⟨by rw [HW.out]; rfl, wr_tail HGG.out hge HBL.out hg9⟩
set_option maxRecDepth 100000 in
set_option maxHeartbeats 16000000 in
theorem wr_opt_else (s : SG) (A13 : Option Addr) (n13 c13 : Nat) (A14 : Option Addr) (n14 c14 : Nat) (A : Option Addr) (c : Nat) (b : List Int) (w : World) (kind : Int) (h2 : kind ≠ 2) (h3 : kind ≠ 3) (h4 : kind ≠ 4) (h8 : kind ≠ 8) (h5 : kind ≠ 5) :
    Calls Try.prog 91 #[.agg (wgcells s (.slice A13 n13 c13) (.slice A14 n14 c14)), .int .u8 kind, .slice A b.length c] w fun e w' => e = .returned (.agg (wgcells (wgopt s kind b) (.slice A13 n13 c13) (.slice A14 n14 c14))) ∧ Below w.heap.size w w' := by
  have e2 : (kind == 2) = false := beq_false_of_ne h2
  have e3 : (kind == 3) = false := beq_false_of_ne h3
  have e4 : (kind == 4) = false := beq_false_of_ne h4
  have e8 : (kind == 8) = false := beq_false_of_ne h8
  have e5 : (kind == 5) = false := beq_false_of_ne h5
  have HW := Lib.hid (show wgopt s kind b = s from by unfold wgopt; rw [if_neg h2, if_neg h3, if_neg h4, if_neg h8, if_neg h5])
  clear h2 h3 h4 h8 h5
  go_enter Try.func91, Try.ntmps91
  go_upto_region 1 with (fail)
  obtain ⟨W1, hW1⟩ : ∃ W1, (w.alloc (.cells (wgcells s (.slice A13 n13 c13) (.slice A14 n14 c14)) 53)).alloc (.cells (wgcells z53 (.slice none 0 0) (.slice none 0 0)) 53) = W1 := ⟨_, rfl⟩
  obtain ⟨hb1, hg1, hg6⟩ := wr_boxed s (.slice A13 n13 c13) (.slice A14 n14 c14) w W1 hW1
  have hW1' : (w.alloc (.cells (wgcells s (.slice A13 n13 c13) (.slice A14 n14 c14)) 53)).alloc (.cells #[.int .i64 0, .int .i64 0, .int .u32 0, .int .u32 0, .int .i64 0, .int .i64 0, .int .i64 0, .int .i64 0, .int .i64 0, .bool false, .bool false, .int .u32 0, .int .u32 0, .slice none 0 0, .slice none 0 0] 53) = W1 := hW1
  rw [hW1']
  obtain ⟨g, hg⟩ : ∃ g, w.heap.size = g := ⟨_, rfl⟩
  obtain ⟨g6, hgg⟩ : ∃ g6, g + 1 = g6 := ⟨_, rfl⟩
  have hne : g6 ≠ g := by omega
  have hge : g ≤ g6 := by omega
  rw [hg] at hg1 hg6 hb1 ⊢
  rw [hgg] at hg6 ⊢
  have HB1 := Lib.hid hb1; have HG1 := Lib.hid hg1; have HG6 := Lib.hid hg6; have HGG := Lib.hid hg
  clear hW1 hW1' hgg hg hb1 hg1 hg6
  have HL := HG1
  have HL6 := HG6
  have HBL := HB1
  go_wp2_with (first
    | (refine gate_ (.load 53 (.tmp 3)) rfl ?_; refine wpList_load_row rfl 53 (.tmp 3) rfl g rfl 53 _ (0, 0) _ HL.out Try.underlying53 rfl (by kernel_rfl) ?_)
    | (refine gate_ (.store 53 (.tmp 6) (.tmp 64)) rfl ?_; refine wg_store_op rfl rfl 53 (.tmp 6) (.tmp 64) rfl _ _ _ 53 _ rfl rfl rfl (by kernel_rfl) rfl HL6.out rfl ?_; intro w9 h9 hg9))
  try simp only [Exit.inBlock, Exit.then]
  refine bodyPost_ret (wr_res _ g6 _ _ rfl rfl h9) rfl ?_
  exact ⟨by rw [HW.out]; rfl, wr_tail HGG.out hge HBL.out hg9⟩
set_option maxRecDepth 100000 in
set_option maxHeartbeats 16000000 in
theorem wr_opt8 (s : SG) (A13 : Option Addr) (n13 c13 : Nat) (A14 : Option Addr) (n14 c14 : Nat) (A : Option Addr) (c : Nat) (b : List Int) (w : World) (hC : Kd.C (Kd.int .u8) w A b.length b) (hc : b.length ≤ c) (hb : wgb b) (hl : b.length = 8) :
    Calls Try.prog 91 #[.agg (wgcells s (.slice A13 n13 c13) (.slice A14 n14 c14)), .int .u8 8, .slice A b.length c] w fun e w' => e = .returned (.agg (wgcells (wgopt s 8 b) (.slice A13 n13 c13) (.slice A14 n14 c14))) ∧ Below w.heap.size w w' := by
  obtain ⟨u0, hu0, _, hsz, _⟩ := info_parts info5
  have cut1 := cut_to (P := Try.prog) 34 5 .i64 Try.underlying34 hu0 A b.length c (4 : Int) (by omega) (by omega) hc
  have cut2 := cut_from (P := Try.prog) 34 5 .i64 Try.underlying34 hu0 1 hsz A b.length c (4 : Int) (by omega) (by omega)
  simp only [show ((4 : Int)).toNat = 4 from rfl, Nat.mul_one] at cut1 cut2
  obtain ⟨A2, hA2⟩ : ∃ a, (if c = 4 then A else A.map (·.add 4)) = a := ⟨_, rfl⟩
  rw [hA2] at cut2
  have R1 := Kd.C_take (m := 4) hC (by omega)
  have R2 := Kd.C_drop (m := 4) (c := c) hC (by omega) hc
  rw [show 4 * (Kd.int .u8).sz = 4 from rfl, hA2] at R2
  have l1 : (b.take 4).length = 4 := by rw [List.length_take]; omega
  have l2 : (b.drop 4).length = 4 := by rw [List.length_drop]; omega
  have G1 := wr_num (b.take 4) (by omega)
  have G2 := wr_num (b.drop 4) (by omega)
  obtain ⟨n1, hn1⟩ : ∃ n, wgn (b.take 4) = n := ⟨_, rfl⟩
  obtain ⟨n2, hn2⟩ : ∃ n, wgn (b.drop 4) = n := ⟨_, rfl⟩
  rw [hn1] at G1; rw [hn2] at G2
  have K1 := Lib.hid (fun (W : World) (hB : Below w.heap.size w W) => tidewayref03_number.calls _ A c (b.take 4) n1 W (Kd.C_below R1 hB) (by omega) G1)
  have K2 := Lib.hid (fun (W : World) (hB : Below w.heap.size w W) => tidewayref03_number.calls _ A2 (c - 4) (b.drop 4) n2 W (Kd.C_below R2 hB) (by omega) G2)
  rw [l1] at K1; rw [l2] at K2
  have HW := Lib.hid (show wgopt s 8 b = { s with f10 := true, f11 := n1, f12 := n2 } from by rw [← hn1, ← hn2]; rfl)
  rw [hl] at cut1 cut2 ⊢
  rw [show 8 - 4 = 4 from rfl] at cut2
  clear hC hb hl hc R1 R2 l1 l2 G1 G2 hn1 hn2 hA2
  go_enter Try.func91, Try.ntmps91
  go_upto_region 1 with (fail)
  obtain ⟨W1, hW1⟩ : ∃ W1, (w.alloc (.cells (wgcells s (.slice A13 n13 c13) (.slice A14 n14 c14)) 53)).alloc (.cells (wgcells z53 (.slice none 0 0) (.slice none 0 0)) 53) = W1 := ⟨_, rfl⟩
  obtain ⟨hb1, hg1, hg6⟩ := wr_boxed s (.slice A13 n13 c13) (.slice A14 n14 c14) w W1 hW1
  have hW1' : (w.alloc (.cells (wgcells s (.slice A13 n13 c13) (.slice A14 n14 c14)) 53)).alloc (.cells #[.int .i64 0, .int .i64 0, .int .u32 0, .int .u32 0, .int .i64 0, .int .i64 0, .int .i64 0, .int .i64 0, .int .i64 0, .bool false, .bool false, .int .u32 0, .int .u32 0, .slice none 0 0, .slice none 0 0] 53) = W1 := hW1
  rw [hW1']
  obtain ⟨g, hg⟩ : ∃ g, w.heap.size = g := ⟨_, rfl⟩
  obtain ⟨g6, hgg⟩ : ∃ g6, g + 1 = g6 := ⟨_, rfl⟩
  have hne : g6 ≠ g := by omega
  have hge : g ≤ g6 := by omega
  rw [hg] at hg1 hg6 hb1 ⊢
  rw [hgg] at hg6 ⊢
  have HB1 := Lib.hid hb1; have HG1 := Lib.hid hg1; have HG6 := Lib.hid hg6; have HGG := Lib.hid hg
  clear hW1 hW1' hgg hg hb1 hg1 hg6
  have hcell10 := (show W1.cell? ⟨g, 10, none⟩ = some (.bool s.f10) from (blk_cell HG1.out 10).trans rfl)
  have hfz10 : W1.frozen? ⟨g, 10, none⟩ = false := blk_frozen HG1.out 10
  have HG2 := Lib.hid (wgcells_ext (cs' := wgcells { s with f10 := true } (.slice A13 n13 c13) (.slice A14 n14 c14)) (blk_set HG1.out 10 (.bool true)) rfl)
  have HG62 := Lib.hid (blk_far HG6.out (p := ⟨g, 10, none⟩) hne (.bool true))
  have HB2 := Lib.hid (HB1.out.setCell (p := ⟨g, 10, none⟩) (Nat.le_refl _) (.bool true))
  go_upto_region 11 with (go_at_call 61; refine (K1.out _ (HGG.out ▸ HB2.out)).mono ?_; rintro e w2 ⟨rfl, hd2⟩; have hb2 := hd2.below; have HBa := Lib.hid (wr_then HGG.out HB2.out hb2); have HGa := Lib.hid (blk_below HG2.out hb2); have HG6a := Lib.hid (blk_below HG62.out hb2); have hcell11 := (show w2.cell? ⟨g, 11, none⟩ = some (.int .u32 s.f11) from (blk_cell HGa.out 11).trans rfl); have hfz11 : w2.frozen? ⟨g, 11, none⟩ = false := blk_frozen HGa.out 11; clear hd2 hb2)
  have HG3 := Lib.hid (wgcells_ext (cs' := wgcells { s with f10 := true, f11 := n1 } (.slice A13 n13 c13) (.slice A14 n14 c14)) (blk_set HGa.out 11 (.int .u32 n1)) rfl)
  have HG63 := Lib.hid (blk_far HG6a.out (p := ⟨g, 11, none⟩) hne (.int .u32 n1))
  have HB3 := Lib.hid (HBa.out.setCell (p := ⟨g, 11, none⟩) (Nat.le_refl _) (.int .u32 n1))
  go_upto_region 17 with (go_at_call 61; refine (K2.out _ (HGG.out ▸ HB3.out)).mono ?_; rintro e w4 ⟨rfl, hd4⟩; have hb4 := hd4.below; have HBb := Lib.hid (wr_then HGG.out HB3.out hb4); have HGb := Lib.hid (blk_below HG3.out hb4); have HG6b := Lib.hid (blk_below HG63.out hb4); have hcell12 := (show w4.cell? ⟨g, 12, none⟩ = some (.int .u32 s.f12) from (blk_cell HGb.out 12).trans rfl); have hfz12 : w4.frozen? ⟨g, 12, none⟩ = false := blk_frozen HGb.out 12; clear hd4 hb4)
  have HL := Lib.hid (wgcells_ext (cs' := wgcells { s with f10 := true, f11 := n1, f12 := n2 } (.slice A13 n13 c13) (.slice A14 n14 c14)) (blk_set HGb.out 12 (.int .u32 n2)) rfl)
  have HL6 := Lib.hid (blk_far HG6b.out (p := ⟨g, 12, none⟩) hne (.int .u32 n2))
  have HBL := Lib.hid (HBb.out.setCell (p := ⟨g, 12, none⟩) (Nat.le_refl _) (.int .u32 n2))
  go_wp2_with (first
    | (refine gate_ (.load 53 (.tmp 3)) rfl ?_; refine wpList_load_row rfl 53 (.tmp 3) rfl g rfl 53 _ (0, 0) _ HL.out Try.underlying53 rfl (by kernel_rfl) ?_)
    | (refine gate_ (.store 53 (.tmp 6) (.tmp 64)) rfl ?_; refine wg_store_op rfl rfl 53 (.tmp 6) (.tmp 64) rfl _ _ _ 53 _ rfl rfl rfl (by kernel_rfl) rfl HL6.out rfl ?_; intro w9 h9 hg9))
  try simp only [Exit.inBlock, Exit.then]
  refine bodyPost_ret (wr_res _ g6 _ _ rfl rfl h9) rfl ?_
  exact ⟨by rw [HW.out]; rfl, wr_tail HGG.out hge HBL.out hg9⟩
theorem wr_q {W w2 : World} (h : Below W.heap.size W w2) : Below W.heap.size W w2 := h
theorem wr_num_calls (w : World) (A2 : Option Addr) (c2 : Nat) (l : List Int) (n : Int) (hl : l.length = 4) (hR : Kd.C (Kd.int .u8) w A2 l.length l) (hc : l.length ≤ c2) (G : tidewayref03_number.f (l.length + 1) l = some n) (W : World) (hB : Below w.heap.size w W) :
    Calls Try.prog 61 #[.slice A2 4 c2] W fun e w' => e = .returned (.int .u32 n) ∧ Below w.heap.size w w' ∧ Below W.heap.size W w' := by
  have h := tidewayref03_number.calls _ A2 c2 l n W (Kd.C_below hR hB) hc G
  rw [hl] at h
  refine h.mono ?_
  rintro e w' ⟨rfl, hd⟩
  exact ⟨rfl, below_step hB hd.below, hd.below⟩
theorem wr_take (b : List Int) (j : Nat) : (b.take (j + 4)).drop j = (b.drop j).take 4 := by rw [List.drop_take]; congr 1; omega
theorem wr_take2 (b : List Int) (j : Nat) : (b.take (j + 8)).drop (j + 4) = ((b.drop j).take 8).drop 4 := by
  rw [List.drop_take, List.drop_take, List.drop_drop]; congr 1; omega
set_option maxRecDepth 100000 in
set_option maxHeartbeats 16000000 in
theorem wr_opt5 (s : SG) (A14 : Option Addr) (n14 c14 : Nat) (A : Option Addr) (c : Nat) (b : List Int) (w : World) (hC : Kd.C (Kd.int .u8) w A b.length b) (hc : b.length ≤ c) (hl : b.length ≤ 300) (h8 : b.length % 8 = 0) (hn : s.f13 = []) :
    Calls Try.prog 91 #[.agg (wgcells s (.slice none 0 0) (.slice A14 n14 c14)), .int .u8 5, .slice A b.length c] w fun e w' => ∃ v', e = .returned (.agg (wgcells (wgopt s 5 b) v' (.slice A14 n14 c14))) ∧ Kd.R k112 112 w' w.heap.size (fun _ => True) v' (wgopt s 5 b).f13 ∧ Below w.heap.size w w' := by
  have HC := Lib.hid hC; have HLL := Lib.hid hl; have H8 := Lib.hid h8; have HNN := Lib.hid hn; have HCC := Lib.hid hc
  clear hC hl h8 hn hc
  go_enter Try.func91, Try.ntmps91
  go_upto_region 1 with (fail)
  obtain ⟨W1, hW1⟩ : ∃ W1, (w.alloc (.cells (wgcells s (.slice none 0 0) (.slice A14 n14 c14)) 53)).alloc (.cells (wgcells z53 (.slice none 0 0) (.slice none 0 0)) 53) = W1 := ⟨_, rfl⟩
  obtain ⟨hb1, hg1, hg6⟩ := wr_boxed s (.slice none 0 0) (.slice A14 n14 c14) w W1 hW1
  have hW1' : (w.alloc (.cells (wgcells s (.slice none 0 0) (.slice A14 n14 c14)) 53)).alloc (.cells #[.int .i64 0, .int .i64 0, .int .u32 0, .int .u32 0, .int .i64 0, .int .i64 0, .int .i64 0, .int .i64 0, .int .i64 0, .bool false, .bool false, .int .u32 0, .int .u32 0, .slice none 0 0, .slice none 0 0] 53) = W1 := hW1
  rw [hW1']
  obtain ⟨g, hg⟩ : ∃ g, w.heap.size = g := ⟨_, rfl⟩
  obtain ⟨g6, hgg⟩ : ∃ g6, g + 1 = g6 := ⟨_, rfl⟩
  have hne : g6 ≠ g := by omega
  have hge : g ≤ g6 := by omega
  rw [hg] at hg1 hg6 hb1 ⊢
  rw [hgg] at hg6 ⊢
  have HB1 := Lib.hid hb1; have HG1 := Lib.hid hg1; have HG6 := Lib.hid hg6; have HGG := Lib.hid hg
  clear hW1 hW1' hgg hg hb1 hg1 hg6
  have HS0 := Lib.hid (show Wgs W1 w.heap.size g s (.slice A14 n14 c14) from ⟨by rw [HGG.out]; exact Nat.le_refl _, _, HG1.out, by rw [HNN.out]; exact Kd.R_nil _ _ _ _ _⟩)
  have HB0 := Lib.hid (show Below w.heap.size w W1 from HGG.out ▸ HB1.out)
  have HL0 := HLL.out
  have HEQ0 := Lib.hid (show wgopt s 5 b = { s with f13 := s.f13 ++ wgblocks ((b.drop 0).length + 1) (b.drop 0) } from rfl)
  clear HG1 HB1
  go_wp2_with fail
  go_loopg [7] b.length (fun m v7 wr => ∃ (j : Nat) (cur : SG), j + m = b.length ∧ v7 = .int .i64 (j : Int) ∧ Hid (j % 8 = 0) ∧ Hid (Wgs wr w.heap.size g cur (.slice A14 n14 c14)) ∧ Hid (wr.heap[g6]? = some (.cells (wgcells z53 (.slice none 0 0) (.slice none 0 0)) 53 (0, 0))) ∧ Hid (Below w.heap.size w wr) ∧ Hid (wgopt s 5 b = { cur with f13 := cur.f13 ++ wgblocks ((b.drop j).length + 1) (b.drop j) }) ∧ Hid (cur.f13.length + m ≤ 1300))
  case atStart => exact ⟨0, s, by omega, rfl, Lib.hid rfl, HS0, HG6, HB0, HEQ0, Lib.hid (by rw [HNN.out]; simp; omega)⟩
  case round =>
    obtain ⟨j, cur, hjm, rfl, HJ8, HS, H6, HB, HE, HLN0⟩ := hrel
    by_cases hz : j = b.length
    · have k0 : ¬ j < b.length := by omega
      have hcur : wgopt s 5 b = cur := by rw [HE.out, hz, List.drop_of_length_le (Nat.le_refl _), wgblocks, if_pos (by rfl), List.append_nil]
      have HCUR := Lib.hid hcur
      obtain ⟨hbg, v, hh, hR⟩ := HS.out
      obtain ⟨Av, cv, ev⟩ := Kd.R_slice hR
      subst ev
      have HL := Lib.hid hh; have HR := Lib.hid hR; have HBG := Lib.hid hbg
      clear hz hcur hh hR hbg
      go_wp2_with (first
        | (refine gate_ (.load 53 (.tmp 3)) rfl ?_; refine wpList_load_row rfl 53 (.tmp 3) rfl g rfl 53 _ (0, 0) _ HL.out Try.underlying53 rfl (by kernel_rfl) ?_)
        | (refine gate_ (.store 53 (.tmp 6) (.tmp 64)) rfl ?_; refine wg_store_op rfl rfl 53 (.tmp 6) (.tmp 64) rfl _ _ _ 53 _ rfl rfl rfl (by kernel_rfl) rfl H6.out rfl ?_; intro w9 h9 hg9))
      try simp only [Exit.inBlock, Exit.then]
      refine bodyPost_ret (wr_res _ g6 _ _ rfl rfl h9) rfl ?_
      refine ⟨_, by rw [HCUR.out]; rfl, ?_, wr_tail rfl (HGG.out.symm ▸ hge) HB.out hg9⟩
      rw [HCUR.out]
      exact wg_R_store HR.out H6.out (by decide) hg9
    · have hjl : j + 8 ≤ b.length := by have := HJ8.out; have := H8.out; omega
      have k0 : j < b.length := by omega
      have e4 : wrap64 ((j : Int) + 4) = (j : Int) + 4 := wg_w64 (by omega) (by omega)
      have e8 : wrap64 ((j : Int) + 8) = (j : Int) + 8 := wg_w64 (by omega) (by omega)
      obtain ⟨u0, hu0, _, hsz, _⟩ := info_parts info5
      have cut1 := cut_mid (P := Try.prog) 34 5 .i64 .i64 Try.underlying34 hu0 1 hsz A b.length c (j : Int) ((j : Int) + 4) (by omega) (by omega) (by omega) HCC.out
      have cut2 := cut_mid (P := Try.prog) 34 5 .i64 .i64 Try.underlying34 hu0 1 hsz A b.length c ((j : Int) + 4) ((j : Int) + 8) (by omega) (by omega) (by omega) HCC.out
      simp only [show ((j : Int)).toNat = j by omega, show ((j : Int) + 4).toNat = j + 4 by omega, show ((j : Int) + 8).toNat = j + 8 by omega, Nat.mul_one, show j + 4 - j = 4 by omega, show j + 8 - (j + 4) = 4 by omega] at cut1 cut2
      obtain ⟨A1, hA1⟩ : ∃ a, (if c = j then A else A.map (·.add j)) = a := ⟨_, rfl⟩
      obtain ⟨A2, hA2⟩ : ∃ a, (if c = j + 4 then A else A.map (·.add (j + 4))) = a := ⟨_, rfl⟩
      rw [hA1] at cut1
      rw [hA2] at cut2
      have R1 := Kd.C_mid (lo := j) (hi := j + 4) (c := c) HC.out (by omega) (by omega) HCC.out
      have R2 := Kd.C_mid (lo := j + 4) (hi := j + 8) (c := c) HC.out (by omega) (by omega) HCC.out
      rw [show j * (Kd.int .u8).sz = j from Nat.mul_one j, hA1, wr_take] at R1
      rw [show (j + 4) * (Kd.int .u8).sz = j + 4 from Nat.mul_one _, hA2, wr_take2] at R2
      have l1 : ((b.drop j).take 4).length = 4 := by rw [List.length_take, List.length_drop]; omega
      have l2 : (((b.drop j).take 8).drop 4).length = 4 := by rw [List.length_drop, List.length_take, List.length_drop]; omega
      have G1 := wr_num ((b.drop j).take 4) (by omega)
      have G2 := wr_num (((b.drop j).take 8).drop 4) (by omega)
      obtain ⟨n1, hn1⟩ : ∃ n, wgn ((b.drop j).take 4) = n := ⟨_, rfl⟩
      obtain ⟨n2, hn2⟩ : ∃ n, wgn (((b.drop j).take 8).drop 4) = n := ⟨_, rfl⟩
      rw [hn1] at G1; rw [hn2] at G2
      have hcl := HCC.out
      have K1 := Lib.hid (wr_num_calls w A1 (c - j) _ n1 l1 R1 (by omega) G1)
      have K2 := Lib.hid (wr_num_calls w A2 (c - (j + 4)) _ n2 l2 R2 (by omega) G2)
      have HBE := Lib.hid (show wgopt s 5 b = { cur with f13 := cur.f13 ++ [⟨n1, n2⟩] ++ wgblocks ((b.drop (j + 8)).length + 1) (b.drop (j + 8)) } by
        rw [HE.out, wgblocks, if_neg (by rw [List.length_drop]; omega), hn1, hn2, List.append_assoc, List.singleton_append, List.drop_drop]
        rw [wgblocks_up (b.drop j).length (b.drop (j + 8)) (by rw [List.length_drop, List.length_drop]; omega)])
      obtain ⟨hbg, v, hh, hR⟩ := HS.out
      have HH := Lib.hid hh; have HR := Lib.hid hR; have HBG := Lib.hid hbg
      have HLN := Lib.hid (show (cur.f13.length + 1) * 8 ≤ 140737488355328 by have := HLN0.out; omega)
      have HJL := Lib.hid hjl; have HJM := Lib.hid hjm
      clear hA1 hA2 R1 R2 l1 l2 G1 G2 hn1 hn2 hh hR hbg HE HS hz hcl hsz
      go_upto_region 16 with (fail)
      refine start_ (n := 20) (S := fun w' => w'.cell? ⟨g, 13, none⟩ = some v) (ds := [17, 19]) #[O,O,O,O,O,O,O,O,O,O,O,O,O,O,O,O,O,O,O,O] (by kernel_rfl) rfl rfl (((blk_cell HH.out 13).trans rfl)) (fun hHeld => ?_)
      refine pure_ (i := 0) (N := some 45) (v := ?_) (a' := ?_) #[I,O,O,O,O,O,O,O,O,O,O,O,O,O,O,O,O,O,O,O] rfl rfl (by kernel_rfl) (fun _ _ _ h => h) (Or.inl ⟨by rfl, ?_⟩) ?_ ?_
      rotate_left
      · intro w'
        go_simp
        with_reducible rfl
      rotate_left
      · simp only [Act.put, sA_, sZ_, sS_, i64_w, i32_w]
        rfl
      refine pure_ (i := 2) (N := some 47) (v := ?_) (a' := ?_) #[I,O,I,O,O,O,O,O,O,O,O,O,O,O,O,O,O,O,O,O] rfl rfl (by kernel_rfl) (fun _ _ _ h => h) (Or.inl ⟨by rfl, ?_⟩) ?_ ?_
      rotate_left
      · intro w'
        go_simp
        with_reducible rfl
      rotate_left
      · simp only [Act.put, sA_, sZ_, sS_, i64_w, i32_w]
        rfl
      refine pure_ (i := 3) (N := some 48) (v := ?_) (a' := ?_) #[I,O,I,I,O,O,O,O,O,O,O,O,O,O,O,O,O,O,O,O] rfl rfl (by kernel_rfl) (fun _ _ _ h => h) (Or.inl ⟨by rfl, ?_⟩) ?_ ?_
      rotate_left
      · intro w'
        go_simp
        with_reducible rfl
      rotate_left
      · simp only [Act.put, sA_, sZ_, sS_, i64_w, i32_w]
        rfl
      refine pure_ (i := 4) (N := some 49) (v := ?_) (a' := ?_) #[I,O,I,I,I,O,O,O,O,O,O,O,O,O,O,O,O,O,O,O] rfl rfl (by kernel_rfl) (fun _ _ _ h => h) (Or.inl ⟨by rfl, ?_⟩) ?_ ?_
      rotate_left
      · intro w'
        go_simp
        with_reducible rfl
      rotate_left
      · simp only [Act.put, sA_, sZ_, sS_, i64_w, i32_w]
        rfl
      refine pure_ (i := 5) (N := some 50) (v := ?_) (a' := ?_) #[I,O,I,I,I,I,O,O,O,O,O,O,O,O,O,O,O,O,O,O] rfl rfl (by kernel_rfl) (fun _ _ _ h => h) (Or.inl ⟨by rfl, ?_⟩) ?_ ?_
      rotate_left
      · intro w'
        go_simp
        with_reducible rfl
      rotate_left
      · simp only [Act.put, sA_, sZ_, sS_, i64_w, i32_w]
        rfl
      refine pure_ (i := 6) (N := some 51) (v := ?_) (a' := ?_) #[I,O,I,I,I,I,I,O,O,O,O,O,O,O,O,O,O,O,O,O] rfl rfl (by kernel_rfl) (fun _ _ _ h => h) (Or.inl ⟨by rfl, ?_⟩) ?_ ?_
      rotate_left
      · intro w'
        go_simp
        with_reducible rfl
      rotate_left
      · simp only [Act.put, sA_, sZ_, sS_, i64_w, i32_w]
        rfl
      refine pure_ (i := 8) (N := some 53) (v := ?_) (a' := ?_) #[I,O,I,I,I,I,I,O,I,O,O,O,O,O,O,O,O,O,O,O] rfl rfl (by kernel_rfl) (fun _ _ _ h => h) (Or.inl ⟨by rfl, ?_⟩) ?_ ?_
      rotate_left
      · intro w'
        go_simp
        with_reducible rfl
      rotate_left
      · simp only [Act.put, sA_, sZ_, sS_, i64_w, i32_w]
        rfl
      refine pure_ (i := 9) (N := some 54) (v := ?_) (a' := ?_) #[I,O,I,I,I,I,I,O,I,I,O,O,O,O,O,O,O,O,O,O] rfl rfl (by kernel_rfl) (fun _ _ _ h => h) (Or.inl ⟨by rfl, ?_⟩) ?_ ?_
      rotate_left
      · intro w'
        go_simp
        with_reducible rfl
      rotate_left
      · simp only [Act.put, sA_, sZ_, sS_, i64_w, i32_w]
        rfl
      refine pure_ (i := 10) (N := some 55) (v := ?_) (a' := ?_) #[I,O,I,I,I,I,I,O,I,I,I,O,O,O,O,O,O,O,O,O] rfl rfl (by kernel_rfl) (fun _ _ _ h => h) (Or.inl ⟨by rfl, ?_⟩) ?_ ?_
      rotate_left
      · intro w'
        go_simp
        with_reducible rfl
      rotate_left
      · simp only [Act.put, sA_, sZ_, sS_, i64_w, i32_w]
        rfl
      refine pure_ (i := 11) (N := some 56) (v := ?_) (a' := ?_) #[I,O,I,I,I,I,I,O,I,I,I,I,O,O,O,O,O,O,O,O] rfl rfl (by kernel_rfl) (fun _ _ _ h => h) (Or.inl ⟨by rfl, ?_⟩) ?_ ?_
      rotate_left
      · intro w'
        go_simp
        with_reducible rfl
      rotate_left
      · simp only [Act.put, sA_, sZ_, sS_, i64_w, i32_w]
        rfl
      refine pure_ (i := 12) (N := some 57) (v := ?_) (a' := ?_) #[I,O,I,I,I,I,I,O,I,I,I,I,I,O,O,O,O,O,O,O] rfl rfl (by kernel_rfl) (fun _ _ _ h => h) (Or.inl ⟨by rfl, ?_⟩) ?_ ?_
      rotate_left
      · intro w'
        go_simp
        with_reducible rfl
      rotate_left
      · simp only [Act.put, sA_, sZ_, sS_, i64_w, i32_w]
        rfl
      refine pure_ (i := 13) (N := some 58) (v := ?_) (a' := ?_) #[I,O,I,I,I,I,I,O,I,I,I,I,I,I,O,O,O,O,O,O] rfl rfl (by kernel_rfl) (fun _ _ _ h => h) (Or.inl ⟨by rfl, ?_⟩) ?_ ?_
      rotate_left
      · intro w'
        go_simp
        with_reducible rfl
      rotate_left
      · simp only [Act.put, sA_, sZ_, sS_, i64_w, i32_w]
        rfl
      refine take_ (i := 1) (N := some 46) (v := ?_) (a' := ?_) #[I,I,I,I,I,I,I,O,I,I,I,I,I,I,O,O,O,O,O,O] rfl rfl (by kernel_rfl) (fun _ _ _ h => h) (Or.inl ⟨by rfl, ?_⟩) hHeld ?_ ?_
      rotate_left
      · intro w' s0
        go_simp
        with_reducible rfl
      rotate_left
      · simp only [Act.put, sA_, sZ_, sS_, i64_w, i32_w]
        rfl
      refine one_ (i := 7) (N := some 52) #[I,I,I,I,I,I,I,I,I,I,I,I,I,I,O,O,O,O,O,O] rfl rfl (by kernel_rfl) (by decide) (fun K hK => ?_)
      refine goes_ Try.func61 (by kernel_rfl) rfl #[.slice A1 4 (c - j)] (by rfl) rfl rfl (by simp only [List.map_toArray, List.map_cons, List.map_nil]; rfl) ?_
      with_reducible refine (K1.out _ (by repeat (first | exact HB.out | with_reducible apply below_drew1 | with_reducible refine pw_below_drewN ?_ _ | with_reducible refine below_alloc ?_ _))).mono ?_
      rintro e u1 ⟨rfl, hq1, ht1⟩
      refine ⟨_, rfl, ?_⟩
      refine hK.out _ _ ((((wr_q ht1).cell (World.block_lt_of_cell? _ _ hHeld)).trans hHeld)) (fun hHeld => ?_)
      clear hK K
      refine norm_ (a' := ?_) ?_ ?_
      rotate_left
      · show Act.put _ (some 52) _ = _
        simp only [Act.put, sA_, sZ_, sS_, i64_w, i32_w]
        rfl
      refine one_ (i := 14) (N := some 59) #[I,I,I,I,I,I,I,I,I,I,I,I,I,I,I,O,O,O,O,O] rfl rfl (by kernel_rfl) (by decide) (fun K hK => ?_)
      refine goes_ Try.func61 (by kernel_rfl) rfl #[.slice A2 4 (c - (j + 4))] (by rfl) rfl rfl (by simp only [List.map_toArray, List.map_cons, List.map_nil]; rfl) ?_
      with_reducible refine (K2.out _ (by repeat (first | exact hq1 | with_reducible apply below_drew1 | with_reducible refine pw_below_drewN ?_ _ | with_reducible refine below_alloc ?_ _))).mono ?_
      rintro e u2 ⟨rfl, hq2, ht2⟩
      refine ⟨_, rfl, ?_⟩
      refine hK.out _ _ ((((wr_q ht2).cell (World.block_lt_of_cell? _ _ hHeld)).trans hHeld)) (fun hHeld => ?_)
      clear hK K
      refine norm_ (a' := ?_) ?_ ?_
      rotate_left
      · show Act.put _ (some 59) _ = _
        simp only [Act.put, sA_, sZ_, sS_, i64_w, i32_w]
        rfl
      refine pure_ (i := 15) (N := some 60) (v := ?_) (a' := ?_) #[I,I,I,I,I,I,I,I,I,I,I,I,I,I,I,I,O,O,O,O] rfl rfl (by kernel_rfl) (fun _ _ _ h => h) (Or.inl ⟨by rfl, ?_⟩) ?_ ?_
      rotate_left
      · intro w'
        go_simp
        with_reducible rfl
      rotate_left
      · simp only [Act.put, sA_, sZ_, sS_, i64_w, i32_w]
        rfl
      refine one_ (i := 16) (N := some 61) #[I,I,I,I,I,I,I,I,I,I,I,I,I,I,I,I,I,O,O,O] rfl rfl (by kernel_rfl) (by decide) (fun K hK => ?_)
      refine value_ (w1 := ?_) (v := ?_) (by rfl) rfl ?_ ?_
      rotate_left 2
      · go_simp
        constructor
        · rfl
        · rfl
      refine hK.out _ _ ((((below_alloc (Below.refl _ _) _).cell (World.block_lt_of_cell? _ _ hHeld)).trans hHeld)) (fun hHeld => ?_)
      clear hK K
      refine norm_ (a' := ?_) ?_ ?_
      rotate_left
      · show Act.put _ (some 61) _ = _
        simp only [Act.put, sA_, sZ_, sS_, i64_w, i32_w]
        rfl
      refine last_ (i := 17) (N := some 62) #[I,I,I,I,I,I,I,I,I,I,I,I,I,I,I,I,I,I,O,O] rfl rfl (by kernel_rfl) (by decide) (fun K hK => ?_)
      have HR2 := Lib.hid (Kd.R_below (Kd.R_below (Kd.R_drew HR.out) ht1) ht2)
      have HH2 := Lib.hid (blk_below (blk_below (blk_drew HH.out) ht1) ht2)
      have H62 := Lib.hid (blk_below (blk_below (blk_drew H6.out) ht1) ht2)
      refine Kd.R_append_step k112 (w0 := w) w.heap.size (by rfl) (.tmp 46) (.tmp 61) 51 112 (.agg #[.int .u32 0, .int .u32 0]) 8 (by rfl) Try.underlying51 wg_info (by rfl) (by decide) (by decide) v cur.f13 ⟨n1, n2⟩ [.int .u32 n1, .int .u32 n2] (fun _ => True) (fun _ => False) (by rfl) (by rfl) (k112_mkM _ _ _ _) (fun _ h => h.elim) (fun _ _ => trivial) (by repeat (first | exact HR2.out | with_reducible refine Kd.R_drew ?_ | with_reducible refine Kd.R_drewN ?_ _ | with_reducible refine Kd.R_alloc ?_ _)) (by repeat (first | exact hq2 | with_reducible apply below_drew1 | with_reducible refine pw_below_drewN ?_ _ | with_reducible refine below_alloc ?_ _)) (by have h_ := Below.size (by repeat (first | exact hq2 | with_reducible apply below_drew1 | with_reducible refine pw_below_drewN ?_ _ | with_reducible refine below_alloc ?_ _)); exact h_) HLN.out ?_
      intro v1 w1 hR1 hB1 hg1 hat1
      obtain ⟨Av, cv, ev⟩ := Kd.R_slice hR1
      rw [List.length_append, List.length_singleton] at ev
      subst ev
      refine hK.out _ _ ?_
      clear hK K
      refine norm_ (a' := ?_) ?_ ?_
      rotate_left
      · show Act.put _ (some 62) _ = _
        simp only [Act.put, sA_, sZ_, sS_, i64_w, i32_w]
        rfl
      refine pure_ (i := 18) (N := some 63) (v := ?_) (a' := ?_) #[I,I,I,I,I,I,I,I,I,I,I,I,I,I,I,I,I,I,I,O] rfl rfl (by kernel_rfl) (fun _ _ _ h => h) (Or.inl ⟨by rfl, ?_⟩) ?_ ?_
      rotate_left
      · intro w'
        go_simp
        with_reducible rfl
      rotate_left
      · simp only [Act.put, sA_, sZ_, sS_, i64_w, i32_w]
        rfl
      refine last_ (i := 19) (N := none) #[I,I,I,I,I,I,I,I,I,I,I,I,I,I,I,I,I,I,I,I] rfl rfl (by kernel_rfl) (by decide) (fun K hK => ?_)
      have hh1 := blk_grown (by repeat (first | exact HH2.out | with_reducible refine blk_drew ?_ | with_reducible refine blk_drewN ?_ _ | with_reducible refine blk_alloc ?_ _)) hg1 (Kd.R_ne (by repeat (first | exact HR2.out | with_reducible refine Kd.R_drew ?_ | with_reducible refine Kd.R_drewN ?_ _ | with_reducible refine Kd.R_alloc ?_ _)) (by repeat (first | exact HH2.out | with_reducible refine blk_drew ?_ | with_reducible refine blk_drewN ?_ _ | with_reducible refine blk_alloc ?_ _)) (by decide))
      have hh6 := blk_grown (by repeat (first | exact H62.out | with_reducible refine blk_drew ?_ | with_reducible refine blk_drewN ?_ _ | with_reducible refine blk_alloc ?_ _)) hg1 (Kd.R_ne (by repeat (first | exact HR2.out | with_reducible refine Kd.R_drew ?_ | with_reducible refine Kd.R_drewN ?_ _ | with_reducible refine Kd.R_alloc ?_ _)) (by repeat (first | exact H62.out | with_reducible refine blk_drew ?_ | with_reducible refine blk_drewN ?_ _ | with_reducible refine blk_alloc ?_ _)) (by decide))
      have hs13 : w1.cell? ⟨g, 13, none⟩ = some v := (blk_cell hh1 13).trans rfl
      have hf13 : w1.frozen? ⟨g, 13, none⟩ = false := blk_frozen hh1 13
      refine skip_ (w1 := ?_) (by rfl) rfl ?_ ?_
      rotate_left
      · go_simp
        rfl
      refine hK.out _ _ ?_
      clear hK K
      refine done_ (by kernel_rfl) ?_
      have HW := Lib.hid (show Wgs (w1.setCell ⟨g, 13, none⟩ (.slice Av (cur.f13.length + 1) cv)) w.heap.size g { cur with f13 := cur.f13 ++ [⟨n1, n2⟩] } (.slice A14 n14 c14) from ⟨HBG.out, _, wgcells_ext (blk_set hh1 13 _) rfl, Kd.R_set hR1 hh1 (by decide) 13 _⟩)
      have HB9 := Lib.hid (show Below w.heap.size w (w1.setCell ⟨g, 13, none⟩ (.slice Av (cur.f13.length + 1) cv)) from hB1.setCell (p := ⟨g, 13, none⟩) HBG.out _)
      have H69 := Lib.hid (blk_far hh6 (p := ⟨g, 13, none⟩) hne (.slice Av (cur.f13.length + 1) cv))
      clear hR1 hB1 hg1 hat1 hh1 hh6 hs13 hf13
      generalize w1.setCell ⟨g, 13, none⟩ (.slice Av (cur.f13.length + 1) cv) = w9 at HW H69 HB9 ⊢
      go_wp2
      go_roundg (gk - 8)
      case measure => have := HJL.out; have := HJM.out; omega
      case rel =>
        refine ⟨j + 8, { cur with f13 := cur.f13 ++ [⟨n1, n2⟩] }, by have := HJM.out; have := HJL.out; omega, rfl, Lib.hid (by have := HJ8.out; omega), HW, H69, HB9, HBE, Lib.hid ?_⟩
        have := HLN0.out; have := HJL.out; have := HJM.out
        rw [List.length_append, List.length_singleton]; omega
end Go.Proofs.Ytflmfbcapccdeaa.WireG
set_option linter.unusedVariables false
set_option linter.unusedSimpArgs false
set_option autoImplicit false
namespace Go.Proofs.Ytflmfbcapccdeaa.WireG
open Go.RowKit Go.Proofs.Ytflmfbcapccdeaa.PA Go.Proofs.YtflmfbcapccdeaaW.PrintWords Go.Proofs.YtflmfbcapccdeaaW.PrintLast Go.Proofs.YtflmfbcapccdeaaW.PrintMore
attribute [local go_sem] max2_int min2_int max_two min_two
/-- A whole variable is read, wherever the read comes up. -/
theorem wb_take {ops : Array Oper} {S : World → Prop} {op : Oper} {a : Act} (hw : Region.wanted op (yielded ops a.tmps) = true) (x : Operand) (ho : op.op = .load 53 x) (g : Nat) (hx : a.eval x = .pointer (some ⟨g, 0, none⟩)) (s : SG) (v d : Value)
    (hS : ∀ w, S w → w.heap[g]? = some (.cells (wgcells s v d) 53 (0, 0))) : YieldsIf Try.prog ops S op (.agg (wgcells s v d)) a :=
  .inl ⟨hw, fun w hw' => by
    unfold execOp
    simp only [ho, hx, Instr.loadAt, Instr.sureAddr, Sem.run_bind, Sem.run_pure, Result.andThen_ok, run_loadVar_row w g 53 53 _ (0, 0) _ (hS w hw') Try.underlying53 rfl (by kernel_rfl)]⟩
/-- What the document's option hands back. -/
def WOpt (w0 w : World) (s t : SG) (kind : Int) (A13 : Option Addr) (c13 : Nat) (d : Value) (e : Ending) (w' : World) : Prop :=
  ∃ (A' : Option Addr) (c' : Nat), e = .returned (.agg (wgcells t (.slice A' t.f13.length c') d)) ∧ Kd.R k112 112 w' w0.heap.size (fun _ => True) (.slice A' t.f13.length c') t.f13 ∧ Below w0.heap.size w0 w' ∧ Below w.heap.size w w' ∧ (kind ≠ 5 → A' = A13 ∧ c' = c13 ∧ t.f13 = s.f13)
theorem wr_option (s : SG) (A13 : Option Addr) (c13 : Nat) (A14 : Option Addr) (n14 c14 : Nat) (A : Option Addr) (c : Nat) (b : List Int) (kind : Int) (w0 w : World) (hB : Below w0.heap.size w0 w) (hR : Kd.R k112 112 w w0.heap.size (fun _ => True) (.slice A13 s.f13.length c13) s.f13)
    (h5 : kind = 5 → A13 = none ∧ c13 = 0 ∧ s.f13 = []) (hC : Kd.C (Kd.int .u8) w A b.length b) (hc : b.length ≤ c) (hb : wgb b) (hl : b.length ≤ 300) (hlen : wglen kind ((b.length : Int) + 2) = true) :
    Calls Try.prog 91 #[.agg (wgcells s (.slice A13 s.f13.length c13) (.slice A14 n14 c14)), .int .u8 kind, .slice A b.length c] w fun e w' => WOpt w0 w s (wgopt s kind b) kind A13 c13 (.slice A14 n14 c14) e w' := by
  have up : (hf : (wgopt s kind b).f13 = s.f13) → Calls Try.prog 91 #[.agg (wgcells s (.slice A13 s.f13.length c13) (.slice A14 n14 c14)), .int .u8 kind, .slice A b.length c] w (fun e w' => e = .returned (.agg (wgcells (wgopt s kind b) (.slice A13 s.f13.length c13) (.slice A14 n14 c14))) ∧ Below w.heap.size w w') →
      Calls Try.prog 91 #[.agg (wgcells s (.slice A13 s.f13.length c13) (.slice A14 n14 c14)), .int .u8 kind, .slice A b.length c] w fun e w' => WOpt w0 w s (wgopt s kind b) kind A13 c13 (.slice A14 n14 c14) e w' := fun hf h => h.mono fun e w' ⟨he, hb⟩ => by
    refine ⟨A13, c13, by rw [he, hf], ?_, below_step hB hb, hb, fun _ => ⟨rfl, rfl, hf⟩⟩
    rw [hf]; exact Kd.R_below hR hb
  unfold wglen at hlen
  by_cases k2 : kind = 2
  · subst k2; exact up rfl (wr_opt2 s A13 _ c13 A14 n14 c14 A c b w hC hc hb hl)
  rw [if_neg k2] at hlen
  by_cases k3 : kind = 3
  · subst k3; rw [if_pos rfl] at hlen; have := beq_iff_eq.1 hlen; exact up rfl (wr_opt3 s A13 _ c13 A14 n14 c14 A c b w hC hb (by omega))
  rw [if_neg k3] at hlen
  by_cases k4 : kind = 4
  · subst k4; exact up rfl (wr_opt4 s A13 _ c13 A14 n14 c14 A c b w)
  rw [if_neg k4] at hlen
  by_cases k8 : kind = 8
  · subst k8; rw [if_pos rfl] at hlen; have := beq_iff_eq.1 hlen; exact up rfl (wr_opt8 s A13 _ c13 A14 n14 c14 A c b w hC hc hb (by omega))
  rw [if_neg k8] at hlen
  by_cases k5 : kind = 5
  · subst k5
    rw [if_pos rfl] at hlen
    simp only [Bool.and_eq_true, decide_eq_true_eq, beq_iff_eq] at hlen
    obtain ⟨rfl, rfl, e13⟩ := h5 rfl
    have h := wr_opt5 s A14 n14 c14 A c b w hC hc hl (by omega) e13
    rw [e13]
    refine h.mono ?_
    rintro e w' ⟨v', rfl, hr, hb⟩
    obtain ⟨A', c', ev⟩ := Kd.R_slice hr
    subst ev
    exact ⟨A', c', rfl, Kd.R_lower hr hB.size, below_step hB hb, hb, fun h => absurd rfl h⟩
  · exact up (by unfold wgopt; rw [if_neg k2, if_neg k3, if_neg k4, if_neg k8, if_neg k5]) (wr_opt_else s A13 _ c13 A14 n14 c14 A c b w kind k2 k3 k4 k8 k5)
/-- The row of the kinds that have come. -/
def SeenR (W : World) (sb : Nat) (seen : List Int) : Prop := ∃ arr : Array Value, W.heap[sb]? = some (.cells arr 3 (0, 0)) ∧ arr.size = 256 ∧ ∀ k : Nat, k < 256 → arr[k]? = some (.int .i64 (if seen.contains (k : Int) then 1 else 0))
theorem SeenR.cell {W : World} {sb : Nat} {seen : List Int} (h : SeenR W sb seen) (k : Nat) (hk : k < 256) : W.cell? ⟨sb, k, none⟩ = some (.int .i64 (if seen.contains (k : Int) then 1 else 0)) ∧ W.frozen? ⟨sb, k, none⟩ = false := by
  obtain ⟨arr, hh, hs, ha⟩ := h
  exact ⟨(blk_cell hh k).trans (ha k hk), blk_frozen hh k⟩
theorem SeenR.put {W : World} {sb : Nat} {seen : List Int} (h : SeenR W sb seen) (k : Nat) (hk : k < 256) : SeenR (W.setCell ⟨sb, k, none⟩ (.int .i64 1)) sb ((k : Int) :: seen) := by
  obtain ⟨arr, hh, hs, ha⟩ := h
  refine ⟨_, blk_set hh k _, by rw [Array.size_setIfInBounds]; exact hs, fun j hj => ?_⟩
  rw [Array.getElem?_setIfInBounds]
  by_cases e : k = j
  · subst e
    rw [if_pos rfl, if_pos (by omega), List.contains_cons, beq_self_eq_true, Bool.true_or, if_pos rfl]
  · rw [if_neg e, ha j hj, List.contains_cons, show ((j : Int) == (k : Int)) = false from beq_false_of_ne (by omega), Bool.false_or]
theorem SeenR.below {W W' : World} {sb : Nat} {seen : List Int} (h : SeenR W sb seen) (hb : Below W.heap.size W W') : SeenR W' sb seen := by
  obtain ⟨arr, hh, hs, ha⟩ := h
  exact ⟨arr, blk_below hh hb, hs, ha⟩
theorem SeenR.grown {W W' : World} {sb g : Nat} {seen : List Int} (h : SeenR W sb seen) (hg : W.grownBy W' (some g)) (hne : sb ≠ g) : SeenR W' sb seen := by
  obtain ⟨arr, hh, hs, ha⟩ := h
  exact ⟨arr, blk_grown hh hg (fun e => hne (Option.some.inj e)), hs, ha⟩
theorem SeenR.drew {W : World} {sb : Nat} {seen : List Int} (h : SeenR W sb seen) : SeenR W.drew sb seen := h
theorem SeenR.made (W : World) : SeenR (W.alloc (.cells (madeCells #[.int .i64 0] 256) 3)) W.heap.size [] := by
  refine ⟨_, blk_new W _, by simp [madeCells], fun k hk => ?_⟩
  simp [madeCells, hk, Nat.mod_one]
/-- What the document's options hand back. -/
def WOpts (w : World) (d : Value) (res : Option SG) (e : Ending) (w' : World) : Prop :=
  Below w.heap.size w w' ∧ ∃ (cur : SG) (A' : Option Addr) (n' c' : Nat), match res with
    | some t => cur = t ∧ n' = t.f13.length ∧ e = .returned (.tuple #[.agg (wgcells t (.slice A' t.f13.length c') d), .bool true]) ∧ Kd.R k112 112 w' w.heap.size (fun _ => True) (.slice A' t.f13.length c') t.f13
    | none => e = .returned (.tuple #[.agg (wgcells cur (.slice A' n' c') d), .bool false])
theorem WOpts.ok {w w' : World} {d : Value} {res : Option SG} {t : SG} {A' : Option Addr} {c' : Nat} {e : Ending} (hr : some t = res) (hB : Below w.heap.size w w') (he : e = .returned (.tuple #[.agg (wgcells t (.slice A' t.f13.length c') d), .bool true])) (hR : Kd.R k112 112 w' w.heap.size (fun _ => True) (.slice A' t.f13.length c') t.f13) : WOpts w d res e w' := by
  subst hr; exact ⟨hB, t, A', _, c', rfl, rfl, he, hR⟩
theorem WOpts.bad {w w' : World} {d : Value} {res : Option SG} {cur : SG} {A' : Option Addr} {n' c' : Nat} {e : Ending} (hr : none = res) (hB : Below w.heap.size w w') (he : e = .returned (.tuple #[.agg (wgcells cur (.slice A' n' c') d), .bool false])) : WOpts w d res e w' := by
  subst hr; exact ⟨hB, cur, A', n', c', he⟩
set_option maxRecDepth 100000 in
set_option maxHeartbeats 16000000 in
theorem wr_options (s : SG) (A14 : Option Addr) (n14 c14 : Nat) (A : Option Addr) (c : Nat) (b : List Int) (w : World) (hC : Kd.C (Kd.int .u8) w A b.length b) (hc : b.length ≤ c) (hb : wgb b) (hl : b.length ≤ 300) (hn : s.f13 = []) :
    Calls Try.prog 62 #[.agg (wgcells s (.slice none 0 0) (.slice A14 n14 c14)), .slice A b.length c] w fun e w' => WOpts w (.slice A14 n14 c14) (wgrd (b.length + 1) s [] b) e w' := by
  obtain ⟨res, hres⟩ : ∃ r, wgrd (b.length + 1) s [] b = r := ⟨_, rfl⟩
  have HRES := Lib.hid hres; have HC0 := Lib.hid hC; have HBB := Lib.hid hb; have HLL := Lib.hid hl; have HN := Lib.hid hn
  rw [hres]
  clear hC hb hl hn hres
  have hms : ∀ W : World, (Instr.makeSlice 23 (.int .i64 256) (.int .i64 256)).run Try.prog W = .ok (.slice (some ⟨W.heap.size, 0, none⟩) 256 256) (W.alloc (.cells (madeCells #[.int .i64 0] 256) 3)) := print_make 23 3 .i64 8 Try.underlying23 (by rfl) (by decide) 256 (by decide)
  go_enter Try.func62, Try.ntmps62
  go_upto_region 1 with (fail)
  obtain ⟨W1, hW1⟩ : ∃ W1, (w.alloc (.cells (wgcells s (.slice none 0 0) (.slice A14 n14 c14)) 53)).alloc (.cells (wgcells z53 (.slice none 0 0) (.slice none 0 0)) 53) = W1 := ⟨_, rfl⟩
  obtain ⟨hb1, hg1, hg6⟩ := wr_boxed s (.slice none 0 0) (.slice A14 n14 c14) w W1 hW1
  have hW1' : (w.alloc (.cells (wgcells s (.slice none 0 0) (.slice A14 n14 c14)) 53)).alloc (.cells #[.int .i64 0, .int .i64 0, .int .u32 0, .int .u32 0, .int .i64 0, .int .i64 0, .int .i64 0, .int .i64 0, .int .i64 0, .bool false, .bool false, .int .u32 0, .int .u32 0, .slice none 0 0, .slice none 0 0] 53) = W1 := hW1
  rw [hW1']
  have hsz : W1.heap.size = w.heap.size + 2 := by rw [← hW1]; simp
  obtain ⟨g, hg⟩ : ∃ g, w.heap.size = g := ⟨_, rfl⟩
  obtain ⟨g4, hgg⟩ : ∃ g4, g + 1 = g4 := ⟨_, rfl⟩
  obtain ⟨sb, hsb⟩ : ∃ sb, W1.heap.size = sb := ⟨_, rfl⟩
  have hne : g4 ≠ g := by omega
  have hne2 : sb ≠ g := by omega
  have hne3 : g4 ≠ sb := by omega
  have hge : g ≤ g4 := by omega
  have hge2 : g ≤ sb := by omega
  have HGG := Lib.hid hg
  have HB1 := Lib.hid hb1
  rw [hg] at hg1 hg6 ⊢
  rw [hgg] at hg6 ⊢
  have HG1 := Lib.hid hg1; have HG6 := Lib.hid hg6; have HSB := Lib.hid hsb
  clear hW1 hW1' hgg hg hsz hb1 hg1 hg6 hsb
  go_wp2_with fail
  have hsn := SeenR.made W1
  have hg2 := blk_alloc HG1.out (.cells (madeCells #[.int .i64 0] 256) 3)
  have hg62 := blk_alloc HG6.out (.cells (madeCells #[.int .i64 0] 256) 3)
  have hb2 := HB1.out.alloc HB1.out.size (.cells (madeCells #[.int .i64 0] 256) 3)
  rw [HSB.out] at hsn ⊢
  clear HG1 HG6 HB1 HSB
  generalize W1.alloc (.cells (madeCells #[.int .i64 0] 256) 3) = W2 at hsn hg2 hg62 hb2 ⊢
  have HSN0 := Lib.hid hsn; have HG2 := Lib.hid hg2; have HG62 := Lib.hid hg62; have HB2 := Lib.hid hb2
  have HWG := Lib.hid (show w.heap.size ≤ g by rw [HGG.out]; exact Nat.le_refl _)
  clear hsn hg2 hg62 hb2 hms W1
  go_loopg [1] b.length (fun m v1 wr => ∃ (A1 : Option Addr) (c1 : Nat) (bk : List Int) (cur : SG) (seen : List Int) (A13 : Option Addr) (c13 : Nat), bk.length ≤ m ∧ v1 = .slice A1 bk.length c1 ∧ bk.length ≤ c1 ∧ Hid (wgb bk) ∧ Hid (Kd.C (Kd.int .u8) w A1 bk.length bk) ∧ Hid (wr.heap[g]? = some (.cells (wgcells cur (.slice A13 cur.f13.length c13) (.slice A14 n14 c14)) 53 (0, 0))) ∧ Hid (wr.heap[g4]? = some (.cells (wgcells z53 (.slice none 0 0) (.slice none 0 0)) 53 (0, 0))) ∧ Hid (SeenR wr sb seen) ∧ Hid (Below w.heap.size w wr) ∧ Hid (wgrd (bk.length + 1) cur seen bk = res) ∧ Hid (Kd.R k112 112 wr w.heap.size (fun _ => True) (.slice A13 cur.f13.length c13) cur.f13) ∧ Hid (seen.contains 5 = false → A13 = none ∧ c13 = 0 ∧ cur.f13 = []) ∧ Hid (bk.length ≤ 300))
  case atStart => exact ⟨A, c, b, s, [], none, 0, Nat.le_refl _, rfl, hc, HBB, HC0, Lib.hid (by rw [HN.out]; exact HG2.out), HG62, HSN0, HB2, HRES, Lib.hid (by rw [HN.out]; exact Kd.R_nil _ _ _ _ _), Lib.hid (fun _ => ⟨rfl, rfl, HN.out⟩), HLL⟩
  case round =>
    obtain ⟨A1, c1, bk, cur, seen, A13, c13, hm, rfl, hc1, HBK, HC1, HG, HG4, HSN, HB, HE, HR, H5, HL⟩ := hrel
    have HM := Lib.hid hm; clear hm
    by_cases hz : bk.length = 0
    · have h0 : ¬ 0 < bk.length := by omega
      have HZ := Lib.hid hz; clear hz
      go_wp2_with (first
        | (refine gate_ (.load 53 (.tmp 2)) rfl ?_; refine wpList_load_row rfl 53 (.tmp 2) rfl g rfl 53 _ (0, 0) _ HG.out Try.underlying53 rfl (by kernel_rfl) ?_)
        | (refine gate_ (.store 53 (.tmp 4) (.tmp 100)) rfl ?_; refine wg_store_op rfl rfl 53 (.tmp 4) (.tmp 100) rfl _ _ _ 53 _ rfl rfl rfl (by kernel_rfl) rfl HG4.out rfl ?_; intro w9 h9 hg9))
      try simp only [Exit.inBlock, Exit.then]
      refine bodyPost_ret (results_ct Try.results62 _ _ g4 53 _ (0, 0) _ rfl h9 Try.underlying53 rfl (by kernel_rfl)) rfl ?_
      exact WOpts.ok (by rw [← HE.out, wgrd, if_pos HZ.out]) (wr_tail rfl (HGG.out.symm ▸ hge) HB.out hg9) rfl (wg_R_store HR.out HG4.out (by decide) hg9)
    have h0 : 0 < bk.length := by omega
    obtain ⟨ad, rfl, x0⟩ := wg_at A1 bk w HC1.out 0 h0
    have X0 := (HB.out.cell (World.block_lt_of_cell? w _ x0)).trans x0
    have X0' : wr.cell? ad = some (.int .u8 (bk.getD 0 0)) := by simpa [Addr.add] using X0
    obtain ⟨kd, hkd⟩ : ∃ kd, bk.getD 0 0 = kd := ⟨_, rfl⟩
    have hkb := wgb_at HBK.out 0 h0
    rw [hkd] at X0' hkb
    have HKB := Lib.hid hkb; have HKD := Lib.hid hkd; have HZ := Lib.hid hz
    clear x0 X0 hkb hkd hz
    by_cases k0 : kd = 0
    · subst k0
      go_wp2_with (first
        | (refine gate_ (.load 53 (.tmp 2)) rfl ?_; refine wpList_load_row rfl 53 (.tmp 2) rfl g rfl 53 _ (0, 0) _ HG.out Try.underlying53 rfl (by kernel_rfl) ?_)
        | (refine gate_ (.store 53 (.tmp 4) (.tmp 100)) rfl ?_; refine wg_store_op rfl rfl 53 (.tmp 4) (.tmp 100) rfl _ _ _ 53 _ rfl rfl rfl (by kernel_rfl) rfl HG4.out rfl ?_; intro w9 h9 hg9))
      try simp only [Exit.inBlock, Exit.then]
      refine bodyPost_ret (results_ct Try.results62 _ _ g4 53 _ (0, 0) _ rfl h9 Try.underlying53 rfl (by kernel_rfl)) rfl ?_
      exact WOpts.ok (by rw [← HE.out, wgrd, if_neg HZ.out, if_pos HKD.out]) (wr_tail rfl (HGG.out.symm ▸ hge) HB.out hg9) rfl (wg_R_store HR.out HG4.out (by decide) hg9)
    have e0 : (kd == 0) = false := beq_false_of_ne k0
    have e0' : (kd != 0) = true := by rw [bne, e0]; rfl
    obtain ⟨u0, hu0, _, hsz, _⟩ := info_parts info5
    by_cases k1 : kd = 1
    · subst k1
      have cut1 := cut_from (P := Try.prog) 34 5 .i64 Try.underlying34 hu0 1 hsz (some ad) bk.length c1 (1 : Int) (by omega) (by omega)
      simp only [show ((1 : Int)).toNat = 1 from rfl, Nat.mul_one] at cut1
      obtain ⟨A3, hA3⟩ : ∃ a, (if c1 = 1 then some ad else (some ad).map (·.add 1)) = a := ⟨_, rfl⟩
      rw [hA3] at cut1
      have R3 := Kd.C_drop (m := 1) (c := c1) HC1.out h0 hc1
      rw [show 1 * (Kd.int .u8).sz = 1 from rfl, hA3] at R3
      have l3 : (bk.drop 1).length = bk.length - 1 := List.length_drop
      have HR3 := Lib.hid R3; have HL3 := Lib.hid l3; have HGE := Lib.hid h0
      have hc3 : bk.length - 1 ≤ c1 - 1 := by omega
      clear hA3 R3 l3 e0 e0' k0
      go_wp2
      go_roundg (gk - 1)
      case measure => have := HGE.out; have := HM.out; omega
      case rel =>
        have e1 := HL3.out
        refine ⟨A3, c1 - 1, bk.drop 1, cur, seen, A13, c13, by rw [e1]; have := HM.out; omega, by rw [e1], by rw [e1]; exact hc3, Lib.hid (fun x hx => HBK.out x (List.mem_of_mem_drop hx)), HR3, HG, HG4, HSN, HB, Lib.hid ?_, HR, H5, Lib.hid (by have := HL.out; omega)⟩
        exact (wgrd_one cur seen bk HZ.out HKD.out).symm.trans HE.out
    have e1 : (kd == 1) = false := beq_false_of_ne k1
    have HK0 := Lib.hid k0; have HK1 := Lib.hid k1
    clear k0 k1
    obtain ⟨n, hn⟩ : ∃ n, bk.getD 1 0 = n := ⟨_, rfl⟩
    have HUN := Lib.hid (fun h => ((wgrd_bad cur seen bk kd n HKD.out hn HZ.out HK0.out HK1.out h).symm.trans HE.out))
    by_cases h2 : 2 ≤ bk.length
    case neg =>
      have H2 := Lib.hid h2
      have h2' : ¬ 1 < bk.length := by omega
      have h2'' : bk.length < 2 := by omega
      clear hn
      go_wp2_with (first
        | (refine gate_ (.load 53 (.tmp 2)) rfl ?_; refine wpList_load_row rfl 53 (.tmp 2) rfl g rfl 53 _ (0, 0) _ HG.out Try.underlying53 rfl (by kernel_rfl) ?_)
        | (refine gate_ (.store 53 (.tmp 4) (.tmp 56)) rfl ?_; refine wg_store_op rfl rfl 53 (.tmp 4) (.tmp 56) rfl _ _ _ 53 _ rfl rfl rfl (by kernel_rfl) rfl HG4.out rfl ?_; intro w9 h9 hg9))
      try simp only [Exit.inBlock, Exit.then]
      refine bodyPost_ret (results_ct Try.results62 _ _ g4 53 _ (0, 0) _ rfl h9 Try.underlying53 rfl (by kernel_rfl)) rfl ?_
      exact WOpts.bad (HUN.out (fun h => H2.out h.1)) (wr_tail rfl (HGG.out.symm ▸ hge) HB.out hg9) rfl
    obtain ⟨ad', ead, x1⟩ := wg_at (some ad) bk w HC1.out 1 (by omega)
    obtain rfl := Option.some.inj ead
    have X1 := (HB.out.cell (World.block_lt_of_cell? w _ x1)).trans x1
    have X1' : wr.cell? ⟨ad.block, ad.off + 1, none⟩ = some (.int .u8 n) := by rw [← hn]; exact X1
    have hnb := wgb_at HBK.out 1 (by omega)
    rw [hn] at hnb
    have hnw : wrap64 n = n := wg_w64 (by omega) (by omega)
    have HNB := Lib.hid hnb; have HNN := Lib.hid hn; have H2 := Lib.hid h2
    have h2' : 1 < bk.length := by omega
    have h2'' : ¬ bk.length < 2 := by omega
    clear x1 X1 hnb hn ead
    by_cases n2 : 2 ≤ n
    case neg =>
      have g2 : decide (n < 2) = true := decide_eq_true (by omega)
      have HN2 := Lib.hid n2
      go_wp2_with (first
        | (refine gate_ (.load 53 (.tmp 2)) rfl ?_; refine wpList_load_row rfl 53 (.tmp 2) rfl g rfl 53 _ (0, 0) _ HG.out Try.underlying53 rfl (by kernel_rfl) ?_)
        | (refine gate_ (.store 53 (.tmp 4) (.tmp 56)) rfl ?_; refine wg_store_op rfl rfl 53 (.tmp 4) (.tmp 56) rfl _ _ _ 53 _ rfl rfl rfl (by kernel_rfl) rfl HG4.out rfl ?_; intro w9 h9 hg9))
      try simp only [Exit.inBlock, Exit.then]
      refine bodyPost_ret (results_ct Try.results62 _ _ g4 53 _ (0, 0) _ rfl h9 Try.underlying53 rfl (by kernel_rfl)) rfl ?_
      exact WOpts.bad (HUN.out (fun h => absurd h.2.1 (by have := HN2.out; omega))) (wr_tail rfl (HGG.out.symm ▸ hge) HB.out hg9) rfl
    have g2 : decide (n < 2) = false := decide_eq_false (by omega)
    by_cases nb : n ≤ bk.length
    case neg =>
      have g3 : decide ((bk.length : Int) < n) = true := decide_eq_true (by omega)
      have HNB2 := Lib.hid nb
      go_wp2_with (first
        | (refine gate_ (.load 53 (.tmp 2)) rfl ?_; refine wpList_load_row rfl 53 (.tmp 2) rfl g rfl 53 _ (0, 0) _ HG.out Try.underlying53 rfl (by kernel_rfl) ?_)
        | (refine gate_ (.store 53 (.tmp 4) (.tmp 56)) rfl ?_; refine wg_store_op rfl rfl 53 (.tmp 4) (.tmp 56) rfl _ _ _ 53 _ rfl rfl rfl (by kernel_rfl) rfl HG4.out rfl ?_; intro w9 h9 hg9))
      try simp only [Exit.inBlock, Exit.then]
      refine bodyPost_ret (results_ct Try.results62 _ _ g4 53 _ (0, 0) _ rfl h9 Try.underlying53 rfl (by kernel_rfl)) rfl ?_
      exact WOpts.bad (HUN.out (fun h => absurd h.2.2.1 (by have := HNB2.out; omega))) (wr_tail rfl (HGG.out.symm ▸ hge) HB.out hg9) rfl
    have g3 : decide ((bk.length : Int) < n) = false := decide_eq_false (by omega)
    have HLN := Lib.hid (wr_len kd n HNB.out.1 HNB.out.2)
    obtain ⟨ok, hok⟩ : ∃ b, wglen kd n = b := ⟨_, rfl⟩
    rw [hok] at HLN HUN
    have HOK := Lib.hid hok; have HNBL := Lib.hid nb; have HN2 := Lib.hid n2
    clear hok nb n2
    cases ok with
    | false =>
      go_upto_region 7 with (go_at_call 90; refine (tidewayref03_length.calls _ _ _ _ HLN.out).mono ?_; rintro e w1 ⟨rfl, nd, rfl⟩)
      have HG := Lib.hid (blk_drewN HG.out nd); have HG4 := Lib.hid (blk_drewN HG4.out nd); have HB := Lib.hid (pw_below_drewN HB.out nd)
      go_wp2_with (first
        | (refine gate_ (.load 53 (.tmp 2)) rfl ?_; refine wpList_load_row rfl 53 (.tmp 2) rfl g rfl 53 _ (0, 0) _ HG.out Try.underlying53 rfl (by kernel_rfl) ?_)
        | (refine gate_ (.store 53 (.tmp 4) (.tmp 56)) rfl ?_; refine wg_store_op rfl rfl 53 (.tmp 4) (.tmp 56) rfl _ _ _ 53 _ rfl rfl rfl (by kernel_rfl) rfl HG4.out rfl ?_; intro w9 h9 hg9))
      try simp only [Exit.inBlock, Exit.then]
      refine bodyPost_ret (results_ct Try.results62 _ _ g4 53 _ (0, 0) _ rfl h9 Try.underlying53 rfl (by kernel_rfl)) rfl ?_
      exact WOpts.bad (HUN.out (fun h => absurd h.2.2.2.1 (by decide))) (wr_tail rfl (HGG.out.symm ▸ hge) HB.out hg9) rfl
    | true =>
      go_upto_region 9 with (go_at_call 90; refine (tidewayref03_length.calls _ _ _ _ HLN.out).mono ?_; rintro e w1 ⟨rfl, nd, rfl⟩)
      have HG := Lib.hid (blk_drewN HG.out nd); have HG4 := Lib.hid (blk_drewN HG4.out nd); have HB := Lib.hid (pw_below_drewN HB.out nd)
      have HSN := Lib.hid (show SeenR (wr.drewN nd) sb seen from HSN.out); have HR := Lib.hid (Kd.R_drewN HR.out nd)
      generalize wr.drewN nd = wd at HG HG4 HB HSN HR ⊢
      clear X0' X1' e0 e0' e1 g2 g3 h2' h2''
      have hnm := HNB.out
      obtain ⟨m, rfl⟩ : ∃ m : Nat, n = m := ⟨n.toNat, by omega⟩
      try rw [hnw]
      have hm2 := HN2.out
      have hmb := HNBL.out
      have cut1 := cut_mid (P := Try.prog) 34 5 .i64 .i64 Try.underlying34 hu0 1 hsz (some ad) bk.length c1 (2 : Int) (m : Int) (by omega) (by omega) (by omega) hc1
      have cut2 := cut_from (P := Try.prog) 34 5 .i64 Try.underlying34 hu0 1 hsz (some ad) bk.length c1 (m : Int) (by omega) (by omega)
      simp only [show ((2 : Int)).toNat = 2 from rfl, Int.toNat_natCast, Nat.mul_one] at cut1 cut2
      obtain ⟨A2, hA2⟩ : ∃ a, (if c1 = 2 then some ad else (some ad).map (·.add 2)) = a := ⟨_, rfl⟩
      obtain ⟨A3, hA3⟩ : ∃ a, (if c1 = m then some ad else (some ad).map (·.add m)) = a := ⟨_, rfl⟩
      rw [hA2] at cut1; rw [hA3] at cut2
      have R2 := Kd.C_mid (lo := 2) (hi := m) (c := c1) HC1.out (by omega) (by omega) hc1
      have R3 := Kd.C_drop (m := m) (c := c1) HC1.out (by omega) hc1
      rw [show 2 * (Kd.int .u8).sz = 2 from rfl, hA2] at R2
      rw [show m * (Kd.int .u8).sz = m from Nat.mul_one m, hA3] at R3
      obtain ⟨bb, hbb⟩ : ∃ bb, (bk.take m).drop 2 = bb := ⟨_, rfl⟩
      have lbb : bb.length = m - 2 := by rw [← hbb, List.length_drop, List.length_take]; omega
      have l3 : (bk.drop m).length = bk.length - m := List.length_drop
      rw [hbb] at R2
      have K := Lib.hid (fun (kd : Int) (W : World) (hok : wglen kd (m : Int) = true) (h5 : kd = 5 → A13 = none ∧ c13 = 0 ∧ cur.f13 = []) (hB : Below w.heap.size w W) (hR : Kd.R k112 112 W w.heap.size (fun _ => True) (.slice A13 cur.f13.length c13) cur.f13) => wr_option cur A13 c13 A14 n14 c14 A2 (c1 - 2) bb kd w W hB hR h5 (Kd.C_below R2 hB) (by rw [lbb]; omega) (fun x hx => by rw [← hbb] at hx; exact HBK.out x (List.mem_of_mem_take (List.mem_of_mem_drop hx))) (by rw [lbb]; have := HL.out; omega) (by rw [lbb, show ((m - 2 : Nat) : Int) + 2 = (m : Int) by omega]; exact hok))
      rw [lbb] at K
      have HR3 := Lib.hid R3; have HL3 := Lib.hid l3; have HBB2 := Lib.hid hbb; have HLBB := Lib.hid lbb
      have hc3 : bk.length - m ≤ c1 - m := by omega
      clear hA2 hA3 R2 R3 hbb lbb l3 hnm hm2 hmb
      by_cases k2 : kd = 2
      · have hkk := k2
        have e2 : (kd == 2) = true := beq_iff_eq.2 hkk
        have HKN := Lib.hid (show wgknown kd = true from by subst hkk; rfl)
        clear hkk
        clear k2
        go_upto_region 10 with (fail)
        have hkb := HKB.out
        obtain ⟨q, rfl⟩ : ∃ q : Nat, kd = q := ⟨kd.toNat, by omega⟩
        have hq : q < 256 := by omega
        obtain ⟨cs, fs⟩ := HSN.out.cell q hq
        cases hsn : seen.contains (q : Int) with
        | true =>
          rw [hsn] at cs
          simp only [if_true] at cs
          have HSNN := Lib.hid hsn
          clear hsn
          go_wp2_with (first
            | (refine gate_ (.load 53 (.tmp 2)) rfl ?_; refine wpList_load_row rfl 53 (.tmp 2) rfl g rfl 53 _ (0, 0) _ HG.out Try.underlying53 rfl (by kernel_rfl) ?_)
            | (refine gate_ (.store 53 (.tmp 4) (.tmp 87)) rfl ?_; refine wg_store_op rfl rfl 53 (.tmp 4) (.tmp 87) rfl _ _ _ 53 _ rfl rfl rfl (by kernel_rfl) rfl HG4.out rfl ?_; intro w9 h9 hg9))
          try simp only [Exit.inBlock, Exit.then]
          refine bodyPost_ret (results_ct Try.results62 _ _ g4 53 _ (0, 0) _ rfl h9 Try.underlying53 rfl (by kernel_rfl)) rfl ?_
          exact WOpts.bad (HUN.out (fun h => absurd h.2.2.2.2 (by rw [HKN.out, HSNN.out]; decide))) (wr_tail rfl (HGG.out.symm ▸ hge) HB.out hg9) rfl
        | false =>
          have HSNN := Lib.hid (show (wgknown (q : Int) && seen.contains (q : Int)) = false from by rw [hsn, Bool.and_false])
          rw [hsn] at cs
          simp only [Bool.false_eq_true, if_false] at cs
          clear hsn
          go_upto_region 13 with (fail)
          obtain ⟨arr, hsa, _⟩ := HSN.out
          have HR5 := Lib.hid (Kd.R_set HR.out hsa (by decide) q (.int .i64 1))
          have HG5 := Lib.hid (blk_far HG.out (p := ⟨sb, q, none⟩) (Ne.symm hne2) (.int .i64 1))
          have HG45 := Lib.hid (blk_far HG4.out (p := ⟨sb, q, none⟩) hne3 (.int .i64 1))
          have HSN5 := Lib.hid (HSN.out.put q hq)
          have HB5 := Lib.hid (HB.out.setCell (p := ⟨sb, q, none⟩) (Nat.le_trans HWG.out hge2) (.int .i64 1))
          generalize wd.setCell ⟨sb, q, none⟩ (.int .i64 1) = W5 at HR5 HG5 HG45 HSN5 HB5 ⊢
          have h5q : (q : Int) = 5 → A13 = none ∧ c13 = 0 ∧ cur.f13 = [] := fun e => H5.out (by have h := HSNN.out; rw [e] at h; exact h)
          have KO := Lib.hid (fun (W : World) (hB : Below W5.heap.size W5 W) => K.out (q : Int) W HOK.out h5q (below_step HB5.out hB) (Kd.R_below HR5.out hB))
          have HQ5 := Lib.hid (show seen.contains 5 = false → A13 = none ∧ c13 = 0 ∧ cur.f13 = [] from H5.out)
          clear hsa cs fs HSN HG HG4 HB HR h5q
          refine start_ (n := 7) (S := fun w' => w'.heap[g]? = some (.cells (wgcells cur (.slice A13 cur.f13.length c13) (.slice A14 n14 c14)) 53 (0, 0))) (ds := [6]) #[O,O,O,O,O,O,O] (by kernel_rfl) rfl rfl ((blk_drew HG5.out)) (fun hHeld => ?_)
          refine pure_ (i := 1) (N := some 92) (v := ?_) (a' := ?_) #[O,I,O,O,O,O,O] rfl rfl (by kernel_rfl) (fun _ _ _ h => h) (Or.inl ⟨by rfl, ?_⟩) ?_ ?_
          rotate_left
          · intro w'
            go_simp
            with_reducible rfl
          rotate_left
          · simp only [Act.put, sA_, sZ_, sS_, i64_w, i32_w]
            rfl
          refine pure_ (i := 2) (N := some 93) (v := ?_) (a' := ?_) #[O,I,I,O,O,O,O] rfl rfl (by kernel_rfl) (fun _ _ _ h => h) (Or.inl ⟨by rfl, ?_⟩) ?_ ?_
          rotate_left
          · intro w'
            go_simp
            with_reducible rfl
          rotate_left
          · simp only [Act.put, sA_, sZ_, sS_, i64_w, i32_w]
            rfl
          refine pure_ (i := 3) (N := some 94) (v := ?_) (a' := ?_) #[O,I,I,I,O,O,O] rfl rfl (by kernel_rfl) (fun _ _ _ h => h) (Or.inl ⟨by rfl, ?_⟩) ?_ ?_
          rotate_left
          · intro w'
            go_simp
            with_reducible rfl
          rotate_left
          · simp only [Act.put, sA_, sZ_, sS_, i64_w, i32_w]
            rfl
          refine pure_ (i := 4) (N := some 95) (v := ?_) (a' := ?_) #[O,I,I,I,I,O,O] rfl rfl (by kernel_rfl) (fun _ _ _ h => h) (Or.inl ⟨by rfl, ?_⟩) ?_ ?_
          rotate_left
          · intro w'
            go_simp
            with_reducible rfl
          rotate_left
          · simp only [Act.put, sA_, sZ_, sS_, i64_w, i32_w]
            rfl
          refine take_ (i := 0) (N := some 91) (v := .agg (wgcells cur (.slice A13 cur.f13.length c13) (.slice A14 n14 c14))) (a' := ?_) #[I,I,I,I,I,O,O] rfl rfl (by kernel_rfl) (fun _ _ _ h => h) (wb_take (by rfl) (.tmp 2) rfl g rfl cur _ _ (fun w' h => h)) hHeld ?_ ?_
          rotate_left
          · simp only [Act.put, sA_, sZ_, sS_, i64_w, i32_w]
            rfl
          refine one_ (i := 5) (N := some 96) #[I,I,I,I,I,I,O] rfl rfl (by kernel_rfl) (by decide) (fun K hK => ?_)
          refine goes_ Try.func91 (by kernel_rfl) rfl #[.agg (wgcells cur (.slice A13 cur.f13.length c13) (.slice A14 n14 c14)), .int .u8 (q : Int), .slice A2 (m - 2) (c1 - 2)] (by rfl) rfl rfl (by simp only [List.map_toArray, List.map_cons, List.map_nil]; rfl) ?_
          with_reducible refine (KO.out _ (by exact below_drew1 (Below.refl W5.heap.size W5))).mono ?_
          rintro e u1 ⟨A', c', rfl, hr1, hb1, hbb1, hk1⟩
          refine ⟨_, rfl, ?_⟩
          refine hK.out _ _ ((blk_below (blk_drew HG5.out) hbb1)) (fun hHeld => ?_)
          clear hK K
          refine norm_ (a' := ?_) ?_ ?_
          rotate_left
          · show Act.put _ (some 96) _ = _
            simp only [Act.put, sA_, sZ_, sS_, i64_w, i32_w]
            rfl
          refine last_ (i := 6) (N := none) #[I,I,I,I,I,I,I] rfl rfl (by kernel_rfl) (by decide) (fun K hK => ?_)
          refine wg_store_step (by rfl) (by rfl) 53 (.tmp 2) (.tmp 96) rfl (.agg (wgcells (wgopt cur (q : Int) bb) (.slice A' (wgopt cur (q : Int) bb).f13.length c') (.slice A14 n14 c14))) _ g 53 _ (by rfl) (by rfl) (by rfl) (by kernel_rfl) (by rfl) (blk_below (blk_drew HG5.out) hbb1) (by rfl) ?_
          intro w5 h5 hg5
          refine hK.out _ _ ?_
          clear hK K
          refine done_ (by kernel_rfl) ?_
          have HG49 := Lib.hid (blk_grown (blk_below (blk_drew HG45.out) hbb1) hg5 (fun e => hne (Option.some.inj e)))
          have HSN9 := Lib.hid (((HSN5.out.drew).below hbb1).grown hg5 hne2)
          have HB9 := Lib.hid (show Below w.heap.size w w5 from hb1.grown hg5 hb1.size (fun k hk => by cases hk; exact HWG.out))
          have HR9 := Lib.hid (wg_R_store hr1 (blk_below (blk_drew HG5.out) hbb1) (by decide) hg5)
          have HG9 := Lib.hid h5
          have HK1' := Lib.hid hk1
          clear hr1 hb1 hbb1 hk1 h5 hg5
          go_wp2
          go_roundg (gk - 1)
          case measure => have := H2.out; have := HM.out; omega
          case rel =>
            have e1 := HL3.out
            refine ⟨A3, c1 - m, bk.drop m, wgopt cur (q : Int) bb, (q : Int) :: seen, A', c', by rw [e1]; have := HM.out; have := HN2.out; omega, by rw [e1], by rw [e1]; exact hc3, Lib.hid (fun x hx => HBK.out x (List.mem_of_mem_drop hx)), HR3, HG9, HG49, HSN9, HB9, Lib.hid ?_, HR9, Lib.hid ?_, Lib.hid (by rw [e1]; have := HL.out; omega)⟩
            · have h := wgrd_opt cur seen bk (q : Int) m HKD.out HNN.out HZ.out HK0.out HK1.out H2.out HN2.out HNBL.out HOK.out HSNN.out
              rw [Int.toNat_natCast, HBB2.out] at h
              exact h.symm.trans HE.out
            · intro hc5
              rw [List.contains_cons] at hc5
              have hc6 := Bool.or_eq_false_iff.1 hc5
              have hq5 : (q : Int) ≠ 5 := fun e => by rw [e] at hc6; exact absurd hc6.1 (by decide)
              obtain ⟨ha, hc, hf⟩ := HK1'.out hq5
              obtain ⟨ha2, hc2, hf2⟩ := HQ5.out hc6.2
              exact ⟨ha.trans ha2, hc.trans hc2, hf.trans hf2⟩
      by_cases k3 : kd = 3
      · have hkk := k3
        have e2 : (kd == 2) = false := beq_false_of_ne k2
        have e3 : (kd == 3) = true := beq_iff_eq.2 hkk
        have HKN := Lib.hid (show wgknown kd = true from by subst hkk; rfl)
        clear hkk
        clear k3
        go_upto_region 10 with (fail)
        have hkb := HKB.out
        obtain ⟨q, rfl⟩ : ∃ q : Nat, kd = q := ⟨kd.toNat, by omega⟩
        have hq : q < 256 := by omega
        obtain ⟨cs, fs⟩ := HSN.out.cell q hq
        cases hsn : seen.contains (q : Int) with
        | true =>
          rw [hsn] at cs
          simp only [if_true] at cs
          have HSNN := Lib.hid hsn
          clear hsn
          go_wp2_with (first
            | (refine gate_ (.load 53 (.tmp 2)) rfl ?_; refine wpList_load_row rfl 53 (.tmp 2) rfl g rfl 53 _ (0, 0) _ HG.out Try.underlying53 rfl (by kernel_rfl) ?_)
            | (refine gate_ (.store 53 (.tmp 4) (.tmp 87)) rfl ?_; refine wg_store_op rfl rfl 53 (.tmp 4) (.tmp 87) rfl _ _ _ 53 _ rfl rfl rfl (by kernel_rfl) rfl HG4.out rfl ?_; intro w9 h9 hg9))
          try simp only [Exit.inBlock, Exit.then]
          refine bodyPost_ret (results_ct Try.results62 _ _ g4 53 _ (0, 0) _ rfl h9 Try.underlying53 rfl (by kernel_rfl)) rfl ?_
          exact WOpts.bad (HUN.out (fun h => absurd h.2.2.2.2 (by rw [HKN.out, HSNN.out]; decide))) (wr_tail rfl (HGG.out.symm ▸ hge) HB.out hg9) rfl
        | false =>
          have HSNN := Lib.hid (show (wgknown (q : Int) && seen.contains (q : Int)) = false from by rw [hsn, Bool.and_false])
          rw [hsn] at cs
          simp only [Bool.false_eq_true, if_false] at cs
          clear hsn
          go_upto_region 13 with (fail)
          obtain ⟨arr, hsa, _⟩ := HSN.out
          have HR5 := Lib.hid (Kd.R_set HR.out hsa (by decide) q (.int .i64 1))
          have HG5 := Lib.hid (blk_far HG.out (p := ⟨sb, q, none⟩) (Ne.symm hne2) (.int .i64 1))
          have HG45 := Lib.hid (blk_far HG4.out (p := ⟨sb, q, none⟩) hne3 (.int .i64 1))
          have HSN5 := Lib.hid (HSN.out.put q hq)
          have HB5 := Lib.hid (HB.out.setCell (p := ⟨sb, q, none⟩) (Nat.le_trans HWG.out hge2) (.int .i64 1))
          generalize wd.setCell ⟨sb, q, none⟩ (.int .i64 1) = W5 at HR5 HG5 HG45 HSN5 HB5 ⊢
          have h5q : (q : Int) = 5 → A13 = none ∧ c13 = 0 ∧ cur.f13 = [] := fun e => H5.out (by have h := HSNN.out; rw [e] at h; exact h)
          have KO := Lib.hid (fun (W : World) (hB : Below W5.heap.size W5 W) => K.out (q : Int) W HOK.out h5q (below_step HB5.out hB) (Kd.R_below HR5.out hB))
          have HQ5 := Lib.hid (show seen.contains 5 = false → A13 = none ∧ c13 = 0 ∧ cur.f13 = [] from H5.out)
          clear hsa cs fs HSN HG HG4 HB HR h5q
          refine start_ (n := 7) (S := fun w' => w'.heap[g]? = some (.cells (wgcells cur (.slice A13 cur.f13.length c13) (.slice A14 n14 c14)) 53 (0, 0))) (ds := [6]) #[O,O,O,O,O,O,O] (by kernel_rfl) rfl rfl ((blk_drew HG5.out)) (fun hHeld => ?_)
          refine pure_ (i := 1) (N := some 92) (v := ?_) (a' := ?_) #[O,I,O,O,O,O,O] rfl rfl (by kernel_rfl) (fun _ _ _ h => h) (Or.inl ⟨by rfl, ?_⟩) ?_ ?_
          rotate_left
          · intro w'
            go_simp
            with_reducible rfl
          rotate_left
          · simp only [Act.put, sA_, sZ_, sS_, i64_w, i32_w]
            rfl
          refine pure_ (i := 2) (N := some 93) (v := ?_) (a' := ?_) #[O,I,I,O,O,O,O] rfl rfl (by kernel_rfl) (fun _ _ _ h => h) (Or.inl ⟨by rfl, ?_⟩) ?_ ?_
          rotate_left
          · intro w'
            go_simp
            with_reducible rfl
          rotate_left
          · simp only [Act.put, sA_, sZ_, sS_, i64_w, i32_w]
            rfl
          refine pure_ (i := 3) (N := some 94) (v := ?_) (a' := ?_) #[O,I,I,I,O,O,O] rfl rfl (by kernel_rfl) (fun _ _ _ h => h) (Or.inl ⟨by rfl, ?_⟩) ?_ ?_
          rotate_left
          · intro w'
            go_simp
            with_reducible rfl
          rotate_left
          · simp only [Act.put, sA_, sZ_, sS_, i64_w, i32_w]
            rfl
          refine pure_ (i := 4) (N := some 95) (v := ?_) (a' := ?_) #[O,I,I,I,I,O,O] rfl rfl (by kernel_rfl) (fun _ _ _ h => h) (Or.inl ⟨by rfl, ?_⟩) ?_ ?_
          rotate_left
          · intro w'
            go_simp
            with_reducible rfl
          rotate_left
          · simp only [Act.put, sA_, sZ_, sS_, i64_w, i32_w]
            rfl
          refine take_ (i := 0) (N := some 91) (v := .agg (wgcells cur (.slice A13 cur.f13.length c13) (.slice A14 n14 c14))) (a' := ?_) #[I,I,I,I,I,O,O] rfl rfl (by kernel_rfl) (fun _ _ _ h => h) (wb_take (by rfl) (.tmp 2) rfl g rfl cur _ _ (fun w' h => h)) hHeld ?_ ?_
          rotate_left
          · simp only [Act.put, sA_, sZ_, sS_, i64_w, i32_w]
            rfl
          refine one_ (i := 5) (N := some 96) #[I,I,I,I,I,I,O] rfl rfl (by kernel_rfl) (by decide) (fun K hK => ?_)
          refine goes_ Try.func91 (by kernel_rfl) rfl #[.agg (wgcells cur (.slice A13 cur.f13.length c13) (.slice A14 n14 c14)), .int .u8 (q : Int), .slice A2 (m - 2) (c1 - 2)] (by rfl) rfl rfl (by simp only [List.map_toArray, List.map_cons, List.map_nil]; rfl) ?_
          with_reducible refine (KO.out _ (by exact below_drew1 (Below.refl W5.heap.size W5))).mono ?_
          rintro e u1 ⟨A', c', rfl, hr1, hb1, hbb1, hk1⟩
          refine ⟨_, rfl, ?_⟩
          refine hK.out _ _ ((blk_below (blk_drew HG5.out) hbb1)) (fun hHeld => ?_)
          clear hK K
          refine norm_ (a' := ?_) ?_ ?_
          rotate_left
          · show Act.put _ (some 96) _ = _
            simp only [Act.put, sA_, sZ_, sS_, i64_w, i32_w]
            rfl
          refine last_ (i := 6) (N := none) #[I,I,I,I,I,I,I] rfl rfl (by kernel_rfl) (by decide) (fun K hK => ?_)
          refine wg_store_step (by rfl) (by rfl) 53 (.tmp 2) (.tmp 96) rfl (.agg (wgcells (wgopt cur (q : Int) bb) (.slice A' (wgopt cur (q : Int) bb).f13.length c') (.slice A14 n14 c14))) _ g 53 _ (by rfl) (by rfl) (by rfl) (by kernel_rfl) (by rfl) (blk_below (blk_drew HG5.out) hbb1) (by rfl) ?_
          intro w5 h5 hg5
          refine hK.out _ _ ?_
          clear hK K
          refine done_ (by kernel_rfl) ?_
          have HG49 := Lib.hid (blk_grown (blk_below (blk_drew HG45.out) hbb1) hg5 (fun e => hne (Option.some.inj e)))
          have HSN9 := Lib.hid (((HSN5.out.drew).below hbb1).grown hg5 hne2)
          have HB9 := Lib.hid (show Below w.heap.size w w5 from hb1.grown hg5 hb1.size (fun k hk => by cases hk; exact HWG.out))
          have HR9 := Lib.hid (wg_R_store hr1 (blk_below (blk_drew HG5.out) hbb1) (by decide) hg5)
          have HG9 := Lib.hid h5
          have HK1' := Lib.hid hk1
          clear hr1 hb1 hbb1 hk1 h5 hg5
          go_wp2
          go_roundg (gk - 1)
          case measure => have := H2.out; have := HM.out; omega
          case rel =>
            have e1 := HL3.out
            refine ⟨A3, c1 - m, bk.drop m, wgopt cur (q : Int) bb, (q : Int) :: seen, A', c', by rw [e1]; have := HM.out; have := HN2.out; omega, by rw [e1], by rw [e1]; exact hc3, Lib.hid (fun x hx => HBK.out x (List.mem_of_mem_drop hx)), HR3, HG9, HG49, HSN9, HB9, Lib.hid ?_, HR9, Lib.hid ?_, Lib.hid (by rw [e1]; have := HL.out; omega)⟩
            · have h := wgrd_opt cur seen bk (q : Int) m HKD.out HNN.out HZ.out HK0.out HK1.out H2.out HN2.out HNBL.out HOK.out HSNN.out
              rw [Int.toNat_natCast, HBB2.out] at h
              exact h.symm.trans HE.out
            · intro hc5
              rw [List.contains_cons] at hc5
              have hc6 := Bool.or_eq_false_iff.1 hc5
              have hq5 : (q : Int) ≠ 5 := fun e => by rw [e] at hc6; exact absurd hc6.1 (by decide)
              obtain ⟨ha, hc, hf⟩ := HK1'.out hq5
              obtain ⟨ha2, hc2, hf2⟩ := HQ5.out hc6.2
              exact ⟨ha.trans ha2, hc.trans hc2, hf.trans hf2⟩
      by_cases k4 : kd = 4
      · have hkk := k4
        have e2 : (kd == 2) = false := beq_false_of_ne k2
        have e3 : (kd == 3) = false := beq_false_of_ne k3
        have e4 : (kd == 4) = true := beq_iff_eq.2 hkk
        have HKN := Lib.hid (show wgknown kd = true from by subst hkk; rfl)
        clear hkk
        clear k4
        go_upto_region 10 with (fail)
        have hkb := HKB.out
        obtain ⟨q, rfl⟩ : ∃ q : Nat, kd = q := ⟨kd.toNat, by omega⟩
        have hq : q < 256 := by omega
        obtain ⟨cs, fs⟩ := HSN.out.cell q hq
        cases hsn : seen.contains (q : Int) with
        | true =>
          rw [hsn] at cs
          simp only [if_true] at cs
          have HSNN := Lib.hid hsn
          clear hsn
          go_wp2_with (first
            | (refine gate_ (.load 53 (.tmp 2)) rfl ?_; refine wpList_load_row rfl 53 (.tmp 2) rfl g rfl 53 _ (0, 0) _ HG.out Try.underlying53 rfl (by kernel_rfl) ?_)
            | (refine gate_ (.store 53 (.tmp 4) (.tmp 87)) rfl ?_; refine wg_store_op rfl rfl 53 (.tmp 4) (.tmp 87) rfl _ _ _ 53 _ rfl rfl rfl (by kernel_rfl) rfl HG4.out rfl ?_; intro w9 h9 hg9))
          try simp only [Exit.inBlock, Exit.then]
          refine bodyPost_ret (results_ct Try.results62 _ _ g4 53 _ (0, 0) _ rfl h9 Try.underlying53 rfl (by kernel_rfl)) rfl ?_
          exact WOpts.bad (HUN.out (fun h => absurd h.2.2.2.2 (by rw [HKN.out, HSNN.out]; decide))) (wr_tail rfl (HGG.out.symm ▸ hge) HB.out hg9) rfl
        | false =>
          have HSNN := Lib.hid (show (wgknown (q : Int) && seen.contains (q : Int)) = false from by rw [hsn, Bool.and_false])
          rw [hsn] at cs
          simp only [Bool.false_eq_true, if_false] at cs
          clear hsn
          go_upto_region 13 with (fail)
          obtain ⟨arr, hsa, _⟩ := HSN.out
          have HR5 := Lib.hid (Kd.R_set HR.out hsa (by decide) q (.int .i64 1))
          have HG5 := Lib.hid (blk_far HG.out (p := ⟨sb, q, none⟩) (Ne.symm hne2) (.int .i64 1))
          have HG45 := Lib.hid (blk_far HG4.out (p := ⟨sb, q, none⟩) hne3 (.int .i64 1))
          have HSN5 := Lib.hid (HSN.out.put q hq)
          have HB5 := Lib.hid (HB.out.setCell (p := ⟨sb, q, none⟩) (Nat.le_trans HWG.out hge2) (.int .i64 1))
          generalize wd.setCell ⟨sb, q, none⟩ (.int .i64 1) = W5 at HR5 HG5 HG45 HSN5 HB5 ⊢
          have h5q : (q : Int) = 5 → A13 = none ∧ c13 = 0 ∧ cur.f13 = [] := fun e => H5.out (by have h := HSNN.out; rw [e] at h; exact h)
          have KO := Lib.hid (fun (W : World) (hB : Below W5.heap.size W5 W) => K.out (q : Int) W HOK.out h5q (below_step HB5.out hB) (Kd.R_below HR5.out hB))
          have HQ5 := Lib.hid (show seen.contains 5 = false → A13 = none ∧ c13 = 0 ∧ cur.f13 = [] from H5.out)
          clear hsa cs fs HSN HG HG4 HB HR h5q
          refine start_ (n := 7) (S := fun w' => w'.heap[g]? = some (.cells (wgcells cur (.slice A13 cur.f13.length c13) (.slice A14 n14 c14)) 53 (0, 0))) (ds := [6]) #[O,O,O,O,O,O,O] (by kernel_rfl) rfl rfl ((blk_drew HG5.out)) (fun hHeld => ?_)
          refine pure_ (i := 1) (N := some 92) (v := ?_) (a' := ?_) #[O,I,O,O,O,O,O] rfl rfl (by kernel_rfl) (fun _ _ _ h => h) (Or.inl ⟨by rfl, ?_⟩) ?_ ?_
          rotate_left
          · intro w'
            go_simp
            with_reducible rfl
          rotate_left
          · simp only [Act.put, sA_, sZ_, sS_, i64_w, i32_w]
            rfl
          refine pure_ (i := 2) (N := some 93) (v := ?_) (a' := ?_) #[O,I,I,O,O,O,O] rfl rfl (by kernel_rfl) (fun _ _ _ h => h) (Or.inl ⟨by rfl, ?_⟩) ?_ ?_
          rotate_left
          · intro w'
            go_simp
            with_reducible rfl
          rotate_left
          · simp only [Act.put, sA_, sZ_, sS_, i64_w, i32_w]
            rfl
          refine pure_ (i := 3) (N := some 94) (v := ?_) (a' := ?_) #[O,I,I,I,O,O,O] rfl rfl (by kernel_rfl) (fun _ _ _ h => h) (Or.inl ⟨by rfl, ?_⟩) ?_ ?_
          rotate_left
          · intro w'
            go_simp
            with_reducible rfl
          rotate_left
          · simp only [Act.put, sA_, sZ_, sS_, i64_w, i32_w]
            rfl
          refine pure_ (i := 4) (N := some 95) (v := ?_) (a' := ?_) #[O,I,I,I,I,O,O] rfl rfl (by kernel_rfl) (fun _ _ _ h => h) (Or.inl ⟨by rfl, ?_⟩) ?_ ?_
          rotate_left
          · intro w'
            go_simp
            with_reducible rfl
          rotate_left
          · simp only [Act.put, sA_, sZ_, sS_, i64_w, i32_w]
            rfl
          refine take_ (i := 0) (N := some 91) (v := .agg (wgcells cur (.slice A13 cur.f13.length c13) (.slice A14 n14 c14))) (a' := ?_) #[I,I,I,I,I,O,O] rfl rfl (by kernel_rfl) (fun _ _ _ h => h) (wb_take (by rfl) (.tmp 2) rfl g rfl cur _ _ (fun w' h => h)) hHeld ?_ ?_
          rotate_left
          · simp only [Act.put, sA_, sZ_, sS_, i64_w, i32_w]
            rfl
          refine one_ (i := 5) (N := some 96) #[I,I,I,I,I,I,O] rfl rfl (by kernel_rfl) (by decide) (fun K hK => ?_)
          refine goes_ Try.func91 (by kernel_rfl) rfl #[.agg (wgcells cur (.slice A13 cur.f13.length c13) (.slice A14 n14 c14)), .int .u8 (q : Int), .slice A2 (m - 2) (c1 - 2)] (by rfl) rfl rfl (by simp only [List.map_toArray, List.map_cons, List.map_nil]; rfl) ?_
          with_reducible refine (KO.out _ (by exact below_drew1 (Below.refl W5.heap.size W5))).mono ?_
          rintro e u1 ⟨A', c', rfl, hr1, hb1, hbb1, hk1⟩
          refine ⟨_, rfl, ?_⟩
          refine hK.out _ _ ((blk_below (blk_drew HG5.out) hbb1)) (fun hHeld => ?_)
          clear hK K
          refine norm_ (a' := ?_) ?_ ?_
          rotate_left
          · show Act.put _ (some 96) _ = _
            simp only [Act.put, sA_, sZ_, sS_, i64_w, i32_w]
            rfl
          refine last_ (i := 6) (N := none) #[I,I,I,I,I,I,I] rfl rfl (by kernel_rfl) (by decide) (fun K hK => ?_)
          refine wg_store_step (by rfl) (by rfl) 53 (.tmp 2) (.tmp 96) rfl (.agg (wgcells (wgopt cur (q : Int) bb) (.slice A' (wgopt cur (q : Int) bb).f13.length c') (.slice A14 n14 c14))) _ g 53 _ (by rfl) (by rfl) (by rfl) (by kernel_rfl) (by rfl) (blk_below (blk_drew HG5.out) hbb1) (by rfl) ?_
          intro w5 h5 hg5
          refine hK.out _ _ ?_
          clear hK K
          refine done_ (by kernel_rfl) ?_
          have HG49 := Lib.hid (blk_grown (blk_below (blk_drew HG45.out) hbb1) hg5 (fun e => hne (Option.some.inj e)))
          have HSN9 := Lib.hid (((HSN5.out.drew).below hbb1).grown hg5 hne2)
          have HB9 := Lib.hid (show Below w.heap.size w w5 from hb1.grown hg5 hb1.size (fun k hk => by cases hk; exact HWG.out))
          have HR9 := Lib.hid (wg_R_store hr1 (blk_below (blk_drew HG5.out) hbb1) (by decide) hg5)
          have HG9 := Lib.hid h5
          have HK1' := Lib.hid hk1
          clear hr1 hb1 hbb1 hk1 h5 hg5
          go_wp2
          go_roundg (gk - 1)
          case measure => have := H2.out; have := HM.out; omega
          case rel =>
            have e1 := HL3.out
            refine ⟨A3, c1 - m, bk.drop m, wgopt cur (q : Int) bb, (q : Int) :: seen, A', c', by rw [e1]; have := HM.out; have := HN2.out; omega, by rw [e1], by rw [e1]; exact hc3, Lib.hid (fun x hx => HBK.out x (List.mem_of_mem_drop hx)), HR3, HG9, HG49, HSN9, HB9, Lib.hid ?_, HR9, Lib.hid ?_, Lib.hid (by rw [e1]; have := HL.out; omega)⟩
            · have h := wgrd_opt cur seen bk (q : Int) m HKD.out HNN.out HZ.out HK0.out HK1.out H2.out HN2.out HNBL.out HOK.out HSNN.out
              rw [Int.toNat_natCast, HBB2.out] at h
              exact h.symm.trans HE.out
            · intro hc5
              rw [List.contains_cons] at hc5
              have hc6 := Bool.or_eq_false_iff.1 hc5
              have hq5 : (q : Int) ≠ 5 := fun e => by rw [e] at hc6; exact absurd hc6.1 (by decide)
              obtain ⟨ha, hc, hf⟩ := HK1'.out hq5
              obtain ⟨ha2, hc2, hf2⟩ := HQ5.out hc6.2
              exact ⟨ha.trans ha2, hc.trans hc2, hf.trans hf2⟩
      by_cases k5 : kd = 5
      · have hkk := k5
        have e2 : (kd == 2) = false := beq_false_of_ne k2
        have e3 : (kd == 3) = false := beq_false_of_ne k3
        have e4 : (kd == 4) = false := beq_false_of_ne k4
        have e5 : (kd == 5) = true := beq_iff_eq.2 hkk
        have HKN := Lib.hid (show wgknown kd = true from by subst hkk; rfl)
        clear hkk
        clear k5
        go_upto_region 10 with (fail)
        have hkb := HKB.out
        obtain ⟨q, rfl⟩ : ∃ q : Nat, kd = q := ⟨kd.toNat, by omega⟩
        have hq : q < 256 := by omega
        obtain ⟨cs, fs⟩ := HSN.out.cell q hq
        cases hsn : seen.contains (q : Int) with
        | true =>
          rw [hsn] at cs
          simp only [if_true] at cs
          have HSNN := Lib.hid hsn
          clear hsn
          go_wp2_with (first
            | (refine gate_ (.load 53 (.tmp 2)) rfl ?_; refine wpList_load_row rfl 53 (.tmp 2) rfl g rfl 53 _ (0, 0) _ HG.out Try.underlying53 rfl (by kernel_rfl) ?_)
            | (refine gate_ (.store 53 (.tmp 4) (.tmp 87)) rfl ?_; refine wg_store_op rfl rfl 53 (.tmp 4) (.tmp 87) rfl _ _ _ 53 _ rfl rfl rfl (by kernel_rfl) rfl HG4.out rfl ?_; intro w9 h9 hg9))
          try simp only [Exit.inBlock, Exit.then]
          refine bodyPost_ret (results_ct Try.results62 _ _ g4 53 _ (0, 0) _ rfl h9 Try.underlying53 rfl (by kernel_rfl)) rfl ?_
          exact WOpts.bad (HUN.out (fun h => absurd h.2.2.2.2 (by rw [HKN.out, HSNN.out]; decide))) (wr_tail rfl (HGG.out.symm ▸ hge) HB.out hg9) rfl
        | false =>
          have HSNN := Lib.hid (show (wgknown (q : Int) && seen.contains (q : Int)) = false from by rw [hsn, Bool.and_false])
          rw [hsn] at cs
          simp only [Bool.false_eq_true, if_false] at cs
          clear hsn
          go_upto_region 13 with (fail)
          obtain ⟨arr, hsa, _⟩ := HSN.out
          have HR5 := Lib.hid (Kd.R_set HR.out hsa (by decide) q (.int .i64 1))
          have HG5 := Lib.hid (blk_far HG.out (p := ⟨sb, q, none⟩) (Ne.symm hne2) (.int .i64 1))
          have HG45 := Lib.hid (blk_far HG4.out (p := ⟨sb, q, none⟩) hne3 (.int .i64 1))
          have HSN5 := Lib.hid (HSN.out.put q hq)
          have HB5 := Lib.hid (HB.out.setCell (p := ⟨sb, q, none⟩) (Nat.le_trans HWG.out hge2) (.int .i64 1))
          generalize wd.setCell ⟨sb, q, none⟩ (.int .i64 1) = W5 at HR5 HG5 HG45 HSN5 HB5 ⊢
          have h5q : (q : Int) = 5 → A13 = none ∧ c13 = 0 ∧ cur.f13 = [] := fun e => H5.out (by have h := HSNN.out; rw [e] at h; exact h)
          have KO := Lib.hid (fun (W : World) (hB : Below W5.heap.size W5 W) => K.out (q : Int) W HOK.out h5q (below_step HB5.out hB) (Kd.R_below HR5.out hB))
          have HQ5 := Lib.hid (show seen.contains 5 = false → A13 = none ∧ c13 = 0 ∧ cur.f13 = [] from H5.out)
          clear hsa cs fs HSN HG HG4 HB HR h5q
          refine start_ (n := 7) (S := fun w' => w'.heap[g]? = some (.cells (wgcells cur (.slice A13 cur.f13.length c13) (.slice A14 n14 c14)) 53 (0, 0))) (ds := [6]) #[O,O,O,O,O,O,O] (by kernel_rfl) rfl rfl ((blk_drew HG5.out)) (fun hHeld => ?_)
          refine pure_ (i := 1) (N := some 92) (v := ?_) (a' := ?_) #[O,I,O,O,O,O,O] rfl rfl (by kernel_rfl) (fun _ _ _ h => h) (Or.inl ⟨by rfl, ?_⟩) ?_ ?_
          rotate_left
          · intro w'
            go_simp
            with_reducible rfl
          rotate_left
          · simp only [Act.put, sA_, sZ_, sS_, i64_w, i32_w]
            rfl
          refine pure_ (i := 2) (N := some 93) (v := ?_) (a' := ?_) #[O,I,I,O,O,O,O] rfl rfl (by kernel_rfl) (fun _ _ _ h => h) (Or.inl ⟨by rfl, ?_⟩) ?_ ?_
          rotate_left
          · intro w'
            go_simp
            with_reducible rfl
          rotate_left
          · simp only [Act.put, sA_, sZ_, sS_, i64_w, i32_w]
            rfl
          refine pure_ (i := 3) (N := some 94) (v := ?_) (a' := ?_) #[O,I,I,I,O,O,O] rfl rfl (by kernel_rfl) (fun _ _ _ h => h) (Or.inl ⟨by rfl, ?_⟩) ?_ ?_
          rotate_left
          · intro w'
            go_simp
            with_reducible rfl
          rotate_left
          · simp only [Act.put, sA_, sZ_, sS_, i64_w, i32_w]
            rfl
          refine pure_ (i := 4) (N := some 95) (v := ?_) (a' := ?_) #[O,I,I,I,I,O,O] rfl rfl (by kernel_rfl) (fun _ _ _ h => h) (Or.inl ⟨by rfl, ?_⟩) ?_ ?_
          rotate_left
          · intro w'
            go_simp
            with_reducible rfl
          rotate_left
          · simp only [Act.put, sA_, sZ_, sS_, i64_w, i32_w]
            rfl
          refine take_ (i := 0) (N := some 91) (v := .agg (wgcells cur (.slice A13 cur.f13.length c13) (.slice A14 n14 c14))) (a' := ?_) #[I,I,I,I,I,O,O] rfl rfl (by kernel_rfl) (fun _ _ _ h => h) (wb_take (by rfl) (.tmp 2) rfl g rfl cur _ _ (fun w' h => h)) hHeld ?_ ?_
          rotate_left
          · simp only [Act.put, sA_, sZ_, sS_, i64_w, i32_w]
            rfl
          refine one_ (i := 5) (N := some 96) #[I,I,I,I,I,I,O] rfl rfl (by kernel_rfl) (by decide) (fun K hK => ?_)
          refine goes_ Try.func91 (by kernel_rfl) rfl #[.agg (wgcells cur (.slice A13 cur.f13.length c13) (.slice A14 n14 c14)), .int .u8 (q : Int), .slice A2 (m - 2) (c1 - 2)] (by rfl) rfl rfl (by simp only [List.map_toArray, List.map_cons, List.map_nil]; rfl) ?_
          with_reducible refine (KO.out _ (by exact below_drew1 (Below.refl W5.heap.size W5))).mono ?_
          rintro e u1 ⟨A', c', rfl, hr1, hb1, hbb1, hk1⟩
          refine ⟨_, rfl, ?_⟩
          refine hK.out _ _ ((blk_below (blk_drew HG5.out) hbb1)) (fun hHeld => ?_)
          clear hK K
          refine norm_ (a' := ?_) ?_ ?_
          rotate_left
          · show Act.put _ (some 96) _ = _
            simp only [Act.put, sA_, sZ_, sS_, i64_w, i32_w]
            rfl
          refine last_ (i := 6) (N := none) #[I,I,I,I,I,I,I] rfl rfl (by kernel_rfl) (by decide) (fun K hK => ?_)
          refine wg_store_step (by rfl) (by rfl) 53 (.tmp 2) (.tmp 96) rfl (.agg (wgcells (wgopt cur (q : Int) bb) (.slice A' (wgopt cur (q : Int) bb).f13.length c') (.slice A14 n14 c14))) _ g 53 _ (by rfl) (by rfl) (by rfl) (by kernel_rfl) (by rfl) (blk_below (blk_drew HG5.out) hbb1) (by rfl) ?_
          intro w5 h5 hg5
          refine hK.out _ _ ?_
          clear hK K
          refine done_ (by kernel_rfl) ?_
          have HG49 := Lib.hid (blk_grown (blk_below (blk_drew HG45.out) hbb1) hg5 (fun e => hne (Option.some.inj e)))
          have HSN9 := Lib.hid (((HSN5.out.drew).below hbb1).grown hg5 hne2)
          have HB9 := Lib.hid (show Below w.heap.size w w5 from hb1.grown hg5 hb1.size (fun k hk => by cases hk; exact HWG.out))
          have HR9 := Lib.hid (wg_R_store hr1 (blk_below (blk_drew HG5.out) hbb1) (by decide) hg5)
          have HG9 := Lib.hid h5
          have HK1' := Lib.hid hk1
          clear hr1 hb1 hbb1 hk1 h5 hg5
          go_wp2
          go_roundg (gk - 1)
          case measure => have := H2.out; have := HM.out; omega
          case rel =>
            have e1 := HL3.out
            refine ⟨A3, c1 - m, bk.drop m, wgopt cur (q : Int) bb, (q : Int) :: seen, A', c', by rw [e1]; have := HM.out; have := HN2.out; omega, by rw [e1], by rw [e1]; exact hc3, Lib.hid (fun x hx => HBK.out x (List.mem_of_mem_drop hx)), HR3, HG9, HG49, HSN9, HB9, Lib.hid ?_, HR9, Lib.hid ?_, Lib.hid (by rw [e1]; have := HL.out; omega)⟩
            · have h := wgrd_opt cur seen bk (q : Int) m HKD.out HNN.out HZ.out HK0.out HK1.out H2.out HN2.out HNBL.out HOK.out HSNN.out
              rw [Int.toNat_natCast, HBB2.out] at h
              exact h.symm.trans HE.out
            · intro hc5
              rw [List.contains_cons] at hc5
              have hc6 := Bool.or_eq_false_iff.1 hc5
              have hq5 : (q : Int) ≠ 5 := fun e => by rw [e] at hc6; exact absurd hc6.1 (by decide)
              obtain ⟨ha, hc, hf⟩ := HK1'.out hq5
              obtain ⟨ha2, hc2, hf2⟩ := HQ5.out hc6.2
              exact ⟨ha.trans ha2, hc.trans hc2, hf.trans hf2⟩
      by_cases k8 : kd = 8
      · have hkk := k8
        have e2 : (kd == 2) = false := beq_false_of_ne k2
        have e3 : (kd == 3) = false := beq_false_of_ne k3
        have e4 : (kd == 4) = false := beq_false_of_ne k4
        have e5 : (kd == 5) = false := beq_false_of_ne k5
        have e8 : (kd == 8) = true := beq_iff_eq.2 hkk
        have HKN := Lib.hid (show wgknown kd = true from by subst hkk; rfl)
        clear hkk
        clear k8
        go_upto_region 10 with (fail)
        have hkb := HKB.out
        obtain ⟨q, rfl⟩ : ∃ q : Nat, kd = q := ⟨kd.toNat, by omega⟩
        have hq : q < 256 := by omega
        obtain ⟨cs, fs⟩ := HSN.out.cell q hq
        cases hsn : seen.contains (q : Int) with
        | true =>
          rw [hsn] at cs
          simp only [if_true] at cs
          have HSNN := Lib.hid hsn
          clear hsn
          go_wp2_with (first
            | (refine gate_ (.load 53 (.tmp 2)) rfl ?_; refine wpList_load_row rfl 53 (.tmp 2) rfl g rfl 53 _ (0, 0) _ HG.out Try.underlying53 rfl (by kernel_rfl) ?_)
            | (refine gate_ (.store 53 (.tmp 4) (.tmp 87)) rfl ?_; refine wg_store_op rfl rfl 53 (.tmp 4) (.tmp 87) rfl _ _ _ 53 _ rfl rfl rfl (by kernel_rfl) rfl HG4.out rfl ?_; intro w9 h9 hg9))
          try simp only [Exit.inBlock, Exit.then]
          refine bodyPost_ret (results_ct Try.results62 _ _ g4 53 _ (0, 0) _ rfl h9 Try.underlying53 rfl (by kernel_rfl)) rfl ?_
          exact WOpts.bad (HUN.out (fun h => absurd h.2.2.2.2 (by rw [HKN.out, HSNN.out]; decide))) (wr_tail rfl (HGG.out.symm ▸ hge) HB.out hg9) rfl
        | false =>
          have HSNN := Lib.hid (show (wgknown (q : Int) && seen.contains (q : Int)) = false from by rw [hsn, Bool.and_false])
          rw [hsn] at cs
          simp only [Bool.false_eq_true, if_false] at cs
          clear hsn
          go_upto_region 13 with (fail)
          obtain ⟨arr, hsa, _⟩ := HSN.out
          have HR5 := Lib.hid (Kd.R_set HR.out hsa (by decide) q (.int .i64 1))
          have HG5 := Lib.hid (blk_far HG.out (p := ⟨sb, q, none⟩) (Ne.symm hne2) (.int .i64 1))
          have HG45 := Lib.hid (blk_far HG4.out (p := ⟨sb, q, none⟩) hne3 (.int .i64 1))
          have HSN5 := Lib.hid (HSN.out.put q hq)
          have HB5 := Lib.hid (HB.out.setCell (p := ⟨sb, q, none⟩) (Nat.le_trans HWG.out hge2) (.int .i64 1))
          generalize wd.setCell ⟨sb, q, none⟩ (.int .i64 1) = W5 at HR5 HG5 HG45 HSN5 HB5 ⊢
          have h5q : (q : Int) = 5 → A13 = none ∧ c13 = 0 ∧ cur.f13 = [] := fun e => H5.out (by have h := HSNN.out; rw [e] at h; exact h)
          have KO := Lib.hid (fun (W : World) (hB : Below W5.heap.size W5 W) => K.out (q : Int) W HOK.out h5q (below_step HB5.out hB) (Kd.R_below HR5.out hB))
          have HQ5 := Lib.hid (show seen.contains 5 = false → A13 = none ∧ c13 = 0 ∧ cur.f13 = [] from H5.out)
          clear hsa cs fs HSN HG HG4 HB HR h5q
          refine start_ (n := 7) (S := fun w' => w'.heap[g]? = some (.cells (wgcells cur (.slice A13 cur.f13.length c13) (.slice A14 n14 c14)) 53 (0, 0))) (ds := [6]) #[O,O,O,O,O,O,O] (by kernel_rfl) rfl rfl ((blk_drew HG5.out)) (fun hHeld => ?_)
          refine pure_ (i := 1) (N := some 92) (v := ?_) (a' := ?_) #[O,I,O,O,O,O,O] rfl rfl (by kernel_rfl) (fun _ _ _ h => h) (Or.inl ⟨by rfl, ?_⟩) ?_ ?_
          rotate_left
          · intro w'
            go_simp
            with_reducible rfl
          rotate_left
          · simp only [Act.put, sA_, sZ_, sS_, i64_w, i32_w]
            rfl
          refine pure_ (i := 2) (N := some 93) (v := ?_) (a' := ?_) #[O,I,I,O,O,O,O] rfl rfl (by kernel_rfl) (fun _ _ _ h => h) (Or.inl ⟨by rfl, ?_⟩) ?_ ?_
          rotate_left
          · intro w'
            go_simp
            with_reducible rfl
          rotate_left
          · simp only [Act.put, sA_, sZ_, sS_, i64_w, i32_w]
            rfl
          refine pure_ (i := 3) (N := some 94) (v := ?_) (a' := ?_) #[O,I,I,I,O,O,O] rfl rfl (by kernel_rfl) (fun _ _ _ h => h) (Or.inl ⟨by rfl, ?_⟩) ?_ ?_
          rotate_left
          · intro w'
            go_simp
            with_reducible rfl
          rotate_left
          · simp only [Act.put, sA_, sZ_, sS_, i64_w, i32_w]
            rfl
          refine pure_ (i := 4) (N := some 95) (v := ?_) (a' := ?_) #[O,I,I,I,I,O,O] rfl rfl (by kernel_rfl) (fun _ _ _ h => h) (Or.inl ⟨by rfl, ?_⟩) ?_ ?_
          rotate_left
          · intro w'
            go_simp
            with_reducible rfl
          rotate_left
          · simp only [Act.put, sA_, sZ_, sS_, i64_w, i32_w]
            rfl
          refine take_ (i := 0) (N := some 91) (v := .agg (wgcells cur (.slice A13 cur.f13.length c13) (.slice A14 n14 c14))) (a' := ?_) #[I,I,I,I,I,O,O] rfl rfl (by kernel_rfl) (fun _ _ _ h => h) (wb_take (by rfl) (.tmp 2) rfl g rfl cur _ _ (fun w' h => h)) hHeld ?_ ?_
          rotate_left
          · simp only [Act.put, sA_, sZ_, sS_, i64_w, i32_w]
            rfl
          refine one_ (i := 5) (N := some 96) #[I,I,I,I,I,I,O] rfl rfl (by kernel_rfl) (by decide) (fun K hK => ?_)
          refine goes_ Try.func91 (by kernel_rfl) rfl #[.agg (wgcells cur (.slice A13 cur.f13.length c13) (.slice A14 n14 c14)), .int .u8 (q : Int), .slice A2 (m - 2) (c1 - 2)] (by rfl) rfl rfl (by simp only [List.map_toArray, List.map_cons, List.map_nil]; rfl) ?_
          with_reducible refine (KO.out _ (by exact below_drew1 (Below.refl W5.heap.size W5))).mono ?_
          rintro e u1 ⟨A', c', rfl, hr1, hb1, hbb1, hk1⟩
          refine ⟨_, rfl, ?_⟩
          refine hK.out _ _ ((blk_below (blk_drew HG5.out) hbb1)) (fun hHeld => ?_)
          clear hK K
          refine norm_ (a' := ?_) ?_ ?_
          rotate_left
          · show Act.put _ (some 96) _ = _
            simp only [Act.put, sA_, sZ_, sS_, i64_w, i32_w]
            rfl
          refine last_ (i := 6) (N := none) #[I,I,I,I,I,I,I] rfl rfl (by kernel_rfl) (by decide) (fun K hK => ?_)
          refine wg_store_step (by rfl) (by rfl) 53 (.tmp 2) (.tmp 96) rfl (.agg (wgcells (wgopt cur (q : Int) bb) (.slice A' (wgopt cur (q : Int) bb).f13.length c') (.slice A14 n14 c14))) _ g 53 _ (by rfl) (by rfl) (by rfl) (by kernel_rfl) (by rfl) (blk_below (blk_drew HG5.out) hbb1) (by rfl) ?_
          intro w5 h5 hg5
          refine hK.out _ _ ?_
          clear hK K
          refine done_ (by kernel_rfl) ?_
          have HG49 := Lib.hid (blk_grown (blk_below (blk_drew HG45.out) hbb1) hg5 (fun e => hne (Option.some.inj e)))
          have HSN9 := Lib.hid (((HSN5.out.drew).below hbb1).grown hg5 hne2)
          have HB9 := Lib.hid (show Below w.heap.size w w5 from hb1.grown hg5 hb1.size (fun k hk => by cases hk; exact HWG.out))
          have HR9 := Lib.hid (wg_R_store hr1 (blk_below (blk_drew HG5.out) hbb1) (by decide) hg5)
          have HG9 := Lib.hid h5
          have HK1' := Lib.hid hk1
          clear hr1 hb1 hbb1 hk1 h5 hg5
          go_wp2
          go_roundg (gk - 1)
          case measure => have := H2.out; have := HM.out; omega
          case rel =>
            have e1 := HL3.out
            refine ⟨A3, c1 - m, bk.drop m, wgopt cur (q : Int) bb, (q : Int) :: seen, A', c', by rw [e1]; have := HM.out; have := HN2.out; omega, by rw [e1], by rw [e1]; exact hc3, Lib.hid (fun x hx => HBK.out x (List.mem_of_mem_drop hx)), HR3, HG9, HG49, HSN9, HB9, Lib.hid ?_, HR9, Lib.hid ?_, Lib.hid (by rw [e1]; have := HL.out; omega)⟩
            · have h := wgrd_opt cur seen bk (q : Int) m HKD.out HNN.out HZ.out HK0.out HK1.out H2.out HN2.out HNBL.out HOK.out HSNN.out
              rw [Int.toNat_natCast, HBB2.out] at h
              exact h.symm.trans HE.out
            · intro hc5
              rw [List.contains_cons] at hc5
              have hc6 := Bool.or_eq_false_iff.1 hc5
              have hq5 : (q : Int) ≠ 5 := fun e => by rw [e] at hc6; exact absurd hc6.1 (by decide)
              obtain ⟨ha, hc, hf⟩ := HK1'.out hq5
              obtain ⟨ha2, hc2, hf2⟩ := HQ5.out hc6.2
              exact ⟨ha.trans ha2, hc.trans hc2, hf.trans hf2⟩
      have e2 : (kd == 2) = false := beq_false_of_ne k2
      have e3 : (kd == 3) = false := beq_false_of_ne k3
      have e4 : (kd == 4) = false := beq_false_of_ne k4
      have e5 : (kd == 5) = false := beq_false_of_ne k5
      have e8 : (kd == 8) = false := beq_false_of_ne k8
      have HKN := Lib.hid (show wgknown kd = false from by unfold wgknown; rw [e2, e3, e4, e8, e5]; rfl)
      go_upto_region 10 with (fail)
      have hkb := HKB.out
      obtain ⟨q, rfl⟩ : ∃ q : Nat, kd = q := ⟨kd.toNat, by omega⟩
      have hq : q < 256 := by omega
      obtain ⟨cs, fs⟩ := HSN.out.cell q hq
      have HSNN := Lib.hid (show (wgknown (q : Int) && seen.contains (q : Int)) = false from by rw [HKN.out, Bool.false_and])
      obtain ⟨sv, hsv⟩ : ∃ sv : Int, (if seen.contains (q : Int) then (1 : Int) else 0) = sv := ⟨_, rfl⟩
      rw [hsv] at cs
      clear hsv
      go_upto_region 13 with (fail)
      obtain ⟨arr, hsa, _⟩ := HSN.out
      have HR5 := Lib.hid (Kd.R_set HR.out hsa (by decide) q (.int .i64 1))
      have HG5 := Lib.hid (blk_far HG.out (p := ⟨sb, q, none⟩) (Ne.symm hne2) (.int .i64 1))
      have HG45 := Lib.hid (blk_far HG4.out (p := ⟨sb, q, none⟩) hne3 (.int .i64 1))
      have HSN5 := Lib.hid (HSN.out.put q hq)
      have HB5 := Lib.hid (HB.out.setCell (p := ⟨sb, q, none⟩) (Nat.le_trans HWG.out hge2) (.int .i64 1))
      generalize wd.setCell ⟨sb, q, none⟩ (.int .i64 1) = W5 at HR5 HG5 HG45 HSN5 HB5 ⊢
      have h5q : (q : Int) = 5 → A13 = none ∧ c13 = 0 ∧ cur.f13 = [] := fun e => H5.out (by have h := HSNN.out; rw [e] at h; exact h)
      have KO := Lib.hid (fun (W : World) (hB : Below W5.heap.size W5 W) => K.out (q : Int) W HOK.out h5q (below_step HB5.out hB) (Kd.R_below HR5.out hB))
      have HQ5 := Lib.hid (show seen.contains 5 = false → A13 = none ∧ c13 = 0 ∧ cur.f13 = [] from H5.out)
      clear hsa cs fs HSN HG HG4 HB HR h5q
      refine start_ (n := 7) (S := fun w' => w'.heap[g]? = some (.cells (wgcells cur (.slice A13 cur.f13.length c13) (.slice A14 n14 c14)) 53 (0, 0))) (ds := [6]) #[O,O,O,O,O,O,O] (by kernel_rfl) rfl rfl ((blk_drew HG5.out)) (fun hHeld => ?_)
      refine pure_ (i := 1) (N := some 92) (v := ?_) (a' := ?_) #[O,I,O,O,O,O,O] rfl rfl (by kernel_rfl) (fun _ _ _ h => h) (Or.inl ⟨by rfl, ?_⟩) ?_ ?_
      rotate_left
      · intro w'
        go_simp
        with_reducible rfl
      rotate_left
      · simp only [Act.put, sA_, sZ_, sS_, i64_w, i32_w]
        rfl
      refine pure_ (i := 2) (N := some 93) (v := ?_) (a' := ?_) #[O,I,I,O,O,O,O] rfl rfl (by kernel_rfl) (fun _ _ _ h => h) (Or.inl ⟨by rfl, ?_⟩) ?_ ?_
      rotate_left
      · intro w'
        go_simp
        with_reducible rfl
      rotate_left
      · simp only [Act.put, sA_, sZ_, sS_, i64_w, i32_w]
        rfl
      refine pure_ (i := 3) (N := some 94) (v := ?_) (a' := ?_) #[O,I,I,I,O,O,O] rfl rfl (by kernel_rfl) (fun _ _ _ h => h) (Or.inl ⟨by rfl, ?_⟩) ?_ ?_
      rotate_left
      · intro w'
        go_simp
        with_reducible rfl
      rotate_left
      · simp only [Act.put, sA_, sZ_, sS_, i64_w, i32_w]
        rfl
      refine pure_ (i := 4) (N := some 95) (v := ?_) (a' := ?_) #[O,I,I,I,I,O,O] rfl rfl (by kernel_rfl) (fun _ _ _ h => h) (Or.inl ⟨by rfl, ?_⟩) ?_ ?_
      rotate_left
      · intro w'
        go_simp
        with_reducible rfl
      rotate_left
      · simp only [Act.put, sA_, sZ_, sS_, i64_w, i32_w]
        rfl
      refine take_ (i := 0) (N := some 91) (v := .agg (wgcells cur (.slice A13 cur.f13.length c13) (.slice A14 n14 c14))) (a' := ?_) #[I,I,I,I,I,O,O] rfl rfl (by kernel_rfl) (fun _ _ _ h => h) (wb_take (by rfl) (.tmp 2) rfl g rfl cur _ _ (fun w' h => h)) hHeld ?_ ?_
      rotate_left
      · simp only [Act.put, sA_, sZ_, sS_, i64_w, i32_w]
        rfl
      refine one_ (i := 5) (N := some 96) #[I,I,I,I,I,I,O] rfl rfl (by kernel_rfl) (by decide) (fun K hK => ?_)
      refine goes_ Try.func91 (by kernel_rfl) rfl #[.agg (wgcells cur (.slice A13 cur.f13.length c13) (.slice A14 n14 c14)), .int .u8 (q : Int), .slice A2 (m - 2) (c1 - 2)] (by rfl) rfl rfl (by simp only [List.map_toArray, List.map_cons, List.map_nil]; rfl) ?_
      with_reducible refine (KO.out _ (by exact below_drew1 (Below.refl W5.heap.size W5))).mono ?_
      rintro e u1 ⟨A', c', rfl, hr1, hb1, hbb1, hk1⟩
      refine ⟨_, rfl, ?_⟩
      refine hK.out _ _ ((blk_below (blk_drew HG5.out) hbb1)) (fun hHeld => ?_)
      clear hK K
      refine norm_ (a' := ?_) ?_ ?_
      rotate_left
      · show Act.put _ (some 96) _ = _
        simp only [Act.put, sA_, sZ_, sS_, i64_w, i32_w]
        rfl
      refine last_ (i := 6) (N := none) #[I,I,I,I,I,I,I] rfl rfl (by kernel_rfl) (by decide) (fun K hK => ?_)
      refine wg_store_step (by rfl) (by rfl) 53 (.tmp 2) (.tmp 96) rfl (.agg (wgcells (wgopt cur (q : Int) bb) (.slice A' (wgopt cur (q : Int) bb).f13.length c') (.slice A14 n14 c14))) _ g 53 _ (by rfl) (by rfl) (by rfl) (by kernel_rfl) (by rfl) (blk_below (blk_drew HG5.out) hbb1) (by rfl) ?_
      intro w5 h5 hg5
      refine hK.out _ _ ?_
      clear hK K
      refine done_ (by kernel_rfl) ?_
      have HG49 := Lib.hid (blk_grown (blk_below (blk_drew HG45.out) hbb1) hg5 (fun e => hne (Option.some.inj e)))
      have HSN9 := Lib.hid (((HSN5.out.drew).below hbb1).grown hg5 hne2)
      have HB9 := Lib.hid (show Below w.heap.size w w5 from hb1.grown hg5 hb1.size (fun k hk => by cases hk; exact HWG.out))
      have HR9 := Lib.hid (wg_R_store hr1 (blk_below (blk_drew HG5.out) hbb1) (by decide) hg5)
      have HG9 := Lib.hid h5
      have HK1' := Lib.hid hk1
      clear hr1 hb1 hbb1 hk1 h5 hg5
      go_wp2
      go_roundg (gk - 1)
      case measure => have := H2.out; have := HM.out; omega
      case rel =>
        have e1 := HL3.out
        refine ⟨A3, c1 - m, bk.drop m, wgopt cur (q : Int) bb, (q : Int) :: seen, A', c', by rw [e1]; have := HM.out; have := HN2.out; omega, by rw [e1], by rw [e1]; exact hc3, Lib.hid (fun x hx => HBK.out x (List.mem_of_mem_drop hx)), HR3, HG9, HG49, HSN9, HB9, Lib.hid ?_, HR9, Lib.hid ?_, Lib.hid (by rw [e1]; have := HL.out; omega)⟩
        · have h := wgrd_opt cur seen bk (q : Int) m HKD.out HNN.out HZ.out HK0.out HK1.out H2.out HN2.out HNBL.out HOK.out HSNN.out
          rw [Int.toNat_natCast, HBB2.out] at h
          exact h.symm.trans HE.out
        · intro hc5
          rw [List.contains_cons] at hc5
          have hc6 := Bool.or_eq_false_iff.1 hc5
          have hq5 : (q : Int) ≠ 5 := fun e => by rw [e] at hc6; exact absurd hc6.1 (by decide)
          obtain ⟨ha, hc, hf⟩ := HK1'.out hq5
          obtain ⟨ha2, hc2, hf2⟩ := HQ5.out hc6.2
          exact ⟨ha.trans ha2, hc.trans hc2, hf.trans hf2⟩
end Go.Proofs.Ytflmfbcapccdeaa.WireG

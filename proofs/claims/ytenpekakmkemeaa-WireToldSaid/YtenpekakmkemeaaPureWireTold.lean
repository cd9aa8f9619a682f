/- A turned bit of a segment is told: of every right segment and of each bit. -/
import Derived.Test.YtenpekakmkemeaaWireLaw
import Derived.Test.YtenpekakmkemeaaWireHeads
import Derived.Test.YtenpekakmkemeaaRow8
set_option linter.unusedVariables false
set_option linter.unusedSimpArgs false
set_option autoImplicit false
namespace Go.Proofs.Ytenpekakmkemeaa.Pure
open Go.RowKit Go.Proofs.Ytenpekakmkemeaa.PA Go.Proofs.YtenpekakmkemeaaW.PrintWords Go.Proofs.YtenpekakmkemeaaW.PrintLast Go.Proofs.YtenpekakmkemeaaW.PrintMore Go.Proofs.Ytenpekakmkemeaa.WireG Go.Proofs.Ytenpekakmkemeaa.Row8 Go.Proofs.Ytenpekakmkemeaa.SumPlain
set_option maxRecDepth 100000 in
set_option maxHeartbeats 16000000 in
theorem told_bad (s : SG) (A13 : Option Addr) (c13 : Nat) (A14 : Option Addr) (c14 : Nat) (bit : Int) (w : World) (hS : SegC w s A13 c13 A14 c14) (hk : chk s = false) :
    Calls Try.prog 6 #[SEG s A13 c13 A14 c14, .int .i64 bit] w fun e w' => e = .returned (.bool true) ∧ Below w.heap.size w w' := by
  have HS := Lib.hid hS; have HK := Lib.hid hk; clear hS hk
  go_enter Try.func6, Try.ntmps6
  go_upto_region 1 with (fail)
  obtain ⟨g, hg⟩ : ∃ g, w.heap.size = g := ⟨_, rfl⟩
  have HG := Lib.hid (show (w.alloc (.cells (wgcells s (.slice A13 s.f13.length c13) (.slice A14 s.f14.length c14)) 26)).heap[g]? = some (.cells (wgcells s (.slice A13 s.f13.length c13) (.slice A14 s.f14.length c14)) 26 (0, 0)) from by rw [← hg]; exact blk_new w _)
  have HB1 := Lib.hid (show Below w.heap.size w (w.alloc (.cells (wgcells s (.slice A13 s.f13.length c13) (.slice A14 s.f14.length c14)) 26)) from (Below.refl _ w).alloc (Nat.le_refl _) _)
  rw [hg]
  clear hg
  generalize w.alloc (.cells (wgcells s (.slice A13 s.f13.length c13) (.slice A14 s.f14.length c14)) 26) = W1 at HG HB1 ⊢
  go_wp2_with (first
    | (refine gate_ (.load 26 (.tmp 2)) rfl ?_; refine wpList_load_row rfl 26 (.tmp 2) rfl g rfl 26 _ (0, 0) _ HG.out Try.underlying26 rfl (by kernel_rfl) ?_)
    | (go_at_call 15; refine (wp_bad s A13 c13 A14 c14 1 2 W1 (HS.out.below HB1.out).h13 (HS.out.below HB1.out).l13 (HS.out.below HB1.out).h14 (HS.out.below HB1.out).l14 HK.out).mono ?_; rintro e w2 ⟨rfl, hb2⟩; have HB2 := Lib.hid (below_step HB1.out hb2); clear hb2)
    | (go_at_call 11; refine (wl_heads w2).mono ?_; rintro e w3 ⟨rfl, hb3⟩))
  go_ret
  exact ⟨rfl, below_step HB2.out hb3⟩
set_option maxRecDepth 100000 in
set_option maxHeartbeats 16000000 in
theorem told_ok (s : SG) (A13 : Option Addr) (c13 : Nat) (A14 : Option Addr) (c14 : Nat) (bit c : Int) (w : World) (hS : SegC w s A13 c13 A14 c14) (hk : chk s = true)
    (hc : sum_Sum.f [pseu 1 2 ((putB s).length : Int), putB s] = some c) (hl : 20 ≤ (putF c s).length) (hl2 : (putF c s).length ≤ 140737488351240)
    (hf : ∀ i j : Nat, i < (putF c s).length → j < 8 → byts ((putF c s).set i (bits .xor .u8 ((putF c s).getD i 0) (2 ^ j % 256))) ∧ sum_Valid.f [four8 1 ++ four8 2 ++ [0, 6, ((((putF c s).set i (bits .xor .u8 ((putF c s).getD i 0) (2 ^ j % 256))).length : Int) / 256) % 256, (((putF c s).set i (bits .xor .u8 ((putF c s).getD i 0) (2 ^ j % 256))).length : Int) % 256], (putF c s).set i (bits .xor .u8 ((putF c s).getD i 0) (2 ^ j % 256))] = some false) :
    Calls Try.prog 6 #[SEG s A13 c13 A14 c14, .int .i64 bit] w fun e w' => e = .returned (.bool true) ∧ Below w.heap.size w w' := by
  have HS := Lib.hid hS; have HK := Lib.hid hk; have HSM := Lib.hid hc; clear hS hk hc
  obtain ⟨B, hB⟩ : ∃ B, putF c s = B := ⟨_, rfl⟩
  have hput : ∀ W : World, SegC W s A13 c13 A14 c14 → Calls Try.prog 15 #[.agg (wgcells s (.slice A13 s.f13.length c13) (.slice A14 s.f14.length c14)), .int .u32 1, .int .u32 2] W fun e w' => WPut W B e w' := fun W h => hB ▸ wp_ok s A13 c13 A14 c14 1 2 c W h.h13 h.l13 h.h14 h.l14 HK.out HSM.out
  rw [hB] at hl hl2 hf
  have HPUT := Lib.hid hput; have HF := Lib.hid hf; have HL := Lib.hid hl; have HL2 := Lib.hid hl2
  clear hput hf hB HSM HK hl hl2
  go_enter Try.func6, Try.ntmps6
  go_upto_region 1 with (fail)
  obtain ⟨g, hg⟩ : ∃ g, w.heap.size = g := ⟨_, rfl⟩
  have HG := Lib.hid (show (w.alloc (.cells (wgcells s (.slice A13 s.f13.length c13) (.slice A14 s.f14.length c14)) 26)).heap[g]? = some (.cells (wgcells s (.slice A13 s.f13.length c13) (.slice A14 s.f14.length c14)) 26 (0, 0)) from by rw [← hg]; exact blk_new w _)
  have HB1 := Lib.hid (show Below w.heap.size w (w.alloc (.cells (wgcells s (.slice A13 s.f13.length c13) (.slice A14 s.f14.length c14)) 26)) from (Below.refl _ w).alloc (Nat.le_refl _) _)
  rw [hg]
  clear hg
  generalize w.alloc (.cells (wgcells s (.slice A13 s.f13.length c13) (.slice A14 s.f14.length c14)) 26) = W1 at HG HB1 ⊢
  go_upto_region 2 with (first
    | (refine gate_ (.load 26 (.tmp 2)) rfl ?_; refine wpList_load_row rfl 26 (.tmp 2) rfl g rfl 26 _ (0, 0) _ HG.out Try.underlying26 rfl (by kernel_rfl) ?_)
    | (go_at_call 15; refine (HPUT.out W1 (HS.out.below HB1.out)).mono ?_; rintro e w2 ⟨hb2, gb, capb, rfl, hR2⟩; have HB2 := Lib.hid (below_step HB1.out hb2); have HR2 := Lib.hid hR2; clear hb2 hR2))
  have hl := HL.out
  have hl2 := HL2.out
  have c0 : ((B.length : Int) == 0) = false := by simp only [beq_eq_false_iff_ne, ne_eq]; omega
  obtain ⟨kk, i, j, hkk, hki, hkj, hi, hj⟩ := bitplace B.length bit (by omega) (by omega)
  have w8 : wrap64 (8 * (B.length : Int)) = 8 * (B.length : Int) := by unfold wrap64; omega
  have u8 : IntKind.u64.wrap (8 * (B.length : Int)) = 8 * (B.length : Int) := by rw [show IntKind.u64.wrap (8 * (B.length : Int)) = (8 * (B.length : Int)) % 18446744073709551616 by simp [IntKind.wrap, IntKind.bits, IntKind.signed]]; omega
  have z8 : ((8 * (B.length : Int)) == 0) = false := by simp only [beq_eq_false_iff_ne, ne_eq]; omega
  go_wp2_with (at_builtin; refine hold_of ?_)
  refine hold_mk ?_
  refine Kd.R_append_rows B8 (Rr := fun x cs => cs = [.int .u8 x]) (w0 := w) w.heap.size rfl (.tmp 35) (.tmp 36) 22 5 (.int .u8 0) 1 rfl Try.underlying22 info5 rfl (by decide) (by decide) _ [] B _ _ _ (fun _ => True) (fun _ => False) rfl rfl (own_empty w2 _ HB2.out.size) (Kd.C_below (Kd.R_reads' HR2.out).2.2 ((Below.refl _ w2).alloc (Nat.le_refl _) _)) (fun _ _ e => e) (fun _ e => e.elim) (fun _ _ => trivial) (below_alloc HB2.out _) (by have h_ := HB2.out.size; simp; omega) (by simp; omega) ?_
  intro v3 w3 hR3 hB3 _ _
  simp only [List.nil_append] at hR3
  obtain ⟨gc, cap, rfl, hrow⟩ := Row8.of_R hR3 (by omega)
  have HR3 := Lib.hid hrow
  have HB3 := Lib.hid hB3
  have HLE3 := Lib.hid hrow.2.1
  have hgb := hrow.1
  have hrf := HF.out i j hi hj
  obtain ⟨c30, c31⟩ := hrow.cell i hi
  obtain ⟨y, hy⟩ : ∃ y, B.getD i 0 = y := ⟨_, rfl⟩
  rw [hy] at hrf c30
  have hR4 := hrow.set i hi (bits .xor .u8 y (2 ^ j % 256))
  have q4 := hB3.setCell (p := ⟨gc, i, none⟩) hgb (.int .u8 (bits .xor .u8 y (2 ^ j % 256)))
  obtain ⟨M, hM⟩ : ∃ M, B.set i (bits .xor .u8 y (2 ^ j % 256)) = M := ⟨_, rfl⟩
  have hLM : M.length = B.length := by rw [← hM, List.length_set]
  rw [hM] at hrf hR4
  obtain ⟨hbM, hvM⟩ := hrf
  have hgm := get_bad M
  obtain ⟨r, hr⟩ : ∃ r, wgget false M = r := ⟨_, rfl⟩
  rw [hr] at hgm
  obtain ⟨r1, r2⟩ := r
  obtain ⟨hr1, hr2⟩ := hgm
  dsimp only at hr1 hr2
  subst hr1
  have hget : ∀ W : World, Kd.C B8 W (some ⟨gc, 0, none⟩) M.length M → Calls Try.prog 8 #[.slice (some ⟨gc, 0, none⟩) M.length cap, .int .u32 1, .int .u32 2] W fun e w' => WGot W (z26, r2) e w' := fun W hC => hr ▸ wg_Get _ cap M 1 2 false W hC (by rw [hLM]; exact HLE3.out) hbM hvM
  rw [hLM] at hget
  have HGET := Lib.hid hget
  have hC4 := hR4.C
  rw [hLM] at hC4
  have HC4 := Lib.hid hC4
  have HQ4 := Lib.hid q4
  have d0 : (wgno r2 == 0) = false := beq_eq_false_iff_ne.2 hr2
  have d1 : (wgno r2 != 0) = true := by rw [bne, d0]; rfl
  obtain ⟨q, hq⟩ : ∃ q, wgno r2 = q := ⟨_, rfl⟩
  have HQQ := Lib.hid hq
  rw [hq] at d0 d1
  clear hy hrow hR3 hB3 hM hLM hbM hvM hr hr2 hget hC4 hR4 q4 hq HR3 HF HPUT HG
  go_upto_region 10 with (first
    | (go_at_call 8; refine (HGET.out _ HC4.out).mono ?_; rintro e w5a ⟨hb, v13, v14, rfl, r13, r14⟩; rw [HQQ.out]; obtain ⟨A13_5, c13_5, e13⟩ := Kd.R_slice r13; obtain ⟨A14_5, c14_5, e14⟩ := Kd.R_slice r14; subst e13; subst e14; have HB5a := Lib.hid (below_step HQ4.out hb); have HZ5a := Lib.hid (SegC.of r13 r14); clear hb r13 r14)
    | (refine gate_ (.store 26 (.tmp 9) (.tmp 52)) rfl ?_; refine wg_store_op rfl rfl 26 (.tmp 9) (.tmp 52) rfl _ _ _ 26 _ rfl rfl rfl (by kernel_rfl) rfl (blk_new w5a _) rfl ?_; intro w5 h5 hg5))
  obtain ⟨hb, hbk, hx⟩ := wl_laid HB5a.out (Below.size HB5a.out) rfl h5 hg5 HZ5a.out
  have HB5 := Lib.hid hb; have HX5 := Lib.hid hx
  obtain ⟨g5, hg5n⟩ : ∃ g5, w5a.heap.size = g5 := ⟨_, rfl⟩
  rw [hg5n] at h5 ⊢
  have HY5 := Lib.hid h5
  clear h5 hg5 hb hbk hx hg5n
  go_wp2_with (first
    | (refine gate_ (.load 26 (.tmp 9)) rfl ?_; refine wl_load (by rfl) (.tmp 9) rfl g5 rfl _ _ _ HY5.out ?_)
    | (go_at_call 10; refine (wl_same z26 (by decide) _ _ _ _ none 0 none 0 w5 HX5.out ⟨Kd.C_nil _ _, Nat.le_refl _, Kd.C_nil _ _, Nat.le_refl _⟩).mono ?_; rintro e w6 ⟨rfl, hb6⟩; have HB6 := Lib.hid (below_step HB5.out hb6); clear hb6)
    | (go_at_call 11; refine (wl_heads w6).mono ?_; rintro e w7 ⟨rfl, hb7⟩))
  go_ret
  exact ⟨rfl, below_step HB6.out hb7⟩
theorem told (s : SG) (A13 : Option Addr) (c13 : Nat) (A14 : Option Addr) (c14 : Nat) (bit : Int) (w : World) (hS : SegC w s A13 c13 A14 c14) (hw : WfS s) :
    Calls Try.prog 6 #[SEG s A13 c13 A14 c14, .int .i64 bit] w fun e w' => e = .returned (.bool true) ∧ Below w.heap.size w w' := by
  cases hk : chk s with
  | false => exact told_bad s A13 c13 A14 c14 bit w hS hk
  | true =>
    obtain ⟨c, hc, hv, hb, hl, _⟩ := put_all s hw hk 1 2
    obtain ⟨_, _, _, _, _, _, _, _, bd, _, bo⟩ := chk_bd hk
    exact told_ok s A13 c13 A14 c14 bit c w hS hk hc (by omega) (by omega) fun i j hi hj => put_flip s hw hk 1 2 c i j hi hj hb hv
/-- The law, walked. -/
theorem WireTold_calls (x0 x1 x2 x3 x4 x5 x6 x7 x8 : Int) (x9 x10 : Bool) (x11 x12 : Int) (A13 : Option Addr) (c13 : Nat) (x13 : List SB) (A14 : Option Addr) (c14 : Nat) (x14 : List Int) (bit : Int) (w : World)
    (h13 : Kd.C k56 w A13 x13.length x13) (l13 : x13.length ≤ c13) (h14 : Kd.C B8 w A14 x14.length x14) (l14 : x14.length ≤ c14) (w0 : WfRow ⟨x0, x1, x2, x3, x4, x5, x6, x7, x8, x9, x10, x11, x12, x13, x14⟩) (w1 : (Lit.int .i64 bit).wf = true) :
    Calls Try.prog 6 #[.agg #[.int .i64 x0, .int .i64 x1, .int .u32 x2, .int .u32 x3, .int .i64 x4, .int .i64 x5, .int .i64 x6, .int .i64 x7, .int .i64 x8, .bool x9, .bool x10, .int .u32 x11, .int .u32 x12, .slice A13 x13.length c13, .slice A14 x14.length c14], .int .i64 bit] w fun e w' => e = .returned (.bool true) ∧ Below w.heap.size w w' :=
  told ⟨x0, x1, x2, x3, x4, x5, x6, x7, x8, x9, x10, x11, x12, x13, x14⟩ A13 c13 A14 c14 bit w ⟨h13, l13, h14, l14⟩ (wfs_of w0)
end Go.Proofs.Ytenpekakmkemeaa.Pure

/- What is read may be written, and is read again as it was: of all bytes, the checksum put right. -/
import Derived.Test.YtenpekakmkemeaaWireSum2
import Derived.Test.YtenpekakmkemeaaWirePlain2
import Derived.Test.YtenpekakmkemeaaWireHeads
import Derived.Test.YtenpekakmkemeaaRow8
set_option linter.unusedVariables false
set_option linter.unusedSimpArgs false
set_option autoImplicit false
namespace Go.Proofs.Ytenpekakmkemeaa.Pure
open Go.RowKit Go.Proofs.Ytenpekakmkemeaa.PA Go.Proofs.YtenpekakmkemeaaW.PrintWords Go.Proofs.YtenpekakmkemeaaW.PrintLast Go.Proofs.YtenpekakmkemeaaW.PrintMore Go.Proofs.Ytenpekakmkemeaa.WireG Go.Proofs.Ytenpekakmkemeaa.Row8 Go.Proofs.Ytenpekakmkemeaa.SumPlain Go.Proofs.Ytenpekakmkemeaa.WireSum
set_option maxRecDepth 100000 in
set_option maxHeartbeats 16000000 in
theorem again_out (A : Option Addr) (c : Nat) (b : List Int) (w : World) (h : b.length < 20 ∨ 70000 < b.length) (hm : b.length ≤ 9223372036854775807) :
    Calls Try.prog 7 #[.slice A b.length c] w fun e w' => e = .returned (.bool true) ∧ Below w.heap.size w w' := by
  by_cases h1 : b.length < 20
  · have k1 : decide ((b.length : Int) < 20) = true := decide_eq_true (by omega)
    clear h hm h1
    go_enter Try.func7, Try.ntmps7
    go_wp2_with (go_at_call 11; refine (wl_heads w).mono ?_; rintro e w3 ⟨rfl, hb3⟩)
    go_ret
    exact ⟨rfl, hb3⟩
  · have k1 : decide ((b.length : Int) < 20) = false := decide_eq_false (by omega)
    have k2 : decide ((70000 : Int) < (b.length : Int)) = true := decide_eq_true (by omega)
    clear h hm h1
    go_enter Try.func7, Try.ntmps7
    go_wp2_with (go_at_call 11; refine (wl_heads w).mono ?_; rintro e w3 ⟨rfl, hb3⟩)
    go_ret
    exact ⟨rfl, hb3⟩
set_option maxRecDepth 100000 in
set_option maxHeartbeats 16000000 in
theorem again_in (A : Option Addr) (c : Nat) (b : List Int) (w : World) (hC : Kd.C B8 w A b.length b) (h20 : 20 ≤ b.length) (h7 : b.length ≤ 70000) (hb : byts b) :
    Calls Try.prog 7 #[.slice A b.length c] w fun e w' => e = .returned (.bool true) ∧ Below w.heap.size w w' := by
  have HC := Lib.hid hC
  have k1 : decide ((b.length : Int) < 20) = false := decide_eq_false (by omega)
  have k2 : decide ((70000 : Int) < (b.length : Int)) = false := decide_eq_false (by omega)
  obtain ⟨hsum, hby, ⟨hs0, hs1⟩, hval⟩ := right_all 1 2 b hb h20 h7 70013 (by omega)
  have hps := refPseudo 1 2 (b.length : Int) 0 (by omega) (by omega)
  have HPS := Lib.hid hps; have HSUM := Lib.hid hsum; have HBY := Lib.hid hby; have HVAL := Lib.hid hval; have H20 := Lib.hid h20; have H7 := Lib.hid h7
  clear hC hb hsum hby hval hps h20 h7
  go_enter Try.func7, Try.ntmps7
  go_wp2_with (at_builtin; refine hold_of ?_)
  refine hold_mk ?_
  refine Kd.R_append_rows B8 (Rr := fun x cs => cs = [.int .u8 x]) (w0 := w) w.heap.size rfl (.tmp 20) (.tmp 21) 22 5 (.int .u8 0) 1 rfl Try.underlying22 info5 rfl (by decide) (by decide) _ [] b _ _ _ (fun _ => True) (fun _ => False) rfl rfl (own_empty w _ (Nat.le_refl _)) (Kd.C_below HC.out ((Below.refl _ w).alloc (Nat.le_refl _) _)) (fun _ _ e => e) (fun _ e => e.elim) (fun _ _ => trivial) (below_alloc (Below.refl _ _) _) (by simp) (by have := H7.out; simp; omega) ?_
  intro v1 w1 hR1 hB1 _ _
  simp only [List.nil_append] at hR1
  obtain ⟨g, cap, rfl, hrow⟩ := Row8.of_R hR1 (by have := H20.out; omega)
  have hgb := hrow.1
  have h20 := H20.out
  obtain ⟨c00, c01⟩ := hrow.cell 16 (by omega)
  have hrow2 := hrow.set 16 (by omega) 0
  obtain ⟨c10, c11⟩ := hrow2.cell 17 (by rw [List.length_set]; omega)
  have hrow3 := hrow2.set 17 (by rw [List.length_set]; omega) 0
  have hB3 := (hB1.setCell (p := ⟨g, 16, none⟩) hgb (.int .u8 0)).setCell (p := ⟨g, 17, none⟩) hgb (.int .u8 0)
  have HR3 := Lib.hid hrow3; have HB3 := Lib.hid hB3
  clear hR1 hB1 hrow hrow2 hrow3 hB3
  go_upto_region 5 with (fail)
  generalize ((w1.setCell ⟨g, 16, none⟩ (.int .u8 0)).setCell ⟨g, 17, none⟩ (.int .u8 0)) = W4 at HR3 HB3 ⊢
  clear c00 c01 c10 c11
  obtain ⟨C0, hC0⟩ : ∃ C0, (b.set 16 0).set 17 0 = C0 := ⟨_, rfl⟩
  obtain ⟨rs, hrs⟩ : ∃ rs, rightS 1 2 b = rs := ⟨_, rfl⟩
  have hl0 : C0.length = b.length := by rw [← hC0]; simp only [List.length_set]
  have hrb : rightB 1 2 b = (C0.set 16 (rs / 256 % 256)).set 17 (rs % 256) := by unfold rightB; rw [hrs, hC0]
  clear hs0 hs1
  rw [hrs] at HSUM
  rw [hC0] at HR3 HSUM
  have HRB := Lib.hid hrb; have HL0 := Lib.hid hl0
  have hCC := HR3.out.C
  rw [hl0] at hCC
  have HCC := Lib.hid hCC
  clear hC0 hrs hrb hCC
  go_wp2_with (first
    | (go_at_call 13; refine (tidewayref02_Pseudo.calls _ 1 2 (b.length : Int) _ W4 HPS.out).mono ?_; rintro e w5 ⟨vp, rfl, hrp, hb5⟩; have HRP := Lib.hid hrp; have HB5 := Lib.hid hb5; clear hrp hb5)
    | (at_builtin; refine hold_of ?_))
  refine hold_mk ?_
  refine Kd.R_append_rows B8 (Rr := fun x cs => cs = [.int .u8 x]) (w0 := W4) W4.heap.size rfl (.tmp 29) (.tmp 30) 22 5 (.int .u8 0) 1 rfl Try.underlying22 info5 rfl (by decide) (by decide) vp (pseu 1 2 (b.length : Int)) C0 (some ⟨g, 0, none⟩) b.length cap (fun _ => True) (fun _ => False) rfl rfl HRP.out (Kd.C_below HCC.out HB5.out) (fun _ _ e => e) (fun _ e => e.elim) (fun _ _ => trivial) HB5.out (by first | exact HB5.out.size | simp) (by have := H7.out; rw [pseu_len]; omega) ?_
  intro v6 w6 hR6 hB6 _ _
  obtain ⟨P, hP⟩ : ∃ P, pseu 1 2 (b.length : Int) ++ C0 = P := ⟨_, rfl⟩
  rw [hP] at hR6 HSUM
  obtain ⟨A6, c6, e6⟩ := Kd.R_slice hR6
  subst e6
  have HR6 := Lib.hid hR6; have HB6 := Lib.hid (below_step HB3.out hB6); have HR6b := Lib.hid (HR3.out.below hB6)
  clear hR6 hB6 hP HRP HR3 HB3 HB5 HCC
  go_upto_region 6 with (go_at_call 12; refine (tidewayref02_Sum.calls 70013 A6 c6 P rs w6 (Kd.R_reads' HR6.out).2.2 (Kd.R_reads' HR6.out).2.1 HSUM.out).mono ?_; rintro e w7 ⟨rfl, hd7⟩; have HB7 := Lib.hid (below_step HB6.out hd7.below); have HR7 := Lib.hid (HR6b.out.below hd7.below); clear hd7)
  obtain ⟨c20, c21⟩ := HR7.out.cell 16 (by have := HL0.out; omega)
  have hR8 := HR7.out.set 16 (by have := HL0.out; omega) (rs / 256 % 256)
  obtain ⟨c30, c31⟩ := hR8.cell 17 (by have := HL0.out; rw [List.length_set]; omega)
  have hR9 := hR8.set 17 (by have := HL0.out; rw [List.length_set]; omega) (rs % 256)
  have hB9 := (HB7.out.setCell (p := ⟨g, 16, none⟩) hgb (.int .u8 (rs / 256 % 256))).setCell (p := ⟨g, 17, none⟩) hgb (.int .u8 (rs % 256))
  rw [← HRB.out] at hR9
  have HR9 := Lib.hid hR9; have HB9 := Lib.hid hB9
  clear hR8 hR9 hB9 HR7 HB7 HR6 HB6 HR6b HSUM HPS HC
  go_upto_region 7 with (fail)
  generalize ((w7.setCell ⟨g, 16, none⟩ (.int .u8 (rs / 256 % 256))).setCell ⟨g, 17, none⟩ (.int .u8 (rs % 256))) = W9 at HR9 HB9 ⊢
  clear c20 c21 c30 c31
  obtain ⟨M, hM⟩ : ∃ M, rightB 1 2 b = M := ⟨_, rfl⟩
  have hlM : M.length = b.length := by rw [← hM]; exact right_len 1 2 b
  rw [hM] at HR9 HBY HVAL
  obtain ⟨r, hr⟩ : ∃ r, wgget true M = r := ⟨_, rfl⟩
  obtain ⟨x, q⟩ := r
  have hget : Calls Try.prog 8 #[.slice (some ⟨g, 0, none⟩) M.length cap, .int .u32 1, .int .u32 2] W9 fun e w' => WGot W9 (x, q) e w' := hr ▸ wg_Get _ cap M 1 2 true W9 HR9.out.C HR9.out.2.1 HBY.out HVAL.out
  rw [hlM] at hget
  have HGET := Lib.hid hget
  have HRR := Lib.hid hr
  clear hM hlM hr hget HR9 HVAL HRB HL0
  go_upto_region 8 with (first
    | (go_at_call 8; refine HGET.out.mono ?_; rintro e wa ⟨hb, v13, v14, rfl, r13, r14⟩; obtain ⟨A13, c13, e13⟩ := Kd.R_slice r13; obtain ⟨A14, c14, e14⟩ := Kd.R_slice r14; subst e13; subst e14; have HBa := Lib.hid (below_step HB9.out hb); have HZa := Lib.hid (SegC.of r13 r14); clear hb r13 r14)
    | (refine gate_ (.store 26 (.tmp 5) (.tmp 45)) rfl ?_; refine wg_store_op rfl rfl 26 (.tmp 5) (.tmp 45) rfl _ _ _ 26 _ rfl rfl rfl (by kernel_rfl) rfl (blk_new wa _) rfl ?_; intro w10 h10 hg10))
  obtain ⟨hb, hbk, hx⟩ := wl_laid HBa.out (Below.size HBa.out) rfl h10 hg10 HZa.out
  have HB10 := Lib.hid hb; have HX10 := Lib.hid hx
  obtain ⟨g10, hg10n⟩ : ∃ g10, wa.heap.size = g10 := ⟨_, rfl⟩
  rw [hg10n] at h10 ⊢
  have HY10 := Lib.hid h10
  clear h10 hg10 hb hbk hx hg10n HBa HZa HGET HB9
  by_cases hq : wgno q = 0
  · have hq0 : q = 0 := by
      unfold wgno at hq
      (repeat' split at hq) <;> omega
    subst hq0
    obtain ⟨hk, hw⟩ := get_right M HBY.out x HRR.out
    obtain ⟨c2, hc2, hv2, hb2, hl2, hg2⟩ := put_all x hw hk 1 2
    obtain ⟨B, hB⟩ : ∃ B, putF c2 x = B := ⟨_, rfl⟩
    obtain ⟨_, _, _, _, _, _, _, hn13, _, _, _⟩ := chk_bd hk
    have hput : ∀ W : World, SegC W x A13 c13 A14 c14 → Calls Try.prog 15 #[.agg (wgcells x (.slice A13 x.f13.length c13) (.slice A14 x.f14.length c14)), .int .u32 1, .int .u32 2] W fun e w' => WPut W B e w' := fun W h => hB ▸ wp_ok x A13 c13 A14 c14 1 2 c2 W h.h13 h.l13 h.h14 h.l14 hk hc2
    rw [hB] at hv2 hb2 hl2 hg2
    have hget2 : ∀ (W : World) (A : Option Addr) (cap : Nat), Kd.C (Kd.int .u8) W A B.length B → B.length ≤ cap → Calls Try.prog 8 #[.slice A B.length cap, .int .u32 1, .int .u32 2] W fun e w' => WGot W (x, 0) e w' := fun W A cap hC hcap => hg2 ▸ wg_Get A cap B 1 2 true W hC hcap hb2 hv2
    have HPUT := Lib.hid hput; have HGET2 := Lib.hid hget2
    have HSA := Lib.hid (fun (W : World) (A9 : Option Addr) (c9 : Nat) (B9 : Option Addr) (d9 : Nat) (C9 : Option Addr) (e9 : Nat) (D9 : Option Addr) (f9 : Nat) (h9 : SegC W x A9 c9 B9 d9) (h : SegC W x C9 e9 D9 f9) => wl_same x (by omega) A9 c9 B9 d9 C9 e9 D9 f9 W h9 h)
    have n0 : wgno 0 = 0 := rfl
    clear hput hget2 hB hk hw hc2 hv2 hb2 hl2 hg2 hn13 HRR HBY
    go_upto_region 11 with (first
      | (refine gate_ (.load 26 (.tmp 5)) rfl ?_; refine wpList_load_row rfl 26 (.tmp 5) rfl g10 rfl 26 _ (0, 0) _ HY10.out Try.underlying26 rfl (by kernel_rfl) ?_)
      | (go_at_call 15; refine (HPUT.out w10 HX10.out).mono ?_; rintro e w11 ⟨hb11, gb, capb, rfl, hR11⟩; have HB11 := Lib.hid (below_step HB10.out hb11); have HY11 := Lib.hid (blk_below HY10.out hb11); have HX11 := Lib.hid (HX10.out.below hb11); have HR11 := Lib.hid hR11; clear hb11 hR11))
    go_upto_region 12 with (first
      | (go_at_call 8; refine (HGET2.out w11 _ _ (Kd.R_reads' HR11.out).2.2 (Kd.R_reads' HR11.out).2.1).mono ?_; rintro e wb ⟨hb, v13, v14, rfl, r13, r14⟩; obtain ⟨A23, c23, e13⟩ := Kd.R_slice r13; obtain ⟨A24, c24, e14⟩ := Kd.R_slice r14; subst e13; subst e14; have HBb := Lib.hid (below_step HB11.out hb); have HYb := Lib.hid (blk_below HY11.out hb); have HXb := Lib.hid (HX11.out.below hb); have HZb := Lib.hid (SegC.of r13 r14); clear hb r13 r14)
      | (refine gate_ (.store 26 (.tmp 9) (.tmp 58)) rfl ?_; refine wg_store_op rfl rfl 26 (.tmp 9) (.tmp 58) rfl _ _ _ 26 _ rfl rfl rfl (by kernel_rfl) rfl (blk_new wb _) rfl ?_; intro w12 h12 hg12))
    obtain ⟨hb, hbk, hx⟩ := wl_laid HBb.out (Below.size HBb.out) rfl h12 hg12 HZb.out
    have HB12 := Lib.hid hb; have HX12 := Lib.hid hx; have HY12 := Lib.hid (blk_below HYb.out hbk); have HX12b := Lib.hid (HXb.out.below hbk)
    obtain ⟨g12, hg12n⟩ : ∃ g12, wb.heap.size = g12 := ⟨_, rfl⟩
    rw [hg12n] at h12 ⊢
    have HV12 := Lib.hid h12
    clear h12 hg12 hb hbk hx hg12n
    go_wp2_with (first
      | (refine gate_ (.load 26 (.tmp 5)) rfl ?_; refine wl_load (by rfl) (.tmp 5) rfl g10 rfl _ _ _ HY12.out ?_)
      | (refine gate_ (.load 26 (.tmp 9)) rfl ?_; refine wl_load (by rfl) (.tmp 9) rfl g12 rfl _ _ _ HV12.out ?_)
      | (go_at_call 10; refine (HSA.out w12 _ _ _ _ _ _ _ _ HX12b.out HX12.out).mono ?_; rintro e w13 ⟨rfl, hb13⟩; have HB13 := Lib.hid (below_step HB12.out hb13); clear hb13)
      | (go_at_call 11; refine (wl_heads w13).mono ?_; rintro e w14 ⟨rfl, hb14⟩))
    go_ret
    exact ⟨rfl, below_step HB13.out hb14⟩
  · have d0 : (wgno q == 0) = false := beq_eq_false_iff_ne.2 hq
    have d1 : (wgno q != 0) = true := by rw [bne, d0]; rfl
    go_wp2_with (go_at_call 11; refine (wl_heads w10).mono ?_; rintro e w14 ⟨rfl, hb14⟩)
    go_ret
    exact ⟨rfl, below_step HB10.out hb14⟩
/-- The law, walked. -/
theorem WireAgain_calls (A : Option Addr) (c : Nat) (b : List Int) (w : World) (hC : Kd.C B8 w A b.length b) (hc : b.length ≤ c) (w0 : (∀ x6 ∈ b, (Lit.int .u8 x6).wf = true) ∧ b.length * 1 ≤ 140737488351232 ∧ b.length ≤ 9223372036854775807) :
    Calls Try.prog 7 #[.slice A b.length c] w fun e w' => e = .returned (.bool true) ∧ Below w.heap.size w w' := by
  by_cases h : b.length < 20 ∨ 70000 < b.length
  · exact again_out A c b w h w0.2.2
  · exact again_in A c b w hC (by omega) (by omega) fun x hx => wf8 (w0.1 x hx)
end Go.Proofs.Ytenpekakmkemeaa.Pure

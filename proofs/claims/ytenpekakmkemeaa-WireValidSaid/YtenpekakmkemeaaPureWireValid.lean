/- Of bytes whose checksum is put right: which segment they are, or what is wrong with them, is what the document says, and it is not the checksum. -/
import Derived.Test.YtenpekakmkemeaaWireRefGet
import Derived.Test.YtenpekakmkemeaaWirePlain2
import Derived.Test.YtenpekakmkemeaaWireHeads
import Derived.Test.YtenpekakmkemeaaRow8
set_option linter.unusedVariables false
set_option linter.unusedSimpArgs false
set_option autoImplicit false
namespace Go.Proofs.Ytenpekakmkemeaa.Pure
open Go.RowKit Go.Proofs.Ytenpekakmkemeaa.PA Go.Proofs.YtenpekakmkemeaaW.PrintWords Go.Proofs.YtenpekakmkemeaaW.PrintLast Go.Proofs.YtenpekakmkemeaaW.PrintMore Go.Proofs.Ytenpekakmkemeaa.WireG Go.Proofs.Ytenpekakmkemeaa.Row8 Go.Proofs.Ytenpekakmkemeaa.SumPlain Go.Proofs.Ytenpekakmkemeaa.WireSum
theorem get_f13 (v : Bool) (b : List Int) (hb : byts b) : (wgget v b).1.f13.length ≤ 1000 := by
  cases v with
  | false => rw [(get_bad b).1]; decide
  | true =>
    obtain ⟨r, hr⟩ : ∃ r, wgget true b = r := ⟨_, rfl⟩
    obtain ⟨x, q⟩ := r
    by_cases hq : q = 0
    · subst hq
      obtain ⟨hk, _⟩ := get_right b hb x hr
      obtain ⟨_, _, _, _, _, _, _, hn, _, _, _⟩ := chk_bd hk
      rw [hr]; show x.f13.length ≤ 1000; omega
    · have hx : x = z26 := by
        unfold wgget at hr
        split at hr
        · exact (congrArg Prod.fst hr).symm
        · unfold wgget1 at hr
          split at hr
          · exact (congrArg Prod.fst hr).symm
          · split at hr
            · exact (congrArg Prod.fst hr).symm
            · split at hr
              · exact (congrArg Prod.fst hr).symm
              · unfold wgend at hr
                split at hr
                · exact (congrArg Prod.fst hr).symm
                · split at hr
                  · exact absurd (congrArg Prod.snd hr).symm hq
                  · exact (congrArg Prod.fst hr).symm
      rw [hr, hx]; exact Nat.zero_le _
theorem get_no3 (b : List Int) : wgno (wgget true b).2 ≠ 32 := by
  have h : (wgget true b).2 = 0 ∨ (wgget true b).2 = 1 ∨ (wgget true b).2 = 2 := by
    unfold wgget
    split
    · exact .inr (.inl rfl)
    · unfold wgget1
      split
      · exact .inr (.inr rfl)
      · split
        · exact .inr (.inl rfl)
        · rw [if_neg (by decide)]
          unfold wgend
          split
          · exact .inr (.inr rfl)
          · split
            · exact .inl rfl
            · exact .inr (.inr rfl)
  rcases h with h | h | h <;> rw [h] <;> decide
set_option maxRecDepth 100000 in
set_option maxHeartbeats 16000000 in
theorem valid_out (A : Option Addr) (c : Nat) (b : List Int) (src dst : Int) (w : World) (h : b.length < 20 ∨ 70000 < b.length) (hm : b.length ≤ 9223372036854775807) :
    Calls Try.prog 4 #[.slice A b.length c, .int .u32 src, .int .u32 dst] w fun e w' => e = .returned (.bool true) ∧ Below w.heap.size w w' := by
  by_cases h1 : b.length < 20
  · have k1 : decide ((b.length : Int) < 20) = true := decide_eq_true (by omega)
    clear h hm h1
    go_enter Try.func4, Try.ntmps4
    go_wp2_with (go_at_call 11; refine (wl_heads w).mono ?_; rintro e w3 ⟨rfl, hb3⟩)
    go_ret
    exact ⟨rfl, hb3⟩
  · have k1 : decide ((b.length : Int) < 20) = false := decide_eq_false (by omega)
    have k2 : decide ((70000 : Int) < (b.length : Int)) = true := decide_eq_true (by omega)
    clear h hm h1
    go_enter Try.func4, Try.ntmps4
    go_wp2_with (go_at_call 11; refine (wl_heads w).mono ?_; rintro e w3 ⟨rfl, hb3⟩)
    go_ret
    exact ⟨rfl, hb3⟩
set_option maxRecDepth 100000 in
set_option maxHeartbeats 16000000 in
theorem valid_in (A : Option Addr) (c : Nat) (b : List Int) (src dst : Int) (w : World) (hC : Kd.C B8 w A b.length b) (h20 : 20 ≤ b.length) (h7 : b.length ≤ 70000) (hb : byts b) :
    Calls Try.prog 4 #[.slice A b.length c, .int .u32 src, .int .u32 dst] w fun e w' => e = .returned (.bool true) ∧ Below w.heap.size w w' := by
  have HC := Lib.hid hC
  have k1 : decide ((b.length : Int) < 20) = false := decide_eq_false (by omega)
  have k2 : decide ((70000 : Int) < (b.length : Int)) = false := decide_eq_false (by omega)
  obtain ⟨hsum, hby, ⟨hs0, hs1⟩, hval⟩ := right_all src dst b hb h20 h7 70013 (by omega)
  have hps := refPseudo src dst (b.length : Int) 0 (by omega)
  have HPS := Lib.hid hps; have HSUM := Lib.hid hsum; have HBY := Lib.hid hby; have HVAL := Lib.hid hval; have H20 := Lib.hid h20; have H7 := Lib.hid h7
  clear hC hb hsum hby hval hps h20 h7
  go_enter Try.func4, Try.ntmps4
  go_wp2_with (at_builtin; refine hold_of ?_)
  refine hold_mk ?_
  refine Kd.R_append_rows B8 (Rr := fun x cs => cs = [.int .u8 x]) (w0 := w) w.heap.size rfl (.tmp 22) (.tmp 23) 22 5 (.int .u8 0) 1 rfl Try.underlying22 info5 rfl (by decide) (by decide) _ [] b _ _ _ (fun _ => True) (fun _ => False) rfl rfl (own_empty w _ (Nat.le_refl _)) (Kd.C_below HC.out ((Below.refl _ w).alloc (Nat.le_refl _) _)) (fun _ _ e => e) (fun _ e => e.elim) (fun _ _ => trivial) (below_alloc (Below.refl _ _) _) (by simp) (by have := H7.out; simp; omega) ?_
  intro v1 w1 hR1 hB1 _ _
  simp only [List.nil_append] at hR1
  obtain ⟨g, cap, rfl, hrow⟩ := Row8.of_R hR1 (by have := H20.out; omega)
  have hgb := hrow.1
  have h20 := H20.out
  obtain ⟨c00, c01⟩ := hrow.cell 16 (by omega)
  have hrow2 := hrow.set 16 (by omega) 0
  obtain ⟨c10, c11⟩ := hrow2.cell 17 (by rw [List.length_set]; omega)
  have hrow3 := hrow2.set 17 (by rw [List.length_set]; omega) 0
  have hB3 := (hB1.setCell (p := ⟨g, 16, none⟩) hgb (.int .u8 0)).setCell (p := ⟨g, 17, none⟩) hgb (.int .u8 0)
  have HR3 := Lib.hid hrow3; have HB3 := Lib.hid hB3
  clear hR1 hB1 hrow hrow2 hrow3 hB3
  go_upto_region 5 with (fail)
  generalize ((w1.setCell ⟨g, 16, none⟩ (.int .u8 0)).setCell ⟨g, 17, none⟩ (.int .u8 0)) = W4 at HR3 HB3 ⊢
  clear c00 c01 c10 c11
  obtain ⟨C0, hC0⟩ : ∃ C0, (b.set 16 0).set 17 0 = C0 := ⟨_, rfl⟩
  obtain ⟨rs, hrs⟩ : ∃ rs, rightS src dst b = rs := ⟨_, rfl⟩
  have hl0 : C0.length = b.length := by rw [← hC0]; simp only [List.length_set]
  have hrb : rightB src dst b = (C0.set 16 (rs / 256 % 256)).set 17 (rs % 256) := by unfold rightB; rw [hrs, hC0]
  clear hs0 hs1
  rw [hrs] at HSUM
  rw [hC0] at HR3 HSUM
  have HRB := Lib.hid hrb; have HL0 := Lib.hid hl0
  have hCC := HR3.out.C
  rw [hl0] at hCC
  have HCC := Lib.hid hCC
  clear hC0 hrs hrb hCC
  go_wp2_with (first
    | (go_at_call 13; refine (tidewayref02_Pseudo.calls _ src dst (b.length : Int) _ W4 HPS.out).mono ?_; rintro e w5 ⟨vp, rfl, hrp, hb5⟩; have HRP := Lib.hid hrp; have HB5 := Lib.hid hb5; clear hrp hb5)
    | (at_builtin; refine hold_of ?_))
  refine hold_mk ?_
  refine Kd.R_append_rows B8 (Rr := fun x cs => cs = [.int .u8 x]) (w0 := W4) W4.heap.size rfl (.tmp 33) (.tmp 34) 22 5 (.int .u8 0) 1 rfl Try.underlying22 info5 rfl (by decide) (by decide) vp (pseu src dst (b.length : Int)) C0 (some ⟨g, 0, none⟩) b.length cap (fun _ => True) (fun _ => False) rfl rfl HRP.out (Kd.C_below HCC.out HB5.out) (fun _ _ e => e) (fun _ e => e.elim) (fun _ _ => trivial) HB5.out (by first | exact HB5.out.size | simp) (by have := H7.out; rw [pseu_len]; omega) ?_
  intro v6 w6 hR6 hB6 _ _
  obtain ⟨P, hP⟩ : ∃ P, pseu src dst (b.length : Int) ++ C0 = P := ⟨_, rfl⟩
  rw [hP] at hR6 HSUM
  obtain ⟨A6, c6, e6⟩ := Kd.R_slice hR6
  subst e6
  have HR6 := Lib.hid hR6; have HB6 := Lib.hid (below_step HB3.out hB6); have HR6b := Lib.hid (HR3.out.below hB6)
  clear hR6 hB6 hP HRP HR3 HB3 HB5 HCC
  go_upto_region 6 with (go_at_call 12; refine (tidewayref02_Sum.calls 70013 A6 c6 P rs w6 (Kd.R_reads' HR6.out).2.2 (Kd.R_reads' HR6.out).2.1 HSUM.out).mono ?_; rintro e w7 ⟨rfl, hd7⟩; have HB7 := Lib.hid (below_step HB6.out hd7.below); have HR7 := Lib.hid (HR6b.out.below hd7.below); clear hd7)
  obtain ⟨c20, c21⟩ := HR7.out.cell 16 (by have := HL0.out; omega)
  have hR8 := HR7.out.set 16 (by have := HL0.out; omega) (rs / 256 % 256)
  obtain ⟨c30, c31⟩ := hR8.cell 17 (by have := HL0.out; rw [List.length_set]; omega)
  have hR9 := hR8.set 17 (by have := HL0.out; rw [List.length_set]; omega) (rs % 256)
  have hB9 := (HB7.out.setCell (p := ⟨g, 16, none⟩) hgb (.int .u8 (rs / 256 % 256))).setCell (p := ⟨g, 17, none⟩) hgb (.int .u8 (rs % 256))
  rw [← HRB.out] at hR9
  have HR9 := Lib.hid hR9; have HB9 := Lib.hid hB9
  clear hR8 hR9 hB9 HR7 HB7 HR6 HB6 HR6b HSUM HPS HC
  go_upto_region 7 with (fail)
  generalize ((w7.setCell ⟨g, 16, none⟩ (.int .u8 (rs / 256 % 256))).setCell ⟨g, 17, none⟩ (.int .u8 (rs % 256))) = W9 at HR9 HB9 ⊢
  clear c20 c21 c30 c31
  obtain ⟨M, hM⟩ : ∃ M, rightB src dst b = M := ⟨_, rfl⟩
  have hlM : M.length = b.length := by rw [← hM]; exact right_len src dst b
  rw [hM] at HR9 HBY HVAL
  obtain ⟨r, hr⟩ : ∃ r, wgget true M = r := ⟨_, rfl⟩
  have hf := get_f13 true M HBY.out
  have hq3 := get_no3 M
  rw [hr] at hf hq3
  obtain ⟨x, q⟩ := r
  have h1 : Calls Try.prog 8 #[.slice (some ⟨g, 0, none⟩) M.length cap, .int .u32 src, .int .u32 dst] W9 fun e w' => WGot W9 (x, q) e w' := hr ▸ wg_Get _ cap M src dst true W9 HR9.out.C HR9.out.2.1 HBY.out HVAL.out
  have h2 : ∀ W : World, Below W9.heap.size W9 W → Calls Try.prog 9 #[.slice (some ⟨g, 0, none⟩) M.length cap, .int .u32 src, .int .u32 dst] W fun e w' => WGot W (x, q) e w' := fun W hB => hr ▸ wr_Get _ cap M src dst true W (Kd.C_below HR9.out.C hB) HR9.out.2.1 HBY.out (by have := H7.out; omega) HVAL.out
  rw [hlM] at h1 h2
  have HG1 := Lib.hid h1; have HG2 := Lib.hid h2; have HF := Lib.hid (show x.f13.length ≤ 1000 from hf)
  have hn32 : (wgno q != 32) = true := bne_iff_ne.2 hq3
  clear hM hlM hr hf hq3 h1 h2 HR9 HVAL HRB HL0
  go_upto_region 8 with (first
    | (go_at_call 8; refine (HG1.out).mono ?_; rintro e wa ⟨hb, v13, v14, rfl, r13, r14⟩; obtain ⟨A13, c13, e13⟩ := Kd.R_slice r13; obtain ⟨A14, c14, e14⟩ := Kd.R_slice r14; subst e13; subst e14; have HW1 := Lib.hid hb; have HBa := Lib.hid (below_step HB9.out hb); have HZa := Lib.hid (SegC.of r13 r14); clear hb r13 r14)
    | (refine gate_ (.store 26 (.tmp 9) (.tmp 51)) rfl ?_; refine wg_store_op rfl rfl 26 (.tmp 9) (.tmp 51) rfl _ _ _ 26 _ rfl rfl rfl (by kernel_rfl) rfl (blk_new wa _) rfl ?_; intro w1 h1 hg1))
  obtain ⟨hb, hbk, hx⟩ := wl_laid HBa.out (Below.size HBa.out) rfl h1 hg1 HZa.out
  have HB1 := Lib.hid hb; have HX1 := Lib.hid hx; have HU1 := Lib.hid (below_step HW1.out hbk)
  obtain ⟨g1, hg1n⟩ : ∃ g1, wa.heap.size = g1 := ⟨_, rfl⟩
  rw [hg1n] at h1 ⊢
  have HY1 := Lib.hid h1
  clear h1 hg1 hb hbk hx hg1n
  go_upto_region 9 with (first
    | (go_at_call 9; refine (HG2.out w1 HU1.out).mono ?_; rintro e wb ⟨hb, v13, v14, rfl, r13, r14⟩; obtain ⟨A23, c23, e13⟩ := Kd.R_slice r13; obtain ⟨A24, c24, e14⟩ := Kd.R_slice r14; subst e13; subst e14; have HBb := Lib.hid (below_step HB1.out hb); have HYb := Lib.hid (blk_below HY1.out hb); have HXb := Lib.hid (HX1.out.below hb); have HZb := Lib.hid (SegC.of r13 r14); clear hb r13 r14)
    | (refine gate_ (.store 26 (.tmp 11) (.tmp 58)) rfl ?_; refine wg_store_op rfl rfl 26 (.tmp 11) (.tmp 58) rfl _ _ _ 26 _ rfl rfl rfl (by kernel_rfl) rfl (blk_new wb _) rfl ?_; intro w2 h2 hg2))
  obtain ⟨hb, hbk, hx⟩ := wl_laid HBb.out (Below.size HBb.out) rfl h2 hg2 HZb.out
  have HB2 := Lib.hid hb; have HX2 := Lib.hid hx; have HY2 := Lib.hid (blk_below HYb.out hbk); have HX2b := Lib.hid (HXb.out.below hbk)
  obtain ⟨g2, hg2n⟩ : ∃ g2, wb.heap.size = g2 := ⟨_, rfl⟩
  rw [hg2n] at h2 ⊢
  have HV2 := Lib.hid h2
  clear h2 hg2 hb hbk hx hg2n
  have hqq : (wgno q == wgno q) = true := beq_self_eq_true _
  go_wp2_with (first
    | (refine gate_ (.load 26 (.tmp 9)) rfl ?_; refine wl_load (by rfl) (.tmp 9) rfl g1 rfl _ _ _ HY2.out ?_)
    | (refine gate_ (.load 26 (.tmp 11)) rfl ?_; refine wl_load (by rfl) (.tmp 11) rfl g2 rfl _ _ _ HV2.out ?_)
    | (go_at_call 10; refine (wl_same x HF.out _ _ _ _ _ _ _ _ w2 HX2b.out HX2.out).mono ?_; rintro e w3 ⟨rfl, hb3⟩; have HB3 := Lib.hid (below_step HB2.out hb3); clear hb3)
    | (go_at_call 11; refine (wl_heads w3).mono ?_; rintro e w4 ⟨rfl, hb4⟩))
  go_ret
  exact ⟨rfl, below_step HB3.out hb4⟩
/-- The law, walked. -/
theorem WireValid_calls (A : Option Addr) (c : Nat) (b : List Int) (src dst : Int) (w : World) (hC : Kd.C B8 w A b.length b) (hc : b.length ≤ c) (w0 : (∀ x6 ∈ b, (Lit.int .u8 x6).wf = true) ∧ b.length * 1 ≤ 140737488351232 ∧ b.length ≤ 9223372036854775807) (w1 : (Lit.int .u32 src).wf = true) (w2 : (Lit.int .u32 dst).wf = true) :
    Calls Try.prog 4 #[.slice A b.length c, .int .u32 src, .int .u32 dst] w fun e w' => e = .returned (.bool true) ∧ Below w.heap.size w w' := by
  by_cases h : b.length < 20 ∨ 70000 < b.length
  · exact valid_out A c b src dst w h w0.2.2
  · exact valid_in A c b src dst w hC (by omega) (by omega) fun x hx => wf8 (w0.1 x hx)
end Go.Proofs.Ytenpekakmkemeaa.Pure

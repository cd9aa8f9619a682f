/- Which segment bytes are, or what is wrong with them, is what the document says: of all bytes. -/
import Derived.Test.YtenpekakmkemeaaWireRefGet
import Derived.Test.YtenpekakmkemeaaWirePlain2
import Derived.Test.YtenpekakmkemeaaWireHeads
set_option linter.unusedVariables false
set_option linter.unusedSimpArgs false
set_option autoImplicit false
namespace Go.Proofs.Ytenpekakmkemeaa.Pure
open Go.RowKit Go.Proofs.Ytenpekakmkemeaa.PA Go.Proofs.YtenpekakmkemeaaW.PrintWords Go.Proofs.YtenpekakmkemeaaW.PrintLast Go.Proofs.YtenpekakmkemeaaW.PrintMore Go.Proofs.Ytenpekakmkemeaa.WireG Go.Proofs.Ytenpekakmkemeaa.SumPlain
theorem get_f13 (v : Bool) (b : List Int) (hb : byts b) : (wgget v b).1.f13.length ≤ 1000 := by
  cases v with
  | false => rw [(get_bad b).1]; decide
  | true =>
    obtain ⟨r, hr⟩ : ∃ r, wgget true b = r := ⟨_, rfl⟩
    obtain ⟨x, q⟩ := r
    by_cases hq : q = 0
    · subst hq
      obtain ⟨hk, _⟩ := get_right b hb x hr
      obtain ⟨_, _, _, _, _, _, _, hn, _, _, _⟩ := chk_bd hk
      rw [hr]; show x.f13.length ≤ 1000; omega
    · have hx : x = z26 := by
        unfold wgget at hr
        split at hr
        · exact (congrArg Prod.fst hr).symm
        · unfold wgget1 at hr
          split at hr
          · exact (congrArg Prod.fst hr).symm
          · split at hr
            · exact (congrArg Prod.fst hr).symm
            · split at hr
              · exact (congrArg Prod.fst hr).symm
              · unfold wgend at hr
                split at hr
                · exact (congrArg Prod.fst hr).symm
                · split at hr
                  · exact absurd (congrArg Prod.snd hr).symm hq
                  · exact (congrArg Prod.fst hr).symm
      rw [hr, hx]; exact Nat.zero_le _
set_option maxRecDepth 100000 in
set_option maxHeartbeats 16000000 in
theorem gets_any (A : Option Addr) (c : Nat) (b : List Int) (src dst : Int) (w : World) (hC : Kd.C (Kd.int .u8) w A b.length b) (hc : b.length ≤ c) (hb : byts b) (hm : b.length ≤ 140737488351232) :
    Calls Try.prog 3 #[.slice A b.length c, .int .u32 src, .int .u32 dst] w fun e w' => e = .returned (.bool true) ∧ Below w.heap.size w w' := by
  have hv := WireSum.validF [four8 src ++ four8 dst ++ [0, 6, ((b.length : Int) / 256) % 256, (b.length : Int) % 256], b] (by
    have := b_app (b_pseu src dst (b.length : Int)) hb
    simpa [pseu] using this)
  obtain ⟨vd, hvd⟩ : ∃ vd, decide (norm (wsum true [four8 src ++ four8 dst ++ [0, 6, ((b.length : Int) / 256) % 256, (b.length : Int) % 256], b].flatten) = 65535) = vd := ⟨_, rfl⟩
  rw [hvd] at hv
  obtain ⟨r, hr⟩ : ∃ r, wgget vd b = r := ⟨_, rfl⟩
  have hf := get_f13 vd b hb
  have h1 : ∀ W : World, Below w.heap.size w W → Calls Try.prog 8 #[.slice A b.length c, .int .u32 src, .int .u32 dst] W fun e w' => WGot W r e w' := fun W hB => hr ▸ wg_Get A c b src dst vd W (Kd.C_below hC hB) hc hb hv
  have h2 : ∀ W : World, Below w.heap.size w W → Calls Try.prog 9 #[.slice A b.length c, .int .u32 src, .int .u32 dst] W fun e w' => WGot W r e w' := fun W hB => hr ▸ wr_Get A c b src dst vd W (Kd.C_below hC hB) hc hb hm hv
  rw [hr] at hf
  obtain ⟨x, q⟩ := r
  have HG1 := Lib.hid h1; have HG2 := Lib.hid h2; have HF := Lib.hid (show x.f13.length ≤ 1000 from hf)
  clear hC hc hb hm hv hvd hr hf h1 h2
  go_enter Try.func3, Try.ntmps3
  go_upto_region 2 with (first
    | (go_at_call 8; refine (HG1.out w (Below.refl _ w)).mono ?_; rintro e wa ⟨hb, v13, v14, rfl, r13, r14⟩; obtain ⟨A13, c13, e13⟩ := Kd.R_slice r13; obtain ⟨A14, c14, e14⟩ := Kd.R_slice r14; subst e13; subst e14; have HBa := Lib.hid hb; have HZa := Lib.hid (SegC.of r13 r14); clear hb r13 r14)
    | (refine gate_ (.store 26 (.tmp 7) (.tmp 16)) rfl ?_; refine wg_store_op rfl rfl 26 (.tmp 7) (.tmp 16) rfl _ _ _ 26 _ rfl rfl rfl (by kernel_rfl) rfl (blk_new wa _) rfl ?_; intro w1 h1 hg1))
  obtain ⟨hb, hbk, hx⟩ := wl_laid HBa.out (Below.size HBa.out) rfl h1 hg1 HZa.out
  have HB1 := Lib.hid hb; have HX1 := Lib.hid hx
  obtain ⟨g1, hg1n⟩ : ∃ g1, wa.heap.size = g1 := ⟨_, rfl⟩
  rw [hg1n] at h1 ⊢
  have HY1 := Lib.hid h1
  clear h1 hg1 hb hbk hx hg1n
  go_upto_region 3 with (first
    | (go_at_call 9; refine (HG2.out w1 HB1.out).mono ?_; rintro e wb ⟨hb, v13, v14, rfl, r13, r14⟩; obtain ⟨A23, c23, e13⟩ := Kd.R_slice r13; obtain ⟨A24, c24, e14⟩ := Kd.R_slice r14; subst e13; subst e14; have HBb := Lib.hid (below_step HB1.out hb); have HYb := Lib.hid (blk_below HY1.out hb); have HXb := Lib.hid (HX1.out.below hb); have HZb := Lib.hid (SegC.of r13 r14); clear hb r13 r14)
    | (refine gate_ (.store 26 (.tmp 9) (.tmp 23)) rfl ?_; refine wg_store_op rfl rfl 26 (.tmp 9) (.tmp 23) rfl _ _ _ 26 _ rfl rfl rfl (by kernel_rfl) rfl (blk_new wb _) rfl ?_; intro w2 h2 hg2))
  obtain ⟨hb, hbk, hx⟩ := wl_laid HBb.out (Below.size HBb.out) rfl h2 hg2 HZb.out
  have HB2 := Lib.hid hb; have HX2 := Lib.hid hx; have HY2 := Lib.hid (blk_below HYb.out hbk); have HX2b := Lib.hid (HXb.out.below hbk)
  obtain ⟨g2, hg2n⟩ : ∃ g2, wb.heap.size = g2 := ⟨_, rfl⟩
  rw [hg2n] at h2 ⊢
  have HV2 := Lib.hid h2
  clear h2 hg2 hb hbk hx hg2n
  have hqq : (wgno q == wgno q) = true := beq_self_eq_true _
  go_wp2_with (first
    | (refine gate_ (.load 26 (.tmp 7)) rfl ?_; refine wl_load (by rfl) (.tmp 7) rfl g1 rfl _ _ _ HY2.out ?_)
    | (refine gate_ (.load 26 (.tmp 9)) rfl ?_; refine wl_load (by rfl) (.tmp 9) rfl g2 rfl _ _ _ HV2.out ?_)
    | (go_at_call 10; refine (wl_same x HF.out _ _ _ _ _ _ _ _ w2 HX2b.out HX2.out).mono ?_; rintro e w3 ⟨rfl, hb3⟩; have HB3 := Lib.hid (below_step HB2.out hb3); clear hb3)
    | (go_at_call 11; refine (wl_heads w3).mono ?_; rintro e w4 ⟨rfl, hb4⟩))
  go_ret
  exact ⟨rfl, below_step HB3.out hb4⟩
/-- The law, walked. -/
theorem WireGets_calls (A : Option Addr) (c : Nat) (b : List Int) (src dst : Int) (w : World) (hC : Kd.C (Kd.int .u8) w A b.length b) (hc : b.length ≤ c) (w0 : (∀ x6 ∈ b, (Lit.int .u8 x6).wf = true) ∧ b.length * 1 ≤ 140737488351232 ∧ b.length ≤ 9223372036854775807) (w1 : (Lit.int .u32 src).wf = true) (w2 : (Lit.int .u32 dst).wf = true) :
    Calls Try.prog 3 #[.slice A b.length c, .int .u32 src, .int .u32 dst] w fun e w' => e = .returned (.bool true) ∧ Below w.heap.size w w' :=
  gets_any A c b src dst w hC hc (fun x hx => wf8 (w0.1 x hx)) (by omega)
end Go.Proofs.Ytenpekakmkemeaa.Pure

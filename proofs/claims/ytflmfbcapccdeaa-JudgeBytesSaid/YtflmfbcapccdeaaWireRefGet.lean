/- The document's Get, walked: it is the program's. -/
import Derived.Test.YtflmfbcapccdeaaWireRef2
import Derived.Test.YtflmfbcapccdeaaWireSum2
import Derived.Test.YtflmfbcapccdeaaWireGet
set_option linter.unusedVariables false
set_option linter.unusedSimpArgs false
set_option autoImplicit false
namespace Go.Proofs.Ytflmfbcapccdeaa.WireG
open Go.RowKit Go.Proofs.Ytflmfbcapccdeaa.PA Go.Proofs.YtflmfbcapccdeaaW.PrintWords Go.Proofs.YtflmfbcapccdeaaW.PrintLast Go.Proofs.YtflmfbcapccdeaaW.PrintMore Go.Proofs.Ytflmfbcapccdeaa.SumPlain
attribute [local go_sem] max2_int min2_int max_two min_two
theorem WGot.bad {w w9 : World} {r : SG × Int} {k : Int} {e : Ending} (hr : (z53, k) = r) (hb : Below w.heap.size w w9) (he : e = .returned (.tuple #[.agg (wgcells z53 (.slice none 0 0) (.slice none 0 0)), .int .i64 (wgno k)])) : WGot w r e w9 := by
  subst hr; subst he
  exact ⟨hb, _, _, rfl, Kd.R_nil _ _ _ _ _, Kd.R_nil _ _ _ _ _⟩
theorem wr_heap_alloc {a b : World} (h : a.heap = b.heap) (o : Obj) : (a.alloc o).heap = (b.alloc o).heap := by
  show a.heap.push o = b.heap.push o
  rw [h]
theorem wr_sum (src dst : Int) (b : List Int) (hb : byts b) (hm : b.length ≤ 140737488351232) (vd : Bool) (hv : sum_Valid.f [four8 src ++ four8 dst ++ [0, 6, ((b.length : Int) / 256) % 256, (b.length : Int) % 256], b] = some vd) :
    ∃ rs, tidewayref02_Sum.f (b.length + 13) (pseu src dst (b.length : Int) ++ b) = some rs ∧ (rs != 0) = !vd := by
  have hbb : byts (pseu src dst (b.length : Int) ++ b) := b_app (b_pseu _ _ _) hb
  refine ⟨_, WireSum.refSumF _ hbb (by rw [List.length_append, pseu_len]; omega) _ (by rw [List.length_append, pseu_len]; omega), ?_⟩
  have h1 : sum_Valid.f [pseu src dst (b.length : Int), b] = some vd := hv
  rw [WireSum.valid_two _ _ hbb, WireSum.validF _ (by simpa using hbb)] at h1
  have h2 := Option.some.inj h1
  have hn := norm_bd (wsum_nonneg true _ hbb)
  simp only [List.flatten_cons, List.flatten_nil, List.append_nil] at h2
  rw [← h2, bne, Bool.eq_iff_iff]
  simp; omega
set_option maxRecDepth 100000 in
set_option maxHeartbeats 16000000 in
theorem wr_Get (A : Option Addr) (c : Nat) (b : List Int) (src dst : Int) (vd : Bool) (w : World) (hC : Kd.C (Kd.int .u8) w A b.length b) (hc : b.length ≤ c) (hb : byts b) (hm : b.length ≤ 140737488351232) (hv : sum_Valid.f [four8 src ++ four8 dst ++ [0, 6, ((b.length : Int) / 256) % 256, (b.length : Int) % 256], b] = some vd) :
    Calls Try.prog 37 #[.slice A b.length c, .int .u32 src, .int .u32 dst] w fun e w' => WGot w (wgget vd b) e w' := by
  obtain ⟨rs, hrs, hvd⟩ := wr_sum src dst b hb hm vd hv
  have hps := WireSum.refPseudo src dst (b.length : Int) 0 (by omega)
  obtain ⟨r, hr⟩ : ∃ r, wgget vd b = r := ⟨_, rfl⟩
  rw [hr]
  have HR := Lib.hid hr; have HC := Lib.hid hC; have HCC := Lib.hid hc; have HBB := Lib.hid hb; have HM := Lib.hid hm; have HRS := Lib.hid hrs; have HPS := Lib.hid hps
  clear hr hC hb hv hrs hps
  go_enter Try.func37, Try.ntmps37
  go_upto_region 1 with (fail)
  obtain ⟨W1, hW1⟩ : ∃ W1, w.alloc (.cells (wgcells z53 (.slice none 0 0) (.slice none 0 0)) 53) = W1 := ⟨_, rfl⟩
  have hg6 : W1.heap[w.heap.size]? = some (.cells (wgcells z53 (.slice none 0 0) (.slice none 0 0)) 53 (0, 0)) := by rw [← hW1]; exact blk_new w _
  have hb1 : Below w.heap.size w W1 := by rw [← hW1]; exact (Below.refl _ w).alloc (Nat.le_refl _) _
  have hW1' : w.alloc (.cells #[.int .i64 0, .int .i64 0, .int .u32 0, .int .u32 0, .int .i64 0, .int .i64 0, .int .i64 0, .int .i64 0, .int .i64 0, .bool false, .bool false, .int .u32 0, .int .u32 0, .slice none 0 0, .slice none 0 0] 53) = W1 := hW1
  rw [hW1']
  obtain ⟨g6, hg⟩ : ∃ g6, w.heap.size = g6 := ⟨_, rfl⟩
  rw [hg] at hg6 ⊢
  have hge : w.heap.size ≤ g6 := by omega
  have HG6 := Lib.hid hg6; have HB := Lib.hid hb1
  clear hW1 hW1' hg6 hb1
  by_cases h20 : b.length < 20
  · have k20 : decide ((b.length : Int) < 20) = true := decide_eq_true (by omega)
    have HK := Lib.hid h20; clear h20
    go_wp2_with (first
      | (refine gate_ (.store 53 (.tmp 6) (.tmp 14)) rfl ?_; refine wg_store_op rfl rfl 53 (.tmp 6) (.tmp 14) rfl (.agg (wgcells z53 (.slice none 0 0) (.slice none 0 0))) _ _ 53 _ rfl rfl rfl (by kernel_rfl) rfl HG6.out rfl ?_; intro w9 h9 hg9))
    try simp only [Exit.inBlock, Exit.then]
    refine bodyPost_ret (results_ct Try.results37 _ _ g6 53 _ (0, 0) _ rfl h9 Try.underlying53 rfl (by kernel_rfl)) rfl ?_
    exact WGot.bad (k := 1) (by rw [← HR.out, wgget, if_pos HK.out]) (wr_tail rfl hge HB.out hg9) rfl
  have k20 : decide ((b.length : Int) < 20) = false := decide_eq_false (by omega)
  obtain ⟨ad, rfl, x0⟩ := wg_at A b w HC.out 12 (by omega)
  have Y0 := (HB.out.cell (World.block_lt_of_cell? w _ x0)).trans x0
  have Y0' : W1.cell? ⟨ad.block, ad.off + 12, none⟩ = some (.int .u8 (b.getD 12 0)) := Y0
  obtain ⟨y, hy⟩ : ∃ y, b.getD 12 0 = y := ⟨_, rfl⟩
  have hyb := wgb_at HBB.out 12 (by omega)
  rw [hy] at Y0' hyb
  have HY := Lib.hid hy; have HYB := Lib.hid hyb; have H20 := Lib.hid h20
  clear x0 Y0 hy
  go_upto_region 4 with (fail)
  obtain ⟨m, hm0⟩ : ∃ m : Nat, (y / 16 * 4).toNat = m := ⟨_, rfl⟩
  have hm1 : y / 16 * 4 = (m : Int) := by have := HYB.out; omega
  have HM60 := Lib.hid (show m ≤ 60 by have := HYB.out; omega)
  rw [hm1]
  have HW1 := Lib.hid (show wgget vd b = wgget1 vd b m by rw [wgget, if_neg H20.out, HY.out, hm0])
  clear hm0 hm1 Y0' h20 k20
  by_cases hm20 : m < 20
  · have HK := Lib.hid hm20
    go_wp2_with (first
      | (refine gate_ (.store 53 (.tmp 6) (.tmp 23)) rfl ?_; refine wg_store_op rfl rfl 53 (.tmp 6) (.tmp 23) rfl (.agg (wgcells z53 (.slice none 0 0) (.slice none 0 0))) _ _ 53 _ rfl rfl rfl (by kernel_rfl) rfl HG6.out rfl ?_; intro w9 h9 hg9))
    try simp only [Exit.inBlock, Exit.then]
    refine bodyPost_ret (results_ct Try.results37 _ _ g6 53 _ (0, 0) _ rfl h9 Try.underlying53 rfl (by kernel_rfl)) rfl ?_
    exact WGot.bad (k := 2) (by rw [← HR.out]; rw [HW1.out, wgget1, if_pos HK.out]) (wr_tail rfl hge HB.out hg9) rfl
  have HM20 := Lib.hid hm20
  by_cases hbm : b.length < m
  · have HK := Lib.hid hbm
    have hbi : decide ((b.length : Int) < (m : Int)) = true := decide_eq_true (by omega)
    go_wp2_with (first
      | (refine gate_ (.store 53 (.tmp 6) (.tmp 28)) rfl ?_; refine wg_store_op rfl rfl 53 (.tmp 6) (.tmp 28) rfl (.agg (wgcells z53 (.slice none 0 0) (.slice none 0 0))) _ _ 53 _ rfl rfl rfl (by kernel_rfl) rfl HG6.out rfl ?_; intro w9 h9 hg9))
    try simp only [Exit.inBlock, Exit.then]
    refine bodyPost_ret (results_ct Try.results37 _ _ g6 53 _ (0, 0) _ rfl h9 Try.underlying53 rfl (by kernel_rfl)) rfl ?_
    exact WGot.bad (k := 1) (by rw [← HR.out]; rw [HW1.out, wgget1, if_neg HM20.out, if_pos HK.out]) (wr_tail rfl hge HB.out hg9) rfl
  have HBM := Lib.hid hbm
  go_wp2_with (first
    | (go_at_call 60; refine (tidewayref02_Pseudo.calls _ src dst (b.length : Int) _ W1 HPS.out).mono ?_; rintro e w5 ⟨vp, rfl, hrp, hb5⟩; have HRP := Lib.hid hrp; have HB5 := Lib.hid hb5; clear hrp hb5)
    | (at_builtin; refine whold_of ?_))
  refine whold_mk ?_
  refine Kd.R_append_rows (Kd.int .u8) (Rr := fun x cs => cs = [.int .u8 x]) (w0 := W1) W1.heap.size rfl (.tmp 33) (.tmp 34) 34 5 (.int .u8 0) 1 rfl Try.underlying34 info5 rfl (by decide) (by decide) vp (pseu src dst (b.length : Int)) b (some ad) b.length c (fun _ => True) (fun _ => False) rfl rfl HRP.out (Kd.C_below HC.out (below_step HB.out HB5.out)) (fun _ _ e => e) (fun _ e => e.elim) (fun _ _ => trivial) HB5.out (by first | exact HB5.out.size | simp) (by have := HM.out; rw [pseu_len]; omega) ?_
  intro v6 w6 hR6 hB6 _ _
  obtain ⟨P, hP⟩ : ∃ P, pseu src dst (b.length : Int) ++ b = P := ⟨_, rfl⟩
  rw [hP] at hR6 HRS
  obtain ⟨A6, c6, e6⟩ := Kd.R_slice hR6
  subst e6
  have HR6 := Lib.hid hR6; have HB6 := Lib.hid (below_step HB.out hB6); have HG66 := Lib.hid (blk_below HG6.out hB6)
  clear hR6 hB6 hP HRP HB5 HB HG6 HPS
  cases vd with
  | false =>
    have hvd' : (rs != 0) = true := hvd
    go_upto_region 9 with (go_at_call 59; refine (tidewayref02_Sum.calls _ A6 c6 P rs w6 (Kd.R_reads' HR6.out).2.2 (Kd.R_reads' HR6.out).2.1 HRS.out).mono ?_; rintro e w7 ⟨rfl, hd7⟩; have HB7 := Lib.hid (below_step HB6.out hd7.below); have HG7 := Lib.hid (blk_below HG66.out hd7.below); clear hd7)
    go_wp2_with (first
      | (refine gate_ (.store 53 (.tmp 6) (.tmp 38)) rfl ?_; refine wg_store_op rfl rfl 53 (.tmp 6) (.tmp 38) rfl (.agg (wgcells z53 (.slice none 0 0) (.slice none 0 0))) _ _ 53 _ rfl rfl rfl (by kernel_rfl) rfl HG7.out rfl ?_; intro w9 h9 hg9))
    try simp only [Exit.inBlock, Exit.then]
    refine bodyPost_ret (results_ct Try.results37 _ _ g6 53 _ (0, 0) _ rfl h9 Try.underlying53 rfl (by kernel_rfl)) rfl ?_
    exact WGot.bad (k := 3) (by rw [← HR.out]; rw [HW1.out, wgget1, if_neg HM20.out, if_neg HBM.out, if_pos rfl]) (wr_tail rfl hge HB7.out hg9) rfl
  | true =>
    have hvd' : (rs != 0) = false := hvd
    go_upto_region 10 with (go_at_call 59; refine (tidewayref02_Sum.calls _ A6 c6 P rs w6 (Kd.R_reads' HR6.out).2.2 (Kd.R_reads' HR6.out).2.1 HRS.out).mono ?_; rintro e w7 ⟨rfl, hd7⟩; have HB7 := Lib.hid (below_step HB6.out hd7.below); have HG7 := Lib.hid (blk_below HG66.out hd7.below); clear hd7)
    clear HR6 HB6 HG66 HRS hvd hvd'
    obtain ⟨u0, hu0, _, hsz, _⟩ := info_parts info5
    have H20L : 20 ≤ b.length := by have := H20.out; omega
    have cut0 := cut_to (P := Try.prog) 34 5 .i64 Try.underlying34 hu0 (some ad) b.length c (2 : Int) (by omega) (by omega) HCC.out
    simp only [show ((2 : Int)).toNat = 2 from rfl] at cut0
    have R0 := Kd.C_take (m := 2) HC.out (by omega)
    obtain ⟨a0, ha0⟩ : ∃ a, (some ad : Option Addr) = a := ⟨_, rfl⟩
    have l0 : (b.take 2).length = 2 := by simp only [List.length_drop, List.length_take]; omega
    have G0 := wr_num (b.take 2) (by omega)
    have nb0 := wgn_bd (l := b.take 2) (fun x hx => HBB.out x (List.mem_of_mem_take hx))
    obtain ⟨n0, hn0⟩ : ∃ n, wgn (b.take 2) = n := ⟨_, rfl⟩
    rw [hn0] at G0 nb0
    have wn0 : wrap64 n0 = n0 := wg_w64 (by omega) (by omega)
    have wi0 : IntKind.i64.wrap n0 = n0 := (i64_w n0).trans wn0
    have K0 := Lib.hid (fun (W : World) (hB : Below w.heap.size w W) => tidewayref03_number.calls _ (some ad) c (b.take 2) n0 W (Kd.C_below R0 hB) (by have := HCC.out; omega) G0)
    rw [l0] at K0
    have cut1 := cut_mid (P := Try.prog) 34 5 .i64 .i64 Try.underlying34 hu0 1 hsz (some ad) b.length c (2 : Int) (4 : Int) (by omega) (by omega) (by omega) HCC.out
    simp only [show ((2 : Int)).toNat = 2 from rfl, show ((4 : Int)).toNat = 4 from rfl, Nat.mul_one, show 4 - 2 = 2 from rfl] at cut1
    obtain ⟨a1, ha1⟩ : ∃ a, (if c = 2 then some ad else (some ad).map (·.add 2)) = a := ⟨_, rfl⟩
    rw [ha1] at cut1
    have R1 := Kd.C_mid (lo := 2) (hi := 4) (c := c) HC.out (by omega) (by omega) HCC.out
    rw [show 2 * (Kd.int .u8).sz = 2 from rfl, ha1] at R1
    have l1 : ((b.take 4).drop 2).length = 2 := by simp only [List.length_drop, List.length_take]; omega
    have G1 := wr_num ((b.take 4).drop 2) (by omega)
    have nb1 := wgn_bd (l := (b.take 4).drop 2) (fun x hx => HBB.out x (List.mem_of_mem_take (List.mem_of_mem_drop hx)))
    obtain ⟨n1, hn1⟩ : ∃ n, wgn ((b.take 4).drop 2) = n := ⟨_, rfl⟩
    rw [hn1] at G1 nb1
    have wn1 : wrap64 n1 = n1 := wg_w64 (by omega) (by omega)
    have wi1 : IntKind.i64.wrap n1 = n1 := (i64_w n1).trans wn1
    have K1 := Lib.hid (fun (W : World) (hB : Below w.heap.size w W) => tidewayref03_number.calls _ a1 (c - 2) ((b.take 4).drop 2) n1 W (Kd.C_below R1 hB) (by have := HCC.out; omega) G1)
    rw [l1] at K1
    have cut2 := cut_mid (P := Try.prog) 34 5 .i64 .i64 Try.underlying34 hu0 1 hsz (some ad) b.length c (4 : Int) (8 : Int) (by omega) (by omega) (by omega) HCC.out
    simp only [show ((4 : Int)).toNat = 4 from rfl, show ((8 : Int)).toNat = 8 from rfl, Nat.mul_one, show 8 - 4 = 4 from rfl] at cut2
    obtain ⟨a2, ha2⟩ : ∃ a, (if c = 4 then some ad else (some ad).map (·.add 4)) = a := ⟨_, rfl⟩
    rw [ha2] at cut2
    have R2 := Kd.C_mid (lo := 4) (hi := 8) (c := c) HC.out (by omega) (by omega) HCC.out
    rw [show 4 * (Kd.int .u8).sz = 4 from rfl, ha2] at R2
    have l2 : ((b.take 8).drop 4).length = 4 := by simp only [List.length_drop, List.length_take]; omega
    have G2 := wr_num ((b.take 8).drop 4) (by omega)
    have nb2 := wgn_bd (l := (b.take 8).drop 4) (fun x hx => HBB.out x (List.mem_of_mem_take (List.mem_of_mem_drop hx)))
    obtain ⟨n2, hn2⟩ : ∃ n, wgn ((b.take 8).drop 4) = n := ⟨_, rfl⟩
    rw [hn2] at G2 nb2
    have wn2 : wrap64 n2 = n2 := wg_w64 (by omega) (by omega)
    have wi2 : IntKind.i64.wrap n2 = n2 := (i64_w n2).trans wn2
    have K2 := Lib.hid (fun (W : World) (hB : Below w.heap.size w W) => tidewayref03_number.calls _ a2 (c - 4) ((b.take 8).drop 4) n2 W (Kd.C_below R2 hB) (by have := HCC.out; omega) G2)
    rw [l2] at K2
    have cut3 := cut_mid (P := Try.prog) 34 5 .i64 .i64 Try.underlying34 hu0 1 hsz (some ad) b.length c (8 : Int) (12 : Int) (by omega) (by omega) (by omega) HCC.out
    simp only [show ((8 : Int)).toNat = 8 from rfl, show ((12 : Int)).toNat = 12 from rfl, Nat.mul_one, show 12 - 8 = 4 from rfl] at cut3
    obtain ⟨a3, ha3⟩ : ∃ a, (if c = 8 then some ad else (some ad).map (·.add 8)) = a := ⟨_, rfl⟩
    rw [ha3] at cut3
    have R3 := Kd.C_mid (lo := 8) (hi := 12) (c := c) HC.out (by omega) (by omega) HCC.out
    rw [show 8 * (Kd.int .u8).sz = 8 from rfl, ha3] at R3
    have l3 : ((b.take 12).drop 8).length = 4 := by simp only [List.length_drop, List.length_take]; omega
    have G3 := wr_num ((b.take 12).drop 8) (by omega)
    have nb3 := wgn_bd (l := (b.take 12).drop 8) (fun x hx => HBB.out x (List.mem_of_mem_take (List.mem_of_mem_drop hx)))
    obtain ⟨n3, hn3⟩ : ∃ n, wgn ((b.take 12).drop 8) = n := ⟨_, rfl⟩
    rw [hn3] at G3 nb3
    have wn3 : wrap64 n3 = n3 := wg_w64 (by omega) (by omega)
    have wi3 : IntKind.i64.wrap n3 = n3 := (i64_w n3).trans wn3
    have K3 := Lib.hid (fun (W : World) (hB : Below w.heap.size w W) => tidewayref03_number.calls _ a3 (c - 8) ((b.take 12).drop 8) n3 W (Kd.C_below R3 hB) (by have := HCC.out; omega) G3)
    rw [l3] at K3
    have cut4 := cut_mid (P := Try.prog) 34 5 .i64 .i64 Try.underlying34 hu0 1 hsz (some ad) b.length c (14 : Int) (16 : Int) (by omega) (by omega) (by omega) HCC.out
    simp only [show ((14 : Int)).toNat = 14 from rfl, show ((16 : Int)).toNat = 16 from rfl, Nat.mul_one, show 16 - 14 = 2 from rfl] at cut4
    obtain ⟨a4, ha4⟩ : ∃ a, (if c = 14 then some ad else (some ad).map (·.add 14)) = a := ⟨_, rfl⟩
    rw [ha4] at cut4
    have R4 := Kd.C_mid (lo := 14) (hi := 16) (c := c) HC.out (by omega) (by omega) HCC.out
    rw [show 14 * (Kd.int .u8).sz = 14 from rfl, ha4] at R4
    have l4 : ((b.take 16).drop 14).length = 2 := by simp only [List.length_drop, List.length_take]; omega
    have G4 := wr_num ((b.take 16).drop 14) (by omega)
    have nb4 := wgn_bd (l := (b.take 16).drop 14) (fun x hx => HBB.out x (List.mem_of_mem_take (List.mem_of_mem_drop hx)))
    obtain ⟨n4, hn4⟩ : ∃ n, wgn ((b.take 16).drop 14) = n := ⟨_, rfl⟩
    rw [hn4] at G4 nb4
    have wn4 : wrap64 n4 = n4 := wg_w64 (by omega) (by omega)
    have wi4 : IntKind.i64.wrap n4 = n4 := (i64_w n4).trans wn4
    have K4 := Lib.hid (fun (W : World) (hB : Below w.heap.size w W) => tidewayref03_number.calls _ a4 (c - 14) ((b.take 16).drop 14) n4 W (Kd.C_below R4 hB) (by have := HCC.out; omega) G4)
    rw [l4] at K4
    have cut5 := cut_mid (P := Try.prog) 34 5 .i64 .i64 Try.underlying34 hu0 1 hsz (some ad) b.length c (18 : Int) (20 : Int) (by omega) (by omega) (by omega) HCC.out
    simp only [show ((18 : Int)).toNat = 18 from rfl, show ((20 : Int)).toNat = 20 from rfl, Nat.mul_one, show 20 - 18 = 2 from rfl] at cut5
    obtain ⟨a5, ha5⟩ : ∃ a, (if c = 18 then some ad else (some ad).map (·.add 18)) = a := ⟨_, rfl⟩
    rw [ha5] at cut5
    have R5 := Kd.C_mid (lo := 18) (hi := 20) (c := c) HC.out (by omega) (by omega) HCC.out
    rw [show 18 * (Kd.int .u8).sz = 18 from rfl, ha5] at R5
    have l5 : ((b.take 20).drop 18).length = 2 := by simp only [List.length_drop, List.length_take]; omega
    have G5 := wr_num ((b.take 20).drop 18) (by omega)
    have nb5 := wgn_bd (l := (b.take 20).drop 18) (fun x hx => HBB.out x (List.mem_of_mem_take (List.mem_of_mem_drop hx)))
    obtain ⟨n5, hn5⟩ : ∃ n, wgn ((b.take 20).drop 18) = n := ⟨_, rfl⟩
    rw [hn5] at G5 nb5
    have wn5 : wrap64 n5 = n5 := wg_w64 (by omega) (by omega)
    have wi5 : IntKind.i64.wrap n5 = n5 := (i64_w n5).trans wn5
    have K5 := Lib.hid (fun (W : World) (hB : Below w.heap.size w W) => tidewayref03_number.calls _ a5 (c - 18) ((b.take 20).drop 18) n5 W (Kd.C_below R5 hB) (by have := HCC.out; omega) G5)
    rw [l5] at K5
    obtain ⟨y, hy⟩ : ∃ y, b.getD 13 0 = y := ⟨_, rfl⟩
    have hyb := wgb_at HBB.out 13 (by omega)
    obtain ⟨ad', ead, y0⟩ := wg_at (some ad) b w HC.out 13 (by omega)
    obtain rfl := Option.some.inj ead
    have Y0 := (HB7.out.cell (World.block_lt_of_cell? w _ y0)).trans y0
    rw [hy] at hyb
    have Y0' : w7.cell? ⟨ad.block, ad.off + 13, none⟩ = some (.int .u8 y) := by rw [← hy]; exact Y0
    have wy : IntKind.i64.wrap y = y := (i64_w y).trans (wg_w64 (by omega) (by omega))
    have wy' : wrap64 y = y := wg_w64 (by omega) (by omega)
    have h13 : 13 < b.length := by omega
    have h13i : (13 : Int) < (b.length : Int) := by omega
    have HSEG := Lib.hid (show wgseg b = ⟨n0, n1, n2, n3, y, n4, n5, -1, -1, false, false, 0, 0, [], []⟩ from by unfold wgseg; rw [hn0, hn1, hn2, hn3, hn4, hn5, hy])
    clear R0 l0 G0 nb0 hn0 ha0 R1 l1 G1 nb1 hn1 ha1 R2 l2 G2 nb2 hn2 ha2 R3 l3 G3 nb3 hn3 ha3 R4 l4 G4 nb4 hn4 ha4 R5 l5 G5 nb5 hn5 ha5 hy hyb ead y0 Y0 H20L
    have hBy : Below w7.heap.size w7 w7.drew := below_drew1 (Below.refl w7.heap.size w7)
    have hHy : w7.drew.heap = w7.heap := rfl
    refine start_ (n := 29) (S := fun w' => w'.cell? ⟨ad.block, ad.off + 13, none⟩ = some (.int .u8 y)) (ds := [28]) #[O,O,O,O,O,O,O,O,O,O,O,O,O,O,O,O,O,O,O,O,O,O,O,O,O,O,O,O,O] (by kernel_rfl) rfl rfl (Y0') (fun hHeld => ?_)
    refine pure_ (i := 0) (N := some 39) (v := ?_) (a' := ?_) #[I,O,O,O,O,O,O,O,O,O,O,O,O,O,O,O,O,O,O,O,O,O,O,O,O,O,O,O,O] rfl rfl (by kernel_rfl) (fun _ _ _ h => h) (Or.inl ⟨by rfl, ?_⟩) ?_ ?_
    rotate_left
    · intro w'
      go_simp
      with_reducible rfl
    rotate_left
    · simp only [Act.put, sA_, sZ_, sS_, i64_w, i32_w]
      rfl
    refine pure_ (i := 1) (N := some 40) (v := ?_) (a' := ?_) #[I,I,O,O,O,O,O,O,O,O,O,O,O,O,O,O,O,O,O,O,O,O,O,O,O,O,O,O,O] rfl rfl (by kernel_rfl) (fun _ _ _ h => h) (Or.inl ⟨by rfl, ?_⟩) ?_ ?_
    rotate_left
    · intro w'
      go_simp
      with_reducible rfl
    rotate_left
    · simp only [Act.put, sA_, sZ_, sS_, i64_w, i32_w]
      rfl
    refine pure_ (i := 4) (N := some 43) (v := ?_) (a' := ?_) #[I,I,O,O,I,O,O,O,O,O,O,O,O,O,O,O,O,O,O,O,O,O,O,O,O,O,O,O,O] rfl rfl (by kernel_rfl) (fun _ _ _ h => h) (Or.inl ⟨by rfl, ?_⟩) ?_ ?_
    rotate_left
    · intro w'
      go_simp
      with_reducible rfl
    rotate_left
    · simp only [Act.put, sA_, sZ_, sS_, i64_w, i32_w]
      rfl
    refine pure_ (i := 5) (N := some 44) (v := ?_) (a' := ?_) #[I,I,O,O,I,I,O,O,O,O,O,O,O,O,O,O,O,O,O,O,O,O,O,O,O,O,O,O,O] rfl rfl (by kernel_rfl) (fun _ _ _ h => h) (Or.inl ⟨by rfl, ?_⟩) ?_ ?_
    rotate_left
    · intro w'
      go_simp
      with_reducible rfl
    rotate_left
    · simp only [Act.put, sA_, sZ_, sS_, i64_w, i32_w]
      rfl
    refine pure_ (i := 8) (N := some 47) (v := ?_) (a' := ?_) #[I,I,O,O,I,I,O,O,I,O,O,O,O,O,O,O,O,O,O,O,O,O,O,O,O,O,O,O,O] rfl rfl (by kernel_rfl) (fun _ _ _ h => h) (Or.inl ⟨by rfl, ?_⟩) ?_ ?_
    rotate_left
    · intro w'
      go_simp
      with_reducible rfl
    rotate_left
    · simp only [Act.put, sA_, sZ_, sS_, i64_w, i32_w]
      rfl
    refine pure_ (i := 9) (N := some 48) (v := ?_) (a' := ?_) #[I,I,O,O,I,I,O,O,I,I,O,O,O,O,O,O,O,O,O,O,O,O,O,O,O,O,O,O,O] rfl rfl (by kernel_rfl) (fun _ _ _ h => h) (Or.inl ⟨by rfl, ?_⟩) ?_ ?_
    rotate_left
    · intro w'
      go_simp
      with_reducible rfl
    rotate_left
    · simp only [Act.put, sA_, sZ_, sS_, i64_w, i32_w]
      rfl
    refine pure_ (i := 11) (N := some 50) (v := ?_) (a' := ?_) #[I,I,O,O,I,I,O,O,I,I,O,I,O,O,O,O,O,O,O,O,O,O,O,O,O,O,O,O,O] rfl rfl (by kernel_rfl) (fun _ _ _ h => h) (Or.inl ⟨by rfl, ?_⟩) ?_ ?_
    rotate_left
    · intro w'
      go_simp
      with_reducible rfl
    rotate_left
    · simp only [Act.put, sA_, sZ_, sS_, i64_w, i32_w]
      rfl
    refine pure_ (i := 12) (N := some 51) (v := ?_) (a' := ?_) #[I,I,O,O,I,I,O,O,I,I,O,I,I,O,O,O,O,O,O,O,O,O,O,O,O,O,O,O,O] rfl rfl (by kernel_rfl) (fun _ _ _ h => h) (Or.inl ⟨by rfl, ?_⟩) ?_ ?_
    rotate_left
    · intro w'
      go_simp
      with_reducible rfl
    rotate_left
    · simp only [Act.put, sA_, sZ_, sS_, i64_w, i32_w]
      rfl
    refine pure_ (i := 14) (N := some 53) (v := ?_) (a' := ?_) #[I,I,O,O,I,I,O,O,I,I,O,I,I,O,I,O,O,O,O,O,O,O,O,O,O,O,O,O,O] rfl rfl (by kernel_rfl) (fun _ _ _ h => h) (Or.inl ⟨by rfl, ?_⟩) ?_ ?_
    rotate_left
    · intro w'
      go_simp
      with_reducible rfl
    rotate_left
    · simp only [Act.put, sA_, sZ_, sS_, i64_w, i32_w]
      rfl
    refine pure_ (i := 15) (N := some 54) (v := ?_) (a' := ?_) #[I,I,O,O,I,I,O,O,I,I,O,I,I,O,I,I,O,O,O,O,O,O,O,O,O,O,O,O,O] rfl rfl (by kernel_rfl) (fun _ _ _ h => h) (Or.inl ⟨by rfl, ?_⟩) ?_ ?_
    rotate_left
    · intro w'
      go_simp
      with_reducible rfl
    rotate_left
    · simp only [Act.put, sA_, sZ_, sS_, i64_w, i32_w]
      rfl
    refine pure_ (i := 18) (N := some 57) (v := ?_) (a' := ?_) #[I,I,O,O,I,I,O,O,I,I,O,I,I,O,I,I,O,O,I,O,O,O,O,O,O,O,O,O,O] rfl rfl (by kernel_rfl) (fun _ _ _ h => h) (Or.inl ⟨by rfl, ?_⟩) ?_ ?_
    rotate_left
    · intro w'
      go_simp
      with_reducible rfl
    rotate_left
    · simp only [Act.put, sA_, sZ_, sS_, i64_w, i32_w]
      rfl
    refine pure_ (i := 19) (N := some 58) (v := ?_) (a' := ?_) #[I,I,O,O,I,I,O,O,I,I,O,I,I,O,I,I,O,O,I,I,O,O,O,O,O,O,O,O,O] rfl rfl (by kernel_rfl) (fun _ _ _ h => h) (Or.inl ⟨by rfl, ?_⟩) ?_ ?_
    rotate_left
    · intro w'
      go_simp
      with_reducible rfl
    rotate_left
    · simp only [Act.put, sA_, sZ_, sS_, i64_w, i32_w]
      rfl
    refine pure_ (i := 22) (N := some 61) (v := ?_) (a' := ?_) #[I,I,O,O,I,I,O,O,I,I,O,I,I,O,I,I,O,O,I,I,O,O,I,O,O,O,O,O,O] rfl rfl (by kernel_rfl) (fun _ _ _ h => h) (Or.inl ⟨by rfl, ?_⟩) ?_ ?_
    rotate_left
    · intro w'
      go_simp
      with_reducible rfl
    rotate_left
    · simp only [Act.put, sA_, sZ_, sS_, i64_w, i32_w]
      rfl
    refine pure_ (i := 23) (N := some 62) (v := ?_) (a' := ?_) #[I,I,O,O,I,I,O,O,I,I,O,I,I,O,I,I,O,O,I,I,O,O,I,I,O,O,O,O,O] rfl rfl (by kernel_rfl) (fun _ _ _ h => h) (Or.inl ⟨by rfl, ?_⟩) ?_ ?_
    rotate_left
    · intro w'
      go_simp
      with_reducible rfl
    rotate_left
    · simp only [Act.put, sA_, sZ_, sS_, i64_w, i32_w]
      rfl
    refine take_ (i := 16) (N := some 55) (v := ?_) (a' := ?_) #[I,I,O,O,I,I,O,O,I,I,O,I,I,O,I,I,I,O,I,I,O,O,I,I,O,O,O,O,O] rfl rfl (by kernel_rfl) (fun _ _ _ h => h) (Or.inl ⟨by rfl, ?_⟩) hHeld ?_ ?_
    rotate_left
    · intro w' s0
      go_simp
      with_reducible rfl
    rotate_left
    · simp only [Act.put, sA_, sZ_, sS_, i64_w, i32_w]
      rfl
    refine pure_ (i := 17) (N := some 56) (v := ?_) (a' := ?_) #[I,I,O,O,I,I,O,O,I,I,O,I,I,O,I,I,I,I,I,I,O,O,I,I,O,O,O,O,O] rfl rfl (by kernel_rfl) (fun _ _ _ h => h) (Or.inl ⟨by rfl, ?_⟩) ?_ ?_
    rotate_left
    · intro w'
      go_simp
      with_reducible rfl
    rotate_left
    · simp only [Act.put, sA_, sZ_, sS_, i64_w, i32_w]
      rfl
    refine join_ (σ := Unit) 1 #[I,I,I,I,I,I,I,I,I,I,I,I,I,I,I,I,I,I,I,I,I,I,I,I,I,I,I,I,O] (fun _ => [(41, .int .u32 n0), (42, .int .i64 n0), (45, .int .u32 n1), (46, .int .i64 n1), (49, .int .u32 n2), (52, .int .u32 n3), (59, .int .u32 n4), (60, .int .i64 n4), (63, .int .u32 n5), (64, .int .i64 n5), (65, .agg #[.int .i64 n0, .int .i64 n1, .int .u32 n2, .int .u32 n3, .int .i64 y, .int .i64 n4, .int .i64 n5, .int .i64 (-1), .int .i64 (-1), .bool false, .bool false, .int .u32 0, .int .u32 0, .slice none 0 0, .slice none 0 0]), (9, .pointer (some ⟨w7.heap.size, 0, none⟩))]) (fun _ wy => Below w7.heap.size w7 wy ∧ wy.heap = (w7.alloc (.cells #[.int .i64 0, .int .i64 0, .int .u32 0, .int .u32 0, .int .i64 0, .int .i64 0, .int .i64 0, .int .i64 0, .int .i64 0, .bool false, .bool false, .int .u32 0, .int .u32 0, .slice none 0 0, .slice none 0 0] 53)).heap) ?_ ?_
    rotate_left
    · intro hJ2_6_10_13_20_24_27
      refine join_ (σ := Unit) 2 #[I,I,I,I,I,I,I,I,I,I,I,I,I,I,I,I,I,I,I,I,I,I,I,I,I,I,I,O,O] (fun _ => [(41, .int .u32 n0), (42, .int .i64 n0), (45, .int .u32 n1), (46, .int .i64 n1), (49, .int .u32 n2), (52, .int .u32 n3), (59, .int .u32 n4), (60, .int .i64 n4), (63, .int .u32 n5), (64, .int .i64 n5), (65, .agg #[.int .i64 n0, .int .i64 n1, .int .u32 n2, .int .u32 n3, .int .i64 y, .int .i64 n4, .int .i64 n5, .int .i64 (-1), .int .i64 (-1), .bool false, .bool false, .int .u32 0, .int .u32 0, .slice none 0 0, .slice none 0 0])]) (fun _ wy => Below w7.heap.size w7 wy ∧ wy.heap = w7.heap) ?_ ?_
      rotate_left
      · intro hJ2_6_10_13_20_24
        refine join_ (σ := Unit) 4 #[I,I,I,I,I,I,I,I,I,I,I,I,I,I,I,I,I,I,I,I,I,I,I,I,O,O,O,I,O] (fun _ => [(41, .int .u32 n0), (42, .int .i64 n0), (45, .int .u32 n1), (46, .int .i64 n1), (49, .int .u32 n2), (52, .int .u32 n3), (59, .int .u32 n4), (60, .int .i64 n4), (9, .pointer (some ⟨w7.heap.size, 0, none⟩))]) (fun _ wy => Below w7.heap.size w7 wy ∧ wy.heap = (w7.alloc (.cells #[.int .i64 0, .int .i64 0, .int .u32 0, .int .u32 0, .int .i64 0, .int .i64 0, .int .i64 0, .int .i64 0, .int .i64 0, .bool false, .bool false, .int .u32 0, .int .u32 0, .slice none 0 0, .slice none 0 0] 53)).heap) ?_ ?_
        rotate_left
        · intro hJ2_6_10_13_20_27
          refine join_ (σ := Unit) 5 #[I,I,I,I,I,I,I,I,I,I,I,I,I,I,I,I,I,I,I,I,I,I,I,I,O,O,O,O,O] (fun _ => [(41, .int .u32 n0), (42, .int .i64 n0), (45, .int .u32 n1), (46, .int .i64 n1), (49, .int .u32 n2), (52, .int .u32 n3), (59, .int .u32 n4), (60, .int .i64 n4)]) (fun _ wy => Below w7.heap.size w7 wy ∧ wy.heap = w7.heap) ?_ ?_
          rotate_left
          · intro hJ2_6_10_13_20
            refine join_ (σ := Unit) 6 #[I,I,I,I,I,I,I,I,I,I,I,I,I,I,I,I,I,I,I,I,O,O,I,I,O,O,O,I,O] (fun _ => [(41, .int .u32 n0), (42, .int .i64 n0), (45, .int .u32 n1), (46, .int .i64 n1), (49, .int .u32 n2), (52, .int .u32 n3), (9, .pointer (some ⟨w7.heap.size, 0, none⟩))]) (fun _ wy => Below w7.heap.size w7 wy ∧ wy.heap = (w7.alloc (.cells #[.int .i64 0, .int .i64 0, .int .u32 0, .int .u32 0, .int .i64 0, .int .i64 0, .int .i64 0, .int .i64 0, .int .i64 0, .bool false, .bool false, .int .u32 0, .int .u32 0, .slice none 0 0, .slice none 0 0] 53)).heap) ?_ ?_
            rotate_left
            · intro hJ2_6_10_13_27
              refine join_ (σ := Unit) 7 #[I,I,I,I,I,I,I,I,I,I,I,I,I,I,I,I,I,I,I,I,O,O,I,I,O,O,O,O,O] (fun _ => [(41, .int .u32 n0), (42, .int .i64 n0), (45, .int .u32 n1), (46, .int .i64 n1), (49, .int .u32 n2), (52, .int .u32 n3)]) (fun _ wy => Below w7.heap.size w7 wy ∧ wy.heap = w7.heap) ?_ ?_
              rotate_left
              · intro hJ2_6_10_13
                refine join_ (σ := Unit) 7 #[I,I,I,I,I,I,I,I,I,I,I,I,I,O,I,I,I,I,I,I,O,O,I,I,O,O,O,I,O] (fun _ => [(41, .int .u32 n0), (42, .int .i64 n0), (45, .int .u32 n1), (46, .int .i64 n1), (49, .int .u32 n2), (9, .pointer (some ⟨w7.heap.size, 0, none⟩))]) (fun _ wy => Below w7.heap.size w7 wy ∧ wy.heap = (w7.alloc (.cells #[.int .i64 0, .int .i64 0, .int .u32 0, .int .u32 0, .int .i64 0, .int .i64 0, .int .i64 0, .int .i64 0, .int .i64 0, .bool false, .bool false, .int .u32 0, .int .u32 0, .slice none 0 0, .slice none 0 0] 53)).heap) ?_ ?_
                rotate_left
                · intro hJ2_6_10_27
                  refine join_ (σ := Unit) 8 #[I,I,I,I,I,I,I,I,I,I,I,I,I,O,I,I,I,I,I,I,O,O,I,I,O,O,O,O,O] (fun _ => [(41, .int .u32 n0), (42, .int .i64 n0), (45, .int .u32 n1), (46, .int .i64 n1), (49, .int .u32 n2)]) (fun _ wy => Below w7.heap.size w7 wy ∧ wy.heap = w7.heap) ?_ ?_
                  rotate_left
                  · intro hJ2_6_10
                    refine join_ (σ := Unit) 8 #[I,I,I,I,I,I,I,I,I,I,O,I,I,O,I,I,I,I,I,I,O,O,I,I,O,O,O,I,O] (fun _ => [(41, .int .u32 n0), (42, .int .i64 n0), (45, .int .u32 n1), (46, .int .i64 n1), (9, .pointer (some ⟨w7.heap.size, 0, none⟩))]) (fun _ wy => Below w7.heap.size w7 wy ∧ wy.heap = (w7.alloc (.cells #[.int .i64 0, .int .i64 0, .int .u32 0, .int .u32 0, .int .i64 0, .int .i64 0, .int .i64 0, .int .i64 0, .int .i64 0, .bool false, .bool false, .int .u32 0, .int .u32 0, .slice none 0 0, .slice none 0 0] 53)).heap) ?_ ?_
                    rotate_left
                    · intro hJ2_6_27
                      refine join_ (σ := Unit) 9 #[I,I,I,I,I,I,I,I,I,I,O,I,I,O,I,I,I,I,I,I,O,O,I,I,O,O,O,O,O] (fun _ => [(41, .int .u32 n0), (42, .int .i64 n0), (45, .int .u32 n1), (46, .int .i64 n1)]) (fun _ wy => Below w7.heap.size w7 wy ∧ wy.heap = w7.heap) ?_ ?_
                      rotate_left
                      · intro hJ2_6
                        refine join_ (σ := Unit) 10 #[I,I,I,I,I,I,O,O,I,I,O,I,I,O,I,I,I,I,I,I,O,O,I,I,O,O,O,I,O] (fun _ => [(41, .int .u32 n0), (42, .int .i64 n0), (9, .pointer (some ⟨w7.heap.size, 0, none⟩))]) (fun _ wy => Below w7.heap.size w7 wy ∧ wy.heap = (w7.alloc (.cells #[.int .i64 0, .int .i64 0, .int .u32 0, .int .u32 0, .int .i64 0, .int .i64 0, .int .i64 0, .int .i64 0, .int .i64 0, .bool false, .bool false, .int .u32 0, .int .u32 0, .slice none 0 0, .slice none 0 0] 53)).heap) ?_ ?_
                        rotate_left
                        · intro hJ2_27
                          refine join_ (σ := Unit) 11 #[I,I,I,I,I,I,O,O,I,I,O,I,I,O,I,I,I,I,I,I,O,O,I,I,O,O,O,O,O] (fun _ => [(41, .int .u32 n0), (42, .int .i64 n0)]) (fun _ wy => Below w7.heap.size w7 wy ∧ wy.heap = w7.heap) ?_ ?_
                          rotate_left
                          · intro hJ2
                            refine join_ (σ := Unit) 12 #[I,I,O,O,I,I,O,O,I,I,O,I,I,O,I,I,I,I,I,I,O,O,I,I,O,O,O,I,O] (fun _ => [(9, .pointer (some ⟨w7.heap.size, 0, none⟩))]) (fun _ wy => Below w7.heap.size w7 wy ∧ wy.heap = (w7.alloc (.cells #[.int .i64 0, .int .i64 0, .int .u32 0, .int .u32 0, .int .i64 0, .int .i64 0, .int .i64 0, .int .i64 0, .int .i64 0, .bool false, .bool false, .int .u32 0, .int .u32 0, .slice none 0 0, .slice none 0 0] 53)).heap) ?_ ?_
                            rotate_left
                            · intro hJ27
                              refine two_ (i := 2) (j := 27) (Ni := some 41) (Nj := some 9) #[I,I,I,O,I,I,O,O,I,I,O,I,I,O,I,I,I,I,I,I,O,O,I,I,O,O,O,O,O] #[I,I,O,O,I,I,O,O,I,I,O,I,I,O,I,I,I,I,I,I,O,O,I,I,O,O,O,I,O] rfl rfl rfl rfl (by kernel_rfl) (by decide) (by decide) (fun K hK => ?_) (fun K hK => ?_)
                              · skip
                                refine goes_ Try.func61 (by kernel_rfl) rfl #[.slice (some ad) 2 c] (by rfl) rfl rfl (by simp only [List.map_toArray, List.map_cons, List.map_nil]; rfl) ?_
                                with_reducible refine (K0.out _ (below_step HB7.out hBy)).mono ?_
                                rintro e wn ⟨rfl, nd, rfl⟩
                                refine ⟨_, rfl, ?_⟩
                                refine hK.out _ _ (hHeld) (fun hHeld => ?_)
                                clear hK K
                                refine norm_ (a' := ?_) ?_ ?_
                                rotate_left
                                · show Act.put _ (some 41) _ = _
                                  simp only [Act.put, sA_, sZ_, sS_, i64_w, i32_w]
                                  rfl
                                refine pure_ (i := 3) (N := some 42) (v := ?_) (a' := ?_) #[I,I,I,I,I,I,O,O,I,I,O,I,I,O,I,I,I,I,I,I,O,O,I,I,O,O,O,O,O] rfl rfl (by kernel_rfl) (fun _ _ _ h => h) (Or.inl ⟨by rfl, ?_⟩) ?_ ?_
                                rotate_left
                                · intro w'
                                  go_simp
                                  with_reducible rfl
                                rotate_left
                                · simp only [Act.put, sA_, sZ_, sS_, i64_w, i32_w]
                                  rfl
                                exact norm_ (by first | (simp only [putAll, Act.put, sA_, sZ_, sS_]; done) | (simp only [putAll, Act.put, sA_, sZ_, sS_]; rfl)) (hJ2 () _ ⟨pw_below_drewN hBy _, hHy⟩)
                              · skip
                                refine value_ (w1 := ?_) (v := ?_) (by rfl) rfl ?_ ?_
                                rotate_left 2
                                · go_simp
                                  constructor
                                  · rfl
                                  · rfl
                                try rw [hHy]
                                refine hK.out _ _ ((((below_alloc (Below.refl _ _) _).cell (World.block_lt_of_cell? _ _ hHeld)).trans hHeld)) (fun hHeld => ?_)
                                clear hK K
                                refine norm_ (a' := ?_) ?_ ?_
                                rotate_left
                                · show Act.put _ (some 9) _ = _
                                  simp only [Act.put, sA_, sZ_, sS_, i64_w, i32_w]
                                  rfl
                                exact norm_ (by first | (simp only [putAll, Act.put, sA_, sZ_, sS_]; done) | (simp only [putAll, Act.put, sA_, sZ_, sS_]; rfl)) (hJ27 () _ ⟨below_alloc hBy _, wr_heap_alloc hHy _⟩)
                            · skip
                              rintro _ wy ⟨hBy, hHy⟩
                              have hHeld : wy.cell? ⟨ad.block, ad.off + 13, none⟩ = some (.int .u8 y) := (hBy.cell (World.block_lt_of_cell? _ _ Y0')).trans Y0'
                              refine norm_ (a' := ?_) ?_ ?_
                              rotate_left
                              · simp only [putAll, Act.put, sA_, sZ_, sS_]
                                rfl
                              refine one_ (i := 2) (N := some 41) #[I,I,I,O,I,I,O,O,I,I,O,I,I,O,I,I,I,I,I,I,O,O,I,I,O,O,O,I,O] rfl rfl (by kernel_rfl) (by decide) (fun K hK => ?_)
                              refine goes_ Try.func61 (by kernel_rfl) rfl #[.slice (some ad) 2 c] (by rfl) rfl rfl (by simp only [List.map_toArray, List.map_cons, List.map_nil]; rfl) ?_
                              with_reducible refine (K0.out _ (below_step HB7.out hBy)).mono ?_
                              rintro e wn ⟨rfl, nd, rfl⟩
                              refine ⟨_, rfl, ?_⟩
                              refine hK.out _ _ (hHeld) (fun hHeld => ?_)
                              clear hK K
                              refine norm_ (a' := ?_) ?_ ?_
                              rotate_left
                              · show Act.put _ (some 41) _ = _
                                simp only [Act.put, sA_, sZ_, sS_, i64_w, i32_w]
                                rfl
                              refine pure_ (i := 3) (N := some 42) (v := ?_) (a' := ?_) #[I,I,I,I,I,I,O,O,I,I,O,I,I,O,I,I,I,I,I,I,O,O,I,I,O,O,O,I,O] rfl rfl (by kernel_rfl) (fun _ _ _ h => h) (Or.inl ⟨by rfl, ?_⟩) ?_ ?_
                              rotate_left
                              · intro w'
                                go_simp
                                with_reducible rfl
                              rotate_left
                              · simp only [Act.put, sA_, sZ_, sS_, i64_w, i32_w]
                                rfl
                              exact norm_ (by first | (simp only [putAll, Act.put, sA_, sZ_, sS_]; done) | (simp only [putAll, Act.put, sA_, sZ_, sS_]; rfl)) (hJ2_27 () _ ⟨pw_below_drewN hBy _, hHy⟩)
                          · skip
                            rintro _ wy ⟨hBy, hHy⟩
                            have hHeld : wy.cell? ⟨ad.block, ad.off + 13, none⟩ = some (.int .u8 y) := (hBy.cell (World.block_lt_of_cell? _ _ Y0')).trans Y0'
                            refine norm_ (a' := ?_) ?_ ?_
                            rotate_left
                            · simp only [putAll, Act.put, sA_, sZ_, sS_]
                              rfl
                            refine two_ (i := 6) (j := 27) (Ni := some 45) (Nj := some 9) #[I,I,I,I,I,I,I,O,I,I,O,I,I,O,I,I,I,I,I,I,O,O,I,I,O,O,O,O,O] #[I,I,I,I,I,I,O,O,I,I,O,I,I,O,I,I,I,I,I,I,O,O,I,I,O,O,O,I,O] rfl rfl rfl rfl (by kernel_rfl) (by decide) (by decide) (fun K hK => ?_) (fun K hK => ?_)
                            · skip
                              refine goes_ Try.func61 (by kernel_rfl) rfl #[.slice a1 2 (c - 2)] (by rfl) rfl rfl (by simp only [List.map_toArray, List.map_cons, List.map_nil]; rfl) ?_
                              with_reducible refine (K1.out _ (below_step HB7.out hBy)).mono ?_
                              rintro e wn ⟨rfl, nd, rfl⟩
                              refine ⟨_, rfl, ?_⟩
                              refine hK.out _ _ (hHeld) (fun hHeld => ?_)
                              clear hK K
                              refine norm_ (a' := ?_) ?_ ?_
                              rotate_left
                              · show Act.put _ (some 45) _ = _
                                simp only [Act.put, sA_, sZ_, sS_, i64_w, i32_w]
                                rfl
                              refine pure_ (i := 7) (N := some 46) (v := ?_) (a' := ?_) #[I,I,I,I,I,I,I,I,I,I,O,I,I,O,I,I,I,I,I,I,O,O,I,I,O,O,O,O,O] rfl rfl (by kernel_rfl) (fun _ _ _ h => h) (Or.inl ⟨by rfl, ?_⟩) ?_ ?_
                              rotate_left
                              · intro w'
                                go_simp
                                with_reducible rfl
                              rotate_left
                              · simp only [Act.put, sA_, sZ_, sS_, i64_w, i32_w]
                                rfl
                              exact norm_ (by first | (simp only [putAll, Act.put, sA_, sZ_, sS_]; done) | (simp only [putAll, Act.put, sA_, sZ_, sS_]; rfl)) (hJ2_6 () _ ⟨pw_below_drewN hBy _, hHy⟩)
                            · skip
                              refine value_ (w1 := ?_) (v := ?_) (by rfl) rfl ?_ ?_
                              rotate_left 2
                              · go_simp
                                constructor
                                · rfl
                                · rfl
                              try rw [hHy]
                              refine hK.out _ _ ((((below_alloc (Below.refl _ _) _).cell (World.block_lt_of_cell? _ _ hHeld)).trans hHeld)) (fun hHeld => ?_)
                              clear hK K
                              refine norm_ (a' := ?_) ?_ ?_
                              rotate_left
                              · show Act.put _ (some 9) _ = _
                                simp only [Act.put, sA_, sZ_, sS_, i64_w, i32_w]
                                rfl
                              exact norm_ (by first | (simp only [putAll, Act.put, sA_, sZ_, sS_]; done) | (simp only [putAll, Act.put, sA_, sZ_, sS_]; rfl)) (hJ2_27 () _ ⟨below_alloc hBy _, wr_heap_alloc hHy _⟩)
                        · skip
                          rintro _ wy ⟨hBy, hHy⟩
                          have hHeld : wy.cell? ⟨ad.block, ad.off + 13, none⟩ = some (.int .u8 y) := (hBy.cell (World.block_lt_of_cell? _ _ Y0')).trans Y0'
                          refine norm_ (a' := ?_) ?_ ?_
                          rotate_left
                          · simp only [putAll, Act.put, sA_, sZ_, sS_]
                            rfl
                          refine one_ (i := 6) (N := some 45) #[I,I,I,I,I,I,I,O,I,I,O,I,I,O,I,I,I,I,I,I,O,O,I,I,O,O,O,I,O] rfl rfl (by kernel_rfl) (by decide) (fun K hK => ?_)
                          refine goes_ Try.func61 (by kernel_rfl) rfl #[.slice a1 2 (c - 2)] (by rfl) rfl rfl (by simp only [List.map_toArray, List.map_cons, List.map_nil]; rfl) ?_
                          with_reducible refine (K1.out _ (below_step HB7.out hBy)).mono ?_
                          rintro e wn ⟨rfl, nd, rfl⟩
                          refine ⟨_, rfl, ?_⟩
                          refine hK.out _ _ (hHeld) (fun hHeld => ?_)
                          clear hK K
                          refine norm_ (a' := ?_) ?_ ?_
                          rotate_left
                          · show Act.put _ (some 45) _ = _
                            simp only [Act.put, sA_, sZ_, sS_, i64_w, i32_w]
                            rfl
                          refine pure_ (i := 7) (N := some 46) (v := ?_) (a' := ?_) #[I,I,I,I,I,I,I,I,I,I,O,I,I,O,I,I,I,I,I,I,O,O,I,I,O,O,O,I,O] rfl rfl (by kernel_rfl) (fun _ _ _ h => h) (Or.inl ⟨by rfl, ?_⟩) ?_ ?_
                          rotate_left
                          · intro w'
                            go_simp
                            with_reducible rfl
                          rotate_left
                          · simp only [Act.put, sA_, sZ_, sS_, i64_w, i32_w]
                            rfl
                          exact norm_ (by first | (simp only [putAll, Act.put, sA_, sZ_, sS_]; done) | (simp only [putAll, Act.put, sA_, sZ_, sS_]; rfl)) (hJ2_6_27 () _ ⟨pw_below_drewN hBy _, hHy⟩)
                      · skip
                        rintro _ wy ⟨hBy, hHy⟩
                        have hHeld : wy.cell? ⟨ad.block, ad.off + 13, none⟩ = some (.int .u8 y) := (hBy.cell (World.block_lt_of_cell? _ _ Y0')).trans Y0'
                        refine norm_ (a' := ?_) ?_ ?_
                        rotate_left
                        · simp only [putAll, Act.put, sA_, sZ_, sS_]
                          rfl
                        refine two_ (i := 10) (j := 27) (Ni := some 49) (Nj := some 9) #[I,I,I,I,I,I,I,I,I,I,I,I,I,O,I,I,I,I,I,I,O,O,I,I,O,O,O,O,O] #[I,I,I,I,I,I,I,I,I,I,O,I,I,O,I,I,I,I,I,I,O,O,I,I,O,O,O,I,O] rfl rfl rfl rfl (by kernel_rfl) (by decide) (by decide) (fun K hK => ?_) (fun K hK => ?_)
                        · skip
                          refine goes_ Try.func61 (by kernel_rfl) rfl #[.slice a2 4 (c - 4)] (by rfl) rfl rfl (by simp only [List.map_toArray, List.map_cons, List.map_nil]; rfl) ?_
                          with_reducible refine (K2.out _ (below_step HB7.out hBy)).mono ?_
                          rintro e wn ⟨rfl, nd, rfl⟩
                          refine ⟨_, rfl, ?_⟩
                          refine hK.out _ _ (hHeld) (fun hHeld => ?_)
                          clear hK K
                          refine norm_ (a' := ?_) ?_ ?_
                          rotate_left
                          · show Act.put _ (some 49) _ = _
                            simp only [Act.put, sA_, sZ_, sS_, i64_w, i32_w]
                            rfl
                          exact norm_ (by first | (simp only [putAll, Act.put, sA_, sZ_, sS_]; done) | (simp only [putAll, Act.put, sA_, sZ_, sS_]; rfl)) (hJ2_6_10 () _ ⟨pw_below_drewN hBy _, hHy⟩)
                        · skip
                          refine value_ (w1 := ?_) (v := ?_) (by rfl) rfl ?_ ?_
                          rotate_left 2
                          · go_simp
                            constructor
                            · rfl
                            · rfl
                          try rw [hHy]
                          refine hK.out _ _ ((((below_alloc (Below.refl _ _) _).cell (World.block_lt_of_cell? _ _ hHeld)).trans hHeld)) (fun hHeld => ?_)
                          clear hK K
                          refine norm_ (a' := ?_) ?_ ?_
                          rotate_left
                          · show Act.put _ (some 9) _ = _
                            simp only [Act.put, sA_, sZ_, sS_, i64_w, i32_w]
                            rfl
                          exact norm_ (by first | (simp only [putAll, Act.put, sA_, sZ_, sS_]; done) | (simp only [putAll, Act.put, sA_, sZ_, sS_]; rfl)) (hJ2_6_27 () _ ⟨below_alloc hBy _, wr_heap_alloc hHy _⟩)
                    · skip
                      rintro _ wy ⟨hBy, hHy⟩
                      have hHeld : wy.cell? ⟨ad.block, ad.off + 13, none⟩ = some (.int .u8 y) := (hBy.cell (World.block_lt_of_cell? _ _ Y0')).trans Y0'
                      refine norm_ (a' := ?_) ?_ ?_
                      rotate_left
                      · simp only [putAll, Act.put, sA_, sZ_, sS_]
                        rfl
                      refine one_ (i := 10) (N := some 49) #[I,I,I,I,I,I,I,I,I,I,I,I,I,O,I,I,I,I,I,I,O,O,I,I,O,O,O,I,O] rfl rfl (by kernel_rfl) (by decide) (fun K hK => ?_)
                      refine goes_ Try.func61 (by kernel_rfl) rfl #[.slice a2 4 (c - 4)] (by rfl) rfl rfl (by simp only [List.map_toArray, List.map_cons, List.map_nil]; rfl) ?_
                      with_reducible refine (K2.out _ (below_step HB7.out hBy)).mono ?_
                      rintro e wn ⟨rfl, nd, rfl⟩
                      refine ⟨_, rfl, ?_⟩
                      refine hK.out _ _ (hHeld) (fun hHeld => ?_)
                      clear hK K
                      refine norm_ (a' := ?_) ?_ ?_
                      rotate_left
                      · show Act.put _ (some 49) _ = _
                        simp only [Act.put, sA_, sZ_, sS_, i64_w, i32_w]
                        rfl
                      exact norm_ (by first | (simp only [putAll, Act.put, sA_, sZ_, sS_]; done) | (simp only [putAll, Act.put, sA_, sZ_, sS_]; rfl)) (hJ2_6_10_27 () _ ⟨pw_below_drewN hBy _, hHy⟩)
                  · skip
                    rintro _ wy ⟨hBy, hHy⟩
                    have hHeld : wy.cell? ⟨ad.block, ad.off + 13, none⟩ = some (.int .u8 y) := (hBy.cell (World.block_lt_of_cell? _ _ Y0')).trans Y0'
                    refine norm_ (a' := ?_) ?_ ?_
                    rotate_left
                    · simp only [putAll, Act.put, sA_, sZ_, sS_]
                      rfl
                    refine two_ (i := 13) (j := 27) (Ni := some 52) (Nj := some 9) #[I,I,I,I,I,I,I,I,I,I,I,I,I,I,I,I,I,I,I,I,O,O,I,I,O,O,O,O,O] #[I,I,I,I,I,I,I,I,I,I,I,I,I,O,I,I,I,I,I,I,O,O,I,I,O,O,O,I,O] rfl rfl rfl rfl (by kernel_rfl) (by decide) (by decide) (fun K hK => ?_) (fun K hK => ?_)
                    · skip
                      refine goes_ Try.func61 (by kernel_rfl) rfl #[.slice a3 4 (c - 8)] (by rfl) rfl rfl (by simp only [List.map_toArray, List.map_cons, List.map_nil]; rfl) ?_
                      with_reducible refine (K3.out _ (below_step HB7.out hBy)).mono ?_
                      rintro e wn ⟨rfl, nd, rfl⟩
                      refine ⟨_, rfl, ?_⟩
                      refine hK.out _ _ (hHeld) (fun hHeld => ?_)
                      clear hK K
                      refine norm_ (a' := ?_) ?_ ?_
                      rotate_left
                      · show Act.put _ (some 52) _ = _
                        simp only [Act.put, sA_, sZ_, sS_, i64_w, i32_w]
                        rfl
                      exact norm_ (by first | (simp only [putAll, Act.put, sA_, sZ_, sS_]; done) | (simp only [putAll, Act.put, sA_, sZ_, sS_]; rfl)) (hJ2_6_10_13 () _ ⟨pw_below_drewN hBy _, hHy⟩)
                    · skip
                      refine value_ (w1 := ?_) (v := ?_) (by rfl) rfl ?_ ?_
                      rotate_left 2
                      · go_simp
                        constructor
                        · rfl
                        · rfl
                      try rw [hHy]
                      refine hK.out _ _ ((((below_alloc (Below.refl _ _) _).cell (World.block_lt_of_cell? _ _ hHeld)).trans hHeld)) (fun hHeld => ?_)
                      clear hK K
                      refine norm_ (a' := ?_) ?_ ?_
                      rotate_left
                      · show Act.put _ (some 9) _ = _
                        simp only [Act.put, sA_, sZ_, sS_, i64_w, i32_w]
                        rfl
                      exact norm_ (by first | (simp only [putAll, Act.put, sA_, sZ_, sS_]; done) | (simp only [putAll, Act.put, sA_, sZ_, sS_]; rfl)) (hJ2_6_10_27 () _ ⟨below_alloc hBy _, wr_heap_alloc hHy _⟩)
                · skip
                  rintro _ wy ⟨hBy, hHy⟩
                  have hHeld : wy.cell? ⟨ad.block, ad.off + 13, none⟩ = some (.int .u8 y) := (hBy.cell (World.block_lt_of_cell? _ _ Y0')).trans Y0'
                  refine norm_ (a' := ?_) ?_ ?_
                  rotate_left
                  · simp only [putAll, Act.put, sA_, sZ_, sS_]
                    rfl
                  refine one_ (i := 13) (N := some 52) #[I,I,I,I,I,I,I,I,I,I,I,I,I,I,I,I,I,I,I,I,O,O,I,I,O,O,O,I,O] rfl rfl (by kernel_rfl) (by decide) (fun K hK => ?_)
                  refine goes_ Try.func61 (by kernel_rfl) rfl #[.slice a3 4 (c - 8)] (by rfl) rfl rfl (by simp only [List.map_toArray, List.map_cons, List.map_nil]; rfl) ?_
                  with_reducible refine (K3.out _ (below_step HB7.out hBy)).mono ?_
                  rintro e wn ⟨rfl, nd, rfl⟩
                  refine ⟨_, rfl, ?_⟩
                  refine hK.out _ _ (hHeld) (fun hHeld => ?_)
                  clear hK K
                  refine norm_ (a' := ?_) ?_ ?_
                  rotate_left
                  · show Act.put _ (some 52) _ = _
                    simp only [Act.put, sA_, sZ_, sS_, i64_w, i32_w]
                    rfl
                  exact norm_ (by first | (simp only [putAll, Act.put, sA_, sZ_, sS_]; done) | (simp only [putAll, Act.put, sA_, sZ_, sS_]; rfl)) (hJ2_6_10_13_27 () _ ⟨pw_below_drewN hBy _, hHy⟩)
              · skip
                rintro _ wy ⟨hBy, hHy⟩
                have hHeld : wy.cell? ⟨ad.block, ad.off + 13, none⟩ = some (.int .u8 y) := (hBy.cell (World.block_lt_of_cell? _ _ Y0')).trans Y0'
                refine norm_ (a' := ?_) ?_ ?_
                rotate_left
                · simp only [putAll, Act.put, sA_, sZ_, sS_]
                  rfl
                refine two_ (i := 20) (j := 27) (Ni := some 59) (Nj := some 9) #[I,I,I,I,I,I,I,I,I,I,I,I,I,I,I,I,I,I,I,I,I,O,I,I,O,O,O,O,O] #[I,I,I,I,I,I,I,I,I,I,I,I,I,I,I,I,I,I,I,I,O,O,I,I,O,O,O,I,O] rfl rfl rfl rfl (by kernel_rfl) (by decide) (by decide) (fun K hK => ?_) (fun K hK => ?_)
                · skip
                  refine goes_ Try.func61 (by kernel_rfl) rfl #[.slice a4 2 (c - 14)] (by rfl) rfl rfl (by simp only [List.map_toArray, List.map_cons, List.map_nil]; rfl) ?_
                  with_reducible refine (K4.out _ (below_step HB7.out hBy)).mono ?_
                  rintro e wn ⟨rfl, nd, rfl⟩
                  refine ⟨_, rfl, ?_⟩
                  refine hK.out _ _ (hHeld) (fun hHeld => ?_)
                  clear hK K
                  refine norm_ (a' := ?_) ?_ ?_
                  rotate_left
                  · show Act.put _ (some 59) _ = _
                    simp only [Act.put, sA_, sZ_, sS_, i64_w, i32_w]
                    rfl
                  refine pure_ (i := 21) (N := some 60) (v := ?_) (a' := ?_) #[I,I,I,I,I,I,I,I,I,I,I,I,I,I,I,I,I,I,I,I,I,I,I,I,O,O,O,O,O] rfl rfl (by kernel_rfl) (fun _ _ _ h => h) (Or.inl ⟨by rfl, ?_⟩) ?_ ?_
                  rotate_left
                  · intro w'
                    go_simp
                    with_reducible rfl
                  rotate_left
                  · simp only [Act.put, sA_, sZ_, sS_, i64_w, i32_w]
                    rfl
                  exact norm_ (by first | (simp only [putAll, Act.put, sA_, sZ_, sS_]; done) | (simp only [putAll, Act.put, sA_, sZ_, sS_]; rfl)) (hJ2_6_10_13_20 () _ ⟨pw_below_drewN hBy _, hHy⟩)
                · skip
                  refine value_ (w1 := ?_) (v := ?_) (by rfl) rfl ?_ ?_
                  rotate_left 2
                  · go_simp
                    constructor
                    · rfl
                    · rfl
                  try rw [hHy]
                  refine hK.out _ _ ((((below_alloc (Below.refl _ _) _).cell (World.block_lt_of_cell? _ _ hHeld)).trans hHeld)) (fun hHeld => ?_)
                  clear hK K
                  refine norm_ (a' := ?_) ?_ ?_
                  rotate_left
                  · show Act.put _ (some 9) _ = _
                    simp only [Act.put, sA_, sZ_, sS_, i64_w, i32_w]
                    rfl
                  exact norm_ (by first | (simp only [putAll, Act.put, sA_, sZ_, sS_]; done) | (simp only [putAll, Act.put, sA_, sZ_, sS_]; rfl)) (hJ2_6_10_13_27 () _ ⟨below_alloc hBy _, wr_heap_alloc hHy _⟩)
            · skip
              rintro _ wy ⟨hBy, hHy⟩
              have hHeld : wy.cell? ⟨ad.block, ad.off + 13, none⟩ = some (.int .u8 y) := (hBy.cell (World.block_lt_of_cell? _ _ Y0')).trans Y0'
              refine norm_ (a' := ?_) ?_ ?_
              rotate_left
              · simp only [putAll, Act.put, sA_, sZ_, sS_]
                rfl
              refine one_ (i := 20) (N := some 59) #[I,I,I,I,I,I,I,I,I,I,I,I,I,I,I,I,I,I,I,I,I,O,I,I,O,O,O,I,O] rfl rfl (by kernel_rfl) (by decide) (fun K hK => ?_)
              refine goes_ Try.func61 (by kernel_rfl) rfl #[.slice a4 2 (c - 14)] (by rfl) rfl rfl (by simp only [List.map_toArray, List.map_cons, List.map_nil]; rfl) ?_
              with_reducible refine (K4.out _ (below_step HB7.out hBy)).mono ?_
              rintro e wn ⟨rfl, nd, rfl⟩
              refine ⟨_, rfl, ?_⟩
              refine hK.out _ _ (hHeld) (fun hHeld => ?_)
              clear hK K
              refine norm_ (a' := ?_) ?_ ?_
              rotate_left
              · show Act.put _ (some 59) _ = _
                simp only [Act.put, sA_, sZ_, sS_, i64_w, i32_w]
                rfl
              refine pure_ (i := 21) (N := some 60) (v := ?_) (a' := ?_) #[I,I,I,I,I,I,I,I,I,I,I,I,I,I,I,I,I,I,I,I,I,I,I,I,O,O,O,I,O] rfl rfl (by kernel_rfl) (fun _ _ _ h => h) (Or.inl ⟨by rfl, ?_⟩) ?_ ?_
              rotate_left
              · intro w'
                go_simp
                with_reducible rfl
              rotate_left
              · simp only [Act.put, sA_, sZ_, sS_, i64_w, i32_w]
                rfl
              exact norm_ (by first | (simp only [putAll, Act.put, sA_, sZ_, sS_]; done) | (simp only [putAll, Act.put, sA_, sZ_, sS_]; rfl)) (hJ2_6_10_13_20_27 () _ ⟨pw_below_drewN hBy _, hHy⟩)
          · skip
            rintro _ wy ⟨hBy, hHy⟩
            have hHeld : wy.cell? ⟨ad.block, ad.off + 13, none⟩ = some (.int .u8 y) := (hBy.cell (World.block_lt_of_cell? _ _ Y0')).trans Y0'
            refine norm_ (a' := ?_) ?_ ?_
            rotate_left
            · simp only [putAll, Act.put, sA_, sZ_, sS_]
              rfl
            refine two_ (i := 24) (j := 27) (Ni := some 63) (Nj := some 9) #[I,I,I,I,I,I,I,I,I,I,I,I,I,I,I,I,I,I,I,I,I,I,I,I,I,O,O,O,O] #[I,I,I,I,I,I,I,I,I,I,I,I,I,I,I,I,I,I,I,I,I,I,I,I,O,O,O,I,O] rfl rfl rfl rfl (by kernel_rfl) (by decide) (by decide) (fun K hK => ?_) (fun K hK => ?_)
            · skip
              refine goes_ Try.func61 (by kernel_rfl) rfl #[.slice a5 2 (c - 18)] (by rfl) rfl rfl (by simp only [List.map_toArray, List.map_cons, List.map_nil]; rfl) ?_
              with_reducible refine (K5.out _ (below_step HB7.out hBy)).mono ?_
              rintro e wn ⟨rfl, nd, rfl⟩
              refine ⟨_, rfl, ?_⟩
              refine hK.out _ _ (hHeld) (fun hHeld => ?_)
              clear hK K
              refine norm_ (a' := ?_) ?_ ?_
              rotate_left
              · show Act.put _ (some 63) _ = _
                simp only [Act.put, sA_, sZ_, sS_, i64_w, i32_w]
                rfl
              refine pure_ (i := 25) (N := some 64) (v := ?_) (a' := ?_) #[I,I,I,I,I,I,I,I,I,I,I,I,I,I,I,I,I,I,I,I,I,I,I,I,I,I,O,O,O] rfl rfl (by kernel_rfl) (fun _ _ _ h => h) (Or.inl ⟨by rfl, ?_⟩) ?_ ?_
              rotate_left
              · intro w'
                go_simp
                with_reducible rfl
              rotate_left
              · simp only [Act.put, sA_, sZ_, sS_, i64_w, i32_w]
                rfl
              refine pure_ (i := 26) (N := some 65) (v := ?_) (a' := ?_) #[I,I,I,I,I,I,I,I,I,I,I,I,I,I,I,I,I,I,I,I,I,I,I,I,I,I,I,O,O] rfl rfl (by kernel_rfl) (fun _ _ _ h => h) (Or.inl ⟨by rfl, ?_⟩) ?_ ?_
              rotate_left
              · intro w'
                go_simp
                with_reducible rfl
              rotate_left
              · simp only [Act.put, sA_, sZ_, sS_, i64_w, i32_w]
                rfl
              exact norm_ (by first | (simp only [putAll, Act.put, sA_, sZ_, sS_]; done) | (simp only [putAll, Act.put, sA_, sZ_, sS_]; rfl)) (hJ2_6_10_13_20_24 () _ ⟨pw_below_drewN hBy _, hHy⟩)
            · skip
              refine value_ (w1 := ?_) (v := ?_) (by rfl) rfl ?_ ?_
              rotate_left 2
              · go_simp
                constructor
                · rfl
                · rfl
              try rw [hHy]
              refine hK.out _ _ ((((below_alloc (Below.refl _ _) _).cell (World.block_lt_of_cell? _ _ hHeld)).trans hHeld)) (fun hHeld => ?_)
              clear hK K
              refine norm_ (a' := ?_) ?_ ?_
              rotate_left
              · show Act.put _ (some 9) _ = _
                simp only [Act.put, sA_, sZ_, sS_, i64_w, i32_w]
                rfl
              exact norm_ (by first | (simp only [putAll, Act.put, sA_, sZ_, sS_]; done) | (simp only [putAll, Act.put, sA_, sZ_, sS_]; rfl)) (hJ2_6_10_13_20_27 () _ ⟨below_alloc hBy _, wr_heap_alloc hHy _⟩)
        · skip
          rintro _ wy ⟨hBy, hHy⟩
          have hHeld : wy.cell? ⟨ad.block, ad.off + 13, none⟩ = some (.int .u8 y) := (hBy.cell (World.block_lt_of_cell? _ _ Y0')).trans Y0'
          refine norm_ (a' := ?_) ?_ ?_
          rotate_left
          · simp only [putAll, Act.put, sA_, sZ_, sS_]
            rfl
          refine one_ (i := 24) (N := some 63) #[I,I,I,I,I,I,I,I,I,I,I,I,I,I,I,I,I,I,I,I,I,I,I,I,I,O,O,I,O] rfl rfl (by kernel_rfl) (by decide) (fun K hK => ?_)
          refine goes_ Try.func61 (by kernel_rfl) rfl #[.slice a5 2 (c - 18)] (by rfl) rfl rfl (by simp only [List.map_toArray, List.map_cons, List.map_nil]; rfl) ?_
          with_reducible refine (K5.out _ (below_step HB7.out hBy)).mono ?_
          rintro e wn ⟨rfl, nd, rfl⟩
          refine ⟨_, rfl, ?_⟩
          refine hK.out _ _ (hHeld) (fun hHeld => ?_)
          clear hK K
          refine norm_ (a' := ?_) ?_ ?_
          rotate_left
          · show Act.put _ (some 63) _ = _
            simp only [Act.put, sA_, sZ_, sS_, i64_w, i32_w]
            rfl
          refine pure_ (i := 25) (N := some 64) (v := ?_) (a' := ?_) #[I,I,I,I,I,I,I,I,I,I,I,I,I,I,I,I,I,I,I,I,I,I,I,I,I,I,O,I,O] rfl rfl (by kernel_rfl) (fun _ _ _ h => h) (Or.inl ⟨by rfl, ?_⟩) ?_ ?_
          rotate_left
          · intro w'
            go_simp
            with_reducible rfl
          rotate_left
          · simp only [Act.put, sA_, sZ_, sS_, i64_w, i32_w]
            rfl
          refine pure_ (i := 26) (N := some 65) (v := ?_) (a' := ?_) #[I,I,I,I,I,I,I,I,I,I,I,I,I,I,I,I,I,I,I,I,I,I,I,I,I,I,I,I,O] rfl rfl (by kernel_rfl) (fun _ _ _ h => h) (Or.inl ⟨by rfl, ?_⟩) ?_ ?_
          rotate_left
          · intro w'
            go_simp
            with_reducible rfl
          rotate_left
          · simp only [Act.put, sA_, sZ_, sS_, i64_w, i32_w]
            rfl
          exact norm_ (by first | (simp only [putAll, Act.put, sA_, sZ_, sS_]; done) | (simp only [putAll, Act.put, sA_, sZ_, sS_]; rfl)) (hJ2_6_10_13_20_24_27 () _ ⟨pw_below_drewN hBy _, hHy⟩)
      · skip
        rintro _ wy ⟨hBy, hHy⟩
        have hHeld : wy.cell? ⟨ad.block, ad.off + 13, none⟩ = some (.int .u8 y) := (hBy.cell (World.block_lt_of_cell? _ _ Y0')).trans Y0'
        refine norm_ (a' := ?_) ?_ ?_
        rotate_left
        · simp only [putAll, Act.put, sA_, sZ_, sS_]
          rfl
        refine one_ (i := 27) (N := some 9) #[I,I,I,I,I,I,I,I,I,I,I,I,I,I,I,I,I,I,I,I,I,I,I,I,I,I,I,I,O] rfl rfl (by kernel_rfl) (by decide) (fun K hK => ?_)
        refine value_ (w1 := ?_) (v := ?_) (by rfl) rfl ?_ ?_
        rotate_left 2
        · go_simp
          constructor
          · rfl
          · rfl
        try rw [hHy]
        refine hK.out _ _ ((((below_alloc (Below.refl _ _) _).cell (World.block_lt_of_cell? _ _ hHeld)).trans hHeld)) (fun hHeld => ?_)
        clear hK K
        refine norm_ (a' := ?_) ?_ ?_
        rotate_left
        · show Act.put _ (some 9) _ = _
          simp only [Act.put, sA_, sZ_, sS_, i64_w, i32_w]
          rfl
        exact norm_ (by first | (simp only [putAll, Act.put, sA_, sZ_, sS_]; done) | (simp only [putAll, Act.put, sA_, sZ_, sS_]; rfl)) (hJ2_6_10_13_20_24_27 () _ ⟨below_alloc hBy _, wr_heap_alloc hHy _⟩)
    rintro _ wy ⟨hBy, hHy⟩
    have hHeld : wy.cell? ⟨ad.block, ad.off + 13, none⟩ = some (.int .u8 y) := (hBy.cell (World.block_lt_of_cell? _ _ Y0')).trans Y0'
    refine norm_ (a' := ?_) ?_ ?_
    rotate_left
    · simp only [putAll, Act.put, sA_, sZ_, sS_]
      rfl
    refine last_ (i := 28) (N := none) #[I,I,I,I,I,I,I,I,I,I,I,I,I,I,I,I,I,I,I,I,I,I,I,I,I,I,I,I,I] rfl rfl (by kernel_rfl) (by decide) (fun K hK => ?_)
    refine wg_store_step (by rfl) (by rfl) 53 (.tmp 9) (.tmp 65) rfl (.agg #[.int .i64 n0, .int .i64 n1, .int .u32 n2, .int .u32 n3, .int .i64 y, .int .i64 n4, .int .i64 n5, .int .i64 (-1), .int .i64 (-1), .bool false, .bool false, .int .u32 0, .int .u32 0, .slice none 0 0, .slice none 0 0]) _ w7.heap.size 53 _ (by rfl) (by rfl) (by rfl) (by kernel_rfl) (by rfl) (by rw [hHy]; exact blk_new w7 _) (by rfl) ?_
    intro w8 h8 hg8
    refine hK.out _ _ ?_
    clear hK K
    refine done_ (by kernel_rfl) ?_
    have HB8 := Lib.hid (show Below w.heap.size w w8 from Below.grown (w := _) (below_step HB7.out hBy) hg8 (by have h_ := Below.size (below_step HB7.out hBy); exact h_) (fun k hk => by cases hk; exact HB7.out.size))
    have HG8 := Lib.hid (show w8.heap[g6]? = _ from blk_grown (blk_below HG7.out hBy) hg8 (fun e => Nat.ne_of_lt (blk_lt HG7.out) (Option.some.inj e)))
    obtain ⟨g9, hg9n⟩ : ∃ g9, w7.heap.size = g9 := ⟨_, rfl⟩
    have hge9 : w.heap.size ≤ g9 := by rw [← hg9n]; exact HB7.out.size
    have hne9 : g6 ≠ g9 := by rw [← hg9n]; exact Nat.ne_of_lt (blk_lt HG7.out)
    rw [hg9n] at h8 ⊢
    have HX8 := Lib.hid (show w8.heap[g9]? = some (.cells (wgcells (wgseg b) (.slice none 0 0) (.slice none 0 0)) 53 (0, 0)) from by rw [HSEG.out]; exact h8)
    clear h8 hg8 hg9n hBy hHy hHeld HG7 Y0' wn0 wn1 wn2 wn3 wn4 wn5 wi0 wi1 wi2 wi3 wi4 wi5 wy wy' K0 K1 K2 K3 K4 K5 cut0 cut1 cut2 cut3 cut4 cut5 h13 h13i HSEG
    have hm20' : 20 ≤ m := by have := HM20.out; omega
    have hmb : m ≤ b.length := by have := HBM.out; omega
    have hm60 := HM60.out
    have cut8 := cut_mid (P := Try.prog) 34 5 .i64 .i64 Try.underlying34 hu0 1 hsz (some ad) b.length c (20 : Int) (m : Int) (by omega) (by omega) (by omega) HCC.out
    have cut9 := cut_from (P := Try.prog) 34 5 .i64 Try.underlying34 hu0 1 hsz (some ad) b.length c (m : Int) (by omega) (by omega)
    simp only [show ((20 : Int)).toNat = 20 from rfl, Int.toNat_natCast, Nat.mul_one] at cut8 cut9
    obtain ⟨A8, hA8⟩ : ∃ a, (if c = 20 then some ad else (some ad).map (·.add 20)) = a := ⟨_, rfl⟩
    obtain ⟨A9, hA9⟩ : ∃ a, (if c = m then some ad else (some ad).map (·.add m)) = a := ⟨_, rfl⟩
    rw [hA8] at cut8; rw [hA9] at cut9
    have R8 := Kd.C_mid (lo := 20) (hi := m) (c := c) HC.out (by omega) hmb HCC.out
    have R9 := Kd.C_drop (m := m) (c := c) HC.out hmb HCC.out
    rw [show 20 * (Kd.int .u8).sz = 20 from rfl, hA8] at R8
    rw [show m * (Kd.int .u8).sz = m from Nat.mul_one m, hA9] at R9
    obtain ⟨bo, hbo⟩ : ∃ bo, (b.take m).drop 20 = bo := ⟨_, rfl⟩
    obtain ⟨bd, hbd⟩ : ∃ bd, b.drop m = bd := ⟨_, rfl⟩
    have l8 : bo.length = m - 20 := by rw [← hbo, List.length_drop, List.length_take]; omega
    have l9 : bd.length = b.length - m := by rw [← hbd]; exact List.length_drop
    rw [hbo] at R8; rw [hbd] at R9
    obtain ⟨res, hres⟩ : ∃ r, wgrd (bo.length + 1) (wgseg b) [] bo = r := ⟨_, rfl⟩
    have KR := Lib.hid (fun (W : World) (hB : Below w8.heap.size w8 W) => by
      have h := wr_options (wgseg b) none 0 0 A8 (c - 20) bo W (Kd.C_below R8 (below_step HB8.out hB)) (by have := HCC.out; omega) (fun x hx => by rw [← hbo] at hx; exact HBB.out x (List.mem_of_mem_take (List.mem_of_mem_drop hx))) (by omega) rfl
      rw [hres, l8] at h
      exact h)
    have HW2 := Lib.hid (show wgget true b = wgend b m res by rw [HW1.out, wgget1, if_neg HM20.out, if_neg HBM.out, if_neg (by decide), hbo, hres])
    have HR9 := Lib.hid R9; have HL9 := Lib.hid l9; have HBD := Lib.hid hbd
    clear hA8 hA9 R8 R9 hbo hbd l8 l9 hres HW1
    cases res with
    | none =>
      go_upto_region 11 with (fail)
      refine start_ (n := 10) (S := fun w' => w'.heap[g9]? = some (.cells (wgcells (wgseg b) (.slice none 0 0) (.slice none 0 0)) 53 (0, 0))) (ds := [8]) #[O,O,O,O,O,O,O,O,O,O] (by kernel_rfl) rfl rfl ((blk_drew HX8.out)) (fun hHeld => ?_)
      refine pure_ (i := 1) (N := some 68) (v := ?_) (a' := ?_) #[O,I,O,O,O,O,O,O,O,O] rfl rfl (by kernel_rfl) (fun _ _ _ h => h) (Or.inl ⟨by rfl, ?_⟩) ?_ ?_
      rotate_left
      · intro w'
        go_simp
        with_reducible rfl
      rotate_left
      · simp only [Act.put, sA_, sZ_, sS_, i64_w, i32_w]
        rfl
      refine pure_ (i := 2) (N := some 69) (v := ?_) (a' := ?_) #[O,I,I,O,O,O,O,O,O,O] rfl rfl (by kernel_rfl) (fun _ _ _ h => h) (Or.inl ⟨by rfl, ?_⟩) ?_ ?_
      rotate_left
      · intro w'
        go_simp
        with_reducible rfl
      rotate_left
      · simp only [Act.put, sA_, sZ_, sS_, i64_w, i32_w]
        rfl
      refine pure_ (i := 3) (N := some 70) (v := ?_) (a' := ?_) #[O,I,I,I,O,O,O,O,O,O] rfl rfl (by kernel_rfl) (fun _ _ _ h => h) (Or.inl ⟨by rfl, ?_⟩) ?_ ?_
      rotate_left
      · intro w'
        go_simp
        with_reducible rfl
      rotate_left
      · simp only [Act.put, sA_, sZ_, sS_, i64_w, i32_w]
        rfl
      refine take_ (i := 0) (N := some 67) (v := .agg (wgcells (wgseg b) (.slice none 0 0) (.slice none 0 0))) (a' := ?_) #[I,I,I,I,O,O,O,O,O,O] rfl rfl (by kernel_rfl) (fun _ _ _ h => h) (wb_take (by rfl) (.tmp 9) rfl g9 rfl (wgseg b) _ _ (fun w' h => h)) hHeld ?_ ?_
      rotate_left
      · simp only [Act.put, sA_, sZ_, sS_, i64_w, i32_w]
        rfl
      refine one_ (i := 4) (N := some 71) #[I,I,I,I,I,O,O,O,O,O] rfl rfl (by kernel_rfl) (by decide) (fun K hK => ?_)
      refine goes_ Try.func62 (by kernel_rfl) rfl #[.agg (wgcells (wgseg b) (.slice none 0 0) (.slice none 0 0)), .slice A8 (m - 20) (c - 20)] (by rfl) rfl rfl (by simp only [List.map_toArray, List.map_cons, List.map_nil]; rfl) ?_
      with_reducible refine (KR.out _ (by exact below_drew1 (Below.refl w8.heap.size w8))).mono ?_
      rintro e u1 ⟨hbu, cur, A', n', c', rfl⟩
      refine ⟨_, rfl, ?_⟩
      refine hK.out _ _ ((blk_below (blk_drew HX8.out) hbu)) (fun hHeld => ?_)
      clear hK K
      refine norm_ (a' := ?_) ?_ ?_
      rotate_left
      · show Act.put _ (some 71) _ = _
        simp only [Act.put, sA_, sZ_, sS_, i64_w, i32_w]
        rfl
      refine pure_ (i := 5) (N := some 66) (v := ?_) (a' := ?_) #[I,I,I,I,I,I,O,O,O,O] rfl rfl (by kernel_rfl) (fun _ _ _ h => h) (Or.inl ⟨by rfl, ?_⟩) ?_ ?_
      rotate_left
      · intro w'
        go_simp
        with_reducible rfl
      rotate_left
      · simp only [Act.put, sA_, sZ_, sS_, i64_w, i32_w]
        rfl
      refine pure_ (i := 6) (N := some 72) (v := ?_) (a' := ?_) #[I,I,I,I,I,I,I,O,O,O] rfl rfl (by kernel_rfl) (fun _ _ _ h => h) (Or.inl ⟨by rfl, ?_⟩) ?_ ?_
      rotate_left
      · intro w'
        go_simp
        with_reducible rfl
      rotate_left
      · simp only [Act.put, sA_, sZ_, sS_, i64_w, i32_w]
        rfl
      refine pure_ (i := 7) (N := some 73) (v := ?_) (a' := ?_) #[I,I,I,I,I,I,I,I,O,O] rfl rfl (by kernel_rfl) (fun _ _ _ h => h) (Or.inl ⟨by rfl, ?_⟩) ?_ ?_
      rotate_left
      · intro w'
        go_simp
        with_reducible rfl
      rotate_left
      · simp only [Act.put, sA_, sZ_, sS_, i64_w, i32_w]
        rfl
      refine last_ (i := 8) (N := none) #[I,I,I,I,I,I,I,I,I,O] rfl rfl (by kernel_rfl) (by decide) (fun K hK => ?_)
      refine wg_store_step (by rfl) (by rfl) 53 (.tmp 9) (.tmp 72) rfl (.agg (wgcells cur (.slice A' n' c') (.slice none 0 0))) _ g9 53 _ (by rfl) (by rfl) (by rfl) (by kernel_rfl) (by rfl) (blk_below (blk_drew HX8.out) hbu) (by rfl) ?_
      intro w10 h10 hg10
      refine hK.out _ _ ?_
      clear hK K
      refine pure_ (i := 9) (N := some 10) (v := ?_) (a' := ?_) #[I,I,I,I,I,I,I,I,I,I] rfl rfl (by kernel_rfl) (fun _ _ _ h => h) (Or.inl ⟨by rfl, ?_⟩) ?_ ?_
      rotate_left
      · intro w'
        go_simp
        with_reducible rfl
      rotate_left
      · simp only [Act.put, sA_, sZ_, sS_, i64_w, i32_w]
        rfl
      refine done_ (by kernel_rfl) ?_
      have HB10 := Lib.hid (show Below w.heap.size w w10 from Below.grown (w := _) (below_step (below_drew1 HB8.out) hbu) hg10 (by have h_ := Below.size (below_step (below_drew1 HB8.out) hbu); exact h_) (fun k hk => by cases hk; exact hge9))
      have HG10 := Lib.hid (show w10.heap[g6]? = _ from blk_grown (blk_below (blk_drew HG8.out) hbu) hg10 (fun e => hne9 (Option.some.inj e)))
      clear h10 hg10 hbu HX8 HG8 HB8 KR
      next =>
        go_wp2_with (first
          | (refine gate_ (.store 53 (.tmp 6) (.tmp 83)) rfl ?_; refine wg_store_op rfl rfl 53 (.tmp 6) (.tmp 83) rfl (.agg (wgcells z53 (.slice none 0 0) (.slice none 0 0))) _ _ 53 _ rfl rfl rfl (by kernel_rfl) rfl HG10.out rfl ?_; intro w9 h9 hg9))
        try simp only [Exit.inBlock, Exit.then]
        refine bodyPost_ret (results_ct Try.results37 _ _ g6 53 _ (0, 0) _ rfl h9 Try.underlying53 rfl (by kernel_rfl)) rfl ?_
        exact WGot.bad (k := 2) (by rw [← HR.out, HW2.out, wgend]) (wr_tail rfl hge HB10.out hg9) rfl
    | some t =>
      go_upto_region 11 with (fail)
      refine start_ (n := 10) (S := fun w' => w'.heap[g9]? = some (.cells (wgcells (wgseg b) (.slice none 0 0) (.slice none 0 0)) 53 (0, 0))) (ds := [8]) #[O,O,O,O,O,O,O,O,O,O] (by kernel_rfl) rfl rfl ((blk_drew HX8.out)) (fun hHeld => ?_)
      refine pure_ (i := 1) (N := some 68) (v := ?_) (a' := ?_) #[O,I,O,O,O,O,O,O,O,O] rfl rfl (by kernel_rfl) (fun _ _ _ h => h) (Or.inl ⟨by rfl, ?_⟩) ?_ ?_
      rotate_left
      · intro w'
        go_simp
        with_reducible rfl
      rotate_left
      · simp only [Act.put, sA_, sZ_, sS_, i64_w, i32_w]
        rfl
      refine pure_ (i := 2) (N := some 69) (v := ?_) (a' := ?_) #[O,I,I,O,O,O,O,O,O,O] rfl rfl (by kernel_rfl) (fun _ _ _ h => h) (Or.inl ⟨by rfl, ?_⟩) ?_ ?_
      rotate_left
      · intro w'
        go_simp
        with_reducible rfl
      rotate_left
      · simp only [Act.put, sA_, sZ_, sS_, i64_w, i32_w]
        rfl
      refine pure_ (i := 3) (N := some 70) (v := ?_) (a' := ?_) #[O,I,I,I,O,O,O,O,O,O] rfl rfl (by kernel_rfl) (fun _ _ _ h => h) (Or.inl ⟨by rfl, ?_⟩) ?_ ?_
      rotate_left
      · intro w'
        go_simp
        with_reducible rfl
      rotate_left
      · simp only [Act.put, sA_, sZ_, sS_, i64_w, i32_w]
        rfl
      refine take_ (i := 0) (N := some 67) (v := .agg (wgcells (wgseg b) (.slice none 0 0) (.slice none 0 0))) (a' := ?_) #[I,I,I,I,O,O,O,O,O,O] rfl rfl (by kernel_rfl) (fun _ _ _ h => h) (wb_take (by rfl) (.tmp 9) rfl g9 rfl (wgseg b) _ _ (fun w' h => h)) hHeld ?_ ?_
      rotate_left
      · simp only [Act.put, sA_, sZ_, sS_, i64_w, i32_w]
        rfl
      refine one_ (i := 4) (N := some 71) #[I,I,I,I,I,O,O,O,O,O] rfl rfl (by kernel_rfl) (by decide) (fun K hK => ?_)
      refine goes_ Try.func62 (by kernel_rfl) rfl #[.agg (wgcells (wgseg b) (.slice none 0 0) (.slice none 0 0)), .slice A8 (m - 20) (c - 20)] (by rfl) rfl rfl (by simp only [List.map_toArray, List.map_cons, List.map_nil]; rfl) ?_
      with_reducible refine (KR.out _ (by exact below_drew1 (Below.refl w8.heap.size w8))).mono ?_
      rintro e u1 ⟨hbu, cur, A', n', c', hct, hnt, rfl, hru⟩
      refine ⟨_, rfl, ?_⟩
      refine hK.out _ _ ((blk_below (blk_drew HX8.out) hbu)) (fun hHeld => ?_)
      clear hK K
      refine norm_ (a' := ?_) ?_ ?_
      rotate_left
      · show Act.put _ (some 71) _ = _
        simp only [Act.put, sA_, sZ_, sS_, i64_w, i32_w]
        rfl
      refine pure_ (i := 5) (N := some 66) (v := ?_) (a' := ?_) #[I,I,I,I,I,I,O,O,O,O] rfl rfl (by kernel_rfl) (fun _ _ _ h => h) (Or.inl ⟨by rfl, ?_⟩) ?_ ?_
      rotate_left
      · intro w'
        go_simp
        with_reducible rfl
      rotate_left
      · simp only [Act.put, sA_, sZ_, sS_, i64_w, i32_w]
        rfl
      refine pure_ (i := 6) (N := some 72) (v := ?_) (a' := ?_) #[I,I,I,I,I,I,I,O,O,O] rfl rfl (by kernel_rfl) (fun _ _ _ h => h) (Or.inl ⟨by rfl, ?_⟩) ?_ ?_
      rotate_left
      · intro w'
        go_simp
        with_reducible rfl
      rotate_left
      · simp only [Act.put, sA_, sZ_, sS_, i64_w, i32_w]
        rfl
      refine pure_ (i := 7) (N := some 73) (v := ?_) (a' := ?_) #[I,I,I,I,I,I,I,I,O,O] rfl rfl (by kernel_rfl) (fun _ _ _ h => h) (Or.inl ⟨by rfl, ?_⟩) ?_ ?_
      rotate_left
      · intro w'
        go_simp
        with_reducible rfl
      rotate_left
      · simp only [Act.put, sA_, sZ_, sS_, i64_w, i32_w]
        rfl
      refine last_ (i := 8) (N := none) #[I,I,I,I,I,I,I,I,I,O] rfl rfl (by kernel_rfl) (by decide) (fun K hK => ?_)
      refine wg_store_step (by rfl) (by rfl) 53 (.tmp 9) (.tmp 72) rfl (.agg (wgcells t (.slice A' t.f13.length c') (.slice none 0 0))) _ g9 53 _ (by rfl) (by rfl) (by rfl) (by kernel_rfl) (by rfl) (blk_below (blk_drew HX8.out) hbu) (by rfl) ?_
      intro w10 h10 hg10
      refine hK.out _ _ ?_
      clear hK K
      refine pure_ (i := 9) (N := some 10) (v := ?_) (a' := ?_) #[I,I,I,I,I,I,I,I,I,I] rfl rfl (by kernel_rfl) (fun _ _ _ h => h) (Or.inl ⟨by rfl, ?_⟩) ?_ ?_
      rotate_left
      · intro w'
        go_simp
        with_reducible rfl
      rotate_left
      · simp only [Act.put, sA_, sZ_, sS_, i64_w, i32_w]
        rfl
      refine done_ (by kernel_rfl) ?_
      have HB10 := Lib.hid (show Below w.heap.size w w10 from Below.grown (w := _) (below_step (below_drew1 HB8.out) hbu) hg10 (by have h_ := Below.size (below_step (below_drew1 HB8.out) hbu); exact h_) (fun k hk => by cases hk; exact hge9))
      have HG10 := Lib.hid (show w10.heap[g6]? = _ from blk_grown (blk_below (blk_drew HG8.out) hbu) hg10 (fun e => hne9 (Option.some.inj e)))
      have HX10 := Lib.hid (show w10.heap[g9]? = some (.cells (wgcells t (.slice A' t.f13.length c') (.slice none 0 0)) 53 (0, 0)) from h10)
      have HR10 := Lib.hid (wg_R_store (Kd.R_lower hru (show w.heap.size ≤ w8.drew.heap.size from HB8.out.size)) (blk_below (blk_drew HX8.out) hbu) (by decide) hg10)
      clear h10 hg10 hbu hru hct hnt HX8 HG8 HB8 KR cur
      have hsub : wrap64 ((b.length : Int) - (m : Int)) = (b.length : Int) - (m : Int) := wg_w64 (by omega) (by have := HM.out; omega)
      by_cases hd : b.length - m ≤ 65000
      case neg =>
        have HK := Lib.hid hd
        have kd : decide ((65000 : Int) < (b.length : Int) - (m : Int)) = true := decide_eq_true (by omega)
        clear hd
        go_wp2_with (first
          | (refine gate_ (.store 53 (.tmp 6) (.tmp 83)) rfl ?_; refine wg_store_op rfl rfl 53 (.tmp 6) (.tmp 83) rfl (.agg (wgcells z53 (.slice none 0 0) (.slice none 0 0))) _ _ 53 _ rfl rfl rfl (by kernel_rfl) rfl HG10.out rfl ?_; intro w9 h9 hg9))
        try simp only [Exit.inBlock, Exit.then]
        refine bodyPost_ret (results_ct Try.results37 _ _ g6 53 _ (0, 0) _ rfl h9 Try.underlying53 rfl (by kernel_rfl)) rfl ?_
        exact WGot.bad (k := 2) (by rw [← HR.out, HW2.out, wgend, if_neg HK.out]) (wr_tail rfl hge HB10.out hg9) rfl
      have kd : decide ((65000 : Int) < (b.length : Int) - (m : Int)) = false := decide_eq_false (by omega)
      have HD := Lib.hid hd
      have hC9 := Kd.C_below HR9.out (below_alloc HB10.out (.cells #[] 5))
      rw [HL9.out] at hC9
      go_wp2_with (at_builtin; refine whold_of ?_)
      refine whold_mk ?_
      refine Kd.R_append_rows (Kd.int .u8) (Rr := fun x cs => cs = [.int .u8 x]) (w0 := w10) w10.heap.size rfl (.tmp 84) (.tmp 87) 34 5 (.int .u8 0) 1 rfl Try.underlying34 info5 rfl (by decide) (by decide) _ [] bd A9 (b.length - m) (c - m) (fun _ => True) (fun _ => False) rfl rfl (wg_own_empty w10 _ (Nat.le_refl _)) hC9 (fun _ _ e => e) (fun _ e => e.elim) (fun _ _ => trivial) (below_alloc (Below.refl _ _) _) (by simp) (by have := HM.out; simp; omega) ?_
      intro v11 w11 hR11 hB11 _ _
      rw [List.nil_append] at hR11
      obtain ⟨A11, c11, e11⟩ := Kd.R_slice hR11
      subst e11
      have hx11 := blk_below HX10.out hB11
      have hg11 := blk_below HG10.out hB11
      have hcell := (show w11.cell? ⟨g9, 14, none⟩ = some (.slice none 0 0) from (blk_cell hx11 14).trans rfl)
      have hfz : w11.frozen? ⟨g9, 14, none⟩ = false := blk_frozen hx11 14
      have HL := Lib.hid (wgcells_ext (cs' := wgcells { t with f14 := bd } (.slice A' t.f13.length c') (.slice A11 bd.length c11)) (blk_set hx11 14 (.slice A11 bd.length c11)) rfl)
      have HL6 := Lib.hid (blk_far hg11 (p := ⟨g9, 14, none⟩) hne9 (.slice A11 bd.length c11))
      have HBL := Lib.hid ((below_step HB10.out hB11).setCell (p := ⟨g9, 14, none⟩) hge9 (.slice A11 bd.length c11))
      have HRL := Lib.hid (Kd.R_set (Kd.R_below HR10.out hB11) hx11 (by decide) 14 (.slice A11 bd.length c11))
      have HDL := Lib.hid (Kd.R_lower (Kd.R_set hR11 hx11 (by decide) 14 (.slice A11 bd.length c11)) HB10.out.size)
      clear hR11 hB11 hx11 hg11 hC9 HR10 HX10 HG10
      go_wp2_with (first
        | (refine gate_ (.load 53 (.tmp 9)) rfl ?_; refine wpList_load_row rfl 53 (.tmp 9) rfl g9 rfl 53 _ (0, 0) _ HL.out Try.underlying53 rfl (by kernel_rfl) ?_)
        | (refine gate_ (.store 53 (.tmp 6) (.tmp 90)) rfl ?_; refine wg_store_op rfl rfl 53 (.tmp 6) (.tmp 90) rfl _ _ _ 53 _ rfl rfl rfl (by kernel_rfl) rfl HL6.out rfl ?_; intro w9 h9 hg9))
      try simp only [Exit.inBlock, Exit.then]
      refine bodyPost_ret (results_ct Try.results37 _ _ g6 53 _ (0, 0) _ rfl h9 Try.underlying53 rfl (by kernel_rfl)) rfl ?_
      have hr : r = ({ t with f14 := bd }, 0) := by rw [← HR.out, HW2.out, wgend, if_pos HD.out, HBD.out]
      rw [hr]
      exact ⟨wr_tail rfl hge HBL.out hg9, _, _, rfl, wg_R_store HRL.out HL6.out (by decide) hg9, wg_R_store HDL.out HL6.out (by decide) hg9⟩
end Go.Proofs.Ytflmfbcapccdeaa.WireG

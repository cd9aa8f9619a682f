/- What is written is read as it was: of every right segment. -/
import Derived.Test.YtenpekakmkemeaaWireLaw
import Derived.Test.YtenpekakmkemeaaWireHeads
set_option linter.unusedVariables false
set_option linter.unusedSimpArgs false
set_option autoImplicit false
namespace Go.Proofs.Ytenpekakmkemeaa.Pure
open Go.RowKit Go.Proofs.Ytenpekakmkemeaa.PA Go.Proofs.YtenpekakmkemeaaW.PrintWords Go.Proofs.YtenpekakmkemeaaW.PrintLast Go.Proofs.YtenpekakmkemeaaW.PrintMore Go.Proofs.Ytenpekakmkemeaa.WireG Go.Proofs.Ytenpekakmkemeaa.SumPlain
/-- A whole variable is read, wherever the read comes up. -/
theorem wb_take {ops : Array Oper} {S : World → Prop} {op : Oper} {a : Act} (hw : Region.wanted op (yielded ops a.tmps) = true) (x : Operand) (ho : op.op = .load 26 x) (g : Nat) (hx : a.eval x = .pointer (some ⟨g, 0, none⟩)) (s : SG) (v d : Value)
    (hS : ∀ w, S w → w.heap[g]? = some (.cells (wgcells s v d) 26 (0, 0))) : YieldsIf Try.prog ops S op (.agg (wgcells s v d)) a :=
  .inl ⟨hw, fun w hw' => by
    unfold execOp
    simp only [ho, hx, Instr.loadAt, Instr.sureAddr, Sem.run_bind, Sem.run_pure, Result.andThen_ok, run_loadVar_row w g 26 26 _ (0, 0) _ (hS w hw') Try.underlying26 rfl (by kernel_rfl)]⟩
set_option maxRecDepth 100000 in
set_option maxHeartbeats 16000000 in
theorem back_bad (s : SG) (A13 : Option Addr) (c13 : Nat) (A14 : Option Addr) (c14 : Nat) (src dst : Int) (w : World) (hS : SegC w s A13 c13 A14 c14) (hk : chk s = false) :
    Calls Try.prog 5 #[SEG s A13 c13 A14 c14, .int .u32 src, .int .u32 dst] w fun e w' => e = .returned (.bool true) ∧ Below w.heap.size w w' := by
  have HCK := Lib.hid (wp_check s A13 c13 A14 c14)
  rw [hk] at HCK
  have HS := Lib.hid hS; clear hS hk
  go_enter Try.func5, Try.ntmps5
  go_upto_region 1 with (fail)
  obtain ⟨g, hg⟩ : ∃ g, w.heap.size = g := ⟨_, rfl⟩
  have HG := Lib.hid (show (w.alloc (.cells (wgcells s (.slice A13 s.f13.length c13) (.slice A14 s.f14.length c14)) 26)).heap[g]? = some (.cells (wgcells s (.slice A13 s.f13.length c13) (.slice A14 s.f14.length c14)) 26 (0, 0)) from by rw [← hg]; exact blk_new w _)
  have HB1 := Lib.hid (show Below w.heap.size w (w.alloc (.cells (wgcells s (.slice A13 s.f13.length c13) (.slice A14 s.f14.length c14)) 26)) from (Below.refl _ w).alloc (Nat.le_refl _) _)
  rw [hg]
  clear hg
  generalize w.alloc (.cells (wgcells s (.slice A13 s.f13.length c13) (.slice A14 s.f14.length c14)) 26) = W1 at HG HB1 ⊢
  go_wp2_with (first
    | (refine gate_ (.load 26 (.tmp 3)) rfl ?_; refine wpList_load_row rfl 26 (.tmp 3) rfl g rfl 26 _ (0, 0) _ HG.out Try.underlying26 rfl (by kernel_rfl) ?_)
    | (go_at_call 14; refine (HCK.out W1 (HS.out.below HB1.out).h13 (HS.out.below HB1.out).l13 (HS.out.below HB1.out).h14 (HS.out.below HB1.out).l14).mono ?_; rintro e w2 ⟨rfl, hb2⟩; have HB2 := Lib.hid (below_step HB1.out hb2); clear hb2)
    | (go_at_call 11; refine (wl_heads w2).mono ?_; rintro e w3 ⟨rfl, hb3⟩))
  go_ret
  exact ⟨rfl, below_step HB2.out hb3⟩
set_option maxRecDepth 100000 in
set_option maxHeartbeats 16000000 in
theorem back_ok (s : SG) (A13 : Option Addr) (c13 : Nat) (A14 : Option Addr) (c14 : Nat) (src dst c : Int) (w : World) (hS : SegC w s A13 c13 A14 c14) (hk : chk s = true)
    (hc : sum_Sum.f [pseu src dst ((putB s).length : Int), putB s] = some c) (hbm : byts (putF c s)) (hl : (putF c s).length = 20 + (opts s).length + s.f14.length) (ho : (opts s).length ≤ 40) (hd : s.f14.length ≤ 65000) (hn : s.f13.length ≤ 4) (h7 : s.f7 ≤ 65535)
    (hv : sum_Valid.f [four8 src ++ four8 dst ++ [0, 6, (((putF c s).length : Int) / 256) % 256, ((putF c s).length : Int) % 256], putF c s] = some true) (hgp : wgget true (putF c s) = (s, 0)) :
    Calls Try.prog 5 #[SEG s A13 c13 A14 c14, .int .u32 src, .int .u32 dst] w fun e w' => e = .returned (.bool true) ∧ Below w.heap.size w w' := by
  have HCK := Lib.hid (wp_check s A13 c13 A14 c14)
  rw [hk] at HCK
  have HOP := Lib.hid (fun (W : World) (h : SegC W s A13 c13 A14 c14) => wp_options s A13 c13 A14 c14 W h.h13 h.l13 h.h14 h.l14 h7 hn)
  have HSA := Lib.hid (fun (W : World) (A9 : Option Addr) (c9 : Nat) (B9 : Option Addr) (d9 : Nat) (h9 : SegC W s A9 c9 B9 d9) (h : SegC W s A13 c13 A14 c14) => wl_same s (by omega) A9 c9 B9 d9 A13 c13 A14 c14 W h9 h)
  have HS := Lib.hid hS; have HK := Lib.hid hk; have HSM := Lib.hid hc; clear hS hk hc
  obtain ⟨o, hoo⟩ : ∃ o, opts s = o := ⟨_, rfl⟩
  rw [hoo] at hl HOP ho
  obtain ⟨B, hB⟩ : ∃ B, putF c s = B := ⟨_, rfl⟩
  have hput : ∀ W : World, SegC W s A13 c13 A14 c14 → Calls Try.prog 15 #[.agg (wgcells s (.slice A13 s.f13.length c13) (.slice A14 s.f14.length c14)), .int .u32 src, .int .u32 dst] W fun e w' => WPut W B e w' := fun W h => hB ▸ wp_ok s A13 c13 A14 c14 src dst c W h.h13 h.l13 h.h14 h.l14 HK.out HSM.out
  rw [hB] at hbm hl hv hgp
  have hget : ∀ (W : World) (A : Option Addr) (cap : Nat), Kd.C (Kd.int .u8) W A B.length B → B.length ≤ cap → Calls Try.prog 8 #[.slice A B.length cap, .int .u32 src, .int .u32 dst] W fun e w' => WGot W (s, 0) e w' := fun W A cap hC hcap => hgp ▸ wg_Get A cap B src dst true W hC hcap hbm hv
  have HEQ := Lib.hid (show ((B.length : Int) == wrap64 (wrap64 (20 + (o.length : Int)) + (s.f14.length : Int))) = true from by
    rw [beq_iff_eq, wg_w64 (n := 20 + (o.length : Int)) (by omega) (by omega), wg_w64 (by omega) (by omega), hl]; first | done | omega)
  have HPUT := Lib.hid hput; have HGET := Lib.hid hget
  clear hput hget hB hoo HSM HK hbm hv hgp hl ho hd hn h7
  go_enter Try.func5, Try.ntmps5
  go_upto_region 1 with (fail)
  obtain ⟨g, hg⟩ : ∃ g, w.heap.size = g := ⟨_, rfl⟩
  have HG := Lib.hid (show (w.alloc (.cells (wgcells s (.slice A13 s.f13.length c13) (.slice A14 s.f14.length c14)) 26)).heap[g]? = some (.cells (wgcells s (.slice A13 s.f13.length c13) (.slice A14 s.f14.length c14)) 26 (0, 0)) from by rw [← hg]; exact blk_new w _)
  have HB1 := Lib.hid (show Below w.heap.size w (w.alloc (.cells (wgcells s (.slice A13 s.f13.length c13) (.slice A14 s.f14.length c14)) 26)) from (Below.refl _ w).alloc (Nat.le_refl _) _)
  rw [hg]
  clear hg
  generalize w.alloc (.cells (wgcells s (.slice A13 s.f13.length c13) (.slice A14 s.f14.length c14)) 26) = W1 at HG HB1 ⊢
  go_upto_region 3 with (first
    | (refine gate_ (.load 26 (.tmp 3)) rfl ?_; refine wpList_load_row rfl 26 (.tmp 3) rfl g rfl 26 _ (0, 0) _ HG.out Try.underlying26 rfl (by kernel_rfl) ?_)
    | (go_at_call 14; refine (HCK.out W1 (HS.out.below HB1.out).h13 (HS.out.below HB1.out).l13 (HS.out.below HB1.out).h14 (HS.out.below HB1.out).l14).mono ?_; rintro e w2 ⟨rfl, hb2⟩; have HB2 := Lib.hid (below_step HB1.out hb2); have HG2 := Lib.hid (blk_below HG.out hb2); clear hb2))
  go_upto_region 4 with (first
    | (refine gate_ (.load 26 (.tmp 3)) rfl ?_; refine wpList_load_row rfl 26 (.tmp 3) rfl g rfl 26 _ (0, 0) _ HG2.out Try.underlying26 rfl (by kernel_rfl) ?_)
    | (go_at_call 15; refine (HPUT.out w2 (HS.out.below HB2.out)).mono ?_; rintro e w3 ⟨hb3, gb, capb, rfl, hR3⟩; have HB3 := Lib.hid (below_step HB2.out hb3); have HG3 := Lib.hid (blk_below HG2.out hb3); have HR3 := Lib.hid hR3; clear hb3 hR3))
  have n0 : wgno 0 = 0 := rfl
  go_upto_region 5 with (first
    | (go_at_call 8; refine (HGET.out w3 _ _ (Kd.R_reads' HR3.out).2.2 (Kd.R_reads' HR3.out).2.1).mono ?_; rintro e w5a ⟨hb, v13, v14, rfl, r13, r14⟩; obtain ⟨A9, c9, e13⟩ := Kd.R_slice r13; obtain ⟨B9, d9, e14⟩ := Kd.R_slice r14; subst e13; subst e14; have HB5a := Lib.hid (below_step HB3.out hb); have HG5a := Lib.hid (blk_below HG3.out hb); have HZ5a := Lib.hid (SegC.of r13 r14); clear hb r13 r14)
    | (refine gate_ (.store 26 (.tmp 9) (.tmp 27)) rfl ?_; refine wg_store_op rfl rfl 26 (.tmp 9) (.tmp 27) rfl _ _ _ 26 _ rfl rfl rfl (by kernel_rfl) rfl (blk_new w5a _) rfl ?_; intro W5 h5 hg5))
  obtain ⟨hb, hbk, hx⟩ := wl_laid HB5a.out (Below.size HB5a.out) rfl h5 hg5 HZ5a.out
  have HB5 := Lib.hid hb
  obtain ⟨g9, hg9⟩ : ∃ g9, w5a.heap.size = g9 := ⟨_, rfl⟩
  rw [hg9] at h5 ⊢
  have KX := Lib.hid (fun (W : World) (hB : Below W5.heap.size W5 W) => blk_below h5 hB)
  have KG := Lib.hid (fun (W : World) (hB : Below W5.heap.size W5 W) => blk_below (blk_below HG5a.out hbk) hB)
  have KD := Lib.hid (fun (W : World) (hB : Below W5.heap.size W5 W) => show W.cell? ⟨g, 14, none⟩ = some (.slice A14 s.f14.length c14) from (blk_cell (KG.out W hB) 14).trans rfl)
  have KSA := Lib.hid (fun (W : World) (hB : Below W5.heap.size W5 W) => (HSA.out W A9 c9 B9 d9 (hx.below hB) ((HS.out.below HB5.out).below hB)).mono (fun (e : Ending) (w' : World) (h : e = .returned (.bool true) ∧ Below W.heap.size W w') => (show e = .returned (.bool true) ∧ Below W5.heap.size W5 w' from ⟨h.1, below_step hB h.2⟩)))
  have KO := Lib.hid (fun (W : World) (hB : Below W5.heap.size W5 W) => (HOP.out W ((HS.out.below HB5.out).below hB)).mono (fun (e : Ending) (w' : World) (h : ∃ v0_ : Value, e = .returned v0_ ∧ Kd.R (Kd.int .u8) 5 w' W.heap.size (fun _ => True) v0_ o ∧ Below W.heap.size W w') => (show ∃ (ao : Option Addr) (co : Nat), e = .returned (.slice ao o.length co) ∧ Below W5.heap.size W5 w' from by
    obtain ⟨v0, he, hr, hb⟩ := h
    obtain ⟨ao, co, hv⟩ := Kd.R_slice hr
    exact ⟨ao, co, by rw [he, hv], below_step hB hb⟩)))
  have KH := Lib.hid (fun (W : World) (hB : Below W5.heap.size W5 W) => (wl_heads W).mono (fun (e : Ending) (w' : World) (h : e = .returned (.bool true) ∧ Below W.heap.size W w') => (show e = .returned (.bool true) ∧ Below W5.heap.size W5 w' from ⟨h.1, below_step hB h.2⟩)))
  clear h5 hg5 hb hbk hx hg9 HB5a HG5a HZ5a HG3 HG2 HG HSA HOP HCK HPUT HGET
  refine start_ (n := 28) (S := fun w' => w'.heap[g9]? = some (.cells (wgcells s (.slice A9 s.f13.length c9) (.slice B9 s.f14.length d9)) 26 (0, 0)) ∧ w'.heap[g]? = some (.cells (wgcells s (.slice A13 s.f13.length c13) (.slice A14 s.f14.length c14)) 26 (0, 0)) ∧ w'.cell? ⟨g, 14, none⟩ = some (.slice A14 s.f14.length c14)) (ds := []) #[false, false, false, false, false, false, false, false, false, false, false, false, false, false, false, false, false, false, false, false, false, false, false, false, false, false, false, false] (by kernel_rfl) rfl rfl ⟨(KX.out _ (by exact below_drew1 (Below.refl W5.heap.size W5))), (KG.out _ (by exact below_drew1 (Below.refl W5.heap.size W5))), (KD.out _ (by exact below_drew1 (Below.refl W5.heap.size W5)))⟩ (fun hHeld => ?_)
  refine pure_ (i := 0) (N := some 29) (v := ?_) (a' := ?_) #[true, false, false, false, false, false, false, false, false, false, false, false, false, false, false, false, false, false, false, false, false, false, false, false, false, false, false, false] rfl rfl (by kernel_rfl) (fun _ _ _ h => h) (Or.inl ⟨by rfl, ?_⟩) ?_ ?_
  rotate_left
  · intro w'
    go_simp
    with_reducible rfl
  rotate_left
  · simp only [Act.put, List.setIfInBounds_toArray, List.set_cons_zero, List.set_cons_succ, i64_w, i32_w]
    rfl
  refine pure_ (i := 1) (N := some 30) (v := ?_) (a' := ?_) #[true, true, false, false, false, false, false, false, false, false, false, false, false, false, false, false, false, false, false, false, false, false, false, false, false, false, false, false] rfl rfl (by kernel_rfl) (fun _ _ _ h => h) (Or.inl ⟨by rfl, ?_⟩) ?_ ?_
  rotate_left
  · intro w'
    go_simp
    with_reducible rfl
  rotate_left
  · simp only [Act.put, List.setIfInBounds_toArray, List.set_cons_zero, List.set_cons_succ, i64_w, i32_w]
    rfl
  refine pure_ (i := 2) (N := some 31) (v := ?_) (a' := ?_) #[true, true, true, false, false, false, false, false, false, false, false, false, false, false, false, false, false, false, false, false, false, false, false, false, false, false, false, false] rfl rfl (by kernel_rfl) (fun _ _ _ h => h) (Or.inl ⟨by rfl, ?_⟩) ?_ ?_
  rotate_left
  · intro w'
    go_simp
    with_reducible rfl
  rotate_left
  · simp only [Act.put, List.setIfInBounds_toArray, List.set_cons_zero, List.set_cons_succ, i64_w, i32_w]
    rfl
  refine pure_ (i := 3) (N := some 32) (v := ?_) (a' := ?_) #[true, true, true, true, false, false, false, false, false, false, false, false, false, false, false, false, false, false, false, false, false, false, false, false, false, false, false, false] rfl rfl (by kernel_rfl) (fun _ _ _ h => h) (Or.inl ⟨by rfl, ?_⟩) ?_ ?_
  rotate_left
  · intro w'
    go_simp
    with_reducible rfl
  rotate_left
  · simp only [Act.put, List.setIfInBounds_toArray, List.set_cons_zero, List.set_cons_succ, i64_w, i32_w]
    rfl
  refine pure_ (i := 4) (N := some 33) (v := ?_) (a' := ?_) #[true, true, true, true, true, false, false, false, false, false, false, false, false, false, false, false, false, false, false, false, false, false, false, false, false, false, false, false] rfl rfl (by kernel_rfl) (fun _ _ _ h => h) (Or.inl ⟨by rfl, ?_⟩) ?_ ?_
  rotate_left
  · intro w'
    go_simp
    with_reducible rfl
  rotate_left
  · simp only [Act.put, List.setIfInBounds_toArray, List.set_cons_zero, List.set_cons_succ, i64_w, i32_w]
    rfl
  refine pure_ (i := 5) (N := some 34) (v := ?_) (a' := ?_) #[true, true, true, true, true, true, false, false, false, false, false, false, false, false, false, false, false, false, false, false, false, false, false, false, false, false, false, false] rfl rfl (by kernel_rfl) (fun _ _ _ h => h) (Or.inl ⟨by rfl, ?_⟩) ?_ ?_
  rotate_left
  · intro w'
    go_simp
    with_reducible rfl
  rotate_left
  · simp only [Act.put, List.setIfInBounds_toArray, List.set_cons_zero, List.set_cons_succ, i64_w, i32_w]
    rfl
  refine pure_ (i := 6) (N := some 35) (v := ?_) (a' := ?_) #[true, true, true, true, true, true, true, false, false, false, false, false, false, false, false, false, false, false, false, false, false, false, false, false, false, false, false, false] rfl rfl (by kernel_rfl) (fun _ _ _ h => h) (Or.inl ⟨by rfl, ?_⟩) ?_ ?_
  rotate_left
  · intro w'
    go_simp
    with_reducible rfl
  rotate_left
  · simp only [Act.put, List.setIfInBounds_toArray, List.set_cons_zero, List.set_cons_succ, i64_w, i32_w]
    rfl
  refine take_ (i := 7) (N := some 36) (v := .agg (wgcells s (.slice A9 s.f13.length c9) (.slice B9 s.f14.length d9))) (a' := ?_) #[true, true, true, true, true, true, true, true, false, false, false, false, false, false, false, false, false, false, false, false, false, false, false, false, false, false, false, false] rfl rfl (by kernel_rfl) (fun _ _ _ h => h) (wb_take (by rfl) (.tmp 9) rfl g9 rfl s _ _ (fun w' h => h.1)) hHeld ?_ ?_
  rotate_left
  · simp only [Act.put, List.setIfInBounds_toArray, List.set_cons_zero, List.set_cons_succ, i64_w, i32_w]
    rfl
  refine take_ (i := 8) (N := some 37) (v := .agg (wgcells s (.slice A13 s.f13.length c13) (.slice A14 s.f14.length c14))) (a' := ?_) #[true, true, true, true, true, true, true, true, true, false, false, false, false, false, false, false, false, false, false, false, false, false, false, false, false, false, false, false] rfl rfl (by kernel_rfl) (fun _ _ _ h => h) (wb_take (by rfl) (.tmp 3) rfl g rfl s _ _ (fun w' h => h.2.1)) hHeld ?_ ?_
  rotate_left
  · simp only [Act.put, List.setIfInBounds_toArray, List.set_cons_zero, List.set_cons_succ, i64_w, i32_w]
    rfl
  refine one_ (i := 9) (N := some 38) #[true, true, true, true, true, true, true, true, true, true, false, false, false, false, false, false, false, false, false, false, false, false, false, false, false, false, false, false] rfl rfl (by kernel_rfl) (by decide) (fun K hK => ?_)
  refine goes_ Try.func10 (by kernel_rfl) rfl #[SEG s A9 c9 B9 d9, SEG s A13 c13 A14 c14] (by rfl) rfl rfl (by simp only [List.map_toArray, List.map_cons, List.map_nil]; rfl) ?_
  with_reducible refine (KSA.out _ (by repeat (first | exact (Below.refl W5.heap.size W5) | with_reducible apply below_drew1 | with_reducible refine pw_below_drewN ?_ _ | with_reducible refine below_alloc ?_ _))).mono ?_
  rintro e u1 ⟨rfl, hb1⟩
  refine ⟨_, rfl, ?_⟩
  refine hK.out _ _ ⟨(KX.out _ hb1), (KG.out _ hb1), (KD.out _ hb1)⟩ (fun hHeld => ?_)
  clear hK K
  refine norm_ (a' := ?_) ?_ ?_
  rotate_left
  · show Act.put _ (some 38) _ = _
    simp only [Act.put, List.setIfInBounds_toArray, List.set_cons_zero, List.set_cons_succ, i64_w, i32_w]
    rfl
  refine pure_ (i := 10) (N := some 39) (v := ?_) (a' := ?_) #[true, true, true, true, true, true, true, true, true, true, true, false, false, false, false, false, false, false, false, false, false, false, false, false, false, false, false, false] rfl rfl (by kernel_rfl) (fun _ _ _ h => h) (Or.inl ⟨by rfl, ?_⟩) ?_ ?_
  rotate_left
  · intro w'
    go_simp
    with_reducible rfl
  rotate_left
  · simp only [Act.put, List.setIfInBounds_toArray, List.set_cons_zero, List.set_cons_succ, i64_w, i32_w]
    rfl
  refine pure_ (i := 11) (N := some 40) (v := ?_) (a' := ?_) #[true, true, true, true, true, true, true, true, true, true, true, true, false, false, false, false, false, false, false, false, false, false, false, false, false, false, false, false] rfl rfl (by kernel_rfl) (fun _ _ _ h => h) (Or.inl ⟨by rfl, ?_⟩) ?_ ?_
  rotate_left
  · intro w'
    go_simp
    with_reducible rfl
  rotate_left
  · simp only [Act.put, List.setIfInBounds_toArray, List.set_cons_zero, List.set_cons_succ, i64_w, i32_w]
    rfl
  refine pure_ (i := 12) (N := some 41) (v := ?_) (a' := ?_) #[true, true, true, true, true, true, true, true, true, true, true, true, true, false, false, false, false, false, false, false, false, false, false, false, false, false, false, false] rfl rfl (by kernel_rfl) (fun _ _ _ h => h) (Or.inl ⟨by rfl, ?_⟩) ?_ ?_
  rotate_left
  · intro w'
    go_simp
    with_reducible rfl
  rotate_left
  · simp only [Act.put, List.setIfInBounds_toArray, List.set_cons_zero, List.set_cons_succ, i64_w, i32_w]
    rfl
  refine pure_ (i := 13) (N := some 42) (v := ?_) (a' := ?_) #[true, true, true, true, true, true, true, true, true, true, true, true, true, true, false, false, false, false, false, false, false, false, false, false, false, false, false, false] rfl rfl (by kernel_rfl) (fun _ _ _ h => h) (Or.inl ⟨by rfl, ?_⟩) ?_ ?_
  rotate_left
  · intro w'
    go_simp
    with_reducible rfl
  rotate_left
  · simp only [Act.put, List.setIfInBounds_toArray, List.set_cons_zero, List.set_cons_succ, i64_w, i32_w]
    rfl
  refine pure_ (i := 18) (N := some 47) (v := ?_) (a' := ?_) #[true, true, true, true, true, true, true, true, true, true, true, true, true, true, false, false, false, false, true, false, false, false, false, false, false, false, false, false] rfl rfl (by kernel_rfl) (fun _ _ _ h => h) (Or.inl ⟨by rfl, ?_⟩) ?_ ?_
  rotate_left
  · intro w'
    go_simp
    with_reducible rfl
  rotate_left
  · simp only [Act.put, List.setIfInBounds_toArray, List.set_cons_zero, List.set_cons_succ, i64_w, i32_w]
    rfl
  refine take_ (i := 14) (N := some 43) (v := .agg (wgcells s (.slice A13 s.f13.length c13) (.slice A14 s.f14.length c14))) (a' := ?_) #[true, true, true, true, true, true, true, true, true, true, true, true, true, true, true, false, false, false, true, false, false, false, false, false, false, false, false, false] rfl rfl (by kernel_rfl) (fun _ _ _ h => h) (wb_take (by rfl) (.tmp 3) rfl g rfl s _ _ (fun w' h => h.2.1)) hHeld ?_ ?_
  rotate_left
  · simp only [Act.put, List.setIfInBounds_toArray, List.set_cons_zero, List.set_cons_succ, i64_w, i32_w]
    rfl
  refine take_ (i := 19) (N := some 48) (v := ?_) (a' := ?_) #[true, true, true, true, true, true, true, true, true, true, true, true, true, true, true, false, false, false, true, true, false, false, false, false, false, false, false, false] rfl rfl (by kernel_rfl) (fun _ _ _ h => h) (Or.inl ⟨by rfl, ?_⟩) hHeld ?_ ?_
  rotate_left
  · rintro w' ⟨s0, s1, s2⟩
    go_simp
    with_reducible rfl
  rotate_left
  · simp only [Act.put, List.setIfInBounds_toArray, List.set_cons_zero, List.set_cons_succ, i64_w, i32_w]
    rfl
  refine pure_ (i := 20) (N := some 49) (v := ?_) (a' := ?_) #[true, true, true, true, true, true, true, true, true, true, true, true, true, true, true, false, false, false, true, true, true, false, false, false, false, false, false, false] rfl rfl (by kernel_rfl) (fun _ _ _ h => h) (Or.inl ⟨by rfl, ?_⟩) ?_ ?_
  rotate_left
  · intro w'
    go_simp
    with_reducible rfl
  rotate_left
  · simp only [Act.put, List.setIfInBounds_toArray, List.set_cons_zero, List.set_cons_succ, i64_w, i32_w]
    rfl
  refine one_ (i := 15) (N := some 44) #[true, true, true, true, true, true, true, true, true, true, true, true, true, true, true, true, false, false, true, true, true, false, false, false, false, false, false, false] rfl rfl (by kernel_rfl) (by decide) (fun K hK => ?_)
  refine goes_ Try.func16 (by kernel_rfl) rfl #[SEG s A13 c13 A14 c14] (by rfl) rfl rfl (by simp only [List.map_toArray, List.map_cons, List.map_nil]; rfl) ?_
  with_reducible refine (KO.out _ (by repeat (first | exact hb1 | with_reducible apply below_drew1 | with_reducible refine pw_below_drewN ?_ _ | with_reducible refine below_alloc ?_ _))).mono ?_
  rintro e u2 ⟨ao, co, rfl, hb2⟩
  refine ⟨_, rfl, ?_⟩
  refine hK.out _ _ ⟨(KX.out _ hb2), (KG.out _ hb2), (KD.out _ hb2)⟩ (fun hHeld => ?_)
  clear hK K
  refine norm_ (a' := ?_) ?_ ?_
  rotate_left
  · show Act.put _ (some 44) _ = _
    simp only [Act.put, List.setIfInBounds_toArray, List.set_cons_zero, List.set_cons_succ, i64_w, i32_w]
    rfl
  refine pure_ (i := 16) (N := some 45) (v := ?_) (a' := ?_) #[true, true, true, true, true, true, true, true, true, true, true, true, true, true, true, true, true, false, true, true, true, false, false, false, false, false, false, false] rfl rfl (by kernel_rfl) (fun _ _ _ h => h) (Or.inl ⟨by rfl, ?_⟩) ?_ ?_
  rotate_left
  · intro w'
    go_simp
    with_reducible rfl
  rotate_left
  · simp only [Act.put, List.setIfInBounds_toArray, List.set_cons_zero, List.set_cons_succ, i64_w, i32_w]
    rfl
  refine pure_ (i := 17) (N := some 46) (v := ?_) (a' := ?_) #[true, true, true, true, true, true, true, true, true, true, true, true, true, true, true, true, true, true, true, true, true, false, false, false, false, false, false, false] rfl rfl (by kernel_rfl) (fun _ _ _ h => h) (Or.inl ⟨by rfl, ?_⟩) ?_ ?_
  rotate_left
  · intro w'
    go_simp
    with_reducible rfl
  rotate_left
  · simp only [Act.put, List.setIfInBounds_toArray, List.set_cons_zero, List.set_cons_succ, i64_w, i32_w]
    rfl
  refine pure_ (i := 21) (N := some 50) (v := ?_) (a' := ?_) #[true, true, true, true, true, true, true, true, true, true, true, true, true, true, true, true, true, true, true, true, true, true, false, false, false, false, false, false] rfl rfl (by kernel_rfl) (fun _ _ _ h => h) (Or.inl ⟨by rfl, ?_⟩) ?_ ?_
  rotate_left
  · intro w'
    go_simp
    with_reducible rfl
  rotate_left
  · simp only [Act.put, List.setIfInBounds_toArray, List.set_cons_zero, List.set_cons_succ, i64_w, i32_w]
    rfl
  refine pure_ (i := 22) (N := some 51) (v := ?_) (a' := ?_) #[true, true, true, true, true, true, true, true, true, true, true, true, true, true, true, true, true, true, true, true, true, true, true, false, false, false, false, false] rfl rfl (by kernel_rfl) (fun _ _ _ h => h) (Or.inl ⟨by rfl, ?_⟩) ?_ ?_
  rotate_left
  · intro w'
    go_simp
    simp only [HEQ.out]
    with_reducible rfl
  rotate_left
  · simp only [Act.put, List.setIfInBounds_toArray, List.set_cons_zero, List.set_cons_succ, i64_w, i32_w]
    rfl
  refine pure_ (i := 23) (N := some 52) (v := ?_) (a' := ?_) #[true, true, true, true, true, true, true, true, true, true, true, true, true, true, true, true, true, true, true, true, true, true, true, true, false, false, false, false] rfl rfl (by kernel_rfl) (fun _ _ _ h => h) (Or.inl ⟨by rfl, ?_⟩) ?_ ?_
  rotate_left
  · intro w'
    go_simp
    with_reducible rfl
  rotate_left
  · simp only [Act.put, List.setIfInBounds_toArray, List.set_cons_zero, List.set_cons_succ, i64_w, i32_w]
    rfl
  refine pure_ (i := 24) (N := some 53) (v := ?_) (a' := ?_) #[true, true, true, true, true, true, true, true, true, true, true, true, true, true, true, true, true, true, true, true, true, true, true, true, true, false, false, false] rfl rfl (by kernel_rfl) (fun _ _ _ h => h) (Or.inl ⟨by rfl, ?_⟩) ?_ ?_
  rotate_left
  · intro w'
    go_simp
    with_reducible rfl
  rotate_left
  · simp only [Act.put, List.setIfInBounds_toArray, List.set_cons_zero, List.set_cons_succ, i64_w, i32_w]
    rfl
  refine one_ (i := 25) (N := some 54) #[true, true, true, true, true, true, true, true, true, true, true, true, true, true, true, true, true, true, true, true, true, true, true, true, true, true, false, false] rfl rfl (by kernel_rfl) (by decide) (fun K hK => ?_)
  refine goes_ Try.func11 (by kernel_rfl) rfl #[] (by rfl) rfl rfl (by first | rfl | simp) ?_
  with_reducible refine (KH.out _ (by repeat (first | exact hb2 | with_reducible apply below_drew1 | with_reducible refine pw_below_drewN ?_ _ | with_reducible refine below_alloc ?_ _))).mono ?_
  rintro e u3 ⟨rfl, hb3⟩
  refine ⟨_, rfl, ?_⟩
  refine hK.out _ _ ⟨(KX.out _ hb3), (KG.out _ hb3), (KD.out _ hb3)⟩ (fun hHeld => ?_)
  clear hK K
  refine norm_ (a' := ?_) ?_ ?_
  rotate_left
  · show Act.put _ (some 54) _ = _
    simp only [Act.put, List.setIfInBounds_toArray, List.set_cons_zero, List.set_cons_succ, i64_w, i32_w]
    rfl
  refine pure_ (i := 26) (N := some 55) (v := ?_) (a' := ?_) #[true, true, true, true, true, true, true, true, true, true, true, true, true, true, true, true, true, true, true, true, true, true, true, true, true, true, true, false] rfl rfl (by kernel_rfl) (fun _ _ _ h => h) (Or.inl ⟨by rfl, ?_⟩) ?_ ?_
  rotate_left
  · intro w'
    go_simp
    with_reducible rfl
  rotate_left
  · simp only [Act.put, List.setIfInBounds_toArray, List.set_cons_zero, List.set_cons_succ, i64_w, i32_w]
    rfl
  refine pure_ (i := 27) (N := some 6) (v := ?_) (a' := ?_) #[true, true, true, true, true, true, true, true, true, true, true, true, true, true, true, true, true, true, true, true, true, true, true, true, true, true, true, true] rfl rfl (by kernel_rfl) (fun _ _ _ h => h) (Or.inl ⟨by rfl, ?_⟩) ?_ ?_
  rotate_left
  · intro w'
    go_simp
    with_reducible rfl
  rotate_left
  · simp only [Act.put, List.setIfInBounds_toArray, List.set_cons_zero, List.set_cons_succ, i64_w, i32_w]
    rfl
  refine done_ (by kernel_rfl) ?_
  go_wp2_with (fail)
  go_ret
  exact ⟨rfl, below_step HB5.out hb3⟩
theorem back (s : SG) (A13 : Option Addr) (c13 : Nat) (A14 : Option Addr) (c14 : Nat) (src dst : Int) (w : World) (hS : SegC w s A13 c13 A14 c14) (hw : WfS s) :
    Calls Try.prog 5 #[SEG s A13 c13 A14 c14, .int .u32 src, .int .u32 dst] w fun e w' => e = .returned (.bool true) ∧ Below w.heap.size w w' := by
  cases hk : chk s with
  | false => exact back_bad s A13 c13 A14 c14 src dst w hS hk
  | true =>
    obtain ⟨c, hc, hv, hb, hl, hg⟩ := put_all s hw hk src dst
    obtain ⟨_, _, _, _, b7, _, _, bn, bd, _, bo⟩ := chk_bd hk
    exact back_ok s A13 c13 A14 c14 src dst c w hS hk hc hb hl bo bd bn b7.2 hv hg
/-- The law, walked. -/
theorem WireBack_calls (x0 x1 x2 x3 x4 x5 x6 x7 x8 : Int) (x9 x10 : Bool) (x11 x12 : Int) (A13 : Option Addr) (c13 : Nat) (x13 : List SB) (A14 : Option Addr) (c14 : Nat) (x14 : List Int) (src dst : Int) (w : World)
    (h13 : Kd.C k56 w A13 x13.length x13) (l13 : x13.length ≤ c13) (h14 : Kd.C (Kd.int .u8) w A14 x14.length x14) (l14 : x14.length ≤ c14) (w0 : WfRow ⟨x0, x1, x2, x3, x4, x5, x6, x7, x8, x9, x10, x11, x12, x13, x14⟩) (w1 : (Lit.int .u32 src).wf = true) (w2 : (Lit.int .u32 dst).wf = true) :
    Calls Try.prog 5 #[.agg #[.int .i64 x0, .int .i64 x1, .int .u32 x2, .int .u32 x3, .int .i64 x4, .int .i64 x5, .int .i64 x6, .int .i64 x7, .int .i64 x8, .bool x9, .bool x10, .int .u32 x11, .int .u32 x12, .slice A13 x13.length c13, .slice A14 x14.length c14], .int .u32 src, .int .u32 dst] w fun e w' => e = .returned (.bool true) ∧ Below w.heap.size w w' :=
  back ⟨x0, x1, x2, x3, x4, x5, x6, x7, x8, x9, x10, x11, x12, x13, x14⟩ A13 c13 A14 c14 src dst w ⟨h13, l13, h14, l14⟩ (wfs_of w0)
end Go.Proofs.Ytenpekakmkemeaa.Pure

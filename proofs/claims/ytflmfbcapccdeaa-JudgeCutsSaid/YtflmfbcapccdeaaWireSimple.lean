/- wire.Check and wire.Options at a segment of data alone. -/
import Derived.Test.YtflmfbcapccdeaaWireFacts
import Derived.Test.YtflmfbcapccdeaaWireGet
import Derived.Test.YtflmfbcapccdeaaPAx18
import Derived.Lib.Hide
import Derived.WalkKit
import Derived.Laws.Rows
import Derived.Test.YtflmfbcapccdeaaPAx25
import Derived.Test.YtflmfbcapccdeaaWZeros
import Derived.Test.YtflmfbcapccdeaaWGuard
set_option linter.unusedVariables false
set_option linter.unusedSimpArgs false
set_option autoImplicit false
namespace Go.Proofs.Ytflmfbcapccdeaa.WireG
open Go.RowKit Go.Proofs.Ytflmfbcapccdeaa.PA Go.Proofs.YtflmfbcapccdeaaW.PrintWords Go.Proofs.YtflmfbcapccdeaaW.PrintLast Go.Proofs.YtflmfbcapccdeaaW.PrintMore
def putB (s : SG) : List Int := be2 s.f0 ++ be2 s.f1 ++ be4 s.f2 ++ be4 s.f3 ++ [16 * (5 + ((opts s).length : Int) / 4) % 256, s.f4 % 256] ++ be2 s.f5 ++ be2 0 ++ be2 s.f6 ++ opts s ++ s.f14
def pseu (src dst n : Int) : List Int := four8 src ++ four8 dst ++ [0, 6, (n / 256) % 256, n % 256]
def putF (c : Int) (s : SG) : List Int := ((putB s).set 16 (c / 256 % 256)).set 17 (c % 256)
theorem chk_bd {s : SG} (h : chk s = true) : (0 ≤ s.f0 ∧ s.f0 ≤ 65535) ∧ (0 ≤ s.f1 ∧ s.f1 ≤ 65535) ∧ (0 ≤ s.f5 ∧ s.f5 ≤ 65535) ∧ (0 ≤ s.f6 ∧ s.f6 ≤ 65535) ∧ (-1 ≤ s.f7 ∧ s.f7 ≤ 65535) ∧ (0 ≤ s.f4 ∧ s.f4 ≤ 255) ∧ (-1 ≤ s.f8 ∧ s.f8 ≤ 14) ∧ s.f13.length ≤ 4 ∧ s.f14.length ≤ 65000 ∧ (s.f10 = true ∨ Go.bits .or .u32 s.f11 s.f12 = 0) ∧ (opts s).length ≤ 40 := by
  unfold chk chkPlain chkRest w16 at h
  simp only [Bool.and_eq_true, Bool.or_eq_true, decide_eq_true_eq] at h
  obtain ⟨⟨⟨⟨a0, a1⟩, ⟨b0, b1⟩, ⟨c0, c1⟩, ⟨d0, d1⟩, e0, e1⟩, f0, g0, g1, h0, h1⟩, i0, j0, k0, l0⟩ := h
  refine ⟨⟨a0, a1⟩, ⟨b0, b1⟩, ⟨c0, c1⟩, ⟨d0, d1⟩, ⟨f0, ?_⟩, ⟨g0, g1⟩, ⟨h0, h1⟩, i0, j0, k0, l0⟩
  unfold mx at e1; split at e1 <;> omega
theorem putB_len (s : SG) : (putB s).length = 20 + (opts s).length + s.f14.length := by unfold putB; simp [be2, be4]; omega
/-- What Put hands back. -/
def WPut (w : World) (l : List Int) (e : Ending) (w' : World) : Prop := Below w.heap.size w w' ∧ ∃ g cap, e = .returned (.tuple #[.slice (some ⟨g, 0, none⟩) l.length cap, .int .i64 0]) ∧ Kd.R (Kd.int .u8) 5 w' w.heap.size (fun _ => True) (.slice (some ⟨g, 0, none⟩) l.length cap) l
/-- What Check, what Options answers, where the segment's rows are read. -/
def CkOk (s : SG) (A13 : Option Addr) (c13 : Nat) (A14 : Option Addr) (c14 : Nat) : Prop := ∀ (W : World), Kd.C k112 W A13 s.f13.length s.f13 → s.f13.length ≤ c13 → Kd.C (Kd.int .u8) W A14 s.f14.length s.f14 → s.f14.length ≤ c14 →
    Calls Try.prog 40 #[.agg (wgcells s (.slice A13 s.f13.length c13) (.slice A14 s.f14.length c14))] W fun e w' => e = .returned (.int .i64 (if chk s = true then 0 else 2)) ∧ Below W.heap.size W w'
def OpOk (s : SG) (A13 : Option Addr) (c13 : Nat) (A14 : Option Addr) (c14 : Nat) : Prop := ∀ (W : World), Kd.C k112 W A13 s.f13.length s.f13 → s.f13.length ≤ c13 → Kd.C (Kd.int .u8) W A14 s.f14.length s.f14 → s.f14.length ≤ c14 →
    Calls Try.prog 41 #[.agg (wgcells s (.slice A13 s.f13.length c13) (.slice A14 s.f14.length c14))] W fun e w' => ∃ v0_ : Value, e = .returned v0_ ∧ Kd.R (Kd.int .u8) 5 w' W.heap.size (fun _ => True) v0_ (opts s) ∧ Below W.heap.size W w'
set_option maxRecDepth 100000 in
set_option maxHeartbeats 16000000 in
theorem wp_ok0 (s : SG) (A13 : Option Addr) (c13 : Nat) (A14 : Option Addr) (c14 : Nat) (src dst c : Int) (w : World) (h13 : Kd.C k112 w A13 s.f13.length s.f13) (l13 : s.f13.length ≤ c13) (h14 : Kd.C (Kd.int .u8) w A14 s.f14.length s.f14) (l14 : s.f14.length ≤ c14) (hk : chk s = true)
    (hc : sum_Sum.f [pseu src dst ((putB s).length : Int), putB s] = some c) (hck : CkOk s A13 c13 A14 c14) (hop : OpOk s A13 c13 A14 c14) :
    Calls Try.prog 25 #[.agg (wgcells s (.slice A13 s.f13.length c13) (.slice A14 s.f14.length c14)), .int .u32 src, .int .u32 dst] w fun e w' => WPut w (putF c s) e w' := by
  obtain ⟨b0, b1, b5, b6, b7, b4, b8, bn, bd, _, bo⟩ := chk_bd hk
  have HCK := Lib.hid hck
  unfold CkOk at HCK
  have HOP := Lib.hid hop
  unfold OpOk at HOP
  clear hck hop
  rw [hk] at HCK
  have H13 := Lib.hid h13; have H14 := Lib.hid h14; have L13 := Lib.hid l13; have L14 := Lib.hid l14
  have hlp := putB_len s
  obtain ⟨o, ho⟩ : ∃ o, opts s = o := ⟨_, rfl⟩
  rw [ho] at HOP bo hlp
  have HPB := Lib.hid (show putB s = be2 s.f0 ++ be2 s.f1 ++ be4 s.f2 ++ be4 s.f3 ++ [16 * (5 + (o.length : Int) / 4) % 256, s.f4 % 256] ++ be2 s.f5 ++ be2 0 ++ be2 s.f6 ++ o ++ s.f14 from by rw [putB, ho])
  have HC := Lib.hid hc; have HBO := Lib.hid bo; have HBD := Lib.hid bd; have HLP := Lib.hid hlp
  have e0 : s.f0 % 4294967296 = s.f0 := by omega
  have e1 : s.f1 % 4294967296 = s.f1 := by omega
  have e5 : s.f5 % 4294967296 = s.f5 := by omega
  have e6 : s.f6 % 4294967296 = s.f6 := by omega
  have q0 : IntKind.u32.wrap s.f0 = s.f0 := by rw [IntKind.wrap_u32]; exact e0
  have q1 : IntKind.u32.wrap s.f1 = s.f1 := by rw [IntKind.wrap_u32]; exact e1
  have q5 : IntKind.u32.wrap s.f5 = s.f5 := by rw [IntKind.wrap_u32]; exact e5
  have q6 : IntKind.u32.wrap s.f6 = s.f6 := by rw [IntKind.wrap_u32]; exact e6
  have B4 := Lib.hid b4
  clear h13 h14 l13 l14 hk hc ho b0 b1 b5 b6 b7 b4 b8 bn bd bo hlp
  go_enter Try.func25, Try.ntmps25
  go_upto_region 1 with (fail)
  obtain ⟨g, hg⟩ : ∃ g, w.heap.size = g := ⟨_, rfl⟩
  have HG := Lib.hid (show (w.alloc (.cells (wgcells s (.slice A13 s.f13.length c13) (.slice A14 s.f14.length c14)) 53)).heap[g]? = some (.cells (wgcells s (.slice A13 s.f13.length c13) (.slice A14 s.f14.length c14)) 53 (0, 0)) from by rw [← hg]; exact blk_new w _)
  have HB1 := Lib.hid (show Below w.heap.size w (w.alloc (.cells (wgcells s (.slice A13 s.f13.length c13) (.slice A14 s.f14.length c14)) 53)) from (Below.refl _ w).alloc (Nat.le_refl _) _)
  rw [hg]
  clear hg
  generalize w.alloc (.cells (wgcells s (.slice A13 s.f13.length c13) (.slice A14 s.f14.length c14)) 53) = W1 at HG HB1 ⊢
  go_upto_region 5 with (first
    | (have HB2 := HB2; refine gate_ (.load 53 (.tmp 3)) rfl ?_; refine wpList_load_row rfl 53 (.tmp 3) rfl g rfl 53 _ (0, 0) _ HG2.out Try.underlying53 rfl (by kernel_rfl) ?_)
    | (refine gate_ (.load 53 (.tmp 3)) rfl ?_; refine wpList_load_row rfl 53 (.tmp 3) rfl g rfl 53 _ (0, 0) _ HG.out Try.underlying53 rfl (by kernel_rfl) ?_)
    | (go_at_call 40; refine (HCK.out W1 (Kd.C_below H13.out HB1.out) L13.out (Kd.C_below H14.out HB1.out) L14.out).mono ?_; rintro e w2 ⟨rfl, hb2⟩; have HB2 := Lib.hid (below_step HB1.out hb2); have HG2 := Lib.hid (blk_below HG.out hb2); clear hb2)
    | (go_at_call 41; refine (HOP.out w2 (Kd.C_below H13.out HB2.out) L13.out (Kd.C_below H14.out HB2.out) L14.out).mono ?_; rintro e W3 ⟨vo, rfl, hro, hb3⟩; have HB3 := Lib.hid (below_step HB2.out hb3); have HG3 := Lib.hid (blk_below HG2.out hb3); obtain ⟨Ao, co, rfl, hco, hCo⟩ := Kd.R_reads hro; have HCO := Lib.hid hCo; clear hro hb3 hCo))
  have KS0 := Lib.hid (fun (W : World) (hB : Below W3.heap.size W3 W) => show W.cell? ⟨g, 0, none⟩ = some (.int .i64 s.f0) from (blk_cell (blk_below HG3.out hB) 0).trans rfl)
  have KS1 := Lib.hid (fun (W : World) (hB : Below W3.heap.size W3 W) => show W.cell? ⟨g, 1, none⟩ = some (.int .i64 s.f1) from (blk_cell (blk_below HG3.out hB) 1).trans rfl)
  have KS2 := Lib.hid (fun (W : World) (hB : Below W3.heap.size W3 W) => show W.cell? ⟨g, 2, none⟩ = some (.int .u32 s.f2) from (blk_cell (blk_below HG3.out hB) 2).trans rfl)
  have KS3 := Lib.hid (fun (W : World) (hB : Below W3.heap.size W3 W) => show W.cell? ⟨g, 3, none⟩ = some (.int .u32 s.f3) from (blk_cell (blk_below HG3.out hB) 3).trans rfl)
  have KS4 := Lib.hid (fun (W : World) (hB : Below W3.heap.size W3 W) => show W.cell? ⟨g, 4, none⟩ = some (.int .i64 s.f4) from (blk_cell (blk_below HG3.out hB) 4).trans rfl)
  have KS5 := Lib.hid (fun (W : World) (hB : Below W3.heap.size W3 W) => show W.cell? ⟨g, 5, none⟩ = some (.int .i64 s.f5) from (blk_cell (blk_below HG3.out hB) 5).trans rfl)
  have KS6 := Lib.hid (fun (W : World) (hB : Below W3.heap.size W3 W) => show W.cell? ⟨g, 6, none⟩ = some (.int .i64 s.f6) from (blk_cell (blk_below HG3.out hB) 6).trans rfl)
  have KS14 := Lib.hid (fun (W : World) (hB : Below W3.heap.size W3 W) => show W.cell? ⟨g, 14, none⟩ = some (.slice A14 s.f14.length c14) from (blk_cell (blk_below HG3.out hB) 14).trans rfl)
  have KO := Lib.hid (fun (W : World) (hB : Below W3.heap.size W3 W) => show Kd.C (Kd.int .u8) W Ao o.length o from Kd.C_below HCO.out hB)
  have KD := Lib.hid (fun (W : World) (hB : Below W3.heap.size W3 W) => show Kd.C (Kd.int .u8) W A14 s.f14.length s.f14 from Kd.C_below (Kd.C_below H14.out HB3.out) hB)
  refine start_ (n := 9) (S := fun w' => w'.cell? ⟨g, 0, none⟩ = some (.int .i64 s.f0) ∧ w'.cell? ⟨g, 1, none⟩ = some (.int .i64 s.f1)) (ds := []) #[O,O,O,O,O,O,O,O,O] (by kernel_rfl) rfl rfl ⟨(KS0.out _ (by exact below_drew1 (Below.refl W3.heap.size W3))), (KS1.out _ (by exact below_drew1 (Below.refl W3.heap.size W3)))⟩ (fun hHeld => ?_)
  refine pure_ (i := 0) (N := some 19) (v := ?_) (a' := ?_) #[I,O,O,O,O,O,O,O,O] rfl rfl (by kernel_rfl) (fun _ _ _ h => h) (Or.inl ⟨by rfl, ?_⟩) ?_ ?_
  rotate_left
  · intro w'
    go_simp
    with_reducible rfl
  rotate_left
  · simp only [Act.put, sA_, sZ_, sS_, i64_w, i32_w]
    rfl
  refine pure_ (i := 4) (N := some 23) (v := ?_) (a' := ?_) #[I,O,O,O,I,O,O,O,O] rfl rfl (by kernel_rfl) (fun _ _ _ h => h) (Or.inl ⟨by rfl, ?_⟩) ?_ ?_
  rotate_left
  · intro w'
    go_simp
    with_reducible rfl
  rotate_left
  · simp only [Act.put, sA_, sZ_, sS_, i64_w, i32_w]
    rfl
  refine take_ (i := 1) (N := some 20) (v := ?_) (a' := ?_) #[I,I,O,O,I,O,O,O,O] rfl rfl (by kernel_rfl) (fun _ _ _ h => h) (Or.inl ⟨by rfl, ?_⟩) hHeld ?_ ?_
  rotate_left
  · rintro w' ⟨s0, s1⟩
    go_simp
    with_reducible rfl
  rotate_left
  · simp only [Act.put, sA_, sZ_, sS_, i64_w, i32_w]
    rfl
  refine pure_ (i := 2) (N := some 21) (v := ?_) (a' := ?_) #[I,I,I,O,I,O,O,O,O] rfl rfl (by kernel_rfl) (fun _ _ _ h => h) (Or.inl ⟨by rfl, ?_⟩) ?_ ?_
  rotate_left
  · intro w'
    go_simp
    with_reducible rfl
  rotate_left
  · simp only [Act.put, sA_, sZ_, sS_, i64_w, i32_w]
    rfl
  refine take_ (i := 5) (N := some 24) (v := ?_) (a' := ?_) #[I,I,I,O,I,I,O,O,O] rfl rfl (by kernel_rfl) (fun _ _ _ h => h) (Or.inl ⟨by rfl, ?_⟩) hHeld ?_ ?_
  rotate_left
  · rintro w' ⟨s0, s1⟩
    go_simp
    with_reducible rfl
  rotate_left
  · simp only [Act.put, sA_, sZ_, sS_, i64_w, i32_w]
    rfl
  refine pure_ (i := 6) (N := some 25) (v := ?_) (a' := ?_) #[I,I,I,O,I,I,I,O,O] rfl rfl (by kernel_rfl) (fun _ _ _ h => h) (Or.inl ⟨by rfl, ?_⟩) ?_ ?_
  rotate_left
  · intro w'
    go_simp
    with_reducible rfl
  rotate_left
  · simp only [Act.put, sA_, sZ_, sS_, i64_w, i32_w]
    rfl
  refine one_ (i := 3) (N := some 22) #[I,I,I,I,I,I,I,O,O] rfl rfl (by kernel_rfl) (by decide) (fun K hK => ?_)
  refine goes_ Try.func42 (by kernel_rfl) rfl #[(.slice none 0 0), .int .u32 _, .int .i64 2] (by rfl) rfl rfl (by simp only [List.map_toArray, List.map_cons, List.map_nil]; rfl) ?_
  with_reducible refine (wire_put.calls 10 (fun _ => True) (.slice none 0 0) [] _ 2 _ W3 _ (by repeat (first | exact (Below.refl W3.heap.size W3) | with_reducible apply below_drew1 | with_reducible refine pw_below_drewN ?_ _ | with_reducible refine below_alloc ?_ _)) (Kd.R_nil _ _ _ _ _) (wf_put2 7 _ _ (by first | omega | (simp only [List.length_append, be2_len, be4_len, List.length_nil]; omega)))).mono ?_
  rintro e u5 ⟨x5, rfl, hr5, hb5, hk5⟩
  replace hr5 := Kd.R_mono (ok' := fun _ => True) hr5 (fun _ _ => trivial)
  refine ⟨_, rfl, ?_⟩
  refine hK.out _ _ ⟨(KS0.out _ hb5), (KS1.out _ hb5)⟩ (fun hHeld => ?_)
  clear hK K
  refine norm_ (a' := ?_) ?_ ?_
  rotate_left
  · show Act.put _ (some 22) _ = _
    simp only [Act.put, sA_, sZ_, sS_, i64_w, i32_w]
    rfl
  refine one_ (i := 7) (N := some 26) #[I,I,I,I,I,I,I,I,O] rfl rfl (by kernel_rfl) (by decide) (fun K hK => ?_)
  refine goes_ Try.func42 (by kernel_rfl) rfl #[x5, .int .u32 _, .int .i64 2] (by rfl) rfl rfl (by simp only [List.map_toArray, List.map_cons, List.map_nil]; rfl) ?_
  with_reducible refine (wire_put.calls 10 (fun _ => True) x5 _ _ 2 _ W3 _ (by repeat (first | exact hb5 | with_reducible apply below_drew1 | with_reducible refine pw_below_drewN ?_ _ | with_reducible refine below_alloc ?_ _)) (by repeat (first | exact hr5 | with_reducible refine Kd.R_drew ?_ | with_reducible refine Kd.R_drewN ?_ _ | with_reducible refine Kd.R_alloc ?_ _)) (wf_put2 7 _ _ (by first | omega | (simp only [List.length_append, be2_len, be4_len, List.length_nil]; omega)))).mono ?_
  rintro e u6 ⟨x6, rfl, hr6, hb6, hk6⟩
  replace hr6 := Kd.R_mono (ok' := fun _ => True) hr6 (fun _ _ => trivial)
  refine ⟨_, rfl, ?_⟩
  refine hK.out _ _ ⟨(KS0.out _ hb6), (KS1.out _ hb6)⟩ (fun hHeld => ?_)
  clear hK K
  refine norm_ (a' := ?_) ?_ ?_
  rotate_left
  · show Act.put _ (some 26) _ = _
    simp only [Act.put, sA_, sZ_, sS_, i64_w, i32_w]
    rfl
  refine pure_ (i := 8) (N := some 10) (v := ?_) (a' := ?_) #[I,I,I,I,I,I,I,I,I] rfl rfl (by kernel_rfl) (fun _ _ _ h => h) (Or.inl ⟨by rfl, ?_⟩) ?_ ?_
  rotate_left
  · intro w'
    go_simp
    with_reducible rfl
  rotate_left
  · simp only [Act.put, sA_, sZ_, sS_, i64_w, i32_w]
    rfl
  refine done_ (by kernel_rfl) ?_
  obtain ⟨L6, hL6⟩ : ∃ L, ([] ++ be2 s.f0 ++ be2 s.f1 : List Int) = L := ⟨_, rfl⟩
  rw [hL6] at hr6
  have hn6 : L6.length = 4 := by rw [← hL6]; simp only [List.length_append, be2_len, be4_len, List.length_nil, List.length_cons]
  have HR6 := Lib.hid hr6; have HB6 := Lib.hid hb6; have HL6 := Lib.hid hL6
  clear hr5 hb5 hk5 hr6 hb6 hk6 hHeld hL6
  go_upto_region 6 with (fail)
  refine start_ (n := 8) (S := fun w' => w'.cell? ⟨g, 2, none⟩ = some (.int .u32 s.f2) ∧ w'.cell? ⟨g, 3, none⟩ = some (.int .u32 s.f3)) (ds := []) #[O,O,O,O,O,O,O,O] (by kernel_rfl) rfl rfl ⟨(KS2.out _ (by exact below_drew1 HB6.out)), (KS3.out _ (by exact below_drew1 HB6.out))⟩ (fun hHeld => ?_)
  refine pure_ (i := 0) (N := some 27) (v := ?_) (a' := ?_) #[I,O,O,O,O,O,O,O] rfl rfl (by kernel_rfl) (fun _ _ _ h => h) (Or.inl ⟨by rfl, ?_⟩) ?_ ?_
  rotate_left
  · intro w'
    go_simp
    with_reducible rfl
  rotate_left
  · simp only [Act.put, sA_, sZ_, sS_, i64_w, i32_w]
    rfl
  refine pure_ (i := 1) (N := some 28) (v := ?_) (a' := ?_) #[I,I,O,O,O,O,O,O] rfl rfl (by kernel_rfl) (fun _ _ _ h => h) (Or.inl ⟨by rfl, ?_⟩) ?_ ?_
  rotate_left
  · intro w'
    go_simp
    with_reducible rfl
  rotate_left
  · simp only [Act.put, sA_, sZ_, sS_, i64_w, i32_w]
    rfl
  refine pure_ (i := 4) (N := some 31) (v := ?_) (a' := ?_) #[I,I,O,O,I,O,O,O] rfl rfl (by kernel_rfl) (fun _ _ _ h => h) (Or.inl ⟨by rfl, ?_⟩) ?_ ?_
  rotate_left
  · intro w'
    go_simp
    with_reducible rfl
  rotate_left
  · simp only [Act.put, sA_, sZ_, sS_, i64_w, i32_w]
    rfl
  refine take_ (i := 2) (N := some 29) (v := ?_) (a' := ?_) #[I,I,I,O,I,O,O,O] rfl rfl (by kernel_rfl) (fun _ _ _ h => h) (Or.inl ⟨by rfl, ?_⟩) hHeld ?_ ?_
  rotate_left
  · rintro w' ⟨s0, s1⟩
    go_simp
    with_reducible rfl
  rotate_left
  · simp only [Act.put, sA_, sZ_, sS_, i64_w, i32_w]
    rfl
  refine take_ (i := 5) (N := some 32) (v := ?_) (a' := ?_) #[I,I,I,O,I,I,O,O] rfl rfl (by kernel_rfl) (fun _ _ _ h => h) (Or.inl ⟨by rfl, ?_⟩) hHeld ?_ ?_
  rotate_left
  · rintro w' ⟨s0, s1⟩
    go_simp
    with_reducible rfl
  rotate_left
  · simp only [Act.put, sA_, sZ_, sS_, i64_w, i32_w]
    rfl
  refine one_ (i := 3) (N := some 30) #[I,I,I,I,I,I,O,O] rfl rfl (by kernel_rfl) (by decide) (fun K hK => ?_)
  refine goes_ Try.func42 (by kernel_rfl) rfl #[x6, .int .u32 _, .int .i64 4] (by rfl) rfl rfl (by simp only [List.map_toArray, List.map_cons, List.map_nil]; rfl) ?_
  with_reducible refine (wire_put.calls 10 (fun _ => True) x6 L6 _ 4 _ W3 _ (by repeat (first | exact HB6.out | with_reducible apply below_drew1 | with_reducible refine pw_below_drewN ?_ _ | with_reducible refine below_alloc ?_ _)) (by repeat (first | exact HR6.out | with_reducible refine Kd.R_drew ?_ | with_reducible refine Kd.R_drewN ?_ _ | with_reducible refine Kd.R_alloc ?_ _)) (wf_put4 5 _ _ (by first | omega | (simp only [List.length_append, be2_len, be4_len, List.length_nil]; omega)))).mono ?_
  rintro e u7 ⟨x7, rfl, hr7, hb7, hk7⟩
  replace hr7 := Kd.R_mono (ok' := fun _ => True) hr7 (fun _ _ => trivial)
  refine ⟨_, rfl, ?_⟩
  refine hK.out _ _ ⟨(KS2.out _ hb7), (KS3.out _ hb7)⟩ (fun hHeld => ?_)
  clear hK K
  refine norm_ (a' := ?_) ?_ ?_
  rotate_left
  · show Act.put _ (some 30) _ = _
    simp only [Act.put, sA_, sZ_, sS_, i64_w, i32_w]
    rfl
  refine one_ (i := 6) (N := some 33) #[I,I,I,I,I,I,I,O] rfl rfl (by kernel_rfl) (by decide) (fun K hK => ?_)
  refine goes_ Try.func42 (by kernel_rfl) rfl #[x7, .int .u32 _, .int .i64 4] (by rfl) rfl rfl (by simp only [List.map_toArray, List.map_cons, List.map_nil]; rfl) ?_
  with_reducible refine (wire_put.calls 10 (fun _ => True) x7 _ _ 4 _ W3 _ (by repeat (first | exact hb7 | with_reducible apply below_drew1 | with_reducible refine pw_below_drewN ?_ _ | with_reducible refine below_alloc ?_ _)) (by repeat (first | exact hr7 | with_reducible refine Kd.R_drew ?_ | with_reducible refine Kd.R_drewN ?_ _ | with_reducible refine Kd.R_alloc ?_ _)) (wf_put4 5 _ _ (by first | omega | (simp only [List.length_append, be2_len, be4_len, List.length_nil]; omega)))).mono ?_
  rintro e u8 ⟨x8, rfl, hr8, hb8, hk8⟩
  replace hr8 := Kd.R_mono (ok' := fun _ => True) hr8 (fun _ _ => trivial)
  refine ⟨_, rfl, ?_⟩
  refine hK.out _ _ ⟨(KS2.out _ hb8), (KS3.out _ hb8)⟩ (fun hHeld => ?_)
  clear hK K
  refine norm_ (a' := ?_) ?_ ?_
  rotate_left
  · show Act.put _ (some 33) _ = _
    simp only [Act.put, sA_, sZ_, sS_, i64_w, i32_w]
    rfl
  refine pure_ (i := 7) (N := some 10) (v := ?_) (a' := ?_) #[I,I,I,I,I,I,I,I] rfl rfl (by kernel_rfl) (fun _ _ _ h => h) (Or.inl ⟨by rfl, ?_⟩) ?_ ?_
  rotate_left
  · intro w'
    go_simp
    with_reducible rfl
  rotate_left
  · simp only [Act.put, sA_, sZ_, sS_, i64_w, i32_w]
    rfl
  refine done_ (by kernel_rfl) ?_
  obtain ⟨L8, hL8⟩ : ∃ L, (L6 ++ be4 s.f2 ++ be4 s.f3 : List Int) = L := ⟨_, rfl⟩
  rw [hL8] at hr8
  have hn8 : L8.length = 12 := by rw [← hL8]; simp only [List.length_append, be2_len, be4_len, List.length_nil, List.length_cons, hn6]
  have HR8 := Lib.hid hr8; have HB8 := Lib.hid hb8; have HL8 := Lib.hid hL8
  clear hr7 hb7 hk7 hr8 hb8 hk8 hHeld hL8
  have hq4 : (o.length : Int).tdiv 4 = (o.length : Int) / 4 := Int.tdiv_eq_ediv_of_nonneg (by omega)
  have k4 := KS4.out _ HB8.out
  go_wp2_with (at_builtin; refine whold_of ?_)
  refine whold_mk ?_
  have hX : wrap64 (5 + wrap64 ((o.length : Int) / 4)) % 256 * 16 % 256 = 16 * (5 + (o.length : Int) / 4) % 256 := by
    have := HBO.out
    rw [wg_w64 (n := (o.length : Int) / 4) (by omega) (by omega), wg_w64 (by omega) (by omega)]; omega
  refine Kd.R_append_rows (Kd.int .u8) (Rr := fun x cs => cs = [.int .u8 x]) (w0 := W3) W3.heap.size rfl (.tmp 34) (.tmp 44) 34 5 (.int .u8 0) 1 rfl Try.underlying34 info5 rfl (by decide) (by decide) x8 L8 [wrap64 (5 + wrap64 ((o.length : Int) / 4)) % 256 * 16 % 256, s.f4 % 256] _ _ _ (fun _ => True) (fun _ => False) rfl rfl (Kd.R_alloc HR8.out _) (reads_lit u8 [wrap64 (5 + wrap64 ((o.length : Int) / 4)) % 256 * 16 % 256, s.f4 % 256] 5 (by simp)) (fun _ _ e => e) (fun _ e => e.elim) (fun _ _ => trivial) (below_alloc HB8.out _) (by have h_ := Below.size HB8.out; rw [World.size_alloc]; omega) (by simp; omega) ?_
  intro x10 u10 hr10 hb10 _ _
  rw [hX] at hr10
  clear hX hq4 k4
  obtain ⟨L10, hL10⟩ : ∃ L, (L8 ++ [16 * (5 + (o.length : Int) / 4) % 256, s.f4 % 256] : List Int) = L := ⟨_, rfl⟩
  rw [hL10] at hr10
  have hn10 : L10.length = 14 := by rw [← hL10]; simp only [List.length_append, be2_len, be4_len, List.length_nil, List.length_cons, hn8]
  have HR10 := Lib.hid hr10; have HB10 := Lib.hid hb10; have HL10 := Lib.hid hL10
  clear hr10 hb10 hL10
  go_upto_region 8 with (fail)
  refine start_ (n := 11) (S := fun w' => w'.cell? ⟨g, 5, none⟩ = some (.int .i64 s.f5) ∧ w'.cell? ⟨g, 6, none⟩ = some (.int .i64 s.f6)) (ds := []) #[O,O,O,O,O,O,O,O,O,O,O] (by kernel_rfl) rfl rfl ⟨(KS5.out _ (by exact below_drew1 HB10.out)), (KS6.out _ (by exact below_drew1 HB10.out))⟩ (fun hHeld => ?_)
  refine pure_ (i := 0) (N := some 46) (v := ?_) (a' := ?_) #[I,O,O,O,O,O,O,O,O,O,O] rfl rfl (by kernel_rfl) (fun _ _ _ h => h) (Or.inl ⟨by rfl, ?_⟩) ?_ ?_
  rotate_left
  · intro w'
    go_simp
    with_reducible rfl
  rotate_left
  · simp only [Act.put, sA_, sZ_, sS_, i64_w, i32_w]
    rfl
  refine pure_ (i := 1) (N := some 47) (v := ?_) (a' := ?_) #[I,I,O,O,O,O,O,O,O,O,O] rfl rfl (by kernel_rfl) (fun _ _ _ h => h) (Or.inl ⟨by rfl, ?_⟩) ?_ ?_
  rotate_left
  · intro w'
    go_simp
    with_reducible rfl
  rotate_left
  · simp only [Act.put, sA_, sZ_, sS_, i64_w, i32_w]
    rfl
  refine pure_ (i := 6) (N := some 52) (v := ?_) (a' := ?_) #[I,I,O,O,O,O,I,O,O,O,O] rfl rfl (by kernel_rfl) (fun _ _ _ h => h) (Or.inl ⟨by rfl, ?_⟩) ?_ ?_
  rotate_left
  · intro w'
    go_simp
    with_reducible rfl
  rotate_left
  · simp only [Act.put, sA_, sZ_, sS_, i64_w, i32_w]
    rfl
  refine take_ (i := 2) (N := some 48) (v := ?_) (a' := ?_) #[I,I,I,O,O,O,I,O,O,O,O] rfl rfl (by kernel_rfl) (fun _ _ _ h => h) (Or.inl ⟨by rfl, ?_⟩) hHeld ?_ ?_
  rotate_left
  · rintro w' ⟨s0, s1⟩
    go_simp
    with_reducible rfl
  rotate_left
  · simp only [Act.put, sA_, sZ_, sS_, i64_w, i32_w]
    rfl
  refine pure_ (i := 3) (N := some 49) (v := ?_) (a' := ?_) #[I,I,I,I,O,O,I,O,O,O,O] rfl rfl (by kernel_rfl) (fun _ _ _ h => h) (Or.inl ⟨by rfl, ?_⟩) ?_ ?_
  rotate_left
  · intro w'
    go_simp
    with_reducible rfl
  rotate_left
  · simp only [Act.put, sA_, sZ_, sS_, i64_w, i32_w]
    rfl
  refine take_ (i := 7) (N := some 53) (v := ?_) (a' := ?_) #[I,I,I,I,O,O,I,I,O,O,O] rfl rfl (by kernel_rfl) (fun _ _ _ h => h) (Or.inl ⟨by rfl, ?_⟩) hHeld ?_ ?_
  rotate_left
  · rintro w' ⟨s0, s1⟩
    go_simp
    with_reducible rfl
  rotate_left
  · simp only [Act.put, sA_, sZ_, sS_, i64_w, i32_w]
    rfl
  refine pure_ (i := 8) (N := some 54) (v := ?_) (a' := ?_) #[I,I,I,I,O,O,I,I,I,O,O] rfl rfl (by kernel_rfl) (fun _ _ _ h => h) (Or.inl ⟨by rfl, ?_⟩) ?_ ?_
  rotate_left
  · intro w'
    go_simp
    with_reducible rfl
  rotate_left
  · simp only [Act.put, sA_, sZ_, sS_, i64_w, i32_w]
    rfl
  refine one_ (i := 4) (N := some 50) #[I,I,I,I,I,O,I,I,I,O,O] rfl rfl (by kernel_rfl) (by decide) (fun K hK => ?_)
  refine goes_ Try.func42 (by kernel_rfl) rfl #[x10, .int .u32 _, .int .i64 2] (by rfl) rfl rfl (by simp only [List.map_toArray, List.map_cons, List.map_nil]; rfl) ?_
  with_reducible refine (wire_put.calls 10 (fun _ => True) x10 L10 _ 2 _ W3 _ (by repeat (first | exact HB10.out | with_reducible apply below_drew1 | with_reducible refine pw_below_drewN ?_ _ | with_reducible refine below_alloc ?_ _)) (by repeat (first | exact HR10.out | with_reducible refine Kd.R_drew ?_ | with_reducible refine Kd.R_drewN ?_ _ | with_reducible refine Kd.R_alloc ?_ _)) (wf_put2 7 _ _ (by first | omega | (simp only [List.length_append, be2_len, be4_len, List.length_nil]; omega)))).mono ?_
  rintro e u11 ⟨x11, rfl, hr11, hb11, hk11⟩
  replace hr11 := Kd.R_mono (ok' := fun _ => True) hr11 (fun _ _ => trivial)
  refine ⟨_, rfl, ?_⟩
  refine hK.out _ _ ⟨(KS5.out _ hb11), (KS6.out _ hb11)⟩ (fun hHeld => ?_)
  clear hK K
  refine norm_ (a' := ?_) ?_ ?_
  rotate_left
  · show Act.put _ (some 50) _ = _
    simp only [Act.put, sA_, sZ_, sS_, i64_w, i32_w]
    rfl
  refine one_ (i := 5) (N := some 51) #[I,I,I,I,I,I,I,I,I,O,O] rfl rfl (by kernel_rfl) (by decide) (fun K hK => ?_)
  refine goes_ Try.func42 (by kernel_rfl) rfl #[x11, .int .u32 _, .int .i64 2] (by rfl) rfl rfl (by simp only [List.map_toArray, List.map_cons, List.map_nil]; rfl) ?_
  with_reducible refine (wire_put.calls 10 (fun _ => True) x11 _ _ 2 _ W3 _ (by repeat (first | exact hb11 | with_reducible apply below_drew1 | with_reducible refine pw_below_drewN ?_ _ | with_reducible refine below_alloc ?_ _)) (by repeat (first | exact hr11 | with_reducible refine Kd.R_drew ?_ | with_reducible refine Kd.R_drewN ?_ _ | with_reducible refine Kd.R_alloc ?_ _)) (wf_put2 7 _ _ (by first | omega | (simp only [List.length_append, be2_len, be4_len, List.length_nil]; omega)))).mono ?_
  rintro e u12 ⟨x12, rfl, hr12, hb12, hk12⟩
  replace hr12 := Kd.R_mono (ok' := fun _ => True) hr12 (fun _ _ => trivial)
  refine ⟨_, rfl, ?_⟩
  refine hK.out _ _ ⟨(KS5.out _ hb12), (KS6.out _ hb12)⟩ (fun hHeld => ?_)
  clear hK K
  refine norm_ (a' := ?_) ?_ ?_
  rotate_left
  · show Act.put _ (some 51) _ = _
    simp only [Act.put, sA_, sZ_, sS_, i64_w, i32_w]
    rfl
  refine one_ (i := 9) (N := some 55) #[I,I,I,I,I,I,I,I,I,I,O] rfl rfl (by kernel_rfl) (by decide) (fun K hK => ?_)
  refine goes_ Try.func42 (by kernel_rfl) rfl #[x12, .int .u32 _, .int .i64 2] (by rfl) rfl rfl (by simp only [List.map_toArray, List.map_cons, List.map_nil]; rfl) ?_
  with_reducible refine (wire_put.calls 10 (fun _ => True) x12 _ _ 2 _ W3 _ (by repeat (first | exact hb12 | with_reducible apply below_drew1 | with_reducible refine pw_below_drewN ?_ _ | with_reducible refine below_alloc ?_ _)) (by repeat (first | exact hr12 | with_reducible refine Kd.R_drew ?_ | with_reducible refine Kd.R_drewN ?_ _ | with_reducible refine Kd.R_alloc ?_ _)) (wf_put2 7 _ _ (by first | omega | (simp only [List.length_append, be2_len, be4_len, List.length_nil]; omega)))).mono ?_
  rintro e u13 ⟨x13, rfl, hr13, hb13, hk13⟩
  replace hr13 := Kd.R_mono (ok' := fun _ => True) hr13 (fun _ _ => trivial)
  refine ⟨_, rfl, ?_⟩
  refine hK.out _ _ ⟨(KS5.out _ hb13), (KS6.out _ hb13)⟩ (fun hHeld => ?_)
  clear hK K
  refine norm_ (a' := ?_) ?_ ?_
  rotate_left
  · show Act.put _ (some 55) _ = _
    simp only [Act.put, sA_, sZ_, sS_, i64_w, i32_w]
    rfl
  refine pure_ (i := 10) (N := some 10) (v := ?_) (a' := ?_) #[I,I,I,I,I,I,I,I,I,I,I] rfl rfl (by kernel_rfl) (fun _ _ _ h => h) (Or.inl ⟨by rfl, ?_⟩) ?_ ?_
  rotate_left
  · intro w'
    go_simp
    with_reducible rfl
  rotate_left
  · simp only [Act.put, sA_, sZ_, sS_, i64_w, i32_w]
    rfl
  refine done_ (by kernel_rfl) ?_
  obtain ⟨L13, hL13⟩ : ∃ L, (L10 ++ be2 s.f5 ++ be2 0 ++ be2 s.f6 : List Int) = L := ⟨_, rfl⟩
  rw [hL13] at hr13
  have hn13 : L13.length = 20 := by rw [← hL13]; simp only [List.length_append, be2_len, be4_len, List.length_nil, List.length_cons, hn10]
  have HR13 := Lib.hid hr13; have HB13 := Lib.hid hb13; have HL13 := Lib.hid hL13
  clear hr11 hb11 hk11 hr12 hb12 hk12 hr13 hb13 hk13 hHeld hL13
  have HLO := Lib.hid (show (L13.length + o.length) * 1 ≤ 140737488355328 by have := HBO.out; omega)
  have HLD := Lib.hid (show ((L13 ++ o).length + s.f14.length) * 1 ≤ 140737488355328 by have := HBO.out; have := HBD.out; rw [List.length_append]; omega)
  go_upto_region 9 with (fail)
  refine start_ (n := 7) (S := fun w' => w'.cell? ⟨g, 14, none⟩ = some (.slice A14 s.f14.length c14)) (ds := []) #[O,O,O,O,O,O,O] (by kernel_rfl) rfl rfl ((KS14.out _ (by exact below_drew1 HB13.out))) (fun hHeld => ?_)
  refine pure_ (i := 0) (N := some 56) (v := ?_) (a' := ?_) #[I,O,O,O,O,O,O] rfl rfl (by kernel_rfl) (fun _ _ _ h => h) (Or.inl ⟨by rfl, ?_⟩) ?_ ?_
  rotate_left
  · intro w'
    go_simp
    with_reducible rfl
  rotate_left
  · simp only [Act.put, sA_, sZ_, sS_, i64_w, i32_w]
    rfl
  refine pure_ (i := 1) (N := some 57) (v := ?_) (a' := ?_) #[I,I,O,O,O,O,O] rfl rfl (by kernel_rfl) (fun _ _ _ h => h) (Or.inl ⟨by rfl, ?_⟩) ?_ ?_
  rotate_left
  · intro w'
    go_simp
    with_reducible rfl
  rotate_left
  · simp only [Act.put, sA_, sZ_, sS_, i64_w, i32_w]
    rfl
  refine pure_ (i := 3) (N := some 59) (v := ?_) (a' := ?_) #[I,I,O,I,O,O,O] rfl rfl (by kernel_rfl) (fun _ _ _ h => h) (Or.inl ⟨by rfl, ?_⟩) ?_ ?_
  rotate_left
  · intro w'
    go_simp
    with_reducible rfl
  rotate_left
  · simp only [Act.put, sA_, sZ_, sS_, i64_w, i32_w]
    rfl
  refine take_ (i := 4) (N := some 60) (v := ?_) (a' := ?_) #[I,I,O,I,I,O,O] rfl rfl (by kernel_rfl) (fun _ _ _ h => h) (Or.inl ⟨by rfl, ?_⟩) hHeld ?_ ?_
  rotate_left
  · intro w' s0
    go_simp
    with_reducible rfl
  rotate_left
  · simp only [Act.put, sA_, sZ_, sS_, i64_w, i32_w]
    rfl
  refine one_ (i := 2) (N := some 58) #[I,I,I,I,I,O,O] rfl rfl (by kernel_rfl) (by decide) (fun K hK => ?_)
  refine Kd.R_append_rows_step (Kd.int .u8) (Rr := fun x cs => cs = [.int .u8 x]) (w0 := W3) W3.heap.size (by rfl) (.tmp 56) (.tmp 57) 34 5 (.int .u8 0) 1 (by rfl) Try.underlying34 info5 (by rfl) (by decide) (by decide) x13 L13 o Ao o.length co (fun _ => True) (fun _ => False) (by rfl) (by rfl) (by repeat (first | exact HR13.out | with_reducible refine Kd.R_drew ?_ | with_reducible refine Kd.R_drewN ?_ _ | with_reducible refine Kd.R_alloc ?_ _)) (KO.out _ (by repeat (first | exact HB13.out | with_reducible apply below_drew1 | with_reducible refine pw_below_drewN ?_ _ | with_reducible refine below_alloc ?_ _))) (fun _ _ e => e) (fun _ e => e.elim) (fun _ _ => trivial) (by repeat (first | exact HB13.out | with_reducible apply below_drew1 | with_reducible refine pw_below_drewN ?_ _ | with_reducible refine below_alloc ?_ _)) (by have h_ := Below.size (by repeat (first | exact HB13.out | with_reducible apply below_drew1 | with_reducible refine pw_below_drewN ?_ _ | with_reducible refine below_alloc ?_ _)); exact h_) HLO.out ?_
  intro x14 u14 hr14 hb14 _ _
  refine hK.out _ _ ((KS14.out _ hb14)) (fun hHeld => ?_)
  clear hK K
  refine norm_ (a' := ?_) ?_ ?_
  rotate_left
  · show Act.put _ (some 58) _ = _
    simp only [Act.put, sA_, sZ_, sS_, i64_w, i32_w]
    rfl
  refine one_ (i := 5) (N := some 61) #[I,I,I,I,I,I,O] rfl rfl (by kernel_rfl) (by decide) (fun K hK => ?_)
  refine Kd.R_append_rows_step (Kd.int .u8) (Rr := fun x cs => cs = [.int .u8 x]) (w0 := W3) W3.heap.size (by rfl) (.tmp 58) (.tmp 60) 34 5 (.int .u8 0) 1 (by rfl) Try.underlying34 info5 (by rfl) (by decide) (by decide) x14 _ s.f14 A14 s.f14.length c14 (fun _ => True) (fun _ => False) (by rfl) (by rfl) (by repeat (first | exact hr14 | with_reducible refine Kd.R_drew ?_ | with_reducible refine Kd.R_drewN ?_ _ | with_reducible refine Kd.R_alloc ?_ _)) (KD.out _ (by repeat (first | exact hb14 | with_reducible apply below_drew1 | with_reducible refine pw_below_drewN ?_ _ | with_reducible refine below_alloc ?_ _))) (fun _ _ e => e) (fun _ e => e.elim) (fun _ _ => trivial) (by repeat (first | exact hb14 | with_reducible apply below_drew1 | with_reducible refine pw_below_drewN ?_ _ | with_reducible refine below_alloc ?_ _)) (by have h_ := Below.size (by repeat (first | exact hb14 | with_reducible apply below_drew1 | with_reducible refine pw_below_drewN ?_ _ | with_reducible refine below_alloc ?_ _)); exact h_) HLD.out ?_
  intro x15 u15 hr15 hb15 _ _
  refine hK.out _ _ ((KS14.out _ hb15)) (fun hHeld => ?_)
  clear hK K
  refine norm_ (a' := ?_) ?_ ?_
  rotate_left
  · show Act.put _ (some 61) _ = _
    simp only [Act.put, sA_, sZ_, sS_, i64_w, i32_w]
    rfl
  refine pure_ (i := 6) (N := some 10) (v := ?_) (a' := ?_) #[I,I,I,I,I,I,I] rfl rfl (by kernel_rfl) (fun _ _ _ h => h) (Or.inl ⟨by rfl, ?_⟩) ?_ ?_
  rotate_left
  · intro w'
    go_simp
    with_reducible rfl
  rotate_left
  · simp only [Act.put, sA_, sZ_, sS_, i64_w, i32_w]
    rfl
  refine done_ (by kernel_rfl) ?_
  have hPB : L13 ++ o ++ s.f14 = putB s := by rw [HPB.out, ← HL13.out, ← HL10.out, ← HL8.out, ← HL6.out]; simp only [List.nil_append, List.append_assoc]
  rw [hPB] at hr15
  obtain ⟨P, hP⟩ : ∃ P, putB s = P := ⟨_, rfl⟩
  have HP := Lib.hid hP
  have hPn := HLP.out
  rw [hP] at hr15 HC hPn
  have HR15 := Lib.hid hr15; have HB15 := Lib.hid hb15; have HPN := Lib.hid hPn
  clear hr14 hb14 hr15 hb15 hHeld hPB hP hPn HL13 HL10 HL8 HL6 HPB
  obtain ⟨gb, cap, ev15, hbgb, _, _⟩ := Kd.R_form HR15.out (by have := HPN.out; omega)
  subst ev15
  have hcap := (Kd.R_reads' HR15.out).2.1
  obtain ⟨ps, hps⟩ : ∃ ps, pseu src dst (P.length : Int) = ps := ⟨_, rfl⟩
  have HPS := Lib.hid (show sum_Pseudo.f src dst (P.length : Int) = some ps from by rw [← hps]; rfl)
  rw [hps] at HC
  have HCAP := Lib.hid hcap; have HGB := Lib.hid hbgb
  have h16 : 16 < P.length := by have := HPN.out; omega
  have h17 : 17 < P.length := by have := HPN.out; omega
  have h16i : (16 : Int) < (P.length : Int) := by omega
  have h17i : (17 : Int) < (P.length : Int) := by omega
  clear hps hcap hbgb
  go_upto_region 11 with (first
    | (go_at_call 44; refine (sum_Pseudo.calls src dst (P.length : Int) ps _ HPS.out).mono ?_; rintro e u16 ⟨vp, rfl, hrp, hbp⟩; obtain ⟨Ap, cp, rfl, hcp, hCp⟩ := Kd.R_reads hrp; have HCp := Lib.hid hCp; have HCPP := Lib.hid hcp; have HB16 := Lib.hid (below_step HB15.out hbp); have HR16 := Lib.hid (Kd.R_below HR15.out hbp); clear hrp hCp hcp hbp)
    | (go_at_call 43; refine (sum_Sum.calls _ 2 [ps, P] c _ (wg_lit_two rfl rfl HCPP.out HCp.out rfl HCAP.out (Kd.R_reads' HR16.out).2.2) (by simp) HC.out).mono ?_; rintro e u17 ⟨rfl, hb17⟩; have HB17 := Lib.hid (below_step (HB16.out.alloc (Below.size HB16.out) _) hb17); have HR17 := Lib.hid (Kd.R_below (Kd.R_alloc HR16.out _) hb17); clear hb17))
  have c16 := Kd.R_celln (0 : Int) HR17.out 16 (by omega) h16i
  have c17 := Kd.R_celln (0 : Int) HR17.out 17 (by omega) h17i
  have HR19 := Lib.hid (Kd.R_putn (Kd.R_putn HR17.out 16 (c / 256 % 256)) 17 (c % 256))
  rw [show Int.toNat 16 = 16 from rfl] at c16 HR19
  rw [show Int.toNat 17 = 17 from rfl] at c17 HR19
  obtain ⟨c160, c161⟩ := c16
  obtain ⟨c170, c171⟩ := c17
  go_wp2
  go_ret2
  have hlen : (putF c s).length = P.length := by rw [putF, List.length_set, List.length_set, HP.out]
  have hb : Below w.heap.size w ((u17.setCell ⟨gb, 16, none⟩ (.int .u8 (c / 256 % 256))).setCell ⟨gb, 17, none⟩ (.int .u8 (c % 256))) := ((HB3.out.trans (HB17.out.mono (Below.size HB3.out))).setCell (p := ⟨gb, 16, none⟩) (Nat.le_trans (Below.size HB3.out) HGB.out) _).setCell (p := ⟨gb, 17, none⟩) (Nat.le_trans (Below.size HB3.out) HGB.out) _
  refine ⟨hb, gb, cap, by rw [hlen]; rfl, ?_⟩
  rw [hlen, putF, HP.out]
  exact Kd.R_lower HR19.out (Below.size HB3.out)
end Go.Proofs.Ytflmfbcapccdeaa.WireG
set_option linter.unusedVariables false
set_option linter.unusedSimpArgs false
set_option autoImplicit false
namespace Go.Proofs.Ytflmfbcapccdeaa.WireG
open Go.RowKit Go.Proofs.Ytflmfbcapccdeaa.PA Go.Proofs.YtflmfbcapccdeaaW.PrintWords Go.Proofs.YtflmfbcapccdeaaW.PrintLast Go.Proofs.YtflmfbcapccdeaaW.PrintMore
/-- A segment of data alone. -/
def sg0 (d : List Int) : SG := ⟨0, 0, 0, 0, 16, 0, 0, -1, -1, false, false, 0, 0, [], d⟩
theorem sg0_opts (d : List Int) : opts (sg0 d) = [] := by kernel_rfl
theorem sg0_chk (d : List Int) (h : d.length ≤ 65000) : chk (sg0 d) = true := by
  unfold chk chkPlain chkRest
  rw [sg0_opts]
  have h1 : (sg0 d).f14.length ≤ 65000 := h
  rw [decide_eq_true h1]
  show _ = _
  kernel_rfl
set_option maxRecDepth 100000 in
set_option maxHeartbeats 16000000 in
theorem ws_options (A : Option Addr) (c : Nat) (d : List Int) : OpOk (sg0 d) none 0 A c := by
  intro w _ _ _ _
  rw [sg0_opts]
  show Calls Try.prog 41 #[.agg #[.int .i64 0, .int .i64 0, .int .u32 0, .int .u32 0, .int .i64 16, .int .i64 0, .int .i64 0, .int .i64 (-1), .int .i64 (-1), .bool false, .bool false, .int .u32 0, .int .u32 0, .slice none 0 0, .slice A d.length c]] w _
  go_enter Try.func41, Try.ntmps41
  go_wp2_with (at_builtin; refine Kd.R_append_zeros (Kd.int .u8) (w0 := w) w.heap.size rfl (.tmp 69) (.tmp 73) 34 3 5 (.int .u8 0) 1 rfl Try.underlying34 Try.underlying3 info5 rfl (by decide) (by decide) (.slice none 0 0) [] 0 0 (fun _ => True) rfl rfl rfl (fun _ _ => trivial) (Kd.R_nil _ _ _ _ _) (by decide) ?aB ?aS (by decide) ?_; (case aB => exact below_alloc (Below.refl _ _) _); (case aS => rw [World.size_alloc]; exact Nat.le_succ _); intro v1 w1 ho hb hg hat; have HO := Lib.hid ho; have HB := Lib.hid hb; clear ho hb hg hat)
  go_ret
  exact ⟨v1, rfl, HO.out, HB.out⟩
theorem ws_new1 (W : World) (o o' : Obj) : ((W.alloc o).alloc o').heap[W.heap.size + 1]? = some o' := by
  have h := blk_new (W.alloc o) o'
  rw [World.size_alloc] at h
  exact h
/-- A row of five noughts. -/
theorem ws_five {W : World} {g : Nat} (h : W.heap[g]? = some (.cells #[.int .i64 0, .int .i64 0, .int .i64 0, .int .i64 0, .int .i64 0] 3 (0, 0))) : Kd.C (Kd.int .i64) W (some ⟨g, 0, none⟩) 5 [0, 0, 0, 0, 0] := by
  refine ⟨rfl, by decide, fun _ => ⟨_, rfl, fun j p hj => ⟨[.int .i64 p], rfl, rfl, fun i u hu => ?_⟩⟩⟩
  match i, hu with
  | 0, hu =>
    obtain rfl : Value.int .i64 p = u := by simpa using hu
    have hz : (Kd.int .i64).sz = 1 := rfl
    have hj5 : j < 5 := (List.getElem?_eq_some_iff.1 hj).1
    rw [hz, Nat.mul_one, Nat.add_zero, add_plain, blk_cell h j]
    match j, hj, hj5 with
    | 0, hj, _ | 1, hj, _ | 2, hj, _ | 3, hj, _ | 4, hj, _ => obtain rfl : (0 : Int) = p := by simpa using hj
                                                              rfl
set_option maxRecDepth 100000 in
set_option maxHeartbeats 16000000 in
theorem ws_check (A : Option Addr) (c : Nat) (d : List Int) (h : d.length ≤ 65000) : CkOk (sg0 d) none 0 A c := by
  intro w _ _ hC hc
  rw [sg0_chk d h, if_pos rfl]
  have HC := Lib.hid hC; have HCC := Lib.hid hc
  clear hC hc
  have HW := Lib.hid (show wire_words.f 50 [0, 0, 0, 0, 0] = some true by kernel_rfl)
  have HOP := Lib.hid (ws_options A c d)
  unfold OpOk at HOP
  rw [sg0_opts] at HOP
  have hdl : ¬ (d.length : Int) > 65000 := by omega
  have hd1 : decide (65000 < d.length) = false := decide_eq_false (by omega)
  have hd2 : decide ((d.length : Int) > 65000) = false := decide_eq_false (by omega)
  have hd3 : decide ((65000 : Int) < (d.length : Int)) = false := decide_eq_false (by omega)
  have ho1 : (Go.bits .or .u32 0 0 != 0) = false := by show _ = _; kernel_rfl
  have ho2 : Go.bits .or .u32 0 0 = 0 := by kernel_rfl
  show Calls Try.prog 40 #[.agg #[.int .i64 0, .int .i64 0, .int .u32 0, .int .u32 0, .int .i64 16, .int .i64 0, .int .i64 0, .int .i64 (-1), .int .i64 (-1), .bool false, .bool false, .int .u32 0, .int .u32 0, .slice none 0 0, .slice A d.length c]] w _
  go_enter Try.func40, Try.ntmps40
  go_wp2_with (fail)
  have HF := ws_five (ws_new1 w (.cells #[Value.int .i64 0, .int .i64 0, .int .u32 0, .int .u32 0, .int .i64 16, .int .i64 0, .int .i64 0, .int .i64 (-1), .int .i64 (-1), .bool false, .bool false, .int .u32 0, .int .u32 0, .slice none 0 0, .slice A d.length c] 53) (.cells #[.int .i64 0, .int .i64 0, .int .i64 0, .int .i64 0, .int .i64 0] 3))
  refine (wire_words.calls 50 _ 5 [0, 0, 0, 0, 0] true _ HF (by decide) HW.out).mono ?_
  rintro e w1 ⟨rfl, ⟨nd, rfl⟩⟩
  clear HF
  have hx := blk_drewN (blk_alloc (blk_new w (.cells #[Value.int .i64 0, .int .i64 0, .int .u32 0, .int .u32 0, .int .i64 16, .int .i64 0, .int .i64 0, .int .i64 (-1), .int .i64 (-1), .bool false, .bool false, .int .u32 0, .int .u32 0, .slice none 0 0, .slice A d.length c] 53)) (.cells #[.int .i64 0, .int .i64 0, .int .i64 0, .int .i64 0, .int .i64 0] 3)) nd
  have hb := pw_below_drewN (below_alloc (below_alloc (Below.refl w.heap.size w) (.cells #[Value.int .i64 0, .int .i64 0, .int .u32 0, .int .u32 0, .int .i64 16, .int .i64 0, .int .i64 0, .int .i64 (-1), .int .i64 (-1), .bool false, .bool false, .int .u32 0, .int .u32 0, .slice none 0 0, .slice A d.length c] 53)) (.cells #[.int .i64 0, .int .i64 0, .int .i64 0, .int .i64 0, .int .i64 0] 3)) nd
  generalize World.drewN _ nd = w1 at hx hb ⊢
  obtain ⟨g, hg⟩ : ∃ g, w.heap.size = g := ⟨_, rfl⟩
  have HB := Lib.hid hb
  rw [hg] at hx ⊢
  have HX := Lib.hid hx
  have x4 := (blk_cell hx 4).trans rfl; have x7 := (blk_cell hx 7).trans rfl; have x8 := (blk_cell hx 8).trans rfl; have x10 := (blk_cell hx 10).trans rfl; have x11 := (blk_cell hx 11).trans rfl; have x12 := (blk_cell hx 12).trans rfl; have x13 := (blk_cell hx 13).trans rfl; have x14 := (blk_cell hx 14).trans rfl
  clear hx hb
  go_wp2_with (first
    | (refine gate_ (.load 53 (.tmp 1)) rfl ?_; refine gate_guard (by first | rfl | kernel_rfl) ?_; dsimp only; refine wpList_load_row rfl 53 (.tmp 1) rfl g rfl 53 _ (0, 0) _ HX.out Try.underlying53 rfl (by kernel_rfl) ?_)
    | (go_at_call 41; refine (HOP.out w1 (Kd.C_nil _ _) (Nat.zero_le _) (Kd.C_below HC.out HB.out) HCC.out).mono ?_; rintro e w2 ⟨v, rfl, hR, hb2⟩; obtain ⟨A2, c2, rfl⟩ := Kd.R_slice hR; have HB2 := Lib.hid (below_step HB.out hb2); clear hR hb2))
  go_ret
  exact ⟨rfl, HB2.out⟩
end Go.Proofs.Ytflmfbcapccdeaa.WireG

/- The document's options of a segment, walked: one behind the other. -/
import Derived.Test.YtenpekakmkemeaaWireRef
import Derived.Test.YtenpekakmkemeaaWireRead
import Derived.Lib.Hide
import Derived.WalkKit
set_option linter.unusedVariables false
set_option linter.unusedSimpArgs false
set_option autoImplicit false
namespace Go.Proofs.Ytenpekakmkemeaa.WireG
open Go.RowKit Go.Proofs.Ytenpekakmkemeaa.PA Go.Proofs.YtenpekakmkemeaaW.PrintWords Go.Proofs.YtenpekakmkemeaaW.PrintLast Go.Proofs.YtenpekakmkemeaaW.PrintMore
attribute [local go_sem] max2_int min2_int max_two min_two
/-- A whole variable is read, wherever the read comes up. -/
theorem wb_take {ops : Array Oper} {S : World → Prop} {op : Oper} {a : Act} (hw : Region.wanted op (yielded ops a.tmps) = true) (x : Operand) (ho : op.op = .load 26 x) (g : Nat) (hx : a.eval x = .pointer (some ⟨g, 0, none⟩)) (s : SG) (v d : Value)
    (hS : ∀ w, S w → w.heap[g]? = some (.cells (wgcells s v d) 26 (0, 0))) : YieldsIf Try.prog ops S op (.agg (wgcells s v d)) a :=
  .inl ⟨hw, fun w hw' => by
    unfold execOp
    simp only [ho, hx, Instr.loadAt, Instr.sureAddr, Sem.run_bind, Sem.run_pure, Result.andThen_ok, run_loadVar_row w g 26 26 _ (0, 0) _ (hS w hw') Try.underlying26 rfl (by kernel_rfl)]⟩
/-- What the document's option hands back. -/
def WOpt (w0 w : World) (s t : SG) (kind : Int) (A13 : Option Addr) (c13 : Nat) (d : Value) (e : Ending) (w' : World) : Prop :=
  ∃ (A' : Option Addr) (c' : Nat), e = .returned (.agg (wgcells t (.slice A' t.f13.length c') d)) ∧ Kd.R k56 56 w' w0.heap.size (fun _ => True) (.slice A' t.f13.length c') t.f13 ∧ Below w0.heap.size w0 w' ∧ Below w.heap.size w w' ∧ (kind ≠ 5 → A' = A13 ∧ c' = c13 ∧ t.f13 = s.f13)
theorem wr_option (s : SG) (A13 : Option Addr) (c13 : Nat) (A14 : Option Addr) (n14 c14 : Nat) (A : Option Addr) (c : Nat) (b : List Int) (kind : Int) (w0 w : World) (hB : Below w0.heap.size w0 w) (hR : Kd.R k56 56 w w0.heap.size (fun _ => True) (.slice A13 s.f13.length c13) s.f13)
    (h5 : kind = 5 → A13 = none ∧ c13 = 0 ∧ s.f13 = []) (hC : Kd.C (Kd.int .u8) w A b.length b) (hc : b.length ≤ c) (hb : wgb b) (hl : b.length ≤ 300) (hlen : wglen kind ((b.length : Int) + 2) = true) :
    Calls Try.prog 35 #[.agg (wgcells s (.slice A13 s.f13.length c13) (.slice A14 n14 c14)), .int .u8 kind, .slice A b.length c] w fun e w' => WOpt w0 w s (wgopt s kind b) kind A13 c13 (.slice A14 n14 c14) e w' := by
  have up : (hf : (wgopt s kind b).f13 = s.f13) → Calls Try.prog 35 #[.agg (wgcells s (.slice A13 s.f13.length c13) (.slice A14 n14 c14)), .int .u8 kind, .slice A b.length c] w (fun e w' => e = .returned (.agg (wgcells (wgopt s kind b) (.slice A13 s.f13.length c13) (.slice A14 n14 c14))) ∧ Below w.heap.size w w') →
      Calls Try.prog 35 #[.agg (wgcells s (.slice A13 s.f13.length c13) (.slice A14 n14 c14)), .int .u8 kind, .slice A b.length c] w fun e w' => WOpt w0 w s (wgopt s kind b) kind A13 c13 (.slice A14 n14 c14) e w' := fun hf h => h.mono fun e w' ⟨he, hb⟩ => by
    refine ⟨A13, c13, by rw [he, hf], ?_, below_step hB hb, hb, fun _ => ⟨rfl, rfl, hf⟩⟩
    rw [hf]; exact Kd.R_below hR hb
  unfold wglen at hlen
  by_cases k2 : kind = 2
  · subst k2; exact up rfl (wr_opt2 s A13 _ c13 A14 n14 c14 A c b w hC hc hb hl)
  rw [if_neg k2] at hlen
  by_cases k3 : kind = 3
  · subst k3; rw [if_pos rfl] at hlen; have := beq_iff_eq.1 hlen; exact up rfl (wr_opt3 s A13 _ c13 A14 n14 c14 A c b w hC hb (by omega))
  rw [if_neg k3] at hlen
  by_cases k4 : kind = 4
  · subst k4; exact up rfl (wr_opt4 s A13 _ c13 A14 n14 c14 A c b w)
  rw [if_neg k4] at hlen
  by_cases k8 : kind = 8
  · subst k8; rw [if_pos rfl] at hlen; have := beq_iff_eq.1 hlen; exact up rfl (wr_opt8 s A13 _ c13 A14 n14 c14 A c b w hC hc hb (by omega))
  rw [if_neg k8] at hlen
  by_cases k5 : kind = 5
  · subst k5
    rw [if_pos rfl] at hlen
    simp only [Bool.and_eq_true, decide_eq_true_eq, beq_iff_eq] at hlen
    obtain ⟨rfl, rfl, e13⟩ := h5 rfl
    have h := wr_opt5 s A14 n14 c14 A c b w hC hc hl (by omega) e13
    rw [e13]
    refine h.mono ?_
    rintro e w' ⟨v', rfl, hr, hb⟩
    obtain ⟨A', c', ev⟩ := Kd.R_slice hr
    subst ev
    exact ⟨A', c', rfl, Kd.R_lower hr hB.size, below_step hB hb, hb, fun h => absurd rfl h⟩
  · exact up (by unfold wgopt; rw [if_neg k2, if_neg k3, if_neg k4, if_neg k8, if_neg k5]) (wr_opt_else s A13 _ c13 A14 n14 c14 A c b w kind k2 k3 k4 k8 k5)
/-- The row of the kinds that have come. -/
def SeenR (W : World) (sb : Nat) (seen : List Int) : Prop := ∃ arr : Array Value, W.heap[sb]? = some (.cells arr 3 (0, 0)) ∧ arr.size = 256 ∧ ∀ k : Nat, k < 256 → arr[k]? = some (.int .i64 (if seen.contains (k : Int) then 1 else 0))
theorem SeenR.cell {W : World} {sb : Nat} {seen : List Int} (h : SeenR W sb seen) (k : Nat) (hk : k < 256) : W.cell? ⟨sb, k, none⟩ = some (.int .i64 (if seen.contains (k : Int) then 1 else 0)) ∧ W.frozen? ⟨sb, k, none⟩ = false := by
  obtain ⟨arr, hh, hs, ha⟩ := h
  exact ⟨(blk_cell hh k).trans (ha k hk), blk_frozen hh k⟩
theorem SeenR.put {W : World} {sb : Nat} {seen : List Int} (h : SeenR W sb seen) (k : Nat) (hk : k < 256) : SeenR (W.setCell ⟨sb, k, none⟩ (.int .i64 1)) sb ((k : Int) :: seen) := by
  obtain ⟨arr, hh, hs, ha⟩ := h
  refine ⟨_, blk_set hh k _, by rw [Array.size_setIfInBounds]; exact hs, fun j hj => ?_⟩
  rw [Array.getElem?_setIfInBounds]
  by_cases e : k = j
  · subst e
    rw [if_pos rfl, if_pos (by omega), List.contains_cons, beq_self_eq_true, Bool.true_or, if_pos rfl]
  · rw [if_neg e, ha j hj, List.contains_cons, show ((j : Int) == (k : Int)) = false from beq_false_of_ne (by omega), Bool.false_or]
theorem SeenR.below {W W' : World} {sb : Nat} {seen : List Int} (h : SeenR W sb seen) (hb : Below W.heap.size W W') : SeenR W' sb seen := by
  obtain ⟨arr, hh, hs, ha⟩ := h
  exact ⟨arr, blk_below hh hb, hs, ha⟩
theorem SeenR.grown {W W' : World} {sb g : Nat} {seen : List Int} (h : SeenR W sb seen) (hg : W.grownBy W' (some g)) (hne : sb ≠ g) : SeenR W' sb seen := by
  obtain ⟨arr, hh, hs, ha⟩ := h
  exact ⟨arr, blk_grown hh hg (fun e => hne (Option.some.inj e)), hs, ha⟩
theorem SeenR.drew {W : World} {sb : Nat} {seen : List Int} (h : SeenR W sb seen) : SeenR W.drew sb seen := h
theorem SeenR.made (W : World) : SeenR (W.alloc (.cells (madeCells #[.int .i64 0] 256) 3)) W.heap.size [] := by
  refine ⟨_, blk_new W _, by simp [madeCells], fun k hk => ?_⟩
  simp [madeCells, hk, Nat.mod_one]
/-- What the document's options hand back. -/
def WOpts (w : World) (d : Value) (res : Option SG) (e : Ending) (w' : World) : Prop :=
  Below w.heap.size w w' ∧ ∃ (cur : SG) (A' : Option Addr) (n' c' : Nat), match res with
    | some t => cur = t ∧ n' = t.f13.length ∧ e = .returned (.tuple #[.agg (wgcells t (.slice A' t.f13.length c') d), .bool true]) ∧ Kd.R k56 56 w' w.heap.size (fun _ => True) (.slice A' t.f13.length c') t.f13
    | none => e = .returned (.tuple #[.agg (wgcells cur (.slice A' n' c') d), .bool false])
theorem WOpts.ok {w w' : World} {d : Value} {res : Option SG} {t : SG} {A' : Option Addr} {c' : Nat} {e : Ending} (hr : some t = res) (hB : Below w.heap.size w w') (he : e = .returned (.tuple #[.agg (wgcells t (.slice A' t.f13.length c') d), .bool true])) (hR : Kd.R k56 56 w' w.heap.size (fun _ => True) (.slice A' t.f13.length c') t.f13) : WOpts w d res e w' := by
  subst hr; exact ⟨hB, t, A', _, c', rfl, rfl, he, hR⟩
theorem WOpts.bad {w w' : World} {d : Value} {res : Option SG} {cur : SG} {A' : Option Addr} {n' c' : Nat} {e : Ending} (hr : none = res) (hB : Below w.heap.size w w') (he : e = .returned (.tuple #[.agg (wgcells cur (.slice A' n' c') d), .bool false])) : WOpts w d res e w' := by
  subst hr; exact ⟨hB, cur, A', n', c', he⟩
set_option maxRecDepth 100000 in
set_option maxHeartbeats 16000000 in
theorem wr_options (s : SG) (A14 : Option Addr) (n14 c14 : Nat) (A : Option Addr) (c : Nat) (b : List Int) (w : World) (hC : Kd.C (Kd.int .u8) w A b.length b) (hc : b.length ≤ c) (hb : wgb b) (hl : b.length ≤ 300) (hn : s.f13 = []) :
    Calls Try.prog 20 #[.agg (wgcells s (.slice none 0 0) (.slice A14 n14 c14)), .slice A b.length c] w fun e w' => WOpts w (.slice A14 n14 c14) (wgrd (b.length + 1) s [] b) e w' := by
  obtain ⟨res, hres⟩ : ∃ r, wgrd (b.length + 1) s [] b = r := ⟨_, rfl⟩
  have HRES := Lib.hid hres; have HC0 := Lib.hid hC; have HBB := Lib.hid hb; have HLL := Lib.hid hl; have HN := Lib.hid hn
  rw [hres]
  clear hC hb hl hn hres
  have hms : ∀ W : World, (Instr.makeSlice 70 (.int .i64 256) (.int .i64 256)).run Try.prog W = .ok (.slice (some ⟨W.heap.size, 0, none⟩) 256 256) (W.alloc (.cells (madeCells #[.int .i64 0] 256) 3)) := print_make 70 3 .i64 8 Try.underlying70 (by rfl) (by decide) 256 (by decide)
  go_enter Try.func20, Try.ntmps20
  go_upto_region 1 with (fail)
  obtain ⟨W1, hW1⟩ : ∃ W1, (w.alloc (.cells (wgcells s (.slice none 0 0) (.slice A14 n14 c14)) 26)).alloc (.cells (wgcells z26 (.slice none 0 0) (.slice none 0 0)) 26) = W1 := ⟨_, rfl⟩
  obtain ⟨hb1, hg1, hg6⟩ := wr_boxed s (.slice none 0 0) (.slice A14 n14 c14) w W1 hW1
  have hW1' : (w.alloc (.cells (wgcells s (.slice none 0 0) (.slice A14 n14 c14)) 26)).alloc (.cells #[.int .i64 0, .int .i64 0, .int .u32 0, .int .u32 0, .int .i64 0, .int .i64 0, .int .i64 0, .int .i64 0, .int .i64 0, .bool false, .bool false, .int .u32 0, .int .u32 0, .slice none 0 0, .slice none 0 0] 26) = W1 := hW1
  rw [hW1']
  have hsz : W1.heap.size = w.heap.size + 2 := by rw [← hW1]; simp
  obtain ⟨g, hg⟩ : ∃ g, w.heap.size = g := ⟨_, rfl⟩
  obtain ⟨g4, hgg⟩ : ∃ g4, g + 1 = g4 := ⟨_, rfl⟩
  obtain ⟨sb, hsb⟩ : ∃ sb, W1.heap.size = sb := ⟨_, rfl⟩
  have hne : g4 ≠ g := by omega
  have hne2 : sb ≠ g := by omega
  have hne3 : g4 ≠ sb := by omega
  have hge : g ≤ g4 := by omega
  have hge2 : g ≤ sb := by omega
  have HGG := Lib.hid hg
  have HB1 := Lib.hid hb1
  rw [hg] at hg1 hg6 ⊢
  rw [hgg] at hg6 ⊢
  have HG1 := Lib.hid hg1; have HG6 := Lib.hid hg6; have HSB := Lib.hid hsb
  clear hW1 hW1' hgg hg hsz hb1 hg1 hg6 hsb
  go_wp2_with fail
  have hsn := SeenR.made W1
  have hg2 := blk_alloc HG1.out (.cells (madeCells #[.int .i64 0] 256) 3)
  have hg62 := blk_alloc HG6.out (.cells (madeCells #[.int .i64 0] 256) 3)
  have hb2 := HB1.out.alloc HB1.out.size (.cells (madeCells #[.int .i64 0] 256) 3)
  rw [HSB.out] at hsn ⊢
  clear HG1 HG6 HB1 HSB
  generalize W1.alloc (.cells (madeCells #[.int .i64 0] 256) 3) = W2 at hsn hg2 hg62 hb2 ⊢
  have HSN0 := Lib.hid hsn; have HG2 := Lib.hid hg2; have HG62 := Lib.hid hg62; have HB2 := Lib.hid hb2
  have HWG := Lib.hid (show w.heap.size ≤ g by rw [HGG.out]; exact Nat.le_refl _)
  clear hsn hg2 hg62 hb2 hms W1
  go_loopg [1] b.length (fun m v1 wr => ∃ (A1 : Option Addr) (c1 : Nat) (bk : List Int) (cur : SG) (seen : List Int) (A13 : Option Addr) (c13 : Nat), bk.length ≤ m ∧ v1 = .slice A1 bk.length c1 ∧ bk.length ≤ c1 ∧ Hid (wgb bk) ∧ Hid (Kd.C (Kd.int .u8) w A1 bk.length bk) ∧ Hid (wr.heap[g]? = some (.cells (wgcells cur (.slice A13 cur.f13.length c13) (.slice A14 n14 c14)) 26 (0, 0))) ∧ Hid (wr.heap[g4]? = some (.cells (wgcells z26 (.slice none 0 0) (.slice none 0 0)) 26 (0, 0))) ∧ Hid (SeenR wr sb seen) ∧ Hid (Below w.heap.size w wr) ∧ Hid (wgrd (bk.length + 1) cur seen bk = res) ∧ Hid (Kd.R k56 56 wr w.heap.size (fun _ => True) (.slice A13 cur.f13.length c13) cur.f13) ∧ Hid (seen.contains 5 = false → A13 = none ∧ c13 = 0 ∧ cur.f13 = []) ∧ Hid (bk.length ≤ 300))
  case atStart => exact ⟨A, c, b, s, [], none, 0, Nat.le_refl _, rfl, hc, HBB, HC0, Lib.hid (by rw [HN.out]; exact HG2.out), HG62, HSN0, HB2, HRES, Lib.hid (by rw [HN.out]; exact Kd.R_nil _ _ _ _ _), Lib.hid (fun _ => ⟨rfl, rfl, HN.out⟩), HLL⟩
  case round =>
    obtain ⟨A1, c1, bk, cur, seen, A13, c13, hm, rfl, hc1, HBK, HC1, HG, HG4, HSN, HB, HE, HR, H5, HL⟩ := hrel
    have HM := Lib.hid hm; clear hm
    by_cases hz : bk.length = 0
    · have h0 : ¬ 0 < bk.length := by omega
      have HZ := Lib.hid hz; clear hz
      go_wp2_with (first
        | (refine gate_ (.load 26 (.tmp 2)) rfl ?_; refine wpList_load_row rfl 26 (.tmp 2) rfl g rfl 26 _ (0, 0) _ HG.out Try.underlying26 rfl (by kernel_rfl) ?_)
        | (refine gate_ (.store 26 (.tmp 4) (.tmp 100)) rfl ?_; refine wg_store_op rfl rfl 26 (.tmp 4) (.tmp 100) rfl _ _ _ 26 _ rfl rfl rfl (by kernel_rfl) rfl HG4.out rfl ?_; intro w9 h9 hg9))
      try simp only [Exit.inBlock, Exit.then]
      refine bodyPost_ret (results_ct Try.results20 _ _ g4 26 _ (0, 0) _ rfl h9 Try.underlying26 rfl (by kernel_rfl)) rfl ?_
      exact WOpts.ok (by rw [← HE.out, wgrd, if_pos HZ.out]) (wr_tail rfl (HGG.out.symm ▸ hge) HB.out hg9) rfl (wg_R_store HR.out HG4.out (by decide) hg9)
    have h0 : 0 < bk.length := by omega
    obtain ⟨ad, rfl, x0⟩ := wg_at A1 bk w HC1.out 0 h0
    have X0 := (HB.out.cell (World.block_lt_of_cell? w _ x0)).trans x0
    have X0' : wr.cell? ad = some (.int .u8 (bk.getD 0 0)) := by simpa [Addr.add] using X0
    obtain ⟨kd, hkd⟩ : ∃ kd, bk.getD 0 0 = kd := ⟨_, rfl⟩
    have hkb := wgb_at HBK.out 0 h0
    rw [hkd] at X0' hkb
    have HKB := Lib.hid hkb; have HKD := Lib.hid hkd; have HZ := Lib.hid hz
    clear x0 X0 hkb hkd hz
    by_cases k0 : kd = 0
    · subst k0
      go_wp2_with (first
        | (refine gate_ (.load 26 (.tmp 2)) rfl ?_; refine wpList_load_row rfl 26 (.tmp 2) rfl g rfl 26 _ (0, 0) _ HG.out Try.underlying26 rfl (by kernel_rfl) ?_)
        | (refine gate_ (.store 26 (.tmp 4) (.tmp 100)) rfl ?_; refine wg_store_op rfl rfl 26 (.tmp 4) (.tmp 100) rfl _ _ _ 26 _ rfl rfl rfl (by kernel_rfl) rfl HG4.out rfl ?_; intro w9 h9 hg9))
      try simp only [Exit.inBlock, Exit.then]
      refine bodyPost_ret (results_ct Try.results20 _ _ g4 26 _ (0, 0) _ rfl h9 Try.underlying26 rfl (by kernel_rfl)) rfl ?_
      exact WOpts.ok (by rw [← HE.out, wgrd, if_neg HZ.out, if_pos HKD.out]) (wr_tail rfl (HGG.out.symm ▸ hge) HB.out hg9) rfl (wg_R_store HR.out HG4.out (by decide) hg9)
    have e0 : (kd == 0) = false := beq_false_of_ne k0
    have e0' : (kd != 0) = true := by rw [bne, e0]; rfl
    obtain ⟨u0, hu0, _, hsz, _⟩ := info_parts info5
    by_cases k1 : kd = 1
    · subst k1
      have cut1 := cut_from (P := Try.prog) 22 5 .i64 Try.underlying22 hu0 1 hsz (some ad) bk.length c1 (1 : Int) (by omega) (by omega)
      simp only [show ((1 : Int)).toNat = 1 from rfl, Nat.mul_one] at cut1
      obtain ⟨A3, hA3⟩ : ∃ a, (if c1 = 1 then some ad else (some ad).map (·.add 1)) = a := ⟨_, rfl⟩
      rw [hA3] at cut1
      have R3 := Kd.C_drop (m := 1) (c := c1) HC1.out h0 hc1
      rw [show 1 * (Kd.int .u8).sz = 1 from rfl, hA3] at R3
      have l3 : (bk.drop 1).length = bk.length - 1 := List.length_drop
      have HR3 := Lib.hid R3; have HL3 := Lib.hid l3; have HGE := Lib.hid h0
      have hc3 : bk.length - 1 ≤ c1 - 1 := by omega
      clear hA3 R3 l3 e0 e0' k0
      go_wp2
      go_roundg (gk - 1)
      case measure => have := HGE.out; have := HM.out; omega
      case rel =>
        have e1 := HL3.out
        refine ⟨A3, c1 - 1, bk.drop 1, cur, seen, A13, c13, by rw [e1]; have := HM.out; omega, by rw [e1], by rw [e1]; exact hc3, Lib.hid (fun x hx => HBK.out x (List.mem_of_mem_drop hx)), HR3, HG, HG4, HSN, HB, Lib.hid ?_, HR, H5, Lib.hid (by have := HL.out; omega)⟩
        exact (wgrd_one cur seen bk HZ.out HKD.out).symm.trans HE.out
    have e1 : (kd == 1) = false := beq_false_of_ne k1
    have HK0 := Lib.hid k0; have HK1 := Lib.hid k1
    clear k0 k1
    obtain ⟨n, hn⟩ : ∃ n, bk.getD 1 0 = n := ⟨_, rfl⟩
    have HUN := Lib.hid (fun h => ((wgrd_bad cur seen bk kd n HKD.out hn HZ.out HK0.out HK1.out h).symm.trans HE.out))
    by_cases h2 : 2 ≤ bk.length
    case neg =>
      have H2 := Lib.hid h2
      have h2' : ¬ 1 < bk.length := by omega
      have h2'' : bk.length < 2 := by omega
      clear hn
      go_wp2_with (first
        | (refine gate_ (.load 26 (.tmp 2)) rfl ?_; refine wpList_load_row rfl 26 (.tmp 2) rfl g rfl 26 _ (0, 0) _ HG.out Try.underlying26 rfl (by kernel_rfl) ?_)
        | (refine gate_ (.store 26 (.tmp 4) (.tmp 56)) rfl ?_; refine wg_store_op rfl rfl 26 (.tmp 4) (.tmp 56) rfl _ _ _ 26 _ rfl rfl rfl (by kernel_rfl) rfl HG4.out rfl ?_; intro w9 h9 hg9))
      try simp only [Exit.inBlock, Exit.then]
      refine bodyPost_ret (results_ct Try.results20 _ _ g4 26 _ (0, 0) _ rfl h9 Try.underlying26 rfl (by kernel_rfl)) rfl ?_
      exact WOpts.bad (HUN.out (fun h => H2.out h.1)) (wr_tail rfl (HGG.out.symm ▸ hge) HB.out hg9) rfl
    obtain ⟨ad', ead, x1⟩ := wg_at (some ad) bk w HC1.out 1 (by omega)
    obtain rfl := Option.some.inj ead
    have X1 := (HB.out.cell (World.block_lt_of_cell? w _ x1)).trans x1
    have X1' : wr.cell? ⟨ad.block, ad.off + 1, none⟩ = some (.int .u8 n) := by rw [← hn]; exact X1
    have hnb := wgb_at HBK.out 1 (by omega)
    rw [hn] at hnb
    have hnw : wrap64 n = n := wg_w64 (by omega) (by omega)
    have HNB := Lib.hid hnb; have HNN := Lib.hid hn; have H2 := Lib.hid h2
    have h2' : 1 < bk.length := by omega
    have h2'' : ¬ bk.length < 2 := by omega
    clear x1 X1 hnb hn ead
    by_cases n2 : 2 ≤ n
    case neg =>
      have g2 : decide (n < 2) = true := decide_eq_true (by omega)
      have HN2 := Lib.hid n2
      go_wp2_with (first
        | (refine gate_ (.load 26 (.tmp 2)) rfl ?_; refine wpList_load_row rfl 26 (.tmp 2) rfl g rfl 26 _ (0, 0) _ HG.out Try.underlying26 rfl (by kernel_rfl) ?_)
        | (refine gate_ (.store 26 (.tmp 4) (.tmp 56)) rfl ?_; refine wg_store_op rfl rfl 26 (.tmp 4) (.tmp 56) rfl _ _ _ 26 _ rfl rfl rfl (by kernel_rfl) rfl HG4.out rfl ?_; intro w9 h9 hg9))
      try simp only [Exit.inBlock, Exit.then]
      refine bodyPost_ret (results_ct Try.results20 _ _ g4 26 _ (0, 0) _ rfl h9 Try.underlying26 rfl (by kernel_rfl)) rfl ?_
      exact WOpts.bad (HUN.out (fun h => absurd h.2.1 (by have := HN2.out; omega))) (wr_tail rfl (HGG.out.symm ▸ hge) HB.out hg9) rfl
    have g2 : decide (n < 2) = false := decide_eq_false (by omega)
    by_cases nb : n ≤ bk.length
    case neg =>
      have g3 : decide ((bk.length : Int) < n) = true := decide_eq_true (by omega)
      have HNB2 := Lib.hid nb
      go_wp2_with (first
        | (refine gate_ (.load 26 (.tmp 2)) rfl ?_; refine wpList_load_row rfl 26 (.tmp 2) rfl g rfl 26 _ (0, 0) _ HG.out Try.underlying26 rfl (by kernel_rfl) ?_)
        | (refine gate_ (.store 26 (.tmp 4) (.tmp 56)) rfl ?_; refine wg_store_op rfl rfl 26 (.tmp 4) (.tmp 56) rfl _ _ _ 26 _ rfl rfl rfl (by kernel_rfl) rfl HG4.out rfl ?_; intro w9 h9 hg9))
      try simp only [Exit.inBlock, Exit.then]
      refine bodyPost_ret (results_ct Try.results20 _ _ g4 26 _ (0, 0) _ rfl h9 Try.underlying26 rfl (by kernel_rfl)) rfl ?_
      exact WOpts.bad (HUN.out (fun h => absurd h.2.2.1 (by have := HNB2.out; omega))) (wr_tail rfl (HGG.out.symm ▸ hge) HB.out hg9) rfl
    have g3 : decide ((bk.length : Int) < n) = false := decide_eq_false (by omega)
    have HLN := Lib.hid (wr_len kd n HNB.out.1 HNB.out.2)
    obtain ⟨ok, hok⟩ : ∃ b, wglen kd n = b := ⟨_, rfl⟩
    rw [hok] at HLN HUN
    have HOK := Lib.hid hok; have HNBL := Lib.hid nb; have HN2 := Lib.hid n2
    clear hok nb n2
    cases ok with
    | false =>
      go_upto_region 7 with (go_at_call 34; refine (tidewayref03_length.calls _ _ _ _ HLN.out).mono ?_; rintro e w1 ⟨rfl, nd, rfl⟩)
      have HG := Lib.hid (blk_drewN HG.out nd); have HG4 := Lib.hid (blk_drewN HG4.out nd); have HB := Lib.hid (pw_below_drewN HB.out nd)
      go_wp2_with (first
        | (refine gate_ (.load 26 (.tmp 2)) rfl ?_; refine wpList_load_row rfl 26 (.tmp 2) rfl g rfl 26 _ (0, 0) _ HG.out Try.underlying26 rfl (by kernel_rfl) ?_)
        | (refine gate_ (.store 26 (.tmp 4) (.tmp 56)) rfl ?_; refine wg_store_op rfl rfl 26 (.tmp 4) (.tmp 56) rfl _ _ _ 26 _ rfl rfl rfl (by kernel_rfl) rfl HG4.out rfl ?_; intro w9 h9 hg9))
      try simp only [Exit.inBlock, Exit.then]
      refine bodyPost_ret (results_ct Try.results20 _ _ g4 26 _ (0, 0) _ rfl h9 Try.underlying26 rfl (by kernel_rfl)) rfl ?_
      exact WOpts.bad (HUN.out (fun h => absurd h.2.2.2.1 (by decide))) (wr_tail rfl (HGG.out.symm ▸ hge) HB.out hg9) rfl
    | true =>
      go_upto_region 9 with (go_at_call 34; refine (tidewayref03_length.calls _ _ _ _ HLN.out).mono ?_; rintro e w1 ⟨rfl, nd, rfl⟩)
      have HG := Lib.hid (blk_drewN HG.out nd); have HG4 := Lib.hid (blk_drewN HG4.out nd); have HB := Lib.hid (pw_below_drewN HB.out nd)
      have HSN := Lib.hid (show SeenR (wr.drewN nd) sb seen from HSN.out); have HR := Lib.hid (Kd.R_drewN HR.out nd)
      generalize wr.drewN nd = wd at HG HG4 HB HSN HR ⊢
      clear X0' X1' e0 e0' e1 g2 g3 h2' h2''
      have hnm := HNB.out
      obtain ⟨m, rfl⟩ : ∃ m : Nat, n = m := ⟨n.toNat, by omega⟩
      try rw [hnw]
      have hm2 := HN2.out
      have hmb := HNBL.out
      have cut1 := cut_mid (P := Try.prog) 22 5 .i64 .i64 Try.underlying22 hu0 1 hsz (some ad) bk.length c1 (2 : Int) (m : Int) (by omega) (by omega) (by omega) hc1
      have cut2 := cut_from (P := Try.prog) 22 5 .i64 Try.underlying22 hu0 1 hsz (some ad) bk.length c1 (m : Int) (by omega) (by omega)
      simp only [show ((2 : Int)).toNat = 2 from rfl, Int.toNat_natCast, Nat.mul_one] at cut1 cut2
      obtain ⟨A2, hA2⟩ : ∃ a, (if c1 = 2 then some ad else (some ad).map (·.add 2)) = a := ⟨_, rfl⟩
      obtain ⟨A3, hA3⟩ : ∃ a, (if c1 = m then some ad else (some ad).map (·.add m)) = a := ⟨_, rfl⟩
      rw [hA2] at cut1; rw [hA3] at cut2
      have R2 := Kd.C_mid (lo := 2) (hi := m) (c := c1) HC1.out (by omega) (by omega) hc1
      have R3 := Kd.C_drop (m := m) (c := c1) HC1.out (by omega) hc1
      rw [show 2 * (Kd.int .u8).sz = 2 from rfl, hA2] at R2
      rw [show m * (Kd.int .u8).sz = m from Nat.mul_one m, hA3] at R3
      obtain ⟨bb, hbb⟩ : ∃ bb, (bk.take m).drop 2 = bb := ⟨_, rfl⟩
      have lbb : bb.length = m - 2 := by rw [← hbb, List.length_drop, List.length_take]; omega
      have l3 : (bk.drop m).length = bk.length - m := List.length_drop
      rw [hbb] at R2
      have K := Lib.hid (fun (kd : Int) (W : World) (hok : wglen kd (m : Int) = true) (h5 : kd = 5 → A13 = none ∧ c13 = 0 ∧ cur.f13 = []) (hB : Below w.heap.size w W) (hR : Kd.R k56 56 W w.heap.size (fun _ => True) (.slice A13 cur.f13.length c13) cur.f13) => wr_option cur A13 c13 A14 n14 c14 A2 (c1 - 2) bb kd w W hB hR h5 (Kd.C_below R2 hB) (by rw [lbb]; omega) (fun x hx => by rw [← hbb] at hx; exact HBK.out x (List.mem_of_mem_take (List.mem_of_mem_drop hx))) (by rw [lbb]; have := HL.out; omega) (by rw [lbb, show ((m - 2 : Nat) : Int) + 2 = (m : Int) by omega]; exact hok))
      rw [lbb] at K
      have HR3 := Lib.hid R3; have HL3 := Lib.hid l3; have HBB2 := Lib.hid hbb; have HLBB := Lib.hid lbb
      have hc3 : bk.length - m ≤ c1 - m := by omega
      clear hA2 hA3 R2 R3 hbb lbb l3 hnm hm2 hmb
      by_cases k2 : kd = 2
      · have hkk := k2
        have e2 : (kd == 2) = true := beq_iff_eq.2 hkk
        have HKN := Lib.hid (show wgknown kd = true from by subst hkk; rfl)
        clear hkk
        clear k2
        go_upto_region 10 with (fail)
        have hkb := HKB.out
        obtain ⟨q, rfl⟩ : ∃ q : Nat, kd = q := ⟨kd.toNat, by omega⟩
        have hq : q < 256 := by omega
        obtain ⟨cs, fs⟩ := HSN.out.cell q hq
        cases hsn : seen.contains (q : Int) with
        | true =>
          rw [hsn] at cs
          simp only [if_true] at cs
          have HSNN := Lib.hid hsn
          clear hsn
          go_wp2_with (first
            | (refine gate_ (.load 26 (.tmp 2)) rfl ?_; refine wpList_load_row rfl 26 (.tmp 2) rfl g rfl 26 _ (0, 0) _ HG.out Try.underlying26 rfl (by kernel_rfl) ?_)
            | (refine gate_ (.store 26 (.tmp 4) (.tmp 87)) rfl ?_; refine wg_store_op rfl rfl 26 (.tmp 4) (.tmp 87) rfl _ _ _ 26 _ rfl rfl rfl (by kernel_rfl) rfl HG4.out rfl ?_; intro w9 h9 hg9))
          try simp only [Exit.inBlock, Exit.then]
          refine bodyPost_ret (results_ct Try.results20 _ _ g4 26 _ (0, 0) _ rfl h9 Try.underlying26 rfl (by kernel_rfl)) rfl ?_
          exact WOpts.bad (HUN.out (fun h => absurd h.2.2.2.2 (by rw [HKN.out, HSNN.out]; decide))) (wr_tail rfl (HGG.out.symm ▸ hge) HB.out hg9) rfl
        | false =>
          have HSNN := Lib.hid (show (wgknown (q : Int) && seen.contains (q : Int)) = false from by rw [hsn, Bool.and_false])
          rw [hsn] at cs
          simp only [Bool.false_eq_true, if_false] at cs
          clear hsn
          go_upto_region 13 with (fail)
          obtain ⟨arr, hsa, _⟩ := HSN.out
          have HR5 := Lib.hid (Kd.R_set HR.out hsa (by decide) q (.int .i64 1))
          have HG5 := Lib.hid (blk_far HG.out (p := ⟨sb, q, none⟩) (Ne.symm hne2) (.int .i64 1))
          have HG45 := Lib.hid (blk_far HG4.out (p := ⟨sb, q, none⟩) hne3 (.int .i64 1))
          have HSN5 := Lib.hid (HSN.out.put q hq)
          have HB5 := Lib.hid (HB.out.setCell (p := ⟨sb, q, none⟩) (Nat.le_trans HWG.out hge2) (.int .i64 1))
          generalize wd.setCell ⟨sb, q, none⟩ (.int .i64 1) = W5 at HR5 HG5 HG45 HSN5 HB5 ⊢
          have h5q : (q : Int) = 5 → A13 = none ∧ c13 = 0 ∧ cur.f13 = [] := fun e => H5.out (by have h := HSNN.out; rw [e] at h; exact h)
          have KO := Lib.hid (fun (W : World) (hB : Below W5.heap.size W5 W) => K.out (q : Int) W HOK.out h5q (below_step HB5.out hB) (Kd.R_below HR5.out hB))
          have HQ5 := Lib.hid (show seen.contains 5 = false → A13 = none ∧ c13 = 0 ∧ cur.f13 = [] from H5.out)
          clear hsa cs fs HSN HG HG4 HB HR h5q
          refine start_ (n := 7) (S := fun w' => w'.heap[g]? = some (.cells (wgcells cur (.slice A13 cur.f13.length c13) (.slice A14 n14 c14)) 26 (0, 0))) (ds := [6]) #[false, false, false, false, false, false, false] (by kernel_rfl) rfl rfl ((blk_drew HG5.out)) (fun hHeld => ?_)
          refine pure_ (i := 1) (N := some 92) (v := ?_) (a' := ?_) #[false, true, false, false, false, false, false] rfl rfl (by kernel_rfl) (fun _ _ _ h => h) (Or.inl ⟨by rfl, ?_⟩) ?_ ?_
          rotate_left
          · intro w'
            go_simp
            with_reducible rfl
          rotate_left
          · simp only [Act.put, List.setIfInBounds_toArray, List.set_cons_zero, List.set_cons_succ, i64_w, i32_w]
            rfl
          refine pure_ (i := 2) (N := some 93) (v := ?_) (a' := ?_) #[false, true, true, false, false, false, false] rfl rfl (by kernel_rfl) (fun _ _ _ h => h) (Or.inl ⟨by rfl, ?_⟩) ?_ ?_
          rotate_left
          · intro w'
            go_simp
            with_reducible rfl
          rotate_left
          · simp only [Act.put, List.setIfInBounds_toArray, List.set_cons_zero, List.set_cons_succ, i64_w, i32_w]
            rfl
          refine pure_ (i := 3) (N := some 94) (v := ?_) (a' := ?_) #[false, true, true, true, false, false, false] rfl rfl (by kernel_rfl) (fun _ _ _ h => h) (Or.inl ⟨by rfl, ?_⟩) ?_ ?_
          rotate_left
          · intro w'
            go_simp
            with_reducible rfl
          rotate_left
          · simp only [Act.put, List.setIfInBounds_toArray, List.set_cons_zero, List.set_cons_succ, i64_w, i32_w]
            rfl
          refine pure_ (i := 4) (N := some 95) (v := ?_) (a' := ?_) #[false, true, true, true, true, false, false] rfl rfl (by kernel_rfl) (fun _ _ _ h => h) (Or.inl ⟨by rfl, ?_⟩) ?_ ?_
          rotate_left
          · intro w'
            go_simp
            with_reducible rfl
          rotate_left
          · simp only [Act.put, List.setIfInBounds_toArray, List.set_cons_zero, List.set_cons_succ, i64_w, i32_w]
            rfl
          refine take_ (i := 0) (N := some 91) (v := .agg (wgcells cur (.slice A13 cur.f13.length c13) (.slice A14 n14 c14))) (a' := ?_) #[true, true, true, true, true, false, false] rfl rfl (by kernel_rfl) (fun _ _ _ h => h) (wb_take (by rfl) (.tmp 2) rfl g rfl cur _ _ (fun w' h => h)) hHeld ?_ ?_
          rotate_left
          · simp only [Act.put, List.setIfInBounds_toArray, List.set_cons_zero, List.set_cons_succ, i64_w, i32_w]
            rfl
          refine one_ (i := 5) (N := some 96) #[true, true, true, true, true, true, false] rfl rfl (by kernel_rfl) (by decide) (fun K hK => ?_)
          refine goes_ Try.func35 (by kernel_rfl) rfl #[.agg (wgcells cur (.slice A13 cur.f13.length c13) (.slice A14 n14 c14)), .int .u8 (q : Int), .slice A2 (m - 2) (c1 - 2)] (by rfl) rfl rfl (by simp only [List.map_toArray, List.map_cons, List.map_nil]; rfl) ?_
          with_reducible refine (KO.out _ (by exact below_drew1 (Below.refl W5.heap.size W5))).mono ?_
          rintro e u1 ⟨A', c', rfl, hr1, hb1, hbb1, hk1⟩
          refine ⟨_, rfl, ?_⟩
          refine hK.out _ _ ((blk_below (blk_drew HG5.out) hbb1)) (fun hHeld => ?_)
          clear hK K
          refine norm_ (a' := ?_) ?_ ?_
          rotate_left
          · show Act.put _ (some 96) _ = _
            simp only [Act.put, List.setIfInBounds_toArray, List.set_cons_zero, List.set_cons_succ, i64_w, i32_w]
            rfl
          refine last_ (i := 6) (N := none) #[true, true, true, true, true, true, true] rfl rfl (by kernel_rfl) (by decide) (fun K hK => ?_)
          refine wg_store_step (by rfl) (by rfl) 26 (.tmp 2) (.tmp 96) rfl (.agg (wgcells (wgopt cur (q : Int) bb) (.slice A' (wgopt cur (q : Int) bb).f13.length c') (.slice A14 n14 c14))) _ g 26 _ (by rfl) (by rfl) (by rfl) (by kernel_rfl) (by rfl) (blk_below (blk_drew HG5.out) hbb1) (by rfl) ?_
          intro w5 h5 hg5
          refine hK.out _ _ ?_
          clear hK K
          refine done_ (by kernel_rfl) ?_
          have HG49 := Lib.hid (blk_grown (blk_below (blk_drew HG45.out) hbb1) hg5 (fun e => hne (Option.some.inj e)))
          have HSN9 := Lib.hid (((HSN5.out.drew).below hbb1).grown hg5 hne2)
          have HB9 := Lib.hid (show Below w.heap.size w w5 from hb1.grown hg5 hb1.size (fun k hk => by cases hk; exact HWG.out))
          have HR9 := Lib.hid (wg_R_store hr1 (blk_below (blk_drew HG5.out) hbb1) (by decide) hg5)
          have HG9 := Lib.hid h5
          have HK1' := Lib.hid hk1
          clear hr1 hb1 hbb1 hk1 h5 hg5
          go_wp2
          go_roundg (gk - 1)
          case measure => have := H2.out; have := HM.out; omega
          case rel =>
            have e1 := HL3.out
            refine ⟨A3, c1 - m, bk.drop m, wgopt cur (q : Int) bb, (q : Int) :: seen, A', c', by rw [e1]; have := HM.out; have := HN2.out; omega, by rw [e1], by rw [e1]; exact hc3, Lib.hid (fun x hx => HBK.out x (List.mem_of_mem_drop hx)), HR3, HG9, HG49, HSN9, HB9, Lib.hid ?_, HR9, Lib.hid ?_, Lib.hid (by rw [e1]; have := HL.out; omega)⟩
            · have h := wgrd_opt cur seen bk (q : Int) m HKD.out HNN.out HZ.out HK0.out HK1.out H2.out HN2.out HNBL.out HOK.out HSNN.out
              rw [Int.toNat_natCast, HBB2.out] at h
              exact h.symm.trans HE.out
            · intro hc5
              rw [List.contains_cons] at hc5
              have hc6 := Bool.or_eq_false_iff.1 hc5
              have hq5 : (q : Int) ≠ 5 := fun e => by rw [e] at hc6; exact absurd hc6.1 (by decide)
              obtain ⟨ha, hc, hf⟩ := HK1'.out hq5
              obtain ⟨ha2, hc2, hf2⟩ := HQ5.out hc6.2
              exact ⟨ha.trans ha2, hc.trans hc2, hf.trans hf2⟩
      by_cases k3 : kd = 3
      · have hkk := k3
        have e2 : (kd == 2) = false := beq_false_of_ne k2
        have e3 : (kd == 3) = true := beq_iff_eq.2 hkk
        have HKN := Lib.hid (show wgknown kd = true from by subst hkk; rfl)
        clear hkk
        clear k3
        go_upto_region 10 with (fail)
        have hkb := HKB.out
        obtain ⟨q, rfl⟩ : ∃ q : Nat, kd = q := ⟨kd.toNat, by omega⟩
        have hq : q < 256 := by omega
        obtain ⟨cs, fs⟩ := HSN.out.cell q hq
        cases hsn : seen.contains (q : Int) with
        | true =>
          rw [hsn] at cs
          simp only [if_true] at cs
          have HSNN := Lib.hid hsn
          clear hsn
          go_wp2_with (first
            | (refine gate_ (.load 26 (.tmp 2)) rfl ?_; refine wpList_load_row rfl 26 (.tmp 2) rfl g rfl 26 _ (0, 0) _ HG.out Try.underlying26 rfl (by kernel_rfl) ?_)
            | (refine gate_ (.store 26 (.tmp 4) (.tmp 87)) rfl ?_; refine wg_store_op rfl rfl 26 (.tmp 4) (.tmp 87) rfl _ _ _ 26 _ rfl rfl rfl (by kernel_rfl) rfl HG4.out rfl ?_; intro w9 h9 hg9))
          try simp only [Exit.inBlock, Exit.then]
          refine bodyPost_ret (results_ct Try.results20 _ _ g4 26 _ (0, 0) _ rfl h9 Try.underlying26 rfl (by kernel_rfl)) rfl ?_
          exact WOpts.bad (HUN.out (fun h => absurd h.2.2.2.2 (by rw [HKN.out, HSNN.out]; decide))) (wr_tail rfl (HGG.out.symm ▸ hge) HB.out hg9) rfl
        | false =>
          have HSNN := Lib.hid (show (wgknown (q : Int) && seen.contains (q : Int)) = false from by rw [hsn, Bool.and_false])
          rw [hsn] at cs
          simp only [Bool.false_eq_true, if_false] at cs
          clear hsn
          go_upto_region 13 with (fail)
          obtain ⟨arr, hsa, _⟩ := HSN.out
          have HR5 := Lib.hid (Kd.R_set HR.out hsa (by decide) q (.int .i64 1))
          have HG5 := Lib.hid (blk_far HG.out (p := ⟨sb, q, none⟩) (Ne.symm hne2) (.int .i64 1))
          have HG45 := Lib.hid (blk_far HG4.out (p := ⟨sb, q, none⟩) hne3 (.int .i64 1))
          have HSN5 := Lib.hid (HSN.out.put q hq)
          have HB5 := Lib.hid (HB.out.setCell (p := ⟨sb, q, none⟩) (Nat.le_trans HWG.out hge2) (.int .i64 1))
          generalize wd.setCell ⟨sb, q, none⟩ (.int .i64 1) = W5 at HR5 HG5 HG45 HSN5 HB5 ⊢
          have h5q : (q : Int) = 5 → A13 = none ∧ c13 = 0 ∧ cur.f13 = [] := fun e => H5.out (by have h := HSNN.out; rw [e] at h; exact h)
          have KO := Lib.hid (fun (W : World) (hB : Below W5.heap.size W5 W) => K.out (q : Int) W HOK.out h5q (below_step HB5.out hB) (Kd.R_below HR5.out hB))
          have HQ5 := Lib.hid (show seen.contains 5 = false → A13 = none ∧ c13 = 0 ∧ cur.f13 = [] from H5.out)
          clear hsa cs fs HSN HG HG4 HB HR h5q
          refine start_ (n := 7) (S := fun w' => w'.heap[g]? = some (.cells (wgcells cur (.slice A13 cur.f13.length c13) (.slice A14 n14 c14)) 26 (0, 0))) (ds := [6]) #[false, false, false, false, false, false, false] (by kernel_rfl) rfl rfl ((blk_drew HG5.out)) (fun hHeld => ?_)
          refine pure_ (i := 1) (N := some 92) (v := ?_) (a' := ?_) #[false, true, false, false, false, false, false] rfl rfl (by kernel_rfl) (fun _ _ _ h => h) (Or.inl ⟨by rfl, ?_⟩) ?_ ?_
          rotate_left
          · intro w'
            go_simp
            with_reducible rfl
          rotate_left
          · simp only [Act.put, List.setIfInBounds_toArray, List.set_cons_zero, List.set_cons_succ, i64_w, i32_w]
            rfl
          refine pure_ (i := 2) (N := some 93) (v := ?_) (a' := ?_) #[false, true, true, false, false, false, false] rfl rfl (by kernel_rfl) (fun _ _ _ h => h) (Or.inl ⟨by rfl, ?_⟩) ?_ ?_
          rotate_left
          · intro w'
            go_simp
            with_reducible rfl
          rotate_left
          · simp only [Act.put, List.setIfInBounds_toArray, List.set_cons_zero, List.set_cons_succ, i64_w, i32_w]
            rfl
          refine pure_ (i := 3) (N := some 94) (v := ?_) (a' := ?_) #[false, true, true, true, false, false, false] rfl rfl (by kernel_rfl) (fun _ _ _ h => h) (Or.inl ⟨by rfl, ?_⟩) ?_ ?_
          rotate_left
          · intro w'
            go_simp
            with_reducible rfl
          rotate_left
          · simp only [Act.put, List.setIfInBounds_toArray, List.set_cons_zero, List.set_cons_succ, i64_w, i32_w]
            rfl
          refine pure_ (i := 4) (N := some 95) (v := ?_) (a' := ?_) #[false, true, true, true, true, false, false] rfl rfl (by kernel_rfl) (fun _ _ _ h => h) (Or.inl ⟨by rfl, ?_⟩) ?_ ?_
          rotate_left
          · intro w'
            go_simp
            with_reducible rfl
          rotate_left
          · simp only [Act.put, List.setIfInBounds_toArray, List.set_cons_zero, List.set_cons_succ, i64_w, i32_w]
            rfl
          refine take_ (i := 0) (N := some 91) (v := .agg (wgcells cur (.slice A13 cur.f13.length c13) (.slice A14 n14 c14))) (a' := ?_) #[true, true, true, true, true, false, false] rfl rfl (by kernel_rfl) (fun _ _ _ h => h) (wb_take (by rfl) (.tmp 2) rfl g rfl cur _ _ (fun w' h => h)) hHeld ?_ ?_
          rotate_left
          · simp only [Act.put, List.setIfInBounds_toArray, List.set_cons_zero, List.set_cons_succ, i64_w, i32_w]
            rfl
          refine one_ (i := 5) (N := some 96) #[true, true, true, true, true, true, false] rfl rfl (by kernel_rfl) (by decide) (fun K hK => ?_)
          refine goes_ Try.func35 (by kernel_rfl) rfl #[.agg (wgcells cur (.slice A13 cur.f13.length c13) (.slice A14 n14 c14)), .int .u8 (q : Int), .slice A2 (m - 2) (c1 - 2)] (by rfl) rfl rfl (by simp only [List.map_toArray, List.map_cons, List.map_nil]; rfl) ?_
          with_reducible refine (KO.out _ (by exact below_drew1 (Below.refl W5.heap.size W5))).mono ?_
          rintro e u1 ⟨A', c', rfl, hr1, hb1, hbb1, hk1⟩
          refine ⟨_, rfl, ?_⟩
          refine hK.out _ _ ((blk_below (blk_drew HG5.out) hbb1)) (fun hHeld => ?_)
          clear hK K
          refine norm_ (a' := ?_) ?_ ?_
          rotate_left
          · show Act.put _ (some 96) _ = _
            simp only [Act.put, List.setIfInBounds_toArray, List.set_cons_zero, List.set_cons_succ, i64_w, i32_w]
            rfl
          refine last_ (i := 6) (N := none) #[true, true, true, true, true, true, true] rfl rfl (by kernel_rfl) (by decide) (fun K hK => ?_)
          refine wg_store_step (by rfl) (by rfl) 26 (.tmp 2) (.tmp 96) rfl (.agg (wgcells (wgopt cur (q : Int) bb) (.slice A' (wgopt cur (q : Int) bb).f13.length c') (.slice A14 n14 c14))) _ g 26 _ (by rfl) (by rfl) (by rfl) (by kernel_rfl) (by rfl) (blk_below (blk_drew HG5.out) hbb1) (by rfl) ?_
          intro w5 h5 hg5
          refine hK.out _ _ ?_
          clear hK K
          refine done_ (by kernel_rfl) ?_
          have HG49 := Lib.hid (blk_grown (blk_below (blk_drew HG45.out) hbb1) hg5 (fun e => hne (Option.some.inj e)))
          have HSN9 := Lib.hid (((HSN5.out.drew).below hbb1).grown hg5 hne2)
          have HB9 := Lib.hid (show Below w.heap.size w w5 from hb1.grown hg5 hb1.size (fun k hk => by cases hk; exact HWG.out))
          have HR9 := Lib.hid (wg_R_store hr1 (blk_below (blk_drew HG5.out) hbb1) (by decide) hg5)
          have HG9 := Lib.hid h5
          have HK1' := Lib.hid hk1
          clear hr1 hb1 hbb1 hk1 h5 hg5
          go_wp2
          go_roundg (gk - 1)
          case measure => have := H2.out; have := HM.out; omega
          case rel =>
            have e1 := HL3.out
            refine ⟨A3, c1 - m, bk.drop m, wgopt cur (q : Int) bb, (q : Int) :: seen, A', c', by rw [e1]; have := HM.out; have := HN2.out; omega, by rw [e1], by rw [e1]; exact hc3, Lib.hid (fun x hx => HBK.out x (List.mem_of_mem_drop hx)), HR3, HG9, HG49, HSN9, HB9, Lib.hid ?_, HR9, Lib.hid ?_, Lib.hid (by rw [e1]; have := HL.out; omega)⟩
            · have h := wgrd_opt cur seen bk (q : Int) m HKD.out HNN.out HZ.out HK0.out HK1.out H2.out HN2.out HNBL.out HOK.out HSNN.out
              rw [Int.toNat_natCast, HBB2.out] at h
              exact h.symm.trans HE.out
            · intro hc5
              rw [List.contains_cons] at hc5
              have hc6 := Bool.or_eq_false_iff.1 hc5
              have hq5 : (q : Int) ≠ 5 := fun e => by rw [e] at hc6; exact absurd hc6.1 (by decide)
              obtain ⟨ha, hc, hf⟩ := HK1'.out hq5
              obtain ⟨ha2, hc2, hf2⟩ := HQ5.out hc6.2
              exact ⟨ha.trans ha2, hc.trans hc2, hf.trans hf2⟩
      by_cases k4 : kd = 4
      · have hkk := k4
        have e2 : (kd == 2) = false := beq_false_of_ne k2
        have e3 : (kd == 3) = false := beq_false_of_ne k3
        have e4 : (kd == 4) = true := beq_iff_eq.2 hkk
        have HKN := Lib.hid (show wgknown kd = true from by subst hkk; rfl)
        clear hkk
        clear k4
        go_upto_region 10 with (fail)
        have hkb := HKB.out
        obtain ⟨q, rfl⟩ : ∃ q : Nat, kd = q := ⟨kd.toNat, by omega⟩
        have hq : q < 256 := by omega
        obtain ⟨cs, fs⟩ := HSN.out.cell q hq
        cases hsn : seen.contains (q : Int) with
        | true =>
          rw [hsn] at cs
          simp only [if_true] at cs
          have HSNN := Lib.hid hsn
          clear hsn
          go_wp2_with (first
            | (refine gate_ (.load 26 (.tmp 2)) rfl ?_; refine wpList_load_row rfl 26 (.tmp 2) rfl g rfl 26 _ (0, 0) _ HG.out Try.underlying26 rfl (by kernel_rfl) ?_)
            | (refine gate_ (.store 26 (.tmp 4) (.tmp 87)) rfl ?_; refine wg_store_op rfl rfl 26 (.tmp 4) (.tmp 87) rfl _ _ _ 26 _ rfl rfl rfl (by kernel_rfl) rfl HG4.out rfl ?_; intro w9 h9 hg9))
          try simp only [Exit.inBlock, Exit.then]
          refine bodyPost_ret (results_ct Try.results20 _ _ g4 26 _ (0, 0) _ rfl h9 Try.underlying26 rfl (by kernel_rfl)) rfl ?_
          exact WOpts.bad (HUN.out (fun h => absurd h.2.2.2.2 (by rw [HKN.out, HSNN.out]; decide))) (wr_tail rfl (HGG.out.symm ▸ hge) HB.out hg9) rfl
        | false =>
          have HSNN := Lib.hid (show (wgknown (q : Int) && seen.contains (q : Int)) = false from by rw [hsn, Bool.and_false])
          rw [hsn] at cs
          simp only [Bool.false_eq_true, if_false] at cs
          clear hsn
          go_upto_region 13 with (fail)
          obtain ⟨arr, hsa, _⟩ := HSN.out
          have HR5 := Lib.hid (Kd.R_set HR.out hsa (by decide) q (.int .i64 1))
          have HG5 := Lib.hid (blk_far HG.out (p := ⟨sb, q, none⟩) (Ne.symm hne2) (.int .i64 1))
          have HG45 := Lib.hid (blk_far HG4.out (p := ⟨sb, q, none⟩) hne3 (.int .i64 1))
          have HSN5 := Lib.hid (HSN.out.put q hq)
          have HB5 := Lib.hid (HB.out.setCell (p := ⟨sb, q, none⟩) (Nat.le_trans HWG.out hge2) (.int .i64 1))
          generalize wd.setCell ⟨sb, q, none⟩ (.int .i64 1) = W5 at HR5 HG5 HG45 HSN5 HB5 ⊢
          have h5q : (q : Int) = 5 → A13 = none ∧ c13 = 0 ∧ cur.f13 = [] := fun e => H5.out (by have h := HSNN.out; rw [e] at h; exact h)
          have KO := Lib.hid (fun (W : World) (hB : Below W5.heap.size W5 W) => K.out (q : Int) W HOK.out h5q (below_step HB5.out hB) (Kd.R_below HR5.out hB))
          have HQ5 := Lib.hid (show seen.contains 5 = false → A13 = none ∧ c13 = 0 ∧ cur.f13 = [] from H5.out)
          clear hsa cs fs HSN HG HG4 HB HR h5q
          refine start_ (n := 7) (S := fun w' => w'.heap[g]? = some (.cells (wgcells cur (.slice A13 cur.f13.length c13) (.slice A14 n14 c14)) 26 (0, 0))) (ds := [6]) #[false, false, false, false, false, false, false] (by kernel_rfl) rfl rfl ((blk_drew HG5.out)) (fun hHeld => ?_)
          refine pure_ (i := 1) (N := some 92) (v := ?_) (a' := ?_) #[false, true, false, false, false, false, false] rfl rfl (by kernel_rfl) (fun _ _ _ h => h) (Or.inl ⟨by rfl, ?_⟩) ?_ ?_
          rotate_left
          · intro w'
            go_simp
            with_reducible rfl
          rotate_left
          · simp only [Act.put, List.setIfInBounds_toArray, List.set_cons_zero, List.set_cons_succ, i64_w, i32_w]
            rfl
          refine pure_ (i := 2) (N := some 93) (v := ?_) (a' := ?_) #[false, true, true, false, false, false, false] rfl rfl (by kernel_rfl) (fun _ _ _ h => h) (Or.inl ⟨by rfl, ?_⟩) ?_ ?_
          rotate_left
          · intro w'
            go_simp
            with_reducible rfl
          rotate_left
          · simp only [Act.put, List.setIfInBounds_toArray, List.set_cons_zero, List.set_cons_succ, i64_w, i32_w]
            rfl
          refine pure_ (i := 3) (N := some 94) (v := ?_) (a' := ?_) #[false, true, true, true, false, false, false] rfl rfl (by kernel_rfl) (fun _ _ _ h => h) (Or.inl ⟨by rfl, ?_⟩) ?_ ?_
          rotate_left
          · intro w'
            go_simp
            with_reducible rfl
          rotate_left
          · simp only [Act.put, List.setIfInBounds_toArray, List.set_cons_zero, List.set_cons_succ, i64_w, i32_w]
            rfl
          refine pure_ (i := 4) (N := some 95) (v := ?_) (a' := ?_) #[false, true, true, true, true, false, false] rfl rfl (by kernel_rfl) (fun _ _ _ h => h) (Or.inl ⟨by rfl, ?_⟩) ?_ ?_
          rotate_left
          · intro w'
            go_simp
            with_reducible rfl
          rotate_left
          · simp only [Act.put, List.setIfInBounds_toArray, List.set_cons_zero, List.set_cons_succ, i64_w, i32_w]
            rfl
          refine take_ (i := 0) (N := some 91) (v := .agg (wgcells cur (.slice A13 cur.f13.length c13) (.slice A14 n14 c14))) (a' := ?_) #[true, true, true, true, true, false, false] rfl rfl (by kernel_rfl) (fun _ _ _ h => h) (wb_take (by rfl) (.tmp 2) rfl g rfl cur _ _ (fun w' h => h)) hHeld ?_ ?_
          rotate_left
          · simp only [Act.put, List.setIfInBounds_toArray, List.set_cons_zero, List.set_cons_succ, i64_w, i32_w]
            rfl
          refine one_ (i := 5) (N := some 96) #[true, true, true, true, true, true, false] rfl rfl (by kernel_rfl) (by decide) (fun K hK => ?_)
          refine goes_ Try.func35 (by kernel_rfl) rfl #[.agg (wgcells cur (.slice A13 cur.f13.length c13) (.slice A14 n14 c14)), .int .u8 (q : Int), .slice A2 (m - 2) (c1 - 2)] (by rfl) rfl rfl (by simp only [List.map_toArray, List.map_cons, List.map_nil]; rfl) ?_
          with_reducible refine (KO.out _ (by exact below_drew1 (Below.refl W5.heap.size W5))).mono ?_
          rintro e u1 ⟨A', c', rfl, hr1, hb1, hbb1, hk1⟩
          refine ⟨_, rfl, ?_⟩
          refine hK.out _ _ ((blk_below (blk_drew HG5.out) hbb1)) (fun hHeld => ?_)
          clear hK K
          refine norm_ (a' := ?_) ?_ ?_
          rotate_left
          · show Act.put _ (some 96) _ = _
            simp only [Act.put, List.setIfInBounds_toArray, List.set_cons_zero, List.set_cons_succ, i64_w, i32_w]
            rfl
          refine last_ (i := 6) (N := none) #[true, true, true, true, true, true, true] rfl rfl (by kernel_rfl) (by decide) (fun K hK => ?_)
          refine wg_store_step (by rfl) (by rfl) 26 (.tmp 2) (.tmp 96) rfl (.agg (wgcells (wgopt cur (q : Int) bb) (.slice A' (wgopt cur (q : Int) bb).f13.length c') (.slice A14 n14 c14))) _ g 26 _ (by rfl) (by rfl) (by rfl) (by kernel_rfl) (by rfl) (blk_below (blk_drew HG5.out) hbb1) (by rfl) ?_
          intro w5 h5 hg5
          refine hK.out _ _ ?_
          clear hK K
          refine done_ (by kernel_rfl) ?_
          have HG49 := Lib.hid (blk_grown (blk_below (blk_drew HG45.out) hbb1) hg5 (fun e => hne (Option.some.inj e)))
          have HSN9 := Lib.hid (((HSN5.out.drew).below hbb1).grown hg5 hne2)
          have HB9 := Lib.hid (show Below w.heap.size w w5 from hb1.grown hg5 hb1.size (fun k hk => by cases hk; exact HWG.out))
          have HR9 := Lib.hid (wg_R_store hr1 (blk_below (blk_drew HG5.out) hbb1) (by decide) hg5)
          have HG9 := Lib.hid h5
          have HK1' := Lib.hid hk1
          clear hr1 hb1 hbb1 hk1 h5 hg5
          go_wp2
          go_roundg (gk - 1)
          case measure => have := H2.out; have := HM.out; omega
          case rel =>
            have e1 := HL3.out
            refine ⟨A3, c1 - m, bk.drop m, wgopt cur (q : Int) bb, (q : Int) :: seen, A', c', by rw [e1]; have := HM.out; have := HN2.out; omega, by rw [e1], by rw [e1]; exact hc3, Lib.hid (fun x hx => HBK.out x (List.mem_of_mem_drop hx)), HR3, HG9, HG49, HSN9, HB9, Lib.hid ?_, HR9, Lib.hid ?_, Lib.hid (by rw [e1]; have := HL.out; omega)⟩
            · have h := wgrd_opt cur seen bk (q : Int) m HKD.out HNN.out HZ.out HK0.out HK1.out H2.out HN2.out HNBL.out HOK.out HSNN.out
              rw [Int.toNat_natCast, HBB2.out] at h
              exact h.symm.trans HE.out
            · intro hc5
              rw [List.contains_cons] at hc5
              have hc6 := Bool.or_eq_false_iff.1 hc5
              have hq5 : (q : Int) ≠ 5 := fun e => by rw [e] at hc6; exact absurd hc6.1 (by decide)
              obtain ⟨ha, hc, hf⟩ := HK1'.out hq5
              obtain ⟨ha2, hc2, hf2⟩ := HQ5.out hc6.2
              exact ⟨ha.trans ha2, hc.trans hc2, hf.trans hf2⟩
      by_cases k5 : kd = 5
      · have hkk := k5
        have e2 : (kd == 2) = false := beq_false_of_ne k2
        have e3 : (kd == 3) = false := beq_false_of_ne k3
        have e4 : (kd == 4) = false := beq_false_of_ne k4
        have e5 : (kd == 5) = true := beq_iff_eq.2 hkk
        have HKN := Lib.hid (show wgknown kd = true from by subst hkk; rfl)
        clear hkk
        clear k5
        go_upto_region 10 with (fail)
        have hkb := HKB.out
        obtain ⟨q, rfl⟩ : ∃ q : Nat, kd = q := ⟨kd.toNat, by omega⟩
        have hq : q < 256 := by omega
        obtain ⟨cs, fs⟩ := HSN.out.cell q hq
        cases hsn : seen.contains (q : Int) with
        | true =>
          rw [hsn] at cs
          simp only [if_true] at cs
          have HSNN := Lib.hid hsn
          clear hsn
          go_wp2_with (first
            | (refine gate_ (.load 26 (.tmp 2)) rfl ?_; refine wpList_load_row rfl 26 (.tmp 2) rfl g rfl 26 _ (0, 0) _ HG.out Try.underlying26 rfl (by kernel_rfl) ?_)
            | (refine gate_ (.store 26 (.tmp 4) (.tmp 87)) rfl ?_; refine wg_store_op rfl rfl 26 (.tmp 4) (.tmp 87) rfl _ _ _ 26 _ rfl rfl rfl (by kernel_rfl) rfl HG4.out rfl ?_; intro w9 h9 hg9))
          try simp only [Exit.inBlock, Exit.then]
          refine bodyPost_ret (results_ct Try.results20 _ _ g4 26 _ (0, 0) _ rfl h9 Try.underlying26 rfl (by kernel_rfl)) rfl ?_
          exact WOpts.bad (HUN.out (fun h => absurd h.2.2.2.2 (by rw [HKN.out, HSNN.out]; decide))) (wr_tail rfl (HGG.out.symm ▸ hge) HB.out hg9) rfl
        | false =>
          have HSNN := Lib.hid (show (wgknown (q : Int) && seen.contains (q : Int)) = false from by rw [hsn, Bool.and_false])
          rw [hsn] at cs
          simp only [Bool.false_eq_true, if_false] at cs
          clear hsn
          go_upto_region 13 with (fail)
          obtain ⟨arr, hsa, _⟩ := HSN.out
          have HR5 := Lib.hid (Kd.R_set HR.out hsa (by decide) q (.int .i64 1))
          have HG5 := Lib.hid (blk_far HG.out (p := ⟨sb, q, none⟩) (Ne.symm hne2) (.int .i64 1))
          have HG45 := Lib.hid (blk_far HG4.out (p := ⟨sb, q, none⟩) hne3 (.int .i64 1))
          have HSN5 := Lib.hid (HSN.out.put q hq)
          have HB5 := Lib.hid (HB.out.setCell (p := ⟨sb, q, none⟩) (Nat.le_trans HWG.out hge2) (.int .i64 1))
          generalize wd.setCell ⟨sb, q, none⟩ (.int .i64 1) = W5 at HR5 HG5 HG45 HSN5 HB5 ⊢
          have h5q : (q : Int) = 5 → A13 = none ∧ c13 = 0 ∧ cur.f13 = [] := fun e => H5.out (by have h := HSNN.out; rw [e] at h; exact h)
          have KO := Lib.hid (fun (W : World) (hB : Below W5.heap.size W5 W) => K.out (q : Int) W HOK.out h5q (below_step HB5.out hB) (Kd.R_below HR5.out hB))
          have HQ5 := Lib.hid (show seen.contains 5 = false → A13 = none ∧ c13 = 0 ∧ cur.f13 = [] from H5.out)
          clear hsa cs fs HSN HG HG4 HB HR h5q
          refine start_ (n := 7) (S := fun w' => w'.heap[g]? = some (.cells (wgcells cur (.slice A13 cur.f13.length c13) (.slice A14 n14 c14)) 26 (0, 0))) (ds := [6]) #[false, false, false, false, false, false, false] (by kernel_rfl) rfl rfl ((blk_drew HG5.out)) (fun hHeld => ?_)
          refine pure_ (i := 1) (N := some 92) (v := ?_) (a' := ?_) #[false, true, false, false, false, false, false] rfl rfl (by kernel_rfl) (fun _ _ _ h => h) (Or.inl ⟨by rfl, ?_⟩) ?_ ?_
          rotate_left
          · intro w'
            go_simp
            with_reducible rfl
          rotate_left
          · simp only [Act.put, List.setIfInBounds_toArray, List.set_cons_zero, List.set_cons_succ, i64_w, i32_w]
            rfl
          refine pure_ (i := 2) (N := some 93) (v := ?_) (a' := ?_) #[false, true, true, false, false, false, false] rfl rfl (by kernel_rfl) (fun _ _ _ h => h) (Or.inl ⟨by rfl, ?_⟩) ?_ ?_
          rotate_left
          · intro w'
            go_simp
            with_reducible rfl
          rotate_left
          · simp only [Act.put, List.setIfInBounds_toArray, List.set_cons_zero, List.set_cons_succ, i64_w, i32_w]
            rfl
          refine pure_ (i := 3) (N := some 94) (v := ?_) (a' := ?_) #[false, true, true, true, false, false, false] rfl rfl (by kernel_rfl) (fun _ _ _ h => h) (Or.inl ⟨by rfl, ?_⟩) ?_ ?_
          rotate_left
          · intro w'
            go_simp
            with_reducible rfl
          rotate_left
          · simp only [Act.put, List.setIfInBounds_toArray, List.set_cons_zero, List.set_cons_succ, i64_w, i32_w]
            rfl
          refine pure_ (i := 4) (N := some 95) (v := ?_) (a' := ?_) #[false, true, true, true, true, false, false] rfl rfl (by kernel_rfl) (fun _ _ _ h => h) (Or.inl ⟨by rfl, ?_⟩) ?_ ?_
          rotate_left
          · intro w'
            go_simp
            with_reducible rfl
          rotate_left
          · simp only [Act.put, List.setIfInBounds_toArray, List.set_cons_zero, List.set_cons_succ, i64_w, i32_w]
            rfl
          refine take_ (i := 0) (N := some 91) (v := .agg (wgcells cur (.slice A13 cur.f13.length c13) (.slice A14 n14 c14))) (a' := ?_) #[true, true, true, true, true, false, false] rfl rfl (by kernel_rfl) (fun _ _ _ h => h) (wb_take (by rfl) (.tmp 2) rfl g rfl cur _ _ (fun w' h => h)) hHeld ?_ ?_
          rotate_left
          · simp only [Act.put, List.setIfInBounds_toArray, List.set_cons_zero, List.set_cons_succ, i64_w, i32_w]
            rfl
          refine one_ (i := 5) (N := some 96) #[true, true, true, true, true, true, false] rfl rfl (by kernel_rfl) (by decide) (fun K hK => ?_)
          refine goes_ Try.func35 (by kernel_rfl) rfl #[.agg (wgcells cur (.slice A13 cur.f13.length c13) (.slice A14 n14 c14)), .int .u8 (q : Int), .slice A2 (m - 2) (c1 - 2)] (by rfl) rfl rfl (by simp only [List.map_toArray, List.map_cons, List.map_nil]; rfl) ?_
          with_reducible refine (KO.out _ (by exact below_drew1 (Below.refl W5.heap.size W5))).mono ?_
          rintro e u1 ⟨A', c', rfl, hr1, hb1, hbb1, hk1⟩
          refine ⟨_, rfl, ?_⟩
          refine hK.out _ _ ((blk_below (blk_drew HG5.out) hbb1)) (fun hHeld => ?_)
          clear hK K
          refine norm_ (a' := ?_) ?_ ?_
          rotate_left
          · show Act.put _ (some 96) _ = _
            simp only [Act.put, List.setIfInBounds_toArray, List.set_cons_zero, List.set_cons_succ, i64_w, i32_w]
            rfl
          refine last_ (i := 6) (N := none) #[true, true, true, true, true, true, true] rfl rfl (by kernel_rfl) (by decide) (fun K hK => ?_)
          refine wg_store_step (by rfl) (by rfl) 26 (.tmp 2) (.tmp 96) rfl (.agg (wgcells (wgopt cur (q : Int) bb) (.slice A' (wgopt cur (q : Int) bb).f13.length c') (.slice A14 n14 c14))) _ g 26 _ (by rfl) (by rfl) (by rfl) (by kernel_rfl) (by rfl) (blk_below (blk_drew HG5.out) hbb1) (by rfl) ?_
          intro w5 h5 hg5
          refine hK.out _ _ ?_
          clear hK K
          refine done_ (by kernel_rfl) ?_
          have HG49 := Lib.hid (blk_grown (blk_below (blk_drew HG45.out) hbb1) hg5 (fun e => hne (Option.some.inj e)))
          have HSN9 := Lib.hid (((HSN5.out.drew).below hbb1).grown hg5 hne2)
          have HB9 := Lib.hid (show Below w.heap.size w w5 from hb1.grown hg5 hb1.size (fun k hk => by cases hk; exact HWG.out))
          have HR9 := Lib.hid (wg_R_store hr1 (blk_below (blk_drew HG5.out) hbb1) (by decide) hg5)
          have HG9 := Lib.hid h5
          have HK1' := Lib.hid hk1
          clear hr1 hb1 hbb1 hk1 h5 hg5
          go_wp2
          go_roundg (gk - 1)
          case measure => have := H2.out; have := HM.out; omega
          case rel =>
            have e1 := HL3.out
            refine ⟨A3, c1 - m, bk.drop m, wgopt cur (q : Int) bb, (q : Int) :: seen, A', c', by rw [e1]; have := HM.out; have := HN2.out; omega, by rw [e1], by rw [e1]; exact hc3, Lib.hid (fun x hx => HBK.out x (List.mem_of_mem_drop hx)), HR3, HG9, HG49, HSN9, HB9, Lib.hid ?_, HR9, Lib.hid ?_, Lib.hid (by rw [e1]; have := HL.out; omega)⟩
            · have h := wgrd_opt cur seen bk (q : Int) m HKD.out HNN.out HZ.out HK0.out HK1.out H2.out HN2.out HNBL.out HOK.out HSNN.out
              rw [Int.toNat_natCast, HBB2.out] at h
              exact h.symm.trans HE.out
            · intro hc5
              rw [List.contains_cons] at hc5
              have hc6 := Bool.or_eq_false_iff.1 hc5
              have hq5 : (q : Int) ≠ 5 := fun e => by rw [e] at hc6; exact absurd hc6.1 (by decide)
              obtain ⟨ha, hc, hf⟩ := HK1'.out hq5
              obtain ⟨ha2, hc2, hf2⟩ := HQ5.out hc6.2
              exact ⟨ha.trans ha2, hc.trans hc2, hf.trans hf2⟩
      by_cases k8 : kd = 8
      · have hkk := k8
        have e2 : (kd == 2) = false := beq_false_of_ne k2
        have e3 : (kd == 3) = false := beq_false_of_ne k3
        have e4 : (kd == 4) = false := beq_false_of_ne k4
        have e5 : (kd == 5) = false := beq_false_of_ne k5
        have e8 : (kd == 8) = true := beq_iff_eq.2 hkk
        have HKN := Lib.hid (show wgknown kd = true from by subst hkk; rfl)
        clear hkk
        clear k8
        go_upto_region 10 with (fail)
        have hkb := HKB.out
        obtain ⟨q, rfl⟩ : ∃ q : Nat, kd = q := ⟨kd.toNat, by omega⟩
        have hq : q < 256 := by omega
        obtain ⟨cs, fs⟩ := HSN.out.cell q hq
        cases hsn : seen.contains (q : Int) with
        | true =>
          rw [hsn] at cs
          simp only [if_true] at cs
          have HSNN := Lib.hid hsn
          clear hsn
          go_wp2_with (first
            | (refine gate_ (.load 26 (.tmp 2)) rfl ?_; refine wpList_load_row rfl 26 (.tmp 2) rfl g rfl 26 _ (0, 0) _ HG.out Try.underlying26 rfl (by kernel_rfl) ?_)
            | (refine gate_ (.store 26 (.tmp 4) (.tmp 87)) rfl ?_; refine wg_store_op rfl rfl 26 (.tmp 4) (.tmp 87) rfl _ _ _ 26 _ rfl rfl rfl (by kernel_rfl) rfl HG4.out rfl ?_; intro w9 h9 hg9))
          try simp only [Exit.inBlock, Exit.then]
          refine bodyPost_ret (results_ct Try.results20 _ _ g4 26 _ (0, 0) _ rfl h9 Try.underlying26 rfl (by kernel_rfl)) rfl ?_
          exact WOpts.bad (HUN.out (fun h => absurd h.2.2.2.2 (by rw [HKN.out, HSNN.out]; decide))) (wr_tail rfl (HGG.out.symm ▸ hge) HB.out hg9) rfl
        | false =>
          have HSNN := Lib.hid (show (wgknown (q : Int) && seen.contains (q : Int)) = false from by rw [hsn, Bool.and_false])
          rw [hsn] at cs
          simp only [Bool.false_eq_true, if_false] at cs
          clear hsn
          go_upto_region 13 with (fail)
          obtain ⟨arr, hsa, _⟩ := HSN.out
          have HR5 := Lib.hid (Kd.R_set HR.out hsa (by decide) q (.int .i64 1))
          have HG5 := Lib.hid (blk_far HG.out (p := ⟨sb, q, none⟩) (Ne.symm hne2) (.int .i64 1))
          have HG45 := Lib.hid (blk_far HG4.out (p := ⟨sb, q, none⟩) hne3 (.int .i64 1))
          have HSN5 := Lib.hid (HSN.out.put q hq)
          have HB5 := Lib.hid (HB.out.setCell (p := ⟨sb, q, none⟩) (Nat.le_trans HWG.out hge2) (.int .i64 1))
          generalize wd.setCell ⟨sb, q, none⟩ (.int .i64 1) = W5 at HR5 HG5 HG45 HSN5 HB5 ⊢
          have h5q : (q : Int) = 5 → A13 = none ∧ c13 = 0 ∧ cur.f13 = [] := fun e => H5.out (by have h := HSNN.out; rw [e] at h; exact h)
          have KO := Lib.hid (fun (W : World) (hB : Below W5.heap.size W5 W) => K.out (q : Int) W HOK.out h5q (below_step HB5.out hB) (Kd.R_below HR5.out hB))
          have HQ5 := Lib.hid (show seen.contains 5 = false → A13 = none ∧ c13 = 0 ∧ cur.f13 = [] from H5.out)
          clear hsa cs fs HSN HG HG4 HB HR h5q
          refine start_ (n := 7) (S := fun w' => w'.heap[g]? = some (.cells (wgcells cur (.slice A13 cur.f13.length c13) (.slice A14 n14 c14)) 26 (0, 0))) (ds := [6]) #[false, false, false, false, false, false, false] (by kernel_rfl) rfl rfl ((blk_drew HG5.out)) (fun hHeld => ?_)
          refine pure_ (i := 1) (N := some 92) (v := ?_) (a' := ?_) #[false, true, false, false, false, false, false] rfl rfl (by kernel_rfl) (fun _ _ _ h => h) (Or.inl ⟨by rfl, ?_⟩) ?_ ?_
          rotate_left
          · intro w'
            go_simp
            with_reducible rfl
          rotate_left
          · simp only [Act.put, List.setIfInBounds_toArray, List.set_cons_zero, List.set_cons_succ, i64_w, i32_w]
            rfl
          refine pure_ (i := 2) (N := some 93) (v := ?_) (a' := ?_) #[false, true, true, false, false, false, false] rfl rfl (by kernel_rfl) (fun _ _ _ h => h) (Or.inl ⟨by rfl, ?_⟩) ?_ ?_
          rotate_left
          · intro w'
            go_simp
            with_reducible rfl
          rotate_left
          · simp only [Act.put, List.setIfInBounds_toArray, List.set_cons_zero, List.set_cons_succ, i64_w, i32_w]
            rfl
          refine pure_ (i := 3) (N := some 94) (v := ?_) (a' := ?_) #[false, true, true, true, false, false, false] rfl rfl (by kernel_rfl) (fun _ _ _ h => h) (Or.inl ⟨by rfl, ?_⟩) ?_ ?_
          rotate_left
          · intro w'
            go_simp
            with_reducible rfl
          rotate_left
          · simp only [Act.put, List.setIfInBounds_toArray, List.set_cons_zero, List.set_cons_succ, i64_w, i32_w]
            rfl
          refine pure_ (i := 4) (N := some 95) (v := ?_) (a' := ?_) #[false, true, true, true, true, false, false] rfl rfl (by kernel_rfl) (fun _ _ _ h => h) (Or.inl ⟨by rfl, ?_⟩) ?_ ?_
          rotate_left
          · intro w'
            go_simp
            with_reducible rfl
          rotate_left
          · simp only [Act.put, List.setIfInBounds_toArray, List.set_cons_zero, List.set_cons_succ, i64_w, i32_w]
            rfl
          refine take_ (i := 0) (N := some 91) (v := .agg (wgcells cur (.slice A13 cur.f13.length c13) (.slice A14 n14 c14))) (a' := ?_) #[true, true, true, true, true, false, false] rfl rfl (by kernel_rfl) (fun _ _ _ h => h) (wb_take (by rfl) (.tmp 2) rfl g rfl cur _ _ (fun w' h => h)) hHeld ?_ ?_
          rotate_left
          · simp only [Act.put, List.setIfInBounds_toArray, List.set_cons_zero, List.set_cons_succ, i64_w, i32_w]
            rfl
          refine one_ (i := 5) (N := some 96) #[true, true, true, true, true, true, false] rfl rfl (by kernel_rfl) (by decide) (fun K hK => ?_)
          refine goes_ Try.func35 (by kernel_rfl) rfl #[.agg (wgcells cur (.slice A13 cur.f13.length c13) (.slice A14 n14 c14)), .int .u8 (q : Int), .slice A2 (m - 2) (c1 - 2)] (by rfl) rfl rfl (by simp only [List.map_toArray, List.map_cons, List.map_nil]; rfl) ?_
          with_reducible refine (KO.out _ (by exact below_drew1 (Below.refl W5.heap.size W5))).mono ?_
          rintro e u1 ⟨A', c', rfl, hr1, hb1, hbb1, hk1⟩
          refine ⟨_, rfl, ?_⟩
          refine hK.out _ _ ((blk_below (blk_drew HG5.out) hbb1)) (fun hHeld => ?_)
          clear hK K
          refine norm_ (a' := ?_) ?_ ?_
          rotate_left
          · show Act.put _ (some 96) _ = _
            simp only [Act.put, List.setIfInBounds_toArray, List.set_cons_zero, List.set_cons_succ, i64_w, i32_w]
            rfl
          refine last_ (i := 6) (N := none) #[true, true, true, true, true, true, true] rfl rfl (by kernel_rfl) (by decide) (fun K hK => ?_)
          refine wg_store_step (by rfl) (by rfl) 26 (.tmp 2) (.tmp 96) rfl (.agg (wgcells (wgopt cur (q : Int) bb) (.slice A' (wgopt cur (q : Int) bb).f13.length c') (.slice A14 n14 c14))) _ g 26 _ (by rfl) (by rfl) (by rfl) (by kernel_rfl) (by rfl) (blk_below (blk_drew HG5.out) hbb1) (by rfl) ?_
          intro w5 h5 hg5
          refine hK.out _ _ ?_
          clear hK K
          refine done_ (by kernel_rfl) ?_
          have HG49 := Lib.hid (blk_grown (blk_below (blk_drew HG45.out) hbb1) hg5 (fun e => hne (Option.some.inj e)))
          have HSN9 := Lib.hid (((HSN5.out.drew).below hbb1).grown hg5 hne2)
          have HB9 := Lib.hid (show Below w.heap.size w w5 from hb1.grown hg5 hb1.size (fun k hk => by cases hk; exact HWG.out))
          have HR9 := Lib.hid (wg_R_store hr1 (blk_below (blk_drew HG5.out) hbb1) (by decide) hg5)
          have HG9 := Lib.hid h5
          have HK1' := Lib.hid hk1
          clear hr1 hb1 hbb1 hk1 h5 hg5
          go_wp2
          go_roundg (gk - 1)
          case measure => have := H2.out; have := HM.out; omega
          case rel =>
            have e1 := HL3.out
            refine ⟨A3, c1 - m, bk.drop m, wgopt cur (q : Int) bb, (q : Int) :: seen, A', c', by rw [e1]; have := HM.out; have := HN2.out; omega, by rw [e1], by rw [e1]; exact hc3, Lib.hid (fun x hx => HBK.out x (List.mem_of_mem_drop hx)), HR3, HG9, HG49, HSN9, HB9, Lib.hid ?_, HR9, Lib.hid ?_, Lib.hid (by rw [e1]; have := HL.out; omega)⟩
            · have h := wgrd_opt cur seen bk (q : Int) m HKD.out HNN.out HZ.out HK0.out HK1.out H2.out HN2.out HNBL.out HOK.out HSNN.out
              rw [Int.toNat_natCast, HBB2.out] at h
              exact h.symm.trans HE.out
            · intro hc5
              rw [List.contains_cons] at hc5
              have hc6 := Bool.or_eq_false_iff.1 hc5
              have hq5 : (q : Int) ≠ 5 := fun e => by rw [e] at hc6; exact absurd hc6.1 (by decide)
              obtain ⟨ha, hc, hf⟩ := HK1'.out hq5
              obtain ⟨ha2, hc2, hf2⟩ := HQ5.out hc6.2
              exact ⟨ha.trans ha2, hc.trans hc2, hf.trans hf2⟩
      have e2 : (kd == 2) = false := beq_false_of_ne k2
      have e3 : (kd == 3) = false := beq_false_of_ne k3
      have e4 : (kd == 4) = false := beq_false_of_ne k4
      have e5 : (kd == 5) = false := beq_false_of_ne k5
      have e8 : (kd == 8) = false := beq_false_of_ne k8
      have HKN := Lib.hid (show wgknown kd = false from by unfold wgknown; rw [e2, e3, e4, e8, e5]; rfl)
      go_upto_region 10 with (fail)
      have hkb := HKB.out
      obtain ⟨q, rfl⟩ : ∃ q : Nat, kd = q := ⟨kd.toNat, by omega⟩
      have hq : q < 256 := by omega
      obtain ⟨cs, fs⟩ := HSN.out.cell q hq
      have HSNN := Lib.hid (show (wgknown (q : Int) && seen.contains (q : Int)) = false from by rw [HKN.out, Bool.false_and])
      obtain ⟨sv, hsv⟩ : ∃ sv : Int, (if seen.contains (q : Int) then (1 : Int) else 0) = sv := ⟨_, rfl⟩
      rw [hsv] at cs
      clear hsv
      go_upto_region 13 with (fail)
      obtain ⟨arr, hsa, _⟩ := HSN.out
      have HR5 := Lib.hid (Kd.R_set HR.out hsa (by decide) q (.int .i64 1))
      have HG5 := Lib.hid (blk_far HG.out (p := ⟨sb, q, none⟩) (Ne.symm hne2) (.int .i64 1))
      have HG45 := Lib.hid (blk_far HG4.out (p := ⟨sb, q, none⟩) hne3 (.int .i64 1))
      have HSN5 := Lib.hid (HSN.out.put q hq)
      have HB5 := Lib.hid (HB.out.setCell (p := ⟨sb, q, none⟩) (Nat.le_trans HWG.out hge2) (.int .i64 1))
      generalize wd.setCell ⟨sb, q, none⟩ (.int .i64 1) = W5 at HR5 HG5 HG45 HSN5 HB5 ⊢
      have h5q : (q : Int) = 5 → A13 = none ∧ c13 = 0 ∧ cur.f13 = [] := fun e => H5.out (by have h := HSNN.out; rw [e] at h; exact h)
      have KO := Lib.hid (fun (W : World) (hB : Below W5.heap.size W5 W) => K.out (q : Int) W HOK.out h5q (below_step HB5.out hB) (Kd.R_below HR5.out hB))
      have HQ5 := Lib.hid (show seen.contains 5 = false → A13 = none ∧ c13 = 0 ∧ cur.f13 = [] from H5.out)
      clear hsa cs fs HSN HG HG4 HB HR h5q
      refine start_ (n := 7) (S := fun w' => w'.heap[g]? = some (.cells (wgcells cur (.slice A13 cur.f13.length c13) (.slice A14 n14 c14)) 26 (0, 0))) (ds := [6]) #[false, false, false, false, false, false, false] (by kernel_rfl) rfl rfl ((blk_drew HG5.out)) (fun hHeld => ?_)
      refine pure_ (i := 1) (N := some 92) (v := ?_) (a' := ?_) #[false, true, false, false, false, false, false] rfl rfl (by kernel_rfl) (fun _ _ _ h => h) (Or.inl ⟨by rfl, ?_⟩) ?_ ?_
      rotate_left
      · intro w'
        go_simp
        with_reducible rfl
      rotate_left
      · simp only [Act.put, List.setIfInBounds_toArray, List.set_cons_zero, List.set_cons_succ, i64_w, i32_w]
        rfl
      refine pure_ (i := 2) (N := some 93) (v := ?_) (a' := ?_) #[false, true, true, false, false, false, false] rfl rfl (by kernel_rfl) (fun _ _ _ h => h) (Or.inl ⟨by rfl, ?_⟩) ?_ ?_
      rotate_left
      · intro w'
        go_simp
        with_reducible rfl
      rotate_left
      · simp only [Act.put, List.setIfInBounds_toArray, List.set_cons_zero, List.set_cons_succ, i64_w, i32_w]
        rfl
      refine pure_ (i := 3) (N := some 94) (v := ?_) (a' := ?_) #[false, true, true, true, false, false, false] rfl rfl (by kernel_rfl) (fun _ _ _ h => h) (Or.inl ⟨by rfl, ?_⟩) ?_ ?_
      rotate_left
      · intro w'
        go_simp
        with_reducible rfl
      rotate_left
      · simp only [Act.put, List.setIfInBounds_toArray, List.set_cons_zero, List.set_cons_succ, i64_w, i32_w]
        rfl
      refine pure_ (i := 4) (N := some 95) (v := ?_) (a' := ?_) #[false, true, true, true, true, false, false] rfl rfl (by kernel_rfl) (fun _ _ _ h => h) (Or.inl ⟨by rfl, ?_⟩) ?_ ?_
      rotate_left
      · intro w'
        go_simp
        with_reducible rfl
      rotate_left
      · simp only [Act.put, List.setIfInBounds_toArray, List.set_cons_zero, List.set_cons_succ, i64_w, i32_w]
        rfl
      refine take_ (i := 0) (N := some 91) (v := .agg (wgcells cur (.slice A13 cur.f13.length c13) (.slice A14 n14 c14))) (a' := ?_) #[true, true, true, true, true, false, false] rfl rfl (by kernel_rfl) (fun _ _ _ h => h) (wb_take (by rfl) (.tmp 2) rfl g rfl cur _ _ (fun w' h => h)) hHeld ?_ ?_
      rotate_left
      · simp only [Act.put, List.setIfInBounds_toArray, List.set_cons_zero, List.set_cons_succ, i64_w, i32_w]
        rfl
      refine one_ (i := 5) (N := some 96) #[true, true, true, true, true, true, false] rfl rfl (by kernel_rfl) (by decide) (fun K hK => ?_)
      refine goes_ Try.func35 (by kernel_rfl) rfl #[.agg (wgcells cur (.slice A13 cur.f13.length c13) (.slice A14 n14 c14)), .int .u8 (q : Int), .slice A2 (m - 2) (c1 - 2)] (by rfl) rfl rfl (by simp only [List.map_toArray, List.map_cons, List.map_nil]; rfl) ?_
      with_reducible refine (KO.out _ (by exact below_drew1 (Below.refl W5.heap.size W5))).mono ?_
      rintro e u1 ⟨A', c', rfl, hr1, hb1, hbb1, hk1⟩
      refine ⟨_, rfl, ?_⟩
      refine hK.out _ _ ((blk_below (blk_drew HG5.out) hbb1)) (fun hHeld => ?_)
      clear hK K
      refine norm_ (a' := ?_) ?_ ?_
      rotate_left
      · show Act.put _ (some 96) _ = _
        simp only [Act.put, List.setIfInBounds_toArray, List.set_cons_zero, List.set_cons_succ, i64_w, i32_w]
        rfl
      refine last_ (i := 6) (N := none) #[true, true, true, true, true, true, true] rfl rfl (by kernel_rfl) (by decide) (fun K hK => ?_)
      refine wg_store_step (by rfl) (by rfl) 26 (.tmp 2) (.tmp 96) rfl (.agg (wgcells (wgopt cur (q : Int) bb) (.slice A' (wgopt cur (q : Int) bb).f13.length c') (.slice A14 n14 c14))) _ g 26 _ (by rfl) (by rfl) (by rfl) (by kernel_rfl) (by rfl) (blk_below (blk_drew HG5.out) hbb1) (by rfl) ?_
      intro w5 h5 hg5
      refine hK.out _ _ ?_
      clear hK K
      refine done_ (by kernel_rfl) ?_
      have HG49 := Lib.hid (blk_grown (blk_below (blk_drew HG45.out) hbb1) hg5 (fun e => hne (Option.some.inj e)))
      have HSN9 := Lib.hid (((HSN5.out.drew).below hbb1).grown hg5 hne2)
      have HB9 := Lib.hid (show Below w.heap.size w w5 from hb1.grown hg5 hb1.size (fun k hk => by cases hk; exact HWG.out))
      have HR9 := Lib.hid (wg_R_store hr1 (blk_below (blk_drew HG5.out) hbb1) (by decide) hg5)
      have HG9 := Lib.hid h5
      have HK1' := Lib.hid hk1
      clear hr1 hb1 hbb1 hk1 h5 hg5
      go_wp2
      go_roundg (gk - 1)
      case measure => have := H2.out; have := HM.out; omega
      case rel =>
        have e1 := HL3.out
        refine ⟨A3, c1 - m, bk.drop m, wgopt cur (q : Int) bb, (q : Int) :: seen, A', c', by rw [e1]; have := HM.out; have := HN2.out; omega, by rw [e1], by rw [e1]; exact hc3, Lib.hid (fun x hx => HBK.out x (List.mem_of_mem_drop hx)), HR3, HG9, HG49, HSN9, HB9, Lib.hid ?_, HR9, Lib.hid ?_, Lib.hid (by rw [e1]; have := HL.out; omega)⟩
        · have h := wgrd_opt cur seen bk (q : Int) m HKD.out HNN.out HZ.out HK0.out HK1.out H2.out HN2.out HNBL.out HOK.out HSNN.out
          rw [Int.toNat_natCast, HBB2.out] at h
          exact h.symm.trans HE.out
        · intro hc5
          rw [List.contains_cons] at hc5
          have hc6 := Bool.or_eq_false_iff.1 hc5
          have hq5 : (q : Int) ≠ 5 := fun e => by rw [e] at hc6; exact absurd hc6.1 (by decide)
          obtain ⟨ha, hc, hf⟩ := HK1'.out hq5
          obtain ⟨ha2, hc2, hf2⟩ := HQ5.out hc6.2
          exact ⟨ha.trans ha2, hc.trans hc2, hf.trans hf2⟩
end Go.Proofs.Ytenpekakmkemeaa.WireG

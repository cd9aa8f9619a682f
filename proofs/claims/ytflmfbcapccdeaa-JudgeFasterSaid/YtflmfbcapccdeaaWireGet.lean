/- wire.Get, walked: which segment bytes are, or what is wrong with them. -/
import Derived.Test.YtflmfbcapccdeaaWireParsed
import Derived.Test.YtflmfbcapccdeaaWireIs
import Derived.Lib.Hide
import Derived.WalkKit
set_option linter.unusedVariables false
set_option linter.unusedSimpArgs false
set_option autoImplicit false
namespace Go.Proofs.Ytflmfbcapccdeaa.WireG
open Go.RowKit Go.Proofs.Ytflmfbcapccdeaa.PA Go.Proofs.YtflmfbcapccdeaaW.PrintWords Go.Proofs.YtflmfbcapccdeaaW.PrintLast Go.Proofs.YtflmfbcapccdeaaW.PrintMore
attribute [local go_sem] max2_int min2_int max_two min_two
/-! ### errno, Get -/
theorem wg_errno_nil (w : World) : Calls Try.prog 56 #[.nilIface] w fun e w' => e = .returned (.int .i64 0) ∧ w = w' := by
  go_enter Try.func56, Try.ntmps56
  go_wp2_with (go_at_call 76; refine (WireIs.is_nil _ _).mono ?_; rintro e w1 ⟨rfl, rfl⟩)
  go_ret
  exact ⟨rfl, rfl⟩
def wgno (why : Int) : Int := if why = 0 then 0 else if why = 1 then 30 else if why = 3 then 32 else 31
theorem wg_errno0 (pb : Nat) (w : World) (h1 : w.cell? ⟨pb, 0, none⟩ = some (.int .i64 0)) :
    Calls Try.prog 56 #[.iface 122 (.pointer (some ⟨pb, 0, none⟩))] w fun e w' => e = .returned (.int .i64 (wgno 0)) ∧ w = w' := by
  go_enter Try.func56, Try.ntmps56
  go_wp2_with (go_at_call 76; refine (WireIs.is_fault pb _ _ _ h1).mono ?_; rintro e w1 ⟨rfl, rfl⟩)
  go_ret
  exact ⟨rfl, rfl⟩
theorem wg_errno (pb : Nat) (why : Int) (w : World) (h1 : w.cell? ⟨pb, 0, none⟩ = some (.int .i64 why)) (hw : why = 1 ∨ why = 2 ∨ why = 3) :
    Calls Try.prog 56 #[.iface 122 (.pointer (some ⟨pb, 0, none⟩))] w fun e w' => e = .returned (.int .i64 (wgno why)) ∧ w = w' := by
  rcases hw with rfl | rfl | rfl
  all_goals
    go_enter Try.func56, Try.ntmps56
    go_wp2_with (go_at_call 76; refine (WireIs.is_fault pb _ _ _ h1).mono ?_; rintro e w1 ⟨rfl, rfl⟩)
    go_ret
    exact ⟨rfl, rfl⟩
theorem wgend_no (b : List Int) (m : Nat) (o : Option S53) : (wgend b m o).2 = 0 ∨ (wgend b m o).2 = 1 ∨ (wgend b m o).2 = 2 ∨ (wgend b m o).2 = 3 := by
  cases o with
  | none => simp [wgend]
  | some s => simp only [wgend]; split <;> simp
theorem wgget_no (v : Bool) (b : List Int) : (wgget v b).2 = 0 ∨ (wgget v b).2 = 1 ∨ (wgget v b).2 = 2 ∨ (wgget v b).2 = 3 := by
  unfold wgget
  split
  · simp
  · unfold wgget1
    split
    · simp
    split
    · simp
    split
    · simp
    exact wgend_no _ _ _
theorem wg_drew_heap (W : World) : W.drew.heap = W.heap := rfl
theorem wg_get_results (tmps : Array Value) (p : Nat) (s : S53) (v d n : Value) (W : World) (e6 : tmps[6]?.getD undef = .pointer (some ⟨p, 0, none⟩)) (e7 : tmps[7]?.getD undef = n) (hh : W.heap[p]? = some (.cells (wgcells s v d) 53 (0, 0))) :
    (results Try.f35 tmps).run Try.prog W = .ok (.tuple #[.agg (wgcells s v d), n]) W := by
  have h1 := run_loadVar_row (P := Try.prog) W p 53 53 _ (0, 0) _ hh Try.underlying53 rfl (by kernel_rfl)
  simp [results, Try.results35, e6, e7, asAddr, h1]
/-- What Get hands back. -/
def WGot (w : World) (r : S53 × Int) (e : Ending) (w' : World) : Prop :=
  Below w.heap.size w w' ∧ ∃ v13 v14, e = .returned (.tuple #[.agg (wgcells r.1 v13 v14), .int .i64 (wgno r.2)]) ∧ Kd.R k112 112 w' w.heap.size (fun _ => True) v13 r.1.f13 ∧ Kd.R (Kd.int .u8) 5 w' w.heap.size (fun _ => True) v14 r.1.f14
set_option maxRecDepth 100000 in
set_option maxHeartbeats 16000000 in
theorem wg_Get (A : Option Addr) (c : Nat) (b : List Int) (src dst : Int) (vd : Bool) (w : World) (hC : Kd.C (Kd.int .u8) w A b.length b) (hc : b.length ≤ c) (hb : wgb b) (hv : sum_Valid.f [four8 src ++ four8 dst ++ [0, 6, ((b.length : Int) / 256) % 256, (b.length : Int) % 256], b] = some vd) :
    Calls Try.prog 35 #[.slice A b.length c, .int .u32 src, .int .u32 dst] w fun e w' => WGot w (wgget vd b) e w' := by
  have hno := wgget_no vd b
  obtain ⟨r, hr⟩ : ∃ r, wgget vd b = r := ⟨_, rfl⟩
  have HR := Lib.hid hr
  have HC := Lib.hid hC; have HC0 := Lib.hid hc; have HBB := Lib.hid hb; have HV := Lib.hid hv
  rw [hr] at hno ⊢
  have HNO := Lib.hid hno
  clear hC hc hb hv hr hno
  go_enter Try.func35, Try.ntmps35
  go_upto_region 1 with (fail)
  obtain ⟨p, hp⟩ : ∃ p, w.heap.size = p := ⟨_, rfl⟩
  have HB1 := Lib.hid (show Below w.heap.size w (w.alloc (.cells #[.int .i64 0, .int .i64 0, .int .u32 0, .int .u32 0, .int .i64 0, .int .i64 0, .int .i64 0, .int .i64 0, .int .i64 0, .bool false, .bool false, .int .u32 0, .int .u32 0, .slice none 0 0, .slice none 0 0] 53)) from (Below.refl _ w).alloc (Nat.le_refl _) _)
  have HP1 := Lib.hid (show (w.alloc (.cells #[.int .i64 0, .int .i64 0, .int .u32 0, .int .u32 0, .int .i64 0, .int .i64 0, .int .i64 0, .int .i64 0, .int .i64 0, .bool false, .bool false, .int .u32 0, .int .u32 0, .slice none 0 0, .slice none 0 0] 53)).heap[p]? = some (.cells (wgcells z53 (.slice none 0 0) (.slice none 0 0)) 53 (0, 0)) from by rw [← hp]; exact blk_new w _)
  rw [hp]
  have HPB := Lib.hid (show w.heap.size ≤ p by omega)
  clear hp
  generalize (w.alloc (.cells #[.int .i64 0, .int .i64 0, .int .u32 0, .int .u32 0, .int .i64 0, .int .i64 0, .int .i64 0, .int .i64 0, .int .i64 0, .bool false, .bool false, .int .u32 0, .int .u32 0, .slice none 0 0, .slice none 0 0] 53)) = W1 at HB1 HP1 ⊢
  go_upto_region 2 with (first
    | (go_at_call 55; refine (wg_parsed A c b src dst vd W1 (Kd.C_below HC.out HB1.out) HC0.out HBB.out HV.out).mono ?_; rintro e w2 ⟨hb2, v13, v14, er, rfl, hR13, hR14, hE⟩; rw [HR.out] at hR13 hR14 hE; rw [HR.out]; obtain ⟨A13, c13, e13⟩ := Kd.R_slice hR13; obtain ⟨A14, c14, e14⟩ := Kd.R_slice hR14; subst e13; subst e14; have HR13 := Lib.hid hR13; have HR14 := Lib.hid hR14; have HEE := Lib.hid hE; have HB2 := Lib.hid hb2; clear hR13 hR14 hE hb2)
    | (refine gate_ (.store 53 (.tmp 8) (.tmp 15)) rfl ?_; refine wg_store_op rfl rfl 53 (.tmp 8) (.tmp 15) rfl _ _ _ 53 _ rfl rfl rfl (by kernel_rfl) rfl (blk_new w2 _) rfl ?_; intro w3 h3 hg3))
  have hlt2 : p < w2.heap.size := Nat.lt_of_lt_of_le (Array.getElem?_eq_some_iff.1 HP1.out).1 HB2.out.size
  obtain ⟨g, hgg⟩ : ∃ g, w2.heap.size = g := ⟨_, rfl⟩
  have HP3 := Lib.hid (blk_grown (blk_alloc (blk_below HP1.out HB2.out) _) hg3 (fun e => by have := Option.some.inj e; omega))
  have HB3 := Lib.hid (show Below w.heap.size w w3 from ((below_step HB1.out HB2.out).alloc (Below.size (below_step HB1.out HB2.out)) _).grown hg3 (by have h_ := Below.size (below_step HB1.out HB2.out); rw [World.size_alloc]; omega) (fun k hk => by have h_ := Below.size (below_step HB1.out HB2.out); cases hk; exact h_))
  have HBB3 := Lib.hid (show Below w2.heap.size w2 w3 from ((Below.refl _ w2).alloc (Nat.le_refl _) _).grown hg3 (by simp) (fun k hk => by cases hk; exact Nat.le_refl _))
  have r13 := Kd.R_below HR13.out HBB3.out
  have r14 := Kd.R_below HR14.out HBB3.out
  have he3 : r.2 = 0 ∧ er = .nilIface ∨ ∃ pb, er = .iface 122 (.pointer (some ⟨pb, 0, none⟩)) ∧ w3.cell? ⟨pb, 0, none⟩ = some (.int .i64 r.2) := by
    rcases HEE.out with h | ⟨pb, h1, h2⟩
    · exact .inl h
    · exact .inr ⟨pb, h1, (HBB3.out.cell (World.block_lt_of_cell? w2 _ h2)).trans h2⟩
  have KE := Lib.hid (fun (W : World) (hW : W.heap = w3.heap) => show Calls Try.prog 56 #[er] W (fun e w' => e = .returned (.int .i64 (wgno r.2)) ∧ W = w') from by
    rcases he3 with ⟨h0, rfl⟩ | ⟨pb, rfl, h2⟩
    · rw [h0]; exact wg_errno_nil W
    · have h3 : W.cell? ⟨pb, 0, none⟩ = some (.int .i64 r.2) := by unfold World.cell? at h2 ⊢; rw [hW]; exact h2
      rcases HNO.out with h0 | h0
      · rw [h0] at h3 ⊢; exact wg_errno0 pb W h3
      · exact wg_errno pb _ W h3 h0)
  rw [hgg] at h3 ⊢
  have H3 := Lib.hid h3; have HG3 := Lib.hid (show p ≠ g from by omega)
  have HR13' := Lib.hid (Kd.R_lower r13 HB1.out.size); have HR14' := Lib.hid (Kd.R_lower r14 HB1.out.size)
  clear h3 hg3 hgg hlt2 r13 r14 he3 HR13 HR14 HEE HNO
  refine start_ (n := 5) (S := fun w' => w'.cell? ⟨g, 0, none⟩ = some (.int .i64 r.1.f0) ∧ w'.cell? ⟨g, 1, none⟩ = some (.int .i64 r.1.f1) ∧ w'.cell? ⟨g, 2, none⟩ = some (.int .u32 r.1.f2) ∧ w'.cell? ⟨g, 3, none⟩ = some (.int .u32 r.1.f3) ∧ w'.cell? ⟨g, 4, none⟩ = some (.int .i64 r.1.f4) ∧ w'.cell? ⟨g, 5, none⟩ = some (.int .i64 r.1.f5) ∧ w'.cell? ⟨g, 6, none⟩ = some (.int .i64 r.1.f6) ∧ w'.cell? ⟨g, 7, none⟩ = some (.int .i64 r.1.f7) ∧ w'.cell? ⟨g, 8, none⟩ = some (.int .i64 r.1.f8) ∧ w'.cell? ⟨g, 9, none⟩ = some (.bool r.1.f9) ∧ w'.cell? ⟨g, 10, none⟩ = some (.bool r.1.f10) ∧ w'.cell? ⟨g, 11, none⟩ = some (.int .u32 r.1.f11) ∧ w'.cell? ⟨g, 12, none⟩ = some (.int .u32 r.1.f12) ∧ w'.cell? ⟨g, 13, none⟩ = some (.slice A13 r.1.f13.length c13) ∧ w'.cell? ⟨g, 14, none⟩ = some (.slice A14 r.1.f14.length c14)) (ds := [3]) #[false, false, false, false, false] (by kernel_rfl) rfl rfl ⟨((blk_cell H3.out 0).trans rfl), ((blk_cell H3.out 1).trans rfl), ((blk_cell H3.out 2).trans rfl), ((blk_cell H3.out 3).trans rfl), ((blk_cell H3.out 4).trans rfl), ((blk_cell H3.out 5).trans rfl), ((blk_cell H3.out 6).trans rfl), ((blk_cell H3.out 7).trans rfl), ((blk_cell H3.out 8).trans rfl), ((blk_cell H3.out 9).trans rfl), ((blk_cell H3.out 10).trans rfl), ((blk_cell H3.out 11).trans rfl), ((blk_cell H3.out 12).trans rfl), ((blk_cell H3.out 13).trans rfl), ((blk_cell H3.out 14).trans rfl)⟩ (fun hHeld => ?_)
  refine pure_ (i := 1) (N := some 18) (v := ?_) (a' := ?_) #[false, true, false, false, false] rfl rfl (by kernel_rfl) (fun _ _ _ h => h) (Or.inl ⟨by rfl, ?_⟩) ?_ ?_
  rotate_left
  · intro w'
    go_simp
    with_reducible rfl
  rotate_left
  · simp only [Act.put, List.setIfInBounds_toArray, List.set_cons_zero, List.set_cons_succ, i64_w, i32_w]
    rfl
  refine take_ (i := 0) (N := some 17) (v := ?_) (a' := ?_) #[true, true, false, false, false] rfl rfl (by kernel_rfl) (fun _ _ _ h => h) (Or.inl ⟨by rfl, ?_⟩) hHeld ?_ ?_
  rotate_left
  · rintro w' ⟨s0, s1, s2, s3, s4, s5, s6, s7, s8, s9, s10, s11, s12, s13, s14⟩
    go_simp
    with_reducible rfl
  rotate_left
  · simp only [Act.put, List.setIfInBounds_toArray, List.set_cons_zero, List.set_cons_succ, i64_w, i32_w]
    rfl
  refine one_ (i := 2) (N := some 19) #[true, true, true, false, false] rfl rfl (by kernel_rfl) (by decide) (fun K hK => ?_)
  refine goes_ Try.func56 (by kernel_rfl) rfl #[er] (by rfl) rfl rfl (by simp only [List.map_toArray, List.map_cons, List.map_nil]; rfl) ?_
  with_reducible refine (KE.out _ (wg_drew_heap _)).mono ?_
  rintro e w7 ⟨rfl, rfl⟩
  refine ⟨_, rfl, ?_⟩
  refine hK.out _ _ ⟨hHeld.1, hHeld.2.1, hHeld.2.2.1, hHeld.2.2.2.1, hHeld.2.2.2.2.1, hHeld.2.2.2.2.2.1, hHeld.2.2.2.2.2.2.1, hHeld.2.2.2.2.2.2.2.1, hHeld.2.2.2.2.2.2.2.2.1, hHeld.2.2.2.2.2.2.2.2.2.1, hHeld.2.2.2.2.2.2.2.2.2.2.1, hHeld.2.2.2.2.2.2.2.2.2.2.2.1, hHeld.2.2.2.2.2.2.2.2.2.2.2.2.1, hHeld.2.2.2.2.2.2.2.2.2.2.2.2.2.1, hHeld.2.2.2.2.2.2.2.2.2.2.2.2.2.2⟩ (fun hHeld => ?_)
  clear hK K
  refine norm_ (a' := ?_) ?_ ?_
  rotate_left
  · show Act.put _ (some 19) _ = _
    simp only [Act.put, List.setIfInBounds_toArray, List.set_cons_zero, List.set_cons_succ, i64_w, i32_w]
    rfl
  refine last_ (i := 3) (N := none) #[true, true, true, true, false] rfl rfl (by kernel_rfl) (by decide) (fun K hK => ?_)
  refine wg_store_step (by rfl) (by rfl) 53 (.tmp 6) (.tmp 17) rfl (.agg #[.int .i64 r.1.f0, .int .i64 r.1.f1, .int .u32 r.1.f2, .int .u32 r.1.f3, .int .i64 r.1.f4, .int .i64 r.1.f5, .int .i64 r.1.f6, .int .i64 r.1.f7, .int .i64 r.1.f8, .bool r.1.f9, .bool r.1.f10, .int .u32 r.1.f11, .int .u32 r.1.f12, .slice A13 r.1.f13.length c13, .slice A14 r.1.f14.length c14]) _ p 53 _ (by rfl) (by rfl) (by rfl) (by kernel_rfl) (by rfl) (by repeat (first | exact HP3.out | with_reducible refine blk_drew ?_ | with_reducible refine blk_drewN ?_ _)) (by rfl) ?_
  intro w5 h5 hg5
  refine hK.out _ _ ?_
  clear hK K
  refine pure_ (i := 4) (N := some 7) (v := ?_) (a' := ?_) #[true, true, true, true, true] rfl rfl (by kernel_rfl) (fun _ _ _ h => h) (Or.inl ⟨by rfl, ?_⟩) ?_ ?_
  rotate_left
  · intro w'
    go_simp
    with_reducible rfl
  rotate_left
  · simp only [Act.put, List.setIfInBounds_toArray, List.set_cons_zero, List.set_cons_succ, i64_w, i32_w]
    rfl
  refine done_ (by kernel_rfl) ?_
  have b5 : Below w.heap.size w w5 := Below.grown (w := _) (by repeat (first | exact HB3.out | with_reducible apply below_drew1 | with_reducible refine pw_below_drewN ?_ _)) hg5 (by have h_ := Below.size HB3.out; exact h_) (fun k hk => by cases hk; exact HPB.out)
  have s13 := wg_R_store (W := w3.drew) (Kd.R_drew HR13'.out) HP3.out (by decide) hg5
  have s14 := wg_R_store (W := w3.drew) (Kd.R_drew HR14'.out) HP3.out (by decide) hg5
  have H5 := Lib.hid (show w5.heap[p]? = some (.cells (wgcells r.1 (.slice A13 r.1.f13.length c13) (.slice A14 r.1.f14.length c14)) 53 (0, 0)) from h5)
  have B5 := Lib.hid b5; have S13 := Lib.hid s13; have S14 := Lib.hid s14
  clear h5 b5 s13 s14 hg5 hHeld
  go_wp2
  refine bodyPost_ret (wg_get_results _ p r.1 _ _ _ w5 rfl rfl H5.out) rfl ?_
  exact ⟨B5.out, _, _, rfl, S13.out, S14.out⟩
end Go.Proofs.Ytflmfbcapccdeaa.WireG

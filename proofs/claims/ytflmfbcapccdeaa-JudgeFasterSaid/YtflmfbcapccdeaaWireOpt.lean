/- wire.must and wire.option, walked: what each option makes of a segment. -/
import Derived.Test.YtflmfbcapccdeaaPAx22
import Derived.Test.YtflmfbcapccdeaaPAx22
import Derived.Test.YtflmfbcapccdeaaPAx19
import Derived.Lib.Hide
import Derived.WalkKit
import Derived.Maps.OwnSet
import Derived.Maps.Views
import Derived.Deep.RegionHeld3
import Derived.Laws.BitsAllLaws
set_option linter.unusedVariables false
set_option linter.unusedSimpArgs false
set_option autoImplicit false
namespace Go.Proofs.Ytflmfbcapccdeaa.WireG
open Go.RowKit Go.Proofs.Ytflmfbcapccdeaa.PA Go.Proofs.YtflmfbcapccdeaaW.PrintWords Go.Proofs.YtflmfbcapccdeaaW.PrintLast Go.Proofs.YtflmfbcapccdeaaW.PrintMore
attribute [local go_sem] max2_int min2_int max_two min_two
theorem wg_must_true (k : Int) (w : World) : Calls Try.prog 72 #[.bool true, .int .i64 k] w fun e w' => e = .returned (.tuple #[]) ∧ w = w' := by
  go_enter Try.func72, Try.ntmps72
  go_wp2
  go_end0
  exact ⟨rfl, rfl⟩
theorem wg_must_false (k : Int) (w : World) : Calls Try.prog 72 #[.bool false, .int .i64 k] w fun e w' => e = .panicked [{ v := .iface 122 (.pointer (some ⟨w.heap.size, 0, none⟩)), recovered := false }] ∧ w' = w.alloc (.cells #[.int .i64 k] 144) := by
  go_enter Try.func72, Try.ntmps72
  go_wp2
  exact ⟨rfl, rfl, rfl⟩
/-! ### numbers of bytes -/
def wgb (l : List Int) : Prop := ∀ c ∈ l, 0 ≤ c ∧ c ≤ 255
def wgs (n c : Int) : Int := Go.bits .or .u32 ((n * 256) % 4294967296) (c % 4294967296)
def wgn (l : List Int) : Int := l.foldl wgs 0
theorem wg_w64 {n : Int} (h0 : -9223372036854775808 ≤ n) (h1 : n ≤ 9223372036854775807) : wrap64 n = n := by unfold wrap64; omega
theorem wgs_eq {n c : Int} (h0 : 0 ≤ n) (c0 : 0 ≤ c) (c1 : c ≤ 255) : wgs n c = (n * 256) % 4294967296 + c := by
  unfold wgs
  rw [show c % 4294967296 = c by omega]
  exact bits_join .u32 32 (by decide) (fun n h0 h1 => by simp [IntKind.wrap, IntKind.bits, IntKind.signed]; omega) 8 ((n * 256) % 4294967296) c (by omega) (by omega) (by omega) (by omega) (by omega) (by omega)
theorem wgs_bd {n c : Int} (h0 : 0 ≤ n) (c0 : 0 ≤ c) (c1 : c ≤ 255) : 0 ≤ wgs n c ∧ wgs n c ≤ 4294967295 := by rw [wgs_eq h0 c0 c1]; omega
theorem wgf_bd : ∀ (l : List Int) (n : Int), 0 ≤ n → n ≤ 4294967295 → wgb l → 0 ≤ l.foldl wgs n ∧ l.foldl wgs n ≤ 4294967295
  | [], n, h0, h1, _ => ⟨h0, h1⟩
  | c :: l, n, h0, h1, h => by
    have hc := h c List.mem_cons_self
    have := wgs_bd h0 hc.1 hc.2
    exact wgf_bd l _ this.1 this.2 (fun x hx => h x (List.mem_cons_of_mem _ hx))
theorem wgn_bd {l : List Int} (h : wgb l) : 0 ≤ wgn l ∧ wgn l ≤ 4294967295 := wgf_bd l 0 (by omega) (by omega) h
theorem wg_get_l (l : List Int) (hl : l.length ≤ 9223372036854775806) : ∀ (d i k : Nat) (n : Int), l.length - i = d → i ≤ l.length → d < k → wire_get.l0 k n l (l.length : Int) (i : Int) = some ((l.drop i).foldl wgs n) := by
  intro d
  induction d with
  | zero =>
    intro i k n hd hi hk
    obtain ⟨k, rfl⟩ : ∃ j, k = j + 1 := ⟨k - 1, by omega⟩
    rw [wire_get.l0, if_neg (by omega), List.drop_of_length_le (by omega)]; rfl
  | succ d ih =>
    intro i k n hd hi hk
    obtain ⟨k, rfl⟩ : ∃ j, k = j + 1 := ⟨k - 1, by omega⟩
    have hlt : i < l.length := by omega
    rw [wire_get.l0, if_pos (by omega), if_pos (by omega), if_pos (by omega), wg_w64 (by omega) (by omega), show ((i : Int) + 1) = ((i + 1 : Nat) : Int) by rfl, ih (i + 1) k _ (by omega) (by omega) (by omega), List.drop_eq_getElem_cons hlt, List.foldl_cons]
    have hr : rd l (i : Int) = l[i] := by rw [rd, Int.toNat_natCast, List.getD_eq_getElem?_getD, List.getElem?_eq_getElem hlt]; rfl
    rw [hr]; rfl
theorem wg_get (l : List Int) (hl : l.length ≤ 9223372036854775806) : wire_get.f (l.length + 1) l = some (wgn l) := by
  have := wg_get_l l hl l.length 0 (l.length + 1) 0 (by omega) (by omega) (by omega)
  exact this
/-! ### options -/
def wgblocks : Nat → List Int → List S112
  | 0, _ => []
  | k + 1, b => if b.length = 0 then [] else ⟨wgn (b.take 4), wgn ((b.take 8).drop 4)⟩ :: wgblocks k (b.drop 8)
theorem wgblocks_up : ∀ (k : Nat) (b : List Int), b.length < k → wgblocks k b = wgblocks (b.length + 1) b
  | 0, _, h => by omega
  | k + 1, b, h => by
    by_cases hz : b.length = 0
    · rw [wgblocks, if_pos hz, wgblocks, if_pos hz]
    · rw [wgblocks, if_neg hz, wgblocks, if_neg hz]
      have hd : (b.drop 8).length < b.length := by rw [List.length_drop]; omega
      rw [wgblocks_up k _ (by omega), wgblocks_up b.length _ hd]
theorem wg_info : (Try.prog.info? 112).map (fun i => (i.zero, i.size, i.bytes)) = some (some (.agg #[.int .u32 0, .int .u32 0]), 2, 8) := by kernel_rfl
def wgopt (s : S53) (kind : Int) (b : List Int) : S53 :=
  if kind = 2 then { s with f7 := wgn b }
  else if kind = 3 then { s with f8 := mn (b.getD 0 0) 14 }
  else if kind = 4 then { s with f9 := true }
  else if kind = 8 then { s with f10 := true, f11 := wgn (b.take 4), f12 := wgn (b.drop 4) }
  else if kind = 5 then { s with f13 := s.f13 ++ wgblocks (b.length + 1) b }
  else s
def wgcells (s : S53) (v d : Value) : Array Value := #[.int .i64 s.f0, .int .i64 s.f1, .int .u32 s.f2, .int .u32 s.f3, .int .i64 s.f4, .int .i64 s.f5, .int .i64 s.f6, .int .i64 s.f7, .int .i64 s.f8, .bool s.f9, .bool s.f10, .int .u32 s.f11, .int .u32 s.f12, v, d]
def Wgs (W : World) (base g : Nat) (s : S53) (d : Value) : Prop := base ≤ g ∧ ∃ v, W.heap[g]? = some (.cells (wgcells s v d) 53 (0, 0)) ∧ Kd.R k112 112 W base (fun _ => True) v s.f13
/-- Maps stay what they are. -/
def WKM (w w' : World) : Prop := ∀ (k : Nat) (es : Array MapEntry) (cl : Nat), w.heap[k]? = some (.map es cl) → w'.heap[k]? = some (.map es cl)
theorem WKM.refl (w : World) : WKM w w := fun _ _ _ h => h
theorem WKM.trans {a b c : World} (h : WKM a b) (k : WKM b c) : WKM a c := fun i es cl e => k i es cl (h i es cl e)
theorem WKM.drewN {a b : World} (h : WKM a b) (n : Nat) : WKM a (b.drewN n) := h
theorem WKM.drew {a b : World} (h : WKM a b) : WKM a b.drew := h
theorem WKM.alloc {a b : World} (h : WKM a b) (o : Obj) : WKM a (b.alloc o) := fun i es cl e => by
  have h1 := h i es cl e
  exact (Below.heap_alloc b o i (Array.getElem?_eq_some_iff.1 h1).1).trans h1
theorem WKM.setCell {a b : World} (h : WKM a b) (p : Addr) (u : Value) : WKM a (b.setCell p u) := fun i es cl e => by
  have h1 := h i es cl e
  simp only [World.setCell, Array.getElem?_modify]
  split
  · rw [h1]; rfl
  · exact h1
theorem WKM.grown {a b c : World} {row : Option Nat} (h : WKM a b) (hg : b.grownBy c row) (hr : ∀ k, row = some k → ∃ cells t z, b.heap[k]? = some (.cells cells t z)) : WKM a c := fun i es cl e => by
  have h1 := h i es cl e
  refine (hg.block i (Array.getElem?_eq_some_iff.1 h1).1 (fun e2 => ?_)).trans h1
  obtain ⟨cells, t, z, h2⟩ := hr i e2.symm
  rw [h1] at h2; cases h2
/-- Errors' variables stay what they are. -/
def WKE (w w' : World) : Prop := ∀ (k : Nat) (cs : Array Value), w.heap[k]? = some (.cells cs 100 (0, 0)) → w'.heap[k]? = some (.cells cs 100 (0, 0))
theorem WKE.refl (w : World) : WKE w w := fun _ _ h => h
theorem WKE.trans {a b c : World} (h : WKE a b) (k : WKE b c) : WKE a c := fun i cs e => k i cs (h i cs e)
theorem WKE.alloc {a b : World} (h : WKE a b) (o : Obj) : WKE a (b.alloc o) := fun i cs e => by
  have h1 := h i cs e
  exact (Below.heap_alloc b o i (Array.getElem?_eq_some_iff.1 h1).1).trans h1
theorem WKE.grown {a b c : World} {row : Option Nat} (h : WKE a b) (hg : b.grownBy c row) (hr : ∀ k, row = some k → ∀ cs, b.heap[k]? ≠ some (.cells cs 100 (0, 0))) : WKE a c := fun i cs e => by
  have h1 := h i cs e
  exact (hg.block i (Array.getElem?_eq_some_iff.1 h1).1 (fun e2 => hr i e2.symm cs h1)).trans h1
def WKX (w w' : World) : Prop := WKM w w' ∧ WKE w w'
theorem WKX.refl (w : World) : WKX w w := ⟨WKM.refl w, WKE.refl w⟩
theorem WKX.drewN {a b : World} (h : WKX a b) (n : Nat) : WKX a (b.drewN n) := h
theorem WKX.drew {a b : World} (h : WKX a b) : WKX a b.drew := h
theorem WKX.setCell {a b : World} (h : WKX a b) (p : Addr) (u : Value) (hp : ∃ cs, b.heap[p.block]? = some (.cells cs 53 (0, 0))) : WKX a (b.setCell p u) := ⟨h.1.setCell p u, fun i cs e => by
  have h1 := h.2 i cs e
  obtain ⟨cs', h2⟩ := hp
  exact (Below.heap_setCell b p u i (fun e => by rw [← e, h1] at h2; cases h2)).trans h1⟩
theorem WKX.grown {a b c : World} {row : Option Nat} (h : WKX a b) (hg : b.grownBy c row) (hr : ∀ k, row = some k → ∃ cells, b.heap[k]? = some (.cells cells 112 (0, 0))) : WKX a c :=
  ⟨h.1.grown hg (fun k hk => by obtain ⟨cs, hc⟩ := hr k hk; exact ⟨cs, _, _, hc⟩), h.2.grown hg (fun k hk cs hc => by obtain ⟨cs', hc'⟩ := hr k hk; rw [hc] at hc'; cases hc')⟩
theorem wg_ty_set {W : World} {g : Nat} (h : ∃ cs, W.heap[g]? = some (.cells cs 53 (0, 0))) (i : Nat) (u : Value) : ∃ cs, (W.setCell ⟨g, i, none⟩ u).heap[g]? = some (.cells cs 53 (0, 0)) := by
  obtain ⟨cs, h⟩ := h
  exact ⟨_, blk_set h i u⟩
theorem wgcells_ext {cs cs' : Array Value} {W : World} {g : Nat} {t : TypeId} (h : W.heap[g]? = some (.cells cs t (0, 0))) (e : cs = cs') : W.heap[g]? = some (.cells cs' t (0, 0)) := by rw [← e]; exact h
theorem Wgs.ty {W : World} {base g : Nat} {s : S53} {d : Value} (h : Wgs W base g s d) : ∃ cs, W.heap[g]? = some (.cells cs 53 (0, 0)) := by
  obtain ⟨hb, v, hh, hR⟩ := h
  exact ⟨_, hh⟩
theorem Wgs.draw {W : World} {base g : Nat} {s : S53} {d : Value} (h : Wgs W base g s d) (n : Nat) : Wgs (W.drewN n) base g s d := by
  obtain ⟨hb, v, hh, hR⟩ := h
  exact ⟨hb, v, hh, Kd.R_drewN hR n⟩
theorem Wgs.setc {W : World} {base g : Nat} {s s' : S53} {d : Value} (h : Wgs W base g s d) (i : Nat) (u : Value) (e : ∀ v, (wgcells s v d).setIfInBounds i u = wgcells s' v d) (e13 : s'.f13 = s.f13) : Wgs (W.setCell ⟨g, i, none⟩ u) base g s' d := by
  obtain ⟨hb, v, hh, hR⟩ := h
  exact ⟨hb, v, wgcells_ext (blk_set hh i u) (e v), by rw [e13]; exact Kd.R_set hR hh (by decide) i u⟩
theorem Wgs.cell {W : World} {base g : Nat} {s : S53} {d : Value} (h : Wgs W base g s d) (i : Nat) {u : Value} (e : ∀ v, (wgcells s v d)[i]? = some u) : W.cell? ⟨g, i, none⟩ = some u := by
  obtain ⟨hb, v, hh, hR⟩ := h
  exact (blk_cell hh i).trans (e v)
theorem Wgs.fz {W : World} {base g : Nat} {s : S53} {d : Value} (h : Wgs W base g s d) (i : Nat) : W.frozen? ⟨g, i, none⟩ = false := by
  obtain ⟨hb, v, hh, hR⟩ := h
  exact blk_frozen hh i
set_option maxHeartbeats 1000000 in
theorem wg_opt2 (g base : Nat) (s : S53) (d : Value) (A : Option Addr) (c : Nat) (b : List Int) (w : World) (hs : Wgs w base g s d) (hC : Kd.C (Kd.int .u8) w A b.length b) (hc : b.length ≤ c) (hb : wgb b) (hl : b.length ≤ 300) :
    Calls Try.prog 94 #[.pointer (some ⟨g, 0, none⟩), .int .u8 2, .slice A b.length c] w fun e w' => e = .returned (.tuple #[]) ∧ Wgs w' base g (wgopt s 2 b) d ∧ WKX w w' ∧ Below base w w' := by
  have HG := Lib.hid (wg_get b (by omega))
  have hbd := wgn_bd hb
  obtain ⟨n, hn⟩ : ∃ n, wgn b = n := ⟨_, rfl⟩
  rw [hn] at HG hbd
  have hw : wrap64 n = n := wg_w64 (by omega) (by omega)
  have HC := Lib.hid hC; have HS := Lib.hid hs; have HN := Lib.hid hn
  have hcell := hs.cell 7 (fun _ => rfl)
  have hfz := hs.fz 7
  clear hC hs hl hb hbd hn
  go_enter Try.func94, Try.ntmps94
  go_wp2_with (go_at_call 74; refine (wire_get.calls _ _ _ _ _ _ HC.out hc HG.out).mono ?_; rintro e w1 ⟨rfl, nd, rfl⟩)
  go_end0
  exact ⟨rfl, (HS.out.draw nd).setc (s' := wgopt s 2 b) 7 _ (fun _ => by rw [← HN.out]; rfl) rfl, ((WKX.refl w).drewN _).setCell _ _ HS.out.ty, (pw_below_drewN (Below.refl _ w) nd).setCell (p := ⟨g, 7, none⟩) HS.out.1 _⟩
set_option maxHeartbeats 1000000 in
theorem wg_opt3 (g base : Nat) (s : S53) (d : Value) (A : Option Addr) (c : Nat) (b : List Int) (w : World) (hs : Wgs w base g s d) (hC : Kd.C (Kd.int .u8) w A b.length b) (hc : b.length ≤ c) (hb : wgb b) (hl : b.length ≤ 300) (h1 : 1 ≤ b.length) :
    Calls Try.prog 94 #[.pointer (some ⟨g, 0, none⟩), .int .u8 3, .slice A b.length c] w fun e w' => e = .returned (.tuple #[]) ∧ Wgs w' base g (wgopt s 3 b) d ∧ WKX w w' ∧ Below base w w' := by
  have HS := Lib.hid hs
  have hcell := hs.cell 8 (fun _ => rfl)
  have hfz := hs.fz 8
  obtain ⟨ad, rfl, h0⟩ := Kd.at_int hC 0 (by omega) (by omega)
  have h0' : w.cell? ad = some (.int .u8 (b.getD 0 0)) := by have := h0; simpa [Addr.add, rd] using this
  have hw : wrap64 (b.getD 0 0) = b.getD 0 0 := by
    have hx := hb (b.getD 0 0) (by rw [List.getD_eq_getElem?_getD, List.getElem?_eq_getElem (by omega)]; exact List.getElem_mem _)
    exact wg_w64 (by omega) (by omega)
  obtain ⟨x, hx⟩ : ∃ x, b.getD 0 0 = x := ⟨_, rfl⟩
  rw [hx] at h0' hw
  have HX := Lib.hid hx
  clear h0 hx
  clear hC hs hl hb
  go_enter Try.func94, Try.ntmps94
  go_wp2
  · go_end0
    exact ⟨rfl, (HS.out).setc (s' := wgopt s 3 b) 8 _ (fun _ => by simp only [wgopt, HX.out, mn]; rw [if_neg (by decide), if_pos trivial, if_pos (by omega)]; rfl) rfl, (WKX.refl w).setCell _ _ HS.out.ty, (Below.refl _ w).setCell (p := ⟨g, 8, none⟩) HS.out.1 _⟩
  · go_end0
    exact ⟨rfl, (HS.out).setc (s' := wgopt s 3 b) 8 _ (fun _ => by simp only [wgopt, HX.out, mn]; rw [if_neg (by decide), if_pos trivial, if_neg (by omega)]; rfl) rfl, (WKX.refl w).setCell _ _ HS.out.ty, (Below.refl _ w).setCell (p := ⟨g, 8, none⟩) HS.out.1 _⟩
theorem wg_opt4 (g base : Nat) (s : S53) (d : Value) (A : Option Addr) (c : Nat) (b : List Int) (w : World) (hs : Wgs w base g s d) :
    Calls Try.prog 94 #[.pointer (some ⟨g, 0, none⟩), .int .u8 4, .slice A b.length c] w fun e w' => e = .returned (.tuple #[]) ∧ Wgs w' base g (wgopt s 4 b) d ∧ WKX w w' ∧ Below base w w' := by
  have HS := Lib.hid hs
  have hcell := hs.cell 9 (fun _ => rfl)
  have hfz := hs.fz 9
  clear hs
  go_enter Try.func94, Try.ntmps94
  go_wp2
  go_end0
  exact ⟨rfl, (HS.out).setc (s' := wgopt s 4 b) 9 _ (fun _ => rfl) rfl, (WKX.refl w).setCell _ _ HS.out.ty, (Below.refl _ w).setCell (p := ⟨g, 9, none⟩) HS.out.1 _⟩
theorem wg_opt_else (g base : Nat) (s : S53) (d : Value) (A : Option Addr) (c : Nat) (b : List Int) (w : World) (hs : Wgs w base g s d) (kind : Int) (h2 : kind ≠ 2) (h3 : kind ≠ 3) (h4 : kind ≠ 4) (h8 : kind ≠ 8) (h5 : kind ≠ 5) :
    Calls Try.prog 94 #[.pointer (some ⟨g, 0, none⟩), .int .u8 kind, .slice A b.length c] w fun e w' => e = .returned (.tuple #[]) ∧ Wgs w' base g (wgopt s kind b) d ∧ WKX w w' ∧ Below base w w' := by
  have HS := Lib.hid hs
  have e2 : (kind == 2) = false := beq_false_of_ne h2
  have e3 : (kind == 3) = false := beq_false_of_ne h3
  have e4 : (kind == 4) = false := beq_false_of_ne h4
  have e8 : (kind == 8) = false := beq_false_of_ne h8
  have e5 : (kind == 5) = false := beq_false_of_ne h5
  have HE := Lib.hid (show wgopt s kind b = s from by unfold wgopt; rw [if_neg h2, if_neg h3, if_neg h4, if_neg h8, if_neg h5])
  clear hs h2 h3 h4 h8 h5
  go_enter Try.func94, Try.ntmps94
  go_wp2
  go_end0
  exact ⟨rfl, by rw [HE.out]; exact HS.out, WKX.refl w, Below.refl _ w⟩
set_option maxRecDepth 100000 in
set_option maxHeartbeats 4000000 in
theorem wg_opt8 (g base : Nat) (s : S53) (d : Value) (A : Option Addr) (c : Nat) (b : List Int) (w : World) (hs : Wgs w base g s d) (hC : Kd.C (Kd.int .u8) w A b.length b) (hc : b.length ≤ c) (hb : wgb b) (hl : b.length = 8) :
    Calls Try.prog 94 #[.pointer (some ⟨g, 0, none⟩), .int .u8 8, .slice A b.length c] w fun e w' => e = .returned (.tuple #[]) ∧ Wgs w' base g (wgopt s 8 b) d ∧ WKX w w' ∧ Below base w w' := by
  have HS := Lib.hid hs
  obtain ⟨u0, hu0, _, hsz, _⟩ := info_parts info5
  have cut1 := cut_to (P := Try.prog) 34 5 .i64 Try.underlying34 hu0 A b.length c (4 : Int) (by omega) (by omega) hc
  have cut2 := cut_from (P := Try.prog) 34 5 .i64 Try.underlying34 hu0 1 hsz A b.length c (4 : Int) (by omega) (by omega)
  simp only [show ((4 : Int)).toNat = 4 from rfl, Nat.mul_one] at cut1 cut2
  obtain ⟨A2, hA2⟩ : ∃ A2, (if c = 4 then A else A.map (·.add 4)) = A2 := ⟨_, rfl⟩
  rw [hA2] at cut2
  have R1 := Kd.C_take (m := 4) hC (by omega)
  have R2 := Kd.C_drop (m := 4) (c := c) hC (by omega) hc
  rw [show 4 * (Kd.int .u8).sz = 4 from rfl, hA2] at R2
  have l1 : (b.take 4).length = 4 := by rw [List.length_take]; omega
  have l2 : (b.drop 4).length = b.length - 4 := List.length_drop
  have G1 := wg_get (b.take 4) (by omega)
  have G2 := wg_get (b.drop 4) (by omega)
  obtain ⟨n1, hn1⟩ : ∃ n, wgn (b.take 4) = n := ⟨_, rfl⟩
  obtain ⟨n2, hn2⟩ : ∃ n, wgn (b.drop 4) = n := ⟨_, rfl⟩
  rw [hn1] at G1; rw [hn2] at G2
  have K1 := Lib.hid (fun (W : World) (hC : Kd.C (Kd.int .u8) W A (b.take 4).length (b.take 4)) => wire_get.calls _ A c (b.take 4) n1 W hC (by omega) G1)
  have K2 := Lib.hid (fun (W : World) (hC : Kd.C (Kd.int .u8) W A2 (b.drop 4).length (b.drop 4)) => wire_get.calls _ A2 (c - 4) (b.drop 4) n2 W hC (by omega) G2)
  rw [l1] at K1; rw [l2] at K2
  have HR1 := Lib.hid R1; have HR2 := Lib.hid R2
  rw [l1] at HR1; rw [l2] at HR2
  have q10 := hs.cell 10 (fun _ => rfl)
  have q11 := hs.cell 11 (fun _ => rfl)
  have q12 := hs.cell 12 (fun _ => rfl)
  have z10 := hs.fz 10
  have z11 := hs.fz 11
  have z12 := hs.fz 12
  have HL := Lib.hid hl; have HN1 := Lib.hid hn1; have HN2 := Lib.hid hn2
  clear hs hC hA2 R1 R2 l1 l2 G1 G2 hl hn1 hn2 hb
  go_enter Try.func94, Try.ntmps94
  go_upto_region 8 with (fail)
  go_region_held3 (fun W => True) (trivial) (first
    | (go_at_call 74; with_reducible refine (K1.out _ ?row).mono ?_; (case row => repeat (first | with_reducible exact HR1.out | with_reducible refine Kd.C_drewN ?_ _ | with_reducible refine Kd.C_drew ?_)); rintro e w1 ⟨rfl, nd, rfl⟩)
    | (go_at_call 74; with_reducible refine (K2.out _ ?row).mono ?_; (case row => repeat (first | with_reducible exact HR2.out | with_reducible refine Kd.C_drewN ?_ _ | with_reducible refine Kd.C_drew ?_)); rintro e w1 ⟨rfl, nd, rfl⟩))
  go_wp2
  go_end0
  refine ⟨rfl, ?_, ((((WKX.refl w).drewN _).setCell _ _ HS.out.ty).setCell _ _ (wg_ty_set HS.out.ty _ _)).setCell _ _ (wg_ty_set (wg_ty_set HS.out.ty _ _) _ _), (((pw_below_drewN (Below.refl _ w) _).setCell (p := ⟨g, 10, none⟩) HS.out.1 _).setCell (p := ⟨g, 11, none⟩) HS.out.1 _).setCell (p := ⟨g, 12, none⟩) HS.out.1 _⟩
  exact (((HS.out.draw _).setc (s' := { s with f10 := true }) 10 _ (fun _ => rfl) rfl).setc (s' := { s with f10 := true, f11 := n1 }) 11 _ (fun _ => rfl) rfl).setc (s' := wgopt s 8 b) 12 _ (fun _ => by rw [← HN1.out, ← HN2.out]; rfl) rfl
set_option maxRecDepth 100000 in
set_option maxHeartbeats 8000000 in
theorem wg_opt5 (g : Nat) (s : S53) (d : Value) (A : Option Addr) (c : Nat) (b : List Int) (w0 w : World) (hB : Below w0.heap.size w0 w) (hs : Wgs w w0.heap.size g s d) (hC : Kd.C (Kd.int .u8) w0 A b.length b) (hc : b.length ≤ c) (hb : wgb b) (hl : b.length ≤ 300) (h8 : b.length % 8 = 0) (hn : s.f13.length ≤ 1000) :
    Calls Try.prog 94 #[.pointer (some ⟨g, 0, none⟩), .int .u8 5, .slice A b.length c] w fun e w' => e = .returned (.tuple #[]) ∧ Wgs w' w0.heap.size g (wgopt s 5 b) d ∧ WKX w w' ∧ Below w0.heap.size w0 w' := by
  have HB0 := Lib.hid hB; have HS0 := Lib.hid hs; have HC0 := Lib.hid hC; have HBB := Lib.hid hb; have HLL := Lib.hid hl; have H8 := Lib.hid h8; have HN := Lib.hid hn
  clear hB hs hC hb hl h8 hn
  go_enter Try.func94, Try.ntmps94
  go_wp2_with fail
  go_loopg [2] b.length (fun m v2 wr => ∃ (A1 : Option Addr) (c1 : Nat) (bk : List Int) (cur : S53), bk.length = m ∧ v2 = .slice A1 bk.length c1 ∧ bk.length ≤ c1 ∧ Hid (bk.length % 8 = 0) ∧ Hid (wgb bk) ∧ Hid (Kd.C (Kd.int .u8) w0 A1 bk.length bk) ∧ Hid (Wgs wr w0.heap.size g cur d) ∧ Hid (WKX w wr) ∧ Hid (Below w0.heap.size w0 wr) ∧ Hid (wgopt s 5 b = { cur with f13 := cur.f13 ++ wgblocks (bk.length + 1) bk }) ∧ Hid (cur.f13.length + bk.length ≤ 1300))
  case atStart => exact ⟨A, c, b, s, rfl, rfl, hc, H8, HBB, HC0, HS0, Lib.hid (WKX.refl w), HB0, Lib.hid rfl, Lib.hid (by have := HN.out; have := HLL.out; omega)⟩
  case round =>
    obtain ⟨A1, c1, bk, cur, hm, rfl, hc1, HM, HBK, HC1, HS, HKM, HB, HE, HLN0⟩ := hrel
    by_cases hz : bk.length = 0
    · have h0 : ¬ 0 < bk.length := by omega
      have HZ := Lib.hid hz; clear hz
      go_wp2
      go_end0
      have hcur : wgopt s 5 b = cur := by rw [HE.out, wgblocks, if_pos HZ.out, List.append_nil]
      exact ⟨rfl, by rw [hcur]; exact HS.out, HKM.out, HB.out⟩
    · have h0 : 0 < bk.length := by omega
      have h8 : 8 ≤ bk.length := by have := HM.out; omega
      obtain ⟨u0, hu0, _, hsz, _⟩ := info_parts info5
      have cut1 := cut_to (P := Try.prog) 34 5 .i64 Try.underlying34 hu0 A1 bk.length c1 (4 : Int) (by omega) (by omega) hc1
      have cut2 := cut_mid (P := Try.prog) 34 5 .i64 .i64 Try.underlying34 hu0 1 hsz A1 bk.length c1 (4 : Int) (8 : Int) (by omega) (by omega) (by omega) hc1
      have cut3 := cut_from (P := Try.prog) 34 5 .i64 Try.underlying34 hu0 1 hsz A1 bk.length c1 (8 : Int) (by omega) (by omega)
      simp only [show ((4 : Int)).toNat = 4 from rfl, show ((8 : Int)).toNat = 8 from rfl, Nat.mul_one, show 8 - 4 = 4 from rfl] at cut1 cut2 cut3
      obtain ⟨A2, hA2⟩ : ∃ a, (if c1 = 4 then A1 else A1.map (·.add 4)) = a := ⟨_, rfl⟩
      obtain ⟨A3, hA3⟩ : ∃ a, (if c1 = 8 then A1 else A1.map (·.add 8)) = a := ⟨_, rfl⟩
      rw [hA2] at cut2
      rw [hA3] at cut3
      have R1 := Kd.C_take (m := 4) HC1.out (by omega)
      have R2 := Kd.C_mid (lo := 4) (hi := 8) (c := c1) HC1.out (by omega) h8 hc1
      have R3 := Kd.C_drop (m := 8) (c := c1) HC1.out h8 hc1
      rw [show 4 * (Kd.int .u8).sz = 4 from rfl, hA2] at R2
      rw [show 8 * (Kd.int .u8).sz = 8 from rfl, hA3] at R3
      have l1 : (bk.take 4).length = 4 := by rw [List.length_take]; omega
      have l2 : ((bk.take 8).drop 4).length = 4 := by rw [List.length_drop, List.length_take]; omega
      have l3 : (bk.drop 8).length = bk.length - 8 := List.length_drop
      have G1 := wg_get (bk.take 4) (by omega)
      have G2 := wg_get ((bk.take 8).drop 4) (by omega)
      obtain ⟨n1, hn1⟩ : ∃ n, wgn (bk.take 4) = n := ⟨_, rfl⟩
      obtain ⟨n2, hn2⟩ : ∃ n, wgn ((bk.take 8).drop 4) = n := ⟨_, rfl⟩
      rw [hn1] at G1; rw [hn2] at G2
      have K1 := Lib.hid (fun (W : World) (hB : Below w0.heap.size w0 W) => wire_get.calls _ A1 c1 (bk.take 4) n1 W (Kd.C_below R1 hB) (by omega) G1)
      have K2 := Lib.hid (fun (W : World) (hB : Below w0.heap.size w0 W) => wire_get.calls _ A2 (c1 - 4) ((bk.take 8).drop 4) n2 W (Kd.C_below R2 hB) (by omega) G2)
      rw [l1] at K1; rw [l2] at K2
      have HBE := Lib.hid (show wgopt s 5 b = { cur with f13 := cur.f13 ++ [⟨n1, n2⟩] ++ wgblocks (bk.length - 8 + 1) (bk.drop 8) } by
        rw [HE.out, wgblocks, if_neg hz, hn1, hn2, List.append_assoc, List.singleton_append]
        rw [wgblocks_up bk.length (bk.drop 8) (by rw [l3]; omega), l3])
      obtain ⟨hbg, v, hh, hR⟩ := HS.out
      have HH := Lib.hid hh; have HR := Lib.hid hR; have HBG := Lib.hid hbg
      have HLN := Lib.hid (show (cur.f13.length + 1) * 8 ≤ 140737488355328 by have := HLN0.out; omega)
      have HGK := Lib.hid hm; have HR3 := Lib.hid R3; have HL3 := Lib.hid l3; have HGE := Lib.hid h8
      have hc3 : bk.length - 8 ≤ c1 - 8 := by omega
      clear hA2 hA3 R1 R2 R3 l1 l2 l3 G1 G2 hn1 hn2 hh hR hbg HE HS hz h8 hm
      go_upto_region 12 with (fail)
      refine start_ (n := 17) (S := fun w' => w'.cell? ⟨g, 13, none⟩ = some v) (ds := [13, 16]) #[false, false, false, false, false, false, false, false, false, false, false, false, false, false, false, false, false] (by kernel_rfl) rfl rfl (((blk_cell HH.out 13).trans rfl)) (fun hHeld => ?_)
      refine pure_ (i := 0) (N := some 54) (v := ?_) (a' := ?_) #[true, false, false, false, false, false, false, false, false, false, false, false, false, false, false, false, false] rfl rfl (by kernel_rfl) (fun _ _ _ h => h) (Or.inl ⟨by rfl, ?_⟩) ?_ ?_
      rotate_left
      · intro w'
        go_simp
        with_reducible rfl
      rotate_left
      · simp only [Act.put, List.setIfInBounds_toArray, List.set_cons_zero, List.set_cons_succ, i64_w, i32_w]
        rfl
      refine pure_ (i := 1) (N := some 55) (v := ?_) (a' := ?_) #[true, true, false, false, false, false, false, false, false, false, false, false, false, false, false, false, false] rfl rfl (by kernel_rfl) (fun _ _ _ h => h) (Or.inl ⟨by rfl, ?_⟩) ?_ ?_
      rotate_left
      · intro w'
        go_simp
        with_reducible rfl
      rotate_left
      · simp only [Act.put, List.setIfInBounds_toArray, List.set_cons_zero, List.set_cons_succ, i64_w, i32_w]
        rfl
      refine pure_ (i := 2) (N := some 56) (v := ?_) (a' := ?_) #[true, true, true, false, false, false, false, false, false, false, false, false, false, false, false, false, false] rfl rfl (by kernel_rfl) (fun _ _ _ h => h) (Or.inl ⟨by rfl, ?_⟩) ?_ ?_
      rotate_left
      · intro w'
        go_simp
        with_reducible rfl
      rotate_left
      · simp only [Act.put, List.setIfInBounds_toArray, List.set_cons_zero, List.set_cons_succ, i64_w, i32_w]
        rfl
      refine pure_ (i := 3) (N := some 57) (v := ?_) (a' := ?_) #[true, true, true, true, false, false, false, false, false, false, false, false, false, false, false, false, false] rfl rfl (by kernel_rfl) (fun _ _ _ h => h) (Or.inl ⟨by rfl, ?_⟩) ?_ ?_
      rotate_left
      · intro w'
        go_simp
        with_reducible rfl
      rotate_left
      · simp only [Act.put, List.setIfInBounds_toArray, List.set_cons_zero, List.set_cons_succ, i64_w, i32_w]
        rfl
      refine pure_ (i := 5) (N := some 59) (v := ?_) (a' := ?_) #[true, true, true, true, false, true, false, false, false, false, false, false, false, false, false, false, false] rfl rfl (by kernel_rfl) (fun _ _ _ h => h) (Or.inl ⟨by rfl, ?_⟩) ?_ ?_
      rotate_left
      · intro w'
        go_simp
        with_reducible rfl
      rotate_left
      · simp only [Act.put, List.setIfInBounds_toArray, List.set_cons_zero, List.set_cons_succ, i64_w, i32_w]
        rfl
      refine pure_ (i := 6) (N := some 60) (v := ?_) (a' := ?_) #[true, true, true, true, false, true, true, false, false, false, false, false, false, false, false, false, false] rfl rfl (by kernel_rfl) (fun _ _ _ h => h) (Or.inl ⟨by rfl, ?_⟩) ?_ ?_
      rotate_left
      · intro w'
        go_simp
        with_reducible rfl
      rotate_left
      · simp only [Act.put, List.setIfInBounds_toArray, List.set_cons_zero, List.set_cons_succ, i64_w, i32_w]
        rfl
      refine pure_ (i := 8) (N := some 62) (v := ?_) (a' := ?_) #[true, true, true, true, false, true, true, false, true, false, false, false, false, false, false, false, false] rfl rfl (by kernel_rfl) (fun _ _ _ h => h) (Or.inl ⟨by rfl, ?_⟩) ?_ ?_
      rotate_left
      · intro w'
        go_simp
        with_reducible rfl
      rotate_left
      · simp only [Act.put, List.setIfInBounds_toArray, List.set_cons_zero, List.set_cons_succ, i64_w, i32_w]
        rfl
      refine pure_ (i := 9) (N := some 63) (v := ?_) (a' := ?_) #[true, true, true, true, false, true, true, false, true, true, false, false, false, false, false, false, false] rfl rfl (by kernel_rfl) (fun _ _ _ h => h) (Or.inl ⟨by rfl, ?_⟩) ?_ ?_
      rotate_left
      · intro w'
        go_simp
        with_reducible rfl
      rotate_left
      · simp only [Act.put, List.setIfInBounds_toArray, List.set_cons_zero, List.set_cons_succ, i64_w, i32_w]
        rfl
      refine take_ (i := 4) (N := some 58) (v := ?_) (a' := ?_) #[true, true, true, true, true, true, true, false, true, true, false, false, false, false, false, false, false] rfl rfl (by kernel_rfl) (fun _ _ _ h => h) (Or.inl ⟨by rfl, ?_⟩) hHeld ?_ ?_
      rotate_left
      · intro w' s0
        go_simp
        with_reducible rfl
      rotate_left
      · simp only [Act.put, List.setIfInBounds_toArray, List.set_cons_zero, List.set_cons_succ, i64_w, i32_w]
        rfl
      refine one_ (i := 7) (N := some 61) #[true, true, true, true, true, true, true, true, true, true, false, false, false, false, false, false, false] rfl rfl (by kernel_rfl) (by decide) (fun K hK => ?_)
      refine goes_ Try.func74 (by kernel_rfl) rfl #[.slice A1 4 c1] (by rfl) rfl rfl (by simp only [List.map_toArray, List.map_cons, List.map_nil]; rfl) ?_
      with_reducible refine (K1.out _ (by repeat (first | exact HB.out | with_reducible apply below_drew1 | with_reducible refine pw_below_drewN ?_ _ | with_reducible refine below_alloc ?_ _))).mono ?_
      rintro e w7 ⟨rfl, nd1, rfl⟩
      refine ⟨_, rfl, ?_⟩
      refine hK.out _ _ (hHeld) (fun hHeld => ?_)
      clear hK K
      refine norm_ (a' := ?_) ?_ ?_
      rotate_left
      · show Act.put _ (some 61) _ = _
        simp only [Act.put, List.setIfInBounds_toArray, List.set_cons_zero, List.set_cons_succ, i64_w, i32_w]
        rfl
      refine one_ (i := 10) (N := some 64) #[true, true, true, true, true, true, true, true, true, true, true, false, false, false, false, false, false] rfl rfl (by kernel_rfl) (by decide) (fun K hK => ?_)
      refine goes_ Try.func74 (by kernel_rfl) rfl #[.slice A2 4 (c1 - 4)] (by rfl) rfl rfl (by simp only [List.map_toArray, List.map_cons, List.map_nil]; rfl) ?_
      with_reducible refine (K2.out _ (by repeat (first | exact HB.out | with_reducible apply below_drew1 | with_reducible refine pw_below_drewN ?_ _ | with_reducible refine below_alloc ?_ _))).mono ?_
      rintro e w7 ⟨rfl, nd2, rfl⟩
      refine ⟨_, rfl, ?_⟩
      refine hK.out _ _ (hHeld) (fun hHeld => ?_)
      clear hK K
      refine norm_ (a' := ?_) ?_ ?_
      rotate_left
      · show Act.put _ (some 64) _ = _
        simp only [Act.put, List.setIfInBounds_toArray, List.set_cons_zero, List.set_cons_succ, i64_w, i32_w]
        rfl
      refine pure_ (i := 11) (N := some 65) (v := ?_) (a' := ?_) #[true, true, true, true, true, true, true, true, true, true, true, true, false, false, false, false, false] rfl rfl (by kernel_rfl) (fun _ _ _ h => h) (Or.inl ⟨by rfl, ?_⟩) ?_ ?_
      rotate_left
      · intro w'
        go_simp
        with_reducible rfl
      rotate_left
      · simp only [Act.put, List.setIfInBounds_toArray, List.set_cons_zero, List.set_cons_succ, i64_w, i32_w]
        rfl
      refine one_ (i := 12) (N := some 66) #[true, true, true, true, true, true, true, true, true, true, true, true, true, false, false, false, false] rfl rfl (by kernel_rfl) (by decide) (fun K hK => ?_)
      refine value_ (w1 := ?_) (v := ?_) (by rfl) rfl ?_ ?_
      rotate_left 2
      · go_simp
        constructor
        · rfl
        · rfl
      refine hK.out _ _ ((((below_alloc (Below.refl _ _) _).cell (World.block_lt_of_cell? _ _ hHeld)).trans hHeld)) (fun hHeld => ?_)
      clear hK K
      refine norm_ (a' := ?_) ?_ ?_
      rotate_left
      · show Act.put _ (some 66) _ = _
        simp only [Act.put, List.setIfInBounds_toArray, List.set_cons_zero, List.set_cons_succ, i64_w, i32_w]
        rfl
      refine last_ (i := 13) (N := some 67) #[true, true, true, true, true, true, true, true, true, true, true, true, true, true, false, false, false] rfl rfl (by kernel_rfl) (by decide) (fun K hK => ?_)
      refine Kd.R_append_step k112 (w0 := w0) w0.heap.size (by rfl) (.tmp 58) (.tmp 66) 51 112 (.agg #[.int .u32 0, .int .u32 0]) 8 (by rfl) Try.underlying51 wg_info (by rfl) (by decide) (by decide) v cur.f13 ⟨n1, n2⟩ [.int .u32 n1, .int .u32 n2] (fun _ => True) (fun _ => False) (by rfl) (by rfl) (k112_mkM _ _ _ _) (fun _ h => h.elim) (fun _ _ => trivial) (by repeat (first | exact HR.out | with_reducible refine Kd.R_drew ?_ | with_reducible refine Kd.R_drewN ?_ _)) (by repeat (first | exact HB.out | with_reducible apply below_drew1 | with_reducible refine pw_below_drewN ?_ _ | with_reducible refine below_alloc ?_ _)) (by have h_ := Below.size (by repeat (first | exact HB.out | with_reducible apply below_drew1 | with_reducible refine pw_below_drewN ?_ _ | with_reducible refine below_alloc ?_ _)); exact h_) HLN.out ?_
      intro v1 w1 hR1 hB1 hg1 hat1
      obtain ⟨Av, cv, ev⟩ := Kd.R_slice hR1
      rw [List.length_append, List.length_singleton] at ev
      subst ev
      refine hK.out _ _ ?_
      clear hK K
      refine norm_ (a' := ?_) ?_ ?_
      rotate_left
      · show Act.put _ (some 67) _ = _
        simp only [Act.put, List.setIfInBounds_toArray, List.set_cons_zero, List.set_cons_succ, i64_w, i32_w]
        rfl
      refine pure_ (i := 14) (N := some 68) (v := ?_) (a' := ?_) #[true, true, true, true, true, true, true, true, true, true, true, true, true, true, true, false, false] rfl rfl (by kernel_rfl) (fun _ _ _ h => h) (Or.inl ⟨by rfl, ?_⟩) ?_ ?_
      rotate_left
      · intro w'
        go_simp
        with_reducible rfl
      rotate_left
      · simp only [Act.put, List.setIfInBounds_toArray, List.set_cons_zero, List.set_cons_succ, i64_w, i32_w]
        rfl
      refine pure_ (i := 15) (N := some 69) (v := ?_) (a' := ?_) #[true, true, true, true, true, true, true, true, true, true, true, true, true, true, true, true, false] rfl rfl (by kernel_rfl) (fun _ _ _ h => h) (Or.inl ⟨by rfl, ?_⟩) ?_ ?_
      rotate_left
      · intro w'
        go_simp
        with_reducible rfl
      rotate_left
      · simp only [Act.put, List.setIfInBounds_toArray, List.set_cons_zero, List.set_cons_succ, i64_w, i32_w]
        rfl
      refine last_ (i := 16) (N := none) #[true, true, true, true, true, true, true, true, true, true, true, true, true, true, true, true, true] rfl rfl (by kernel_rfl) (by decide) (fun K hK => ?_)
      have hh1 := blk_grown (by repeat (first | exact HH.out | with_reducible refine blk_drew ?_ | with_reducible refine blk_drewN ?_ _)) hg1 (Kd.R_ne HR.out HH.out (by decide))
      have hs13 : w1.cell? ⟨g, 13, none⟩ = some v := (blk_cell hh1 13).trans rfl
      have hf13 : w1.frozen? ⟨g, 13, none⟩ = false := blk_frozen hh1 13
      refine skip_ (w1 := ?_) (by rfl) rfl ?_ ?_
      rotate_left
      · go_simp
        rfl
      refine hK.out _ _ ?_
      clear hK K
      refine done_ (by kernel_rfl) ?_
      have HW := Lib.hid (show Wgs (w1.setCell ⟨g, 13, none⟩ (.slice Av (cur.f13.length + 1) cv)) w0.heap.size g { cur with f13 := cur.f13 ++ [⟨n1, n2⟩] } d from ⟨HBG.out, _, wgcells_ext (blk_set hh1 13 _) rfl, Kd.R_set hR1 hh1 (by decide) 13 _⟩)
      have HB9 := Lib.hid (show Below w0.heap.size w0 (w1.setCell ⟨g, 13, none⟩ (.slice Av (cur.f13.length + 1) cv)) from hB1.setCell (p := ⟨g, 13, none⟩) HBG.out _)
      have HKM9 := Lib.hid (show WKX w (w1.setCell ⟨g, 13, none⟩ (.slice Av (cur.f13.length + 1) cv)) from (WKX.grown (b := _) (by repeat (first | exact HKM.out | with_reducible refine WKX.drewN ?_ _ | with_reducible refine WKX.drew ?_)) hg1 (fun k hk => by obtain ⟨cells, hc⟩ := Kd.R_typed HR.out k hk; exact ⟨cells, hc⟩)).setCell _ _ ⟨_, hh1⟩)
      clear hR1 hB1 hg1 hat1 hh1 hs13 hf13
      generalize w1.setCell ⟨g, 13, none⟩ (.slice Av (cur.f13.length + 1) cv) = w9 at HW HKM9 HB9 ⊢
      go_wp2
      go_roundg (gk - 8)
      case measure => have := HGE.out; have := HGK.out; omega
      case rel =>
        have e1 := HL3.out
        refine ⟨A3, c1 - 8, bk.drop 8, { cur with f13 := cur.f13 ++ [⟨n1, n2⟩] }, by rw [e1, HGK.out], by rw [e1], by rw [e1]; exact hc3, Lib.hid (by have := HM.out; have := HGE.out; omega), Lib.hid (fun x hx => HBK.out x (List.mem_of_mem_drop hx)), HR3, HW, HKM9, HB9, Lib.hid ?_, Lib.hid ?_⟩
        · rw [HBE.out, e1]
        · have := HLN0.out; have := HGE.out
          rw [List.length_append, List.length_singleton, e1]; omega
/-! ### read -/
def wgknown (kind : Int) : Bool := kind == 2 || (kind == 3 || (kind == 4 || (kind == 8 || kind == 5)))
def wglen (kind n : Int) : Bool := if kind = 2 then n == 4 else if kind = 3 then n == 3 else if kind = 4 then n == 2 else if kind = 8 then n == 10 else if kind = 5 then decide (2 < n) && (decide (n ≤ 34) && n % 8 == 2) else true
theorem wg_and7 : ∀ n < 256, Go.bits .and .i64 (n : Nat) 7 = ((n % 8 : Nat) : Int) := by decide +kernel
theorem wg_length (kind n : Int) (h0 : 0 ≤ n) (h1 : n ≤ 255) : wire_length.f kind n = some (wglen kind n, wgknown kind) := by
  unfold wire_length.f wglen wgknown
  by_cases k2 : kind = 2
  · subst k2; rfl
  by_cases k3 : kind = 3
  · subst k3; rfl
  by_cases k4 : kind = 4
  · subst k4; rfl
  by_cases k8 : kind = 8
  · subst k8; rfl
  rw [if_neg k2, if_neg k3, if_neg k4, if_neg k8, if_neg k2, if_neg k3, if_neg k4, if_neg k8, beq_false_of_ne k2, beq_false_of_ne k3, beq_false_of_ne k4, beq_false_of_ne k8]
  by_cases k5 : kind = 5
  · subst k5
    obtain ⟨m, rfl⟩ := Int.eq_ofNat_of_zero_le h0
    rw [if_pos rfl, if_pos rfl, wg_and7 m (by omega)]
    by_cases a : (m : Int) > 2
    · rw [if_pos a, decide_eq_true (show (2 : Int) < m from a)]
      by_cases b : (m : Int) ≤ 34
      · rw [if_pos b, decide_eq_true b]; rfl
      · rw [if_neg b, decide_eq_false b]; rfl
    · rw [if_neg a, decide_eq_false (show ¬ (2 : Int) < m from a)]; rfl
  · rw [if_neg k5, if_neg k5, beq_false_of_ne k5]; rfl
def wgrd : Nat → S53 → List Int → List Int → Option S53
  | 0, _, _, _ => none
  | k + 1, s, seen, b =>
    if b.length = 0 then some s
    else if b.getD 0 0 = 0 then some s
    else if b.getD 0 0 = 1 then wgrd k s seen (b.drop 1)
    else if 2 ≤ b.length ∧ 2 ≤ b.getD 1 0 ∧ b.getD 1 0 ≤ b.length ∧ wglen (b.getD 0 0) (b.getD 1 0) = true ∧ (wgknown (b.getD 0 0) && seen.contains (b.getD 0 0)) = false then
      wgrd k (wgopt s (b.getD 0 0) ((b.take (b.getD 1 0).toNat).drop 2)) (b.getD 0 0 :: seen) (b.drop (b.getD 1 0).toNat)
    else none
theorem wgrd_up : ∀ (k : Nat) (s : S53) (seen b : List Int), b.length < k → wgrd k s seen b = wgrd (b.length + 1) s seen b
  | 0, _, _, _, h => by omega
  | k + 1, s, seen, b, h => by
    rw [wgrd, wgrd]
    by_cases h0 : b.length = 0
    · rw [if_pos h0, if_pos h0]
    rw [if_neg h0, if_neg h0]
    by_cases h1 : b.getD 0 0 = 0
    · rw [if_pos h1, if_pos h1]
    rw [if_neg h1, if_neg h1]
    by_cases h2 : b.getD 0 0 = 1
    · rw [if_pos h2, if_pos h2]
      have hd : (b.drop 1).length < b.length := by rw [List.length_drop]; omega
      rw [wgrd_up k _ _ _ (by omega), wgrd_up b.length _ _ _ hd]
    rw [if_neg h2, if_neg h2]
    by_cases h3 : 2 ≤ b.length ∧ 2 ≤ b.getD 1 0 ∧ b.getD 1 0 ≤ b.length ∧ wglen (b.getD 0 0) (b.getD 1 0) = true ∧ (wgknown (b.getD 0 0) && seen.contains (b.getD 0 0)) = false
    · rw [if_pos h3, if_pos h3]
      have hd : (b.drop (b.getD 1 0).toNat).length < b.length := by rw [List.length_drop]; omega
      rw [wgrd_up k _ _ _ (by omega), wgrd_up b.length _ _ _ hd]
    · rw [if_neg h3, if_neg h3]
theorem wg_blocks_len : ∀ (k : Nat) (b : List Int), (wgblocks k b).length ≤ b.length
  | 0, _ => by simp [wgblocks]
  | k + 1, b => by
    rw [wgblocks]
    by_cases h : b.length = 0
    · rw [if_pos h]; simp
    · rw [if_neg h, List.length_cons]
      have := wg_blocks_len k (b.drop 8)
      rw [List.length_drop] at this
      omega
theorem wgopt_len (s : S53) (kind : Int) (b : List Int) : (wgopt s kind b).f13.length ≤ s.f13.length + b.length := by
  unfold wgopt
  have := wg_blocks_len (b.length + 1) b
  repeat' split
  all_goals (first | (simp only []; omega) | (simp only [List.length_append]; omega) | omega)
/-- One option, whatever its kind. -/
theorem wg_opt (g : Nat) (s : S53) (d : Value) (A : Option Addr) (c : Nat) (b : List Int) (kind : Int) (w0 w : World) (hB : Below w0.heap.size w0 w) (hs : Wgs w w0.heap.size g s d) (hC : Kd.C (Kd.int .u8) w0 A b.length b) (hc : b.length ≤ c) (hb : wgb b) (hl : b.length ≤ 300) (hk : wglen kind (b.length + 2) = true) (hn : s.f13.length ≤ 1000) :
    Calls Try.prog 94 #[.pointer (some ⟨g, 0, none⟩), .int .u8 kind, .slice A b.length c] w fun e w' => e = .returned (.tuple #[]) ∧ Wgs w' w0.heap.size g (wgopt s kind b) d ∧ WKX w w' ∧ Below w0.heap.size w0 w' := by
  unfold wglen at hk
  have up : ∀ {kd : Int}, Calls Try.prog 94 #[.pointer (some ⟨g, 0, none⟩), .int .u8 kd, .slice A b.length c] w (fun e w' => e = .returned (.tuple #[]) ∧ Wgs w' w0.heap.size g (wgopt s kd b) d ∧ WKX w w' ∧ Below w0.heap.size w w') → Calls Try.prog 94 #[.pointer (some ⟨g, 0, none⟩), .int .u8 kd, .slice A b.length c] w (fun e w' => e = .returned (.tuple #[]) ∧ Wgs w' w0.heap.size g (wgopt s kd b) d ∧ WKX w w' ∧ Below w0.heap.size w0 w') :=
    fun h => h.mono (fun e w' ⟨h1, h2, h3, h4⟩ => ⟨h1, h2, h3, hB.trans h4⟩)
  by_cases k2 : kind = 2
  · subst k2; exact up (wg_opt2 g _ s d A c b w hs (Kd.C_below hC hB) hc hb hl)
  by_cases k3 : kind = 3
  · subst k3
    rw [if_neg (by decide), if_pos rfl] at hk
    have := eq_of_beq hk
    exact up (wg_opt3 g _ s d A c b w hs (Kd.C_below hC hB) hc hb hl (by omega))
  by_cases k4 : kind = 4
  · subst k4; exact up (wg_opt4 g _ s d A c b w hs)
  by_cases k8 : kind = 8
  · subst k8
    rw [if_neg (by decide), if_neg (by decide), if_neg (by decide), if_pos rfl] at hk
    have := eq_of_beq hk
    exact up (wg_opt8 g _ s d A c b w hs (Kd.C_below hC hB) hc hb (by omega))
  by_cases k5 : kind = 5
  · subst k5
    rw [if_neg (by decide), if_neg (by decide), if_neg (by decide), if_neg (by decide), if_pos rfl] at hk
    simp only [Bool.and_eq_true, decide_eq_true_eq, beq_iff_eq] at hk
    exact wg_opt5 g s d A c b w0 w hB hs hC hc hb hl (by omega) hn
  exact up (wg_opt_else g _ s d A c b w hs kind k2 k3 k4 k8 k5)
/-- The map of the kinds that have come. -/
def Seen (W : World) (mb : Nat) (n : Nat) (seen : List Int) : Prop := ∃ D : DataW Unit, W.ownsMap Try.prog 5 (plainElem Try.prog 3) mb n D ∧ ∀ k : Int, 0 ≤ k → k ≤ 255 → ∃ c : Int, D.atKey (.int .u8 k) (.lit (.int .i64 0)) = .lit (.int .i64 c) ∧ 0 ≤ c ∧ c ≤ n ∧ decide (c > 0) = seen.contains k
theorem Seen.new (W : World) : Seen (W.alloc (.map #[] 0)) W.heap.size 0 [] := ⟨.map [], World.ownsMap_made W _ _ _, fun k _ _ => ⟨0, rfl, by omega, by omega, rfl⟩⟩
theorem Seen.km {W W' : World} {mb n : Nat} {seen : List Int} (h : Seen W mb n seen) (k : WKM W W') : Seen W' mb n seen := by
  obtain ⟨D, ⟨es, cl, hb, F, hs, hD⟩, hk⟩ := h
  exact ⟨D, ⟨es, cl, k _ _ _ hb, F, hs, hD⟩, hk⟩
theorem Seen.look {W : World} {mb n : Nat} {seen : List Int} (h : Seen W mb n seen) (k : Int) (h0 : 0 ≤ k) (h1 : k ≤ 255) : ∃ c : Int, (∀ W', WKM W W' → (Instr.lookup 145 (.map (some mb)) (.int .u8 k) false).run Try.prog W' = .ok (.int .i64 c) W') ∧ 0 ≤ c ∧ c ≤ n ∧ decide (c > 0) = seen.contains k := by
  obtain ⟨c, _, _, _⟩ := h.choose_spec.2 k h0 h1
  have hkey : keyOf Try.prog 5 (.int .u8 k) = some (.int .u8 k) := Maps.keyOf_int_mk Try.underlying5 (by simp [Lit.wf, IntKind.min, IntKind.max, IntKind.signed, IntKind.bits]; omega)
  obtain ⟨D, hD, hk⟩ := h
  obtain ⟨c, ha, c0, c1, hs⟩ := hk k h0 h1
  refine ⟨c, fun W' hW => ?_, c0, c1, hs⟩
  have hD' : W'.ownsMap Try.prog 5 (plainElem (H := Unit) Try.prog 3) mb n D := by
    obtain ⟨es, cl, hb, F, hs, hD⟩ := hD
    exact ⟨es, cl, hW _ _ _ hb, F, hs, hD⟩
  obtain ⟨c', hrun, ha', _⟩ := hD'.lookup_int (Maps.int_keyed Try.underlying5) Try.underlying145 Try.underlying3 (by kernel_rfl) hkey
  rw [ha] at ha'
  simp only [DataW.lit.injEq, Lit.int.injEq, true_and] at ha'
  rw [hrun, ha']
theorem Seen.put {W W' : World} {mb n : Nat} {seen : List Int} {D : DataW Unit} {k c : Int} (h0 : 0 ≤ k) (h1 : k ≤ 255) (c0 : 0 ≤ c) (c1 : c ≤ n) (hD : W.ownsMap Try.prog 5 (plainElem Try.prog 3) mb n D) (hk : ∀ k : Int, 0 ≤ k → k ≤ 255 → ∃ c : Int, D.atKey (.int .u8 k) (.lit (.int .i64 0)) = .lit (.int .i64 c) ∧ 0 ≤ c ∧ c ≤ n ∧ decide (c > 0) = seen.contains k)
    (hm : W'.ownsMap Try.prog 5 (plainElem Try.prog 3) mb (n + 1) (D.put (.int .u8 k) (.lit (.int .i64 (c + 1))))) : Seen W' mb (n + 1) (k :: seen) := by
  refine ⟨_, hm, fun j j0 j1 => ?_⟩
  by_cases e : j = k
  · subst e
    exact ⟨c + 1, Maps.atKey_put_same hD.isMap ((Maps.int_keyed Try.underlying5).key (Maps.keyOf_int_mk Try.underlying5 (by simp [Lit.wf, IntKind.min, IntKind.max, IntKind.signed, IntKind.bits]; omega))) _ _, by omega, by omega, by rw [decide_eq_true (by omega)]; simp⟩
  · obtain ⟨c', ha, h2, h3, h4⟩ := hk j j0 j1
    refine ⟨c', ?_, h2, by omega, ?_⟩
    · rw [Maps.atKey_put_other (by intro he; injection he with _ he; exact e he)]; exact ha
    · rw [h4, List.contains_cons, beq_false_of_ne e]; rfl
end Go.Proofs.Ytflmfbcapccdeaa.WireG

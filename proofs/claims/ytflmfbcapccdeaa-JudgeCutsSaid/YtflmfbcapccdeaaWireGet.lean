/- wire.Get, walked: which segment bytes are, or what is wrong with them. -/
import Derived.Test.YtflmfbcapccdeaaPAx19
import Derived.Test.YtflmfbcapccdeaaPAx16
import Derived.Lib.Hide
import Derived.WalkKit
import Derived.Maps.OwnSet
import Derived.Maps.Views
import Derived.Deep.RegionHeld3
import Derived.Laws.BitsAllLaws
import Derived.Recover
import Derived.Defers
import Derived.Laws.Rows
import Derived.Test.YtflmfbcapccdeaaChecked
import Derived.LaidEql
import Derived.Lib.IfaceEq
import Derived.Stop.Asserts
import Derived.RowKitTokens
set_option linter.unusedVariables false
set_option linter.unusedSimpArgs false
set_option autoImplicit false
namespace Go.Proofs.Ytflmfbcapccdeaa.WireG
open Go.RowKit Go.Proofs.Ytflmfbcapccdeaa.PA Go.Proofs.YtflmfbcapccdeaaW.PrintWords Go.Proofs.YtflmfbcapccdeaaW.PrintLast Go.Proofs.YtflmfbcapccdeaaW.PrintMore
attribute [local go_sem] max2_int min2_int max_two min_two
theorem wg_must_true (k : Int) (w : World) : Calls Try.prog 72 #[.bool true, .int .i64 k] w fun e w' => e = .returned (.tuple #[]) ∧ w = w' := by
  go_enter Try.func72, Try.ntmps72
  go_wp2
  go_end0
  exact ⟨rfl, rfl⟩
theorem wg_must_false (k : Int) (w : World) : Calls Try.prog 72 #[.bool false, .int .i64 k] w fun e w' => e = .panicked [{ v := .iface 122 (.pointer (some ⟨w.heap.size, 0, none⟩)), recovered := false }] ∧ w' = w.alloc (.cells #[.int .i64 k] 144) := by
  go_enter Try.func72, Try.ntmps72
  go_wp2
  exact ⟨rfl, rfl, rfl⟩
/-! ### numbers of bytes -/
def wgb (l : List Int) : Prop := ∀ c ∈ l, 0 ≤ c ∧ c ≤ 255
def wgs (n c : Int) : Int := Go.bits .or .u32 ((n * 256) % 4294967296) (c % 4294967296)
def wgn (l : List Int) : Int := l.foldl wgs 0
theorem wg_w64 {n : Int} (h0 : -9223372036854775808 ≤ n) (h1 : n ≤ 9223372036854775807) : wrap64 n = n := by unfold wrap64; omega
theorem wgs_eq {n c : Int} (h0 : 0 ≤ n) (c0 : 0 ≤ c) (c1 : c ≤ 255) : wgs n c = (n * 256) % 4294967296 + c := by
  unfold wgs
  rw [show c % 4294967296 = c by omega]
  exact bits_join .u32 32 (by decide) (fun n h0 h1 => by simp [IntKind.wrap, IntKind.bits, IntKind.signed]; omega) 8 ((n * 256) % 4294967296) c (by omega) (by omega) (by omega) (by omega) (by omega) (by omega)
theorem wgs_bd {n c : Int} (h0 : 0 ≤ n) (c0 : 0 ≤ c) (c1 : c ≤ 255) : 0 ≤ wgs n c ∧ wgs n c ≤ 4294967295 := by rw [wgs_eq h0 c0 c1]; omega
theorem wgf_bd : ∀ (l : List Int) (n : Int), 0 ≤ n → n ≤ 4294967295 → wgb l → 0 ≤ l.foldl wgs n ∧ l.foldl wgs n ≤ 4294967295
  | [], n, h0, h1, _ => ⟨h0, h1⟩
  | c :: l, n, h0, h1, h => by
    have hc := h c List.mem_cons_self
    have := wgs_bd h0 hc.1 hc.2
    exact wgf_bd l _ this.1 this.2 (fun x hx => h x (List.mem_cons_of_mem _ hx))
theorem wgn_bd {l : List Int} (h : wgb l) : 0 ≤ wgn l ∧ wgn l ≤ 4294967295 := wgf_bd l 0 (by omega) (by omega) h
theorem wg_get_l (l : List Int) (hl : l.length ≤ 9223372036854775806) : ∀ (d i k : Nat) (n : Int), l.length - i = d → i ≤ l.length → d < k → wire_get.l0 k n l (l.length : Int) (i : Int) = some ((l.drop i).foldl wgs n) := by
  intro d
  induction d with
  | zero =>
    intro i k n hd hi hk
    obtain ⟨k, rfl⟩ : ∃ j, k = j + 1 := ⟨k - 1, by omega⟩
    rw [wire_get.l0, if_neg (by omega), List.drop_of_length_le (by omega)]; rfl
  | succ d ih =>
    intro i k n hd hi hk
    obtain ⟨k, rfl⟩ : ∃ j, k = j + 1 := ⟨k - 1, by omega⟩
    have hlt : i < l.length := by omega
    rw [wire_get.l0, if_pos (by omega), if_pos (by omega), if_pos (by omega), wg_w64 (by omega) (by omega), show ((i : Int) + 1) = ((i + 1 : Nat) : Int) by rfl, ih (i + 1) k _ (by omega) (by omega) (by omega), List.drop_eq_getElem_cons hlt, List.foldl_cons]
    have hr : rd l (i : Int) = l[i] := by rw [rd, Int.toNat_natCast, List.getD_eq_getElem?_getD, List.getElem?_eq_getElem hlt]; rfl
    rw [hr]; rfl
theorem wg_get (l : List Int) (hl : l.length ≤ 9223372036854775806) : wire_get.f (l.length + 1) l = some (wgn l) := by
  have := wg_get_l l hl l.length 0 (l.length + 1) 0 (by omega) (by omega) (by omega)
  exact this
/-! ### options -/
def wgblocks : Nat → List Int → List S112
  | 0, _ => []
  | k + 1, b => if b.length = 0 then [] else ⟨wgn (b.take 4), wgn ((b.take 8).drop 4)⟩ :: wgblocks k (b.drop 8)
theorem wgblocks_up : ∀ (k : Nat) (b : List Int), b.length < k → wgblocks k b = wgblocks (b.length + 1) b
  | 0, _, h => by omega
  | k + 1, b, h => by
    by_cases hz : b.length = 0
    · rw [wgblocks, if_pos hz, wgblocks, if_pos hz]
    · rw [wgblocks, if_neg hz, wgblocks, if_neg hz]
      have hd : (b.drop 8).length < b.length := by rw [List.length_drop]; omega
      rw [wgblocks_up k _ (by omega), wgblocks_up b.length _ hd]
theorem wg_info : (Try.prog.info? 112).map (fun i => (i.zero, i.size, i.bytes)) = some (some (.agg #[.int .u32 0, .int .u32 0]), 2, 8) := by kernel_rfl
def wgopt (s : S53) (kind : Int) (b : List Int) : S53 :=
  if kind = 2 then { s with f7 := wgn b }
  else if kind = 3 then { s with f8 := mn (b.getD 0 0) 14 }
  else if kind = 4 then { s with f9 := true }
  else if kind = 8 then { s with f10 := true, f11 := wgn (b.take 4), f12 := wgn (b.drop 4) }
  else if kind = 5 then { s with f13 := s.f13 ++ wgblocks (b.length + 1) b }
  else s
def wgcells (s : S53) (v d : Value) : Array Value := #[.int .i64 s.f0, .int .i64 s.f1, .int .u32 s.f2, .int .u32 s.f3, .int .i64 s.f4, .int .i64 s.f5, .int .i64 s.f6, .int .i64 s.f7, .int .i64 s.f8, .bool s.f9, .bool s.f10, .int .u32 s.f11, .int .u32 s.f12, v, d]
def Wgs (W : World) (base g : Nat) (s : S53) (d : Value) : Prop := base ≤ g ∧ ∃ v, W.heap[g]? = some (.cells (wgcells s v d) 53 (0, 0)) ∧ Kd.R k112 112 W base (fun _ => True) v s.f13
/-- Maps stay what they are. -/
def WKM (w w' : World) : Prop := ∀ (k : Nat) (es : Array MapEntry) (cl : Nat), w.heap[k]? = some (.map es cl) → w'.heap[k]? = some (.map es cl)
theorem WKM.refl (w : World) : WKM w w := fun _ _ _ h => h
theorem WKM.trans {a b c : World} (h : WKM a b) (k : WKM b c) : WKM a c := fun i es cl e => k i es cl (h i es cl e)
theorem WKM.drewN {a b : World} (h : WKM a b) (n : Nat) : WKM a (b.drewN n) := h
theorem WKM.drew {a b : World} (h : WKM a b) : WKM a b.drew := h
theorem WKM.alloc {a b : World} (h : WKM a b) (o : Obj) : WKM a (b.alloc o) := fun i es cl e => by
  have h1 := h i es cl e
  exact (Below.heap_alloc b o i (Array.getElem?_eq_some_iff.1 h1).1).trans h1
theorem WKM.setCell {a b : World} (h : WKM a b) (p : Addr) (u : Value) : WKM a (b.setCell p u) := fun i es cl e => by
  have h1 := h i es cl e
  simp only [World.setCell, Array.getElem?_modify]
  split
  · rw [h1]; rfl
  · exact h1
theorem WKM.grown {a b c : World} {row : Option Nat} (h : WKM a b) (hg : b.grownBy c row) (hr : ∀ k, row = some k → ∃ cells t z, b.heap[k]? = some (.cells cells t z)) : WKM a c := fun i es cl e => by
  have h1 := h i es cl e
  refine (hg.block i (Array.getElem?_eq_some_iff.1 h1).1 (fun e2 => ?_)).trans h1
  obtain ⟨cells, t, z, h2⟩ := hr i e2.symm
  rw [h1] at h2; cases h2
/-- Errors' variables stay what they are. -/
def WKE (w w' : World) : Prop := ∀ (k : Nat) (cs : Array Value), w.heap[k]? = some (.cells cs 100 (0, 0)) → w'.heap[k]? = some (.cells cs 100 (0, 0))
theorem WKE.refl (w : World) : WKE w w := fun _ _ h => h
theorem WKE.trans {a b c : World} (h : WKE a b) (k : WKE b c) : WKE a c := fun i cs e => k i cs (h i cs e)
theorem WKE.alloc {a b : World} (h : WKE a b) (o : Obj) : WKE a (b.alloc o) := fun i cs e => by
  have h1 := h i cs e
  exact (Below.heap_alloc b o i (Array.getElem?_eq_some_iff.1 h1).1).trans h1
theorem WKE.grown {a b c : World} {row : Option Nat} (h : WKE a b) (hg : b.grownBy c row) (hr : ∀ k, row = some k → ∀ cs, b.heap[k]? ≠ some (.cells cs 100 (0, 0))) : WKE a c := fun i cs e => by
  have h1 := h i cs e
  exact (hg.block i (Array.getElem?_eq_some_iff.1 h1).1 (fun e2 => hr i e2.symm cs h1)).trans h1
def WKX (w w' : World) : Prop := WKM w w' ∧ WKE w w'
theorem WKX.refl (w : World) : WKX w w := ⟨WKM.refl w, WKE.refl w⟩
theorem WKX.drewN {a b : World} (h : WKX a b) (n : Nat) : WKX a (b.drewN n) := h
theorem WKX.drew {a b : World} (h : WKX a b) : WKX a b.drew := h
theorem WKX.setCell {a b : World} (h : WKX a b) (p : Addr) (u : Value) (hp : ∃ cs, b.heap[p.block]? = some (.cells cs 53 (0, 0))) : WKX a (b.setCell p u) := ⟨h.1.setCell p u, fun i cs e => by
  have h1 := h.2 i cs e
  obtain ⟨cs', h2⟩ := hp
  exact (Below.heap_setCell b p u i (fun e => by rw [← e, h1] at h2; cases h2)).trans h1⟩
theorem WKX.grown {a b c : World} {row : Option Nat} (h : WKX a b) (hg : b.grownBy c row) (hr : ∀ k, row = some k → ∃ cells, b.heap[k]? = some (.cells cells 112 (0, 0))) : WKX a c :=
  ⟨h.1.grown hg (fun k hk => by obtain ⟨cs, hc⟩ := hr k hk; exact ⟨cs, _, _, hc⟩), h.2.grown hg (fun k hk cs hc => by obtain ⟨cs', hc'⟩ := hr k hk; rw [hc] at hc'; cases hc')⟩
theorem wg_ty_set {W : World} {g : Nat} (h : ∃ cs, W.heap[g]? = some (.cells cs 53 (0, 0))) (i : Nat) (u : Value) : ∃ cs, (W.setCell ⟨g, i, none⟩ u).heap[g]? = some (.cells cs 53 (0, 0)) := by
  obtain ⟨cs, h⟩ := h
  exact ⟨_, blk_set h i u⟩
theorem wgcells_ext {cs cs' : Array Value} {W : World} {g : Nat} {t : TypeId} (h : W.heap[g]? = some (.cells cs t (0, 0))) (e : cs = cs') : W.heap[g]? = some (.cells cs' t (0, 0)) := by rw [← e]; exact h
theorem Wgs.ty {W : World} {base g : Nat} {s : S53} {d : Value} (h : Wgs W base g s d) : ∃ cs, W.heap[g]? = some (.cells cs 53 (0, 0)) := by
  obtain ⟨hb, v, hh, hR⟩ := h
  exact ⟨_, hh⟩
theorem Wgs.draw {W : World} {base g : Nat} {s : S53} {d : Value} (h : Wgs W base g s d) (n : Nat) : Wgs (W.drewN n) base g s d := by
  obtain ⟨hb, v, hh, hR⟩ := h
  exact ⟨hb, v, hh, Kd.R_drewN hR n⟩
theorem Wgs.setc {W : World} {base g : Nat} {s s' : S53} {d : Value} (h : Wgs W base g s d) (i : Nat) (u : Value) (e : ∀ v, (wgcells s v d).setIfInBounds i u = wgcells s' v d) (e13 : s'.f13 = s.f13) : Wgs (W.setCell ⟨g, i, none⟩ u) base g s' d := by
  obtain ⟨hb, v, hh, hR⟩ := h
  exact ⟨hb, v, wgcells_ext (blk_set hh i u) (e v), by rw [e13]; exact Kd.R_set hR hh (by decide) i u⟩
theorem Wgs.cell {W : World} {base g : Nat} {s : S53} {d : Value} (h : Wgs W base g s d) (i : Nat) {u : Value} (e : ∀ v, (wgcells s v d)[i]? = some u) : W.cell? ⟨g, i, none⟩ = some u := by
  obtain ⟨hb, v, hh, hR⟩ := h
  exact (blk_cell hh i).trans (e v)
theorem Wgs.fz {W : World} {base g : Nat} {s : S53} {d : Value} (h : Wgs W base g s d) (i : Nat) : W.frozen? ⟨g, i, none⟩ = false := by
  obtain ⟨hb, v, hh, hR⟩ := h
  exact blk_frozen hh i
set_option maxHeartbeats 1000000 in
theorem wg_opt2 (g base : Nat) (s : S53) (d : Value) (A : Option Addr) (c : Nat) (b : List Int) (w : World) (hs : Wgs w base g s d) (hC : Kd.C (Kd.int .u8) w A b.length b) (hc : b.length ≤ c) (hb : wgb b) (hl : b.length ≤ 300) :
    Calls Try.prog 94 #[.pointer (some ⟨g, 0, none⟩), .int .u8 2, .slice A b.length c] w fun e w' => e = .returned (.tuple #[]) ∧ Wgs w' base g (wgopt s 2 b) d ∧ WKX w w' ∧ Below base w w' := by
  have HG := Lib.hid (wg_get b (by omega))
  have hbd := wgn_bd hb
  obtain ⟨n, hn⟩ : ∃ n, wgn b = n := ⟨_, rfl⟩
  rw [hn] at HG hbd
  have hw : wrap64 n = n := wg_w64 (by omega) (by omega)
  have HC := Lib.hid hC; have HS := Lib.hid hs; have HN := Lib.hid hn
  have hcell := hs.cell 7 (fun _ => rfl)
  have hfz := hs.fz 7
  clear hC hs hl hb hbd hn
  go_enter Try.func94, Try.ntmps94
  go_wp2_with (go_at_call 74; refine (wire_get.calls _ _ _ _ _ _ HC.out hc HG.out).mono ?_; rintro e w1 ⟨rfl, nd, rfl⟩)
  go_end0
  exact ⟨rfl, (HS.out.draw nd).setc (s' := wgopt s 2 b) 7 _ (fun _ => by rw [← HN.out]; rfl) rfl, ((WKX.refl w).drewN _).setCell _ _ HS.out.ty, (pw_below_drewN (Below.refl _ w) nd).setCell (p := ⟨g, 7, none⟩) HS.out.1 _⟩
set_option maxHeartbeats 1000000 in
theorem wg_opt3 (g base : Nat) (s : S53) (d : Value) (A : Option Addr) (c : Nat) (b : List Int) (w : World) (hs : Wgs w base g s d) (hC : Kd.C (Kd.int .u8) w A b.length b) (hc : b.length ≤ c) (hb : wgb b) (hl : b.length ≤ 300) (h1 : 1 ≤ b.length) :
    Calls Try.prog 94 #[.pointer (some ⟨g, 0, none⟩), .int .u8 3, .slice A b.length c] w fun e w' => e = .returned (.tuple #[]) ∧ Wgs w' base g (wgopt s 3 b) d ∧ WKX w w' ∧ Below base w w' := by
  have HS := Lib.hid hs
  have hcell := hs.cell 8 (fun _ => rfl)
  have hfz := hs.fz 8
  obtain ⟨ad, rfl, h0⟩ := Kd.at_int hC 0 (by omega) (by omega)
  have h0' : w.cell? ad = some (.int .u8 (b.getD 0 0)) := by have := h0; simpa [Addr.add, rd] using this
  have hw : wrap64 (b.getD 0 0) = b.getD 0 0 := by
    have hx := hb (b.getD 0 0) (by rw [List.getD_eq_getElem?_getD, List.getElem?_eq_getElem (by omega)]; exact List.getElem_mem _)
    exact wg_w64 (by omega) (by omega)
  obtain ⟨x, hx⟩ : ∃ x, b.getD 0 0 = x := ⟨_, rfl⟩
  rw [hx] at h0' hw
  have HX := Lib.hid hx
  clear h0 hx
  clear hC hs hl hb
  go_enter Try.func94, Try.ntmps94
  go_wp2
  · go_end0
    exact ⟨rfl, (HS.out).setc (s' := wgopt s 3 b) 8 _ (fun _ => by simp only [wgopt, HX.out, mn]; rw [if_neg (by decide), if_pos trivial, if_pos (by omega)]; rfl) rfl, (WKX.refl w).setCell _ _ HS.out.ty, (Below.refl _ w).setCell (p := ⟨g, 8, none⟩) HS.out.1 _⟩
  · go_end0
    exact ⟨rfl, (HS.out).setc (s' := wgopt s 3 b) 8 _ (fun _ => by simp only [wgopt, HX.out, mn]; rw [if_neg (by decide), if_pos trivial, if_neg (by omega)]; rfl) rfl, (WKX.refl w).setCell _ _ HS.out.ty, (Below.refl _ w).setCell (p := ⟨g, 8, none⟩) HS.out.1 _⟩
theorem wg_opt4 (g base : Nat) (s : S53) (d : Value) (A : Option Addr) (c : Nat) (b : List Int) (w : World) (hs : Wgs w base g s d) :
    Calls Try.prog 94 #[.pointer (some ⟨g, 0, none⟩), .int .u8 4, .slice A b.length c] w fun e w' => e = .returned (.tuple #[]) ∧ Wgs w' base g (wgopt s 4 b) d ∧ WKX w w' ∧ Below base w w' := by
  have HS := Lib.hid hs
  have hcell := hs.cell 9 (fun _ => rfl)
  have hfz := hs.fz 9
  clear hs
  go_enter Try.func94, Try.ntmps94
  go_wp2
  go_end0
  exact ⟨rfl, (HS.out).setc (s' := wgopt s 4 b) 9 _ (fun _ => rfl) rfl, (WKX.refl w).setCell _ _ HS.out.ty, (Below.refl _ w).setCell (p := ⟨g, 9, none⟩) HS.out.1 _⟩
theorem wg_opt_else (g base : Nat) (s : S53) (d : Value) (A : Option Addr) (c : Nat) (b : List Int) (w : World) (hs : Wgs w base g s d) (kind : Int) (h2 : kind ≠ 2) (h3 : kind ≠ 3) (h4 : kind ≠ 4) (h8 : kind ≠ 8) (h5 : kind ≠ 5) :
    Calls Try.prog 94 #[.pointer (some ⟨g, 0, none⟩), .int .u8 kind, .slice A b.length c] w fun e w' => e = .returned (.tuple #[]) ∧ Wgs w' base g (wgopt s kind b) d ∧ WKX w w' ∧ Below base w w' := by
  have HS := Lib.hid hs
  have e2 : (kind == 2) = false := beq_false_of_ne h2
  have e3 : (kind == 3) = false := beq_false_of_ne h3
  have e4 : (kind == 4) = false := beq_false_of_ne h4
  have e8 : (kind == 8) = false := beq_false_of_ne h8
  have e5 : (kind == 5) = false := beq_false_of_ne h5
  have HE := Lib.hid (show wgopt s kind b = s from by unfold wgopt; rw [if_neg h2, if_neg h3, if_neg h4, if_neg h8, if_neg h5])
  clear hs h2 h3 h4 h8 h5
  go_enter Try.func94, Try.ntmps94
  go_wp2
  go_end0
  exact ⟨rfl, by rw [HE.out]; exact HS.out, WKX.refl w, Below.refl _ w⟩
set_option maxRecDepth 100000 in
set_option maxHeartbeats 4000000 in
theorem wg_opt8 (g base : Nat) (s : S53) (d : Value) (A : Option Addr) (c : Nat) (b : List Int) (w : World) (hs : Wgs w base g s d) (hC : Kd.C (Kd.int .u8) w A b.length b) (hc : b.length ≤ c) (hb : wgb b) (hl : b.length = 8) :
    Calls Try.prog 94 #[.pointer (some ⟨g, 0, none⟩), .int .u8 8, .slice A b.length c] w fun e w' => e = .returned (.tuple #[]) ∧ Wgs w' base g (wgopt s 8 b) d ∧ WKX w w' ∧ Below base w w' := by
  have HS := Lib.hid hs
  obtain ⟨u0, hu0, _, hsz, _⟩ := info_parts info5
  have cut1 := cut_to (P := Try.prog) 34 5 .i64 Try.underlying34 hu0 A b.length c (4 : Int) (by omega) (by omega) hc
  have cut2 := cut_from (P := Try.prog) 34 5 .i64 Try.underlying34 hu0 1 hsz A b.length c (4 : Int) (by omega) (by omega)
  simp only [show ((4 : Int)).toNat = 4 from rfl, Nat.mul_one] at cut1 cut2
  obtain ⟨A2, hA2⟩ : ∃ A2, (if c = 4 then A else A.map (·.add 4)) = A2 := ⟨_, rfl⟩
  rw [hA2] at cut2
  have R1 := Kd.C_take (m := 4) hC (by omega)
  have R2 := Kd.C_drop (m := 4) (c := c) hC (by omega) hc
  rw [show 4 * (Kd.int .u8).sz = 4 from rfl, hA2] at R2
  have l1 : (b.take 4).length = 4 := by rw [List.length_take]; omega
  have l2 : (b.drop 4).length = b.length - 4 := List.length_drop
  have G1 := wg_get (b.take 4) (by omega)
  have G2 := wg_get (b.drop 4) (by omega)
  obtain ⟨n1, hn1⟩ : ∃ n, wgn (b.take 4) = n := ⟨_, rfl⟩
  obtain ⟨n2, hn2⟩ : ∃ n, wgn (b.drop 4) = n := ⟨_, rfl⟩
  rw [hn1] at G1; rw [hn2] at G2
  have K1 := Lib.hid (fun (W : World) (hC : Kd.C (Kd.int .u8) W A (b.take 4).length (b.take 4)) => wire_get.calls _ A c (b.take 4) n1 W hC (by omega) G1)
  have K2 := Lib.hid (fun (W : World) (hC : Kd.C (Kd.int .u8) W A2 (b.drop 4).length (b.drop 4)) => wire_get.calls _ A2 (c - 4) (b.drop 4) n2 W hC (by omega) G2)
  rw [l1] at K1; rw [l2] at K2
  have HR1 := Lib.hid R1; have HR2 := Lib.hid R2
  rw [l1] at HR1; rw [l2] at HR2
  have q10 := hs.cell 10 (fun _ => rfl)
  have q11 := hs.cell 11 (fun _ => rfl)
  have q12 := hs.cell 12 (fun _ => rfl)
  have z10 := hs.fz 10
  have z11 := hs.fz 11
  have z12 := hs.fz 12
  have HL := Lib.hid hl; have HN1 := Lib.hid hn1; have HN2 := Lib.hid hn2
  clear hs hC hA2 R1 R2 l1 l2 G1 G2 hl hn1 hn2 hb
  go_enter Try.func94, Try.ntmps94
  go_upto_region 8 with (fail)
  go_region_held3 (fun W => True) (trivial) (first
    | (go_at_call 74; with_reducible refine (K1.out _ ?row).mono ?_; (case row => repeat (first | with_reducible exact HR1.out | with_reducible refine Kd.C_drewN ?_ _ | with_reducible refine Kd.C_drew ?_)); rintro e w1 ⟨rfl, nd, rfl⟩)
    | (go_at_call 74; with_reducible refine (K2.out _ ?row).mono ?_; (case row => repeat (first | with_reducible exact HR2.out | with_reducible refine Kd.C_drewN ?_ _ | with_reducible refine Kd.C_drew ?_)); rintro e w1 ⟨rfl, nd, rfl⟩))
  go_wp2
  go_end0
  refine ⟨rfl, ?_, ((((WKX.refl w).drewN _).setCell _ _ HS.out.ty).setCell _ _ (wg_ty_set HS.out.ty _ _)).setCell _ _ (wg_ty_set (wg_ty_set HS.out.ty _ _) _ _), (((pw_below_drewN (Below.refl _ w) _).setCell (p := ⟨g, 10, none⟩) HS.out.1 _).setCell (p := ⟨g, 11, none⟩) HS.out.1 _).setCell (p := ⟨g, 12, none⟩) HS.out.1 _⟩
  exact (((HS.out.draw _).setc (s' := { s with f10 := true }) 10 _ (fun _ => rfl) rfl).setc (s' := { s with f10 := true, f11 := n1 }) 11 _ (fun _ => rfl) rfl).setc (s' := wgopt s 8 b) 12 _ (fun _ => by rw [← HN1.out, ← HN2.out]; rfl) rfl
set_option maxRecDepth 100000 in
set_option maxHeartbeats 8000000 in
theorem wg_opt5 (g : Nat) (s : S53) (d : Value) (A : Option Addr) (c : Nat) (b : List Int) (w0 w : World) (hB : Below w0.heap.size w0 w) (hs : Wgs w w0.heap.size g s d) (hC : Kd.C (Kd.int .u8) w0 A b.length b) (hc : b.length ≤ c) (hb : wgb b) (hl : b.length ≤ 300) (h8 : b.length % 8 = 0) (hn : s.f13.length ≤ 1000) :
    Calls Try.prog 94 #[.pointer (some ⟨g, 0, none⟩), .int .u8 5, .slice A b.length c] w fun e w' => e = .returned (.tuple #[]) ∧ Wgs w' w0.heap.size g (wgopt s 5 b) d ∧ WKX w w' ∧ Below w0.heap.size w0 w' := by
  have HB0 := Lib.hid hB; have HS0 := Lib.hid hs; have HC0 := Lib.hid hC; have HBB := Lib.hid hb; have HLL := Lib.hid hl; have H8 := Lib.hid h8; have HN := Lib.hid hn
  clear hB hs hC hb hl h8 hn
  go_enter Try.func94, Try.ntmps94
  go_wp2_with fail
  go_loopg [2] b.length (fun m v2 wr => ∃ (A1 : Option Addr) (c1 : Nat) (bk : List Int) (cur : S53), bk.length = m ∧ v2 = .slice A1 bk.length c1 ∧ bk.length ≤ c1 ∧ Hid (bk.length % 8 = 0) ∧ Hid (wgb bk) ∧ Hid (Kd.C (Kd.int .u8) w0 A1 bk.length bk) ∧ Hid (Wgs wr w0.heap.size g cur d) ∧ Hid (WKX w wr) ∧ Hid (Below w0.heap.size w0 wr) ∧ Hid (wgopt s 5 b = { cur with f13 := cur.f13 ++ wgblocks (bk.length + 1) bk }) ∧ Hid (cur.f13.length + bk.length ≤ 1300))
  case atStart => exact ⟨A, c, b, s, rfl, rfl, hc, H8, HBB, HC0, HS0, Lib.hid (WKX.refl w), HB0, Lib.hid rfl, Lib.hid (by have := HN.out; have := HLL.out; omega)⟩
  case round =>
    obtain ⟨A1, c1, bk, cur, hm, rfl, hc1, HM, HBK, HC1, HS, HKM, HB, HE, HLN0⟩ := hrel
    by_cases hz : bk.length = 0
    · have h0 : ¬ 0 < bk.length := by omega
      have HZ := Lib.hid hz; clear hz
      go_wp2
      go_end0
      have hcur : wgopt s 5 b = cur := by rw [HE.out, wgblocks, if_pos HZ.out, List.append_nil]
      exact ⟨rfl, by rw [hcur]; exact HS.out, HKM.out, HB.out⟩
    · have h0 : 0 < bk.length := by omega
      have h8 : 8 ≤ bk.length := by have := HM.out; omega
      obtain ⟨u0, hu0, _, hsz, _⟩ := info_parts info5
      have cut1 := cut_to (P := Try.prog) 34 5 .i64 Try.underlying34 hu0 A1 bk.length c1 (4 : Int) (by omega) (by omega) hc1
      have cut2 := cut_mid (P := Try.prog) 34 5 .i64 .i64 Try.underlying34 hu0 1 hsz A1 bk.length c1 (4 : Int) (8 : Int) (by omega) (by omega) (by omega) hc1
      have cut3 := cut_from (P := Try.prog) 34 5 .i64 Try.underlying34 hu0 1 hsz A1 bk.length c1 (8 : Int) (by omega) (by omega)
      simp only [show ((4 : Int)).toNat = 4 from rfl, show ((8 : Int)).toNat = 8 from rfl, Nat.mul_one, show 8 - 4 = 4 from rfl] at cut1 cut2 cut3
      obtain ⟨A2, hA2⟩ : ∃ a, (if c1 = 4 then A1 else A1.map (·.add 4)) = a := ⟨_, rfl⟩
      obtain ⟨A3, hA3⟩ : ∃ a, (if c1 = 8 then A1 else A1.map (·.add 8)) = a := ⟨_, rfl⟩
      rw [hA2] at cut2
      rw [hA3] at cut3
      have R1 := Kd.C_take (m := 4) HC1.out (by omega)
      have R2 := Kd.C_mid (lo := 4) (hi := 8) (c := c1) HC1.out (by omega) h8 hc1
      have R3 := Kd.C_drop (m := 8) (c := c1) HC1.out h8 hc1
      rw [show 4 * (Kd.int .u8).sz = 4 from rfl, hA2] at R2
      rw [show 8 * (Kd.int .u8).sz = 8 from rfl, hA3] at R3
      have l1 : (bk.take 4).length = 4 := by rw [List.length_take]; omega
      have l2 : ((bk.take 8).drop 4).length = 4 := by rw [List.length_drop, List.length_take]; omega
      have l3 : (bk.drop 8).length = bk.length - 8 := List.length_drop
      have G1 := wg_get (bk.take 4) (by omega)
      have G2 := wg_get ((bk.take 8).drop 4) (by omega)
      obtain ⟨n1, hn1⟩ : ∃ n, wgn (bk.take 4) = n := ⟨_, rfl⟩
      obtain ⟨n2, hn2⟩ : ∃ n, wgn ((bk.take 8).drop 4) = n := ⟨_, rfl⟩
      rw [hn1] at G1; rw [hn2] at G2
      have K1 := Lib.hid (fun (W : World) (hB : Below w0.heap.size w0 W) => wire_get.calls _ A1 c1 (bk.take 4) n1 W (Kd.C_below R1 hB) (by omega) G1)
      have K2 := Lib.hid (fun (W : World) (hB : Below w0.heap.size w0 W) => wire_get.calls _ A2 (c1 - 4) ((bk.take 8).drop 4) n2 W (Kd.C_below R2 hB) (by omega) G2)
      rw [l1] at K1; rw [l2] at K2
      have HBE := Lib.hid (show wgopt s 5 b = { cur with f13 := cur.f13 ++ [⟨n1, n2⟩] ++ wgblocks (bk.length - 8 + 1) (bk.drop 8) } by
        rw [HE.out, wgblocks, if_neg hz, hn1, hn2, List.append_assoc, List.singleton_append]
        rw [wgblocks_up bk.length (bk.drop 8) (by rw [l3]; omega), l3])
      obtain ⟨hbg, v, hh, hR⟩ := HS.out
      have HH := Lib.hid hh; have HR := Lib.hid hR; have HBG := Lib.hid hbg
      have HLN := Lib.hid (show (cur.f13.length + 1) * 8 ≤ 140737488355328 by have := HLN0.out; omega)
      have HGK := Lib.hid hm; have HR3 := Lib.hid R3; have HL3 := Lib.hid l3; have HGE := Lib.hid h8
      have hc3 : bk.length - 8 ≤ c1 - 8 := by omega
      clear hA2 hA3 R1 R2 R3 l1 l2 l3 G1 G2 hn1 hn2 hh hR hbg HE HS hz h8 hm
      go_upto_region 12 with (fail)
      refine start_ (n := 17) (S := fun w' => w'.cell? ⟨g, 13, none⟩ = some v) (ds := [13, 16]) #[O,O,O,O,O,O,O,O,O,O,O,O,O,O,O,O,O] (by kernel_rfl) rfl rfl (((blk_cell HH.out 13).trans rfl)) (fun hHeld => ?_)
      refine pure_ (i := 0) (N := some 54) (v := ?_) (a' := ?_) #[I,O,O,O,O,O,O,O,O,O,O,O,O,O,O,O,O] rfl rfl (by kernel_rfl) (fun _ _ _ h => h) (Or.inl ⟨by rfl, ?_⟩) ?_ ?_
      rotate_left
      · intro w'
        go_simp
        with_reducible rfl
      rotate_left
      · simp only [Act.put, sA_, sZ_, sS_, i64_w, i32_w]
        rfl
      refine pure_ (i := 1) (N := some 55) (v := ?_) (a' := ?_) #[I,I,O,O,O,O,O,O,O,O,O,O,O,O,O,O,O] rfl rfl (by kernel_rfl) (fun _ _ _ h => h) (Or.inl ⟨by rfl, ?_⟩) ?_ ?_
      rotate_left
      · intro w'
        go_simp
        with_reducible rfl
      rotate_left
      · simp only [Act.put, sA_, sZ_, sS_, i64_w, i32_w]
        rfl
      refine pure_ (i := 2) (N := some 56) (v := ?_) (a' := ?_) #[I,I,I,O,O,O,O,O,O,O,O,O,O,O,O,O,O] rfl rfl (by kernel_rfl) (fun _ _ _ h => h) (Or.inl ⟨by rfl, ?_⟩) ?_ ?_
      rotate_left
      · intro w'
        go_simp
        with_reducible rfl
      rotate_left
      · simp only [Act.put, sA_, sZ_, sS_, i64_w, i32_w]
        rfl
      refine pure_ (i := 3) (N := some 57) (v := ?_) (a' := ?_) #[I,I,I,I,O,O,O,O,O,O,O,O,O,O,O,O,O] rfl rfl (by kernel_rfl) (fun _ _ _ h => h) (Or.inl ⟨by rfl, ?_⟩) ?_ ?_
      rotate_left
      · intro w'
        go_simp
        with_reducible rfl
      rotate_left
      · simp only [Act.put, sA_, sZ_, sS_, i64_w, i32_w]
        rfl
      refine pure_ (i := 5) (N := some 59) (v := ?_) (a' := ?_) #[I,I,I,I,O,I,O,O,O,O,O,O,O,O,O,O,O] rfl rfl (by kernel_rfl) (fun _ _ _ h => h) (Or.inl ⟨by rfl, ?_⟩) ?_ ?_
      rotate_left
      · intro w'
        go_simp
        with_reducible rfl
      rotate_left
      · simp only [Act.put, sA_, sZ_, sS_, i64_w, i32_w]
        rfl
      refine pure_ (i := 6) (N := some 60) (v := ?_) (a' := ?_) #[I,I,I,I,O,I,I,O,O,O,O,O,O,O,O,O,O] rfl rfl (by kernel_rfl) (fun _ _ _ h => h) (Or.inl ⟨by rfl, ?_⟩) ?_ ?_
      rotate_left
      · intro w'
        go_simp
        with_reducible rfl
      rotate_left
      · simp only [Act.put, sA_, sZ_, sS_, i64_w, i32_w]
        rfl
      refine pure_ (i := 8) (N := some 62) (v := ?_) (a' := ?_) #[I,I,I,I,O,I,I,O,I,O,O,O,O,O,O,O,O] rfl rfl (by kernel_rfl) (fun _ _ _ h => h) (Or.inl ⟨by rfl, ?_⟩) ?_ ?_
      rotate_left
      · intro w'
        go_simp
        with_reducible rfl
      rotate_left
      · simp only [Act.put, sA_, sZ_, sS_, i64_w, i32_w]
        rfl
      refine pure_ (i := 9) (N := some 63) (v := ?_) (a' := ?_) #[I,I,I,I,O,I,I,O,I,I,O,O,O,O,O,O,O] rfl rfl (by kernel_rfl) (fun _ _ _ h => h) (Or.inl ⟨by rfl, ?_⟩) ?_ ?_
      rotate_left
      · intro w'
        go_simp
        with_reducible rfl
      rotate_left
      · simp only [Act.put, sA_, sZ_, sS_, i64_w, i32_w]
        rfl
      refine take_ (i := 4) (N := some 58) (v := ?_) (a' := ?_) #[I,I,I,I,I,I,I,O,I,I,O,O,O,O,O,O,O] rfl rfl (by kernel_rfl) (fun _ _ _ h => h) (Or.inl ⟨by rfl, ?_⟩) hHeld ?_ ?_
      rotate_left
      · intro w' s0
        go_simp
        with_reducible rfl
      rotate_left
      · simp only [Act.put, sA_, sZ_, sS_, i64_w, i32_w]
        rfl
      refine one_ (i := 7) (N := some 61) #[I,I,I,I,I,I,I,I,I,I,O,O,O,O,O,O,O] rfl rfl (by kernel_rfl) (by decide) (fun K hK => ?_)
      refine goes_ Try.func74 (by kernel_rfl) rfl #[.slice A1 4 c1] (by rfl) rfl rfl (by simp only [List.map_toArray, List.map_cons, List.map_nil]; rfl) ?_
      with_reducible refine (K1.out _ (by repeat (first | exact HB.out | with_reducible apply below_drew1 | with_reducible refine pw_below_drewN ?_ _ | with_reducible refine below_alloc ?_ _))).mono ?_
      rintro e w7 ⟨rfl, nd1, rfl⟩
      refine ⟨_, rfl, ?_⟩
      refine hK.out _ _ (hHeld) (fun hHeld => ?_)
      clear hK K
      refine norm_ (a' := ?_) ?_ ?_
      rotate_left
      · show Act.put _ (some 61) _ = _
        simp only [Act.put, sA_, sZ_, sS_, i64_w, i32_w]
        rfl
      refine one_ (i := 10) (N := some 64) #[I,I,I,I,I,I,I,I,I,I,I,O,O,O,O,O,O] rfl rfl (by kernel_rfl) (by decide) (fun K hK => ?_)
      refine goes_ Try.func74 (by kernel_rfl) rfl #[.slice A2 4 (c1 - 4)] (by rfl) rfl rfl (by simp only [List.map_toArray, List.map_cons, List.map_nil]; rfl) ?_
      with_reducible refine (K2.out _ (by repeat (first | exact HB.out | with_reducible apply below_drew1 | with_reducible refine pw_below_drewN ?_ _ | with_reducible refine below_alloc ?_ _))).mono ?_
      rintro e w7 ⟨rfl, nd2, rfl⟩
      refine ⟨_, rfl, ?_⟩
      refine hK.out _ _ (hHeld) (fun hHeld => ?_)
      clear hK K
      refine norm_ (a' := ?_) ?_ ?_
      rotate_left
      · show Act.put _ (some 64) _ = _
        simp only [Act.put, sA_, sZ_, sS_, i64_w, i32_w]
        rfl
      refine pure_ (i := 11) (N := some 65) (v := ?_) (a' := ?_) #[I,I,I,I,I,I,I,I,I,I,I,I,O,O,O,O,O] rfl rfl (by kernel_rfl) (fun _ _ _ h => h) (Or.inl ⟨by rfl, ?_⟩) ?_ ?_
      rotate_left
      · intro w'
        go_simp
        with_reducible rfl
      rotate_left
      · simp only [Act.put, sA_, sZ_, sS_, i64_w, i32_w]
        rfl
      refine one_ (i := 12) (N := some 66) #[I,I,I,I,I,I,I,I,I,I,I,I,I,O,O,O,O] rfl rfl (by kernel_rfl) (by decide) (fun K hK => ?_)
      refine value_ (w1 := ?_) (v := ?_) (by rfl) rfl ?_ ?_
      rotate_left 2
      · go_simp
        constructor
        · rfl
        · rfl
      refine hK.out _ _ ((((below_alloc (Below.refl _ _) _).cell (World.block_lt_of_cell? _ _ hHeld)).trans hHeld)) (fun hHeld => ?_)
      clear hK K
      refine norm_ (a' := ?_) ?_ ?_
      rotate_left
      · show Act.put _ (some 66) _ = _
        simp only [Act.put, sA_, sZ_, sS_, i64_w, i32_w]
        rfl
      refine last_ (i := 13) (N := some 67) #[I,I,I,I,I,I,I,I,I,I,I,I,I,I,O,O,O] rfl rfl (by kernel_rfl) (by decide) (fun K hK => ?_)
      refine Kd.R_append_step k112 (w0 := w0) w0.heap.size (by rfl) (.tmp 58) (.tmp 66) 51 112 (.agg #[.int .u32 0, .int .u32 0]) 8 (by rfl) Try.underlying51 wg_info (by rfl) (by decide) (by decide) v cur.f13 ⟨n1, n2⟩ [.int .u32 n1, .int .u32 n2] (fun _ => True) (fun _ => False) (by rfl) (by rfl) (k112_mkM _ _ _ _) (fun _ h => h.elim) (fun _ _ => trivial) (by repeat (first | exact HR.out | with_reducible refine Kd.R_drew ?_ | with_reducible refine Kd.R_drewN ?_ _)) (by repeat (first | exact HB.out | with_reducible apply below_drew1 | with_reducible refine pw_below_drewN ?_ _ | with_reducible refine below_alloc ?_ _)) (by have h_ := Below.size (by repeat (first | exact HB.out | with_reducible apply below_drew1 | with_reducible refine pw_below_drewN ?_ _ | with_reducible refine below_alloc ?_ _)); exact h_) HLN.out ?_
      intro v1 w1 hR1 hB1 hg1 hat1
      obtain ⟨Av, cv, ev⟩ := Kd.R_slice hR1
      rw [List.length_append, List.length_singleton] at ev
      subst ev
      refine hK.out _ _ ?_
      clear hK K
      refine norm_ (a' := ?_) ?_ ?_
      rotate_left
      · show Act.put _ (some 67) _ = _
        simp only [Act.put, sA_, sZ_, sS_, i64_w, i32_w]
        rfl
      refine pure_ (i := 14) (N := some 68) (v := ?_) (a' := ?_) #[I,I,I,I,I,I,I,I,I,I,I,I,I,I,I,O,O] rfl rfl (by kernel_rfl) (fun _ _ _ h => h) (Or.inl ⟨by rfl, ?_⟩) ?_ ?_
      rotate_left
      · intro w'
        go_simp
        with_reducible rfl
      rotate_left
      · simp only [Act.put, sA_, sZ_, sS_, i64_w, i32_w]
        rfl
      refine pure_ (i := 15) (N := some 69) (v := ?_) (a' := ?_) #[I,I,I,I,I,I,I,I,I,I,I,I,I,I,I,I,O] rfl rfl (by kernel_rfl) (fun _ _ _ h => h) (Or.inl ⟨by rfl, ?_⟩) ?_ ?_
      rotate_left
      · intro w'
        go_simp
        with_reducible rfl
      rotate_left
      · simp only [Act.put, sA_, sZ_, sS_, i64_w, i32_w]
        rfl
      refine last_ (i := 16) (N := none) #[I,I,I,I,I,I,I,I,I,I,I,I,I,I,I,I,I] rfl rfl (by kernel_rfl) (by decide) (fun K hK => ?_)
      have hh1 := blk_grown (by repeat (first | exact HH.out | with_reducible refine blk_drew ?_ | with_reducible refine blk_drewN ?_ _)) hg1 (Kd.R_ne HR.out HH.out (by decide))
      have hs13 : w1.cell? ⟨g, 13, none⟩ = some v := (blk_cell hh1 13).trans rfl
      have hf13 : w1.frozen? ⟨g, 13, none⟩ = false := blk_frozen hh1 13
      refine skip_ (w1 := ?_) (by rfl) rfl ?_ ?_
      rotate_left
      · go_simp
        rfl
      refine hK.out _ _ ?_
      clear hK K
      refine done_ (by kernel_rfl) ?_
      have HW := Lib.hid (show Wgs (w1.setCell ⟨g, 13, none⟩ (.slice Av (cur.f13.length + 1) cv)) w0.heap.size g { cur with f13 := cur.f13 ++ [⟨n1, n2⟩] } d from ⟨HBG.out, _, wgcells_ext (blk_set hh1 13 _) rfl, Kd.R_set hR1 hh1 (by decide) 13 _⟩)
      have HB9 := Lib.hid (show Below w0.heap.size w0 (w1.setCell ⟨g, 13, none⟩ (.slice Av (cur.f13.length + 1) cv)) from hB1.setCell (p := ⟨g, 13, none⟩) HBG.out _)
      have HKM9 := Lib.hid (show WKX w (w1.setCell ⟨g, 13, none⟩ (.slice Av (cur.f13.length + 1) cv)) from (WKX.grown (b := _) (by repeat (first | exact HKM.out | with_reducible refine WKX.drewN ?_ _ | with_reducible refine WKX.drew ?_)) hg1 (fun k hk => by obtain ⟨cells, hc⟩ := Kd.R_typed HR.out k hk; exact ⟨cells, hc⟩)).setCell _ _ ⟨_, hh1⟩)
      clear hR1 hB1 hg1 hat1 hh1 hs13 hf13
      generalize w1.setCell ⟨g, 13, none⟩ (.slice Av (cur.f13.length + 1) cv) = w9 at HW HKM9 HB9 ⊢
      go_wp2
      go_roundg (gk - 8)
      case measure => have := HGE.out; have := HGK.out; omega
      case rel =>
        have e1 := HL3.out
        refine ⟨A3, c1 - 8, bk.drop 8, { cur with f13 := cur.f13 ++ [⟨n1, n2⟩] }, by rw [e1, HGK.out], by rw [e1], by rw [e1]; exact hc3, Lib.hid (by have := HM.out; have := HGE.out; omega), Lib.hid (fun x hx => HBK.out x (List.mem_of_mem_drop hx)), HR3, HW, HKM9, HB9, Lib.hid ?_, Lib.hid ?_⟩
        · rw [HBE.out, e1]
        · have := HLN0.out; have := HGE.out
          rw [List.length_append, List.length_singleton, e1]; omega
/-! ### read -/
def wgknown (kind : Int) : Bool := kind == 2 || (kind == 3 || (kind == 4 || (kind == 8 || kind == 5)))
def wglen (kind n : Int) : Bool := if kind = 2 then n == 4 else if kind = 3 then n == 3 else if kind = 4 then n == 2 else if kind = 8 then n == 10 else if kind = 5 then decide (2 < n) && (decide (n ≤ 34) && n % 8 == 2) else true
theorem wg_and7 : ∀ n < 256, Go.bits .and .i64 (n : Nat) 7 = ((n % 8 : Nat) : Int) := by decide +kernel
theorem wg_length (kind n : Int) (h0 : 0 ≤ n) (h1 : n ≤ 255) : wire_length.f kind n = some (wglen kind n, wgknown kind) := by
  unfold wire_length.f wglen wgknown
  by_cases k2 : kind = 2
  · subst k2; rfl
  by_cases k3 : kind = 3
  · subst k3; rfl
  by_cases k4 : kind = 4
  · subst k4; rfl
  by_cases k8 : kind = 8
  · subst k8; rfl
  rw [if_neg k2, if_neg k3, if_neg k4, if_neg k8, if_neg k2, if_neg k3, if_neg k4, if_neg k8, beq_false_of_ne k2, beq_false_of_ne k3, beq_false_of_ne k4, beq_false_of_ne k8]
  by_cases k5 : kind = 5
  · subst k5
    obtain ⟨m, rfl⟩ := Int.eq_ofNat_of_zero_le h0
    rw [if_pos rfl, if_pos rfl, wg_and7 m (by omega)]
    by_cases a : (m : Int) > 2
    · rw [if_pos a, decide_eq_true (show (2 : Int) < m from a)]
      by_cases b : (m : Int) ≤ 34
      · rw [if_pos b, decide_eq_true b]; rfl
      · rw [if_neg b, decide_eq_false b]; rfl
    · rw [if_neg a, decide_eq_false (show ¬ (2 : Int) < m from a)]; rfl
  · rw [if_neg k5, if_neg k5, beq_false_of_ne k5]; rfl
def wgrd : Nat → S53 → List Int → List Int → Option S53
  | 0, _, _, _ => none
  | k + 1, s, seen, b =>
    if b.length = 0 then some s
    else if b.getD 0 0 = 0 then some s
    else if b.getD 0 0 = 1 then wgrd k s seen (b.drop 1)
    else if 2 ≤ b.length ∧ 2 ≤ b.getD 1 0 ∧ b.getD 1 0 ≤ b.length ∧ wglen (b.getD 0 0) (b.getD 1 0) = true ∧ (wgknown (b.getD 0 0) && seen.contains (b.getD 0 0)) = false then
      wgrd k (wgopt s (b.getD 0 0) ((b.take (b.getD 1 0).toNat).drop 2)) (b.getD 0 0 :: seen) (b.drop (b.getD 1 0).toNat)
    else none
theorem wgrd_up : ∀ (k : Nat) (s : S53) (seen b : List Int), b.length < k → wgrd k s seen b = wgrd (b.length + 1) s seen b
  | 0, _, _, _, h => by omega
  | k + 1, s, seen, b, h => by
    rw [wgrd, wgrd]
    by_cases h0 : b.length = 0
    · rw [if_pos h0, if_pos h0]
    rw [if_neg h0, if_neg h0]
    by_cases h1 : b.getD 0 0 = 0
    · rw [if_pos h1, if_pos h1]
    rw [if_neg h1, if_neg h1]
    by_cases h2 : b.getD 0 0 = 1
    · rw [if_pos h2, if_pos h2]
      have hd : (b.drop 1).length < b.length := by rw [List.length_drop]; omega
      rw [wgrd_up k _ _ _ (by omega), wgrd_up b.length _ _ _ hd]
    rw [if_neg h2, if_neg h2]
    by_cases h3 : 2 ≤ b.length ∧ 2 ≤ b.getD 1 0 ∧ b.getD 1 0 ≤ b.length ∧ wglen (b.getD 0 0) (b.getD 1 0) = true ∧ (wgknown (b.getD 0 0) && seen.contains (b.getD 0 0)) = false
    · rw [if_pos h3, if_pos h3]
      have hd : (b.drop (b.getD 1 0).toNat).length < b.length := by rw [List.length_drop]; omega
      rw [wgrd_up k _ _ _ (by omega), wgrd_up b.length _ _ _ hd]
    · rw [if_neg h3, if_neg h3]
theorem wg_blocks_len : ∀ (k : Nat) (b : List Int), (wgblocks k b).length ≤ b.length
  | 0, _ => by simp [wgblocks]
  | k + 1, b => by
    rw [wgblocks]
    by_cases h : b.length = 0
    · rw [if_pos h]; simp
    · rw [if_neg h, List.length_cons]
      have := wg_blocks_len k (b.drop 8)
      rw [List.length_drop] at this
      omega
theorem wgopt_len (s : S53) (kind : Int) (b : List Int) : (wgopt s kind b).f13.length ≤ s.f13.length + b.length := by
  unfold wgopt
  have := wg_blocks_len (b.length + 1) b
  repeat' split
  all_goals (first | (simp only []; omega) | (simp only [List.length_append]; omega) | omega)
/-- One option, whatever its kind. -/
theorem wg_opt (g : Nat) (s : S53) (d : Value) (A : Option Addr) (c : Nat) (b : List Int) (kind : Int) (w0 w : World) (hB : Below w0.heap.size w0 w) (hs : Wgs w w0.heap.size g s d) (hC : Kd.C (Kd.int .u8) w0 A b.length b) (hc : b.length ≤ c) (hb : wgb b) (hl : b.length ≤ 300) (hk : wglen kind (b.length + 2) = true) (hn : s.f13.length ≤ 1000) :
    Calls Try.prog 94 #[.pointer (some ⟨g, 0, none⟩), .int .u8 kind, .slice A b.length c] w fun e w' => e = .returned (.tuple #[]) ∧ Wgs w' w0.heap.size g (wgopt s kind b) d ∧ WKX w w' ∧ Below w0.heap.size w0 w' := by
  unfold wglen at hk
  have up : ∀ {kd : Int}, Calls Try.prog 94 #[.pointer (some ⟨g, 0, none⟩), .int .u8 kd, .slice A b.length c] w (fun e w' => e = .returned (.tuple #[]) ∧ Wgs w' w0.heap.size g (wgopt s kd b) d ∧ WKX w w' ∧ Below w0.heap.size w w') → Calls Try.prog 94 #[.pointer (some ⟨g, 0, none⟩), .int .u8 kd, .slice A b.length c] w (fun e w' => e = .returned (.tuple #[]) ∧ Wgs w' w0.heap.size g (wgopt s kd b) d ∧ WKX w w' ∧ Below w0.heap.size w0 w') :=
    fun h => h.mono (fun e w' ⟨h1, h2, h3, h4⟩ => ⟨h1, h2, h3, hB.trans h4⟩)
  by_cases k2 : kind = 2
  · subst k2; exact up (wg_opt2 g _ s d A c b w hs (Kd.C_below hC hB) hc hb hl)
  by_cases k3 : kind = 3
  · subst k3
    rw [if_neg (by decide), if_pos rfl] at hk
    have := eq_of_beq hk
    exact up (wg_opt3 g _ s d A c b w hs (Kd.C_below hC hB) hc hb hl (by omega))
  by_cases k4 : kind = 4
  · subst k4; exact up (wg_opt4 g _ s d A c b w hs)
  by_cases k8 : kind = 8
  · subst k8
    rw [if_neg (by decide), if_neg (by decide), if_neg (by decide), if_pos rfl] at hk
    have := eq_of_beq hk
    exact up (wg_opt8 g _ s d A c b w hs (Kd.C_below hC hB) hc hb (by omega))
  by_cases k5 : kind = 5
  · subst k5
    rw [if_neg (by decide), if_neg (by decide), if_neg (by decide), if_neg (by decide), if_pos rfl] at hk
    simp only [Bool.and_eq_true, decide_eq_true_eq, beq_iff_eq] at hk
    exact wg_opt5 g s d A c b w0 w hB hs hC hc hb hl (by omega) hn
  exact up (wg_opt_else g _ s d A c b w hs kind k2 k3 k4 k8 k5)
/-- The map of the kinds that have come. -/
def Seen (W : World) (mb : Nat) (n : Nat) (seen : List Int) : Prop := ∃ D : DataW Unit, W.ownsMap Try.prog 5 (plainElem Try.prog 3) mb n D ∧ ∀ k : Int, 0 ≤ k → k ≤ 255 → ∃ c : Int, D.atKey (.int .u8 k) (.lit (.int .i64 0)) = .lit (.int .i64 c) ∧ 0 ≤ c ∧ c ≤ n ∧ decide (c > 0) = seen.contains k
theorem Seen.new (W : World) : Seen (W.alloc (.map #[] 0)) W.heap.size 0 [] := ⟨.map [], World.ownsMap_made W _ _ _, fun k _ _ => ⟨0, rfl, by omega, by omega, rfl⟩⟩
theorem Seen.km {W W' : World} {mb n : Nat} {seen : List Int} (h : Seen W mb n seen) (k : WKM W W') : Seen W' mb n seen := by
  obtain ⟨D, ⟨es, cl, hb, F, hs, hD⟩, hk⟩ := h
  exact ⟨D, ⟨es, cl, k _ _ _ hb, F, hs, hD⟩, hk⟩
theorem Seen.look {W : World} {mb n : Nat} {seen : List Int} (h : Seen W mb n seen) (k : Int) (h0 : 0 ≤ k) (h1 : k ≤ 255) : ∃ c : Int, (∀ W', WKM W W' → (Instr.lookup 145 (.map (some mb)) (.int .u8 k) false).run Try.prog W' = .ok (.int .i64 c) W') ∧ 0 ≤ c ∧ c ≤ n ∧ decide (c > 0) = seen.contains k := by
  obtain ⟨c, _, _, _⟩ := h.choose_spec.2 k h0 h1
  have hkey : keyOf Try.prog 5 (.int .u8 k) = some (.int .u8 k) := Maps.keyOf_int_mk Try.underlying5 (by simp [Lit.wf, IntKind.min, IntKind.max, IntKind.signed, IntKind.bits]; omega)
  obtain ⟨D, hD, hk⟩ := h
  obtain ⟨c, ha, c0, c1, hs⟩ := hk k h0 h1
  refine ⟨c, fun W' hW => ?_, c0, c1, hs⟩
  have hD' : W'.ownsMap Try.prog 5 (plainElem (H := Unit) Try.prog 3) mb n D := by
    obtain ⟨es, cl, hb, F, hs, hD⟩ := hD
    exact ⟨es, cl, hW _ _ _ hb, F, hs, hD⟩
  obtain ⟨c', hrun, ha', _⟩ := hD'.lookup_int (Maps.int_keyed Try.underlying5) Try.underlying145 Try.underlying3 (by kernel_rfl) hkey
  rw [ha] at ha'
  simp only [DataW.lit.injEq, Lit.int.injEq, true_and] at ha'
  rw [hrun, ha']
theorem Seen.put {W W' : World} {mb n : Nat} {seen : List Int} {D : DataW Unit} {k c : Int} (h0 : 0 ≤ k) (h1 : k ≤ 255) (c0 : 0 ≤ c) (c1 : c ≤ n) (hD : W.ownsMap Try.prog 5 (plainElem Try.prog 3) mb n D) (hk : ∀ k : Int, 0 ≤ k → k ≤ 255 → ∃ c : Int, D.atKey (.int .u8 k) (.lit (.int .i64 0)) = .lit (.int .i64 c) ∧ 0 ≤ c ∧ c ≤ n ∧ decide (c > 0) = seen.contains k)
    (hm : W'.ownsMap Try.prog 5 (plainElem Try.prog 3) mb (n + 1) (D.put (.int .u8 k) (.lit (.int .i64 (c + 1))))) : Seen W' mb (n + 1) (k :: seen) := by
  refine ⟨_, hm, fun j j0 j1 => ?_⟩
  by_cases e : j = k
  · subst e
    exact ⟨c + 1, Maps.atKey_put_same hD.isMap ((Maps.int_keyed Try.underlying5).key (Maps.keyOf_int_mk Try.underlying5 (by simp [Lit.wf, IntKind.min, IntKind.max, IntKind.signed, IntKind.bits]; omega))) _ _, by omega, by omega, by rw [decide_eq_true (by omega)]; simp⟩
  · obtain ⟨c', ha, h2, h3, h4⟩ := hk j j0 j1
    refine ⟨c', ?_, h2, by omega, ?_⟩
    · rw [Maps.atKey_put_other (by intro he; injection he with _ he; exact e he)]; exact ha
    · rw [h4, List.contains_cons, beq_false_of_ne e]; rfl
end Go.Proofs.Ytflmfbcapccdeaa.WireG
set_option linter.unusedVariables false
set_option linter.unusedSimpArgs false
set_option autoImplicit false
namespace Go.Proofs.Ytflmfbcapccdeaa.WireG
open Go.RowKit Go.Proofs.Ytflmfbcapccdeaa.PA Go.Proofs.YtflmfbcapccdeaaW.PrintWords Go.Proofs.YtflmfbcapccdeaaW.PrintLast Go.Proofs.YtflmfbcapccdeaaW.PrintMore
attribute [local go_sem] max2_int min2_int max_two min_two
theorem wg_at (A : Option Addr) (b : List Int) (w : World) (hC : Kd.C (Kd.int .u8) w A b.length b) (i : Nat) (hi : i < b.length) : ∃ ad, A = some ad ∧ w.cell? (ad.add i) = some (.int .u8 (b.getD i 0)) := by
  obtain ⟨ad, h, hc⟩ := Kd.at_int hC (i : Int) (by omega) (by omega)
  exact ⟨ad, h, by simpa [rd] using hc⟩
theorem wgb_at {b : List Int} (h : wgb b) (i : Nat) (hi : i < b.length) : 0 ≤ b.getD i 0 ∧ b.getD i 0 ≤ 255 := h _ (by rw [List.getD_eq_getElem?_getD, List.getElem?_eq_getElem hi]; exact List.getElem_mem _)
theorem wgrd_one (s : S53) (seen b : List Int) (h0 : ¬ b.length = 0) (h1 : b.getD 0 0 = 1) : wgrd (b.length + 1) s seen b = wgrd ((b.drop 1).length + 1) s seen (b.drop 1) := by
  conv => lhs; rw [wgrd, if_neg h0, if_neg (by rw [h1]; decide), if_pos h1]
  exact wgrd_up _ _ _ _ (by rw [List.length_drop]; omega)
theorem wgrd_opt (s : S53) (seen b : List Int) (kd n : Int) (hk : b.getD 0 0 = kd) (hn : b.getD 1 0 = n) (h0 : ¬ b.length = 0) (k0 : ¬ kd = 0) (k1 : ¬ kd = 1) (h2 : 2 ≤ b.length) (n2 : 2 ≤ n) (nb : n ≤ b.length) (hl : wglen kd n = true) (hs : (wgknown kd && seen.contains kd) = false) :
    wgrd (b.length + 1) s seen b = wgrd ((b.drop n.toNat).length + 1) (wgopt s kd ((b.take n.toNat).drop 2)) (kd :: seen) (b.drop n.toNat) := by
  subst hk; subst hn
  conv => lhs; rw [wgrd, if_neg h0, if_neg k0, if_neg k1, if_pos ⟨h2, n2, nb, hl, hs⟩]
  exact wgrd_up _ _ _ _ (by rw [List.length_drop]; omega)
theorem wgrd_bad (s : S53) (seen b : List Int) (kd n : Int) (hk : b.getD 0 0 = kd) (hn : b.getD 1 0 = n) (h0 : ¬ b.length = 0) (k0 : ¬ kd = 0) (k1 : ¬ kd = 1) (h : ¬ (2 ≤ b.length ∧ 2 ≤ n ∧ n ≤ b.length ∧ wglen kd n = true ∧ (wgknown kd && seen.contains kd) = false)) :
    wgrd (b.length + 1) s seen b = none := by
  subst hk; subst hn
  rw [wgrd, if_neg h0, if_neg k0, if_neg k1, if_neg h]
def WHold (p : Prop) : Prop := p
theorem whold_of {p : Prop} (h : WHold p) : p := h
theorem whold_mk {p : Prop} (h : p) : WHold p := h
/-- How read ends. -/
def WRead (w0 w : World) (g : Nat) (d : Value) (res : Option S53) (e : Ending) (w' : World) : Prop :=
  Below w0.heap.size w0 w' ∧ WKE w w' ∧ match res with
    | some s' => e = .returned (.tuple #[]) ∧ Wgs w' w0.heap.size g s' d
    | none => (∃ s', Wgs w' w0.heap.size g s' d) ∧ ∃ pb, e = .panicked [{ v := .iface 122 (.pointer (some ⟨pb, 0, none⟩)), recovered := false }] ∧ w'.heap[pb]? = some (.cells #[.int .i64 2] 144 (0, 0))
theorem WRead.ok {w0 w w' : World} {g : Nat} {d : Value} {res : Option S53} {s' : S53} (hr : some s' = res) (hB : Below w0.heap.size w0 w') (hE : WKE w w') (hW : Wgs w' w0.heap.size g s' d) : WRead w0 w g d res (.returned (.tuple #[])) w' := by subst hr; exact ⟨hB, hE, rfl, hW⟩
theorem Wgs.alloc {W : World} {base g : Nat} {s : S53} {d : Value} (h : Wgs W base g s d) (o : Obj) : Wgs (W.alloc o) base g s d := by
  obtain ⟨hbg, v, hh, hR⟩ := h
  exact ⟨hbg, v, blk_alloc hh _, Kd.R_alloc hR _⟩
theorem WRead.bad {w0 wi w : World} {g : Nat} {d : Value} {res : Option S53} {s' : S53} (hr : none = res) (hB : Below w0.heap.size w0 w) (hE : WKE wi w) (hW : Wgs w w0.heap.size g s' d) :
    WRead w0 wi g d res (.panicked [{ v := .iface 122 (.pointer (some ⟨w.heap.size, 0, none⟩)), recovered := false }]) (w.alloc (.cells #[.int .i64 2] 144)) := by
  subst hr
  exact ⟨hB.alloc (Below.size hB) _, hE.alloc _, ⟨s', hW.alloc _⟩, w.heap.size, rfl, blk_new w _⟩
theorem Wgs.map {W W2 : World} {base g mb : Nat} {s : S53} {d : Value} {es : Array MapEntry} {cl : Nat} (h : Wgs W base g s d) (hm : W.heap[mb]? = some (.map es cl)) (hg : W.grownBy W2 (some mb)) : Wgs W2 base g s d := by
  obtain ⟨hbg, v, hh, hR⟩ := h
  refine ⟨hbg, v, blk_grown hh hg (fun e => by have := Option.some.inj e; subst this; rw [hh] at hm; cases hm), ?_⟩
  exact Kd.R_mono (Kd.R_grown (Kd.R_bound hR) hg (fun k hk e => by
    obtain ⟨_, _, _, q, _, cells, hc⟩ := hk
    have := Option.some.inj e; subst this; rw [hc] at hm; cases hm)) (fun _ _ => trivial)
set_option maxRecDepth 100000 in
set_option maxHeartbeats 16000000 in
theorem wg_read (g : Nat) (s : S53) (d : Value) (A : Option Addr) (c : Nat) (b : List Int) (w0 w : World) (hB : Below w0.heap.size w0 w) (hs : Wgs w w0.heap.size g s d) (hC : Kd.C (Kd.int .u8) w0 A b.length b) (hc : b.length ≤ c) (hb : wgb b) (hl : b.length ≤ 300) (hn : s.f13.length ≤ 500) :
    Calls Try.prog 75 #[.pointer (some ⟨g, 0, none⟩), .slice A b.length c] w fun e w' => WRead w0 w g d (wgrd (b.length + 1) s [] b) e w' := by
  obtain ⟨res, hres⟩ : ∃ r, wgrd (b.length + 1) s [] b = r := ⟨_, rfl⟩
  have HRES := Lib.hid hres
  have HB0 := Lib.hid hB; have HS0 := Lib.hid hs; have HC0 := Lib.hid hC; have HBB := Lib.hid hb; have HLL := Lib.hid hl; have HN := Lib.hid hn
  have hmk : ∀ W : World, (Instr.makeMap 145 none).run Try.prog W = .ok (.map (some W.heap.size)) (W.alloc (.map #[] 0)) := fun _ => rfl
  rw [hres]
  clear hB hs hC hb hl hn hres
  go_enter Try.func75, Try.ntmps75
  go_step3
  go_wp2
  refine wp_label ?_
  go_wp2
  obtain ⟨mb, hmb⟩ : ∃ mb, w.heap.size = mb := ⟨_, rfl⟩
  have HMB := Lib.hid hmb
  have HSN0 := Lib.hid (Seen.new w)
  have HBN := Lib.hid (HB0.out.alloc (Below.size HB0.out) (.map #[] 0))
  have HKE0 := Lib.hid ((WKE.refl w).alloc (.map #[] 0))
  have HSW := Lib.hid (HS0.out.alloc (.map #[] 0))
  rw [hmb] at HSN0 ⊢
  clear hmk hmb
  generalize w.alloc (.map #[] 0) = wm at HSN0 HBN HKE0 HSW ⊢
  go_loopg [1] b.length (fun m v1 wr => ∃ (A1 : Option Addr) (c1 : Nat) (bk : List Int) (cur : S53) (seen : List Int), bk.length ≤ m ∧ v1 = .slice A1 bk.length c1 ∧ bk.length ≤ c1 ∧ Hid (wgb bk) ∧ Hid (Kd.C (Kd.int .u8) w0 A1 bk.length bk) ∧ Hid (Wgs wr w0.heap.size g cur d) ∧ Hid (Seen wr mb seen.length seen) ∧ Hid (Below w0.heap.size w0 wr) ∧ Hid (WKE w wr) ∧ Hid (wgrd (bk.length + 1) cur seen bk = res) ∧ Hid (cur.f13.length + bk.length ≤ 800) ∧ Hid (seen.length + bk.length ≤ 300))
  case atStart => exact ⟨A, c, b, s, [], Nat.le_refl _, rfl, hc, HBB, HC0, HSW, HSN0, HBN, HKE0, HRES, Lib.hid (by have := HN.out; have := HLL.out; omega), Lib.hid (by have := HLL.out; simp; omega)⟩
  case round =>
    obtain ⟨A1, c1, bk, cur, seen, hm, rfl, hc1, HBK, HC1, HS, HSN, HB, HKE, HE, HL1, HL2⟩ := hrel
    have HM := Lib.hid hm; clear hm
    by_cases hz : bk.length = 0
    · have h0 : ¬ 0 < bk.length := by omega
      have HZ := Lib.hid hz; clear hz
      go_wp2
      rw [Exit.noGoto_normal]
      go_end0
      exact WRead.ok (by rw [← HE.out, wgrd, if_pos HZ.out]) HB.out HKE.out HS.out
    have h0 : 0 < bk.length := by omega
    obtain ⟨ad, rfl, x0⟩ := wg_at A1 bk w0 HC1.out 0 h0
    have X0 := (HB.out.cell (World.block_lt_of_cell? w0 _ x0)).trans x0
    have X0' : wr.cell? ad = some (.int .u8 (bk.getD 0 0)) := by simpa [Addr.add] using X0
    obtain ⟨kd, hkd⟩ : ∃ kd, bk.getD 0 0 = kd := ⟨_, rfl⟩
    have hkb := wgb_at HBK.out 0 h0
    rw [hkd] at X0' hkb
    have HKB := Lib.hid hkb; have HKD := Lib.hid hkd; have HZ := Lib.hid hz
    clear x0 X0 hkb hkd hz
    by_cases k0 : kd = 0
    · subst k0
      go_wp2
      rw [Exit.noGoto_normal]
      go_end0
      exact WRead.ok (by rw [← HE.out, wgrd, if_neg HZ.out, if_pos HKD.out]) HB.out HKE.out HS.out
    have e0 : (kd == 0) = false := beq_false_of_ne k0
    obtain ⟨u0, hu0, _, hsz, _⟩ := info_parts info5
    by_cases k1 : kd = 1
    · subst k1
      have cut1 := cut_from (P := Try.prog) 34 5 .i64 Try.underlying34 hu0 1 hsz (some ad) bk.length c1 (1 : Int) (by omega) (by omega)
      simp only [show ((1 : Int)).toNat = 1 from rfl, Nat.mul_one] at cut1
      obtain ⟨A3, hA3⟩ : ∃ a, (if c1 = 1 then some ad else (some ad).map (·.add 1)) = a := ⟨_, rfl⟩
      rw [hA3] at cut1
      have R3 := Kd.C_drop (m := 1) (c := c1) HC1.out h0 hc1
      rw [show 1 * (Kd.int .u8).sz = 1 from rfl, hA3] at R3
      have l3 : (bk.drop 1).length = bk.length - 1 := List.length_drop
      have HR3 := Lib.hid R3; have HL3 := Lib.hid l3; have HGE := Lib.hid h0
      have hc3 : bk.length - 1 ≤ c1 - 1 := by omega
      clear hA3 R3 l3 e0 k0
      go_wp2
      go_roundg (gk - 1)
      case measure => have := HGE.out; have := HM.out; omega
      case rel =>
        have e1 := HL3.out
        refine ⟨A3, c1 - 1, bk.drop 1, cur, seen, by rw [e1]; have := HM.out; omega, by rw [e1], by rw [e1]; exact hc3, Lib.hid (fun x hx => HBK.out x (List.mem_of_mem_drop hx)), HR3, HS, HSN, HB, HKE, Lib.hid ?_, Lib.hid (by have := HL1.out; omega), Lib.hid (by have := HL2.out; omega)⟩
        exact (wgrd_one cur seen bk HZ.out HKD.out).symm.trans HE.out
    have e1 : (kd == 1) = false := beq_false_of_ne k1
    have HK0 := Lib.hid k0; have HK1 := Lib.hid k1
    clear k0 k1
    obtain ⟨n, hn⟩ : ∃ n, bk.getD 1 0 = n := ⟨_, rfl⟩
    have HUN := Lib.hid (fun h => ((wgrd_bad cur seen bk kd n HKD.out hn HZ.out HK0.out HK1.out h).symm.trans HE.out))
    by_cases h2 : 2 ≤ bk.length
    case neg =>
      have H2 := Lib.hid h2
      have h2' : ¬ 1 < bk.length := by omega
      clear hn
      go_wp2_with (go_at_call 72; refine (wg_must_false 2 _).mono ?_; rintro e w1 ⟨rfl, rfl⟩)
      rw [Exit.noGoto_panic]
      exact ⟨rfl, WRead.bad (HUN.out (fun h => H2.out h.1)) HB.out HKE.out HS.out⟩
    obtain ⟨ad', ead, x1⟩ := wg_at (some ad) bk w0 HC1.out 1 (by omega)
    obtain rfl := Option.some.inj ead
    have X1 := (HB.out.cell (World.block_lt_of_cell? w0 _ x1)).trans x1
    have X1' : wr.cell? ⟨ad.block, ad.off + 1, none⟩ = some (.int .u8 n) := by rw [← hn]; exact X1
    have hnb := wgb_at HBK.out 1 (by omega)
    rw [hn] at hnb
    have hnw : wrap64 n = n := wg_w64 (by omega) (by omega)
    have HNB := Lib.hid hnb; have HNN := Lib.hid hn; have H2 := Lib.hid h2
    have h2' : 1 < bk.length := by omega
    clear x1 X1 hnb hn ead
    by_cases n2 : 2 ≤ n
    case neg =>
      have g2 : decide (2 ≤ n) = false := decide_eq_false n2
      have HN2 := Lib.hid n2
      go_wp2_with (go_at_call 72; refine (wg_must_false 2 _).mono ?_; rintro e w1 ⟨rfl, rfl⟩)
      rw [Exit.noGoto_panic]
      exact ⟨rfl, WRead.bad (HUN.out (fun h => absurd h.2.1 (by have := HN2.out; omega))) HB.out HKE.out HS.out⟩
    by_cases nb : n ≤ bk.length
    case neg =>
      have HNB2 := Lib.hid nb
      go_wp2_with (go_at_call 72; refine (wg_must_false 2 _).mono ?_; rintro e w1 ⟨rfl, rfl⟩)
      rw [Exit.noGoto_panic]
      exact ⟨rfl, WRead.bad (HUN.out (fun h => absurd h.2.2.1 (by have := HNB2.out; omega))) HB.out HKE.out HS.out⟩
    have HLN := Lib.hid (wg_length kd n HNB.out.1 HNB.out.2)
    obtain ⟨ok, hok⟩ : ∃ b, wglen kd n = b := ⟨_, rfl⟩
    obtain ⟨kn, hkn⟩ : ∃ b, wgknown kd = b := ⟨_, rfl⟩
    obtain ⟨sn, hsn⟩ : ∃ b, seen.contains kd = b := ⟨_, rfl⟩
    rw [hok, hkn] at HLN
    rw [hok, hkn, hsn] at HUN
    obtain ⟨cn, hcn, cn0, cn1, cns⟩ := HSN.out.look kd HKB.out.1 HKB.out.2
    have look1 : ∀ nd, (Instr.lookup 145 (.map (some mb)) (.int .u8 kd) false).run Try.prog (wr.drewN nd) = .ok (.int .i64 cn) (wr.drewN nd) := fun nd => hcn _ ((WKM.refl _).drewN nd)
    rw [hsn] at cns
    have HCN := Lib.hid (And.intro cn0 cn1)
    have HOK := Lib.hid hok; have HKN := Lib.hid hkn; have HSNN := Lib.hid hsn; have HNBL := Lib.hid nb; have HN2 := Lib.hid n2
    clear hcn cn0 cn1 hok hkn hsn
    obtain ⟨m, rfl⟩ : ∃ m : Nat, n = m := ⟨n.toNat, by have := HNB.out; omega⟩
    have cut1 := cut_mid (P := Try.prog) 34 5 .i64 .i64 Try.underlying34 hu0 1 hsz (some ad) bk.length c1 (2 : Int) (m : Int) (by omega) (by omega) (by omega) hc1
    have cut2 := cut_from (P := Try.prog) 34 5 .i64 Try.underlying34 hu0 1 hsz (some ad) bk.length c1 (m : Int) (by omega) (by omega)
    simp only [show ((2 : Int)).toNat = 2 from rfl, Int.toNat_natCast, Nat.mul_one] at cut1 cut2
    obtain ⟨A2, hA2⟩ : ∃ a, (if c1 = 2 then some ad else (some ad).map (·.add 2)) = a := ⟨_, rfl⟩
    obtain ⟨A3, hA3⟩ : ∃ a, (if c1 = m then some ad else (some ad).map (·.add m)) = a := ⟨_, rfl⟩
    rw [hA2] at cut1; rw [hA3] at cut2
    have R2 := Kd.C_mid (lo := 2) (hi := m) (c := c1) HC1.out (by omega) (by omega) hc1
    have R3 := Kd.C_drop (m := m) (c := c1) HC1.out (by omega) hc1
    rw [show 2 * (Kd.int .u8).sz = 2 from rfl, hA2] at R2
    rw [show m * (Kd.int .u8).sz = m from Nat.mul_one m, hA3] at R3
    obtain ⟨bb, hbb⟩ : ∃ bb, (bk.take m).drop 2 = bb := ⟨_, rfl⟩
    have lbb : bb.length = m - 2 := by rw [← hbb, List.length_drop, List.length_take]; omega
    have l3 : (bk.drop m).length = bk.length - m := List.length_drop
    rw [hbb] at R2
    have K := Lib.hid (fun (W : World) (hok : wglen kd (m : Int) = true) (hB : Below w0.heap.size w0 W) (hW : Wgs W w0.heap.size g cur d) => wg_opt g cur d A2 (c1 - 2) bb kd w0 W hB hW R2 (by rw [lbb]; omega) (fun x hx => by rw [← hbb] at hx; exact HBK.out x (List.mem_of_mem_take (List.mem_of_mem_drop hx))) (by rw [lbb]; have := HL2.out; omega) (by rw [lbb, show ((m - 2 : Nat) : Int) + 2 = (m : Int) by omega]; exact hok) (by have := HL1.out; omega))
    rw [lbb] at K
    have HR3 := Lib.hid R3; have HL3 := Lib.hid l3; have HBB2 := Lib.hid hbb; have HLBB := Lib.hid lbb
    have hc3 : bk.length - m ≤ c1 - m := by omega
    have hcw : wrap64 (cn + 1) = cn + 1 := wg_w64 (by have := HCN.out; omega) (by have := HCN.out; have := HL2.out; omega)
    have hkey : keyOf Try.prog 5 (.int .u8 kd) = some (.int .u8 kd) := Maps.keyOf_int_mk Try.underlying5 (by have := HKB.out; simp [Lit.wf, IntKind.min, IntKind.max, IntKind.signed, IntKind.bits]; omega)
    have hval : plainElem (H := Unit) Try.prog 3 (.int .i64 (cn + 1)) = some (.lit (.int .i64 (cn + 1)), []) := plainElem_int Try.underlying3 (by have := HCN.out; have := HL2.out; simp [Lit.wf, IntKind.min, IntKind.max, IntKind.signed, IntKind.bits]; omega)
    have HKEY := Lib.hid hkey; have HVAL := Lib.hid hval
    obtain ⟨D, hD, hDk⟩ := HSN.out
    have HD := Lib.hid hD; have HDK := Lib.hid hDk
    have HGM := Lib.hid (show w0.heap.size ≤ mb from by rw [← HMB.out]; exact Below.size HB0.out)
    clear hA2 hA3 R2 R3 hbb lbb l3 hkey hval hD hDk
    cases ok with
    | false =>
      go_wp2_with (first | (go_at_call 72; first | (with_reducible refine (wg_must_true 2 _).mono ?_; rintro e w1 ⟨rfl, rfl⟩) | (with_reducible refine (wg_must_false 2 _).mono ?_; rintro e w1 ⟨rfl, rfl⟩)) | (go_at_call 93; refine (wire_length.calls _ _ _ _ _ HLN.out).mono ?_; rintro e w1 ⟨rfl, nd, rfl⟩))
      rw [Exit.noGoto_panic]
      exact ⟨rfl, WRead.bad (HUN.out (fun h => absurd h.2.2.2.1 (by decide))) (pw_below_drewN HB.out _) HKE.out (HS.out.draw _)⟩
    | true =>
      cases kn with
      | true =>
        cases sn with
        | true =>
          have cpos : decide (0 < cn) = true := cns
          go_wp2_with (first | (go_at_call 72; first | (with_reducible refine (wg_must_true 2 _).mono ?_; rintro e w1 ⟨rfl, rfl⟩) | (with_reducible refine (wg_must_false 2 _).mono ?_; rintro e w1 ⟨rfl, rfl⟩)) | (go_at_call 93; refine (wire_length.calls _ _ _ _ _ HLN.out).mono ?_; rintro e w1 ⟨rfl, nd, rfl⟩))
          rw [Exit.noGoto_panic]
          exact ⟨rfl, WRead.bad (HUN.out (fun h => absurd h.2.2.2.2 (by decide))) (pw_below_drewN HB.out _) HKE.out (HS.out.draw _)⟩
        | false =>
          have cpos : decide (0 < cn) = false := cns
          go_wp2_with (first | (go_at_call 72; first | (with_reducible refine (wg_must_true 2 _).mono ?_; rintro e w1 ⟨rfl, rfl⟩) | (with_reducible refine (wg_must_false 2 _).mono ?_; rintro e w1 ⟨rfl, rfl⟩)) | (go_at_call 93; refine (wire_length.calls _ _ _ _ _ HLN.out).mono ?_; rintro e w1 ⟨rfl, nd, rfl⟩) | (at_mapUpdate; refine whold_of ?_))
          refine whold_mk ?_
          refine wpList_mapUpdate_own _ rfl _ _ _ 145 rfl 5 3 (Maps.int_keyed Try.underlying5) Try.underlying145 _ mb seen.length D rfl HD.out (by have := HL2.out; unfold maxLen; omega) _ _ (.int .u8 kd) rfl rfl HKEY.out (.lit (.int .i64 (cn + 1))) [] (by first | exact HVAL.out | (show plainElem _ _ (.int .i64 (wrap64 (cn + 1))) = _; rw [hcw]; exact HVAL.out)) ?_
          intro w2 hown2 hg2
          have HS2 := Lib.hid (show Wgs w2 w0.heap.size g cur d from by obtain ⟨es, cl, hmb, _⟩ := HD.out; exact (HS.out.draw nd).map hmb hg2)
          have HSN2 := Lib.hid (Seen.put HKB.out.1 HKB.out.2 HCN.out.1 HCN.out.2 HD.out HDK.out hown2)
          have HB2 := Lib.hid ((pw_below_drewN HB.out nd).grown hg2 (by have h_ := Below.size HB.out; exact h_) (fun k hk => by cases hk; exact HGM.out))
          have HKE2 := Lib.hid (show WKE w w2 from WKE.grown (b := wr.drewN nd) HKE.out hg2 (fun k hk cs hc => by obtain ⟨es, cl, hmb, _⟩ := HD.out; cases hk; rw [show (wr.drewN nd).heap[mb]? = wr.heap[mb]? from rfl, hmb] at hc; cases hc))
          clear hown2 hg2
          go_wp2_with (go_at_call 94; refine (K.out _ HOK.out HB2.out HS2.out).mono ?_; rintro e w3 ⟨rfl, hw3, hk3, hb3⟩)
          go_roundg (gk - 1)
          case measure => have := H2.out; have := HM.out; omega
          case rel =>
            have e1 := HL3.out
            refine ⟨A3, c1 - m, bk.drop m, wgopt cur kd bb, kd :: seen, by rw [e1]; have := HM.out; omega, by rw [e1], by rw [e1]; exact hc3, Lib.hid (fun x hx => HBK.out x (List.mem_of_mem_drop hx)), HR3, Lib.hid hw3, Lib.hid (by rw [List.length_cons]; exact HSN2.out.km hk3.1), Lib.hid hb3, Lib.hid (HKE2.out.trans hk3.2), Lib.hid ?_, Lib.hid ?_, Lib.hid ?_⟩
            · have h := wgrd_opt cur seen bk kd m HKD.out HNN.out HZ.out HK0.out HK1.out H2.out HN2.out HNBL.out HOK.out (by rw [HKN.out, HSNN.out]; rfl)
              rw [Int.toNat_natCast, HBB2.out] at h
              exact h.symm.trans HE.out
            · have h1 := wgopt_len cur kd bb; have h2 := HLBB.out; have h3 := HL1.out; rw [e1]; omega
            · have h1 := HL2.out; rw [e1, List.length_cons]; omega
      | false =>
        go_wp2_with (first | (go_at_call 72; first | (with_reducible refine (wg_must_true 2 _).mono ?_; rintro e w1 ⟨rfl, rfl⟩) | (with_reducible refine (wg_must_false 2 _).mono ?_; rintro e w1 ⟨rfl, rfl⟩)) | (go_at_call 93; refine (wire_length.calls _ _ _ _ _ HLN.out).mono ?_; rintro e w1 ⟨rfl, nd, rfl⟩) | (at_mapUpdate; refine whold_of ?_))
        refine whold_mk ?_
        refine wpList_mapUpdate_own _ rfl _ _ _ 145 rfl 5 3 (Maps.int_keyed Try.underlying5) Try.underlying145 _ mb seen.length D rfl HD.out (by have := HL2.out; unfold maxLen; omega) _ _ (.int .u8 kd) rfl rfl HKEY.out (.lit (.int .i64 (cn + 1))) [] (by first | exact HVAL.out | (show plainElem _ _ (.int .i64 (wrap64 (cn + 1))) = _; rw [hcw]; exact HVAL.out)) ?_
        intro w2 hown2 hg2
        have HS2 := Lib.hid (show Wgs w2 w0.heap.size g cur d from by obtain ⟨es, cl, hmb, _⟩ := HD.out; exact (HS.out.draw nd).map hmb hg2)
        have HSN2 := Lib.hid (Seen.put HKB.out.1 HKB.out.2 HCN.out.1 HCN.out.2 HD.out HDK.out hown2)
        have HB2 := Lib.hid ((pw_below_drewN HB.out nd).grown hg2 (by have h_ := Below.size HB.out; exact h_) (fun k hk => by cases hk; exact HGM.out))
        have HKE2 := Lib.hid (show WKE w w2 from WKE.grown (b := wr.drewN nd) HKE.out hg2 (fun k hk cs hc => by obtain ⟨es, cl, hmb, _⟩ := HD.out; cases hk; rw [show (wr.drewN nd).heap[mb]? = wr.heap[mb]? from rfl, hmb] at hc; cases hc))
        clear hown2 hg2
        go_wp2_with (go_at_call 94; refine (K.out _ HOK.out HB2.out HS2.out).mono ?_; rintro e w3 ⟨rfl, hw3, hk3, hb3⟩)
        go_roundg (gk - 1)
        case measure => have := H2.out; have := HM.out; omega
        case rel =>
          have e1 := HL3.out
          refine ⟨A3, c1 - m, bk.drop m, wgopt cur kd bb, kd :: seen, by rw [e1]; have := HM.out; omega, by rw [e1], by rw [e1]; exact hc3, Lib.hid (fun x hx => HBK.out x (List.mem_of_mem_drop hx)), HR3, Lib.hid hw3, Lib.hid (by rw [List.length_cons]; exact HSN2.out.km hk3.1), Lib.hid hb3, Lib.hid (HKE2.out.trans hk3.2), Lib.hid ?_, Lib.hid ?_, Lib.hid ?_⟩
          · have h := wgrd_opt cur seen bk kd m HKD.out HNN.out HZ.out HK0.out HK1.out H2.out HN2.out HNBL.out HOK.out (by rw [HKN.out]; rfl)
            rw [Int.toNat_natCast, HBB2.out] at h
            exact h.symm.trans HE.out
          · have h1 := wgopt_len cur kd bb; have h2 := HLBB.out; have h3 := HL1.out; rw [e1]; omega
          · have h1 := HL2.out; rw [e1, List.length_cons]; omega
end Go.Proofs.Ytflmfbcapccdeaa.WireG
set_option linter.unusedVariables false
set_option linter.unusedSimpArgs false
set_option autoImplicit false
namespace Go.Proofs.Ytflmfbcapccdeaa.WireG
open Go.RowKit Go.Proofs.Ytflmfbcapccdeaa.PA Go.Proofs.YtflmfbcapccdeaaW.PrintWords Go.Proofs.YtflmfbcapccdeaaW.PrintLast Go.Proofs.YtflmfbcapccdeaaW.PrintMore
attribute [local go_sem] max2_int min2_int max_two min_two
/-! ### a whole variable is written -/
def wgset : Array Value → Nat → List Value → Array Value
  | cs, _, [] => cs
  | cs, o, v :: r => wgset (cs.setIfInBounds o v) (o + 1) r
theorem wgset_list : ∀ (vs : List Value) (cs : Array Value) (o : Nat), o + vs.length ≤ cs.size → (wgset cs o vs).toList = cs.toList.take o ++ vs ++ cs.toList.drop (o + vs.length)
  | [], cs, o, _ => by simp [wgset]
  | v :: r, cs, o, h => by
    have hl : o < cs.toList.length := by simp only [List.length_cons] at h; rw [Array.length_toList]; omega
    rw [wgset, wgset_list r _ _ (by simp only [List.length_cons] at h; rw [Array.size_setIfInBounds]; omega), Array.toList_setIfInBounds, List.length_cons]
    rw [List.take_set, List.take_succ_eq_append_getElem hl, List.set_append_right _ _ (by rw [List.length_take]; omega), List.drop_set_of_lt (by omega)]
    rw [List.length_take, Nat.min_eq_left (by omega), Nat.sub_self, sZ_]
    have e : o + 1 + r.length = o + (r.length + 1) := by omega
    simp only [List.append_assoc, List.cons_append, List.nil_append, List.take_take, e]
theorem wgset_all {cs : Array Value} {seg : List Value} (h : cs.size = seg.length) : wgset cs 0 seg = seg.toArray := by
  apply Array.toList_inj.1
  rw [wgset_list seg cs 0 (by omega)]
  simp [List.drop_of_length_le, h]
theorem setCells_blk {g : Nat} {e : TypeId} : ∀ (vs : List Value) (o : Nat) (w : World) (cs : Array Value), w.heap[g]? = some (.cells cs e (0, 0)) → (w.setCells g o vs).heap[g]? = some (.cells (wgset cs o vs) e (0, 0))
  | [], _, _, _, h => h
  | v :: r, o, w, cs, h => setCells_blk r (o + 1) _ _ (blk_set h o v)
theorem setCells_grown {g : Nat} : ∀ (vs : List Value) (o : Nat) (w : World), w.grownBy (w.setCells g o vs) (some g)
  | [], _, w => ⟨rfl, rfl, rfl, Nat.le_refl _, fun _ _ _ => rfl⟩
  | v :: r, o, w => by
    have h := setCells_grown (g := g) r (o + 1) (w.setCell ⟨g, o, none⟩ v)
    exact ⟨h.os, h.tape, h.output, Nat.le_trans (by simp [World.setCell]) h.size, fun k hk hne => (h.block k (by simpa [World.setCell] using hk) hne).trans (Below.heap_setCell w _ v k (fun e => hne (by rw [e])))⟩
theorem wg_store_run (t : TypeId) (u : Value) (seg : List Value) (g : Nat) (e : TypeId) (cs : Array Value) (W : World) (hu : u.cells.toList = seg) (ht : (Try.prog.info? t).map (·.size) = some seg.length) (h1 : seg.all Value.oneCell' = true) (hh : W.heap[g]? = some (.cells cs e (0, 0))) (hs : cs.size = seg.length) :
    ∃ w1, (Instr.storeAt t (.pointer (some ⟨g, 0, none⟩)) u).run Try.prog W = .ok () w1 ∧ w1.heap[g]? = some (.cells seg.toArray e (0, 0)) ∧ W.grownBy w1 (some g) :=
  ⟨_, run_store_run t u seg hh hu ht (by omega) (List.all_eq_true.1 h1), by rw [← wgset_all hs]; exact setCells_blk seg 0 W cs hh, setCells_grown seg 0 W⟩
theorem wg_store_op {ops : Array Oper} {rest : List Oper} {o : Oper} {a : Act} {Q : Exit → Act → World → Prop} {W : World} (hgd : o.guard = none) (hN : o.dst = none) (t : TypeId) (p x : Operand) (ho : o.op = .store t p x) (u : Value) (seg : List Value) (g : Nat) (e : TypeId) (cs : Array Value)
    (haddr : a.eval p = .pointer (some ⟨g, 0, none⟩)) (hx : a.eval x = u) (hu : u.cells.toList = seg) (ht : (Try.prog.info? t).map (·.size) = some seg.length) (h1 : seg.all Value.oneCell' = true) (hh : W.heap[g]? = some (.cells cs e (0, 0))) (hs : cs.size = seg.length)
    (h : ∀ w1, w1.heap[g]? = some (.cells seg.toArray e (0, 0)) → W.grownBy w1 (some g) → wpList Try.prog ops Q rest a w1) : wpList Try.prog ops Q (o :: rest) a W := by
  refine wpList_plain hgd fun K hK => ?_
  obtain ⟨w1, hrun, h2, h3⟩ := wg_store_run t u seg g e cs W hu ht h1 hh hs
  unfold Oper.wp execOp
  simp only [ho, haddr, hx, Sem.run_bind, Sem.run_pure, Result.andThen_ok, hrun]
  show K (a.put o.dst undef) _
  rw [hN]
  exact hK _ _ (h w1 h2 h3)
theorem wg_store_step {ops : Array Oper} {o : Oper} {a : Act} {Q : Exit → Act → World → Prop} {Kc : Act → World → Prop} {W : World} (hw : Region.wanted o (yielded ops a.tmps) = true) (hN : o.dst = none) (t : TypeId) (p x : Operand) (ho : o.op = .store t p x) (u : Value) (seg : List Value) (g : Nat) (e : TypeId) (cs : Array Value)
    (haddr : a.eval p = .pointer (some ⟨g, 0, none⟩)) (hx : a.eval x = u) (hu : u.cells.toList = seg) (ht : (Try.prog.info? t).map (·.size) = some seg.length) (h1 : seg.all Value.oneCell' = true) (hh : W.heap[g]? = some (.cells cs e (0, 0))) (hs : cs.size = seg.length)
    (h : ∀ w1, w1.heap[g]? = some (.cells seg.toArray e (0, 0)) → W.grownBy w1 (some g) → Kc a w1) :
    if Region.wanted o (yielded ops a.tmps) = true then Oper.wp Try.prog o a W Kc Q else Kc (a.put o.dst undef) W := by
  rw [if_pos hw]
  obtain ⟨w1, hrun, h2, h3⟩ := wg_store_run t u seg g e cs W hu ht h1 hh hs
  unfold Oper.wp execOp
  simp only [ho, haddr, hx, Sem.run_bind, Sem.run_pure, Result.andThen_ok, hrun]
  have e : a.put o.dst undef = a := by rw [hN]; rfl
  show Kc (a.put o.dst undef) w1
  rw [e]
  exact h w1 h2 h3

set_option maxRecDepth 100000 in
set_option maxHeartbeats 8000000 in
theorem wg_catch (p q base : Nat) (s : S53) (d x pv : Value) (older : List PanicEntry) (w : World) (hs : Wgs w base p s d) (hbq : base ≤ q) (hbw : base ≤ w.heap.size) (he : w.heap[q]? = some (.cells #[x] 100 (0, 0))) :
    CallsD Try.prog 71 #[.pointer (some ⟨p, 0, none⟩), .pointer (some ⟨q, 0, none⟩)] (.panicking ({ v := .iface 122 pv, recovered := false } :: older)) w fun e u' w' =>
      e = .returned (.tuple #[]) ∧ u' = .panicking ({ v := .iface 122 pv, recovered := true } :: older) ∧ w'.heap[p]? = some (.cells (wgcells z53 (.slice none 0 0) (.slice none 0 0)) 53 (0, 0)) ∧ w'.heap[q]? = some (.cells #[.iface 122 pv] 100 (0, 0)) ∧ Below base w w' ∧ ∀ k, k ≠ p → k ≠ q → k < w.heap.size → w'.heap[k]? = w.heap[k]? := by
  obtain ⟨hbp, v, hh, _⟩ := hs
  have hpq : p ≠ q := fun e => by subst e; rw [hh] at he; cases he
  have HH := Lib.hid hh; have HE := Lib.hid he
  clear hh he
  refine callsD_of_wpS Try.func71 rfl fun c₀ cs hu => ?_
  apply wpS_seq
  apply wpS_region
  simp [wpOpsS, go_sem, recoverD, hu, Try.ntmps71, Exit.thenS]
  have ta : ∀ (v : Value) (W : World), (Instr.typeAssert (.iface 122 v) 20 122 true).run Try.prog W = .ok (.tuple #[v, .bool true]) W := fun _ _ => by kernel_rfl
  simp only [Array.replicate_succ, Array.replicate_zero, List.push_toArray, List.append_toArray, List.nil_append, List.cons_append, sA_, sZ_, sS_]
  refine wpS_of_wp ?_
  go_wp2_with (first
    | (refine gate_ (.store 53 (.tmp 0) (.tmp 11)) rfl ?_; refine wg_store_op rfl rfl 53 (.tmp 0) (.tmp 11) rfl _ _ p 53 _ rfl rfl rfl (by kernel_rfl) rfl HH.out rfl ?_; intro w1 h1 hg1)
    | (refine gate_ (.store 100 (.tmp 1) (.tmp 13)) rfl ?_; refine wg_store_op rfl rfl 100 (.tmp 1) (.tmp 13) rfl _ _ q 100 _ rfl rfl rfl (by kernel_rfl) rfl (blk_grown HE.out hg1 (fun e => hpq (Option.some.inj e).symm)) rfl ?_; intro w2 h2 hg2))
  refine ⟨rfl, _, rfl, _, results_none rfl _ _ _, rfl, rfl, ?_, h2, ((Below.refl _ w).grown hg1 hbw (fun k hk => by cases hk; exact hbp)).grown hg2 (Nat.le_trans hbw hg1.size) (fun k hk => by cases hk; exact hbq), fun k kp kq kl => ?_⟩
  · exact (hg2.block p (Array.getElem?_eq_some_iff.1 h1).1 (fun e => hpq (Option.some.inj e))).trans h1
  · exact (hg2.block k (Nat.lt_of_lt_of_le kl hg1.size) (fun e => kq (Option.some.inj e))).trans (hg1.block k kl (fun e => kp (Option.some.inj e)))
theorem wg_catch_idle (p q : Nat) (w : World) :
    CallsD Try.prog 71 #[.pointer (some ⟨p, 0, none⟩), .pointer (some ⟨q, 0, none⟩)] .returning w fun e u' w' => e = .returned (.tuple #[]) ∧ u' = .returning ∧ w' = w := by
  refine callsD_of_wpS Try.func71 rfl fun c₀ cs hu => ?_
  apply wpS_seq
  apply wpS_region
  simp [wpOpsS, go_sem, recoverD, hu, Try.ntmps71, Exit.thenS]
  simp only [Array.replicate_succ, Array.replicate_zero, List.push_toArray, List.append_toArray, List.nil_append, List.cons_append, sA_, sZ_, sS_]
  refine wpS_of_wp ?_
  go_wp2
  cases c₀
  simp only at hu
  subst hu
  exact ⟨rfl, _, rfl, _, results_none rfl _ _ _, rfl, rfl, rfl⟩

/-! ### parsed -/
def wgseg (b : List Int) : S53 := ⟨wgn (b.take 2), wgn ((b.take 4).drop 2), wgn ((b.take 8).drop 4), wgn ((b.take 12).drop 8), b.getD 13 0, wgn ((b.take 16).drop 14), wgn ((b.take 20).drop 18), -1, -1, false, false, 0, 0, [], []⟩
def wgend (b : List Int) (m : Nat) : Option S53 → S53 × Int
  | none => (z53, 2)
  | some s => if b.length - m ≤ 65000 then ({ s with f14 := b.drop m }, 0) else (z53, 2)
def wgget1 (v : Bool) (b : List Int) (m : Nat) : S53 × Int :=
  if m < 20 then (z53, 2)
  else if b.length < m then (z53, 1)
  else if v = false then (z53, 3)
  else wgend b m (wgrd (((b.take m).drop 20).length + 1) (wgseg b) [] ((b.take m).drop 20))
def wgget (v : Bool) (b : List Int) : S53 × Int := if b.length < 20 then (z53, 1) else wgget1 v b (b.getD 12 0 / 16 * 4).toNat
/-- What parsed hands back. -/
def WPars (w : World) (r : S53 × Int) (e : Ending) (w' : World) : Prop :=
  Below w.heap.size w w' ∧ ∃ v13 v14 er, e = .returned (.tuple #[.agg (wgcells r.1 v13 v14), er]) ∧ Kd.R k112 112 w' w.heap.size (fun _ => True) v13 r.1.f13 ∧ Kd.R (Kd.int .u8) 5 w' w.heap.size (fun _ => True) v14 r.1.f14 ∧
    (r.2 = 0 ∧ er = .nilIface ∨ ∃ pb, er = .iface 122 (.pointer (some ⟨pb, 0, none⟩)) ∧ w'.cell? ⟨pb, 0, none⟩ = some (.int .i64 r.2))
set_option maxRecDepth 100000 in
theorem wg_results (tmps : Array Value) (p q : Nat) (s : S53) (v d er : Value) (W : World) (e6 : tmps[6]?.getD undef = .pointer (some ⟨p, 0, none⟩)) (e7 : tmps[7]?.getD undef = .pointer (some ⟨q, 0, none⟩)) (hh : W.heap[p]? = some (.cells (wgcells s v d) 53 (0, 0))) (he : W.heap[q]? = some (.cells #[er] 100 (0, 0))) :
    (results Try.f55 tmps).run Try.prog W = .ok (.tuple #[.agg (wgcells s v d), er]) W := by
  have h1 := run_loadVar_row (P := Try.prog) W p 53 53 _ (0, 0) _ hh Try.underlying53 rfl (by kernel_rfl)
  have hc : W.cell? ⟨q, 0, none⟩ = some er := (blk_cell he 0).trans rfl
  have h2 : (loadVar 100 ⟨q, 0, none⟩).run Try.prog W = .ok er W := by
    simp [loadVar, isAgg, Sem.run_bind, run_underlying Try.underlying100 W, go_sem, hc]
  simp [results, Try.results55, e6, e7, asAddr, h1, h2]

theorem wg_lit_two {W : World} {A B : Option Addr} {ca cb na nb b : Nat} {la lb : List Int} (hsz : W.heap.size = b) (hna : la.length = na) (hca : la.length ≤ ca) (ha : Kd.C (Kd.int .u8) W A la.length la) (hnb : lb.length = nb) (hcb : lb.length ≤ cb) (hb : Kd.C (Kd.int .u8) W B lb.length lb) :
    Kd.C (Kd.slice 5 (Kd.int .u8)) (W.alloc (.cells #[.slice A na ca, .slice B nb cb] 34)) (some ⟨b, 0, none⟩) ([la, lb] : List (List Int)).length [la, lb] := by
  subst hna; subst hnb; subst hsz
  have hbw : Below W.heap.size W (W.alloc (.cells #[.slice A la.length ca, .slice B lb.length cb] 34)) := (Below.refl _ W).alloc (Nat.le_refl _) _
  have hcell : ∀ (j : Nat) (u : Value), (#[Value.slice A la.length ca, .slice B lb.length cb] : Array Value)[j]? = some u → (W.alloc (.cells #[.slice A la.length ca, .slice B lb.length cb] 34)).cell? ((⟨W.heap.size, 0, none⟩ : Addr).add j) = some u := by
    intro j u hu
    rw [add_plain]
    exact (blk_cell (blk_new W _) j).trans hu
  refine ⟨rfl, by simp, fun _ => ⟨_, rfl, fun j p hj => ?_⟩⟩
  match j, hj with
  | 0, hj =>
    obtain rfl : la = p := by simpa using hj
    exact ⟨[.slice A la.length ca], rfl, ⟨A, ca, rfl, hca, Kd.C_below ha hbw⟩, fun i u hu => by
      match i, hu with
      | 0, hu => exact hcell 0 u hu⟩
  | 1, hj =>
    obtain rfl : lb = p := by simpa using hj
    exact ⟨[.slice B lb.length cb], rfl, ⟨B, cb, rfl, hcb, Kd.C_below hb hbw⟩, fun i u hu => by
      match i, hu with
      | 0, hu => exact hcell 1 u hu⟩
theorem Wgs.below {W W' : World} {base g : Nat} {s : S53} {d : Value} (h : Wgs W base g s d) (hb : Below W.heap.size W W') : Wgs W' base g s d := by
  obtain ⟨hbg, v, hh, hR⟩ := h
  exact ⟨hbg, v, blk_below hh hb, Kd.R_below hR hb⟩
theorem wg_leaf (w W : World) (p q pb : Nat) (why : Int) (s : S53) (d x : Value) (HB : Below w.heap.size w W) (HS : Wgs W w.heap.size p s d) (HE : W.heap[q]? = some (.cells #[x] 100 (0, 0))) (hq : w.heap.size ≤ q) (hF : W.heap[pb]? = some (.cells #[.int .i64 why] 144 (0, 0)))
    (tmps : Array Value) (e6 : tmps[6]?.getD undef = .pointer (some ⟨p, 0, none⟩)) (e7 : tmps[7]?.getD undef = .pointer (some ⟨q, 0, none⟩)) (r : S53 × Int) (hr : r = (z53, why)) :
    Leaves Try.prog Try.f55 tmps (fun e w' => WPars w r e w') [{ target := .fn (.func 71) #[.pointer (some ⟨p, 0, none⟩), .pointer (some ⟨q, 0, none⟩)], args := #[] }] (.panicking [{ v := .iface 122 (.pointer (some ⟨pb, 0, none⟩)), recovered := false }]) W := by
  subst hr
  have hp : pb ≠ p := fun e => by obtain ⟨_, v, hh, _⟩ := HS; subst e; rw [hh] at hF; cases hF
  have hq' : pb ≠ q := fun e => by subst e; rw [HE] at hF; cases hF
  refine leaves_cons (f := 71) (args := #[.pointer (some ⟨p, 0, none⟩), .pointer (some ⟨q, 0, none⟩)]) (by simp) (by simp [go_sem]) ?_
  refine (wg_catch p q w.heap.size s d x _ [] W HS hq (Below.size HB) HE).mono ?_
  rintro e u' w2 ⟨rfl, rfl, h1, h2, hb, h3⟩
  simp only [settle, List.dropWhile]
  refine ⟨_, wg_results tmps p q z53 (.slice none 0 0) (.slice none 0 0) _ w2 e6 e7 h1 h2, HB.trans hb, _, _, _, rfl, Kd.R_nil _ _ _ _ _, Kd.R_nil _ _ _ _ _, .inr ⟨pb, rfl, ?_⟩⟩
  exact (blk_cell ((h3 pb hp hq' (Array.getElem?_eq_some_iff.1 hF).1).trans hF) 0).trans rfl
theorem wg_leaf_ok (w W : World) (p q : Nat) (s : S53) (v d : Value) (HB : Below w.heap.size w W) (HP : W.heap[p]? = some (.cells (wgcells s v d) 53 (0, 0))) (HV : Kd.R k112 112 W w.heap.size (fun _ => True) v s.f13) (HD : Kd.R (Kd.int .u8) 5 W w.heap.size (fun _ => True) d s.f14) (HE : W.heap[q]? = some (.cells #[.nilIface] 100 (0, 0)))
    (tmps : Array Value) (e6 : tmps[6]?.getD undef = .pointer (some ⟨p, 0, none⟩)) (e7 : tmps[7]?.getD undef = .pointer (some ⟨q, 0, none⟩)) (r : S53 × Int) (hr : r = (s, 0)) :
    Leaves Try.prog Try.f55 tmps (fun e w' => WPars w r e w') [{ target := .fn (.func 71) #[.pointer (some ⟨p, 0, none⟩), .pointer (some ⟨q, 0, none⟩)], args := #[] }] .returning W := by
  subst hr
  refine leaves_cons (f := 71) (args := #[.pointer (some ⟨p, 0, none⟩), .pointer (some ⟨q, 0, none⟩)]) (by simp) (by simp [go_sem]) ?_
  refine (wg_catch_idle p q W).mono ?_
  rintro e u' w2 ⟨rfl, rfl, rfl⟩
  simp only [settle]
  exact ⟨_, wg_results tmps p q s v d _ w2 e6 e7 HP HE, HB, v, d, .nilIface, rfl, HV, HD, .inl ⟨rfl, rfl⟩⟩
theorem wg_R_store {α : Type} {d : Kd α} {e base g t : Nat} {W W' : World} {v : Value} {xs : List α} {cells : Array Value} (h : d.R e W base (fun _ => True) v xs) (hb : W.heap[g]? = some (.cells cells t (0, 0))) (ht : ∀ q, q ∈ e :: d.E → q ≠ t) (hg : W.grownBy W' (some g)) : d.R e W' base (fun _ => True) v xs :=
  Kd.R_mono (Kd.R_grown (Kd.R_types h hb ht) hg (fun k hk e => hk.2 (Option.some.inj e))) (fun _ _ => trivial)
theorem wg_own_empty (w : World) (base : Nat) (hb : base ≤ w.heap.size) : Kd.R (Kd.int .u8) 5 (w.alloc (.cells #[] 5)) base (fun _ => True) (.slice (some ⟨w.heap.size, 0, none⟩) 0 0) [] :=
  ⟨fun _ _ => trivial, [], ⟨rfl, .inr ⟨w.heap.size, 0, #[], rfl, hb, blk_new w _, by decide, by decide, rfl, rfl⟩⟩, by simp, fun j p hj => by simp at hj⟩
set_option maxRecDepth 100000 in
set_option maxHeartbeats 16000000 in
theorem wg_parsed (A : Option Addr) (c : Nat) (b : List Int) (src dst : Int) (vd : Bool) (w : World) (hC : Kd.C (Kd.int .u8) w A b.length b) (hc : b.length ≤ c) (hb : wgb b) (hv : sum_Valid.f [four8 src ++ four8 dst ++ [0, 6, ((b.length : Int) / 256) % 256, (b.length : Int) % 256], b] = some vd) :
    Calls Try.prog 55 #[.slice A b.length c, .int .u32 src, .int .u32 dst] w fun e w' => WPars w (wgget vd b) e w' := by
  have hmf : ∀ (fn : Fn) (first cap : Array Value) (W : World), (Instr.makeFunc fn first cap).run Try.prog W = .ok (.func fn first cap) W := fun _ _ _ _ => rfl
  have hm : b.length ≤ 9223372036854775807 := hC.2.1
  have HC := Lib.hid hC; have HC0 := Lib.hid hc; have HBB := Lib.hid hb; have HV0 := Lib.hid hv
  obtain ⟨ps, hps⟩ : ∃ ps, four8 src ++ four8 dst ++ [0, 6, ((b.length : Int) / 256) % 256, (b.length : Int) % 256] = ps := ⟨_, rfl⟩
  have HV := Lib.hid (show sum_Valid.f [ps, b] = some vd from by rw [← hps]; exact hv)
  have HPS := Lib.hid (show sum_Pseudo.f src dst (b.length : Int) = some ps from by rw [← hps]; rfl)
  clear hC hc hb hv hps HV0
  go_enter_defers Try.func55, Try.ntmps55
  go_upto_region 2 with (fail)
  obtain ⟨p, hp⟩ : ∃ p, w.heap.size = p := ⟨_, rfl⟩
  obtain ⟨q, hq⟩ : ∃ q, p + 1 = q := ⟨_, rfl⟩
  have HB := Lib.hid (show Below w.heap.size w ((w.alloc (.cells #[.int .i64 0, .int .i64 0, .int .u32 0, .int .u32 0, .int .i64 0, .int .i64 0, .int .i64 0, .int .i64 0, .int .i64 0, .bool false, .bool false, .int .u32 0, .int .u32 0, .slice none 0 0, .slice none 0 0] 53)).alloc (.cells #[.nilIface] 100)) from ((Below.refl w.heap.size w).alloc (Nat.le_refl _) _).alloc (by simp) _)
  have HS := Lib.hid (show Wgs ((w.alloc (.cells #[.int .i64 0, .int .i64 0, .int .u32 0, .int .u32 0, .int .i64 0, .int .i64 0, .int .i64 0, .int .i64 0, .int .i64 0, .bool false, .bool false, .int .u32 0, .int .u32 0, .slice none 0 0, .slice none 0 0] 53)).alloc (.cells #[.nilIface] 100)) w.heap.size p z53 (.slice none 0 0) from ⟨by omega, .slice none 0 0, by rw [← hp]; exact blk_alloc (blk_new w _) _, Kd.R_nil _ _ _ _ _⟩)
  have HE := Lib.hid (show ((w.alloc (.cells #[.int .i64 0, .int .i64 0, .int .u32 0, .int .u32 0, .int .i64 0, .int .i64 0, .int .i64 0, .int .i64 0, .int .i64 0, .bool false, .bool false, .int .u32 0, .int .u32 0, .slice none 0 0, .slice none 0 0] 53)).alloc (.cells #[.nilIface] 100)).heap[q]? = some (.cells #[.nilIface] 100 (0, 0)) from by rw [← hq, ← hp]; exact (by have h_ := blk_new (w.alloc (.cells #[.int .i64 0, .int .i64 0, .int .u32 0, .int .u32 0, .int .i64 0, .int .i64 0, .int .i64 0, .int .i64 0, .int .i64 0, .bool false, .bool false, .int .u32 0, .int .u32 0, .slice none 0 0, .slice none 0 0] 53)) (.cells #[.nilIface] 100); rwa [World.size_alloc] at h_))
  rw [hp, hq]
  have HQB := Lib.hid (show w.heap.size ≤ q by omega)
  clear hp hq
  generalize ((w.alloc (.cells #[.int .i64 0, .int .i64 0, .int .u32 0, .int .u32 0, .int .i64 0, .int .i64 0, .int .i64 0, .int .i64 0, .int .i64 0, .bool false, .bool false, .int .u32 0, .int .u32 0, .slice none 0 0, .slice none 0 0] 53)).alloc (.cells #[.nilIface] 100)) = W1 at HB HS HE ⊢
  by_cases h20 : b.length < 20
  · have h20' : decide ((20 : Int) ≤ (b.length : Int)) = false := decide_eq_false (by omega)
    have HH := Lib.hid h20; clear h20
    go_wp2_with (go_at_call 72; with_reducible refine (wg_must_false 1 _).mono ?_; rintro e w1 ⟨rfl, rfl⟩)
    exact wg_leaf w _ p q _ 1 _ _ _ (HB.out.alloc (Below.size HB.out) _) (HS.out.alloc _) (blk_alloc HE.out _) HQB.out (blk_new W1 _) _ rfl rfl _ (by rw [wgget, if_pos HH.out])
  have h20' : decide ((20 : Int) ≤ (b.length : Int)) = true := decide_eq_true (by omega)
  obtain ⟨ad, rfl, x0⟩ := wg_at A b w HC.out 12 (by omega)
  have X0 := (HB.out.cell (World.block_lt_of_cell? w _ x0)).trans x0
  obtain ⟨x, hx⟩ : ∃ x, b.getD 12 0 = x := ⟨_, rfl⟩
  have X0' : W1.cell? ⟨ad.block, ad.off + 12, none⟩ = some (.int .u8 x) := by rw [← hx]; exact X0
  have hxb := wgb_at HBB.out 12 (by omega)
  rw [hx] at hxb
  have h12 : 12 < b.length := by omega
  clear x0 X0
  have HNX : x / 16 * 4 = ((x / 16 * 4).toNat : Int) := by omega
  obtain ⟨m, hm4⟩ : ∃ m, (x / 16 * 4).toNat = m := ⟨_, rfl⟩
  rw [hm4] at HNX
  have HX := Lib.hid hx; have HXM := Lib.hid HNX; have H20 := Lib.hid h20; have HXB := Lib.hid hxb
  have HG0 := Lib.hid (show wgget vd b = wgget1 vd b m from by unfold wgget; rw [if_neg h20, hx, hm4])
  have hw1 : wrap64 (x / 16) = x / 16 := wg_w64 (by omega) (by omega)
  have hwm : wrap64 (m : Int) = (m : Int) := wg_w64 (by omega) (by omega)
  have hw2 : wrap64 (x / 16 * 4) = (m : Int) := by rw [wg_w64 (by omega) (by omega)]; exact HNX
  clear hx hm4 hxb h20
  by_cases hm20 : m < 20
  · have g20 : decide ((20 : Int) ≤ (m : Int)) = false := decide_eq_false (by omega)
    have HM20 := Lib.hid hm20; clear hm20
    go_wp2_with (go_at_call 72; first | (with_reducible refine (wg_must_true _ _).mono ?_; rintro e w1 ⟨rfl, rfl⟩) | (with_reducible refine (wg_must_false _ _).mono ?_; rintro e w1 ⟨rfl, rfl⟩))
    exact wg_leaf w _ p q _ 2 _ _ _ (HB.out.alloc (Below.size HB.out) _) (HS.out.alloc _) (blk_alloc HE.out _) HQB.out (blk_new _ _) _ rfl rfl _ (by rw [HG0.out, wgget1, if_pos HM20.out])
  have g20 : decide ((20 : Int) ≤ (m : Int)) = true := decide_eq_true (by omega)
  have HM20 := Lib.hid hm20; clear hm20
  by_cases hml : b.length < m
  · have gml : decide (m ≤ b.length) = false := decide_eq_false (by omega)
    have HML := Lib.hid hml; clear hml
    go_wp2_with (go_at_call 72; first | (with_reducible refine (wg_must_true _ _).mono ?_; rintro e w1 ⟨rfl, rfl⟩) | (with_reducible refine (wg_must_false _ _).mono ?_; rintro e w1 ⟨rfl, rfl⟩))
    exact wg_leaf w _ p q _ 1 _ _ _ (HB.out.alloc (Below.size HB.out) _) (HS.out.alloc _) (blk_alloc HE.out _) HQB.out (blk_new _ _) _ rfl rfl _ (by rw [HG0.out, wgget1, if_neg HM20.out, if_pos HML.out])
  have gml : decide (m ≤ b.length) = true := decide_eq_true (by omega)
  have HML := Lib.hid hml; clear hml
  cases vd with
  | false =>
    go_wp2_with (first | (go_at_call 72; first | (with_reducible refine (wg_must_true _ _).mono ?_; rintro e w1 ⟨rfl, rfl⟩) | (with_reducible refine (wg_must_false _ _).mono ?_; rintro e w1 ⟨rfl, rfl⟩)) | (go_at_call 44; refine (sum_Pseudo.calls src dst (b.length : Int) ps _ HPS.out).mono ?_; rintro e w2 ⟨v0, rfl, hR2, hb2⟩; obtain ⟨A2, c2, rfl, hc2, hC2⟩ := Kd.R_reads hR2; have HC2 := Lib.hid hC2; have HCC2 := Lib.hid hc2; have HB2 := Lib.hid (below_step HB.out hb2); have HS2 := Lib.hid (HS.out.below hb2); have HE2 := Lib.hid (blk_below HE.out hb2); clear hR2 hb2 hC2 hc2) | (go_at_call 73; refine (sum_Valid.calls _ 2 [ps, b] _ _ (wg_lit_two rfl rfl HCC2.out HC2.out rfl HC0.out (Kd.C_below HC.out HB2.out)) (by simp) HV.out).mono ?_; rintro e w3 ⟨rfl, hb3⟩; have HB3 := Lib.hid (below_step (HB2.out.alloc (Below.size HB2.out) _) hb3); have HS3 := Lib.hid ((HS2.out.alloc _).below hb3); have HE3 := Lib.hid (blk_below (blk_alloc HE2.out _) hb3); clear hb3))
    exact wg_leaf w _ p q _ 3 _ _ _ (HB3.out.alloc (Below.size HB3.out) _) (HS3.out.alloc _) (blk_alloc HE3.out _) HQB.out (blk_new _ _) _ rfl rfl _ (by rw [HG0.out, wgget1, if_neg HM20.out, if_neg HML.out, if_pos rfl])
  | true =>
    go_upto_region 7 with (first | (go_at_call 72; first | (with_reducible refine (wg_must_true _ _).mono ?_; rintro e w1 ⟨rfl, rfl⟩) | (with_reducible refine (wg_must_false _ _).mono ?_; rintro e w1 ⟨rfl, rfl⟩)) | (go_at_call 44; refine (sum_Pseudo.calls src dst (b.length : Int) ps _ HPS.out).mono ?_; rintro e w2 ⟨v0, rfl, hR2, hb2⟩; obtain ⟨A2, c2, rfl, hc2, hC2⟩ := Kd.R_reads hR2; have HC2 := Lib.hid hC2; have HCC2 := Lib.hid hc2; have HB2 := Lib.hid (below_step HB.out hb2); have HS2 := Lib.hid (HS.out.below hb2); have HE2 := Lib.hid (blk_below HE.out hb2); clear hR2 hb2 hC2 hc2) | (go_at_call 73; refine (sum_Valid.calls _ 2 [ps, b] _ _ (wg_lit_two rfl rfl HCC2.out HC2.out rfl HC0.out (Kd.C_below HC.out HB2.out)) (by simp) HV.out).mono ?_; rintro e w3 ⟨rfl, hb3⟩; have HB3 := Lib.hid (below_step (HB2.out.alloc (Below.size HB2.out) _) hb3); have HS3 := Lib.hid ((HS2.out.alloc _).below hb3); have HE3 := Lib.hid (blk_below (blk_alloc HE2.out _) hb3); clear hb3))
    obtain ⟨u0, hu0, _, hsz, _⟩ := info_parts info5
    have H20L : 20 ≤ b.length := by have := H20.out; omega
    have cut0 := cut_to (P := Try.prog) 34 5 .i64 Try.underlying34 hu0 (some ad) b.length c (2 : Int) (by omega) (by omega) HC0.out
    simp only [show ((2 : Int)).toNat = 2 from rfl] at cut0
    have R0 := Kd.C_take (m := 2) HC.out (by omega)
    obtain ⟨a0, ha0⟩ : ∃ a, (some ad : Option Addr) = a := ⟨_, rfl⟩
    have l0 : (b.take 2).length = 2 := by simp only [List.length_drop, List.length_take]; omega
    have G0 := wg_get (b.take 2) (by omega)
    have nb0 := wgn_bd (l := b.take 2) (fun x hx => HBB.out x (List.mem_of_mem_take hx))
    obtain ⟨n0, hn0⟩ : ∃ n, wgn (b.take 2) = n := ⟨_, rfl⟩
    rw [hn0] at G0 nb0
    have wn0 : wrap64 n0 = n0 := wg_w64 (by omega) (by omega)
    have wi0 : IntKind.i64.wrap n0 = n0 := (i64_w n0).trans wn0
    have K0 := Lib.hid (fun (W : World) (hB : Below w.heap.size w W) => wire_get.calls _ (some ad) c (b.take 2) n0 W (Kd.C_below R0 hB) (by have := HC0.out; omega) G0)
    rw [l0] at K0
    have cut1 := cut_mid (P := Try.prog) 34 5 .i64 .i64 Try.underlying34 hu0 1 hsz (some ad) b.length c (2 : Int) (4 : Int) (by omega) (by omega) (by omega) HC0.out
    simp only [show ((2 : Int)).toNat = 2 from rfl, show ((4 : Int)).toNat = 4 from rfl, Nat.mul_one, show 4 - 2 = 2 from rfl] at cut1
    obtain ⟨a1, ha1⟩ : ∃ a, (if c = 2 then some ad else (some ad).map (·.add 2)) = a := ⟨_, rfl⟩
    rw [ha1] at cut1
    have R1 := Kd.C_mid (lo := 2) (hi := 4) (c := c) HC.out (by omega) (by omega) HC0.out
    rw [show 2 * (Kd.int .u8).sz = 2 from rfl, ha1] at R1
    have l1 : ((b.take 4).drop 2).length = 2 := by simp only [List.length_drop, List.length_take]; omega
    have G1 := wg_get ((b.take 4).drop 2) (by omega)
    have nb1 := wgn_bd (l := (b.take 4).drop 2) (fun x hx => HBB.out x (List.mem_of_mem_take (List.mem_of_mem_drop hx)))
    obtain ⟨n1, hn1⟩ : ∃ n, wgn ((b.take 4).drop 2) = n := ⟨_, rfl⟩
    rw [hn1] at G1 nb1
    have wn1 : wrap64 n1 = n1 := wg_w64 (by omega) (by omega)
    have wi1 : IntKind.i64.wrap n1 = n1 := (i64_w n1).trans wn1
    have K1 := Lib.hid (fun (W : World) (hB : Below w.heap.size w W) => wire_get.calls _ a1 (c - 2) ((b.take 4).drop 2) n1 W (Kd.C_below R1 hB) (by have := HC0.out; omega) G1)
    rw [l1] at K1
    have cut2 := cut_mid (P := Try.prog) 34 5 .i64 .i64 Try.underlying34 hu0 1 hsz (some ad) b.length c (4 : Int) (8 : Int) (by omega) (by omega) (by omega) HC0.out
    simp only [show ((4 : Int)).toNat = 4 from rfl, show ((8 : Int)).toNat = 8 from rfl, Nat.mul_one, show 8 - 4 = 4 from rfl] at cut2
    obtain ⟨a2, ha2⟩ : ∃ a, (if c = 4 then some ad else (some ad).map (·.add 4)) = a := ⟨_, rfl⟩
    rw [ha2] at cut2
    have R2 := Kd.C_mid (lo := 4) (hi := 8) (c := c) HC.out (by omega) (by omega) HC0.out
    rw [show 4 * (Kd.int .u8).sz = 4 from rfl, ha2] at R2
    have l2 : ((b.take 8).drop 4).length = 4 := by simp only [List.length_drop, List.length_take]; omega
    have G2 := wg_get ((b.take 8).drop 4) (by omega)
    have nb2 := wgn_bd (l := (b.take 8).drop 4) (fun x hx => HBB.out x (List.mem_of_mem_take (List.mem_of_mem_drop hx)))
    obtain ⟨n2, hn2⟩ : ∃ n, wgn ((b.take 8).drop 4) = n := ⟨_, rfl⟩
    rw [hn2] at G2 nb2
    have wn2 : wrap64 n2 = n2 := wg_w64 (by omega) (by omega)
    have wi2 : IntKind.i64.wrap n2 = n2 := (i64_w n2).trans wn2
    have K2 := Lib.hid (fun (W : World) (hB : Below w.heap.size w W) => wire_get.calls _ a2 (c - 4) ((b.take 8).drop 4) n2 W (Kd.C_below R2 hB) (by have := HC0.out; omega) G2)
    rw [l2] at K2
    have cut3 := cut_mid (P := Try.prog) 34 5 .i64 .i64 Try.underlying34 hu0 1 hsz (some ad) b.length c (8 : Int) (12 : Int) (by omega) (by omega) (by omega) HC0.out
    simp only [show ((8 : Int)).toNat = 8 from rfl, show ((12 : Int)).toNat = 12 from rfl, Nat.mul_one, show 12 - 8 = 4 from rfl] at cut3
    obtain ⟨a3, ha3⟩ : ∃ a, (if c = 8 then some ad else (some ad).map (·.add 8)) = a := ⟨_, rfl⟩
    rw [ha3] at cut3
    have R3 := Kd.C_mid (lo := 8) (hi := 12) (c := c) HC.out (by omega) (by omega) HC0.out
    rw [show 8 * (Kd.int .u8).sz = 8 from rfl, ha3] at R3
    have l3 : ((b.take 12).drop 8).length = 4 := by simp only [List.length_drop, List.length_take]; omega
    have G3 := wg_get ((b.take 12).drop 8) (by omega)
    have nb3 := wgn_bd (l := (b.take 12).drop 8) (fun x hx => HBB.out x (List.mem_of_mem_take (List.mem_of_mem_drop hx)))
    obtain ⟨n3, hn3⟩ : ∃ n, wgn ((b.take 12).drop 8) = n := ⟨_, rfl⟩
    rw [hn3] at G3 nb3
    have wn3 : wrap64 n3 = n3 := wg_w64 (by omega) (by omega)
    have wi3 : IntKind.i64.wrap n3 = n3 := (i64_w n3).trans wn3
    have K3 := Lib.hid (fun (W : World) (hB : Below w.heap.size w W) => wire_get.calls _ a3 (c - 8) ((b.take 12).drop 8) n3 W (Kd.C_below R3 hB) (by have := HC0.out; omega) G3)
    rw [l3] at K3
    have cut4 := cut_mid (P := Try.prog) 34 5 .i64 .i64 Try.underlying34 hu0 1 hsz (some ad) b.length c (14 : Int) (16 : Int) (by omega) (by omega) (by omega) HC0.out
    simp only [show ((14 : Int)).toNat = 14 from rfl, show ((16 : Int)).toNat = 16 from rfl, Nat.mul_one, show 16 - 14 = 2 from rfl] at cut4
    obtain ⟨a4, ha4⟩ : ∃ a, (if c = 14 then some ad else (some ad).map (·.add 14)) = a := ⟨_, rfl⟩
    rw [ha4] at cut4
    have R4 := Kd.C_mid (lo := 14) (hi := 16) (c := c) HC.out (by omega) (by omega) HC0.out
    rw [show 14 * (Kd.int .u8).sz = 14 from rfl, ha4] at R4
    have l4 : ((b.take 16).drop 14).length = 2 := by simp only [List.length_drop, List.length_take]; omega
    have G4 := wg_get ((b.take 16).drop 14) (by omega)
    have nb4 := wgn_bd (l := (b.take 16).drop 14) (fun x hx => HBB.out x (List.mem_of_mem_take (List.mem_of_mem_drop hx)))
    obtain ⟨n4, hn4⟩ : ∃ n, wgn ((b.take 16).drop 14) = n := ⟨_, rfl⟩
    rw [hn4] at G4 nb4
    have wn4 : wrap64 n4 = n4 := wg_w64 (by omega) (by omega)
    have wi4 : IntKind.i64.wrap n4 = n4 := (i64_w n4).trans wn4
    have K4 := Lib.hid (fun (W : World) (hB : Below w.heap.size w W) => wire_get.calls _ a4 (c - 14) ((b.take 16).drop 14) n4 W (Kd.C_below R4 hB) (by have := HC0.out; omega) G4)
    rw [l4] at K4
    have cut5 := cut_mid (P := Try.prog) 34 5 .i64 .i64 Try.underlying34 hu0 1 hsz (some ad) b.length c (18 : Int) (20 : Int) (by omega) (by omega) (by omega) HC0.out
    simp only [show ((18 : Int)).toNat = 18 from rfl, show ((20 : Int)).toNat = 20 from rfl, Nat.mul_one, show 20 - 18 = 2 from rfl] at cut5
    obtain ⟨a5, ha5⟩ : ∃ a, (if c = 18 then some ad else (some ad).map (·.add 18)) = a := ⟨_, rfl⟩
    rw [ha5] at cut5
    have R5 := Kd.C_mid (lo := 18) (hi := 20) (c := c) HC.out (by omega) (by omega) HC0.out
    rw [show 18 * (Kd.int .u8).sz = 18 from rfl, ha5] at R5
    have l5 : ((b.take 20).drop 18).length = 2 := by simp only [List.length_drop, List.length_take]; omega
    have G5 := wg_get ((b.take 20).drop 18) (by omega)
    have nb5 := wgn_bd (l := (b.take 20).drop 18) (fun x hx => HBB.out x (List.mem_of_mem_take (List.mem_of_mem_drop hx)))
    obtain ⟨n5, hn5⟩ : ∃ n, wgn ((b.take 20).drop 18) = n := ⟨_, rfl⟩
    rw [hn5] at G5 nb5
    have wn5 : wrap64 n5 = n5 := wg_w64 (by omega) (by omega)
    have wi5 : IntKind.i64.wrap n5 = n5 := (i64_w n5).trans wn5
    have K5 := Lib.hid (fun (W : World) (hB : Below w.heap.size w W) => wire_get.calls _ a5 (c - 18) ((b.take 20).drop 18) n5 W (Kd.C_below R5 hB) (by have := HC0.out; omega) G5)
    rw [l5] at K5
    obtain ⟨y, hy⟩ : ∃ y, b.getD 13 0 = y := ⟨_, rfl⟩
    have hyb := wgb_at HBB.out 13 (by omega)
    obtain ⟨ad', ead, y0⟩ := wg_at (some ad) b w HC.out 13 (by omega)
    obtain rfl := Option.some.inj ead
    have Y0 := (HB3.out.cell (World.block_lt_of_cell? w _ y0)).trans y0
    rw [hy] at hyb
    have Y0' : w3.cell? ⟨ad.block, ad.off + 13, none⟩ = some (.int .u8 y) := by rw [← hy]; exact Y0
    have wy : IntKind.i64.wrap y = y := (i64_w y).trans (wg_w64 (by omega) (by omega))
    have wy' : wrap64 y = y := wg_w64 (by omega) (by omega)
    have h13 : 13 < b.length := by omega
    have h13i : (13 : Int) < (b.length : Int) := by omega
    have HSEG := Lib.hid (show wgseg b = ⟨n0, n1, n2, n3, y, n4, n5, -1, -1, false, false, 0, 0, [], []⟩ from by unfold wgseg; rw [hn0, hn1, hn2, hn3, hn4, hn5, hy])
    obtain ⟨hbp, v3, hh3, hR3⟩ := HS3.out
    have HH3 := Lib.hid hh3; have HBP := Lib.hid hbp
    clear R0 l0 G0 nb0 hn0 ha0 R1 l1 G1 nb1 hn1 ha1 R2 l2 G2 nb2 hn2 ha2 R3 l3 G3 nb3 hn3 ha3 R4 l4 G4 nb4 hn4 ha4 R5 l5 G5 nb5 hn5 ha5 hy hyb ead y0 Y0 H20L hh3 hR3 hbp
    refine wp_region_noPanic ?_
    refine start_ (n := 28) (S := fun w' => w'.cell? ⟨ad.block, ad.off + 13, none⟩ = some (.int .u8 y)) (ds := [27]) #[O,O,O,O,O,O,O,O,O,O,O,O,O,O,O,O,O,O,O,O,O,O,O,O,O,O,O,O] (by kernel_rfl) rfl rfl (Y0') (fun hHeld => ?_)
    refine pure_ (i := 0) (N := some 37) (v := ?_) (a' := ?_) #[I,O,O,O,O,O,O,O,O,O,O,O,O,O,O,O,O,O,O,O,O,O,O,O,O,O,O,O] rfl rfl (by kernel_rfl) (fun _ _ _ h => h) (Or.inl ⟨by rfl, ?_⟩) ?_ ?_
    rotate_left
    · intro w'
      go_simp
      with_reducible rfl
    rotate_left
    · simp only [Act.put, sA_, sZ_, sS_, i64_w, i32_w]
      rfl
    refine pure_ (i := 1) (N := some 38) (v := ?_) (a' := ?_) #[I,I,O,O,O,O,O,O,O,O,O,O,O,O,O,O,O,O,O,O,O,O,O,O,O,O,O,O] rfl rfl (by kernel_rfl) (fun _ _ _ h => h) (Or.inl ⟨by rfl, ?_⟩) ?_ ?_
    rotate_left
    · intro w'
      go_simp
      with_reducible rfl
    rotate_left
    · simp only [Act.put, sA_, sZ_, sS_, i64_w, i32_w]
      rfl
    refine pure_ (i := 4) (N := some 41) (v := ?_) (a' := ?_) #[I,I,O,O,I,O,O,O,O,O,O,O,O,O,O,O,O,O,O,O,O,O,O,O,O,O,O,O] rfl rfl (by kernel_rfl) (fun _ _ _ h => h) (Or.inl ⟨by rfl, ?_⟩) ?_ ?_
    rotate_left
    · intro w'
      go_simp
      with_reducible rfl
    rotate_left
    · simp only [Act.put, sA_, sZ_, sS_, i64_w, i32_w]
      rfl
    refine pure_ (i := 5) (N := some 42) (v := ?_) (a' := ?_) #[I,I,O,O,I,I,O,O,O,O,O,O,O,O,O,O,O,O,O,O,O,O,O,O,O,O,O,O] rfl rfl (by kernel_rfl) (fun _ _ _ h => h) (Or.inl ⟨by rfl, ?_⟩) ?_ ?_
    rotate_left
    · intro w'
      go_simp
      with_reducible rfl
    rotate_left
    · simp only [Act.put, sA_, sZ_, sS_, i64_w, i32_w]
      rfl
    refine pure_ (i := 8) (N := some 45) (v := ?_) (a' := ?_) #[I,I,O,O,I,I,O,O,I,O,O,O,O,O,O,O,O,O,O,O,O,O,O,O,O,O,O,O] rfl rfl (by kernel_rfl) (fun _ _ _ h => h) (Or.inl ⟨by rfl, ?_⟩) ?_ ?_
    rotate_left
    · intro w'
      go_simp
      with_reducible rfl
    rotate_left
    · simp only [Act.put, sA_, sZ_, sS_, i64_w, i32_w]
      rfl
    refine pure_ (i := 9) (N := some 46) (v := ?_) (a' := ?_) #[I,I,O,O,I,I,O,O,I,I,O,O,O,O,O,O,O,O,O,O,O,O,O,O,O,O,O,O] rfl rfl (by kernel_rfl) (fun _ _ _ h => h) (Or.inl ⟨by rfl, ?_⟩) ?_ ?_
    rotate_left
    · intro w'
      go_simp
      with_reducible rfl
    rotate_left
    · simp only [Act.put, sA_, sZ_, sS_, i64_w, i32_w]
      rfl
    refine pure_ (i := 11) (N := some 48) (v := ?_) (a' := ?_) #[I,I,O,O,I,I,O,O,I,I,O,I,O,O,O,O,O,O,O,O,O,O,O,O,O,O,O,O] rfl rfl (by kernel_rfl) (fun _ _ _ h => h) (Or.inl ⟨by rfl, ?_⟩) ?_ ?_
    rotate_left
    · intro w'
      go_simp
      with_reducible rfl
    rotate_left
    · simp only [Act.put, sA_, sZ_, sS_, i64_w, i32_w]
      rfl
    refine pure_ (i := 12) (N := some 49) (v := ?_) (a' := ?_) #[I,I,O,O,I,I,O,O,I,I,O,I,I,O,O,O,O,O,O,O,O,O,O,O,O,O,O,O] rfl rfl (by kernel_rfl) (fun _ _ _ h => h) (Or.inl ⟨by rfl, ?_⟩) ?_ ?_
    rotate_left
    · intro w'
      go_simp
      with_reducible rfl
    rotate_left
    · simp only [Act.put, sA_, sZ_, sS_, i64_w, i32_w]
      rfl
    refine pure_ (i := 14) (N := some 51) (v := ?_) (a' := ?_) #[I,I,O,O,I,I,O,O,I,I,O,I,I,O,I,O,O,O,O,O,O,O,O,O,O,O,O,O] rfl rfl (by kernel_rfl) (fun _ _ _ h => h) (Or.inl ⟨by rfl, ?_⟩) ?_ ?_
    rotate_left
    · intro w'
      go_simp
      with_reducible rfl
    rotate_left
    · simp only [Act.put, sA_, sZ_, sS_, i64_w, i32_w]
      rfl
    refine pure_ (i := 15) (N := some 52) (v := ?_) (a' := ?_) #[I,I,O,O,I,I,O,O,I,I,O,I,I,O,I,I,O,O,O,O,O,O,O,O,O,O,O,O] rfl rfl (by kernel_rfl) (fun _ _ _ h => h) (Or.inl ⟨by rfl, ?_⟩) ?_ ?_
    rotate_left
    · intro w'
      go_simp
      with_reducible rfl
    rotate_left
    · simp only [Act.put, sA_, sZ_, sS_, i64_w, i32_w]
      rfl
    refine pure_ (i := 18) (N := some 55) (v := ?_) (a' := ?_) #[I,I,O,O,I,I,O,O,I,I,O,I,I,O,I,I,O,O,I,O,O,O,O,O,O,O,O,O] rfl rfl (by kernel_rfl) (fun _ _ _ h => h) (Or.inl ⟨by rfl, ?_⟩) ?_ ?_
    rotate_left
    · intro w'
      go_simp
      with_reducible rfl
    rotate_left
    · simp only [Act.put, sA_, sZ_, sS_, i64_w, i32_w]
      rfl
    refine pure_ (i := 19) (N := some 56) (v := ?_) (a' := ?_) #[I,I,O,O,I,I,O,O,I,I,O,I,I,O,I,I,O,O,I,I,O,O,O,O,O,O,O,O] rfl rfl (by kernel_rfl) (fun _ _ _ h => h) (Or.inl ⟨by rfl, ?_⟩) ?_ ?_
    rotate_left
    · intro w'
      go_simp
      with_reducible rfl
    rotate_left
    · simp only [Act.put, sA_, sZ_, sS_, i64_w, i32_w]
      rfl
    refine pure_ (i := 22) (N := some 59) (v := ?_) (a' := ?_) #[I,I,O,O,I,I,O,O,I,I,O,I,I,O,I,I,O,O,I,I,O,O,I,O,O,O,O,O] rfl rfl (by kernel_rfl) (fun _ _ _ h => h) (Or.inl ⟨by rfl, ?_⟩) ?_ ?_
    rotate_left
    · intro w'
      go_simp
      with_reducible rfl
    rotate_left
    · simp only [Act.put, sA_, sZ_, sS_, i64_w, i32_w]
      rfl
    refine pure_ (i := 23) (N := some 60) (v := ?_) (a' := ?_) #[I,I,O,O,I,I,O,O,I,I,O,I,I,O,I,I,O,O,I,I,O,O,I,I,O,O,O,O] rfl rfl (by kernel_rfl) (fun _ _ _ h => h) (Or.inl ⟨by rfl, ?_⟩) ?_ ?_
    rotate_left
    · intro w'
      go_simp
      with_reducible rfl
    rotate_left
    · simp only [Act.put, sA_, sZ_, sS_, i64_w, i32_w]
      rfl
    refine take_ (i := 16) (N := some 53) (v := ?_) (a' := ?_) #[I,I,O,O,I,I,O,O,I,I,O,I,I,O,I,I,I,O,I,I,O,O,I,I,O,O,O,O] rfl rfl (by kernel_rfl) (fun _ _ _ h => h) (Or.inl ⟨by rfl, ?_⟩) hHeld ?_ ?_
    rotate_left
    · intro w' s0
      go_simp
      with_reducible rfl
    rotate_left
    · simp only [Act.put, sA_, sZ_, sS_, i64_w, i32_w]
      rfl
    refine pure_ (i := 17) (N := some 54) (v := ?_) (a' := ?_) #[I,I,O,O,I,I,O,O,I,I,O,I,I,O,I,I,I,I,I,I,O,O,I,I,O,O,O,O] rfl rfl (by kernel_rfl) (fun _ _ _ h => h) (Or.inl ⟨by rfl, ?_⟩) ?_ ?_
    rotate_left
    · intro w'
      go_simp
      with_reducible rfl
    rotate_left
    · simp only [Act.put, sA_, sZ_, sS_, i64_w, i32_w]
      rfl
    refine one_ (i := 2) (N := some 39) #[I,I,I,O,I,I,O,O,I,I,O,I,I,O,I,I,I,I,I,I,O,O,I,I,O,O,O,O] rfl rfl (by kernel_rfl) (by decide) (fun K hK => ?_)
    refine goes_ Try.func74 (by kernel_rfl) rfl #[.slice (some ad) 2 c] (by rfl) rfl rfl (by simp only [List.map_toArray, List.map_cons, List.map_nil]; rfl) ?_
    with_reducible refine (K0.out _ (by repeat (first | exact HB3.out | with_reducible apply below_drew1 | with_reducible refine pw_below_drewN ?_ _))).mono ?_
    rintro e w7 ⟨rfl, nd0, rfl⟩
    refine ⟨_, rfl, ?_⟩
    refine hK.out _ _ (hHeld) (fun hHeld => ?_)
    clear hK K
    refine norm_ (a' := ?_) ?_ ?_
    rotate_left
    · show Act.put _ (some 39) _ = _
      simp only [Act.put, sA_, sZ_, sS_, i64_w, i32_w]
      rfl
    refine pure_ (i := 3) (N := some 40) (v := ?_) (a' := ?_) #[I,I,I,I,I,I,O,O,I,I,O,I,I,O,I,I,I,I,I,I,O,O,I,I,O,O,O,O] rfl rfl (by kernel_rfl) (fun _ _ _ h => h) (Or.inl ⟨by rfl, ?_⟩) ?_ ?_
    rotate_left
    · intro w'
      go_simp
      with_reducible rfl
    rotate_left
    · simp only [Act.put, sA_, sZ_, sS_, i64_w, i32_w]
      rfl
    refine one_ (i := 6) (N := some 43) #[I,I,I,I,I,I,I,O,I,I,O,I,I,O,I,I,I,I,I,I,O,O,I,I,O,O,O,O] rfl rfl (by kernel_rfl) (by decide) (fun K hK => ?_)
    refine goes_ Try.func74 (by kernel_rfl) rfl #[.slice a1 2 (c - 2)] (by rfl) rfl rfl (by simp only [List.map_toArray, List.map_cons, List.map_nil]; rfl) ?_
    with_reducible refine (K1.out _ (by repeat (first | exact HB3.out | with_reducible apply below_drew1 | with_reducible refine pw_below_drewN ?_ _))).mono ?_
    rintro e w7 ⟨rfl, nd1, rfl⟩
    refine ⟨_, rfl, ?_⟩
    refine hK.out _ _ (hHeld) (fun hHeld => ?_)
    clear hK K
    refine norm_ (a' := ?_) ?_ ?_
    rotate_left
    · show Act.put _ (some 43) _ = _
      simp only [Act.put, sA_, sZ_, sS_, i64_w, i32_w]
      rfl
    refine pure_ (i := 7) (N := some 44) (v := ?_) (a' := ?_) #[I,I,I,I,I,I,I,I,I,I,O,I,I,O,I,I,I,I,I,I,O,O,I,I,O,O,O,O] rfl rfl (by kernel_rfl) (fun _ _ _ h => h) (Or.inl ⟨by rfl, ?_⟩) ?_ ?_
    rotate_left
    · intro w'
      go_simp
      with_reducible rfl
    rotate_left
    · simp only [Act.put, sA_, sZ_, sS_, i64_w, i32_w]
      rfl
    refine one_ (i := 10) (N := some 47) #[I,I,I,I,I,I,I,I,I,I,I,I,I,O,I,I,I,I,I,I,O,O,I,I,O,O,O,O] rfl rfl (by kernel_rfl) (by decide) (fun K hK => ?_)
    refine goes_ Try.func74 (by kernel_rfl) rfl #[.slice a2 4 (c - 4)] (by rfl) rfl rfl (by simp only [List.map_toArray, List.map_cons, List.map_nil]; rfl) ?_
    with_reducible refine (K2.out _ (by repeat (first | exact HB3.out | with_reducible apply below_drew1 | with_reducible refine pw_below_drewN ?_ _))).mono ?_
    rintro e w7 ⟨rfl, nd2, rfl⟩
    refine ⟨_, rfl, ?_⟩
    refine hK.out _ _ (hHeld) (fun hHeld => ?_)
    clear hK K
    refine norm_ (a' := ?_) ?_ ?_
    rotate_left
    · show Act.put _ (some 47) _ = _
      simp only [Act.put, sA_, sZ_, sS_, i64_w, i32_w]
      rfl
    refine one_ (i := 13) (N := some 50) #[I,I,I,I,I,I,I,I,I,I,I,I,I,I,I,I,I,I,I,I,O,O,I,I,O,O,O,O] rfl rfl (by kernel_rfl) (by decide) (fun K hK => ?_)
    refine goes_ Try.func74 (by kernel_rfl) rfl #[.slice a3 4 (c - 8)] (by rfl) rfl rfl (by simp only [List.map_toArray, List.map_cons, List.map_nil]; rfl) ?_
    with_reducible refine (K3.out _ (by repeat (first | exact HB3.out | with_reducible apply below_drew1 | with_reducible refine pw_below_drewN ?_ _))).mono ?_
    rintro e w7 ⟨rfl, nd3, rfl⟩
    refine ⟨_, rfl, ?_⟩
    refine hK.out _ _ (hHeld) (fun hHeld => ?_)
    clear hK K
    refine norm_ (a' := ?_) ?_ ?_
    rotate_left
    · show Act.put _ (some 50) _ = _
      simp only [Act.put, sA_, sZ_, sS_, i64_w, i32_w]
      rfl
    refine one_ (i := 20) (N := some 57) #[I,I,I,I,I,I,I,I,I,I,I,I,I,I,I,I,I,I,I,I,I,O,I,I,O,O,O,O] rfl rfl (by kernel_rfl) (by decide) (fun K hK => ?_)
    refine goes_ Try.func74 (by kernel_rfl) rfl #[.slice a4 2 (c - 14)] (by rfl) rfl rfl (by simp only [List.map_toArray, List.map_cons, List.map_nil]; rfl) ?_
    with_reducible refine (K4.out _ (by repeat (first | exact HB3.out | with_reducible apply below_drew1 | with_reducible refine pw_below_drewN ?_ _))).mono ?_
    rintro e w7 ⟨rfl, nd4, rfl⟩
    refine ⟨_, rfl, ?_⟩
    refine hK.out _ _ (hHeld) (fun hHeld => ?_)
    clear hK K
    refine norm_ (a' := ?_) ?_ ?_
    rotate_left
    · show Act.put _ (some 57) _ = _
      simp only [Act.put, sA_, sZ_, sS_, i64_w, i32_w]
      rfl
    refine pure_ (i := 21) (N := some 58) (v := ?_) (a' := ?_) #[I,I,I,I,I,I,I,I,I,I,I,I,I,I,I,I,I,I,I,I,I,I,I,I,O,O,O,O] rfl rfl (by kernel_rfl) (fun _ _ _ h => h) (Or.inl ⟨by rfl, ?_⟩) ?_ ?_
    rotate_left
    · intro w'
      go_simp
      with_reducible rfl
    rotate_left
    · simp only [Act.put, sA_, sZ_, sS_, i64_w, i32_w]
      rfl
    refine one_ (i := 24) (N := some 61) #[I,I,I,I,I,I,I,I,I,I,I,I,I,I,I,I,I,I,I,I,I,I,I,I,I,O,O,O] rfl rfl (by kernel_rfl) (by decide) (fun K hK => ?_)
    refine goes_ Try.func74 (by kernel_rfl) rfl #[.slice a5 2 (c - 18)] (by rfl) rfl rfl (by simp only [List.map_toArray, List.map_cons, List.map_nil]; rfl) ?_
    with_reducible refine (K5.out _ (by repeat (first | exact HB3.out | with_reducible apply below_drew1 | with_reducible refine pw_below_drewN ?_ _))).mono ?_
    rintro e w7 ⟨rfl, nd5, rfl⟩
    refine ⟨_, rfl, ?_⟩
    refine hK.out _ _ (hHeld) (fun hHeld => ?_)
    clear hK K
    refine norm_ (a' := ?_) ?_ ?_
    rotate_left
    · show Act.put _ (some 61) _ = _
      simp only [Act.put, sA_, sZ_, sS_, i64_w, i32_w]
      rfl
    refine pure_ (i := 25) (N := some 62) (v := ?_) (a' := ?_) #[I,I,I,I,I,I,I,I,I,I,I,I,I,I,I,I,I,I,I,I,I,I,I,I,I,I,O,O] rfl rfl (by kernel_rfl) (fun _ _ _ h => h) (Or.inl ⟨by rfl, ?_⟩) ?_ ?_
    rotate_left
    · intro w'
      go_simp
      with_reducible rfl
    rotate_left
    · simp only [Act.put, sA_, sZ_, sS_, i64_w, i32_w]
      rfl
    refine pure_ (i := 26) (N := some 63) (v := ?_) (a' := ?_) #[I,I,I,I,I,I,I,I,I,I,I,I,I,I,I,I,I,I,I,I,I,I,I,I,I,I,I,O] rfl rfl (by kernel_rfl) (fun _ _ _ h => h) (Or.inl ⟨by rfl, ?_⟩) ?_ ?_
    rotate_left
    · intro w'
      go_simp
      with_reducible rfl
    rotate_left
    · simp only [Act.put, sA_, sZ_, sS_, i64_w, i32_w]
      rfl
    refine last_ (i := 27) (N := none) #[I,I,I,I,I,I,I,I,I,I,I,I,I,I,I,I,I,I,I,I,I,I,I,I,I,I,I,I] rfl rfl (by kernel_rfl) (by decide) (fun K hK => ?_)
    refine wg_store_step (by rfl) (by rfl) 53 (.tmp 6) (.tmp 63) rfl (.agg #[.int .i64 n0, .int .i64 n1, .int .u32 n2, .int .u32 n3, .int .i64 y, .int .i64 n4, .int .i64 n5, .int .i64 (-1), .int .i64 (-1), .bool false, .bool false, .int .u32 0, .int .u32 0, .slice none 0 0, .slice none 0 0]) _ p 53 _ (by rfl) (by rfl) (by rfl) (by kernel_rfl) (by rfl) (by repeat (first | exact HH3.out | with_reducible refine blk_drew ?_ | with_reducible refine blk_drewN ?_ _)) (by rfl) ?_
    intro w5 h5 hg5
    refine hK.out _ _ ?_
    clear hK K
    refine done_ (by kernel_rfl) ?_
    refine NoPanic.normal ?_
    have hpq : p ≠ q := fun e => by have h1 := HH3.out; have h2 := HE3.out; rw [e, h2] at h1; cases h1
    have HS5 := Lib.hid (show Wgs w5 w.heap.size p (wgseg b) (.slice none 0 0) from ⟨HBP.out, .slice none 0 0, by rw [HSEG.out]; exact h5, by rw [HSEG.out]; exact Kd.R_nil _ _ _ _ _⟩)
    have HB5 := Lib.hid (show Below w.heap.size w w5 from Below.grown (w := _) (by repeat (first | exact HB3.out | with_reducible apply below_drew1 | with_reducible refine pw_below_drewN ?_ _)) hg5 (by have h_ := Below.size HB3.out; exact h_) (fun k hk => by cases hk; exact HBP.out))
    have HE5 := Lib.hid (show w5.heap[q]? = some (.cells #[.nilIface] 100 (0, 0)) from blk_grown (w := _) (by repeat (first | exact HE3.out | with_reducible refine blk_drew ?_ | with_reducible refine blk_drewN ?_ _)) hg5 (fun e => hpq (Option.some.inj e).symm))
    clear h5 hg5 hHeld Y0' wn0 wn1 wn2 wn3 wn4 wn5 wi0 wi1 wi2 wi3 wi4 wi5 wy wy' K0 K1 K2 K3 K4 K5 cut0 cut1 cut2 cut3 cut4 cut5 h13 h13i HSEG
    have hm20' : 20 ≤ m := by have := HM20.out; omega
    have hmb : m ≤ b.length := by have := HML.out; omega
    have cut8 := cut_mid (P := Try.prog) 34 5 .i64 .i64 Try.underlying34 hu0 1 hsz (some ad) b.length c (20 : Int) (m : Int) (by omega) (by omega) (by omega) HC0.out
    have cut9 := cut_from (P := Try.prog) 34 5 .i64 Try.underlying34 hu0 1 hsz (some ad) b.length c (m : Int) (by omega) (by omega)
    simp only [show ((20 : Int)).toNat = 20 from rfl, Int.toNat_natCast, Nat.mul_one] at cut8 cut9
    obtain ⟨A8, hA8⟩ : ∃ a, (if c = 20 then some ad else (some ad).map (·.add 20)) = a := ⟨_, rfl⟩
    obtain ⟨A9, hA9⟩ : ∃ a, (if c = m then some ad else (some ad).map (·.add m)) = a := ⟨_, rfl⟩
    rw [hA8] at cut8; rw [hA9] at cut9
    have R8 := Kd.C_mid (lo := 20) (hi := m) (c := c) HC.out (by omega) hmb HC0.out
    have R9 := Kd.C_drop (m := m) (c := c) HC.out hmb HC0.out
    rw [show 20 * (Kd.int .u8).sz = 20 from rfl, hA8] at R8
    rw [show m * (Kd.int .u8).sz = m from Nat.mul_one m, hA9] at R9
    obtain ⟨bo, hbo⟩ : ∃ bo, (b.take m).drop 20 = bo := ⟨_, rfl⟩
    obtain ⟨bd, hbd⟩ : ∃ bd, b.drop m = bd := ⟨_, rfl⟩
    have l8 : bo.length = m - 20 := by rw [← hbo, List.length_drop, List.length_take]; omega
    have l9 : bd.length = b.length - m := by rw [← hbd]; exact List.length_drop
    rw [hbo] at R8; rw [hbd] at R9
    obtain ⟨res, hres⟩ : ∃ r, wgrd (bo.length + 1) (wgseg b) [] bo = r := ⟨_, rfl⟩
    have hm60 : m ≤ 60 := by have := HXM.out; have := HXB.out; omega
    have KR := Lib.hid (by
      have h := wg_read p (wgseg b) (.slice none 0 0) A8 (c - 20) bo w w5 HB5.out HS5.out R8 (by have := HC0.out; omega) (fun x hx => by rw [← hbo] at hx; exact HBB.out x (List.mem_of_mem_take (List.mem_of_mem_drop hx))) (by omega) (by show 0 ≤ 500; omega)
      rw [hres, l8] at h
      exact h)
    have HG1 := Lib.hid (show wgget true b = wgend b m res from by
        rw [HG0.out, wgget1, if_neg HM20.out, if_neg HML.out, if_neg (by decide), hbo, hres])
    have HBD := Lib.hid hbd
    have HR9 := Lib.hid R9; have HL9 := Lib.hid l9; have HMB := Lib.hid hmb
    have hw9 : wrap64 ((b.length : Int) - (m : Int)) = (b.length : Int) - (m : Int) := wg_w64 (by omega) (by omega)
    clear R8 R9 hA8 hA9 hbo hbd l8 l9 hres hm60 HG0
    cases res with
    | none =>
      go_wp2_with (go_at_call 75; refine KR.out.mono ?_; rintro e w6 ⟨hb6, he6, ⟨s6, hs6⟩, pb, rfl, hf6⟩)
      exact wg_leaf w w6 p q pb 2 s6 _ .nilIface hb6 hs6 (he6 q _ HE5.out) HQB.out hf6 _ rfl rfl _ (by rw [HG1.out]; rfl)
    | some sr =>
      by_cases h65 : b.length - m ≤ 65000
      case neg =>
        have g65 : decide ((b.length : Int) - (m : Int) ≤ 65000) = false := decide_eq_false (by omega)
        have H65 := Lib.hid h65; clear h65
        go_wp2_with (first | (go_at_call 72; first | (with_reducible refine (wg_must_true _ _).mono ?_; rintro e w1 ⟨rfl, rfl⟩) | (with_reducible refine (wg_must_false _ _).mono ?_; rintro e w1 ⟨rfl, rfl⟩)) | (go_at_call 75; refine KR.out.mono ?_; rintro e w6 ⟨hb6, he6, rfl, hs6⟩; have HB6 := Lib.hid hb6; have HS6 := Lib.hid hs6; have HE6 := Lib.hid (he6 q _ HE5.out); clear hb6 he6 hs6))
        exact wg_leaf w _ p q _ 2 _ _ _ (HB6.out.alloc (Below.size HB6.out) _) (HS6.out.alloc _) (blk_alloc HE6.out _) HQB.out (blk_new _ _) _ rfl rfl _ (by rw [HG1.out, wgend, if_neg H65.out])
      have g65 : decide ((b.length : Int) - (m : Int) ≤ 65000) = true := decide_eq_true (by omega)
      have H65 := Lib.hid h65; clear h65
      go_wp2_with (first | (go_at_call 72; first | (with_reducible refine (wg_must_true _ _).mono ?_; rintro e w1 ⟨rfl, rfl⟩) | (with_reducible refine (wg_must_false _ _).mono ?_; rintro e w1 ⟨rfl, rfl⟩)) | (go_at_call 75; refine KR.out.mono ?_; rintro e w6 ⟨hb6, he6, rfl, hs6⟩; have HB6 := Lib.hid hb6; have HS6 := Lib.hid hs6; have HE6 := Lib.hid (he6 q _ HE5.out); clear hb6 he6 hs6) | (at_builtin; refine whold_of ?_))
      refine whold_mk ?_
      have hm6 : m ≤ b.length := HMB.out
      have HC9 := Lib.hid (Kd.C_alloc (Kd.C_below HR9.out HB6.out) (.cells #[] 5))
      rw [HL9.out] at HC9
      refine Kd.R_append_rows (Kd.int .u8) (Rr := fun x cs => cs = [.int .u8 x]) (w0 := w) w.heap.size rfl (.tmp 74) (.tmp 77) 34 5 (.int .u8 0) 1 rfl Try.underlying34 info5 rfl (by decide) (by decide) _ [] bd A9 (b.length - m) (c - m) (fun _ => True) (fun _ => False) rfl rfl (wg_own_empty w6 _ (Below.size HB6.out)) HC9.out (fun _ _ e => e) (fun _ e => e.elim) (fun _ _ => trivial) (HB6.out.alloc (Below.size HB6.out) _) (by have h_ := Below.size HB6.out; rw [World.size_alloc]; omega) (by have h_ := H65.out; simp; omega) ?_
      intro v8 w8 hR8 hB8 hg8 hat8
      rw [List.nil_append] at hR8
      obtain ⟨A10, c10, ev8⟩ := Kd.R_slice hR8
      subst ev8
      obtain ⟨hbp6, v6, hh6, hR6⟩ := HS6.out
      obtain ⟨A6, c6, ev6⟩ := Kd.R_slice hR6
      subst ev6
      have hn6 : ∀ g o, w6.heap[g]? = some o → some g ≠ (Value.slice (some ⟨w6.heap.size, 0, none⟩) 0 0).ownBlock := fun g o hg e => by have := (Array.getElem?_eq_some_iff.1 hg).1; simp [Value.ownBlock] at e; omega
      have hh8 := blk_grown (blk_alloc hh6 _) hg8 (hn6 _ _ hh6)
      have he8 := blk_grown (blk_alloc HE6.out _) hg8 (hn6 _ _ HE6.out)
      have hr8 : Kd.R k112 112 w8 w.heap.size (fun _ => True) (.slice A6 sr.f13.length c6) sr.f13 := Kd.R_mono (Kd.R_grown (Kd.R_bound (Kd.R_alloc (Kd.R_mono (ok' := fun k => k < w6.heap.size) (Kd.R_bound hR6) (fun k hk => hk.2.2.1)) _)) hg8 (fun k hk e => by have h1 := hk; have h2 := Option.some.inj (show some k = some w6.heap.size from e); omega)) (fun _ _ => trivial)
      have q14 : w8.cell? ⟨p, 14, none⟩ = some (.slice none 0 0) := (blk_cell hh8 14).trans rfl
      have z14 : w8.frozen? ⟨p, 14, none⟩ = false := blk_frozen hh8 14
      have HHP := Lib.hid hh8; have HHE := Lib.hid he8; have HRV := Lib.hid hr8; have HRD := Lib.hid hR8; have HB8 := Lib.hid hB8
      clear hh8 he8 hr8 hR8 hB8 hg8 hat8 hh6 hR6 hn6 HC9
      have h9 := wgcells_ext (cs' := wgcells { sr with f14 := bd } (.slice A6 sr.f13.length c6) (.slice A10 bd.length c10)) (blk_set HHP.out 14 (.slice A10 bd.length c10)) rfl
      have e9 := blk_far HHE.out (p := ⟨p, 14, none⟩) (fun e => hpq e.symm) (.slice A10 bd.length c10)
      have r9 := Kd.R_set HRV.out HHP.out (by decide) 14 (.slice A10 bd.length c10)
      have d9 := Kd.R_set HRD.out HHP.out (by decide) 14 (.slice A10 bd.length c10)
      have H9 := Lib.hid h9; have E9 := Lib.hid e9; have R9 := Lib.hid r9; have D9 := Lib.hid d9
      have B9 := Lib.hid (HB8.out.setCell (p := ⟨p, 14, none⟩) HBP.out (.slice A10 bd.length c10))
      clear h9 e9 r9 d9 HHP HHE HRV HRD HB8
      go_wp2_with (first
        | (refine gate_ (.load 53 (.tmp 6)) rfl ?_; refine wpList_load_row rfl 53 (.tmp 6) rfl p rfl 53 _ (0, 0) _ H9.out Try.underlying53 rfl (by kernel_rfl) ?_)
        | (refine gate_ (.store 53 (.tmp 6) (.tmp 80)) rfl ?_; refine wg_store_op rfl rfl 53 (.tmp 6) (.tmp 80) rfl _ _ p 53 _ rfl rfl rfl (by kernel_rfl) rfl H9.out rfl ?_; intro w10 h10 hg10)
        | (refine gate_ (.store 100 (.tmp 7) (.const .nilIface)) rfl ?_; refine wg_store_op rfl rfl 100 (.tmp 7) (.const .nilIface) rfl _ _ q 100 _ rfl rfl rfl (by kernel_rfl) rfl (blk_grown E9.out hg10 (fun e => hpq (Option.some.inj e).symm)) rfl ?_; intro w11 h11 hg11))
      have e10 := blk_grown E9.out hg10 (fun e => hpq (Option.some.inj e).symm)
      have b10 : Below w.heap.size w w10 := B9.out.grown hg10 (Below.size B9.out) (fun k hk => by cases hk; exact HBP.out)
      exact wg_leaf_ok w w11 p q { sr with f14 := bd } (.slice A6 sr.f13.length c6) (.slice A10 bd.length c10) (b10.grown hg11 (Below.size b10) (fun k hk => by cases hk; exact HQB.out)) (blk_grown h10 hg11 (fun e => hpq (Option.some.inj e))) (wg_R_store (wg_R_store R9.out H9.out (by decide) hg10) e10 (by decide) hg11) (wg_R_store (wg_R_store D9.out H9.out (by decide) hg10) e10 (by decide) hg11) h11 _ rfl rfl _ (by rw [HG1.out, wgend, if_pos H65.out, HBD.out])
end Go.Proofs.Ytflmfbcapccdeaa.WireG
set_option linter.unusedVariables false
set_option linter.unusedSimpArgs false
namespace Go.Proofs.Ytflmfbcapccdeaa.WireIs
open Go.RowKit Go.Extern.Stop Go.Stop Go.Extern
theorem isTypeOf (v : Value) (w : World) : (Extern.ReflectliteType.typeOf #[.iface 124 v]).run Try.prog w = .ok (.iface 161 (.agg #[.pointer (some ⟨2, 124, none⟩)])) w := by kernel_rfl
theorem isComparable (w : World) : ((Extern.ReflectliteType.method fun t => do Extern.Rtype.noPackHeld "Comparable" t; pure (.bool (← typeInfo t).comparable)) #[.agg #[.pointer (some ⟨2, 124, none⟩)]]).run Try.prog w = .ok (.bool true) w := by kernel_rfl
theorem callComparable (w : World) : (callFunc 125 #[.agg #[.pointer (some ⟨2, 124, none⟩)]]).run Try.prog w = .ok (.value (.bool true)) w := by
  rw [@run_callFunc_extern Try.prog 125 _ (Extern.ReflectliteType.method fun t => do Extern.Rtype.noPackHeld "Comparable" t; pure (.bool (← typeInfo t).comparable)) Try.func125 (by kernel_rfl) (by kernel_rfl) (by kernel_rfl) (by kernel_rfl), isComparable]
  rfl
theorem callTypeOf (v : Value) (w : World) : (callFunc 95 #[.iface 124 v]).run Try.prog w = .ok (.value (.iface 161 (.agg #[.pointer (some ⟨2, 124, none⟩)]))) w := by
  rw [@run_callFunc_extern Try.prog 95 _ Extern.ReflectliteType.typeOf Try.func95 (by kernel_rfl) (by kernel_rfl) (by kernel_rfl) (by kernel_rfl), isTypeOf]
  rfl
theorem mComparable (v : Value) (w : World) : (Go.method 308 161 v "Comparable").run Try.prog w = .ok (125, v) w := by kernel_rfl
theorem mUnwrap (v : Value) (w : World) : (Go.method 308 122 v "Unwrap").run Try.prog w = .ok (120, v) w := by kernel_rfl
theorem isComp : (Try.prog.info? 124).map (·.comparable) = some true := by kernel_rfl
theorem noIsF (v : Value) (xT : TypeId) (w : World) : (Instr.typeAssert (.iface 122 v) xT 163 true).run Try.prog w = .ok (.tuple #[.nilIface, .bool false]) w := run_typeAssert_lacksB Try.underlying163 (by kernel_rfl) (by kernel_rfl) v xT w
theorem hasUnwrapF (v : Value) (xT : TypeId) (w : World) : (Instr.typeAssert (.iface 122 v) xT 166 true).run Try.prog w = .ok (.tuple #[.iface 122 v, .bool true]) w := run_typeAssert_hasB Try.underlying166 (by kernel_rfl) v xT w
theorem noIsR (v : Value) (xT : TypeId) (w : World) : (Instr.typeAssert (.iface 124 v) xT 163 true).run Try.prog w = .ok (.tuple #[.nilIface, .bool false]) w := run_typeAssert_lacksB Try.underlying163 (by kernel_rfl) (by kernel_rfl) v xT w
theorem noUnwrapR (v : Value) (xT : TypeId) (w : World) : (Instr.typeAssert (.iface 124 v) xT 166 true).run Try.prog w = .ok (.tuple #[.nilIface, .bool false]) w := run_typeAssert_lacksB Try.underlying166 (by kernel_rfl) (by kernel_rfl) v xT w
theorem noUnwrapsR (v : Value) (xT : TypeId) (w : World) : (Instr.typeAssert (.iface 124 v) xT 168 true).run Try.prog w = .ok (.tuple #[.nilIface, .bool false]) w := run_typeAssert_lacksB Try.underlying168 (by kernel_rfl) (by kernel_rfl) v xT w
theorem is_nil (k : Int) (w : World) :
    Calls Try.prog 76 #[.nilIface, .iface 124 (.int .i64 k)] w fun e w' => e = .returned (.bool false) ∧ w' = w := by
  have hn := run_eql_iface_nil_left (P := Try.prog) w 124 (.int .i64 k) Try.underlying100
  go_enter Try.func76, Try.ntmps76
  go_wp2
  go_ret
  exact ⟨rfl, rfl⟩
set_option maxRecDepth 100000 in
set_option maxHeartbeats 4000000 in
theorem is_fault (pb : Nat) (why k : Int) (w : World) (h1 : w.cell? ⟨pb, 0, none⟩ = some (.int .i64 why)) :
    Calls Try.prog 76 #[.iface 122 (.pointer (some ⟨pb, 0, none⟩)), .iface 124 (.int .i64 k)] w fun e w' => e = .returned (.bool (why == k)) ∧ w' = w := by
  have h8 := callTypeOf
  have h32 := callComparable
  have m1 := mComparable
  have m2 := mUnwrap
  have nF := noIsF
  have uF := hasUnwrapF
  have nR := noIsR
  have uR := noUnwrapR
  have vR := noUnwrapsR
  have hty := run_eql_iface_types (P := Try.prog) 122 124 (.pointer (some ⟨pb, 0, none⟩)) (.int .i64 k) Try.underlying100 (by decide) w
  have hei := Lib.run_eql_iface_int (P := Try.prog) (k := .i64) w why k Try.underlying100 isComp Try.underlying124
  obtain ⟨bb, hbb⟩ : ∃ bb : Bool, (why == k) = bb := ⟨_, rfl⟩
  rw [hbb] at hei ⊢
  clear hbb
  cases bb with
  | false =>
    go_enter Try.func76, Try.ntmps76
    go_wp2
    refine wp_loop_rounds 2 ?_
    rw [rounds_succ]
    go_wp2
    rw [rounds_succ]
    go_wp2
    go_ret
    exact ⟨rfl, rfl⟩
  | true =>
    go_enter Try.func76, Try.ntmps76
    go_wp2
    refine wp_loop_rounds 2 ?_
    rw [rounds_succ]
    go_wp2
    rw [rounds_succ]
    go_wp2
    go_ret
    exact ⟨rfl, rfl⟩
end Go.Proofs.Ytflmfbcapccdeaa.WireIs
set_option linter.unusedVariables false
set_option linter.unusedSimpArgs false
set_option autoImplicit false
namespace Go.Proofs.Ytflmfbcapccdeaa.WireG
open Go.RowKit Go.Proofs.Ytflmfbcapccdeaa.PA Go.Proofs.YtflmfbcapccdeaaW.PrintWords Go.Proofs.YtflmfbcapccdeaaW.PrintLast Go.Proofs.YtflmfbcapccdeaaW.PrintMore
attribute [local go_sem] max2_int min2_int max_two min_two
/-! ### errno, Get -/
theorem wg_errno_nil (w : World) : Calls Try.prog 56 #[.nilIface] w fun e w' => e = .returned (.int .i64 0) ∧ w = w' := by
  go_enter Try.func56, Try.ntmps56
  go_wp2_with (go_at_call 76; refine (WireIs.is_nil _ _).mono ?_; rintro e w1 ⟨rfl, rfl⟩)
  go_ret
  exact ⟨rfl, rfl⟩
def wgno (why : Int) : Int := if why = 0 then 0 else if why = 1 then 30 else if why = 3 then 32 else 31
theorem wg_errno0 (pb : Nat) (w : World) (h1 : w.cell? ⟨pb, 0, none⟩ = some (.int .i64 0)) :
    Calls Try.prog 56 #[.iface 122 (.pointer (some ⟨pb, 0, none⟩))] w fun e w' => e = .returned (.int .i64 (wgno 0)) ∧ w = w' := by
  go_enter Try.func56, Try.ntmps56
  go_wp2_with (go_at_call 76; refine (WireIs.is_fault pb _ _ _ h1).mono ?_; rintro e w1 ⟨rfl, rfl⟩)
  go_ret
  exact ⟨rfl, rfl⟩
theorem wg_errno (pb : Nat) (why : Int) (w : World) (h1 : w.cell? ⟨pb, 0, none⟩ = some (.int .i64 why)) (hw : why = 1 ∨ why = 2 ∨ why = 3) :
    Calls Try.prog 56 #[.iface 122 (.pointer (some ⟨pb, 0, none⟩))] w fun e w' => e = .returned (.int .i64 (wgno why)) ∧ w = w' := by
  rcases hw with rfl | rfl | rfl
  all_goals
    go_enter Try.func56, Try.ntmps56
    go_wp2_with (go_at_call 76; refine (WireIs.is_fault pb _ _ _ h1).mono ?_; rintro e w1 ⟨rfl, rfl⟩)
    go_ret
    exact ⟨rfl, rfl⟩
theorem wgend_no (b : List Int) (m : Nat) (o : Option S53) : (wgend b m o).2 = 0 ∨ (wgend b m o).2 = 1 ∨ (wgend b m o).2 = 2 ∨ (wgend b m o).2 = 3 := by
  cases o with
  | none => simp [wgend]
  | some s => simp only [wgend]; split <;> simp
theorem wgget_no (v : Bool) (b : List Int) : (wgget v b).2 = 0 ∨ (wgget v b).2 = 1 ∨ (wgget v b).2 = 2 ∨ (wgget v b).2 = 3 := by
  unfold wgget
  split
  · simp
  · unfold wgget1
    split
    · simp
    split
    · simp
    split
    · simp
    exact wgend_no _ _ _
theorem wg_drew_heap (W : World) : W.drew.heap = W.heap := rfl
theorem wg_get_results (tmps : Array Value) (p : Nat) (s : S53) (v d n : Value) (W : World) (e6 : tmps[6]?.getD undef = .pointer (some ⟨p, 0, none⟩)) (e7 : tmps[7]?.getD undef = n) (hh : W.heap[p]? = some (.cells (wgcells s v d) 53 (0, 0))) :
    (results Try.f35 tmps).run Try.prog W = .ok (.tuple #[.agg (wgcells s v d), n]) W := by
  have h1 := run_loadVar_row (P := Try.prog) W p 53 53 _ (0, 0) _ hh Try.underlying53 rfl (by kernel_rfl)
  simp [results, Try.results35, e6, e7, asAddr, h1]
/-- What Get hands back. -/
def WGot (w : World) (r : S53 × Int) (e : Ending) (w' : World) : Prop :=
  Below w.heap.size w w' ∧ ∃ v13 v14, e = .returned (.tuple #[.agg (wgcells r.1 v13 v14), .int .i64 (wgno r.2)]) ∧ Kd.R k112 112 w' w.heap.size (fun _ => True) v13 r.1.f13 ∧ Kd.R (Kd.int .u8) 5 w' w.heap.size (fun _ => True) v14 r.1.f14
set_option maxRecDepth 100000 in
set_option maxHeartbeats 16000000 in
theorem wg_Get (A : Option Addr) (c : Nat) (b : List Int) (src dst : Int) (vd : Bool) (w : World) (hC : Kd.C (Kd.int .u8) w A b.length b) (hc : b.length ≤ c) (hb : wgb b) (hv : sum_Valid.f [four8 src ++ four8 dst ++ [0, 6, ((b.length : Int) / 256) % 256, (b.length : Int) % 256], b] = some vd) :
    Calls Try.prog 35 #[.slice A b.length c, .int .u32 src, .int .u32 dst] w fun e w' => WGot w (wgget vd b) e w' := by
  have hno := wgget_no vd b
  obtain ⟨r, hr⟩ : ∃ r, wgget vd b = r := ⟨_, rfl⟩
  have HR := Lib.hid hr
  have HC := Lib.hid hC; have HC0 := Lib.hid hc; have HBB := Lib.hid hb; have HV := Lib.hid hv
  rw [hr] at hno ⊢
  have HNO := Lib.hid hno
  clear hC hc hb hv hr hno
  go_enter Try.func35, Try.ntmps35
  go_upto_region 1 with (fail)
  obtain ⟨p, hp⟩ : ∃ p, w.heap.size = p := ⟨_, rfl⟩
  have HB1 := Lib.hid (show Below w.heap.size w (w.alloc (.cells #[.int .i64 0, .int .i64 0, .int .u32 0, .int .u32 0, .int .i64 0, .int .i64 0, .int .i64 0, .int .i64 0, .int .i64 0, .bool false, .bool false, .int .u32 0, .int .u32 0, .slice none 0 0, .slice none 0 0] 53)) from (Below.refl _ w).alloc (Nat.le_refl _) _)
  have HP1 := Lib.hid (show (w.alloc (.cells #[.int .i64 0, .int .i64 0, .int .u32 0, .int .u32 0, .int .i64 0, .int .i64 0, .int .i64 0, .int .i64 0, .int .i64 0, .bool false, .bool false, .int .u32 0, .int .u32 0, .slice none 0 0, .slice none 0 0] 53)).heap[p]? = some (.cells (wgcells z53 (.slice none 0 0) (.slice none 0 0)) 53 (0, 0)) from by rw [← hp]; exact blk_new w _)
  rw [hp]
  have HPB := Lib.hid (show w.heap.size ≤ p by omega)
  clear hp
  generalize (w.alloc (.cells #[.int .i64 0, .int .i64 0, .int .u32 0, .int .u32 0, .int .i64 0, .int .i64 0, .int .i64 0, .int .i64 0, .int .i64 0, .bool false, .bool false, .int .u32 0, .int .u32 0, .slice none 0 0, .slice none 0 0] 53)) = W1 at HB1 HP1 ⊢
  go_upto_region 2 with (first
    | (go_at_call 55; refine (wg_parsed A c b src dst vd W1 (Kd.C_below HC.out HB1.out) HC0.out HBB.out HV.out).mono ?_; rintro e w2 ⟨hb2, v13, v14, er, rfl, hR13, hR14, hE⟩; rw [HR.out] at hR13 hR14 hE; rw [HR.out]; obtain ⟨A13, c13, e13⟩ := Kd.R_slice hR13; obtain ⟨A14, c14, e14⟩ := Kd.R_slice hR14; subst e13; subst e14; have HR13 := Lib.hid hR13; have HR14 := Lib.hid hR14; have HEE := Lib.hid hE; have HB2 := Lib.hid hb2; clear hR13 hR14 hE hb2)
    | (refine gate_ (.store 53 (.tmp 8) (.tmp 15)) rfl ?_; refine wg_store_op rfl rfl 53 (.tmp 8) (.tmp 15) rfl _ _ _ 53 _ rfl rfl rfl (by kernel_rfl) rfl (blk_new w2 _) rfl ?_; intro w3 h3 hg3))
  have hlt2 : p < w2.heap.size := Nat.lt_of_lt_of_le (Array.getElem?_eq_some_iff.1 HP1.out).1 HB2.out.size
  obtain ⟨g, hgg⟩ : ∃ g, w2.heap.size = g := ⟨_, rfl⟩
  have HP3 := Lib.hid (blk_grown (blk_alloc (blk_below HP1.out HB2.out) _) hg3 (fun e => by have := Option.some.inj e; omega))
  have HB3 := Lib.hid (show Below w.heap.size w w3 from ((below_step HB1.out HB2.out).alloc (Below.size (below_step HB1.out HB2.out)) _).grown hg3 (by have h_ := Below.size (below_step HB1.out HB2.out); rw [World.size_alloc]; omega) (fun k hk => by have h_ := Below.size (below_step HB1.out HB2.out); cases hk; exact h_))
  have HBB3 := Lib.hid (show Below w2.heap.size w2 w3 from ((Below.refl _ w2).alloc (Nat.le_refl _) _).grown hg3 (by simp) (fun k hk => by cases hk; exact Nat.le_refl _))
  have r13 := Kd.R_below HR13.out HBB3.out
  have r14 := Kd.R_below HR14.out HBB3.out
  have he3 : r.2 = 0 ∧ er = .nilIface ∨ ∃ pb, er = .iface 122 (.pointer (some ⟨pb, 0, none⟩)) ∧ w3.cell? ⟨pb, 0, none⟩ = some (.int .i64 r.2) := by
    rcases HEE.out with h | ⟨pb, h1, h2⟩
    · exact .inl h
    · exact .inr ⟨pb, h1, (HBB3.out.cell (World.block_lt_of_cell? w2 _ h2)).trans h2⟩
  have KE := Lib.hid (fun (W : World) (hW : W.heap = w3.heap) => show Calls Try.prog 56 #[er] W (fun e w' => e = .returned (.int .i64 (wgno r.2)) ∧ W = w') from by
    rcases he3 with ⟨h0, rfl⟩ | ⟨pb, rfl, h2⟩
    · rw [h0]; exact wg_errno_nil W
    · have h3 : W.cell? ⟨pb, 0, none⟩ = some (.int .i64 r.2) := by unfold World.cell? at h2 ⊢; rw [hW]; exact h2
      rcases HNO.out with h0 | h0
      · rw [h0] at h3 ⊢; exact wg_errno0 pb W h3
      · exact wg_errno pb _ W h3 h0)
  rw [hgg] at h3 ⊢
  have H3 := Lib.hid h3; have HG3 := Lib.hid (show p ≠ g from by omega)
  have HR13' := Lib.hid (Kd.R_lower r13 HB1.out.size); have HR14' := Lib.hid (Kd.R_lower r14 HB1.out.size)
  clear h3 hg3 hgg hlt2 r13 r14 he3 HR13 HR14 HEE HNO
  refine start_ (n := 5) (S := fun w' => w'.cell? ⟨g, 0, none⟩ = some (.int .i64 r.1.f0) ∧ w'.cell? ⟨g, 1, none⟩ = some (.int .i64 r.1.f1) ∧ w'.cell? ⟨g, 2, none⟩ = some (.int .u32 r.1.f2) ∧ w'.cell? ⟨g, 3, none⟩ = some (.int .u32 r.1.f3) ∧ w'.cell? ⟨g, 4, none⟩ = some (.int .i64 r.1.f4) ∧ w'.cell? ⟨g, 5, none⟩ = some (.int .i64 r.1.f5) ∧ w'.cell? ⟨g, 6, none⟩ = some (.int .i64 r.1.f6) ∧ w'.cell? ⟨g, 7, none⟩ = some (.int .i64 r.1.f7) ∧ w'.cell? ⟨g, 8, none⟩ = some (.int .i64 r.1.f8) ∧ w'.cell? ⟨g, 9, none⟩ = some (.bool r.1.f9) ∧ w'.cell? ⟨g, 10, none⟩ = some (.bool r.1.f10) ∧ w'.cell? ⟨g, 11, none⟩ = some (.int .u32 r.1.f11) ∧ w'.cell? ⟨g, 12, none⟩ = some (.int .u32 r.1.f12) ∧ w'.cell? ⟨g, 13, none⟩ = some (.slice A13 r.1.f13.length c13) ∧ w'.cell? ⟨g, 14, none⟩ = some (.slice A14 r.1.f14.length c14)) (ds := [3]) #[O,O,O,O,O] (by kernel_rfl) rfl rfl ⟨((blk_cell H3.out 0).trans rfl), ((blk_cell H3.out 1).trans rfl), ((blk_cell H3.out 2).trans rfl), ((blk_cell H3.out 3).trans rfl), ((blk_cell H3.out 4).trans rfl), ((blk_cell H3.out 5).trans rfl), ((blk_cell H3.out 6).trans rfl), ((blk_cell H3.out 7).trans rfl), ((blk_cell H3.out 8).trans rfl), ((blk_cell H3.out 9).trans rfl), ((blk_cell H3.out 10).trans rfl), ((blk_cell H3.out 11).trans rfl), ((blk_cell H3.out 12).trans rfl), ((blk_cell H3.out 13).trans rfl), ((blk_cell H3.out 14).trans rfl)⟩ (fun hHeld => ?_)
  refine pure_ (i := 1) (N := some 18) (v := ?_) (a' := ?_) #[O,I,O,O,O] rfl rfl (by kernel_rfl) (fun _ _ _ h => h) (Or.inl ⟨by rfl, ?_⟩) ?_ ?_
  rotate_left
  · intro w'
    go_simp
    with_reducible rfl
  rotate_left
  · simp only [Act.put, sA_, sZ_, sS_, i64_w, i32_w]
    rfl
  refine take_ (i := 0) (N := some 17) (v := ?_) (a' := ?_) #[I,I,O,O,O] rfl rfl (by kernel_rfl) (fun _ _ _ h => h) (Or.inl ⟨by rfl, ?_⟩) hHeld ?_ ?_
  rotate_left
  · rintro w' ⟨s0, s1, s2, s3, s4, s5, s6, s7, s8, s9, s10, s11, s12, s13, s14⟩
    go_simp
    with_reducible rfl
  rotate_left
  · simp only [Act.put, sA_, sZ_, sS_, i64_w, i32_w]
    rfl
  refine one_ (i := 2) (N := some 19) #[I,I,I,O,O] rfl rfl (by kernel_rfl) (by decide) (fun K hK => ?_)
  refine goes_ Try.func56 (by kernel_rfl) rfl #[er] (by rfl) rfl rfl (by simp only [List.map_toArray, List.map_cons, List.map_nil]; rfl) ?_
  with_reducible refine (KE.out _ (wg_drew_heap _)).mono ?_
  rintro e w7 ⟨rfl, rfl⟩
  refine ⟨_, rfl, ?_⟩
  refine hK.out _ _ ⟨hHeld.1, hHeld.2.1, hHeld.2.2.1, hHeld.2.2.2.1, hHeld.2.2.2.2.1, hHeld.2.2.2.2.2.1, hHeld.2.2.2.2.2.2.1, hHeld.2.2.2.2.2.2.2.1, hHeld.2.2.2.2.2.2.2.2.1, hHeld.2.2.2.2.2.2.2.2.2.1, hHeld.2.2.2.2.2.2.2.2.2.2.1, hHeld.2.2.2.2.2.2.2.2.2.2.2.1, hHeld.2.2.2.2.2.2.2.2.2.2.2.2.1, hHeld.2.2.2.2.2.2.2.2.2.2.2.2.2.1, hHeld.2.2.2.2.2.2.2.2.2.2.2.2.2.2⟩ (fun hHeld => ?_)
  clear hK K
  refine norm_ (a' := ?_) ?_ ?_
  rotate_left
  · show Act.put _ (some 19) _ = _
    simp only [Act.put, sA_, sZ_, sS_, i64_w, i32_w]
    rfl
  refine last_ (i := 3) (N := none) #[I,I,I,I,O] rfl rfl (by kernel_rfl) (by decide) (fun K hK => ?_)
  refine wg_store_step (by rfl) (by rfl) 53 (.tmp 6) (.tmp 17) rfl (.agg #[.int .i64 r.1.f0, .int .i64 r.1.f1, .int .u32 r.1.f2, .int .u32 r.1.f3, .int .i64 r.1.f4, .int .i64 r.1.f5, .int .i64 r.1.f6, .int .i64 r.1.f7, .int .i64 r.1.f8, .bool r.1.f9, .bool r.1.f10, .int .u32 r.1.f11, .int .u32 r.1.f12, .slice A13 r.1.f13.length c13, .slice A14 r.1.f14.length c14]) _ p 53 _ (by rfl) (by rfl) (by rfl) (by kernel_rfl) (by rfl) (by repeat (first | exact HP3.out | with_reducible refine blk_drew ?_ | with_reducible refine blk_drewN ?_ _)) (by rfl) ?_
  intro w5 h5 hg5
  refine hK.out _ _ ?_
  clear hK K
  refine pure_ (i := 4) (N := some 7) (v := ?_) (a' := ?_) #[I,I,I,I,I] rfl rfl (by kernel_rfl) (fun _ _ _ h => h) (Or.inl ⟨by rfl, ?_⟩) ?_ ?_
  rotate_left
  · intro w'
    go_simp
    with_reducible rfl
  rotate_left
  · simp only [Act.put, sA_, sZ_, sS_, i64_w, i32_w]
    rfl
  refine done_ (by kernel_rfl) ?_
  have b5 : Below w.heap.size w w5 := Below.grown (w := _) (by repeat (first | exact HB3.out | with_reducible apply below_drew1 | with_reducible refine pw_below_drewN ?_ _)) hg5 (by have h_ := Below.size HB3.out; exact h_) (fun k hk => by cases hk; exact HPB.out)
  have s13 := wg_R_store (W := w3.drew) (Kd.R_drew HR13'.out) HP3.out (by decide) hg5
  have s14 := wg_R_store (W := w3.drew) (Kd.R_drew HR14'.out) HP3.out (by decide) hg5
  have H5 := Lib.hid (show w5.heap[p]? = some (.cells (wgcells r.1 (.slice A13 r.1.f13.length c13) (.slice A14 r.1.f14.length c14)) 53 (0, 0)) from h5)
  have B5 := Lib.hid b5; have S13 := Lib.hid s13; have S14 := Lib.hid s14
  clear h5 b5 s13 s14 hg5 hHeld
  go_wp2
  refine bodyPost_ret (wg_get_results _ p r.1 _ _ _ w5 rfl rfl H5.out) rfl ?_
  exact ⟨B5.out, _, _, rfl, S13.out, S14.out⟩
end Go.Proofs.Ytflmfbcapccdeaa.WireG

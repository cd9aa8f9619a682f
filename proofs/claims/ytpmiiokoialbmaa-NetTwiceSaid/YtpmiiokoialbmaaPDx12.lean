-- Written for the seat Ytpmiiokoialbmaa by this session's program hyb.py (the print's functions, with externals typed by hand).
import Derived.Laws.BitsLemmas
import Derived.Lib.Hide
import Derived.StillTailTactics
import Derived.Test.YtpmiiokoialbmaaPDx0
import Derived.Test.YtpmiiokoialbmaaPDx3
import Derived.Test.YtpmiiokoialbmaaPDx5
namespace Go.Proofs.Ytpmiiokoialbmaa.PD
open Go.RowKit Go.Proofs.YtpmiiokoialbmaaW.PrintWords Go.Proofs.YtpmiiokoialbmaaW.PrintLast Go.Proofs.YtpmiiokoialbmaaW.PrintMore
attribute [local go_sem] max2_int min2_int max_two min_two max_three min_three max_four min_four   -- for this text's walks alone
set_option linter.unusedVariables false
set_option linter.unusedSimpArgs false

/-! ### net_Spoil: function 20 (typed by hand) -/
def net_Spoil.f (l0 : List S26) (a1 : Int) (a2 : Int) : Option (List S26 × Int) :=
  if net_lim l0 = true then (if 0 ≤ a1 ∧ a1 < (l0.length : Int) then (if 0 ≤ a2 ∧ a2 < 8 * ((rd_T26 l0 a1).f0.length : Int) then
    some (l0.set a1.toNat ⟨(rd_T26 l0 a1).f0.set (a2 / 8).toNat (Go.bits .xor .u8 (rd (rd_T26 l0 a1).f0 (a2 / 8)) (shl .u8 1 (a2 % 8))), (rd_T26 l0 a1).f1⟩, 0) else some ([], 2)) else some ([], 50)) else none
def net_Hold3 (p : Prop) : Prop := p
theorem net_hold3_of {p : Prop} (h : net_Hold3 p) : p := h
theorem net_hold3_mk {p : Prop} (h : p) : net_Hold3 p := h
theorem net_there.is3 (l0 : List S26) (a1 : Int) : net_there.f l0 a1 = some (decide (0 ≤ a1 ∧ a1 < (l0.length : Int))) := by
  unfold net_there.f
  by_cases h0 : 0 ≤ a1 <;> by_cases h1 : a1 < (l0.length : Int) <;> simp [h0, h1]
theorem net_and7 (x : Int) (h0 : 0 ≤ x) (h1 : x < 9223372036854775808) : Go.bits .and .i64 x 7 = x % 8 := by
  have h := bits_mask .i64 63 (by decide) (fun n a b => by rw [i64_w]; unfold wrap64; omega) 3 (by decide) x h0 (by omega)
  have e1 : ((2 : Int) ^ 3 - 1) = 7 := by decide
  have e2 : ((2 : Int) ^ 3) = 8 := by decide
  rw [e1, e2] at h
  exact h
set_option maxRecDepth 100000 in
set_option maxHeartbeats 2000000 in
theorem net_Spoil.calls (A0 : Option Addr) (c0 : Nat) (l0 : List (S26)) (a1 : Int) (a2 : Int) (r1 : List (S26)) (r2 : Int) (w : World) (hr0 : Kd.C k26 w A0 l0.length l0) (hc0 : l0.length ≤ c0) (h : net_Spoil.f l0 a1 a2 = some (r1, r2)) :
    Calls Try.prog 20 #[.slice A0 l0.length c0, .int .i64 a1, .int .i64 a2] w fun e w' => ∃ v0_ : Value, e = .returned (.tuple #[v0_, .int .i64 r2]) ∧ Kd.V k26 26 w' w.heap.size (fun k_ => (w.heap.size ≤ k_)) v0_ r1 ∧ Below w.heap.size w w' := by
  unfold net_Spoil.f at h
  have hl : net_lim l0 = true := by
    by_cases hl : net_lim l0 = true
    · exact hl
    · rw [if_neg hl] at h; cases h
  rw [if_pos hl] at h
  have hth := net_there.is3 l0 a1
  have HC0 := Lib.hid hr0
  by_cases hin : 0 ≤ a1 ∧ a1 < (l0.length : Int)
  · rw [if_pos hin] at h
    rw [decide_eq_true hin] at hth
    have HTH := Lib.hid hth; clear hth
    obtain ⟨i, rfl⟩ : ∃ i : Nat, a1 = i := ⟨a1.toNat, by omega⟩
    have hi : i < l0.length := by omega
    have hrd : rd_T26 l0 (i : Int) = l0[i] := by simp [rd_T26, List.getD_eq_getElem?_getD, List.getElem?_eq_getElem hi]
    have hmx : (rd_T26 l0 (i : Int)).f0.length < 140737488355328 := by
      simp only [net_lim, Bool.and_eq_true, decide_eq_true_eq, List.all_eq_true] at hl
      rw [hrd]
      exact hl.2 _ (List.getElem_mem _)
    have HL := Lib.hid hl; clear hl
    obtain ⟨ad0, B0, d0, ead, hx0, hx1, hl0, hi0⟩ := at_T26 hr0 (i : Int) hin.1 hin.2
    subst ead
    obtain ⟨F, hF⟩ : ∃ F, rd_T26 l0 (i : Int) = F := ⟨_, rfl⟩
    rw [hF] at h hmx hx0 hx1 hl0 hi0
    simp only [Int.toNat_natCast] at hx0 hx1
    have HI := Lib.hid hi0
    have HF := Lib.hid hF
    clear hr0 hi0 hF hrd
    obtain ⟨m, hm⟩ : ∃ m, m = F.f0.length := ⟨_, rfl⟩
    rw [← hm] at h hmx hx0 hl0
    have HM := Lib.hid hm
    clear hm
    have hlt : (i : Int) < l0.length := hin.2
    have hge : (0 : Int) ≤ i := hin.1
    have hw8 : wrap64 (8 * (m : Int)) = 8 * m := by unfold wrap64; omega
    by_cases hb : 0 ≤ a2 ∧ a2 < 8 * (m : Int)
    · rw [if_pos hb] at h
      have HR := Lib.hid (Option.some.inj h); clear h
      have hb0 : decide (a2 < 0) = false := decide_eq_false (by omega)
      have hb1 : decide (8 * (m : Int) ≤ a2) = false := decide_eq_false (by omega)
      go_enter Try.func20, Try.ntmps20
      go_wp2_with (first | (go_at_call 27; refine (net_there.calls _ c0 l0 i true _ HC0 hc0 HTH).mono ?_; rintro e w1 ⟨rfl, nd, rfl⟩) | (go_at_call 25; refine net_hold3_of ?_))
      refine net_hold3_mk ?_
      refine (net_copied.any (some ad0) c0 l0 _ (Kd.C_drewN HC0 _) hc0 HL).mono ?_
      rintro e w2 ⟨A, c, rfl, hle, hS, hb1⟩
      have hS' : Kd.S k26 26 w2 w.heap.size (fun _ => True) (.slice A l0.length c) l0 := hS
      have hB : Below w.heap.size w w2 := (pw_below_drewN (Below.refl w.heap.size w) nd).trans hb1
      clear hS hb1
      obtain ⟨g, cap, hv, hbg, hgl, cells, hcells⟩ := Kd.S_form hS' (by omega)
      injection hv with hA _ hcc
      subst hA hcc
      obtain ⟨oki, cs, hcl, hM, hcc, hoki, hback⟩ := Kd.S_borrow (Kd.S_drew hS') z26 (i : Int) hge hlt
      have hM' : k26.M w2.drew w.heap.size oki F cs := by have := hM; rw [show l0.getD (i : Int).toNat z26 = F from HF] at this; exact this
      clear hM
      obtain ⟨v0, rfl, hR0⟩ := k26_openM hM'
      have hmF : m = F.f0.length := HM
      obtain ⟨gd, cv, hv0, hbgd, hgdl, cells2, hcells2⟩ := Kd.R_form hR0 (by omega)
      rw [← hmF] at hv0
      subst hv0
      obtain ⟨b, hb⟩ : ∃ b : Nat, a2 / 8 = (b : Int) := ⟨(a2 / 8).toNat, by omega⟩
      have hbm : b < m := by omega
      obtain ⟨ce, hcel, hcM, hcell, hfr⟩ := Kd.R_elem hR0 (0 : Int) (b : Int) (by omega) (by omega)
      obtain ⟨x, hx⟩ : ∃ x, F.f0.getD b 0 = x := ⟨_, rfl⟩
      obtain rfl : ce = [.int .u8 x] := by have h1 := hcM; rw [Int.toNat_natCast, hx] at h1; exact h1
      have hq0 : w2.cell? ⟨g, i * 2, none⟩ = some (.slice (some ⟨gd, 0, none⟩) m cv) := by
        have h1 := hcc 0 _ rfl
        have e : (⟨g, 0, none⟩ : Addr).add ((i : Int).toNat * k26.sz + 0) = ⟨g, i * 2, none⟩ := by
          rw [Addr.add_lit, Int.toNat_natCast]; show (⟨g, 0 + (i * 2 + 0), none⟩ : Addr) = _; congr 1; omega
        rwa [e] at h1
      have e1 : (⟨gd, (b : Int).toNat * (Kd.int .u8).sz + 0, none⟩ : Addr) = ⟨gd, b, none⟩ := by
        rw [Int.toNat_natCast]; show (⟨gd, b * 1 + 0, none⟩ : Addr) = _; congr 1; omega
      have hq1 : w2.cell? ⟨gd, b, none⟩ = some (.int .u8 x) := by have h1 := hcell 0 _ rfl; rwa [e1] at h1
      have hfz : w2.frozen? ⟨gd, b, none⟩ = false := by have h1 := hfr 0; rwa [e1] at h1
      have hokg : oki gd := hR0.1 gd rfl
      have HBK : ∀ (w1 : World) (x' : S26), w2.drew.grownBy w1 (some gd) → k26.M w1 w.heap.size oki x' [.slice (some ⟨gd, 0, none⟩) m cv, .int .i64 F.f1] → Kd.S k26 26 w1 w.heap.size (fun _ => True) (.slice (some ⟨g, 0, none⟩) l0.length c) (l0.set i x') := fun w1 x' hg hM => hback hg (fun k hk => by injection hk with hk; rw [← hk]; exact hokg) hM
      have HR0 := Lib.hid hR0
      have HX := Lib.hid hx
      have hbg0 : (0 : Int) ≤ b := by omega
      have HBB := Lib.hid hB
      have HOK := Lib.hid hokg
      have hr7 : Go.bits .and .i64 a2 7 = a2 % 8 := net_and7 a2 (by omega) (by omega)
      obtain ⟨r, hr⟩ : ∃ r, a2 % 8 = r := ⟨_, rfl⟩
      have hr0' : 0 ≤ r := by omega
      have hr1' : r < 8 := by omega
      rw [hr] at hr7
      have hA2 := Lib.hid hr
      have hbm' : (b : Int) < m := by omega
      clear hmF hback hR0 hx hB hokg hS' hcc hcell hfr hcM hcel hcells hcells2 hr hM' e1 hcl hoki
      have HBK2 := Lib.hid HBK
      clear HBK
      go_wp2_with fail
      go_still_tail 14, (by kernel_rfl)
      change wpList _ _ _ _ _ w2.drew
      have hq1' : w2.drew.cell? ⟨gd, b, none⟩ = some (.int .u8 x) := hq1
      have hfz' : w2.drew.frozen? ⟨gd, b, none⟩ = false := hfz
      generalize hw3 : w2.drew = w3 at hq1' hfz' ⊢
      go_wp2
      go_ret2
      have hmF : m = F.f0.length := HM
      have hR0' : (Kd.int .u8).R 5 w2.drew w.heap.size oki (.slice (some ⟨gd, 0, none⟩) F.f0.length cv) F.f0 := by rw [← hmF]; exact HR0
      have hput := Kd.R_put hR0' (b : Int) (Go.bits .xor .u8 x (2 ^ r.toNat % 256))
      rw [Int.toNat_natCast, hw3] at hput
      have hy : Go.bits .xor .u8 (rd F.f0 (a2 / 8)) (shl .u8 1 (a2 % 8)) = Go.bits .xor .u8 x (2 ^ r.toNat % 256) := by
        have h1 : rd F.f0 (a2 / 8) = x := by rw [hb]; show F.f0.getD (b : Int).toNat 0 = x; rw [Int.toNat_natCast]; exact HX
        have h2 : shl .u8 1 (a2 % 8) = 2 ^ r.toNat % 256 := by
          rw [show a2 % 8 = r from hA2]
          show IntKind.u8.wrap (1 * 2 ^ min r.toNat 8) = _
          rw [Int.one_mul, show min r.toNat 8 = r.toNat by omega]
          simp [IntKind.wrap, IntKind.bits, IntKind.signed]
        rw [h1, h2]
      have hM2 := k26_mkM (w3.setCell ⟨gd, b, none⟩ (.int .u8 (Go.bits .xor .u8 x (2 ^ r.toNat % 256)))) w.heap.size oki ⟨F.f0.set b (Go.bits .xor .u8 x (2 ^ r.toNat % 256)), F.f1⟩ hput.1
      have hS2 := HBK2 (w3.setCell ⟨gd, b, none⟩ (.int .u8 (Go.bits .xor .u8 x (2 ^ r.toNat % 256)))) ⟨F.f0.set b (Go.bits .xor .u8 x (2 ^ r.toNat % 256)), F.f1⟩ (by rw [hw3]; exact hput.2) (by rw [hmF]; exact hM2)
      obtain ⟨e1, e2⟩ : l0.set i ⟨F.f0.set b (Go.bits .xor .u8 x (2 ^ r.toNat % 256)), F.f1⟩ = r1 ∧ (0 : Int) = r2 := by
        have hE : (l0.set (i : Int).toNat ⟨F.f0.set (a2 / 8).toNat (Go.bits .xor .u8 (rd F.f0 (a2 / 8)) (shl .u8 1 (a2 % 8))), F.f1⟩, (0 : Int)) = (r1, r2) := by
          have h0 := HR
          rw [show m = F.f0.length from HM] at *
          exact h0
        rw [hy, hb, Int.toNat_natCast, Int.toNat_natCast] at hE
        exact Prod.mk.inj hE
      subst e1 e2
      have hBf : Below w.heap.size w (w3.setCell ⟨gd, b, none⟩ (.int .u8 (Go.bits .xor .u8 x (2 ^ r.toNat % 256)))) := by
        rw [← hw3]
        exact (below_drew1 HBB).setCell (p := ⟨gd, b, none⟩) hbgd _
      refine ⟨.slice (some ⟨g, 0, none⟩) l0.length l0.length, rfl, ?_, hBf⟩
      have hF := Kd.S_F (Kd.S_mono (Kd.S_bound hS2) (fun k hk => hk.2.1))
      have hV := Kd.V_mk (e := 26) (base := w.heap.size) (c := l0.length) (xs := l0.set i ⟨F.f0.set b (Go.bits .xor .u8 x (2 ^ r.toNat % 256)), F.f1⟩) (by rw [List.length_set]; omega) (by rw [List.length_set]; exact hF)
      rw [List.length_set] at hV
      exact hV
    · rw [if_neg hb] at h
      have HR := Lib.hid (Option.some.inj h); clear h
      by_cases hneg : a2 < 0
      · have hb0 : decide (a2 < 0) = true := decide_eq_true hneg
        go_enter Try.func20, Try.ntmps20
        go_wp2_with (first | (go_at_call 27; refine (net_there.calls _ c0 l0 i true _ HC0 hc0 HTH).mono ?_; rintro e w1 ⟨rfl, nd, rfl⟩))
        go_ret2
        obtain ⟨e1, e2⟩ : ([] : List S26) = r1 ∧ (2 : Int) = r2 := Prod.mk.inj HR
        subst e1 e2
        exact ⟨_, rfl, Kd.V_nil _ _ _ _ _, pw_below_drewN (Below.refl _ _) _⟩
      · have hb0 : decide (a2 < 0) = false := decide_eq_false hneg
        have hb1 : decide (8 * (m : Int) ≤ a2) = true := decide_eq_true (by omega)
        go_enter Try.func20, Try.ntmps20
        go_wp2_with (first | (go_at_call 27; refine (net_there.calls _ c0 l0 i true _ HC0 hc0 HTH).mono ?_; rintro e w1 ⟨rfl, nd, rfl⟩))
        go_ret2
        obtain ⟨e1, e2⟩ : ([] : List S26) = r1 ∧ (2 : Int) = r2 := Prod.mk.inj HR
        subst e1 e2
        exact ⟨_, rfl, Kd.V_nil _ _ _ _ _, pw_below_drewN (Below.refl _ _) _⟩
  · rw [if_neg hin] at h
    rw [decide_eq_false hin] at hth
    have HR := Lib.hid (Option.some.inj h); clear h
    have HTH := Lib.hid hth; clear hth
    clear hr0 hl
    go_enter Try.func20, Try.ntmps20
    go_wp2_with (first | (go_at_call 27; refine (net_there.calls A0 c0 l0 a1 false _ HC0 hc0 HTH).mono ?_; rintro e w1 ⟨rfl, nd, rfl⟩))
    go_ret2
    obtain ⟨e1, e2⟩ : ([] : List S26) = r1 ∧ (50 : Int) = r2 := Prod.mk.inj HR
    subst e1 e2
    exact ⟨_, rfl, Kd.V_nil _ _ _ _ _, pw_below_drewN (Below.refl _ _) _⟩


end Go.Proofs.Ytpmiiokoialbmaa.PD

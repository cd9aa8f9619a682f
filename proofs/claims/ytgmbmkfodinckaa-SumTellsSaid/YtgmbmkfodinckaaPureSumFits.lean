/- A text with its sum in it, at whatever even place, is valid: of all bytes. -/
import Derived.Test.YtgmbmkfodinckaaSumFacts
import Derived.Test.YtgmbmkfodinckaaRow8
set_option linter.unusedVariables false
set_option linter.unusedSimpArgs false
namespace Go.Proofs.Ytgmbmkfodinckaa.Pure
open Go.RowKit Go.Proofs.Ytgmbmkfodinckaa.PA Go.Proofs.YtgmbmkfodinckaaW.PrintWords Go.Proofs.Ytgmbmkfodinckaa.SumPlain Go.Proofs.Ytgmbmkfodinckaa.SumFacts Go.Proofs.Ytgmbmkfodinckaa.Row8
theorem place (n : Nat) (a : Int) (h : 2 ≤ n) (hm : n ≤ 140737488351232) : ∃ k : Nat, wrap64 (wrap64 ((IntKind.u64.wrap a).tmod ((n : Int) / 2)) * 2) = (k : Int) ∧ k + 1 < n ∧ k % 2 = 0 := by
  have e : IntKind.u64.wrap a = a % 18446744073709551616 := by simp [IntKind.wrap, IntKind.bits, IntKind.signed]
  rw [e, Int.tmod_eq_emod_of_nonneg (by omega)]
  have h1 : 0 ≤ a % 18446744073709551616 % ((n : Int) / 2) := Int.emod_nonneg _ (by omega)
  have h2 : a % 18446744073709551616 % ((n : Int) / 2) < (n : Int) / 2 := Int.emod_lt_of_pos _ (by omega)
  generalize a % 18446744073709551616 % ((n : Int) / 2) = x at *
  refine ⟨(x * 2).toNat, ?_, by omega, by omega⟩
  unfold wrap64; omega
theorem byts_set {l : List Int} {k : Nat} {x : Int} (h : byts l) (h0 : 0 ≤ x) (h1 : x ≤ 255) : byts (l.set k x) := fun c hc => by
  rcases List.mem_or_eq_of_mem_set hc with hc | rfl
  · exact h c hc
  · exact ⟨h0, h1⟩
theorem fits_plain (l : List Int) (k : Nat) (h2 : k % 2 = 0) (hk : k + 1 < l.length) (hb : byts l) (g0 : l.getD k 0 = 0) (g1 : l.getD (k + 1) 0 = 0) :
    sum_Valid.f [(l.set k (((65535 - norm (wsum true l)) / 256) % 256)).set (k + 1) ((65535 - norm (wsum true l)) % 256)] = some true := by
  have hn := norm_bd (wsum_nonneg true _ hb)
  have h0 := wsum_nonneg true _ hb
  have hb2 : byts ((l.set k (((65535 - norm (wsum true l)) / 256) % 256)).set (k + 1) ((65535 - norm (wsum true l)) % 256)) := byts_set (byts_set hb (by omega) (by omega)) (by omega) (by omega)
  rw [validF _ (by simpa using hb2)]
  have p0 : par true k = true := by simp [par, h2]
  have p1 : par true (k + 1) = false := by have : ¬ (k + 1) % 2 = 0 := by omega
                                           simp [par, this]
  have e : wsum true ([(l.set k (((65535 - norm (wsum true l)) / 256) % 256)).set (k + 1) ((65535 - norm (wsum true l)) % 256)] : List (List Int)).flatten = wsum true l + (65535 - norm (wsum true l)) := by
    rw [List.flatten_cons, List.flatten_nil, List.append_nil, wsum_set true _ (k + 1) _ (by simp; omega), wsum_set true l k _ (by omega), p0, p1, g0]
    have : (l.set k (((65535 - norm (wsum true l)) / 256) % 256)).getD (k + 1) 0 = 0 := by
      rw [List.getD_eq_getElem?_getD, List.getElem?_set_ne (by omega), ← List.getD_eq_getElem?_getD, g1]
    rw [this]; simp only [if_true, Bool.false_eq_true, if_false]; omega
  rw [e]
  congr 1
  rw [decide_eq_true_eq]
  generalize wsum true l = S at *
  unfold norm at *
  (repeat' split) <;> omega
theorem fits_any (A0 : Option Addr) (c0 : Nat) (l0 : List Int) (a : Int) (w : World) (hr0 : Kd.C B8 w A0 l0.length l0) (hc0 : l0.length ≤ c0) (hl : byts l0) (hm : l0.length ≤ 140737488351232) :
    Calls Try.prog 5 #[.slice A0 l0.length c0, .int .i64 a] w fun e w' => e = .returned (.bool true) ∧ Below w.heap.size w w' := by
  have HC := Lib.hid hr0; clear hr0
  have HL := Lib.hid hl; clear hl
  by_cases h2 : l0.length < 2
  · go_enter Try.func5, Try.ntmps5
    go_wp2_with (go_at_call 15; refine (tidewaylaw02_heads.calls true _ headsF).mono ?_; rintro e w4 ⟨rfl, hb4⟩)
    go_ret
    exact ⟨rfl, hb4⟩
  · have h2' : 2 ≤ l0.length := by omega
    clear h2
    go_enter Try.func5, Try.ntmps5
    go_wp2_with (at_builtin; refine hold_of ?_)
    refine hold_mk ?_
    obtain ⟨k, hk, hk1, hk2⟩ := place l0.length a h2' hm
    have e2 : wrap64 (wrap64 ((IntKind.u64.wrap a).tmod ((l0.length : Int) / 2)) * 2) = (k : Int) := hk
    rw [e2]
    clear hk e2
    refine Kd.R_append_rows B8 (Rr := fun x cs => cs = [.int .u8 x]) (w0 := w) w.heap.size rfl (.tmp 21) (.tmp 22) 24 5 (.int .u8 0) 1 rfl Try.underlying24 info5 rfl (by decide) (by decide) _ [] l0 _ _ _ (fun _ => True) (fun _ => False) rfl rfl ?c1 ?c2 (fun _ _ e => e) (fun _ e => e.elim) (fun _ _ => trivial) ?c3 (by simp) (by simp; omega) ?_
    case c1 => exact own_empty w _ (Nat.le_refl _)
    case c2 => exact Kd.C_below HC.out ((Below.refl _ w).alloc (Nat.le_refl _) _)
    case c3 => exact below_alloc (Below.refl _ _) _
    intro v1 w1 hR1 hB1 _ _
    obtain ⟨g, cap, rfl, hrow⟩ := Row8.of_R hR1 (by simp; omega)
    clear hR1
    simp only [List.nil_append] at hrow ⊢
    have hgb := hrow.1
    have c0 := hrow.cell k (by omega)
    have hrow2 := hrow.set k (by omega) 0
    have c1 := hrow2.cell (k + 1) (by simp; omega)
    have hrow3 := hrow2.set (k + 1) (by simp; omega) 0
    obtain ⟨c00, c01⟩ := c0
    obtain ⟨c10, c11⟩ := c1
    obtain ⟨l1, hl1⟩ : ∃ l1, (l0.set k 0).set (k + 1) 0 = l1 := ⟨_, rfl⟩
    have hlen1 : l1.length = l0.length := by rw [← hl1]; simp
    have hby1 : byts l1 := by rw [← hl1]; exact byts_set (byts_set HL.out (by omega) (by omega)) (by omega) (by omega)
    rw [hl1] at hrow3
    have hle1 : l1.length ≤ cap := hrow3.2.1
    have g0 : l1.getD k 0 = 0 := by rw [← hl1, List.getD_eq_getElem?_getD, List.getElem?_set_ne (by omega), List.getElem?_set_self (by omega)]; rfl
    have g1 : l1.getD (k + 1) 0 = 0 := by rw [← hl1, List.getD_eq_getElem?_getD, List.getElem?_set_self (by simp; omega)]; rfl
    obtain ⟨r, hr⟩ : ∃ r, 65535 - norm (wsum true l1) = r := ⟨_, rfl⟩
    have hsum : sum_Sum.f [l1] = some r := by rw [sumF [l1] (by simpa using hby1)]; simp [hr]
    have hlaw := fits_plain l1 k hk2 (by omega) hby1 g0 g1
    rw [hr] at hlaw
    have HR := Lib.hid hrow3
    have HL1 := Lib.hid hlen1
    have HLE := Lib.hid hle1
    have HS := Lib.hid hsum
    have HW := Lib.hid hlaw
    have HB := Lib.hid hB1
    clear hrow hrow2 hrow3 hB1 hl1 hlen1 hle1 hsum hlaw hby1 g0 g1 hr
    go_wp2_with (first | (go_at_call 10; refine (sum_Sum.calls _ 1 [l1] r _ (lit_one (by simp) HL1.out HLE.out HR.out.C) (by simp) HS.out).mono ?_; rintro e w2 ⟨rfl, hb2⟩; refine hold_of ?_))
    refine hold_mk ?_
    have hR2 := (HR.out.below ((Below.refl _ _).alloc (Nat.le_refl _) (.cells #[Value.slice (some ⟨g, 0, none⟩) l0.length cap] 24))).below hb2
    have q1 := HB.out.setCell (p := ⟨g, k, none⟩) hgb (.int .u8 0)
    have q2 := q1.setCell (p := ⟨g, k + 1, none⟩) hgb (.int .u8 0)
    have q3 := below_alloc q2 (.cells #[Value.slice (some ⟨g, 0, none⟩) l0.length cap] 24)
    have hBB := below_step q3 hb2
    clear q1 q2 q3
    have c2 := hR2.cell k (by have := HL1.out; omega)
    have hR3 := hR2.set k (by have := HL1.out; omega) ((r / 256) % 256)
    have c3 := hR3.cell (k + 1) (by have := HL1.out; simp; omega)
    have hR4 := hR3.set (k + 1) (by have := HL1.out; simp; omega) (r % 256)
    obtain ⟨c20, c21⟩ := c2
    obtain ⟨c30, c31⟩ := c3
    have HR4 := Lib.hid hR4
    have HBB := Lib.hid hBB
    clear hR2 hR3 hR4 hBB hb2
    go_wp2_with (first | (go_at_call 12; refine (sum_Valid.calls _ 1 [_] true _ (lit_one (by simp) (by simp; exact HL1.out) (by simp; exact HLE.out) HR4.out.C) (by simp) HW.out).mono ?_; rintro e w3 ⟨rfl, hb3⟩) | (go_at_call 15; refine (tidewaylaw02_heads.calls true _ headsF).mono ?_; rintro e w4 ⟨rfl, hb4⟩))
    have q4 := HBB.out.setCell (p := ⟨g, k, none⟩) hgb (.int .u8 (r / 256 % 256))
    have q5 := q4.setCell (p := ⟨g, k + 1, none⟩) hgb (.int .u8 (r % 256))
    have q6 := below_alloc q5 (.cells #[Value.slice (some ⟨g, 0, none⟩) l0.length cap] 24)
    have q7 := below_step (below_step q6 hb3) hb4
    clear q4 q5 q6 hb3 hb4
    go_ret
    exact ⟨rfl, q7⟩
theorem wf8 {c : Int} (h : (Lit.int .u8 c).wf = true) : 0 ≤ c ∧ c ≤ 255 := by simpa [Lit.wf, IntKind.min, IntKind.max, IntKind.signed, IntKind.bits] using h
theorem SumFits_calls (A0 : Option Addr) (c0 : Nat) (l0 : List Int) (a : Int) (w : World) (hr0 : Kd.C B8 w A0 l0.length l0) (hc0 : l0.length ≤ c0) (hl : (∀ x ∈ l0, (Lit.int .u8 x).wf = true) ∧ l0.length * 1 ≤ 140737488351232 ∧ l0.length ≤ 9223372036854775807) (ha : (Lit.int .i64 a).wf = true) :
    Calls Try.prog 5 #[.slice A0 l0.length c0, .int .i64 a] w fun e w' => e = .returned (.bool true) ∧ Below w.heap.size w w' :=
  fits_any A0 c0 l0 a w hr0 hc0 (fun c hc => wf8 (hl.1 c hc)) (by omega)
end Go.Proofs.Ytgmbmkfodinckaa.Pure

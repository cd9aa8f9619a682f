/- One bit turned in a valid text is told: of all bytes, made valid, and of each bit. -/
import Derived.Laws.BitsAllLaws
import Derived.Test.YtgmbmkfodinckaaSumFacts
import Derived.Test.YtgmbmkfodinckaaRow8
import Derived.Test.YtgmbmkfodinckaaPureSumFits
set_option linter.unusedVariables false
set_option linter.unusedSimpArgs false
namespace Go.Proofs.Ytgmbmkfodinckaa.Pure
open Go.RowKit Go.Proofs.Ytgmbmkfodinckaa.PA Go.Proofs.YtgmbmkfodinckaaW.PrintWords Go.Proofs.Ytgmbmkfodinckaa.SumPlain Go.Proofs.Ytgmbmkfodinckaa.SumFacts Go.Proofs.Ytgmbmkfodinckaa.Row8
theorem reads_lit (W : World) (xs : List Int) (hm : xs.length ≤ 9223372036854775807) : Kd.C B8 (W.alloc (.cells (nums .u8 xs).toArray 5)) (some ⟨W.heap.size, 0, none⟩) xs.length xs := by
  refine ⟨rfl, hm, fun _ => ⟨_, rfl, fun j p hj => ⟨[.int .u8 p], rfl, rfl, fun i u hu => ?_⟩⟩⟩
  match i, hu with
  | 0, hu =>
    obtain rfl : Value.int .u8 p = u := by simpa using hu
    have hz : B8.sz = 1 := rfl
    rw [hz, Nat.mul_one, Nat.add_zero, add_plain]
    unfold World.cell?
    dsimp only
    rw [heap_alloc_new W]
    simp [nums, hj]
theorem bitplace (n : Nat) (a : Int) (hm : n ≤ 140737488351240) : ∃ kk i j : Nat, wrap64 ((IntKind.u64.wrap a).tmod (8 * ((n : Int) + 2))) = (kk : Int) ∧ (kk : Int) / 8 = (i : Int) ∧ (kk : Int) % 8 = (j : Int) ∧ i < n + 2 ∧ j < 8 := by
  have e : IntKind.u64.wrap a = a % 18446744073709551616 := by simp [IntKind.wrap, IntKind.bits, IntKind.signed]
  rw [e, Int.tmod_eq_emod_of_nonneg (by omega)]
  have h1 : 0 ≤ a % 18446744073709551616 % (8 * ((n : Int) + 2)) := Int.emod_nonneg _ (by omega)
  have h2 : a % 18446744073709551616 % (8 * ((n : Int) + 2)) < 8 * ((n : Int) + 2) := Int.emod_lt_of_pos _ (by omega)
  generalize a % 18446744073709551616 % (8 * ((n : Int) + 2)) = x at *
  refine ⟨x.toNat, x.toNat / 8, x.toNat % 8, ?_, by omega, by omega, by omega, by omega⟩
  unfold wrap64; omega
theorem xor_bit : ∀ x < 256, ∀ j < 8, (bits .xor .u8 (x : Nat) ((2 ^ j : Nat) : Int) = (x : Int) + 2 ^ j ∨ bits .xor .u8 (x : Nat) ((2 ^ j : Nat) : Int) = (x : Int) - 2 ^ j) ∧ 0 ≤ bits .xor .u8 (x : Nat) ((2 ^ j : Nat) : Int) ∧ bits .xor .u8 (x : Nat) ((2 ^ j : Nat) : Int) ≤ 255 := by decide +kernel
theorem flip_plain (M : List Int) (i j : Nat) (hi : i < M.length) (hj : j < 8) (hb : byts M) (hv : sum_Valid.f [M] = some true) :
    sum_Valid.f [M.set i (bits .xor .u8 (M.getD i 0) (2 ^ j % 256))] = some false := by
  have hx : 0 ≤ M.getD i 0 ∧ M.getD i 0 ≤ 255 := by rw [List.getD_eq_getElem?_getD, List.getElem?_eq_getElem hi]; exact hb _ (List.getElem_mem _)
  obtain ⟨x, hxe⟩ := Int.eq_ofNat_of_zero_le hx.1
  have h1 := xor_bit x (by omega) j hj
  have hp : (2 : Int) ^ j % 256 = ((2 ^ j : Nat) : Int) := by
    rcases (show j = 0 ∨ j = 1 ∨ j = 2 ∨ j = 3 ∨ j = 4 ∨ j = 5 ∨ j = 6 ∨ j = 7 by omega) with rfl | rfl | rfl | rfl | rfl | rfl | rfl | rfl <;> rfl
  have hp2 : (2 : Int) ^ j ∈ ([1, 2, 4, 8, 16, 32, 64, 128] : List Int) := by
    rcases (show j = 0 ∨ j = 1 ∨ j = 2 ∨ j = 3 ∨ j = 4 ∨ j = 5 ∨ j = 6 ∨ j = 7 by omega) with rfl | rfl | rfl | rfl | rfl | rfl | rfl | rfl <;> simp
  rw [hp, hxe]
  generalize bits .xor .u8 (x : Int) ((2 ^ j : Nat) : Int) = v at *
  have hb2 : byts (M.set i v) := byts_set hb h1.2.1 h1.2.2
  rw [validF _ (by simpa using hb)] at hv
  rw [validF _ (by simpa using hb2)]
  have hv := of_decide_eq_true (Option.some.inj hv)
  have n0 := wsum_nonneg true _ hb
  have n2 := wsum_nonneg true _ hb2
  have e : wsum true ([M.set i v] : List (List Int)).flatten = wsum true M + (v - x) * (if par true i = true then 256 else 1) := by
    rw [List.flatten_cons, List.flatten_nil, List.append_nil, wsum_set true M i v hi, hxe]
  rw [wsum_set true M i v hi, hxe] at n2
  rw [e]
  congr 1
  rw [decide_eq_false_iff_not]
  rw [List.flatten_cons, List.flatten_nil, List.append_nil] at hv
  generalize wsum true M = S at *
  generalize (2 : Int) ^ j = P at *
  unfold norm at *
  simp only [List.mem_cons, List.not_mem_nil, or_false] at hp2
  by_cases hpar : par true i = true
  · rw [if_pos hpar] at n2 ⊢
    rcases h1.1 with h | h <;> (subst h; rcases hp2 with rfl | rfl | rfl | rfl | rfl | rfl | rfl | rfl <;> (split at hv <;> split <;> omega))
  · rw [if_neg hpar] at n2 ⊢
    rcases h1.1 with h | h <;> (subst h; rcases hp2 with rfl | rfl | rfl | rfl | rfl | rfl | rfl | rfl <;> (split at hv <;> split <;> omega))
set_option maxHeartbeats 2000000 in
theorem tells_any (A0 : Option Addr) (c0 : Nat) (l0 : List Int) (a : Int) (w : World) (hr0 : Kd.C B8 w A0 l0.length l0) (hc0 : l0.length ≤ c0) (hl : byts l0) (hm : l0.length ≤ 140737488351232) :
    Calls Try.prog 6 #[.slice A0 l0.length c0, .int .i64 a] w fun e w' => e = .returned (.bool true) ∧ Below w.heap.size w w' := by
  have HC := Lib.hid hr0; clear hr0
  have HL := Lib.hid hl; clear hl
  go_enter Try.func6, Try.ntmps6
  go_wp2_with (at_builtin; refine hold_of ?_)
  refine hold_mk ?_
  refine Kd.R_append_rows B8 (Rr := fun x cs => cs = [.int .u8 x]) (w0 := w) w.heap.size rfl (.tmp 8) (.tmp 9) 24 5 (.int .u8 0) 1 rfl Try.underlying24 info5 rfl (by decide) (by decide) _ [] l0 _ _ _ (fun _ => True) (fun _ => False) rfl rfl (own_empty w _ (Nat.le_refl _)) (Kd.C_below HC.out ((Below.refl _ w).alloc (Nat.le_refl _) _)) (fun _ _ e => e) (fun _ e => e.elim) (fun _ _ => trivial) (below_alloc (Below.refl _ _) _) (by simp) (by simp; omega) ?_
  intro v1 w1 hR1 hB1 _ _
  simp only [List.nil_append] at hR1
  have hs1 := hB1.size
  obtain ⟨A1, c1, rfl⟩ := Kd.R_slice hR1
  have HR1 := Lib.hid hR1; clear hR1
  have HB1 := Lib.hid hB1; clear hB1
  go_wp2_with (at_builtin; refine hold_of ?_)
  refine hold_mk ?_
  refine Kd.R_append_rows B8 (Rr := fun x cs => cs = [.int .u8 x]) (w0 := w) w.heap.size rfl (.tmp 10) (.tmp 11) 24 5 (.int .u8 0) 1 rfl Try.underlying24 info5 rfl (by decide) (by decide) _ l0 [0] _ _ _ (fun _ => True) (fun _ => False) rfl rfl (Kd.R_alloc HR1.out _) (reads_lit w1 [0] (by simp)) (fun _ _ e => e) (fun _ e => e.elim) (fun _ _ => trivial) (below_alloc HB1.out _) (by simp; omega) (by simp; omega) ?_
  intro v2 w2 hR2 hB2 _ _
  have hs2 := hB2.size
  obtain ⟨A2, c2, rfl⟩ := Kd.R_slice hR2
  obtain ⟨l1, hl1⟩ : ∃ l1, l0 ++ [0] = l1 := ⟨_, rfl⟩
  rw [hl1] at hR2 ⊢
  have hlen1 : l1.length = l0.length + 1 := by rw [← hl1]; simp
  have hby1 : byts l1 := by
    rw [← hl1]; intro c hc
    rcases List.mem_append.1 hc with hc | hc
    · exact HL.out c hc
    · rw [List.mem_singleton.1 hc]; omega
  have hm1 : l1.length ≤ 140737488351233 := by omega
  have hp1 : 1 ≤ l1.length := by omega
  have HR2 := Lib.hid hR2; clear hR2
  have HB2 := Lib.hid hB2; clear hB2
  clear hlen1 hl1
  by_cases hodd : l1.length % 2 = 1
  · have ht : ((l1.length : Int).tmod 2 == 1) = true := by rw [Int.tmod_eq_emod_of_nonneg (by omega)]; simp; omega
    go_wp2_with (at_builtin; refine hold_of ?_)
    refine hold_mk ?_
    refine Kd.R_append_rows B8 (Rr := fun x cs => cs = [.int .u8 x]) (w0 := w) w.heap.size rfl (.tmp 17) (.tmp 18) 24 5 (.int .u8 0) 1 rfl Try.underlying24 info5 rfl (by decide) (by decide) _ l1 [0] _ _ _ (fun _ => True) (fun _ => False) rfl rfl (Kd.R_alloc HR2.out _) (reads_lit w2 [0] (by simp)) (fun _ _ e => e) (fun _ e => e.elim) (fun _ _ => trivial) (below_alloc HB2.out _) (by simp; omega) (by simp; omega) ?_
    intro v3 w3 hR3 hB3 _ _
    have hs3 := hB3.size
    obtain ⟨A3, c3, rfl⟩ := Kd.R_slice hR3
    obtain ⟨l2, hl2⟩ : ∃ l2, l1 ++ [0] = l2 := ⟨_, rfl⟩
    rw [hl2] at hR3 ⊢
    have hlen2 : l2.length = l1.length + 1 := by rw [← hl2]; simp
    have hby2 : byts l2 := by
      rw [← hl2]; intro c hc
      rcases List.mem_append.1 hc with hc | hc
      · exact hby1 c hc
      · rw [List.mem_singleton.1 hc]; omega
    have hm2 : l2.length ≤ 140737488351234 := by omega
    have hp2 : 1 ≤ l2.length := by omega
    have he2 : l2.length % 2 = 0 := by omega
    have HR3 := Lib.hid hR3; clear hR3
    have HB3 := Lib.hid hB3; clear hB3
    have HE := Lib.hid he2; clear he2
    clear hlen2 hl2 ht hodd
    go_wp2_with (at_builtin; refine hold_of ?_)
    refine hold_mk ?_
    refine Kd.R_append_rows B8 (Rr := fun x cs => cs = [.int .u8 x]) (w0 := w) w.heap.size rfl (.tmp 20) (.tmp 21) 24 5 (.int .u8 0) 1 rfl Try.underlying24 info5 rfl (by decide) (by decide) _ l2 [0, 0] _ _ _ (fun _ => True) (fun _ => False) rfl rfl (Kd.R_alloc HR3.out _) (reads_lit w3 [0, 0] (by simp)) (fun _ _ e => e) (fun _ e => e.elim) (fun _ _ => trivial) (below_alloc HB3.out _) (by simp; omega) (by simp; omega) ?_
    intro v4 w4 hR4 hB4 _ _
    have hs4 := hB4.size
    obtain ⟨g, cap, rfl, hrow⟩ := Row8.of_R hR4 (by simp)
    clear hR4
    obtain ⟨L, hL⟩ : ∃ L, l2 ++ [0, 0] = L := ⟨_, rfl⟩
    rw [hL] at hrow ⊢
    have hn2 : L.length = l2.length + 2 := by rw [← hL]; simp
    have hmL : L.length ≤ 140737488351240 := by omega
    have hgL : 4 ≤ L.length ∨ 3 ≤ L.length := by omega
    have hg3 : 3 ≤ L.length := by omega
    have heL : L.length % 2 = 0 := by have := HE.out; omega
    have hbyL : byts L := by
      rw [← hL]; intro c hc
      rcases List.mem_append.1 hc with hc | hc
      · exact hby2 c hc
      · simp at hc; subst hc; omega
    have z0 : L.getD (L.length - 2) 0 = 0 := by rw [hn2, ← hL]; simp [List.getD_eq_getElem?_getD]
    have z1 : L.getD (L.length - 2 + 1) 0 = 0 := by rw [hn2, ← hL]; simp [List.getD_eq_getElem?_getD]
    obtain ⟨r, hr⟩ : ∃ r, 65535 - norm (wsum true L) = r := ⟨_, rfl⟩
    have hsum : sum_Sum.f [L] = some r := by rw [sumF [L] (by simpa using hbyL)]; simp [hr]
    have hlaw := fits_plain L (L.length - 2) (by omega) (by omega) hbyL z0 z1
    rw [hr] at hlaw
    have HR := Lib.hid hrow
    have HLE := Lib.hid hrow.2.1
    have hgb := hrow.1
    have HS := Lib.hid hsum
    have HW := Lib.hid hlaw
    have HB := Lib.hid hB4
    have HBL := Lib.hid hbyL
    have HEL := Lib.hid heL
    clear hrow hsum hlaw hB4 hr z0 z1 hbyL heL hL hn2 hgL
    go_wp2_with (first | (go_at_call 10; refine (sum_Sum.calls _ 1 [L] r _ (lit_one (by simp) rfl HLE.out HR.out.C) (by simp) HS.out).mono ?_; rintro e w5 ⟨rfl, hb5⟩; refine hold_of ?_))
    refine hold_mk ?_
    have hR5 := (HR.out.below ((Below.refl _ _).alloc (Nat.le_refl _) (.cells #[Value.slice (some ⟨g, 0, none⟩) L.length cap] 24))).below hb5
    have hB5 := below_step (below_alloc HB.out (.cells #[Value.slice (some ⟨g, 0, none⟩) L.length cap] 24)) hb5
    clear hb5
    obtain ⟨n, hn⟩ : ∃ n, L.length - 2 = n := ⟨_, rfl⟩
    have hnL : L.length = n + 2 := by omega
    rw [hn] at HW
    have c5 := hR5.cell n (by omega)
    have hR6 := hR5.set n (by omega) ((r / 256) % 256)
    have c6 := hR6.cell (n + 1) (by simp; omega)
    have hR7 := hR6.set (n + 1) (by simp; omega) (r % 256)
    obtain ⟨c50, c51⟩ := c5
    obtain ⟨c60, c61⟩ := c6
    obtain ⟨M, hM⟩ : ∃ M, (L.set n ((r / 256) % 256)).set (n + 1) (r % 256) = M := ⟨_, rfl⟩
    have hlM : M.length = n + 2 := by rw [← hM]; simp [hnL]
    have hbyM : byts M := by rw [← hM]; exact byts_set (byts_set HBL.out (by omega) (by omega)) (by omega) (by omega)
    have hW := HW.out
    rw [hM] at hR7 hW
    have HR7 := Lib.hid hR7
    have HLE7 := Lib.hid hR7.2.1
    have HV := Lib.hid hW
    have HB5 := Lib.hid hB5
    have HLM := Lib.hid hlM
    have HBM := Lib.hid hbyM
    clear hR5 hR6 hR7 hB5 hW HW hM hlM hbyM hn HR HB HS HBL
    obtain ⟨kk, i, j, hkk, hki, hkj, hi, hj⟩ := bitplace n a (by omega)
    go_wp2_with (first | (go_at_call 12; refine (sum_Valid.calls _ 1 [M] true _ (lit_one (by simp) HLM.out HLE7.out HR7.out.C) (by simp) HV.out).mono ?_; rintro e w6 ⟨rfl, hb6⟩; have hR8 := (HR7.out.below ((Below.refl _ _).alloc (Nat.le_refl _) (.cells #[Value.slice (some ⟨g, 0, none⟩) (n + 2) cap] 24))).below hb6; obtain ⟨c80, c81⟩ := hR8.cell i (by rw [HLM.out]; exact hi); have HR8 := Lib.hid hR8; clear hR8; have HB6 := Lib.hid hb6; clear hb6))
    obtain ⟨y, hy⟩ : ∃ y, M[i]?.getD 0 = y := ⟨_, rfl⟩
    have hflip := flip_plain M i j (by rw [HLM.out]; exact hi) hj HBM.out HV.out
    rw [List.getD_eq_getElem?_getD] at hflip
    have hR9 := HR8.out.set i (by rw [HLM.out]; exact hi) (bits .xor .u8 (M[i]?.getD 0) (2 ^ j % 256))
    refine (sum_Valid.calls _ 1 [M.set i (bits .xor .u8 (M[i]?.getD 0) (2 ^ j % 256))] false _ (lit_one (by simp) (by simp; exact HLM.out) hR9.2.1 hR9.C) (by simp) hflip).mono ?_
    rintro e w7 ⟨rfl, hb7⟩
    have q4 := HB5.out.setCell (p := ⟨g, n, none⟩) hgb (.int .u8 (r / 256 % 256))
    have q5 := q4.setCell (p := ⟨g, n + 1, none⟩) hgb (.int .u8 (r % 256))
    have q6 := below_step (below_alloc q5 (.cells #[Value.slice (some ⟨g, 0, none⟩) (n + 2) cap] 24)) HB6.out
    have q7 := q6.setCell (p := ⟨g, i, none⟩) hgb (.int .u8 (bits .xor .u8 (M[i]?.getD 0) (2 ^ j % 256)))
    have q8 := below_step (below_alloc q7 (.cells #[Value.slice (some ⟨g, 0, none⟩) (n + 2) cap] 24)) hb7
    have HQ := Lib.hid q8
    clear q4 q5 q6 q7 q8 hb7 hR9 hflip hy HR8 HR7
    go_wp2_with (go_at_call 15; refine (tidewaylaw02_heads.calls true _ headsF).mono ?_; rintro e w8 ⟨rfl, hb8⟩)
    go_ret
    exact ⟨rfl, below_step HQ.out hb8⟩
  · have ht : ((l1.length : Int).tmod 2 == 1) = false := by rw [Int.tmod_eq_emod_of_nonneg (by omega)]; simp; omega
    have he2 : l1.length % 2 = 0 := by omega
    have HE := Lib.hid he2; clear he2 ht
    go_wp2_with (at_builtin; refine hold_of ?_)
    clear hodd
    refine hold_mk ?_
    refine Kd.R_append_rows B8 (Rr := fun x cs => cs = [.int .u8 x]) (w0 := w) w.heap.size rfl (.tmp 20) (.tmp 21) 24 5 (.int .u8 0) 1 rfl Try.underlying24 info5 rfl (by decide) (by decide) _ l1 [0, 0] _ _ _ (fun _ => True) (fun _ => False) rfl rfl (Kd.R_alloc HR2.out _) (reads_lit w2 [0, 0] (by simp)) (fun _ _ e => e) (fun _ e => e.elim) (fun _ _ => trivial) (below_alloc HB2.out _) (by simp; omega) (by simp; omega) ?_
    intro v4 w4 hR4 hB4 _ _
    have hs4 := hB4.size
    obtain ⟨g, cap, rfl, hrow⟩ := Row8.of_R hR4 (by simp)
    clear hR4
    obtain ⟨L, hL⟩ : ∃ L, l1 ++ [0, 0] = L := ⟨_, rfl⟩
    rw [hL] at hrow ⊢
    have hn2 : L.length = l1.length + 2 := by rw [← hL]; simp
    have hmL : L.length ≤ 140737488351240 := by omega
    have hgL : 4 ≤ L.length ∨ 3 ≤ L.length := by omega
    have hg3 : 3 ≤ L.length := by omega
    have heL : L.length % 2 = 0 := by have := HE.out; omega
    have hbyL : byts L := by
      rw [← hL]; intro c hc
      rcases List.mem_append.1 hc with hc | hc
      · exact hby1 c hc
      · simp at hc; subst hc; omega
    have z0 : L.getD (L.length - 2) 0 = 0 := by rw [hn2, ← hL]; simp [List.getD_eq_getElem?_getD]
    have z1 : L.getD (L.length - 2 + 1) 0 = 0 := by rw [hn2, ← hL]; simp [List.getD_eq_getElem?_getD]
    obtain ⟨r, hr⟩ : ∃ r, 65535 - norm (wsum true L) = r := ⟨_, rfl⟩
    have hsum : sum_Sum.f [L] = some r := by rw [sumF [L] (by simpa using hbyL)]; simp [hr]
    have hlaw := fits_plain L (L.length - 2) (by omega) (by omega) hbyL z0 z1
    rw [hr] at hlaw
    have HR := Lib.hid hrow
    have HLE := Lib.hid hrow.2.1
    have hgb := hrow.1
    have HS := Lib.hid hsum
    have HW := Lib.hid hlaw
    have HB := Lib.hid hB4
    have HBL := Lib.hid hbyL
    have HEL := Lib.hid heL
    clear hrow hsum hlaw hB4 hr z0 z1 hbyL heL hL hn2 hgL
    go_wp2_with (first | (go_at_call 10; refine (sum_Sum.calls _ 1 [L] r _ (lit_one (by simp) rfl HLE.out HR.out.C) (by simp) HS.out).mono ?_; rintro e w5 ⟨rfl, hb5⟩; refine hold_of ?_))
    refine hold_mk ?_
    have hR5 := (HR.out.below ((Below.refl _ _).alloc (Nat.le_refl _) (.cells #[Value.slice (some ⟨g, 0, none⟩) L.length cap] 24))).below hb5
    have hB5 := below_step (below_alloc HB.out (.cells #[Value.slice (some ⟨g, 0, none⟩) L.length cap] 24)) hb5
    clear hb5
    obtain ⟨n, hn⟩ : ∃ n, L.length - 2 = n := ⟨_, rfl⟩
    have hnL : L.length = n + 2 := by omega
    rw [hn] at HW
    have c5 := hR5.cell n (by omega)
    have hR6 := hR5.set n (by omega) ((r / 256) % 256)
    have c6 := hR6.cell (n + 1) (by simp; omega)
    have hR7 := hR6.set (n + 1) (by simp; omega) (r % 256)
    obtain ⟨c50, c51⟩ := c5
    obtain ⟨c60, c61⟩ := c6
    obtain ⟨M, hM⟩ : ∃ M, (L.set n ((r / 256) % 256)).set (n + 1) (r % 256) = M := ⟨_, rfl⟩
    have hlM : M.length = n + 2 := by rw [← hM]; simp [hnL]
    have hbyM : byts M := by rw [← hM]; exact byts_set (byts_set HBL.out (by omega) (by omega)) (by omega) (by omega)
    have hW := HW.out
    rw [hM] at hR7 hW
    have HR7 := Lib.hid hR7
    have HLE7 := Lib.hid hR7.2.1
    have HV := Lib.hid hW
    have HB5 := Lib.hid hB5
    have HLM := Lib.hid hlM
    have HBM := Lib.hid hbyM
    clear hR5 hR6 hR7 hB5 hW HW hM hlM hbyM hn HR HB HS HBL
    obtain ⟨kk, i, j, hkk, hki, hkj, hi, hj⟩ := bitplace n a (by omega)
    go_wp2_with (first | (go_at_call 12; refine (sum_Valid.calls _ 1 [M] true _ (lit_one (by simp) HLM.out HLE7.out HR7.out.C) (by simp) HV.out).mono ?_; rintro e w6 ⟨rfl, hb6⟩; have hR8 := (HR7.out.below ((Below.refl _ _).alloc (Nat.le_refl _) (.cells #[Value.slice (some ⟨g, 0, none⟩) (n + 2) cap] 24))).below hb6; obtain ⟨c80, c81⟩ := hR8.cell i (by rw [HLM.out]; exact hi); have HR8 := Lib.hid hR8; clear hR8; have HB6 := Lib.hid hb6; clear hb6))
    obtain ⟨y, hy⟩ : ∃ y, M[i]?.getD 0 = y := ⟨_, rfl⟩
    have hflip := flip_plain M i j (by rw [HLM.out]; exact hi) hj HBM.out HV.out
    rw [List.getD_eq_getElem?_getD] at hflip
    have hR9 := HR8.out.set i (by rw [HLM.out]; exact hi) (bits .xor .u8 (M[i]?.getD 0) (2 ^ j % 256))
    refine (sum_Valid.calls _ 1 [M.set i (bits .xor .u8 (M[i]?.getD 0) (2 ^ j % 256))] false _ (lit_one (by simp) (by simp; exact HLM.out) hR9.2.1 hR9.C) (by simp) hflip).mono ?_
    rintro e w7 ⟨rfl, hb7⟩
    have q4 := HB5.out.setCell (p := ⟨g, n, none⟩) hgb (.int .u8 (r / 256 % 256))
    have q5 := q4.setCell (p := ⟨g, n + 1, none⟩) hgb (.int .u8 (r % 256))
    have q6 := below_step (below_alloc q5 (.cells #[Value.slice (some ⟨g, 0, none⟩) (n + 2) cap] 24)) HB6.out
    have q7 := q6.setCell (p := ⟨g, i, none⟩) hgb (.int .u8 (bits .xor .u8 (M[i]?.getD 0) (2 ^ j % 256)))
    have q8 := below_step (below_alloc q7 (.cells #[Value.slice (some ⟨g, 0, none⟩) (n + 2) cap] 24)) hb7
    have HQ := Lib.hid q8
    clear q4 q5 q6 q7 q8 hb7 hR9 hflip hy HR8 HR7
    go_wp2_with (go_at_call 15; refine (tidewaylaw02_heads.calls true _ headsF).mono ?_; rintro e w8 ⟨rfl, hb8⟩)
    go_ret
    exact ⟨rfl, below_step HQ.out hb8⟩
theorem SumTells_calls (A0 : Option Addr) (c0 : Nat) (l0 : List Int) (a : Int) (w : World) (hr0 : Kd.C B8 w A0 l0.length l0) (hc0 : l0.length ≤ c0) (hl : (∀ x ∈ l0, (Lit.int .u8 x).wf = true) ∧ l0.length * 1 ≤ 140737488351232 ∧ l0.length ≤ 9223372036854775807) (ha : (Lit.int .i64 a).wf = true) :
    Calls Try.prog 6 #[.slice A0 l0.length c0, .int .i64 a] w fun e w' => e = .returned (.bool true) ∧ Below w.heap.size w w' :=
  tells_any A0 c0 l0 a w hr0 hc0 (fun c hc => wf8 (hl.1 c hc)) (by omega)
end Go.Proofs.Ytgmbmkfodinckaa.Pure

-- Written for the seat Ytflmfbcapccdeaa by this session's program hyb.py (the print's functions, with externals typed by hand).
import Derived.Deep.CutRange
import Derived.Deep.LoopGhost
import Derived.Deep.QuietTactic
import Derived.Deep.RegionHeld3
import Derived.IntWalk
import Derived.Lib.Hide
import Derived.Lib.Mul64
import Derived.Shelf.Bits.Mul64
import Derived.Shelf.Spec.BitsCarry
import Derived.WalkKit
import Derived.Test.YtflmfbcapccdeaaPAx0
import Derived.Test.YtflmfbcapccdeaaPAx10
import Derived.Test.YtflmfbcapccdeaaPAx12
import Derived.Test.YtflmfbcapccdeaaPAx13
namespace Go.Proofs.Ytflmfbcapccdeaa.PA
open Go.RowKit Go.Proofs.YtflmfbcapccdeaaW.PrintWords Go.Proofs.YtflmfbcapccdeaaW.PrintLast Go.Proofs.YtflmfbcapccdeaaW.PrintMore
attribute [local go_sem] max2_int min2_int max_two min_two max_three min_three max_four min_four   -- for this text's walks alone
set_option linter.unusedVariables false
set_option linter.unusedSimpArgs false

/-! ### judge_Paced: function 18 (typed by hand) -/
theorem jp_w64 {n : Int} (h0 : -9223372036854775808 ≤ n) (h1 : n ≤ 9223372036854775807) : wrap64 n = n := by unfold wrap64; omega
theorem jp_mns (a b : Int) : mn a b ≤ a ∧ mn a b ≤ b ∧ (mn a b = a ∨ mn a b = b) := by unfold mn; split <;> omega
theorem jp_rmul (a b : Int) (ha : 0 ≤ a) (ha' : a < 18446744073709551616) (hb : 0 ≤ b) (hb' : b < 18446744073709551616) : bits_Mul64.f a b = some (a * b / 18446744073709551616, a * b % 18446744073709551616) := by
 obtain ⟨x, rfl⟩ := Int.eq_ofNat_of_zero_le ha
 obtain ⟨y, rfl⟩ := Int.eq_ofNat_of_zero_le hb
 have hx : x < 18446744073709551616 := by omega
 have hy : y < 18446744073709551616 := by omega
 obtain ⟨bd, bt, bw, hhi⟩ := Lib.mul64_hi x y hx hy
 have ba := Lib.half_mul_le (a := x / 4294967296) (b := y / 4294967296) (by omega) (by omega)
 have bb := Lib.half_mul_le (a := x / 4294967296) (b := y % 4294967296) (by omega) (by omega)
 have bc := Lib.half_mul_le (a := x % 4294967296) (b := y / 4294967296) (by omega) (by omega)
 have ba' : x / 4294967296 * (y / 4294967296) < 18446744073709551616 := by omega
 have bb' : x / 4294967296 * (y % 4294967296) < 18446744073709551616 := by omega
 have bc' : x % 4294967296 * (y / 4294967296) < 18446744073709551616 := by omega
 have bh1 : x / 4294967296 * (y / 4294967296) + (x / 4294967296 * (y % 4294967296) + x % 4294967296 * (y % 4294967296) / 4294967296) / 4294967296 < 18446744073709551616 := by omega
 have bh : x / 4294967296 * (y / 4294967296) + (x / 4294967296 * (y % 4294967296) + x % 4294967296 * (y % 4294967296) / 4294967296) / 4294967296 + ((x / 4294967296 * (y % 4294967296) + x % 4294967296 * (y % 4294967296) / 4294967296) % 4294967296 + x % 4294967296 * (y / 4294967296)) / 4294967296 < 18446744073709551616 := by omega
 unfold bits_Mul64.f
 simp only [Mul64.maskN x hx, Mul64.maskN y hy, Mul64.divN, Mul64.mulN, Mul64.addN, Mul64.wrapN _ bd, Mul64.wrapN _ bb', Mul64.wrapN _ bt, Mul64.maskN _ bt, Mul64.wrapN _ bc', Mul64.wrapN _ bw, Mul64.wrapN _ ba', Mul64.wrapN _ bh1, Mul64.wrapN _ bh, Mul64.wrapM (x * y)]
 rw [hhi]
 rfl
theorem jp_u64 (n : Int) (h0 : 0 ≤ n) (h1 : n < 18446744073709551616) : IntKind.u64.wrap n = n := by
 have : IntKind.u64.wrap n = n % 18446744073709551616 := by simp [IntKind.wrap, IntKind.bits, IntKind.signed]
 rw [this]; omega
/-- MulDiv: the product, divided; at most the greatest int. -/
theorem jp_muldiv (a b c : Int) (ha : 0 ≤ a) (ha' : a ≤ 9223372036854775807) (hb : 0 ≤ b) (hb' : b ≤ 9223372036854775807) (hc : 1 ≤ c) (hc' : c ≤ 9223372036854775807) :
  seq_MulDiv.f 2 a b c = some (mn (a * b / c) 9223372036854775807, 0) := by
 have hab : 0 ≤ a * b := Int.mul_nonneg ha hb
 have hab2 : a * b ≤ 9223372036854775807 * 9223372036854775807 := Int.mul_le_mul ha' hb' hb (by omega)
 rw [seq_MulDiv.f, if_neg (by omega), if_neg (by omega), decide_eq_false (by omega : ¬ c ≤ 0), seq_MulDiv.j0, if_neg (by decide), jp_u64 a ha (by omega), jp_u64 b hb (by omega), jp_u64 c (by omega) (by omega), jp_rmul a b ha (by omega) hb (by omega)]
 simp only [Option.bind_some]
 generalize hP : a * b = p at hab hab2 ⊢
 by_cases h : p / 18446744073709551616 ≥ c
 ·rw [if_pos h]
  have h2 : 9223372036854775807 ≤ p / c := by
   refine (Int.le_ediv_iff_mul_le (by omega)).2 ?_
   have h3 : c * 18446744073709551616 ≤ p := by
    have : c * 18446744073709551616 ≤ p / 18446744073709551616 * 18446744073709551616 := Int.mul_le_mul_of_nonneg_right h (by omega)
    omega
   omega
  have := jp_mns (p / c) 9223372036854775807
  rw [show mn (p / c) 9223372036854775807 = 9223372036854775807 by omega]
 ·rw [if_neg h, bits_Div64.f, if_pos (by omega)]
  simp only [Option.bind_some]
  have e : p / 18446744073709551616 * 18446744073709551616 + p % 18446744073709551616 = p := by omega
  rw [e]
  have h0 : 0 ≤ p / c := Int.ediv_nonneg hab (by omega)
  have := jp_mns (p / c) 9223372036854775807
  rw [jp_w64 (by omega) (by omega)]
/-- Is an entry right, behind one at 'last'? -/
def jp_e (last : Int) (x : S62) : Bool := decide (0 ≤ x.f1) && (decide (x.f1 ≤ 1073741824) && (decide (last ≤ x.f0) && decide (x.f0 ≤ 35184372088832)))
def jp_es : Int → List S62 → Bool
 | _, [] => true
 | last, x :: l => jp_e last x && jp_es x.f0 l
def jp_may (l : List S62) (a1 a2 : Int) : Bool := decide (0 ≤ a1) && (decide (a1 ≤ 1099511627776) && (decide (0 ≤ a2) && (decide (a2 ≤ 1073741824) && (decide (l.length ≤ 100000) && jp_es 0 l))))
theorem jp_may_l (l : List S62) (hl : l.length ≤ 100000) (i : Nat) (hi : i ≤ l.length) (last : Int) : ∀ k, 2 * (l.length - i) < k → judge_may.l0 k last l (l.length : Int) (i : Int) = some (jp_es last (l.drop i)) := by
 obtain ⟨n, hn⟩ : ∃ n, l.length - i = n := ⟨_, rfl⟩
 induction n generalizing i last with
 | zero =>
  intro k hk
  obtain ⟨k, rfl⟩ : ∃ j, k = j + 1 := ⟨k - 1, by omega⟩
  rw [judge_may.l0, if_neg (by omega), List.drop_of_length_le (by omega)]; rfl
 | succ n ih =>
  intro k hk
  obtain ⟨k, rfl⟩ : ∃ j, k = j + 1 + 1 := ⟨k - 2, by omega⟩
  have hlt : i < l.length := by omega
  have hr : rd_T62 l (i : Int) = l[i] := by rw [rd_T62, Int.toNat_natCast, List.getD_eq_getElem?_getD, List.getElem?_eq_getElem hlt]; rfl
  have hw : wrap64 ((i : Int) + 1) = ((i + 1 : Nat) : Int) := by rw [jp_w64 (by omega) (by omega)]; rfl
  have hnext : ∀ last', judge_may.l0 k last' l (l.length : Int) (wrap64 ((i : Int) + 1)) = some (jp_es last' (l.drop (i + 1))) := fun last' => by
   rw [hw]; exact ih (i + 1) (by omega) last' (by omega) k (by omega)
  rw [judge_may.l0, if_pos (by omega), if_pos (by omega), if_pos (by omega), List.drop_eq_getElem_cons hlt, hr, jp_es, jp_e]
  have hj : ∀ (b : Bool) (x0 x1 : Int), judge_may.j2 (k + 1) l (l.length : Int) (i : Int) b x0 x1 = if b = true then some false else some (jp_es x0 (l.drop (i + 1))) := fun b x0 x1 => by
   rw [judge_may.j2]; cases b
   ·rw [if_neg (by decide), if_neg (by decide)]; exact hnext x0
   ·rw [if_pos rfl, if_pos rfl]
  simp only [hj]
  by_cases h1 : l[i].f1 < 0
  ·rw [if_pos h1, decide_eq_false (by omega : ¬ 0 ≤ l[i].f1)]; rfl
  ·rw [if_neg h1, decide_eq_true (by omega : 0 ≤ l[i].f1)]
   by_cases h2 : l[i].f1 > 1073741824
   ·rw [if_pos h2, decide_eq_false (by omega : ¬ l[i].f1 ≤ 1073741824)]; rfl
   ·rw [if_neg h2, decide_eq_true (by omega : l[i].f1 ≤ 1073741824)]
    by_cases h3 : l[i].f0 < last
    ·rw [if_pos h3, decide_eq_false (by omega : ¬ last ≤ l[i].f0)]; rfl
    ·rw [if_neg h3, decide_eq_true (by omega : last ≤ l[i].f0)]
     by_cases h4 : l[i].f0 > 35184372088832
     ·rw [decide_eq_true h4, decide_eq_false (by omega : ¬ l[i].f0 ≤ 35184372088832)]; rfl
     ·rw [decide_eq_false h4, decide_eq_true (by omega : l[i].f0 ≤ 35184372088832)]; rfl
theorem jp_may_f (l : List S62) (a1 a2 : Int) : judge_may.f (2 * l.length + 2) l a1 a2 = some (jp_may l a1 a2) := by
 rw [judge_may.f, jp_may]
 have hj : ∀ b : Bool, judge_may.j0 (2 * l.length + 2) l b = if b = true then some false else judge_may.l0 (2 * l.length + 1) 0 l (l.length : Int) 0 := fun b => by rw [judge_may.j0]
 simp only [hj]
 by_cases h1 : a1 < 0
 ·rw [if_pos h1, decide_eq_false (by omega : ¬ 0 ≤ a1)]; rfl
 ·rw [if_neg h1, decide_eq_true (by omega : 0 ≤ a1)]
  by_cases h2 : a1 > 1099511627776
  ·rw [if_pos h2, decide_eq_false (by omega : ¬ a1 ≤ 1099511627776)]; rfl
  ·rw [if_neg h2, decide_eq_true (by omega : a1 ≤ 1099511627776)]
   by_cases h3 : a2 < 0
   ·rw [if_pos h3, decide_eq_false (by omega : ¬ 0 ≤ a2)]; rfl
   ·rw [if_neg h3, decide_eq_true (by omega : 0 ≤ a2)]
    by_cases h4 : a2 > 1073741824
    ·rw [if_pos h4, decide_eq_false (by omega : ¬ a2 ≤ 1073741824)]; rfl
    ·rw [if_neg h4, decide_eq_true (by omega : a2 ≤ 1073741824)]
     by_cases h5 : (l.length : Int) > 100000
     ·rw [decide_eq_true h5, decide_eq_false (by omega : ¬ l.length ≤ 100000)]; rfl
     ·rw [decide_eq_false h5, decide_eq_true (by omega : l.length ≤ 100000), if_neg (by decide)]
      have := jp_may_l l (by omega) 0 (by omega) 0 (2 * l.length + 1) (by omega)
      rw [List.drop_zero] at this
      exact this
/-- What may have gone by a time. -/
def jp_most (rate dt : Int) : Int := mn (dt * rate / 1000000) 9223372036854775807
def jp_in (rate at0 : Int) : Int → List S62 → Bool
 | _, [] => true
 | s, x :: l => (decide (s + x.f1 ≤ jp_most rate (x.f0 - at0)) || decide (s + x.f1 ≤ 0)) && jp_in rate at0 (s + x.f1) l
def jp_out (rate burst : Int) : List S62 → Bool
 | [] => true
 | x :: l => jp_in rate x.f0 (-burst) (x :: l) && jp_out rate burst l
def jp_paced (l : List S62) (rate burst : Int) : Bool := jp_may l rate burst && jp_out rate burst l
def judge_Paced.f (l : List S62) (a1 a2 : Int) : Option Bool := some (jp_paced l a1 a2)
theorem jp_es_mem : ∀ (l : List S62) (last : Int), jp_es last l = true → ∀ x ∈ l, 0 ≤ x.f1 ∧ x.f1 ≤ 1073741824 ∧ last ≤ x.f0 ∧ x.f0 ≤ 35184372088832
 | [], _, _, x, hx => by simp at hx
 | y :: l, last, h, x, hx => by
  simp only [jp_es, jp_e, Bool.and_eq_true, decide_eq_true_eq] at h
  rcases List.mem_cons.1 hx with rfl | hx
  ·omega
  ·have := jp_es_mem l y.f0 h.2 x hx
   omega
theorem jp_out_at (rate burst : Int) (l : List S62) (k : Nat) (h : k < l.length) (t : Int) (ht : l[k].f0 = t) : jp_out rate burst (l.drop k) = (jp_in rate t (-burst) (l.drop k) && jp_out rate burst (l.drop (k + 1))) := by
 subst ht
 conv => lhs; rw [List.drop_eq_getElem_cons h]
 rw [jp_out, ← List.drop_eq_getElem_cons h]
theorem jp_es_drop : ∀ (l : List S62) (last : Int) (k : Nat) (hk : k < l.length), jp_es last l = true → ∀ x ∈ l.drop k, l[k].f0 ≤ x.f0
 | [], _, _, hk, _ => by simp at hk
 | y :: l, last, 0, _, h => by
  intro x hx
  simp only [jp_es, Bool.and_eq_true] at h
  rcases List.mem_cons.1 hx with rfl | hx
  ·exact Int.le_refl _
  ·exact (jp_es_mem l y.f0 h.2 x hx).2.2.1
 | y :: l, last, k + 1, hk, h => by
  simp only [jp_es, Bool.and_eq_true] at h
  exact jp_es_drop l y.f0 k (by simpa using hk) h.2
set_option maxRecDepth 100000 in
set_option maxHeartbeats 16000000 in
theorem judge_Paced.calls (A0 : Option Addr) (c0 : Nat) (l0 : List S62) (a1 a2 : Int) (r : Bool) (w : World) (hr0 : Kd.C k62 w A0 l0.length l0) (hc0 : l0.length ≤ c0) (h : judge_Paced.f l0 a1 a2 = some r) :
  Calls Try.prog 18 #[.slice A0 l0.length c0, .int .i64 a1, .int .i64 a2] w fun e w' => e = .returned (.bool r) ∧ Below w.heap.size w w' := by
 have hr : jp_paced l0 a1 a2 = r := Option.some.inj h
 clear h
 have HR := Lib.hid hr; have HC := Lib.hid hr0; have HC0 := Lib.hid hc0; clear hr hr0 hc0
 obtain ⟨bm, hbm⟩ : ∃ bm, jp_may l0 a1 a2 = bm := ⟨_, rfl⟩
 have HF := Lib.hid ((jp_may_f l0 a1 a2).trans (congrArg some hbm))
 have HM := Lib.hid hbm
 clear hbm
 cases bm with
 | false =>
  go_enter Try.func18, Try.ntmps18
  go_wp2
  go_step3
  go_wp2_with (go_at_call 30; refine (judge_may.calls _ _ _ _ _ _ _ _ HC.out HC0.out HF.out).mono ?_; rintro e w1 ⟨rfl, hb⟩)
  rw [Exit.noGoto_ret]
  go_ret
  exact ⟨by rw [← HR.out]; unfold jp_paced; rw [HM.out]; rfl, hb⟩
 | true =>
  have hm := HM.out
  simp only [jp_may, Bool.and_eq_true, decide_eq_true_eq] at hm
  obtain ⟨m1, m2, m3, m4, m5, m6⟩ := hm
  have HES := Lib.hid m6
  have B1 := Lib.hid (show 0 ≤ a1 ∧ a1 ≤ 1099511627776 from ⟨m1, m2⟩)
  have B2 := Lib.hid (show 0 ≤ a2 ∧ a2 ≤ 1073741824 from ⟨m3, m4⟩)
  have B5 := Lib.hid m5
  clear m1 m2 m3 m4 m5 m6
  go_enter Try.func18, Try.ntmps18
  go_wp2
  go_step3
  go_wp2_with (go_at_call 30; refine (judge_may.calls _ _ _ _ _ _ _ _ HC.out HC0.out HF.out).mono ?_; rintro e w1 ⟨rfl, hb⟩)
  refine wp_label ?_
  go_wp2_with fail
  have HB1 := Lib.hid hb; clear hb
  go_loopw [7, 21] (fun ok i wr => ∃ k : Nat, k ≤ l0.length ∧ i = .int .i64 (k : Int) ∧ ok = .bool true ∧ Hid (jp_out a1 a2 l0 = jp_out a1 a2 (l0.drop k)) ∧ Hid (Below w.heap.size w wr)) (fun _ i _ => l0.length - (intOf i).toNat)
  case atStart => exact ⟨0, Nat.zero_le _, rfl, rfl, rfl, HB1⟩
  case round =>
   obtain ⟨k, hk, rfl, rfl, HO, HB⟩ := hrel
   by_cases hlt : k < l0.length
   ·have c1 : decide (k < l0.length) = true := decide_eq_true hlt
    have c1' : decide ((k : Int) < (l0.length : Int)) = true := decide_eq_true (by omega)
    have n1 : wrap64 (-a2) = -a2 := jp_w64 (by have := B2.out; omega) (by have := B2.out; omega)
    have HL := Lib.hid hlt
    obtain ⟨u0, hu0, _, hsz, _⟩ := info_parts info62
    have cut2 := cut_from (P := Try.prog) 33 62 .i64 Try.underlying33 hu0 2 hsz A0 l0.length c0 (k : Int) (by omega) (by omega)
    have hrow2 := Kd.C_drop (m := k) (c := c0) HC.out (by omega) HC0.out
    rw [Int.toNat_natCast] at cut2
    obtain ⟨A2, hA2⟩ : ∃ a : Option Addr, (if c0 = k then A0 else A0.map (·.add (k * 2))) = a := ⟨_, rfl⟩
    rw [hA2] at cut2
    rw [show k * (k62).sz = k * 2 from rfl, hA2] at hrow2
    obtain ⟨n2, hn2⟩ : ∃ n, l0.length - k = n := ⟨_, rfl⟩
    rw [hn2] at cut2
    have hl2 : (l0.drop k).length = n2 := by rw [List.length_drop]; exact hn2
    have HROW := Lib.hid hrow2; have HL2 := Lib.hid hl2; have HN2 := Lib.hid hn2
    obtain ⟨ad0, had0, z0, _⟩ := at_T62 HC.out (k : Int) (by omega) (by omega)
    have hg0 : rd_T62 l0 (k : Int) = l0[k] := by rw [rd_T62, Int.toNat_natCast, List.getD_eq_getElem?_getD, List.getElem?_eq_getElem hlt]; rfl
    rw [Int.toNat_natCast, hg0] at z0
    have hes := jp_es_mem l0 0 HES.out l0[k] (List.getElem_mem hlt)
    obtain ⟨at0, hat0⟩ : ∃ t : Int, l0[k].f0 = t := ⟨_, rfl⟩
    rw [hat0] at z0 hes
    have HAT := Lib.hid hat0; have HE0 := Lib.hid hes; have HZ0 := Lib.hid z0; have HAD0 := Lib.hid had0
    clear hA2 hrow2 hn2 hl2 hg0 hes hat0 z0 had0 hlt hk
    go_wp2_with fail
    rw [n1]
    go_loopg [7, 9, 30] n2 (fun m ok sm j w5 => ∃ (q : Nat) (s : Int), q + m = n2 ∧ j = .int .i64 (q : Int) ∧ ok = .bool true ∧ sm = .int .i64 s ∧ Hid (-1073741824 ≤ s ∧ s ≤ q * 1073741824) ∧ Hid (jp_in a1 at0 (-a2) (l0.drop k) = jp_in a1 at0 s (l0.drop (k + q))) ∧ Hid (Below w.heap.size w w5))
    case atStart => exact ⟨0, -a2, Nat.zero_add _, rfl, rfl, rfl, Lib.hid (by have := B2.out; omega), rfl, HB⟩
    case round =>
     obtain ⟨q, s, hq, rfl, rfl, rfl, HSB, HI, HB5⟩ := hrel
     clear HB
     by_cases hql : q < n2
     ·have d1 : decide (q < n2) = true := decide_eq_true hql
      have d1' : decide ((q : Int) < (n2 : Int)) = true := decide_eq_true (by omega)
      have hkq : k + q < l0.length := by have := HN2.out; omega
      have hrow5 := HROW.out
      rw [HL2.out] at hrow5
      obtain ⟨ad, had, x0, x1⟩ := at_T62 hrow5 (q : Int) (by omega) (by omega)
      have hgx : rd_T62 (l0.drop k) (q : Int) = l0[k + q] := by rw [rd_T62, Int.toNat_natCast, List.getD_eq_getElem?_getD, List.getElem?_drop, List.getElem?_eq_getElem hkq]; rfl
      rw [Int.toNat_natCast, hgx] at x0 x1
      have hes := jp_es_mem l0 0 HES.out l0[k + q] (List.getElem_mem hkq)
      have hge : at0 ≤ l0[k + q].f0 := by
       rw [← HAT.out]
       exact jp_es_drop l0 0 k HL.out HES.out _ (by rw [show l0[k + q] = (l0.drop k)[q]'(by rw [List.length_drop]; omega) by rw [List.getElem_drop]]; exact List.getElem_mem _)
      have hin : jp_in a1 at0 s (l0.drop (k + q)) = ((decide (s + l0[k + q].f1 ≤ jp_most a1 (l0[k + q].f0 - at0)) || decide (s + l0[k + q].f1 ≤ 0)) && jp_in a1 at0 (s + l0[k + q].f1) (l0.drop (k + (q + 1)))) := by
       rw [List.drop_eq_getElem_cons hkq, jp_in]; rfl
      obtain ⟨X, hX⟩ : ∃ X, l0[k + q] = X := ⟨_, rfl⟩
      rw [hX] at x0 x1 hes hge hin
      obtain ⟨s2, hs2⟩ : ∃ s2, s + X.f1 = s2 := ⟨_, rfl⟩
      have hsb := HSB.out
      have hB5 := B5.out
      have n2' : wrap64 (s + X.f1) = s2 := by rw [hs2]; exact jp_w64 (by omega) (by omega)
      obtain ⟨dt, hdt⟩ : ∃ dt, X.f0 - at0 = dt := ⟨_, rfl⟩
      have he0 := HE0.out
      have n3 : wrap64 (X.f0 - at0) = dt := by rw [hdt]; exact jp_w64 (by omega) (by omega)
      have n3' : IntKind.i64.wrap (X.f0 - at0) = dt := (IntWalk.i64_in _ (by omega)).trans hdt
      obtain ⟨mo, hmo⟩ : ∃ mo, jp_most a1 dt = mo := ⟨_, rfl⟩
      have hb1 := B1.out
      have HMD := Lib.hid (show seq_MulDiv.f 2 dt a1 1000000 = some (mo, 0) from by rw [jp_muldiv dt a1 1000000 (by omega) (by omega) (by omega) (by omega) (by omega) (by omega), ← hmo]; rfl)
      rw [hs2, hdt, hmo] at hin
      obtain ⟨b1, hb1'⟩ : ∃ b, decide (s2 ≤ mo) = b := ⟨_, rfl⟩
      obtain ⟨b2, hb2'⟩ : ∃ b, decide (s2 ≤ 0) = b := ⟨_, rfl⟩
      rw [hb1', hb2'] at hin
      have HIN := Lib.hid hin
      have HS2 := Lib.hid (show -1073741824 ≤ s2 ∧ s2 ≤ (q + 1 : Int) * 1073741824 from by omega)
      replace x0 := (HB5.out.cell (World.block_lt_of_cell? w _ x0)).trans x0
      replace x1 := (HB5.out.cell (World.block_lt_of_cell? w _ x1)).trans x1
      have z0 := (HB5.out.cell (World.block_lt_of_cell? w _ HZ0.out)).trans HZ0.out
      obtain rfl := had
      obtain rfl := HAD0.out
      have hblk := World.block_lt_of_cell? wr _ z0
      have HQ := Lib.hid hq; have HQL := Lib.hid hql
      clear hin hes hge hX hs2 hdt hmo hsb hb1 he0 hB5 hgx hrow5 hq hql
      go_upto_region 12 with (fail)
      obtain ⟨b6, hb6⟩ : ∃ b6, wr.heap.size = b6 := ⟨_, rfl⟩
      have h6 : (wr.alloc (.cells #[.int .i64 X.f0, .int .i64 X.f1] 62)).heap[b6]? = some (.cells #[.int .i64 X.f0, .int .i64 X.f1] 62 (0, 0)) := by rw [← hb6]; exact blk_new wr _
      have hz6 := (Below.cell (below_alloc (Below.refl wr.heap.size wr) (.cells #[.int .i64 X.f0, .int .i64 X.f1] 62)) hblk).trans z0
      have HB6 := Lib.hid (below_alloc HB5.out (.cells #[.int .i64 X.f0, .int .i64 X.f1] 62))
      rw [hb6]
      obtain ⟨W6, hW6⟩ : ∃ W6, (wr.alloc (.cells #[.int .i64 X.f0, .int .i64 X.f1] 62)) = W6 := ⟨_, rfl⟩
      rw [hW6] at h6 hz6 HB6 ⊢
      clear hW6 hb6 hblk z0 x0 x1
      have hbz := World.block_lt_of_cell? W6 _ hz6
      have KS := Lib.hid (fun (W : World) (hB : Below W6.heap.size W6 W) => show W.cell? ⟨b6, 0, none⟩ = some (.int .i64 X.f0) ∧ W.cell? (ad0.add (k * 2)) = some (.int .i64 at0) from ⟨(blk_cell (blk_below h6 hB) 0).trans rfl, (hB.cell hbz).trans hz6⟩)
      have y0 : W6.cell? ⟨b6, 0, none⟩ = some (.int .i64 X.f0) := (blk_cell h6 0).trans rfl
      clear h6 hbz
      have kl0 : (0 : Int) ≤ (k : Int) := Int.natCast_nonneg k
      have kl1 : (k : Int) < (l0.length : Int) := Int.ofNat_lt.2 HL.out
      go_region_held3 (fun W => W.cell? ⟨b6, 0, none⟩ = some (.int .i64 X.f0) ∧ W.cell? (ad0.add (k * 2)) = some (.int .i64 at0)) (exact KS.out _ (by repeat (first | with_reducible exact Below.refl _ _ | with_reducible apply below_drew1 | (with_reducible refine below_step ?_ (by assumption))))) (first
       | (go_at_call 31; refine (seq_MulDiv.calls 2 _ _ _ _ _ _ HMD.out).mono ?_; rintro e w7 ⟨rfl, hb7⟩))
      have HB7 := Lib.hid (show Below w.heap.size w w7 from by repeat (first | exact HB6.out | with_reducible apply below_drew1 | (with_reducible refine below_step ?_ hb7)))
      clear hb7 kl0 kl1
      cases b1 with
      | true =>
       go_wp2
       go_roundg (gk - 1)
       case measure => have e1 := HQL.out; have e2 := HQ.out; omega
       case rel =>
        have e1 := HQL.out
        exact ⟨q + 1, s2, by have := HQ.out; omega, by rw [jp_w64 (by have := HN2.out; have := B5.out; omega) (by have := HN2.out; have := B5.out; omega)]; rfl, by first | rfl | (simp; done), rfl, Lib.hid (by have := HS2.out; omega), Lib.hid (by rw [HI.out, HIN.out]; rfl), HB7⟩
      | false =>
       cases b2 with
       | true =>
        go_wp2
        go_roundg (gk - 1)
        case measure => have e1 := HQL.out; have e2 := HQ.out; omega
        case rel =>
         have e1 := HQL.out
         exact ⟨q + 1, s2, by have := HQ.out; omega, by rw [jp_w64 (by have := HN2.out; have := B5.out; omega) (by have := HN2.out; have := B5.out; omega)]; rfl, by first | rfl | (simp; done), rfl, Lib.hid (by have := HS2.out; omega), Lib.hid (by rw [HI.out, HIN.out]; rfl), HB7⟩
       | false =>
        go_wp2
        rw [Exit.noGoto_ret]
        go_ret
        refine ⟨?_, HB7.out⟩
        have e1 : jp_in a1 at0 (-a2) (l0.drop k) = false := by rw [HI.out, HIN.out]; rfl
        have e2 : jp_out a1 a2 (l0.drop k) = false := by
         rw [jp_out_at a1 a2 l0 k HL.out at0 HAT.out, e1]; rfl
        have e3 : r = false := by rw [← HR.out]; unfold jp_paced; rw [HO.out, e2, Bool.and_false]
        exact congrArg (fun b => Ending.returned (.bool b)) e3.symm
     ·obtain rfl : q = n2 := by omega
      have d1 : decide (q < q) = false := decide_eq_false (by omega)
      have d1' : decide ((q : Int) < (q : Int)) = false := decide_eq_false (by omega)
      go_wp2
      go_roundw
      case measure =>
       have e1 := HL.out; have e5 := B5.out
       have e2 : wrap64 ((k : Int) + 1) = ((k + 1 : Nat) : Int) := by rw [jp_w64 (by omega) (by omega)]; rfl
       have e3 : l0.length - (intOf (.int .i64 (wrap64 ((k : Int) + 1)))).toNat < l0.length - (intOf (.int .i64 (k : Int))).toNat := by
        rw [e2]
        show l0.length - ((k + 1 : Nat) : Int).toNat < l0.length - ((k : Nat) : Int).toNat
        omega
       exact e3
      case rel =>
       have e1 := HL.out; have e5 := B5.out; have e6 := HN2.out
       refine ⟨k + 1, by omega, by rw [jp_w64 (by omega) (by omega)]; rfl, rfl, Lib.hid ?_, HB5⟩
       have e2 : jp_in a1 at0 (-a2) (l0.drop k) = true := by rw [HI.out, List.drop_of_length_le (by omega)]; rfl
       rw [HO.out, jp_out_at a1 a2 l0 k HL.out at0 HAT.out, e2, Bool.true_and]
   ·obtain rfl : k = l0.length := by omega
    have c1 : decide (l0.length < l0.length) = false := decide_eq_false (by omega)
    have c1' : decide ((l0.length : Int) < (l0.length : Int)) = false := decide_eq_false (by omega)
    go_wp2
    rw [Exit.noGoto_ret]
    go_ret
    refine ⟨?_, HB.out⟩
    rw [← HR.out]; unfold jp_paced; rw [HM.out, HO.out, List.drop_of_length_le (Nat.le_refl _)]; rfl


end Go.Proofs.Ytflmfbcapccdeaa.PA

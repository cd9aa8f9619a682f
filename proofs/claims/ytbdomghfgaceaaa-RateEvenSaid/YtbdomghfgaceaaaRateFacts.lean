/- What the rate's calls answer, in plain words. -/
import Derived.Test.YtbdomghfgaceaaaPAx6
import Derived.Test.YtbdomghfgaceaaaPAx7
import Derived.Test.YtbdomghfgaceaaaPAx8
import Derived.Test.YtbdomghfgaceaaaPAx9
import Derived.Shelf.Bits.Mul64
import Derived.Shelf.Spec.BitsCarry
import Derived.Lib.Mul64
set_option linter.unusedVariables false
set_option linter.unusedSimpArgs false
set_option autoImplicit false
namespace Go.Proofs.Ytbdomghfgaceaaa.RateFacts
open Go.RowKit Go.Proofs.Ytbdomghfgaceaaa.PA Go.Proofs.YtbdomghfgaceaaaW.PrintWords Go.Proofs.YtbdomghfgaceaaaW.PrintMore
abbrev X := S33
abbrev R := S23
def WfX (x : X) : Prop := ((Lit.int .i64 x.f0).wf = true) ∧ ((Lit.int .i64 x.f1).wf = true) ∧ (True) ∧ ((Lit.int .i64 x.f3).wf = true) ∧ ((Lit.int .i64 x.f4).wf = true) ∧ (True) ∧ (True) ∧ (True) ∧ ((Lit.int .i64 x.f8).wf = true) ∧ ((Lit.int .i64 x.f9).wf = true) ∧ ((Lit.int .i64 x.f10).wf = true) ∧ (True)
def WfK (x : R) : Prop := ((Lit.int .i64 x.f0).wf = true) ∧ ((Lit.int .i64 x.f1).wf = true) ∧ ((Lit.int .i64 x.f2).wf = true) ∧ ((Lit.int .i64 x.f3).wf = true)
def WfL (l : List X) : Prop := (∀ x ∈ l, WfX x) ∧ l.length * 80 ≤ 140737488351232 ∧ l.length ≤ 9223372036854775807
theorem wf64 {c : Int} (h : (Lit.int .i64 c).wf = true) : -9223372036854775808 ≤ c ∧ c ≤ 9223372036854775807 := by simpa [Lit.wf, IntKind.min, IntKind.max, IntKind.signed, IntKind.bits] using h
theorem w64 {n : Int} (h0 : -9223372036854775808 ≤ n) (h1 : n ≤ 9223372036854775807) : wrap64 n = n := by unfold wrap64; omega
theorem up_ {α : Type} {f : Nat → Option α} (hm : ∀ k, LeO (f k) (f (k + 1))) {k0 : Nat} {r : α} (h : f k0 = some r) : ∀ k, k0 ≤ k → f k = some r := by
  intro k hk
  induction k with
  | zero => rw [← h]; congr 1; omega
  | succ k ih =>
    by_cases e : k0 = k + 1
    · rw [← e]; exact h
    · exact hm k r (ih (by omega))
theorem rmul (a b : Int) (ha : 0 ≤ a) (ha' : a < 18446744073709551616) (hb : 0 ≤ b) (hb' : b < 18446744073709551616) : bits_Mul64.f a b = some (a * b / 18446744073709551616, a * b % 18446744073709551616) := by
  obtain ⟨x, rfl⟩ := Int.eq_ofNat_of_zero_le ha
  obtain ⟨y, rfl⟩ := Int.eq_ofNat_of_zero_le hb
  have hx : x < 18446744073709551616 := by omega
  have hy : y < 18446744073709551616 := by omega
  obtain ⟨bd, bt, bw, hhi⟩ := Lib.mul64_hi x y hx hy
  have ba := Lib.half_mul_le (a := x / 4294967296) (b := y / 4294967296) (by omega) (by omega)
  have bb := Lib.half_mul_le (a := x / 4294967296) (b := y % 4294967296) (by omega) (by omega)
  have bc := Lib.half_mul_le (a := x % 4294967296) (b := y / 4294967296) (by omega) (by omega)
  have ba' : x / 4294967296 * (y / 4294967296) < 18446744073709551616 := by omega
  have bb' : x / 4294967296 * (y % 4294967296) < 18446744073709551616 := by omega
  have bc' : x % 4294967296 * (y / 4294967296) < 18446744073709551616 := by omega
  have bh1 : x / 4294967296 * (y / 4294967296) + (x / 4294967296 * (y % 4294967296) + x % 4294967296 * (y % 4294967296) / 4294967296) / 4294967296 < 18446744073709551616 := by omega
  have bh : x / 4294967296 * (y / 4294967296) + (x / 4294967296 * (y % 4294967296) + x % 4294967296 * (y % 4294967296) / 4294967296) / 4294967296 + ((x / 4294967296 * (y % 4294967296) + x % 4294967296 * (y % 4294967296) / 4294967296) % 4294967296 + x % 4294967296 * (y / 4294967296)) / 4294967296 < 18446744073709551616 := by omega
  unfold bits_Mul64.f
  simp only [Mul64.maskN x hx, Mul64.maskN y hy, Mul64.divN, Mul64.mulN, Mul64.addN, Mul64.wrapN _ bd, Mul64.wrapN _ bb', Mul64.wrapN _ bt, Mul64.maskN _ bt, Mul64.wrapN _ bc', Mul64.wrapN _ bw, Mul64.wrapN _ ba', Mul64.wrapN _ bh1, Mul64.wrapN _ bh, Mul64.wrapM (x * y)]
  rw [hhi]
  rfl
theorem mxs (a b : Int) : a ≤ mx a b ∧ b ≤ mx a b ∧ (mx a b = a ∨ mx a b = b) := by unfold mx; split <;> omega
theorem mns (a b : Int) : mn a b ≤ a ∧ mn a b ≤ b ∧ (mn a b = a ∨ mn a b = b) := by unfold mn; split <;> omega
theorem tm_iff (x : Int) : rt_tm x = true ↔ 0 ≤ x ∧ x ≤ 1125899906842624 := by unfold rt_tm; simp
theorem u64_w (n : Int) (h0 : 0 ≤ n) (h1 : n < 18446744073709551616) : IntKind.u64.wrap n = n := by
  have : IntKind.u64.wrap n = n % 18446744073709551616 := by simp [IntKind.wrap, IntKind.bits, IntKind.signed]
  rw [this]; omega
/-- MulDiv: the product, divided; at most the greatest int. -/
theorem muldiv (a b c : Int) (ha : 0 ≤ a) (ha' : a ≤ 9223372036854775807) (hb : 0 ≤ b) (hb' : b ≤ 9223372036854775807) (hc : 1 ≤ c) (hc' : c ≤ 9223372036854775807) :
    seq_MulDiv.f 2 a b c = some (mn (a * b / c) 9223372036854775807, 0) := by
  have hab : 0 ≤ a * b := Int.mul_nonneg ha hb
  have hab2 : a * b ≤ 9223372036854775807 * 9223372036854775807 := Int.mul_le_mul ha' hb' hb (by omega)
  rw [seq_MulDiv.f, if_neg (by omega), if_neg (by omega), decide_eq_false (by omega : ¬ c ≤ 0), seq_MulDiv.j0, if_neg (by decide), u64_w a ha (by omega), u64_w b hb (by omega), u64_w c (by omega) (by omega), rmul a b ha (by omega) hb (by omega)]
  simp only [Option.bind_some]
  generalize hP : a * b = p at hab hab2 ⊢
  by_cases h : p / 18446744073709551616 ≥ c
  · rw [if_pos h]
    have h2 : 9223372036854775807 ≤ p / c := by
      refine (Int.le_ediv_iff_mul_le (by omega)).2 ?_
      have h3 : c * 18446744073709551616 ≤ p := by
        have : c * 18446744073709551616 ≤ p / 18446744073709551616 * 18446744073709551616 := Int.mul_le_mul_of_nonneg_right h (by omega)
        omega
      omega
    have := mns (p / c) 9223372036854775807
    rw [show mn (p / c) 9223372036854775807 = 9223372036854775807 by omega]
  · rw [if_neg h, bits_Div64.f, if_pos (by omega)]
    simp only [Option.bind_some]
    have e : p / 18446744073709551616 * 18446744073709551616 + p % 18446744073709551616 = p := by omega
    rw [e]
    have h0 : 0 ≤ p / c := Int.ediv_nonneg hab (by omega)
    have := mns (p / c) 9223372036854775807
    rw [w64 (by omega) (by omega)]
def M : Int := 1125899906842624
theorem rec_iff (x : X) (hw : WfX x) : rt_rec x = true ↔ 0 ≤ x.f0 ∧ x.f0 ≤ x.f1 ∧ x.f1 - x.f0 ≤ 1073741824 ∧ (0 ≤ x.f8 ∧ x.f8 ≤ M) ∧ (0 ≤ x.f9 ∧ x.f9 ≤ M) ∧ (0 ≤ x.f10 ∧ x.f10 ≤ M) ∧ (0 ≤ x.f3 ∧ x.f3 ≤ M) := by
  have h0 := wf64 hw.1; have h1 := wf64 hw.2.1
  unfold rt_rec M
  simp only [List.all_cons, List.all_nil, Bool.and_true, Bool.and_eq_true, decide_eq_true_eq, tm_iff]
  constructor
  · rintro ⟨a, b, c, d⟩
    rw [w64 (by omega) (by omega)] at c
    exact ⟨a, b, c, d.1, d.2.1, d.2.2.1, d.2.2.2⟩
  · rintro ⟨a, b, c, d⟩
    rw [w64 (by omega) (by omega)]
    exact ⟨a, b, c, d.1, d.2.1, d.2.2.1, d.2.2.2⟩
theorem n_eq (x : X) (hw : WfX x) (h : rt_rec x = true) : rt_n x = x.f1 - x.f0 ∧ 0 ≤ x.f1 - x.f0 ∧ x.f1 - x.f0 ≤ 1073741824 := by
  have := (rec_iff x hw).1 h
  have h0 := wf64 hw.1; have h1 := wf64 hw.2.1
  exact ⟨by rw [rt_n, w64 (by omega) (by omega)], by omega, by omega⟩
def T (l : List X) : Int := (l.map fun x => x.f1 - x.f0).foldr (· + ·) 0
theorem T_nil : T [] = 0 := rfl
theorem T_snoc (l : List X) (x : X) : T (l ++ [x]) = T l + (x.f1 - x.f0) := by
  unfold T
  induction l with
  | nil => simp
  | cons y l ih => simp only [List.cons_append, List.map_cons, List.foldr_cons, ih]; omega
theorem T_nonneg (l : List X) (h : ∀ x ∈ l, 0 ≤ x.f1 - x.f0) : 0 ≤ T l := by
  induction l with
  | nil => exact Int.le_refl _
  | cons y l ih =>
    have h1 := ih fun x hx => h x (List.mem_cons_of_mem _ hx)
    have h2 := h y List.mem_cons_self
    show 0 ≤ (y.f1 - y.f0) + T l
    omega
theorem T_take (l : List X) (h : ∀ x ∈ l, 0 ≤ x.f1 - x.f0) (i : Nat) : T (l.take i) ≤ T l := by
  induction l generalizing i with
  | nil => simp [T]
  | cons y l ih =>
    have h2 := h y List.mem_cons_self
    have h1 := ih (fun x hx => h x (List.mem_cons_of_mem _ hx))
    cases i with
    | zero =>
      have := T_nonneg (y :: l) h
      simpa [T] using this
    | succ i =>
      have := h1 i
      show (y.f1 - y.f0) + T (l.take i) ≤ (y.f1 - y.f0) + T l
      omega
/-- What the loop over the records leaves, as far as it has come. -/
theorem fold_to (g0 : Int) (hg0 : 0 ≤ g0 ∧ g0 ≤ M) (l : List X) (hw : ∀ x ∈ l, WfX x) (hr : ∀ x ∈ l, rt_rec x = true) (k : Nat) (hk : k ≤ l.length) :
    (rt_fold g0 l ((List.finRange l.length).take k)).1 = mn (g0 + T (l.take k)) M ∧ (rt_fold g0 l ((List.finRange l.length).take k)).2.1 = mn (T (l.take k)) M ∧
    (0 < k → ∃ x ∈ l, (rt_fold g0 l ((List.finRange l.length).take k)).2.2 = x) := by
  have hN : ∀ x ∈ l, 0 ≤ x.f1 - x.f0 := fun x hx => (n_eq x (hw x hx) (hr x hx)).2.1
  have hM : M = 1125899906842624 := rfl
  induction k with
  | zero =>
    refine ⟨?_, ?_, fun h => absurd h (by omega)⟩
    · show g0 = mn (g0 + 0) M
      have := mns (g0 + 0) M
      omega
    · show (0 : Int) = mn 0 M
      have := mns 0 M
      omega
  | succ k ih =>
    have hlt : k < l.length := hk
    obtain ⟨i1, i2, i3⟩ := ih (by omega)
    have hps : (List.finRange l.length).take (k + 1) = (List.finRange l.length).take k ++ [⟨k, hlt⟩] := by
      rw [List.take_succ_eq_append_getElem (by simpa using hlt), List.getElem_finRange]; rfl
    have hx := List.getElem_mem (l := l) hlt
    obtain ⟨n1, n2, n3⟩ := n_eq l[k] (hw _ hx) (hr _ hx)
    have ht := T_nonneg (l.take k) (fun x hx => hN x (List.mem_of_mem_take hx))
    rw [hps, rt_fold_snoc, List.take_succ_eq_append_getElem hlt, T_snoc]
    generalize rt_fold g0 l ((List.finRange l.length).take k) = s at i1 i2 i3 ⊢
    have a1 := mns (g0 + T (l.take k)) M
    have a2 := mns (T (l.take k)) M
    have e : rt_n l[(⟨k, hlt⟩ : Fin l.length)] = l[k].f1 - l[k].f0 := n1
    generalize hn : l[k].f1 - l[k].f0 = n at n2 n3 e ⊢
    have b1 := mns (g0 + (T (l.take k) + n)) M
    have b2 := mns (T (l.take k) + n) M
    simp only [rt_step, e, i1, i2]
    refine ⟨?_, ?_, fun _ => ?_⟩
    · rw [w64 (by omega) (by omega)]
      have := mns 1125899906842624 (mn (g0 + T (l.take k)) M + n)
      omega
    · rw [w64 (by omega) (by omega)]
      have := mns 1125899906842624 (mn (T (l.take k)) M + n)
      omega
    · split
      · exact ⟨l[k], hx, rfl⟩
      · rename_i h0
        have hk0 : 0 < k := by
          rcases Nat.eq_zero_or_pos k with h | h
          · exact absurd (Or.inl h) h0
          · exact h
        exact i3 hk0
theorem fold_all (g0 : Int) (hg0 : 0 ≤ g0 ∧ g0 ≤ M) (l : List X) (hw : ∀ x ∈ l, WfX x) (hr : ∀ x ∈ l, rt_rec x = true) :
    ∃ g a o, rt_fold g0 l (List.finRange l.length) = (g, a, o) ∧ g = mn (g0 + T l) M ∧ a = mn (T l) M ∧ (0 < l.length → o ∈ l) := by
  obtain ⟨h1, h2, h3⟩ := fold_to g0 hg0 l hw hr l.length (Nat.le_refl _)
  rw [List.take_of_length_le (by simp), List.take_of_length_le (Nat.le_refl _)] at h1 h2
  rw [List.take_of_length_le (by simp)] at h3
  exact ⟨_, _, _, rfl, h1, h2, fun h => by obtain ⟨x, hx, e⟩ := h3 h; show (rt_fold g0 l (List.finRange l.length)).2.2 ∈ l; rw [e]; exact hx⟩
/-- The rate of a sample. -/
def rate (g : Int) (x : X) (now low : Int) : Int := if rt_t x now ≥ mx 1 low ∧ x.f8 < g then mn ((g - x.f8) * 1000000 / rt_t x now) 9223372036854775807 else 0
theorem rate_eq (g : Int) (x : X) (now low : Int) (hw : WfX x) (hr : rt_rec x = true) (hg : 0 ≤ g ∧ g ≤ M) (hn : 0 ≤ now ∧ now ≤ M) (hl : 0 ≤ low ∧ low ≤ M) : rt_rate g x now low = some (rate g x now low) := by
  obtain ⟨r0, r1, r2, r3, r4, r5, r6⟩ := (rec_iff x hw).1 hr
  have hM : M = 1125899906842624 := rfl
  unfold rt_rate rate
  split
  · rename_i h
    have hm := mxs 1 low
    have ht : rt_t x now = mx (x.f3 - x.f10) (now - x.f9) := by rw [rt_t, w64 (by omega) (by omega), w64 (by omega) (by omega)]
    have ht2 := mxs (x.f3 - x.f10) (now - x.f9)
    rw [w64 (by omega) (by omega), muldiv (g - x.f8) 1000000 (rt_t x now) (by omega) (by omega) (by omega) (by omega) (by omega) (by omega)]
    rfl
  · rfl
theorem rate_nonneg (g : Int) (x : X) (now low : Int) : 0 ≤ rate g x now low := by
  unfold rate
  split
  · rename_i h
    have hm := mxs 1 low
    have h0 : 0 ≤ (g - x.f8) * 1000000 / rt_t x now := Int.ediv_nonneg (by omega) (by omega)
    have := mns ((g - x.f8) * 1000000 / rt_t x now) 9223372036854775807
    omega
  · exact Int.le_refl _
theorem chk_iff (q : R) : rt_chk q = 0 ↔ (0 ≤ q.f0 ∧ q.f0 ≤ M) ∧ (0 ≤ q.f1 ∧ q.f1 ≤ M) ∧ (0 ≤ q.f2 ∧ q.f2 ≤ M) ∧ (0 ≤ q.f3 ∧ q.f3 ≤ M) := by
  unfold rt_chk M
  simp only [List.all_cons, List.all_nil, Bool.and_true, Bool.and_eq_true, tm_iff]
  split
  · rename_i h; exact ⟨fun _ => h, fun _ => rfl⟩
  · rename_i h; exact ⟨fun h2 => absurd h2 (by decide), fun h2 => absurd h2 h⟩
theorem chk_no (q : R) (h : rt_chk q ≠ 0) : rt_chk q = 230 := by
  unfold rt_chk at h ⊢
  split
  · rename_i h2; rw [if_pos h2] at h; exact absurd rfl h
  · rfl
abbrev Out := Int × Int × Int × Int × Int × Int × Int × Int × Bool × Int × Int × Int × Int
def bad (e : Int) : Out := (0, 0, 0, 0, 0, 0, 0, 0, false, 0, 0, 0, e)
/-- rate.Given refuses. -/
theorem given_state (q : R) (l : List X) (now low : Int) (h : rt_chk q ≠ 0) : rate_Given.f q.f0 q.f1 q.f2 q.f3 l now low = some (bad 230) := by
  rw [rate_Given.f, if_neg h, chk_no _ h]; rfl
def Tm (x : Int) : Prop := 0 ≤ x ∧ x ≤ M
theorem given_arg (q : R) (l : List X) (now low : Int) (h : rt_chk q = 0) (ht : ¬ (Tm now ∧ Tm low)) : rate_Given.f q.f0 q.f1 q.f2 q.f3 l now low = some (bad 2) := by
  rw [rate_Given.f, if_pos h, if_neg]
  · rfl
  · intro h2
    simp only [List.all_cons, List.all_nil, Bool.and_true, Bool.and_eq_true, tm_iff] at h2
    exact ht h2
theorem given_recs (q : R) (l : List X) (now low : Int) (h : rt_chk q = 0) (ht : Tm now ∧ Tm low) (hr : ¬ l.all rt_rec = true) : rate_Given.f q.f0 q.f1 q.f2 q.f3 l now low = some (bad 2) := by
  rw [rate_Given.f, if_pos h, if_pos, if_neg hr]
  · rfl
  · simp only [List.all_cons, List.all_nil, Bool.and_true, Bool.and_eq_true, tm_iff]
    exact ht
/-- rate.Given answers: what came before, what was delivered, and the one that counts. -/
theorem given_ok (q : R) (l : List X) (now low : Int) (h : rt_chk q = 0) (hn : Tm now) (hl : Tm low) (hr : l.all rt_rec = true) (hw : ∀ x ∈ l, WfX x) : ∃ g a o, g = mn (q.f0 + T l) M ∧ a = mn (T l) M ∧ (0 < l.length → o ∈ l) ∧
    rate_Given.f q.f0 q.f1 q.f2 q.f3 l now low = some (if l.length = 0 then (g, q.f1, q.f2, q.f3, now, a, 0, 0, false, g, 0, 0, 0) else (g, now, o.f3, (if q.f3 < g then 0 else q.f3), now, a, rt_rtt o now, rate g o now low, o.f11, g, o.f8, 0, 0)) ∧
    rt_fold q.f0 l (List.finRange l.length) = (g, a, o) := by
  have hq := (chk_iff q).1 h
  have hr' : ∀ x ∈ l, rt_rec x = true := fun x hx => List.all_eq_true.1 hr x hx
  have hN : ∀ x ∈ l, 0 ≤ x.f1 - x.f0 := fun x hx => (n_eq x (hw x hx) (hr' x hx)).2.1
  obtain ⟨g, a, o, e, h1, h2, h3⟩ := fold_all q.f0 hq.1 l hw hr'
  refine ⟨g, a, o, h1, h2, h3, ?_, e⟩
  have hT := T_nonneg l hN
  have hM : M = 1125899906842624 := rfl
  have hm := mns (q.f0 + T l) M
  rw [rate_Given.f, if_pos h, if_pos, if_pos hr, e]
  · by_cases h0 : l.length = 0
    · rw [if_pos h0, if_pos h0]
    · rw [if_neg h0, if_neg h0]
      have ho := h3 (by omega)
      rw [rate_eq g o now low (hw o ho) (hr' o ho) (by omega) hn hl]
      rfl
  · simp only [List.all_cons, List.all_nil, Bool.and_true, Bool.and_eq_true, tm_iff]
    exact ⟨hn, hl⟩
theorem heads : tidewaylaw17_heads.f = some true := rfl
end Go.Proofs.Ytbdomghfgaceaaa.RateFacts

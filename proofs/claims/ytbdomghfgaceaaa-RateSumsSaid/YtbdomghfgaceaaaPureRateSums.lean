/- What is delivered adds up, and no sample is faster than what came in its time. -/
import Derived.Test.YtbdomghfgaceaaaRateFacts
import Derived.Test.YtbdomghfgaceaaaPAx12
set_option linter.unusedVariables false
set_option linter.unusedSimpArgs false
set_option autoImplicit false
namespace Go.Proofs.Ytbdomghfgaceaaa.Pure
open Go.RowKit Go.Proofs.Ytbdomghfgaceaaa.PA Go.Proofs.YtbdomghfgaceaaaW.PrintWords Go.Proofs.YtbdomghfgaceaaaW.PrintMore Go.Proofs.Ytbdomghfgaceaaa.RateFacts
theorem sums_end (q r : R) (l : List X) (now s sg rt ra : Int) (id : Bool) (b f : Int) (k : Nat) (hk : 10 ≤ k) (hsum : mn s 1125899906842624 = sg) (hg : r.f0 = mn (wrap64 (q.f0 + sg)) 1125899906842624) (hr : 0 ≤ ra) (h0 : 0 ≤ rt) (h1 : rt ≤ now) (h2 : l.length = 0 → ra = 0) (hc : rt_chk r = 0) (gv : Int) :
    tidewaylaw17_RateSums.j1 k l now s q.f0 q.f1 q.f2 q.f3 r.f0 r.f1 r.f2 r.f3 now sg rt ra id gv b f = some true := by
  obtain ⟨k, rfl⟩ : ∃ m, k = m + 1 := ⟨k - 1, by omega⟩
  have hchk : rate_Check.f k r.f0 r.f1 r.f2 r.f3 = some 0 := up_ (f := fun k => rate_Check.f k r.f0 r.f1 r.f2 r.f3) (fun k => rate_Check.mono _ _ _ _ k) ((rt_chk_f r).trans (congrArg some hc)) k (by omega)
  rw [tidewaylaw17_RateSums.j1, hsum, if_pos rfl, if_pos hg, if_pos hr, if_pos h0, if_pos h1, hchk]
  simp only [Option.bind_some, if_true, heads]
  split
  · rfl
  · rename_i h
    rw [if_pos (h2 (by omega))]
theorem sums_loop (q r : R) (l : List X) (hlen : l.length ≤ 1759218604440) (hN : ∀ x ∈ l, 0 ≤ x.f1 - x.f0 ∧ x.f1 - x.f0 ≤ 1073741824 ∧ 0 ≤ x.f0 ∧ x.f1 ≤ 9223372036854775807) (now sg rt ra : Int) (id : Bool) (gv b f : Int) (hsum : sg = mn (T l) M) (hg : r.f0 = mn (wrap64 (q.f0 + sg)) 1125899906842624) (hr : 0 ≤ ra) (h0 : 0 ≤ rt) (h1 : rt ≤ now) (h2 : l.length = 0 → ra = 0) (hc : rt_chk r = 0) (d : Nat) :
    ∀ i : Nat, i + d = l.length → ∀ k, 11 + d ≤ k → tidewaylaw17_RateSums.l0 k l now (T (l.take i)) (i : Int) q.f0 q.f1 q.f2 q.f3 r.f0 r.f1 r.f2 r.f3 now sg rt ra id gv b f = some true := by
  have hM : M = 1125899906842624 := rfl
  have hNN : ∀ x ∈ l, 0 ≤ x.f1 - x.f0 := fun x hx => (hN x hx).1
  induction d with
  | zero =>
    intro i hi k hk
    obtain ⟨k, rfl⟩ : ∃ m, k = m + 1 := ⟨k - 1, by omega⟩
    rw [tidewaylaw17_RateSums.l0, if_neg (by omega)]
    rw [List.take_of_length_le (by omega)]
    exact sums_end q r l now _ sg rt ra id b f k (by omega) (by rw [hsum, hM]) hg hr h0 h1 h2 hc gv
  | succ d ih =>
    intro i hi k hk
    obtain ⟨k, rfl⟩ : ∃ m, k = m + 1 := ⟨k - 1, by omega⟩
    have hlt : i < l.length := by omega
    have ih := ih (i + 1) (by omega) k (by omega)
    have hx := List.getElem_mem (l := l) hlt
    rw [List.take_succ_eq_append_getElem hlt, T_snoc] at ih
    have ht := T_nonneg (l.take i) (fun x hx => hNN x (List.mem_of_mem_take hx))
    rw [tidewaylaw17_RateSums.l0, if_pos (by omega)]
    by_cases h : T (l.take i) < 1125899906842624
    · have e1 : rd_T33 l (i : Int) = l[i] := by rw [rd_T33, Int.toNat_natCast, List.getD_eq_getElem?_getD, List.getElem?_eq_getElem hlt]; rfl
      have n1 := hN _ hx
      rw [if_pos h, if_pos (Int.natCast_nonneg i), e1]
      have w2 : wrap64 (wrap64 (T (l.take i) + l[i].f1) - l[i].f0) = T (l.take i) + (l[i].f1 - l[i].f0) := by
        generalize T (l.take i) = t at ht h ⊢
        generalize l[i].f1 = b at n1 ⊢
        generalize l[i].f0 = a at n1 ⊢
        unfold wrap64
        omega
      have w3 : wrap64 ((i : Int) + 1) = ((i + 1 : Nat) : Int) := by rw [w64 (by omega) (by omega)]; rfl
      rw [w2, w3]
      exact ih
    · rw [if_neg h]
      have htt := T_take l hNN i
      have a1 := mns (T (l.take i)) 1125899906842624; have a2 := mns (T l) M
      exact sums_end q r l now _ sg rt ra id b f k (by omega) (by omega) hg hr h0 h1 h2 hc gv
theorem RateSums (q : R) (l : List X) (now low : Int) (w0 : WfK q) (w1 : WfL l) (w2 : (Lit.int .i64 now).wf = true) (w3 : (Lit.int .i64 low).wf = true) :
    ∃ k, tidewaylaw17_RateSums.f k q.f0 q.f1 q.f2 q.f3 l now low = some true := by
  by_cases h1 : rt_chk q = 0
  · by_cases h2 : Tm now ∧ Tm low
    · by_cases h3 : l.all rt_rec = true
      · obtain ⟨g, a, o, hg, ha, ho, e1, e0⟩ := given_ok q l now low h1 h2.1 h2.2 h3 w1.1
        have hr' : ∀ x ∈ l, rt_rec x = true := fun x hx => List.all_eq_true.1 h3 x hx
        have hN : ∀ x ∈ l, 0 ≤ x.f1 - x.f0 ∧ x.f1 - x.f0 ≤ 1073741824 ∧ 0 ≤ x.f0 ∧ x.f1 ≤ 9223372036854775807 := fun x hx => by
          have b1 := (rec_iff x (w1.1 x hx)).1 (hr' x hx)
          have b2 := wf64 (w1.1 x hx).2.1
          omega
        have hq := (chk_iff q).1 h1
        have hT := T_nonneg l fun x hx => (hN x hx).1
        have hM : M = 1125899906842624 := rfl
        have hlen : l.length ≤ 1759218604440 := by have := w1.2.1; omega
        have m1 := mns (q.f0 + T l) M; have m2 := mns (T l) M
        have hgg : g = mn (wrap64 (q.f0 + a)) 1125899906842624 := by
          rw [w64 (by omega) (by omega)]
          have m3 := mns (q.f0 + a) 1125899906842624
          omega
        have hn := h2.1
        have htake : T (l.take 0) = 0 := rfl
        refine ⟨11 + l.length, ?_⟩
        rw [tidewaylaw17_RateSums.f, e1]
        simp only [Option.bind_some]
        by_cases h5 : l.length = 0
        · simp only [if_pos h5]
          have hc : rt_chk (⟨g, q.f1, q.f2, q.f3⟩ : R) = 0 := (chk_iff _).2 ⟨by show 0 ≤ g ∧ g ≤ M; omega, hq.2.1, hq.2.2.1, hq.2.2.2⟩
          have := sums_loop q (⟨g, q.f1, q.f2, q.f3⟩ : R) l hlen hN now a 0 0 false g 0 0 ha hgg (by omega) (by omega) hn.1 (fun _ => rfl) hc l.length 0 (by omega) (11 + l.length) (by omega)
          rw [htake] at this
          simpa using this
        · simp only [if_neg h5]
          have hoo := ho (by omega)
          have b1 := (rec_iff o (w1.1 o hoo)).1 (hr' o hoo)
          have hc : rt_chk (⟨g, now, o.f3, (if q.f3 < g then 0 else q.f3)⟩ : R) = 0 := (chk_iff _).2 ⟨by show 0 ≤ g ∧ g ≤ M; omega, h2.1, b1.2.2.2.2.2.2, by
            show 0 ≤ (if q.f3 < g then 0 else q.f3) ∧ (if q.f3 < g then 0 else q.f3) ≤ M
            split <;> omega⟩
          have hrtt : 0 ≤ rt_rtt o now ∧ rt_rtt o now ≤ now := by
            unfold rt_rtt
            have hnn := h2.1
            unfold Tm at hnn
            split
            · rw [w64 (by omega) (by omega)]
              have := mxs 0 (now - o.f3)
              omega
            · omega
          have := sums_loop q (⟨g, now, o.f3, (if q.f3 < g then 0 else q.f3)⟩ : R) l hlen hN now a (rt_rtt o now) (RateFacts.rate g o now low) o.f11 g o.f8 0 ha hgg (rate_nonneg _ _ _ _) hrtt.1 hrtt.2 (fun h => absurd h h5) hc l.length 0 (by omega) (11 + l.length) (by omega)
          rw [htake] at this
          simpa using this
      · exact ⟨1, by rw [tidewaylaw17_RateSums.f, given_recs q l now low h1 h2 h3]; simp [bad, heads]⟩
    · exact ⟨1, by rw [tidewaylaw17_RateSums.f, given_arg q l now low h1 h2]; simp [bad, heads]⟩
  · exact ⟨1, by rw [tidewaylaw17_RateSums.f, given_state q l now low h1]; simp [bad, heads]⟩
end Go.Proofs.Ytbdomghfgaceaaa.Pure

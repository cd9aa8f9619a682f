/- A path that delivers evenly, in plain words: what the sampler and the records hold after so many rounds. -/
import Derived.Test.YtbdomghfgaceaaaRateFacts
set_option linter.unusedVariables false
set_option linter.unusedSimpArgs false
set_option autoImplicit false
namespace Go.Proofs.Ytbdomghfgaceaaa.RateEvenF
open Go.RowKit Go.Proofs.Ytbdomghfgaceaaa.PA Go.Proofs.YtbdomghfgaceaaaW.PrintWords Go.Proofs.YtbdomghfgaceaaaW.PrintMore Go.Proofs.Ytbdomghfgaceaaa.RateFacts
/-- The sampler after i rounds. -/
def ev_q (s g : Int) (D i : Nat) : R := if i ≤ D then ⟨0, 0, 0, 0⟩ else ⟨((i : Int) - D) * s, ((i : Int) - 1) * g, ((i : Int) - 1 - D) * g, 0⟩
/-- The record of round i. -/
def ev_x (s g : Int) (D i : Nat) : X := ⟨(i : Int) * s, ((i : Int) + 1) * s, false, (i : Int) * g, 1, false, false, false, (ev_q s g D (i + 1)).f0, (ev_q s g D (i + 1)).f1, (ev_q s g D (i + 1)).f2, false⟩
theorem mulb (a s : Int) (h0 : 0 ≤ a) (h1 : a ≤ 200) (h2 : 0 ≤ s) (h3 : s ≤ 100000) : 0 ≤ a * s ∧ a * s ≤ 20000000 :=
  ⟨Int.mul_nonneg h0 h2, by have := Int.mul_le_mul h1 h3 h2 (by omega : (0 : Int) ≤ 200); omega⟩
theorem ev_q_b (s g : Int) (D i : Nat) (hs : 0 ≤ s ∧ s ≤ 10000) (hg : 0 ≤ g ∧ g ≤ 100000) (hi : i ≤ 110) : (0 ≤ (ev_q s g D i).f0 ∧ (ev_q s g D i).f0 ≤ 20000000) ∧ (0 ≤ (ev_q s g D i).f1 ∧ (ev_q s g D i).f1 ≤ 20000000) ∧ (0 ≤ (ev_q s g D i).f2 ∧ (ev_q s g D i).f2 ≤ 20000000) ∧ (ev_q s g D i).f3 = 0 := by
  unfold ev_q
  split
  · exact ⟨by decide, by decide, by decide, rfl⟩
  · exact ⟨mulb _ s (by omega) (by omega) (by omega) (by omega), mulb _ g (by omega) (by omega) (by omega) (by omega), mulb _ g (by omega) (by omega) (by omega) (by omega), rfl⟩
theorem ev_chk (s g : Int) (D i : Nat) (hs : 0 ≤ s ∧ s ≤ 10000) (hg : 0 ≤ g ∧ g ≤ 100000) (hi : i ≤ 110) : rt_chk (ev_q s g D i) = 0 := by
  have := ev_q_b s g D i hs hg hi
  rw [chk_iff]; unfold M; omega
theorem mulS (i : Nat) (s : Int) : ((i : Int) + 1) * s = i * s + s := by rw [Int.add_mul, Int.one_mul]
theorem ev_wf (s g : Int) (D i : Nat) (hs : 0 ≤ s ∧ s ≤ 10000) (hg : 0 ≤ g ∧ g ≤ 100000) (hi : i ≤ 109) : WfX (ev_x s g D i) := by
  have hq := ev_q_b s g D (i + 1) hs hg (by omega)
  have h1 := mulb (i : Int) s (by omega) (by omega) hs.1 (by omega)
  have h2 := mulb (i : Int) g (by omega) (by omega) hg.1 (by omega)
  have h3 := mulb ((i : Int) + 1) s (by omega) (by omega) hs.1 (by omega)
  have wf : ∀ c : Int, 0 ≤ c ∧ c ≤ 20000000 → (Lit.int .i64 c).wf = true := fun c hc => by
    simp [Lit.wf, IntKind.min, IntKind.max, IntKind.signed, IntKind.bits]; omega
  exact ⟨wf _ h1, wf _ h3, trivial, wf _ h2, wf _ (show (0 : Int) ≤ 1 ∧ (1 : Int) ≤ 20000000 by decide), trivial, trivial, trivial, wf _ hq.1, wf _ hq.2.1, wf _ hq.2.2.1, trivial⟩
theorem ev_rec (s g : Int) (D i : Nat) (hs : 0 ≤ s ∧ s ≤ 10000) (hg : 0 ≤ g ∧ g ≤ 100000) (hi : i ≤ 109) : rt_rec (ev_x s g D i) = true := by
  have hq := ev_q_b s g D (i + 1) hs hg (by omega)
  have h1 := mulb (i : Int) s (by omega) (by omega) hs.1 (by omega)
  have h2 := mulb (i : Int) g (by omega) (by omega) hg.1 (by omega)
  rw [rec_iff _ (ev_wf s g D i hs hg hi)]
  unfold M
  show 0 ≤ (i : Int) * s ∧ (i : Int) * s ≤ ((i : Int) + 1) * s ∧ ((i : Int) + 1) * s - (i : Int) * s ≤ 1073741824 ∧ (0 ≤ (ev_q s g D (i + 1)).f0 ∧ (ev_q s g D (i + 1)).f0 ≤ 1125899906842624) ∧ (0 ≤ (ev_q s g D (i + 1)).f1 ∧ (ev_q s g D (i + 1)).f1 ≤ 1125899906842624) ∧ (0 ≤ (ev_q s g D (i + 1)).f2 ∧ (ev_q s g D (i + 1)).f2 ≤ 1125899906842624) ∧ (0 ≤ (i : Int) * g ∧ (i : Int) * g ≤ 1125899906842624)
  rw [mulS]
  omega
/-- What is delivered in round D + j. -/
theorem ev_given (s g : Int) (D j : Nat) (hs : 1 ≤ s ∧ s ≤ 10000) (hg : 1 ≤ g ∧ g ≤ 100000) (hD : 1 ≤ D ∧ D ≤ 50) (hi : D + j ≤ 109) : ∃ rt b, rate_Given.f (ev_q s g D (D + j)).f0 (ev_q s g D (D + j)).f1 (ev_q s g D (D + j)).f2 (ev_q s g D (D + j)).f3 [ev_x s g D j] (((D + j : Nat) : Int) * g) 0 =
      some ((ev_q s g D (D + j + 1)).f0, (ev_q s g D (D + j + 1)).f1, (ev_q s g D (D + j + 1)).f2, (ev_q s g D (D + j + 1)).f3, ((D + j : Nat) : Int) * g, s, (D : Int) * g, rt, false, (ev_q s g D (D + j + 1)).f0, b, 0, 0) ∧ (D + 1 ≤ j → rt = s * 1000000 / g) := by
  have hs' : 0 ≤ s ∧ s ≤ 10000 := by omega
  have hg' : 0 ≤ g ∧ g ≤ 100000 := by omega
  have hq := ev_q_b s g D (D + j) hs' hg' (by omega)
  have hw := ev_wf s g D j hs' hg' (by omega)
  have hr := ev_rec s g D j hs' hg' (by omega)
  have ha := mulb (D : Int) g (by omega) (by omega) hg'.1 (by omega)
  have hb := mulb (j : Int) g (by omega) (by omega) hg'.1 (by omega)
  have hc := mulb (D : Int) s (by omega) (by omega) hs'.1 (by omega)
  have hd := mulb (j : Int) s (by omega) (by omega) hs'.1 (by omega)
  have hM : M = 1125899906842624 := rfl
  have e1 : ((D + j : Nat) : Int) * g = D * g + j * g := by rw [Int.natCast_add, Int.add_mul]
  have hg0 : 0 < (D : Int) * g := Int.mul_pos (by omega) (by omega)
  have hc0 : 0 < (D : Int) * s := Int.mul_pos (by omega) (by omega)
  obtain ⟨G, A, o, h1, h2, h3, h4, _⟩ := given_ok (ev_q s g D (D + j)) [ev_x s g D j] (((D + j : Nat) : Int) * g) 0 (ev_chk s g D (D + j) hs' hg' (by omega)) (by unfold Tm; rw [e1]; omega) (by unfold Tm; omega) (by simp [hr]) (by intro x hx; obtain rfl := List.mem_singleton.1 hx; exact hw)
  obtain rfl : o = ev_x s g D j := List.mem_singleton.1 (h3 (by simp))
  have hT : T [ev_x s g D j] = s := by
    show ((j : Int) + 1) * s - (j : Int) * s + 0 = s
    rw [mulS]; omega
  rw [hT] at h1 h2
  have hq1 : ev_q s g D (D + j + 1) = ⟨(j : Int) * s + s, D * g + j * g, j * g, 0⟩ := by
    rw [ev_q, if_neg (by omega)]
    congr 1
    · rw [show (((D + j + 1 : Nat) : Int) - D) = (j : Int) + 1 by omega, mulS]
    · rw [show (((D + j + 1 : Nat) : Int) - 1) = ((D + j : Nat) : Int) by omega, e1]
    · rw [show (((D + j + 1 : Nat) : Int) - 1 - D) = (j : Int) by omega]
  have hq0 : (ev_q s g D (D + j)).f0 = j * s := by
    unfold ev_q
    split
    · have : j = 0 := by omega
      subst this; simp
    · show (((D + j : Nat) : Int) - D) * s = j * s
      rw [show (((D + j : Nat) : Int) - D) = (j : Int) by omega]
  have hG : G = j * s + s := by
    have := mns (j * s + s) M
    rw [h1, hq0]; omega
  have hA : A = s := by
    have := mns s M
    rw [h2]; omega
  have hrt : rt_rtt (ev_x s g D j) (((D + j : Nat) : Int) * g) = D * g := by
    unfold rt_rtt
    rw [if_pos (show (ev_x s g D j).f4 = 1 from rfl)]
    show mx 0 (wrap64 (((D + j : Nat) : Int) * g - (j : Int) * g)) = D * g
    rw [e1, w64 (by omega) (by omega)]
    have := mxs 0 ((D : Int) * g + j * g - j * g)
    omega
  rw [if_neg (by simp), hrt, hG, hA, hq.2.2.2] at h4
  refine ⟨rate ((j : Int) * s + s) (ev_x s g D j) (((D + j : Nat) : Int) * g) 0, (ev_x s g D j).f8, ?_, fun hj => ?_⟩
  · rw [hq.2.2.2, h4, hq1]
    have e0 : (if (0 : Int) < (j : Int) * s + s then (0 : Int) else 0) = 0 := by split <;> rfl
    rw [e0, e1]; rfl
  · have hqj : ev_q s g D (j + 1) = ⟨((j : Int) + 1 - D) * s, (j : Int) * g, ((j : Int) - D) * g, 0⟩ := by
      rw [ev_q, if_neg (by omega)]
      congr 1
      · rw [show (((j + 1 : Nat) : Int) - 1) = (j : Int) by omega]
      · rw [show (((j + 1 : Nat) : Int) - 1 - D) = (j : Int) - D by omega]
    have f8 : (ev_x s g D j).f8 = j * s + s - D * s := by
      show (ev_q s g D (j + 1)).f0 = _
      rw [hqj]
      show ((j : Int) + 1 - D) * s = _
      rw [Int.sub_mul, mulS]
    have ht : rt_t (ev_x s g D j) (((D + j : Nat) : Int) * g) = D * g := by
      unfold rt_t
      show mx (wrap64 ((j : Int) * g - (ev_q s g D (j + 1)).f2)) (wrap64 (((D + j : Nat) : Int) * g - (ev_q s g D (j + 1)).f1)) = _
      rw [hqj]
      show mx (wrap64 ((j : Int) * g - ((j : Int) - D) * g)) (wrap64 (((D + j : Nat) : Int) * g - (j : Int) * g)) = _
      rw [Int.sub_mul, e1, w64 (by omega) (by omega), w64 (by omega) (by omega)]
      have := mxs ((j : Int) * g - (j * g - D * g)) (D * g + j * g - j * g)
      omega
    unfold rate
    rw [ht, f8]
    have hm : mx 1 0 = 1 := rfl
    rw [if_pos ⟨by rw [hm]; omega, by omega⟩]
    rw [show ((j : Int) * s + s - (j * s + s - D * s)) = D * s by omega, Int.mul_assoc, Int.mul_ediv_mul_of_pos _ _ (by omega : (0 : Int) < D)]
    have h5 : s * 1000000 / g ≤ s * 1000000 := Int.ediv_le_self _ (by omega)
    have := mns (s * 1000000 / g) 9223372036854775807
    omega
/-- What is sent in a round. -/
theorem ev_sent (s g : Int) (D i : Nat) (hs : 1 ≤ s ∧ s ≤ 10000) (hg : 1 ≤ g ∧ g ≤ 100000) (hD : 1 ≤ D ∧ D ≤ 50) (hi : i ≤ 109) (b : Bool) (hb : b = true → i = 0) :
    rate_Sent.f 9 (ev_q s g D (i + 1)).f0 (ev_q s g D (i + 1)).f1 (ev_q s g D (i + 1)).f2 (ev_q s g D (i + 1)).f3 ((i : Int) * s) (((i : Int) + 1) * s) false ((i : Int) * g) 1 false false false 0 0 0 false ((i : Int) * g) b =
      some ((ev_q s g D (i + 1)).f0, (ev_q s g D (i + 1)).f1, (ev_q s g D (i + 1)).f2, (ev_q s g D (i + 1)).f3, (i : Int) * s, ((i : Int) + 1) * s, false, (i : Int) * g, 1, false, false, false, (ev_q s g D (i + 1)).f0, (ev_q s g D (i + 1)).f1, (ev_q s g D (i + 1)).f2, false, 0) := by
  have hs' : 0 ≤ s ∧ s ≤ 10000 := by omega
  have hg' : 0 ≤ g ∧ g ≤ 100000 := by omega
  have hq := ev_q_b s g D (i + 1) hs' hg' (by omega)
  have h1 := mulb (i : Int) s (by omega) (by omega) hs'.1 (by omega)
  have h2 := mulb (i : Int) g (by omega) (by omega) hg'.1 (by omega)
  have hx : rt_rec (⟨(i : Int) * s, ((i : Int) + 1) * s, false, (i : Int) * g, 1, false, false, false, 0, 0, 0, false⟩ : X) = true := by
    unfold rt_rec
    simp only [List.all_cons, List.all_nil, Bool.and_true, Bool.and_eq_true, decide_eq_true_eq, tm_iff]
    rw [mulS, w64 (by omega) (by omega)]
    omega
  rw [rate_Sent.f, rt_chk_f (ev_q s g D (i + 1)), ev_chk s g D (i + 1) hs' hg' (by omega)]
  simp only [Option.bind_some, if_true]
  rw [rt_time_f [(i : Int) * g] (by simp)]
  have hn : rt_tm ((i : Int) * g) = true := by rw [tm_iff]; omega
  simp only [Option.bind_some, List.all_cons, List.all_nil, Bool.and_true, hn, if_true]
  rw [rt_rec_f (⟨(i : Int) * s, ((i : Int) + 1) * s, false, (i : Int) * g, 1, false, false, false, 0, 0, 0, false⟩ : X), hx]
  have hq3 := hq.2.2.2
  cases b with
  | false => rw [hq3]; rfl
  | true =>
    obtain rfl := hb rfl
    have hq1 : ev_q s g D (0 + 1) = ⟨0, 0, 0, 0⟩ := by rw [ev_q, if_pos (by omega)]
    rw [hq1]
    have e : ((0 : Nat) : Int) * g = 0 := by simp
    rw [e]; rfl
end Go.Proofs.Ytbdomghfgaceaaa.RateEvenF

namespace Go.Proofs.Ytflmfbcapccdeaa.SumPlain

/-! ### Words, sums: no program in sight -/
def joinN (a b : Int) : Int := if a + b > 65535 then a + b - 65535 else a + b
def norm (n : Int) : Int := if n = 0 then 0 else (n - 1) % 65535 + 1
theorem norm_bd {n : Int} (_h : 0 ≤ n) : 0 ≤ norm n ∧ norm n ≤ 65535 := by unfold norm; split <;> omega
theorem join_norm {a b : Int} (ha : 0 ≤ a) (hb : 0 ≤ b) (hb1 : b ≤ 65535) : joinN (norm a) b = norm (a + b) := by
  unfold joinN norm
  (repeat' split) <;> omega
def wsum : Bool → List Int → Int
  | _, [] => 0
  | p, c :: r => c * (if p then 256 else 1) + wsum (!p) r
def byts (l : List Int) : Prop := ∀ c ∈ l, 0 ≤ c ∧ c ≤ 255
def par (p : Bool) (n : Nat) : Bool := if n % 2 = 0 then p else !p
theorem par_succ (p : Bool) (n : Nat) : par (!p) n = par p (n + 1) := by
  unfold par
  by_cases h : n % 2 = 0
  · have : ¬ (n + 1) % 2 = 0 := by omega
    simp [h, this]
  · have : (n + 1) % 2 = 0 := by omega
    simp [h, this]
theorem wsum_nonneg : ∀ (p : Bool) (l : List Int), byts l → 0 ≤ wsum p l
  | _, [], _ => by simp [wsum]
  | p, c :: r, h => by
    rw [wsum]
    have h1 := h c List.mem_cons_self
    have h2 := wsum_nonneg (!p) r (fun x hx => h x (List.mem_cons_of_mem _ hx))
    cases p <;> simp only [if_true, if_false, Bool.false_eq_true] <;> omega
theorem wsum_set : ∀ (p : Bool) (l : List Int) (k : Nat) (v : Int), k < l.length → wsum p (l.set k v) = wsum p l + (v - l.getD k 0) * (if par p k then 256 else 1)
  | _, [], _, _, h => by simp at h
  | p, c :: r, 0, v, _ => by simp [wsum, par]; cases p <;> simp <;> omega
  | p, c :: r, k + 1, v, h => by
    rw [List.set_cons_succ, wsum, wsum, wsum_set (!p) r k v (by simpa using h), par_succ]
    simp only [List.getD_cons_succ]; omega

def wstep (s : List Int × Bool × Int) (c : Int) : List Int × Bool × Int := if s.2.1 = true then (s.1 ++ [s.2.2 * 256 + c], false, s.2.2) else (s.1, true, c)
def tot (s : List Int × Bool × Int) : Int := s.1.sum + if s.2.1 = true then s.2.2 * 256 else 0
theorem tot_fold : ∀ (l : List Int) (s : List Int × Bool × Int), tot (l.foldl wstep s) = tot s + wsum (!s.2.1) l
  | [], s => by simp [wsum]
  | c :: r, (ws, b, h) => by
    rw [List.foldl_cons, tot_fold r, wsum]
    cases b <;> simp [wstep, tot] <;> omega
theorem fold_bd : ∀ (l : List Int) (s : List Int × Bool × Int), byts l → (∀ w ∈ s.1, 0 ≤ w ∧ w ≤ 65535) → (0 ≤ s.2.2 ∧ s.2.2 ≤ 255) → (∀ w ∈ (l.foldl wstep s).1, 0 ≤ w ∧ w ≤ 65535) ∧ (0 ≤ (l.foldl wstep s).2.2 ∧ (l.foldl wstep s).2.2 ≤ 255)
  | [], s, _, h1, h2 => ⟨h1, h2⟩
  | c :: r, (ws, b, h), hb, h1, h2 => by
    rw [List.foldl_cons]
    have hc := hb c List.mem_cons_self
    refine fold_bd r _ (fun x hx => hb x (List.mem_cons_of_mem _ hx)) ?_ ?_
    · cases b
      · simpa [wstep] using h1
      · intro w hw
        simp only [wstep, if_true] at hw
        rcases List.mem_append.1 hw with hw | hw
        · exact h1 w hw
        · rw [List.mem_singleton.1 hw]; dsimp only at h2; omega
    · cases b <;> simp [wstep] <;> assumption
theorem foldM_norm (f : Int → Int → Option Int) (hf : ∀ a b, 0 ≤ a → a ≤ 65535 → 0 ≤ b → b ≤ 65535 → f a b = some (joinN a b)) : ∀ (ws : List Int) (n : Int), 0 ≤ n → (∀ w ∈ ws, 0 ≤ w ∧ w ≤ 65535) → ws.foldlM f (norm n) = some (norm (n + ws.sum))
  | [], n, _, _ => by simp
  | w :: r, n, hn, h => by
    have hw := h w List.mem_cons_self
    have hb := norm_bd hn
    rw [List.foldlM_cons, hf _ _ hb.1 hb.2 hw.1 hw.2, join_norm hn hw.1 hw.2]
    show r.foldlM f (norm (n + w)) = _
    rw [foldM_norm f hf r (n + w) (by omega) (fun x hx => h x (List.mem_cons_of_mem _ hx)), List.sum_cons, Int.add_assoc]
theorem foldM_words (f : Int → Int → Option Int) (hf : ∀ a b, 0 ≤ a → a ≤ 65535 → 0 ≤ b → b ≤ 65535 → f a b = some (joinN a b)) (l : List Int) (hl : byts l) :
    (if (l.foldl wstep ([], false, 0)).2.1 = true then (l.foldl wstep ([], false, 0)).1 ++ [(l.foldl wstep ([], false, 0)).2.2 * 256] else (l.foldl wstep ([], false, 0)).1).foldlM f 0 = some (norm (wsum true l)) := by
  have ht := tot_fold l ([], false, 0)
  obtain ⟨h1, h2⟩ := fold_bd l ([], false, 0) hl (by simp) (by simp)
  simp only [tot, List.sum_nil, Bool.false_eq_true, if_false, Bool.not_false] at ht
  by_cases hb : (l.foldl wstep ([], false, 0)).2.1 = true
  · rw [if_pos hb] at ht ⊢
    have e := foldM_norm f hf ((l.foldl wstep ([], false, 0)).1 ++ [(l.foldl wstep ([], false, 0)).2.2 * 256]) 0 (by omega) (by
      intro w hw
      rcases List.mem_append.1 hw with hw | hw
      · exact h1 w hw
      · rw [List.mem_singleton.1 hw]; omega)
    rw [show norm 0 = 0 from rfl, List.sum_append] at e
    rw [e]
    simp only [List.sum_cons, List.sum_nil]
    congr 2; omega
  · rw [if_neg hb] at ht ⊢
    have e := foldM_norm f hf (l.foldl wstep ([], false, 0)).1 0 (by omega) h1
    rw [show norm 0 = 0 from rfl] at e
    rw [e]
    congr 2; omega
end Go.Proofs.Ytflmfbcapccdeaa.SumPlain

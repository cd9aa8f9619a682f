/- Timers that are due go off by their times, then kinds, each once. -/
import Derived.Test.YtlkkgikjghkcmaaTimerFacts
import Derived.Test.YtlkkgikjghkcmaaPAx8
import Derived.Lib.Hide
set_option linter.unusedVariables false
set_option linter.unusedSimpArgs false
set_option autoImplicit false
namespace Go.Proofs.Ytlkkgikjghkcmaa.Pure
open Go.RowKit Go.Proofs.Ytlkkgikjghkcmaa.PA Go.Proofs.YtlkkgikjghkcmaaW.PrintWords Go.Proofs.YtlkkgikjghkcmaaW.PrintLast Go.Proofs.YtlkkgikjghkcmaaW.PrintMore Go.Proofs.Ytlkkgikjghkcmaa.TimerFacts
def cnt (now : Int) (l : List X) : Nat := (l.filter fun x => decide (x.f1 ≤ now)).length
def after (p x : X) : Prop := p.f1 < x.f1 ∨ p.f1 = x.f1 ∧ p.f0 < x.f0
theorem due_f {o : O} (h : Ok o) (now : Int) : (∃ m : X, timer_Due.f 200 (L o) now = some (m.f0, m.f1, true) ∧ m ∈ L o ∧ m.f1 ≤ now ∧ ∀ x ∈ L o, le m x) ∨ (timer_Due.f 200 (L o) now = some (0, 0, false) ∧ cnt now (L o) = 0) := by
  by_cases hne : L o = []
  · refine .inr ⟨?_, by rw [hne]; rfl⟩
    rw [hne, timer_Due.f, next_nil, Option.bind_some, if_neg (by decide)]
  · obtain ⟨m, hm, h1, h2⟩ := next_f (chkL h) hne (k := 200) (by omega)
    by_cases hd : m.f1 ≤ now
    · refine .inl ⟨m, ?_, h1, hd, h2⟩
      rw [timer_Due.f, hm, Option.bind_some, if_pos rfl, if_pos hd]
    · refine .inr ⟨?_, ?_⟩
      · rw [timer_Due.f, hm, Option.bind_some, if_pos rfl, if_neg hd]
      · unfold cnt
        rw [List.length_eq_zero_iff, List.filter_eq_nil_iff]
        intro x hx hle
        have := h2 x hx
        unfold le at this
        have := of_decide_eq_true hle
        omega
theorem cntc (now k : Int) (o : Option Int) : ((c k o).filter fun x => decide (x.f1 ≤ now)).length = match o with | none => 0 | some t => if t ≤ now then 1 else 0 := by
  cases o with
  | none => rfl
  | some t =>
    by_cases h : t ≤ now
    · simp [c, h]
    · simp [c, h]
theorem cnt_upd {o : O} {now k t : Int} (h1 : 1 ≤ k) (h5 : k ≤ 5) (ho : o k = some t) (ht : t ≤ now) : cnt now (L o) = cnt now (L (upd o k none)) + 1 := by
  have hk5 : k = 1 ∨ k = 2 ∨ k = 3 ∨ k = 4 ∨ k = 5 := by omega
  unfold cnt L upd
  simp only [List.filter_append, List.length_append, cntc]
  rcases hk5 with rfl | rfl | rfl | rfl | rfl <;> simp [ho, ht] <;> omega
theorem len_upd {o : O} {k t : Int} (h1 : 1 ≤ k) (h5 : k ≤ 5) (ho : o k = some t) : (L o).length = (L (upd o k none)).length + 1 := by
  have hk5 : k = 1 ∨ k = 2 ∨ k = 3 ∨ k = 4 ∨ k = 5 := by omega
  rw [lenL, lenL]
  unfold upd
  rcases hk5 with rfl | rfl | rfl | rfl | rfl <;> simp [ho] <;> omega
theorem sub_upd {o : O} {k : Int} {x : X} (h : x ∈ L (upd o k none)) : x ∈ L o ∧ x.f0 ≠ k := by
  have h1 := memL.1 h
  unfold upd at h1
  by_cases e : x.f0 = k
  · rw [if_pos e] at h1; cases h1.2
  · rw [if_neg e] at h1; exact ⟨memL.2 h1, e⟩
theorem cnt_take (now : Int) (l : List X) (i : Nat) (h : i < l.length) : cnt now (l.take (i + 1)) = cnt now (l.take i) + (if (l.getD i z38).f1 ≤ now then 1 else 0) := by
  unfold cnt
  rw [List.take_succ_eq_append_getElem h, List.filter_append, List.length_append]
  have hg : l.getD i z38 = l[i] := by rw [List.getD_eq_getElem?_getD, List.getElem?_eq_getElem h]; rfl
  rw [hg]
  congr 1
  by_cases hh : l[i].f1 ≤ now
  · simp [hh]
  · simp [hh]
theorem cnt_le (now : Int) (l : List X) : cnt now l ≤ l.length := List.length_filter_le _ _
/- a row that is read, whatever becomes of block b -/
def Rd (b : Nat) (W : World) (v : Value) (l : List X) : Prop := ∃ A c, v = .slice A l.length c ∧ l.length ≤ c ∧ ∀ W', W.grownBy W' (some b) → Kd.C k38 W' A l.length l
theorem gtrans {b : Nat} {A B C : World} (h : A.grownBy B (some b)) (k : B.grownBy C (some b)) : A.grownBy C (some b) :=
  ⟨k.os.trans h.os, k.tape.trans h.tape, k.output.trans h.output, Nat.le_trans h.size k.size, fun j hj hn => (k.block j (Nat.lt_of_lt_of_le hj h.size) hn).trans (h.block j hj hn)⟩
theorem grefl (b : Nat) (A : World) : A.grownBy A (some b) := ⟨rfl, rfl, rfl, Nat.le_refl _, fun _ _ _ => rfl⟩
theorem gbelow {b : Nat} {A B : World} (h : Below A.heap.size A B) : A.grownBy B (some b) := ⟨h.os, h.tape, h.output, h.size, fun j hj _ => h.block j hj⟩
theorem gset (b n : Nat) (A : World) (u : Value) : A.grownBy (A.setCell ⟨b, n, none⟩ u) (some b) :=
  ⟨rfl, rfl, rfl, ((Below.refl b A).setCell (p := ⟨b, n, none⟩) (Nat.le_refl _) u).size, fun j hj hn => Below.heap_setCell A ⟨b, n, none⟩ u j (fun e => hn (by rw [e]))⟩
theorem two {W : World} {b : Nat} {c0 c1 d0 d1 : Value} {t : TypeId} (h : W.heap[b]? = some (.cells #[c0, c1] t (0, 0))) : ((W.setCell ⟨b, 0, none⟩ d0).setCell ⟨b, 1, none⟩ d1).heap[b]? = some (.cells #[d0, d1] t (0, 0)) := (blk_set ((blk_set h 0 d0).trans rfl) 1 d1).trans rfl
theorem Rd.grown {b : Nat} {W W1 : World} {v : Value} {l : List X} (h : Rd b W v l) (hg : W.grownBy W1 (some b)) : Rd b W1 v l := by
  obtain ⟨A, c, h1, h2, h3⟩ := h
  exact ⟨A, c, h1, h2, fun W' hg' => h3 W' (gtrans hg hg')⟩
set_option maxRecDepth 100000 in
set_option maxHeartbeats 16000000 in
theorem TimerOrder_calls (A : Option Addr) (cp : Nat) (l : List X) (now : Int) (W : World) (hr : Kd.C k38 W A l.length l) (hc : l.length ≤ cp) (w0 : WfL l) (w1 : (Lit.int .i64 now).wf = true) :
    Calls Try.prog 5 #[.slice A l.length cp, .int .i64 now] W fun e W' => e = .returned (.bool true) ∧ Below W.heap.size W W' := by
  have HC := Lib.hid hr; have HCP := Lib.hid hc; clear hr hc
  have HL := Lib.hid w0.2.2; clear w0 w1
  go_enter Try.func5, Try.ntmps5
  by_cases hck : tm_chk l = 0
  case neg =>
    have q1 : (tm_chk l != 0) = true := bne_iff_ne.mpr hck
    clear hck
    go_wp2_with (first | (go_at_call 8; refine (tm_check A cp l _ HC.out HCP.out).mono ?_; rintro e W1 ⟨rfl, hb⟩; have HB1 := Lib.hid hb; clear hb) | (go_at_call 9; refine (tidewaylaw04_heads.calls 40 true _ (heads_up 40 (by omega))).mono ?_; rintro e W2 ⟨rfl, hb⟩; have HB2 := Lib.hid (below_step HB1.out hb); clear hb))
    go_ret
    exact ⟨rfl, HB2.out⟩
  obtain ⟨o, hlo, ho⟩ := canon hck
  have HO := Lib.hid ho; have HLO := Lib.hid hlo; have HK := Lib.hid hck
  clear ho hlo hck
  go_wp2_with (go_at_call 8; refine (tm_check A cp l _ HC.out HCP.out).mono ?_; rintro e W1 ⟨rfl, hb⟩; have HB1 := Lib.hid hb; clear hb; rw [HK.out])
  obtain ⟨b, hb⟩ : ∃ b, W1.heap.size = b := ⟨_, rfl⟩
  have H0 := Lib.hid (blk_new W1 (.cells #[.int .i64 0, .int .i64 (-1)] 38))
  rw [hb] at H0
  try rw [hb]
  obtain ⟨W2, hW2⟩ : ∃ W2, W1.alloc (.cells #[.int .i64 0, .int .i64 (-1)] 38) = W2 := ⟨_, rfl⟩
  have HB2 := Lib.hid (show Below W.heap.size W W2 from by rw [← hW2]; exact below_alloc HB1.out _)
  have HBL := Lib.hid (show W.heap.size ≤ b from by rw [← hb]; exact HB1.out.size)
  rw [hW2] at H0 ⊢
  have HR2 := Lib.hid (show Rd b W2 (.slice A l.length cp) l from ⟨A, cp, rfl, HCP.out, fun W' hg => Kd.C_below HC.out (HB2.out.grown hg HB2.out.size (fun k e => by cases e; exact HBL.out))⟩)
  clear hW2 hb
  have hl5 := tm_len l HK.out
  go_loopw [5, 7, 8] (fun left n i wr => ∃ (o' : O) (j : Nat) (p : X), i = .int .i64 (j : Int) ∧ n = .int .i64 ((cnt now l - cnt now (L o') : Nat) : Int) ∧ j + (L o').length = l.length ∧ Hid (Ok o') ∧ Hid (Rd b wr left (L o')) ∧ Hid (wr.heap[b]? = some (.cells #[.int .i64 p.f0, .int .i64 p.f1] 38 (0, 0))) ∧ Hid (Below W.heap.size W wr) ∧ Hid (∀ x ∈ L o', after p x) ∧ Hid (cnt now (L o') ≤ cnt now l))
    (fun _ _ i _ => l.length + 1 - (intOf i).toNat)
  case atStart =>
    refine ⟨o, 0, (⟨0, -1⟩ : X), rfl, ?_, by rw [← HLO.out]; omega, HO, by rw [← HLO.out]; exact HR2, H0, HB2, ?_, by rw [← HLO.out]; exact Nat.le_refl _⟩
    · rw [← HLO.out]; simp
    · intro x hx
      have h1 := memL.1 hx
      have h2 := HO.out x.f0 x.f1 h1.1.1 h1.1.2 h1.2
      unfold Tm at h2
      exact .inl (by show (-1 : Int) < x.f1; omega)
  case round =>
    obtain ⟨o', j, p, rfl, rfl, hlen, HO', HRd, HP, HBW, HAF, HCL⟩ := hrel
    obtain ⟨A2, c2, rfl, hc2, hrd⟩ := HRd
    have HC2 := Lib.hid (hrd wr (grefl _ _)); have HC2C := Lib.hid hc2; have HRD := Lib.hid hrd
    have HLEN := Lib.hid hlen
    have c1 : decide (j ≤ l.length) = true := decide_eq_true (by omega)
    have c1' : decide ((j : Int) ≤ (l.length : Int)) = true := decide_eq_true (by omega)
    clear hc2 hrd hlen H0 HB2 HR2
    obtain ⟨cn, hcn⟩ : ∃ n, cnt now l - cnt now (L o') = n := ⟨_, rfl⟩
    rw [hcn]
    have HCN := Lib.hid hcn; clear hcn
    rcases due_f HO'.out now with ⟨m, hm, hml, hmn, hmin⟩ | ⟨hm, hz⟩
    · have HM := Lib.hid hm
      have hmk := memL.1 hml
      have hst := stop_f HO'.out hmk.1.1 hmk.1.2
      have hcu := cnt_upd hmk.1.1 hmk.1.2 hmk.2 hmn
      have hlu := len_upd hmk.1.1 hmk.1.2 hmk.2
      have hl2 := len5 o'
      have haf := HAF.out m hml
      unfold after at haf
      have d1 : decide (m.f1 < p.f1) = false := decide_eq_false (by omega)
      have d4 : decide (now < m.f1) = false := decide_eq_false (by omega)
      have hd : (m.f1 == p.f1) = true ∧ decide (m.f0 ≤ p.f0) = false ∨ (m.f1 == p.f1) = false ∧ True := by
        by_cases e : m.f1 = p.f1
        · exact .inl ⟨beq_iff_eq.mpr e, decide_eq_false (by omega)⟩
        · exact .inr ⟨beq_eq_false_iff_ne.mpr e, trivial⟩
      have hwl : wrap64 (((L o').length : Int) - 1) = ((L (upd o' m.f0 none)).length : Int) := by rw [w64 (by omega) (by omega)]; omega
      have c5 : (((L (upd o' m.f0 none)).length : Int) != ((L o').length : Int) - 1) = false := bne_eq_false_iff_eq.mpr (by omega)
      have HST := Lib.hid hst; have HCU := Lib.hid hcu; have HLU := Lib.hid hlu; have HML := Lib.hid hml; have HMIN := Lib.hid hmin; have HMK := Lib.hid hmk
      have HOU := Lib.hid (Ok_upd (k := m.f0) (v := none) HO'.out (fun t h => by cases h))
      clear hm hml hmn hmin hst hcu hlu haf hmk
      rcases hd with ⟨d2, d3⟩ | ⟨d2, d3⟩
      · go_wp2_with (first | (go_at_call 16; refine (timer_Due.calls 200 A2 c2 (L o') now m.f0 m.f1 true _ HC2.out HC2C.out HM.out).mono ?_; rintro e w3 ⟨rfl, hb⟩; have HB3 := Lib.hid hb; have hp3 := Lib.hid (blk_alloc (blk_below HP.out hb) (.cells #[.int .i64 m.f0, .int .i64 m.f1] 38)); have p0 := (blk_cell hp3.out 0).trans rfl; have p1 := (blk_cell hp3.out 1).trans rfl; have pf0 := blk_frozen hp3.out 0; have pf1 := blk_frozen hp3.out 1; have hne : w3.heap.size ≠ b := Nat.ne_of_gt (blk_lt (blk_below HP.out hb)); have t0 : (((w3.alloc (.cells #[.int .i64 m.f0, .int .i64 m.f1] 38)).setCell ⟨b, 0, none⟩ (.int .i64 m.f0)).setCell ⟨b, 1, none⟩ (.int .i64 m.f1)).cell? ⟨w3.heap.size, 0, none⟩ = some (.int .i64 m.f0) := (cell_far (p := ⟨b, 1, none⟩) hne _).trans ((cell_far (p := ⟨b, 0, none⟩) hne _).trans ((blk_cell (blk_new w3 _) 0).trans rfl)); clear hne; clear hb) | (go_at_call 13; refine (timer_Stop.calls A2 c2 (L o') m.f0 (L (upd o' m.f0 none)) 0 _ (HRD.out _ (gtrans (gbelow HB3.out) (gtrans (gbelow (below_alloc (Below.refl _ _) _)) (gtrans (gset _ _ _ _) (gset _ _ _ _))))) HC2C.out HST.out).mono ?_; rintro e w6 ⟨v6, rfl, hr6, hb6⟩; obtain ⟨A6, c6, rfl⟩ := Kd.R_slice hr6; have HR6 := Lib.hid hr6; have HB6 := Lib.hid hb6; clear hr6 hb6 t0))
        go_roundw
        have hj5 : j ≤ 5 := by have := HLEN.out; omega
        have hwj : wrap64 ((j : Int) + 1) = ((j + 1 : Nat) : Int) := by rw [w64 (by omega) (by omega)]; rfl
        have hcl := cnt_le now l
        have h5 := two (d0 := .int .i64 m.f0) (d1 := .int .i64 m.f1) hp3.out
        have hbl := blk_lt h5
        have hb5 : Below W.heap.size W (((w3.alloc (.cells #[.int .i64 m.f0, .int .i64 m.f1] 38)).setCell ⟨b, 0, none⟩ (.int .i64 m.f0)).setCell ⟨b, 1, none⟩ (.int .i64 m.f1)) := HBW.out.grown (gtrans (gbelow HB3.out) (gtrans (gbelow (below_alloc (Below.refl _ _) _)) (gtrans (gset _ _ _ _) (gset _ _ _ _)))) HBW.out.size (fun k e => by cases e; exact HBL.out)
        case measure =>
          have e1 := HLEN.out; have e2 := HLU.out
          have hwj : wrap64 ((j : Int) + 1) = ((j + 1 : Nat) : Int) := by rw [w64 (by omega) (by omega)]; rfl
          have hme : l.length + 1 - (intOf (.int .i64 (wrap64 ((j : Int) + 1)))).toNat < l.length + 1 - (intOf (.int .i64 (j : Int))).toNat := by
            rw [hwj]
            show l.length + 1 - ((j + 1 : Nat) : Int).toNat < l.length + 1 - ((j : Nat) : Int).toNat
            omega
          exact hme
        refine ⟨upd o' m.f0 none, j + 1, m, by first | rw [hwj] | simp, ?_, ?_, HOU, ⟨A6, c6, rfl, (Kd.R_reads' HR6.out).2.1, fun W' hg => (Kd.R_reads' (Kd.R_grown (Kd.R_bound HR6.out) hg (fun k hk e => by cases e; exact absurd hk.2.1 (Nat.not_le.2 hbl)))).2.2⟩, blk_below h5 HB6.out, below_step hb5 HB6.out, ?_, ?_⟩
        · have e1 := HCN.out; have e2 := HCU.out; have e3 := HCL.out
          have e4 : cnt now l - cnt now (L (upd o' m.f0 none)) = cn + 1 := by omega
          rw [w64 (by omega) (by omega), e4]; rfl
        · have e1 := HLEN.out; have e2 := HLU.out; omega
        · intro x hx
          have h1 := sub_upd hx
          have h2 := HMIN.out x h1.1
          unfold le at h2
          unfold after
          have h3 := h1.2
          omega
        · have e2 := HCU.out; have e3 := HCL.out; show cnt now (L (upd o' m.f0 none)) ≤ cnt now l; omega
      · go_wp2_with (first | (go_at_call 16; refine (timer_Due.calls 200 A2 c2 (L o') now m.f0 m.f1 true _ HC2.out HC2C.out HM.out).mono ?_; rintro e w3 ⟨rfl, hb⟩; have HB3 := Lib.hid hb; have hp3 := Lib.hid (blk_alloc (blk_below HP.out hb) (.cells #[.int .i64 m.f0, .int .i64 m.f1] 38)); have p0 := (blk_cell hp3.out 0).trans rfl; have p1 := (blk_cell hp3.out 1).trans rfl; have pf0 := blk_frozen hp3.out 0; have pf1 := blk_frozen hp3.out 1; have hne : w3.heap.size ≠ b := Nat.ne_of_gt (blk_lt (blk_below HP.out hb)); have t0 : (((w3.alloc (.cells #[.int .i64 m.f0, .int .i64 m.f1] 38)).setCell ⟨b, 0, none⟩ (.int .i64 m.f0)).setCell ⟨b, 1, none⟩ (.int .i64 m.f1)).cell? ⟨w3.heap.size, 0, none⟩ = some (.int .i64 m.f0) := (cell_far (p := ⟨b, 1, none⟩) hne _).trans ((cell_far (p := ⟨b, 0, none⟩) hne _).trans ((blk_cell (blk_new w3 _) 0).trans rfl)); clear hne; clear hb) | (go_at_call 13; refine (timer_Stop.calls A2 c2 (L o') m.f0 (L (upd o' m.f0 none)) 0 _ (HRD.out _ (gtrans (gbelow HB3.out) (gtrans (gbelow (below_alloc (Below.refl _ _) _)) (gtrans (gset _ _ _ _) (gset _ _ _ _))))) HC2C.out HST.out).mono ?_; rintro e w6 ⟨v6, rfl, hr6, hb6⟩; obtain ⟨A6, c6, rfl⟩ := Kd.R_slice hr6; have HR6 := Lib.hid hr6; have HB6 := Lib.hid hb6; clear hr6 hb6 t0))
        go_roundw
        have hj5 : j ≤ 5 := by have := HLEN.out; omega
        have hwj : wrap64 ((j : Int) + 1) = ((j + 1 : Nat) : Int) := by rw [w64 (by omega) (by omega)]; rfl
        have hcl := cnt_le now l
        have h5 := two (d0 := .int .i64 m.f0) (d1 := .int .i64 m.f1) hp3.out
        have hbl := blk_lt h5
        have hb5 : Below W.heap.size W (((w3.alloc (.cells #[.int .i64 m.f0, .int .i64 m.f1] 38)).setCell ⟨b, 0, none⟩ (.int .i64 m.f0)).setCell ⟨b, 1, none⟩ (.int .i64 m.f1)) := HBW.out.grown (gtrans (gbelow HB3.out) (gtrans (gbelow (below_alloc (Below.refl _ _) _)) (gtrans (gset _ _ _ _) (gset _ _ _ _)))) HBW.out.size (fun k e => by cases e; exact HBL.out)
        case measure =>
          have e1 := HLEN.out; have e2 := HLU.out
          have hwj : wrap64 ((j : Int) + 1) = ((j + 1 : Nat) : Int) := by rw [w64 (by omega) (by omega)]; rfl
          have hme : l.length + 1 - (intOf (.int .i64 (wrap64 ((j : Int) + 1)))).toNat < l.length + 1 - (intOf (.int .i64 (j : Int))).toNat := by
            rw [hwj]
            show l.length + 1 - ((j + 1 : Nat) : Int).toNat < l.length + 1 - ((j : Nat) : Int).toNat
            omega
          exact hme
        refine ⟨upd o' m.f0 none, j + 1, m, by first | rw [hwj] | simp, ?_, ?_, HOU, ⟨A6, c6, rfl, (Kd.R_reads' HR6.out).2.1, fun W' hg => (Kd.R_reads' (Kd.R_grown (Kd.R_bound HR6.out) hg (fun k hk e => by cases e; exact absurd hk.2.1 (Nat.not_le.2 hbl)))).2.2⟩, blk_below h5 HB6.out, below_step hb5 HB6.out, ?_, ?_⟩
        · have e1 := HCN.out; have e2 := HCU.out; have e3 := HCL.out
          have e4 : cnt now l - cnt now (L (upd o' m.f0 none)) = cn + 1 := by omega
          rw [w64 (by omega) (by omega), e4]; rfl
        · have e1 := HLEN.out; have e2 := HLU.out; omega
        · intro x hx
          have h1 := sub_upd hx
          have h2 := HMIN.out x h1.1
          unfold le at h2
          unfold after
          have h3 := h1.2
          omega
        · have e2 := HCU.out; have e3 := HCL.out; show cnt now (L (upd o' m.f0 none)) ≤ cnt now l; omega
    · have HM := Lib.hid hm; have HZ := Lib.hid hz; clear hm hz
      go_wp2_with (go_at_call 16; refine (timer_Due.calls 200 A2 c2 (L o') now 0 0 false _ HC2.out HC2C.out HM.out).mono ?_; rintro e w3 ⟨rfl, hb⟩; have HB3 := Lib.hid hb; have hp3 := Lib.hid (blk_alloc (blk_below HP.out hb) (.cells #[.int .i64 0, .int .i64 0] 38)); have p0 := (blk_cell hp3.out 0).trans rfl; have p1 := (blk_cell hp3.out 1).trans rfl; have pf0 := blk_frozen hp3.out 0; have pf1 := blk_frozen hp3.out 1; clear hb)
      go_loopw [13, 14] (fun want i w5 => ∃ k : Nat, k ≤ l.length ∧ i = .int .i64 k ∧ want = .int .i64 ((cnt now (l.take k) : Nat) : Int) ∧ Hid (Below W.heap.size W w5))
        (fun _ i _ => l.length - (intOf i).toNat)
      case atStart => exact ⟨0, Nat.zero_le _, rfl, rfl, below_alloc (below_step HBW.out HB3.out) _⟩
      case round =>
        obtain ⟨k, hk, rfl, rfl, HB5⟩ := hrel
        clear p0 p1 pf0 pf1 c1 c1'
        by_cases hlt : k < l.length
        · obtain ⟨ad, had, hx0, hx1⟩ := at_T38 HC.out (k : Int) (by omega) (by omega)
          obtain rfl := had
          replace hx1 := (HB5.out.cell (World.block_lt_of_cell? W _ hx1)).trans hx1
          have hrd : rd_T38 l (k : Int) = l.getD k z38 := by rw [rd_T38, Int.toNat_natCast]
          simp only [Int.toNat_natCast, hrd] at hx1
          have hct := cnt_take now l k hlt
          obtain ⟨x, hx⟩ : ∃ x, l.getD k z38 = x := ⟨_, rfl⟩
          rw [hx] at hx1 hct
          have hcl := cnt_le now (l.take k)
          rw [List.length_take] at hcl
          have HCT := Lib.hid hct
          clear hx0 hrd hct hx
          have hlt' : (k : Int) < l.length := by omega
          by_cases hle : x.f1 ≤ now
          · have q1 : decide (x.f1 ≤ now) = true := decide_eq_true hle
            have E1 := Lib.hid (show cnt now (l.take (k + 1)) = cnt now (l.take k) + 1 from by have := HCT.out; rwa [if_pos hle] at this)
            go_wp2
            go_roundw
            case rel => exact ⟨k + 1, by omega, by simp, by rw [E1.out]; first | rfl | (rw [w64 (by omega) (by omega)]; rfl), HB5⟩
            case measure => simp [intOf]; omega
          · have q1 : decide (x.f1 ≤ now) = false := decide_eq_false hle
            have E1 := Lib.hid (show cnt now (l.take (k + 1)) = cnt now (l.take k) from by have := HCT.out; rw [if_neg hle] at this; exact this)
            go_wp2
            go_roundw
            case rel => exact ⟨k + 1, by omega, by simp, by rw [E1.out], HB5⟩
            case measure => simp [intOf]; omega
        · obtain rfl : k = l.length := by omega
          obtain rfl : cn = cnt now l := by have e1 := HCN.out; have e2 := HZ.out; omega
          go_wp2_with (go_at_call 9; refine (tidewaylaw04_heads.calls 40 true _ (heads_up 40 (by omega))).mono ?_; rintro e w7 ⟨rfl, hb⟩; have HB7 := Lib.hid (below_step HB5.out hb); clear hb)
          go_ret
          exact ⟨rfl, HB7.out⟩
end Go.Proofs.Ytlkkgikjghkcmaa.Pure

/- What Get reads may be written: the segment is right and well formed. -/
import Derived.Test.YtenpekakmkemeaaWireLaw
set_option linter.unusedVariables false
set_option linter.unusedSimpArgs false
set_option autoImplicit false
namespace Go.Proofs.Ytenpekakmkemeaa.WireG
open Go.RowKit Go.Proofs.Ytenpekakmkemeaa.PA Go.Proofs.YtenpekakmkemeaaW.PrintWords Go.Proofs.Ytenpekakmkemeaa.SumPlain
/-- What its options take. -/
def osz (s : SG) : Nat := (if 0 ≤ s.f7 then 4 else 0) + (if 0 ≤ s.f8 then 3 else 0) + (if s.f9 = true then 2 else 0) + (if s.f10 = true then 10 else 0) + (if 0 < s.f13.length then 2 + 8 * s.f13.length else 0)
theorem osz_eq (s : SG) : (optsB s).length = osz s := by
  unfold optsB osz optMss optScale optOk optStamp optSacks
  simp only [List.length_append, apply_ite List.length, List.length_cons, List.length_nil, be2_len, be4_len, sackB_len]
  repeat' split
  all_goals omega
structure OJ (s : SG) (n : Nat) : Prop where
  h7 : -1 ≤ s.f7 ∧ s.f7 ≤ 65535
  h8 : -1 ≤ s.f8 ∧ s.f8 ≤ 14
  h11 : u32 s.f11
  h12 : u32 s.f12
  st : s.f10 = true ∨ (s.f11 = 0 ∧ s.f12 = 0)
  h13 : ∀ x ∈ s.f13, u32 x.f0 ∧ u32 x.f1
  sz : osz s + n ≤ 40
def Same7 (s t : SG) : Prop := t.f0 = s.f0 ∧ t.f1 = s.f1 ∧ t.f2 = s.f2 ∧ t.f3 = s.f3 ∧ t.f4 = s.f4 ∧ t.f5 = s.f5 ∧ t.f6 = s.f6
theorem OJ.le {s : SG} {n m : Nat} (h : OJ s n) (hm : m ≤ n) : OJ s m := ⟨h.h7, h.h8, h.h11, h.h12, h.st, h.h13, by have := h.sz; omega⟩
theorem b_take {l : List Int} (h : byts l) (n : Nat) : byts (l.take n) := fun x hx => h x (List.mem_of_mem_take hx)
theorem b_drop {l : List Int} (h : byts l) (n : Nat) : byts (l.drop n) := fun x hx => h x (List.mem_of_mem_drop hx)
theorem b_getD {l : List Int} (h : byts l) (n : Nat) : 0 ≤ l.getD n 0 ∧ l.getD n 0 ≤ 255 := by
  rw [List.getD_eq_getElem?_getD]
  cases e : l[n]? with
  | none => simp
  | some x => exact h x (List.mem_of_getElem? e)
theorem wgn_u16 {l : List Int} (h : byts l) (hl : l.length ≤ 2) : 0 ≤ wgn l ∧ wgn l ≤ 65535 := by
  match l, hl, h with
  | [], _, _ => exact ⟨by decide, by decide⟩
  | [a], _, h =>
    have ha := h a (by simp)
    show 0 ≤ wgs 0 a ∧ wgs 0 a ≤ 65535
    rw [wgs_eq (by omega) ha.1 ha.2]; omega
  | [a, b], _, h =>
    have ha := h a (by simp)
    have hb := h b (by simp)
    show 0 ≤ wgs (wgs 0 a) b ∧ wgs (wgs 0 a) b ≤ 65535
    have e := wgs_eq (n := 0) (c := a) (by omega) ha.1 ha.2
    rw [wgs_eq (by rw [e]; omega) hb.1 hb.2, e]; omega
theorem blocks_bd : ∀ (k : Nat) (b : List Int), byts b → (∀ x ∈ wgblocks k b, u32 x.f0 ∧ u32 x.f1) ∧ 8 * (wgblocks k b).length ≤ b.length + 7
  | 0, b, _ => by simp [wgblocks]
  | k + 1, b, h => by
    rw [wgblocks]
    by_cases hz : b.length = 0
    · rw [if_pos hz]; simp
    · rw [if_neg hz]
      obtain ⟨i1, i2⟩ := blocks_bd k (b.drop 8) (b_drop h 8)
      refine ⟨fun x hx => ?_, ?_⟩
      · rcases List.mem_cons.1 hx with rfl | hx
        · exact ⟨wgn_bd (b_take h 4), wgn_bd (b_drop (b_take h 8) 4)⟩
        · exact i1 x hx
      · rw [List.length_cons]; rw [List.length_drop] at i2; omega
theorem opt_step (s : SG) (kd : Int) (p : List Int) (n : Nat) (h : OJ s n) (hp : byts p) (hl : wglen kd ((p.length : Int) + 2) = true) (hn : p.length + 2 ≤ n) : OJ (wgopt s kd p) (n - (p.length + 2)) ∧ Same7 s (wgopt s kd p) := by
  have hs := h.sz
  have a7 := h.h7; have a8 := h.h8
  unfold wglen at hl
  unfold osz at hs
  unfold wgopt
  by_cases k2 : kd = 2
  · rw [if_pos k2] at hl ⊢
    have hl := beq_iff_eq.1 hl
    have hw := wgn_u16 hp (by omega)
    refine ⟨⟨⟨by show -1 ≤ wgn p; omega, hw.2⟩, h.h8, h.h11, h.h12, h.st, h.h13, ?_⟩, rfl, rfl, rfl, rfl, rfl, rfl, rfl⟩
    show osz { s with f7 := wgn p } + _ ≤ 40
    unfold osz
    dsimp only
    rw [if_pos hw.1]
    (repeat' split at hs) <;> (repeat' split) <;> omega
  rw [if_neg k2] at hl ⊢
  by_cases k3 : kd = 3
  · rw [if_pos k3] at hl ⊢
    have hl := beq_iff_eq.1 hl
    have hg := b_getD hp 0
    have hm : 0 ≤ mn (p.getD 0 0) 14 ∧ mn (p.getD 0 0) 14 ≤ 14 := by unfold mn; split <;> omega
    refine ⟨⟨h.h7, ⟨by show -1 ≤ mn (p.getD 0 0) 14; omega, hm.2⟩, h.h11, h.h12, h.st, h.h13, ?_⟩, rfl, rfl, rfl, rfl, rfl, rfl, rfl⟩
    show osz { s with f8 := mn (p.getD 0 0) 14 } + _ ≤ 40
    unfold osz
    dsimp only
    rw [if_pos hm.1]
    (repeat' split at hs) <;> (repeat' split) <;> omega
  rw [if_neg k3] at hl ⊢
  by_cases k4 : kd = 4
  · rw [if_pos k4] at hl ⊢
    have hl := beq_iff_eq.1 hl
    refine ⟨⟨h.h7, h.h8, h.h11, h.h12, h.st, h.h13, ?_⟩, rfl, rfl, rfl, rfl, rfl, rfl, rfl⟩
    show osz { s with f9 := true } + _ ≤ 40
    unfold osz
    dsimp only
    rw [if_pos rfl]
    (repeat' split at hs) <;> (repeat' split) <;> omega
  rw [if_neg k4] at hl ⊢
  by_cases k8 : kd = 8
  · rw [if_pos k8] at hl ⊢
    have hl := beq_iff_eq.1 hl
    refine ⟨⟨h.h7, h.h8, wgn_bd (b_take hp 4), wgn_bd (b_drop hp 4), .inl rfl, h.h13, ?_⟩, rfl, rfl, rfl, rfl, rfl, rfl, rfl⟩
    show osz { s with f10 := true, f11 := wgn (p.take 4), f12 := wgn (p.drop 4) } + _ ≤ 40
    unfold osz
    dsimp only
    rw [if_pos rfl]
    (repeat' split at hs) <;> (repeat' split) <;> omega
  rw [if_neg k8] at hl ⊢
  by_cases k5 : kd = 5
  · rw [if_pos k5] at hl ⊢
    simp only [Bool.and_eq_true, decide_eq_true_eq, beq_iff_eq] at hl
    obtain ⟨i1, i2⟩ := blocks_bd (p.length + 1) p hp
    refine ⟨⟨h.h7, h.h8, h.h11, h.h12, h.st, fun x hx => ?_, ?_⟩, rfl, rfl, rfl, rfl, rfl, rfl, rfl⟩
    · rcases List.mem_append.1 hx with hx | hx
      · exact h.h13 x hx
      · exact i1 x hx
    · show osz { s with f13 := s.f13 ++ wgblocks (p.length + 1) p } + _ ≤ 40
      unfold osz
      dsimp only
      rw [List.length_append]
      generalize (wgblocks (p.length + 1) p).length = q at *
      (repeat' split at hs) <;> (repeat' split) <;> omega
  rw [if_neg k5]
  exact ⟨⟨h.h7, h.h8, h.h11, h.h12, h.st, h.h13, by have := h.sz; omega⟩, rfl, rfl, rfl, rfl, rfl, rfl, rfl⟩
theorem rd_ok : ∀ (k : Nat) (s : SG) (seen b : List Int) (t : SG), wgrd k s seen b = some t → byts b → OJ s b.length → OJ t 0 ∧ Same7 s t
  | 0, s, seen, b, t, h, _, _ => by simp [wgrd] at h
  | k + 1, s, seen, b, t, h, hb, hj => by
    rw [wgrd] at h
    by_cases h0 : b.length = 0
    · rw [if_pos h0] at h; obtain rfl := Option.some.inj h; exact ⟨hj.le (Nat.zero_le _), rfl, rfl, rfl, rfl, rfl, rfl, rfl⟩
    rw [if_neg h0] at h
    by_cases h1 : b.getD 0 0 = 0
    · rw [if_pos h1] at h; obtain rfl := Option.some.inj h; exact ⟨hj.le (Nat.zero_le _), rfl, rfl, rfl, rfl, rfl, rfl, rfl⟩
    rw [if_neg h1] at h
    by_cases h2 : b.getD 0 0 = 1
    · rw [if_pos h2] at h
      exact rd_ok k s seen (b.drop 1) t h (b_drop hb 1) (hj.le (by rw [List.length_drop]; omega))
    rw [if_neg h2] at h
    by_cases h3 : 2 ≤ b.length ∧ 2 ≤ b.getD 1 0 ∧ b.getD 1 0 ≤ b.length ∧ wglen (b.getD 0 0) (b.getD 1 0) = true ∧ (wgknown (b.getD 0 0) && seen.contains (b.getD 0 0)) = false
    · rw [if_pos h3] at h
      obtain ⟨g1, g2, g3, g4, _⟩ := h3
      have hpl : ((b.take (b.getD 1 0).toNat).drop 2).length = (b.getD 1 0).toNat - 2 := by rw [List.length_drop, List.length_take]; omega
      obtain ⟨j1, j2⟩ := opt_step s (b.getD 0 0) ((b.take (b.getD 1 0).toNat).drop 2) b.length hj (b_drop (b_take hb _) _) (by rw [hpl, show (((b.getD 1 0).toNat - 2 : Nat) : Int) + 2 = b.getD 1 0 by omega]; exact g4) (by rw [hpl]; omega)
      rw [hpl] at j1
      obtain ⟨j3, j4⟩ := rd_ok k _ _ (b.drop (b.getD 1 0).toNat) t h (b_drop hb _) (j1.le (by rw [List.length_drop]; omega))
      refine ⟨j3, ?_⟩
      obtain ⟨a0, a1, a2, a3, a4, a5, a6⟩ := j2
      obtain ⟨b0, b1, b2, b3, b4, b5, b6⟩ := j4
      exact ⟨b0.trans a0, b1.trans a1, b2.trans a2, b3.trans a3, b4.trans a4, b5.trans a5, b6.trans a6⟩
    · rw [if_neg h3] at h; simp at h
/-- What Get reads may be written. -/
theorem get_right (b : List Int) (hb : byts b) (x : SG) (h : wgget true b = (x, 0)) : chk x = true ∧ WfS x := by
  unfold wgget at h
  by_cases h0 : b.length < 20
  · rw [if_pos h0] at h; exact absurd (show (1 : Int) = 0 from congrArg Prod.snd h) (by decide)
  rw [if_neg h0] at h
  have h12 := b_getD hb 12
  obtain ⟨m, hm⟩ : ∃ m, (b.getD 12 0 / 16 * 4).toNat = m := ⟨_, rfl⟩
  rw [hm] at h
  have hm60 : m ≤ 60 := by omega
  unfold wgget1 at h
  by_cases h1 : m < 20
  · rw [if_pos h1] at h; exact absurd (show (2 : Int) = 0 from congrArg Prod.snd h) (by decide)
  rw [if_neg h1] at h
  by_cases h2 : b.length < m
  · rw [if_pos h2] at h; exact absurd (show (1 : Int) = 0 from congrArg Prod.snd h) (by decide)
  rw [if_neg h2, if_neg (by decide)] at h
  have hlr : ((b.take m).drop 20).length ≤ 40 := by rw [List.length_drop, List.length_take]; omega
  cases hr : wgrd (((b.take m).drop 20).length + 1) (wgseg b) [] ((b.take m).drop 20) with
  | none => rw [hr] at h; exact absurd (show (2 : Int) = 0 from congrArg Prod.snd h) (by decide)
  | some s =>
    rw [hr, wgend] at h
    by_cases h3 : b.length - m ≤ 65000
    · rw [if_pos h3] at h
      have hx := congrArg Prod.fst h
      dsimp only at hx
      obtain ⟨j, a0, a1, a2, a3, a4, a5, a6⟩ := rd_ok _ _ _ _ _ hr (b_drop (b_take hb _) _) ⟨show (-1 : Int) ≤ -1 ∧ (-1 : Int) ≤ 65535 by decide, show (-1 : Int) ≤ -1 ∧ (-1 : Int) ≤ 14 by decide, show (0 : Int) ≤ 0 ∧ (0 : Int) ≤ 4294967295 by decide, show (0 : Int) ≤ 0 ∧ (0 : Int) ≤ 4294967295 by decide, .inr ⟨rfl, rfl⟩, fun x hx => by simp [wgseg] at hx, by
        show 0 + _ ≤ 40
        omega⟩
      have e0 : x.f0 = s.f0 := by rw [← hx]
      have e1 : x.f1 = s.f1 := by rw [← hx]
      have e2 : x.f2 = s.f2 := by rw [← hx]
      have e3 : x.f3 = s.f3 := by rw [← hx]
      have e4 : x.f4 = s.f4 := by rw [← hx]
      have e5 : x.f5 = s.f5 := by rw [← hx]
      have e6 : x.f6 = s.f6 := by rw [← hx]
      have e7 : x.f7 = s.f7 := by rw [← hx]
      have e8 : x.f8 = s.f8 := by rw [← hx]
      have e10 : x.f10 = s.f10 := by rw [← hx]
      have e11 : x.f11 = s.f11 := by rw [← hx]
      have e12 : x.f12 = s.f12 := by rw [← hx]
      have e13 : x.f13 = s.f13 := by rw [← hx]
      have e14 : x.f14 = b.drop m := by rw [← hx]
      have es : osz x = osz s := by rw [← hx]; rfl
      have b0 : 0 ≤ x.f0 ∧ x.f0 ≤ 65535 := by rw [e0, a0]; exact wgn_u16 (b_take hb 2) (by rw [List.length_take]; omega)
      have b1 : 0 ≤ x.f1 ∧ x.f1 ≤ 65535 := by rw [e1, a1]; exact wgn_u16 (b_drop (b_take hb 4) 2) (by rw [List.length_drop, List.length_take]; omega)
      have b2 : u32 x.f2 := by rw [e2, a2]; exact wgn_bd (b_drop (b_take hb 8) 4)
      have b3 : u32 x.f3 := by rw [e3, a3]; exact wgn_bd (b_drop (b_take hb 12) 8)
      have b4 : 0 ≤ x.f4 ∧ x.f4 ≤ 255 := by rw [e4, a4]; exact b_getD hb 13
      have b5 : 0 ≤ x.f5 ∧ x.f5 ≤ 65535 := by rw [e5, a5]; exact wgn_u16 (b_drop (b_take hb 16) 14) (by rw [List.length_drop, List.length_take]; omega)
      have b6 : 0 ≤ x.f6 ∧ x.f6 ≤ 65535 := by rw [e6, a6]; exact wgn_u16 (b_drop (b_take hb 20) 18) (by rw [List.length_drop, List.length_take]; omega)
      have b7 : -1 ≤ x.f7 ∧ x.f7 ≤ 65535 := by rw [e7]; exact j.h7
      have b8 : -1 ≤ x.f8 ∧ x.f8 ≤ 14 := by rw [e8]; exact j.h8
      have hsz : osz x ≤ 40 := by rw [es]; have := j.sz; omega
      have h13 : x.f13.length ≤ 4 := by
        unfold osz at hsz
        by_cases hz : 0 < x.f13.length
        · rw [if_pos hz] at hsz; (repeat' split at hsz) <;> omega
        · omega
      have h14 : x.f14.length ≤ 65000 := by rw [e14, List.length_drop]; exact h3
      have hop : (opts x).length ≤ 40 := by unfold opts; rw [List.length_append, List.length_replicate, osz_eq]; unfold opad; omega
      have hst : x.f10 = true ∨ Go.bits .or .u32 x.f11 x.f12 = 0 := by
        rcases j.st with h | ⟨h, k⟩
        · left; rw [e10]; exact h
        · right; rw [e11, e12, h, k]; decide
      refine ⟨?_, b2, b3, by rw [e11]; exact j.h11, by rw [e12]; exact j.h12, by rw [e13]; exact j.h13, by rw [e14]; exact b_drop hb m⟩
      unfold chk chkPlain chkRest w16
      have hmx : 0 ≤ mx x.f7 0 ∧ mx x.f7 0 ≤ 65535 := by unfold mx; split <;> omega
      simp only [Bool.and_eq_true, Bool.or_eq_true, decide_eq_true_eq]
      exact ⟨⟨⟨b0, b1, b5, b6, hmx⟩, b7.1, b4.1, b4.2, b8.1, b8.2⟩, h13, h14, hst, hop⟩
    · rw [if_neg h3] at h; exact absurd (show (2 : Int) = 0 from congrArg Prod.snd h) (by decide)
end Go.Proofs.Ytenpekakmkemeaa.WireG

/- What is written is read as it was: in plain words. -/
import Derived.Test.YtflmfbcapccdeaaWireGet
import Derived.Test.YtflmfbcapccdeaaWireSimple
import Derived.Test.YtflmfbcapccdeaaWireSum
set_option linter.unusedVariables false
set_option linter.unusedSimpArgs false
set_option autoImplicit false
namespace Go.Proofs.Ytflmfbcapccdeaa.WireG
open Go.RowKit Go.Proofs.Ytflmfbcapccdeaa.PA Go.Proofs.YtflmfbcapccdeaaW.PrintWords Go.Proofs.YtflmfbcapccdeaaW.PrintMore
/-- A number of four bytes. -/
def u32 (n : Int) : Prop := 0 ≤ n ∧ n ≤ 4294967295
structure WfS (s : SG) : Prop where
  h2 : u32 s.f2
  h3 : u32 s.f3
  h11 : u32 s.f11
  h12 : u32 s.f12
  h13 : ∀ x ∈ s.f13, u32 x.f0 ∧ u32 x.f1
  h14 : wgb s.f14
theorem wgn_be2 (a : Int) (h0 : 0 ≤ a) (h1 : a ≤ 65535) : wgn (be2 a) = a := by
  show wgs (wgs 0 (a / 256 % 256)) (a % 256) = a
  rw [wgs_eq (n := 0) (by omega) (by omega) (by omega), wgs_eq (by omega) (by omega) (by omega)]; omega
theorem wgn_be4 (a : Int) (h : u32 a) : wgn (be4 a) = a := by
  obtain ⟨h0, h1⟩ := h
  show wgs (wgs (wgs (wgs 0 (a / 16777216 % 256)) (a / 65536 % 256)) (a / 256 % 256)) (a % 256) = a
  have e1 : wgs 0 (a / 16777216 % 256) = a / 16777216 := by rw [wgs_eq (by omega) (by omega) (by omega)]; omega
  have e2 : wgs (a / 16777216) (a / 65536 % 256) = a / 65536 := by rw [wgs_eq (by omega) (by omega) (by omega)]; omega
  have e3 : wgs (a / 65536) (a / 256 % 256) = a / 256 := by rw [wgs_eq (by omega) (by omega) (by omega)]; omega
  have e4 : wgs (a / 256) (a % 256) = a := by rw [wgs_eq (by omega) (by omega) (by omega)]; omega
  rw [e1, e2, e3, e4]
/-- The reader, with the fuel that its bytes need. -/
def RD (s : SG) (seen b : List Int) : Option SG := wgrd (b.length + 1) s seen b
theorem RD_step (s : SG) (seen p r : List Int) (kd n : Int) (hn : n = (p.length : Int) + 2) (k0 : ¬ kd = 0) (k1 : ¬ kd = 1) (hl : wglen kd n = true) (hs : seen.contains kd = false) :
    RD s seen ([kd, n] ++ p ++ r) = RD (wgopt s kd p) (kd :: seen) r := by
  subst hn
  have hlen : ([kd, (p.length : Int) + 2] ++ p ++ r).length = p.length + 2 + r.length := by simp; omega
  have h := wgrd_opt s seen ([kd, (p.length : Int) + 2] ++ p ++ r) kd ((p.length : Int) + 2) rfl rfl (by rw [hlen]; omega) k0 k1 (by rw [hlen]; omega) (by omega) (by rw [hlen]; omega) hl (by rw [hs, Bool.and_false])
  have et : ((p.length : Int) + 2).toNat = p.length + 2 := by omega
  have e1 : (([kd, (p.length : Int) + 2] ++ p ++ r).take (p.length + 2)).drop 2 = p := by
    simp only [List.cons_append, List.nil_append, List.take_succ_cons, List.drop_succ_cons, List.drop_zero]
    rw [List.take_append_of_le_length (Nat.le_refl _), List.take_length]
  have e2 : ([kd, (p.length : Int) + 2] ++ p ++ r).drop (p.length + 2) = r := by
    simp only [List.cons_append, List.nil_append, List.drop_succ_cons]
    rw [List.drop_append_of_le_length (Nat.le_refl _), List.drop_length, List.nil_append]
  rw [et, e1, e2] at h
  exact h
theorem RD_end (s : SG) (seen : List Int) (k : Nat) : RD s seen (List.replicate k 0) = some s := by
  unfold RD
  rw [wgrd]
  by_cases h : (List.replicate k (0 : Int)).length = 0
  · rw [if_pos h]
  · rw [if_neg h, if_pos]
    cases k with
    | zero => simp at h
    | succ k => rfl
theorem sack_blocks : ∀ (l : List SB) (k : Nat), (∀ x ∈ l, u32 x.f0 ∧ u32 x.f1) → l.length < k → wgblocks k (sackB l) = l
  | [], k, _, hk => by
    obtain ⟨k, rfl⟩ : ∃ j, k = j + 1 := ⟨k - 1, by simp at hk; omega⟩
    rw [wgblocks, if_pos (show (sackB ([] : List SB)).length = 0 from rfl)]
  | x :: l, k, h, hk => by
    obtain ⟨k, rfl⟩ : ∃ j, k = j + 1 := ⟨k - 1, by simp at hk; omega⟩
    have hx := h x List.mem_cons_self
    have e : sackB (x :: l) = be4 x.f0 ++ be4 x.f1 ++ sackB l := rfl
    have e1 : (sackB (x :: l)).take 4 = be4 x.f0 := by rw [e]; rfl
    have e2 : ((sackB (x :: l)).take 8).drop 4 = be4 x.f1 := by rw [e]; rfl
    have e3 : (sackB (x :: l)).drop 8 = sackB l := by rw [e]; rfl
    rw [wgblocks, if_neg (by rw [sackB_len, List.length_cons]; omega), e1, e2, e3, wgn_be4 _ hx.1, wgn_be4 _ hx.2, sack_blocks l k (fun y hy => h y (List.mem_cons_of_mem _ hy)) (by simp at hk; omega)]
theorem contains_of {seen : List Int} {kd : Int} (h : ∀ x ∈ seen, x ≠ kd) : seen.contains kd = false := by
  rw [Bool.eq_false_iff]; intro hc
  exact h kd (List.elem_iff.1 hc) rfl
/-- The options of a segment are read as they were. -/
theorem RD_opts (s b : SG) (hw : WfS s) (hc : chk s = true) (hb7 : b.f7 = -1) (hb8 : b.f8 = -1) (hb9 : b.f9 = false) (hb10 : b.f10 = false) (hb11 : b.f11 = 0) (hb12 : b.f12 = 0) (hb13 : b.f13 = []) :
    RD b [] (opts s) = some { b with f7 := s.f7, f8 := s.f8, f9 := s.f9, f10 := s.f10, f11 := s.f11, f12 := s.f12, f13 := s.f13 } := by
  obtain ⟨c0, c1, c5, c6, c7, c4, c8, cn, cd, cst, co⟩ := chk_bd hc
  have s1 : ∀ r, ∃ seen, (∀ x ∈ seen, x = 2) ∧ RD b [] (optMss s ++ r) = RD { b with f7 := s.f7 } seen r := fun r => by
    unfold optMss
    by_cases h : 0 ≤ s.f7
    · rw [if_pos h]
      refine ⟨[2], by simp, ?_⟩
      rw [RD_step b [] (be2 s.f7) r 2 4 (by rw [be2_len]; rfl) (by decide) (by decide) rfl rfl]
      show RD (if (2 : Int) = 2 then _ else _) _ _ = _
      rw [if_pos rfl, wgn_be2 _ h c7.2]
    · rw [if_neg h]
      refine ⟨[], by simp, ?_⟩
      rw [List.nil_append, show s.f7 = b.f7 by omega]
  have s2 : ∀ seen r, (∀ x ∈ seen, x = 2) → ∃ seen', (∀ x ∈ seen', x = 2 ∨ x = 3) ∧ RD { b with f7 := s.f7 } seen (optScale s ++ r) = RD { b with f7 := s.f7, f8 := s.f8 } seen' r := fun seen r hs => by
    unfold optScale
    by_cases h : 0 ≤ s.f8
    · rw [if_pos h]
      refine ⟨3 :: seen, fun x hx => by rcases List.mem_cons.1 hx with rfl | hx; exact .inr rfl; exact .inl (hs x hx), ?_⟩
      rw [show ([3, 3, s.f8 % 256] ++ r : List Int) = [3, 3] ++ [s.f8 % 256] ++ r from rfl, RD_step _ seen [s.f8 % 256] r 3 3 rfl (by decide) (by decide) rfl (contains_of (fun x hx => by rw [hs x hx]; decide))]
      show RD { b with f7 := s.f7, f8 := mn (s.f8 % 256) 14 } _ _ = _
      rw [show mn (s.f8 % 256) 14 = s.f8 by unfold mn; split <;> omega]
    · rw [if_neg h]
      refine ⟨seen, fun x hx => .inl (hs x hx), ?_⟩
      rw [List.nil_append, show s.f8 = b.f8 by omega]
  have s3 : ∀ seen r, (∀ x ∈ seen, x = 2 ∨ x = 3) → ∃ seen', (∀ x ∈ seen', x = 2 ∨ x = 3 ∨ x = 4) ∧ RD { b with f7 := s.f7, f8 := s.f8 } seen (optOk s ++ r) = RD { b with f7 := s.f7, f8 := s.f8, f9 := s.f9 } seen' r := fun seen r hs => by
    unfold optOk
    by_cases h : s.f9 = true
    · rw [if_pos h]
      refine ⟨4 :: seen, fun x hx => by rcases List.mem_cons.1 hx with rfl | hx; exact .inr (.inr rfl); rcases hs x hx with h | h; exact .inl h; exact .inr (.inl h), ?_⟩
      rw [show ([4, 2] ++ r : List Int) = [4, 2] ++ [] ++ r from rfl, RD_step _ seen [] r 4 2 rfl (by decide) (by decide) rfl (contains_of (fun x hx => by rcases hs x hx with rfl | rfl <;> decide)), h]
      rfl
    · rw [if_neg h]
      refine ⟨seen, fun x hx => by rcases hs x hx with h | h; exact .inl h; exact .inr (.inl h), ?_⟩
      rw [List.nil_append, show s.f9 = b.f9 by rw [hb9]; exact Bool.eq_false_iff.2 h]
  have s4 : ∀ seen r, (∀ x ∈ seen, x = 2 ∨ x = 3 ∨ x = 4) → ∃ seen', (∀ x ∈ seen', x = 2 ∨ x = 3 ∨ x = 4 ∨ x = 8) ∧ RD { b with f7 := s.f7, f8 := s.f8, f9 := s.f9 } seen (optStamp s ++ r) = RD { b with f7 := s.f7, f8 := s.f8, f9 := s.f9, f10 := s.f10, f11 := s.f11, f12 := s.f12 } seen' r := fun seen r hs => by
    unfold optStamp
    by_cases h : s.f10 = true
    · rw [if_pos h]
      refine ⟨8 :: seen, fun x hx => by rcases List.mem_cons.1 hx with rfl | hx; exact .inr (.inr (.inr rfl)); rcases hs x hx with h | h | h; exact .inl h; exact .inr (.inl h); exact .inr (.inr (.inl h)), ?_⟩
      rw [show ([8, 10] ++ be4 s.f11 ++ be4 s.f12 ++ r : List Int) = [8, 10] ++ (be4 s.f11 ++ be4 s.f12) ++ r by simp only [List.append_assoc], RD_step _ seen (be4 s.f11 ++ be4 s.f12) r 8 10 rfl (by decide) (by decide) rfl (contains_of (fun x hx => by rcases hs x hx with rfl | rfl | rfl <;> decide))]
      show RD { b with f7 := s.f7, f8 := s.f8, f9 := s.f9, f10 := true, f11 := wgn (be4 s.f11), f12 := wgn (be4 s.f12) } _ _ = _
      rw [wgn_be4 _ hw.h11, wgn_be4 _ hw.h12, h]
    · rw [if_neg h]
      have hz : s.f11 = 0 ∧ s.f12 = 0 := by
        rcases cst with h1 | h1
        · exact absurd h1 h
        · have a := hw.h11; have c := hw.h12
          unfold u32 at a c
          rw [u32_or s.f11 s.f12 a.1 (by omega) c.1 (by omega)] at h1
          have h2 : s.f11.toNat ||| s.f12.toNat = 0 := by omega
          have := Nat.or_eq_zero_iff.1 h2
          omega
      refine ⟨seen, fun x hx => by rcases hs x hx with h | h | h; exact .inl h; exact .inr (.inl h); exact .inr (.inr (.inl h)), ?_⟩
      rw [List.nil_append, show s.f10 = b.f10 by rw [hb10]; exact Bool.eq_false_iff.2 h, show s.f11 = b.f11 by rw [hb11]; exact hz.1, show s.f12 = b.f12 by rw [hb12]; exact hz.2]
  have s5 : ∀ seen r, (∀ x ∈ seen, x = 2 ∨ x = 3 ∨ x = 4 ∨ x = 8) → ∃ seen', RD { b with f7 := s.f7, f8 := s.f8, f9 := s.f9, f10 := s.f10, f11 := s.f11, f12 := s.f12 } seen (optSacks s ++ r) = RD { b with f7 := s.f7, f8 := s.f8, f9 := s.f9, f10 := s.f10, f11 := s.f11, f12 := s.f12, f13 := s.f13 } seen' r := fun seen r hs => by
    unfold optSacks
    by_cases h : 0 < s.f13.length
    · rw [if_pos h]
      refine ⟨5 :: seen, ?_⟩
      have hl : wglen 5 ((2 + 8 * (s.f13.length : Int)) % 256) = true := by
        unfold wglen
        rw [if_neg (by decide), if_neg (by decide), if_neg (by decide), if_neg (by decide), if_pos rfl]
        simp only [Bool.and_eq_true, decide_eq_true_eq, beq_iff_eq]
        omega
      rw [RD_step _ seen (sackB s.f13) r 5 _ (by rw [sackB_len]; omega) (by decide) (by decide) hl (contains_of (fun x hx => by rcases hs x hx with rfl | rfl | rfl | rfl <;> decide))]
      show RD { b with f7 := s.f7, f8 := s.f8, f9 := s.f9, f10 := s.f10, f11 := s.f11, f12 := s.f12, f13 := b.f13 ++ wgblocks ((sackB s.f13).length + 1) (sackB s.f13) } _ _ = _
      rw [sack_blocks s.f13 _ hw.h13 (by rw [sackB_len]; omega), hb13, List.nil_append]
    · rw [if_neg h]
      refine ⟨seen, ?_⟩
      rw [List.nil_append, show s.f13 = b.f13 by rw [hb13]; exact List.eq_nil_of_length_eq_zero (by omega)]
  unfold opts optsB
  simp only [List.append_assoc]
  obtain ⟨e1, h1, r1⟩ := s1 (optScale s ++ (optOk s ++ (optStamp s ++ (optSacks s ++ List.replicate (opad ((optMss s ++ (optScale s ++ (optOk s ++ (optStamp s ++ optSacks s))))).length) 0))))
  obtain ⟨e2, h2, r2⟩ := s2 e1 (optOk s ++ (optStamp s ++ (optSacks s ++ List.replicate (opad ((optMss s ++ (optScale s ++ (optOk s ++ (optStamp s ++ optSacks s))))).length) 0))) h1
  obtain ⟨e3, h3, r3⟩ := s3 e2 (optStamp s ++ (optSacks s ++ List.replicate (opad ((optMss s ++ (optScale s ++ (optOk s ++ (optStamp s ++ optSacks s))))).length) 0)) h2
  obtain ⟨e4, h4, r4⟩ := s4 e3 (optSacks s ++ List.replicate (opad ((optMss s ++ (optScale s ++ (optOk s ++ (optStamp s ++ optSacks s))))).length) 0) h3
  obtain ⟨e5, r5⟩ := s5 e4 (List.replicate (opad ((optMss s ++ (optScale s ++ (optOk s ++ (optStamp s ++ optSacks s))))).length) 0) h4
  rw [r1, r2, r3, r4, r5, RD_end]
theorem opts_mod (s : SG) : (opts s).length % 4 = 0 := by
  unfold opts; rw [List.length_append, List.length_replicate]; unfold opad; omega
theorem putF_eq (c : Int) (s : SG) : putF c s = [s.f0 / 256 % 256, s.f0 % 256, s.f1 / 256 % 256, s.f1 % 256, s.f2 / 16777216 % 256, s.f2 / 65536 % 256, s.f2 / 256 % 256, s.f2 % 256, s.f3 / 16777216 % 256, s.f3 / 65536 % 256, s.f3 / 256 % 256, s.f3 % 256, 16 * (5 + ((opts s).length : Int) / 4) % 256, s.f4 % 256, s.f5 / 256 % 256, s.f5 % 256, c / 256 % 256, c % 256, s.f6 / 256 % 256, s.f6 % 256] ++ (opts s ++ s.f14) := by
  unfold putF putB be2 be4
  simp only [List.append_assoc, List.cons_append, List.nil_append]
  rfl
/-- What is written is read as it was. -/
theorem get_put (c : Int) (s : SG) (hw : WfS s) (hc : chk s = true) : wgget true (putF c s) = (s, 0) := by
  obtain ⟨c0, c1, c5, c6, c7, c4, c8, cn, cd, cst, co⟩ := chk_bd hc
  have hm := opts_mod s
  rw [putF_eq]
  obtain ⟨o, ho⟩ : ∃ o, opts s = o := ⟨_, rfl⟩
  have hro := RD_opts s (wgseg (putF c s)) hw hc rfl rfl rfl rfl rfl rfl rfl
  rw [putF_eq] at hro
  rw [ho] at hro hm co ⊢
  have hlen : ∀ (x0 x1 x2 x3 x4 x5 x6 x7 x8 x9 x10 x11 x12 x13 x14 x15 x16 x17 x18 x19 : Int) (r : List Int), ([x0, x1, x2, x3, x4, x5, x6, x7, x8, x9, x10, x11, x12, x13, x14, x15, x16, x17, x18, x19] ++ r).length = 20 + r.length := by intros; simp; omega
  have hlo : (o ++ s.f14).length = o.length + s.f14.length := List.length_append
  unfold wgget
  rw [hlen, hlo, if_neg (by omega)]
  have e12 : ((16 * (5 + (o.length : Int) / 4) % 256) / 16 * 4).toNat = 20 + o.length := by omega
  have hg12 : ([s.f0 / 256 % 256, s.f0 % 256, s.f1 / 256 % 256, s.f1 % 256, s.f2 / 16777216 % 256, s.f2 / 65536 % 256, s.f2 / 256 % 256, s.f2 % 256, s.f3 / 16777216 % 256, s.f3 / 65536 % 256, s.f3 / 256 % 256, s.f3 % 256, 16 * (5 + (o.length : Int) / 4) % 256, s.f4 % 256, s.f5 / 256 % 256, s.f5 % 256, c / 256 % 256, c % 256, s.f6 / 256 % 256, s.f6 % 256] ++ (o ++ s.f14)).getD 12 0 = 16 * (5 + (o.length : Int) / 4) % 256 := rfl
  rw [hg12, e12]
  have hseg : wgseg ([s.f0 / 256 % 256, s.f0 % 256, s.f1 / 256 % 256, s.f1 % 256, s.f2 / 16777216 % 256, s.f2 / 65536 % 256, s.f2 / 256 % 256, s.f2 % 256, s.f3 / 16777216 % 256, s.f3 / 65536 % 256, s.f3 / 256 % 256, s.f3 % 256, 16 * (5 + (o.length : Int) / 4) % 256, s.f4 % 256, s.f5 / 256 % 256, s.f5 % 256, c / 256 % 256, c % 256, s.f6 / 256 % 256, s.f6 % 256] ++ (o ++ s.f14)) = ⟨s.f0, s.f1, s.f2, s.f3, s.f4, s.f5, s.f6, -1, -1, false, false, 0, 0, [], []⟩ := by
    show (⟨wgn (be2 s.f0), wgn (be2 s.f1), wgn (be4 s.f2), wgn (be4 s.f3), s.f4 % 256, wgn (be2 s.f5), wgn (be2 s.f6), -1, -1, false, false, 0, 0, [], []⟩ : SG) = _
    rw [wgn_be2 _ c0.1 c0.2, wgn_be2 _ c1.1 c1.2, wgn_be4 _ hw.h2, wgn_be4 _ hw.h3, wgn_be2 _ c5.1 c5.2, wgn_be2 _ c6.1 c6.2, show s.f4 % 256 = s.f4 by omega]
  rw [hseg] at hro
  generalize hH : ([s.f0 / 256 % 256, s.f0 % 256, s.f1 / 256 % 256, s.f1 % 256, s.f2 / 16777216 % 256, s.f2 / 65536 % 256, s.f2 / 256 % 256, s.f2 % 256, s.f3 / 16777216 % 256, s.f3 / 65536 % 256, s.f3 / 256 % 256, s.f3 % 256, 16 * (5 + (o.length : Int) / 4) % 256, s.f4 % 256, s.f5 / 256 % 256, s.f5 % 256, c / 256 % 256, c % 256, s.f6 / 256 % 256, s.f6 % 256] : List Int) = hd at hseg ⊢
  have hdl : hd.length = 20 := by rw [← hH]; rfl
  have et : ((hd ++ (o ++ s.f14)).take (20 + o.length)).drop 20 = o := by
    rw [← List.append_assoc, List.take_append_of_le_length (by rw [List.length_append]; omega), List.take_of_length_le (by rw [List.length_append]; omega), List.drop_append_of_le_length (by omega), List.drop_of_length_le (by omega), List.nil_append]
  have ed : (hd ++ (o ++ s.f14)).drop (20 + o.length) = s.f14 := by
    rw [← List.append_assoc, List.drop_append_of_le_length (by rw [List.length_append]; omega), List.drop_of_length_le (by rw [List.length_append]; omega), List.nil_append]
  have hL : (hd ++ (o ++ s.f14)).length = 20 + (o.length + s.f14.length) := by rw [List.length_append, hlo, hdl]
  unfold wgget1
  rw [if_neg (by omega), if_neg (by rw [hL]; omega), if_neg (by decide), et, hseg]
  unfold RD at hro
  rw [hro, wgend, if_pos (by rw [hL]; omega), ed]
end Go.Proofs.Ytflmfbcapccdeaa.WireG

/- The plain laws of what wire's printed functions make: numbers as bytes, options, checks. -/
import Derived.Test.YtenpekakmkemeaaWireOpt
import Derived.Test.YtenpekakmkemeaaPAx7
import Derived.Test.YtenpekakmkemeaaPAx8
import Derived.Test.YtenpekakmkemeaaPAx10
set_option linter.unusedVariables false
set_option linter.unusedSimpArgs false
set_option autoImplicit false
namespace Go.Proofs.Ytenpekakmkemeaa.WireG
open Go.RowKit Go.Proofs.Ytenpekakmkemeaa.PA Go.Proofs.YtenpekakmkemeaaW.PrintWords Go.Proofs.YtenpekakmkemeaaW.PrintMore
abbrev SG := S26
abbrev SB := S56
def be2 (a : Int) : List Int := [(a / 256) % 256, a % 256]
def be4 (a : Int) : List Int := [(a / 16777216) % 256, (a / 65536) % 256, (a / 256) % 256, a % 256]
theorem be2_len (a : Int) : (be2 a).length = 2 := rfl
theorem be4_len (a : Int) : (be4 a).length = 4 := rfl
theorem wf_shr (a : Int) (n : Nat) (hn : n ≤ 3) : shr .u32 a (wrap64 (8 * (n : Int))) = a / 2 ^ (8 * n) := by
  rcases (show n = 0 ∨ n = 1 ∨ n = 2 ∨ n = 3 by omega) with rfl | rfl | rfl | rfl
  · rw [show wrap64 (8 * ((0 : Nat) : Int)) = 0 from wg_w64 (n := 0) (by decide) (by decide)]; rfl
  · rw [show wrap64 (8 * ((1 : Nat) : Int)) = 8 from wg_w64 (n := 8) (by decide) (by decide)]; rfl
  · rw [show wrap64 (8 * ((2 : Nat) : Int)) = 16 from wg_w64 (n := 16) (by decide) (by decide)]; rfl
  · rw [show wrap64 (8 * ((3 : Nat) : Int)) = 24 from wg_w64 (n := 24) (by decide) (by decide)]; rfl
theorem wf_put_step (k : Nat) (l : List Int) (a : Int) (n : Nat) (hn : n ≤ 3) (hl : l.length ≤ 1000000) : wire_put.l0 (k + 1) l a (n : Int) = wire_put.l0 k (l ++ [a / 2 ^ (8 * n) % 256]) a ((n : Int) - 1) := by
  rw [wire_put.l0, if_pos (by omega), if_pos (by rw [wg_w64 (by omega) (by omega)]; omega), if_pos (by omega), wf_shr a n hn, wg_w64 (by omega) (by omega)]
theorem wf_put_end (k : Nat) (l : List Int) (a : Int) : wire_put.l0 (k + 1) l a (-1) = some l := by rw [wire_put.l0, if_neg (by omega)]
theorem wf_put2 (k : Nat) (l : List Int) (a : Int) (hl : l.length ≤ 100000) : wire_put.f (k + 3) l a 2 = some (l ++ be2 a) := by
  have h1 := wf_put_step (k + 2) l a 1 (by omega) (by omega)
  have h0 := wf_put_step (k + 1) (l ++ [a / 2 ^ (8 * 1) % 256]) a 0 (by omega) (by simp; omega)
  rw [wire_put.f, show wrap64 (2 - 1) = ((1 : Nat) : Int) from wg_w64 (n := 1) (by decide) (by decide)]
  rw [h1]
  show wire_put.l0 (k + 1 + 1) _ a ((0 : Nat) : Int) = _
  rw [h0]
  show wire_put.l0 (k + 1) _ a (-1) = _
  rw [wf_put_end, List.append_assoc]
  congr 2
  show [a / 256 % 256, a / 1 % 256] = be2 a
  rw [Int.ediv_one]; rfl
theorem wf_put4 (k : Nat) (l : List Int) (a : Int) (hl : l.length ≤ 100000) : wire_put.f (k + 5) l a 4 = some (l ++ be4 a) := by
  have h3 := wf_put_step (k + 4) l a 3 (by omega) (by omega)
  have h2 := wf_put_step (k + 3) (l ++ [a / 2 ^ (8 * 3) % 256]) a 2 (by omega) (by simp; omega)
  have h1 := wf_put_step (k + 2) (l ++ [a / 2 ^ (8 * 3) % 256] ++ [a / 2 ^ (8 * 2) % 256]) a 1 (by omega) (by simp; omega)
  have h0 := wf_put_step (k + 1) (l ++ [a / 2 ^ (8 * 3) % 256] ++ [a / 2 ^ (8 * 2) % 256] ++ [a / 2 ^ (8 * 1) % 256]) a 0 (by omega) (by simp; omega)
  rw [wire_put.f, show wrap64 (4 - 1) = ((3 : Nat) : Int) from wg_w64 (n := 3) (by decide) (by decide)]
  rw [h3]
  show wire_put.l0 (k + 3 + 1) _ a ((2 : Nat) : Int) = _
  rw [h2]
  show wire_put.l0 (k + 2 + 1) _ a ((1 : Nat) : Int) = _
  rw [h1]
  show wire_put.l0 (k + 1 + 1) _ a ((0 : Nat) : Int) = _
  rw [h0]
  show wire_put.l0 (k + 1) _ a (-1) = _
  rw [wf_put_end]
  congr 1
  simp only [List.append_assoc]
  congr 1
  show [a / 16777216 % 256, a / 65536 % 256, a / 256 % 256, a / 1 % 256] = be4 a
  rw [Int.ediv_one]; rfl
/-! ### options -/
def optMss (s : SG) : List Int := if 0 ≤ s.f7 then [2, 4] ++ be2 s.f7 else []
def optScale (s : SG) : List Int := if 0 ≤ s.f8 then [3, 3, s.f8 % 256] else []
def optOk (s : SG) : List Int := if s.f9 = true then [4, 2] else []
def optStamp (s : SG) : List Int := if s.f10 = true then [8, 10] ++ be4 s.f11 ++ be4 s.f12 else []
def sackB (l : List SB) : List Int := l.flatMap fun x => be4 x.f0 ++ be4 x.f1
def optSacks (s : SG) : List Int := if 0 < s.f13.length then [5, (2 + 8 * (s.f13.length : Int)) % 256] ++ sackB s.f13 else []
def optsB (s : SG) : List Int := optMss s ++ optScale s ++ optOk s ++ optStamp s ++ optSacks s
def opad (n : Nat) : Nat := (4 - n % 4) % 4
def opts (s : SG) : List Int := optsB s ++ List.replicate (opad (optsB s).length) 0
theorem sackB_len (l : List SB) : (sackB l).length = 8 * l.length := by
  induction l with
  | nil => rfl
  | cons x l ih => rw [sackB, List.flatMap_cons, List.length_append, List.length_append, be4_len, be4_len]; unfold sackB at ih; rw [ih, List.length_cons]; omega
theorem optMss_len (s : SG) : (optMss s).length ≤ 4 := by unfold optMss; split <;> simp [be2]
theorem optScale_len (s : SG) : (optScale s).length ≤ 3 := by unfold optScale; split <;> simp
theorem optOk_len (s : SG) : (optOk s).length ≤ 2 := by unfold optOk; split <;> simp
theorem optStamp_len (s : SG) : (optStamp s).length ≤ 10 := by unfold optStamp; split <;> simp [be4]
theorem optSacks_len (s : SG) : (optSacks s).length ≤ 2 + 8 * s.f13.length := by unfold optSacks; split <;> simp [sackB_len]; omega
theorem wf_and3 (n : Int) : Go.bits .and .i64 n 3 = n % 4 := by
  have h3 : (BitVec.ofInt 64 3).toNat = 2 ^ 2 - 1 := by decide
  have key : (BitVec.ofInt 64 n &&& BitVec.ofInt 64 3).toNat = (n % ((2 ^ 64 : Nat) : Int)).toNat % 2 ^ 2 := by
    rw [BitVec.toNat_and, BitVec.toNat_ofInt, h3, Nat.and_two_pow_sub_one_eq_mod]
  show IntKind.i64.wrap ((BitVec.ofInt 64 n &&& BitVec.ofInt 64 3).toNat : Nat) = n % 4
  rw [key, IntKind.wrap_i64]
  omega
theorem wf_pad (n : Nat) (hn : n < 128) : Go.bits .and .i64 (wrap64 (-((n : Nat) : Int))) 3 = ((opad n : Nat) : Int) := by
  rw [wg_w64 (by omega) (by omega), wf_and3]; unfold opad; omega
theorem wf_sacks_end (ks : List SB) (k : Nat) (l : List Int) (hl : l.length < 128) : wire_Options.l0 (k + 1) l ks (ks.length : Int) (ks.length : Int) = some (l ++ List.replicate (opad l.length) 0) := by
  have hp := wf_pad l.length hl
  have hpb : opad l.length ≤ 3 := by unfold opad; omega
  obtain ⟨P, hP⟩ : ∃ P, opad l.length = P := ⟨_, rfl⟩
  rw [hP] at hp hpb ⊢
  have h1 : l.length + P < 140737488355328 := by omega
  have h2 : (0 : Int) ≤ (P : Int) := by omega
  rw [wire_Options.l0, if_neg (by omega), hp, if_pos h2, Int.toNat_natCast, if_pos h1]
theorem wf_sacks_step (ks : List SB) (hks : ks.length ≤ 100) (k i : Nat) (l : List Int) (hlt : i < ks.length) (hl : l.length < 128) : wire_Options.l0 (k + 5 + 1) l ks (ks.length : Int) (i : Int) = wire_Options.l0 (k + 5) (l ++ be4 ks[i].f0 ++ be4 ks[i].f1) ks (ks.length : Int) ((i + 1 : Nat) : Int) := by
  have hr : rd_T56 ks (i : Int) = ks[i] := by rw [rd_T56, Int.toNat_natCast, List.getD_eq_getElem?_getD, List.getElem?_eq_getElem hlt]; rfl
  have hw : wrap64 ((i : Int) + 1) = ((i + 1 : Nat) : Int) := by rw [wg_w64 (by omega) (by omega)]; rfl
  have p1 := wf_put4 k l ks[i].f0 (by omega)
  have p2 := wf_put4 k (l ++ be4 ks[i].f0) ks[i].f1 (by rw [List.length_append, be4_len]; omega)
  have c1 : (i : Int) < (ks.length : Int) := by omega
  have c2 : (0 : Int) ≤ (i : Int) := by omega
  rw [wire_Options.l0, if_pos c1, if_pos c2, if_pos c1, hr, hw, p1]
  simp only [Option.bind_some]
  rw [p2]
  simp only [Option.bind_some]
theorem wf_sacks (ks : List SB) (hks : ks.length ≤ 100) : ∀ (d i k : Nat) (l : List Int), ks.length - i = d → i ≤ ks.length → d + 12 ≤ k → l.length + 8 * d < 128 →
    wire_Options.l0 k l ks (ks.length : Int) (i : Int) = some (l ++ sackB (ks.drop i) ++ List.replicate (opad (l.length + 8 * d)) 0) := by
  intro d
  induction d with
  | zero =>
    intro i k l hd hi hk hl
    obtain ⟨k, rfl⟩ : ∃ j, k = j + 1 := ⟨k - 1, by omega⟩
    obtain rfl : i = ks.length := by omega
    rw [wf_sacks_end ks k l (by omega), List.drop_of_length_le (Nat.le_refl _)]
    show _ = some (l ++ [] ++ _)
    rw [List.append_nil]; rfl
  | succ d ih =>
    intro i k l hd hi hk hl
    obtain ⟨k, rfl⟩ : ∃ j, k = j + 5 + 1 := ⟨k - 6, by omega⟩
    have hlt : i < ks.length := by omega
    have hn : (l ++ be4 ks[i].f0 ++ be4 ks[i].f1).length = l.length + 8 := by rw [List.length_append, List.length_append, be4_len, be4_len]
    have es : sackB (ks.drop i) = be4 ks[i].f0 ++ be4 ks[i].f1 ++ sackB (ks.drop (i + 1)) := by rw [List.drop_eq_getElem_cons hlt]; rfl
    rw [wf_sacks_step ks hks k i l hlt (by omega), ih (i + 1) (k + 5) _ (by omega) (by omega) (by omega) (by rw [hn]; omega), hn, es, show l.length + 8 + 8 * d = l.length + 8 * (d + 1) by omega]
    simp only [List.append_assoc]
theorem wf_opts (s : SG) (k : Nat) (hk : 40 ≤ k) (h7 : s.f7 ≤ 65535) (h13 : s.f13.length ≤ 4) :
    wire_Options.f k s.f0 s.f1 s.f2 s.f3 s.f4 s.f5 s.f6 s.f7 s.f8 s.f9 s.f10 s.f11 s.f12 s.f13 s.f14 = some (opts s) := by
  obtain ⟨k, rfl⟩ : ∃ j, k = j + 40 := ⟨k - 40, by omega⟩
  have l1 := optMss_len s; have l2 := optScale_len s; have l3 := optOk_len s; have l4 := optStamp_len s; have l5 := optSacks_len s
  have j3 : ∀ (m : Nat) (l : List Int), 30 ≤ m → l.length ≤ 60 → wire_Options.j3 m l s.f0 s.f1 s.f2 s.f3 s.f4 s.f5 s.f6 s.f7 s.f8 s.f9 s.f10 s.f11 s.f12 s.f13 s.f14 = some (l ++ optSacks s ++ List.replicate (opad (l ++ optSacks s).length) 0) := by
    intro m l hm hl
    obtain ⟨m, rfl⟩ : ∃ j, m = j + 1 := ⟨m - 1, by omega⟩
    rw [wire_Options.j3, optSacks]
    by_cases h : (s.f13.length : Int) > 0
    · rw [if_pos h, if_pos (show 0 < s.f13.length by omega)]
      simp only [Option.bind_some]
      have hs := wf_sacks s.f13 (by omega) s.f13.length 0 m (l ++ [5, wrap64 (2 + wrap64 (8 * (s.f13.length : Int))) % 256]) (by omega) (by omega) (by omega) (by simp; omega)
      rw [show ((0 : Nat) : Int) = 0 from rfl, List.drop_zero] at hs
      rw [if_pos (by simp; omega), hs]
      rw [wg_w64 (n := 8 * (s.f13.length : Int)) (by omega) (by omega), wg_w64 (by omega) (by omega)]
      congr 1
      have e : (l ++ [5, (2 + 8 * (s.f13.length : Int)) % 256]).length + 8 * s.f13.length = (l ++ ([5, (2 + 8 * (s.f13.length : Int)) % 256] ++ sackB s.f13)).length := by simp [sackB_len]; omega
      rw [e]
      simp only [List.append_assoc]
    · rw [if_neg h, if_neg (show ¬ 0 < s.f13.length by omega), List.append_nil]
      have hp := wf_pad l.length (by omega)
      have hpb : opad l.length ≤ 3 := by unfold opad; omega
      rw [hp, if_pos (by omega), Int.toNat_natCast, if_pos (by omega)]
  have j2 : ∀ (m : Nat) (l : List Int), 31 ≤ m → l.length ≤ 50 → wire_Options.j2 m l s.f0 s.f1 s.f2 s.f3 s.f4 s.f5 s.f6 s.f7 s.f8 s.f9 s.f10 s.f11 s.f12 s.f13 s.f14 = some (l ++ optStamp s ++ optSacks s ++ List.replicate (opad (l ++ optStamp s ++ optSacks s).length) 0) := by
    intro m l hm hl
    obtain ⟨m, rfl⟩ : ∃ j, m = j + 5 + 1 := ⟨m - 6, by omega⟩
    rw [wire_Options.j2, optStamp]
    by_cases h : s.f10 = true
    · rw [if_pos h, if_pos h]
      simp only [Option.bind_some]
      rw [if_pos (by simp; omega), wf_put4 m _ _ (by simp; omega)]
      simp only [Option.bind_some]
      rw [wf_put4 m _ _ (by simp [be4]; omega)]
      simp only [Option.bind_some]
      rw [j3 (m + 5) _ (by omega) (by simp [be4]; omega)]
      simp only [List.append_assoc]
    · rw [if_neg h, if_neg h, List.append_nil, j3 (m + 5) _ (by omega) (by omega)]
  have j1 : ∀ (m : Nat) (l : List Int), 32 ≤ m → l.length ≤ 40 → wire_Options.j1 m l s.f0 s.f1 s.f2 s.f3 s.f4 s.f5 s.f6 s.f7 s.f8 s.f9 s.f10 s.f11 s.f12 s.f13 s.f14 = some (l ++ optOk s ++ optStamp s ++ optSacks s ++ List.replicate (opad (l ++ optOk s ++ optStamp s ++ optSacks s).length) 0) := by
    intro m l hm hl
    obtain ⟨m, rfl⟩ : ∃ j, m = j + 1 := ⟨m - 1, by omega⟩
    rw [wire_Options.j1, optOk]
    by_cases h : s.f9 = true
    · rw [if_pos h, if_pos h]
      simp only [Option.bind_some]
      rw [if_pos (by simp; omega), j2 m _ (by omega) (by simp; omega)]
    · rw [if_neg h, if_neg h, List.append_nil, j2 m _ (by omega) (by omega)]
  have j0 : ∀ (m : Nat) (l : List Int), 33 ≤ m → l.length ≤ 30 → wire_Options.j0 m l s.f0 s.f1 s.f2 s.f3 s.f4 s.f5 s.f6 s.f7 s.f8 s.f9 s.f10 s.f11 s.f12 s.f13 s.f14 = some (l ++ optScale s ++ optOk s ++ optStamp s ++ optSacks s ++ List.replicate (opad (l ++ optScale s ++ optOk s ++ optStamp s ++ optSacks s).length) 0) := by
    intro m l hm hl
    obtain ⟨m, rfl⟩ : ∃ j, m = j + 1 := ⟨m - 1, by omega⟩
    rw [wire_Options.j0, optScale]
    by_cases h : 0 ≤ s.f8
    · rw [if_pos (show s.f8 ≥ 0 from h), if_pos h]
      simp only [Option.bind_some]
      rw [if_pos (by simp; omega), j1 m _ (by omega) (by simp; omega)]
    · rw [if_neg (show ¬ s.f8 ≥ 0 from h), if_neg h, List.append_nil, j1 m _ (by omega) (by omega)]
  rw [wire_Options.f, opts, optsB, optMss]
  by_cases h : 0 ≤ s.f7
  · rw [if_pos (show s.f7 ≥ 0 from h), if_pos h]
    simp only [Option.bind_some]
    rw [if_pos (by simp), List.nil_append, show s.f7 % 4294967296 = s.f7 by omega, wf_put2 (k + 37) _ _ (by simp)]
    simp only [Option.bind_some]
    rw [j0 (k + 40) _ (by omega) (by simp [be2])]
  · rw [if_neg (show ¬ s.f7 ≥ 0 from h), if_neg h, j0 (k + 40) _ (by omega) (by simp)]
/-! ### checks -/
def w16 (n : Int) : Bool := decide (0 ≤ n) && decide (n ≤ 65535)
def chkPlain (s : SG) : Bool := (w16 s.f0 && (w16 s.f1 && (w16 s.f5 && (w16 s.f6 && w16 (mx s.f7 0))))) && (decide (-1 ≤ s.f7) && (decide (0 ≤ s.f4) && (decide (s.f4 ≤ 255) && (decide (-1 ≤ s.f8) && decide (s.f8 ≤ 14)))))
def chkRest (s : SG) : Bool := decide (s.f13.length ≤ 4) && (decide (s.f14.length ≤ 65000) && ((s.f10 || decide (Go.bits .or .u32 s.f11 s.f12 = 0)) && decide ((opts s).length ≤ 40)))
def chk (s : SG) : Bool := chkPlain s && chkRest s
theorem wf_words_l (l : List Int) (hl : l.length ≤ 100) : ∀ (d i k : Nat), l.length - i = d → i ≤ l.length → 2 * d < k → wire_words.l0 k l (l.length : Int) (i : Int) = some ((l.drop i).all w16) := by
  intro d
  induction d with
  | zero =>
    intro i k hd hi hk
    obtain ⟨k, rfl⟩ : ∃ j, k = j + 1 := ⟨k - 1, by omega⟩
    rw [wire_words.l0, if_neg (by omega), List.drop_of_length_le (by omega)]; rfl
  | succ d ih =>
    intro i k hd hi hk
    obtain ⟨k, rfl⟩ : ∃ j, k = j + 1 + 1 := ⟨k - 2, by omega⟩
    have hlt : i < l.length := by omega
    have hr : rd l (i : Int) = l[i] := by rw [rd, Int.toNat_natCast, List.getD_eq_getElem?_getD, List.getElem?_eq_getElem hlt]; rfl
    have hn := ih (i + 1) k (by omega) (by omega) (by omega)
    rw [wire_words.l0, if_pos (by omega), if_pos (by omega), if_pos (by omega), hr, wire_words.j1, wire_words.j1, wg_w64 (by omega) (by omega), show ((i : Int) + 1) = ((i + 1 : Nat) : Int) by rfl, hn, List.drop_eq_getElem_cons hlt, List.all_cons, w16]
    by_cases h0 : l[i] < 0
    · rw [if_pos h0, if_pos rfl, decide_eq_false (by omega : ¬ 0 ≤ l[i])]; rfl
    · rw [if_neg h0, decide_eq_true (by omega : 0 ≤ l[i])]
      by_cases h1 : l[i] > 65535
      · rw [decide_eq_true h1, if_pos rfl, decide_eq_false (by omega : ¬ l[i] ≤ 65535)]; rfl
      · rw [decide_eq_false h1, if_neg (by decide), decide_eq_true (by omega : l[i] ≤ 65535)]; rfl
theorem wf_words (l : List Int) (hl : l.length ≤ 100) (k : Nat) (hk : 2 * l.length < k) : wire_words.f k l = some (l.all w16) := by
  have := wf_words_l l hl l.length 0 k (by omega) (by omega) hk
  exact this
theorem wf_Check (s : SG) (k : Nat) (hk : 50 ≤ k) :
    wire_Check.f k s.f0 s.f1 s.f2 s.f3 s.f4 s.f5 s.f6 s.f7 s.f8 s.f9 s.f10 s.f11 s.f12 s.f13 s.f14 = some (if chk s = true then 0 else 2) := by
  obtain ⟨k, rfl⟩ : ∃ j, k = j + 1 + 1 := ⟨k - 2, by omega⟩
  have hj1 : ∀ b, wire_Check.j1 (k + 1) b = some (if b = true then 2 else 0) := fun b => by rw [wire_Check.j1]; cases b <;> rfl
  have hF : ∀ b : Bool, (b = true → s.f7 ≤ 65535) → wire_Check.j0 (k + 1 + 1) b s.f0 s.f1 s.f2 s.f3 s.f4 s.f5 s.f6 s.f7 s.f8 s.f9 s.f10 s.f11 s.f12 s.f13 s.f14 = some (if (b && chkRest s) = true then 0 else 2) := by
    intro b hb
    rw [wire_Check.j0]
    simp only [hj1]
    cases b with
    | false => rfl
    | true =>
      rw [if_pos rfl, chkRest]
      by_cases h1 : (s.f13.length : Int) > 4
      · rw [if_pos h1, decide_eq_false (by omega : ¬ s.f13.length ≤ 4)]; rfl
      rw [if_neg h1, decide_eq_true (by omega : s.f13.length ≤ 4)]
      by_cases h2 : (s.f14.length : Int) > 65000
      · rw [if_pos h2, decide_eq_false (by omega : ¬ s.f14.length ≤ 65000)]; rfl
      rw [if_neg h2, decide_eq_true (by omega : s.f14.length ≤ 65000), wf_opts s (k + 1) (by omega) (hb rfl) (by omega)]
      simp only [Option.bind_some]
      have hfin : (if decide (((opts s).length : Int) > 40) = true then (2 : Int) else 0) = if decide ((opts s).length ≤ 40) = true then 0 else 2 := by
        by_cases h : (opts s).length ≤ 40
        · rw [decide_eq_true h, decide_eq_false (by omega : ¬ ((opts s).length : Int) > 40)]; rfl
        · rw [decide_eq_false h, decide_eq_true (by omega : ((opts s).length : Int) > 40)]; rfl
      by_cases h3 : s.f10 = true
      · rw [if_pos h3, h3, hfin]; rfl
      · rw [if_neg h3, Bool.eq_false_iff.2 h3]
        by_cases h4 : Go.bits .or .u32 s.f11 s.f12 = 0
        · rw [if_pos h4, decide_eq_true h4, hfin]; rfl
        · rw [if_neg h4, decide_eq_false h4]; rfl
  rw [wire_Check.f, wf_words _ (by simp) _ (by simp; omega)]
  simp only [Option.bind_some, List.all_cons, List.all_nil, Bool.and_true]
  have hchk : chk s = ((w16 s.f0 && (w16 s.f1 && (w16 s.f5 && (w16 s.f6 && w16 (mx s.f7 0))))) && (decide (-1 ≤ s.f7) && (decide (0 ≤ s.f4) && (decide (s.f4 ≤ 255) && (decide (-1 ≤ s.f8) && decide (s.f8 ≤ 14))))) && chkRest s) := rfl
  obtain ⟨cc, hcc⟩ : ∃ c, chk s = c := ⟨_, rfl⟩
  rw [hcc]
  rw [hcc] at hchk
  subst hchk
  clear hcc
  obtain ⟨p, hp⟩ : ∃ p, (w16 s.f0 && (w16 s.f1 && (w16 s.f5 && (w16 s.f6 && w16 (mx s.f7 0))))) = p := ⟨_, rfl⟩
  have h7 : p = true → s.f7 ≤ 65535 := fun h => by
    rw [h] at hp
    simp only [Bool.and_eq_true, w16, decide_eq_true_eq] at hp
    have h1 := hp.2.2.2.2.2
    unfold mx at h1
    split at h1 <;> omega
  simp only [hp]
  cases p with
  | false => rw [if_neg (by decide), hF false (by simp)]; rfl
  | true =>
    rw [if_pos rfl]
    by_cases a1 : s.f7 ≥ -1
    · rw [if_pos a1, decide_eq_true (show -1 ≤ s.f7 from a1)]
      by_cases a2 : s.f4 ≥ 0
      · rw [if_pos a2, decide_eq_true (show 0 ≤ s.f4 from a2)]
        by_cases a3 : s.f4 ≤ 255
        · rw [if_pos a3, decide_eq_true a3]
          by_cases a4 : s.f8 ≥ -1
          · rw [if_pos a4, decide_eq_true (show -1 ≤ s.f8 from a4), hF _ (fun _ => h7 rfl)]; rfl
          · rw [if_neg a4, decide_eq_false (show ¬ -1 ≤ s.f8 from a4), hF false (by simp)]; rfl
        · rw [if_neg a3, decide_eq_false a3, hF false (by simp)]; rfl
      · rw [if_neg a2, decide_eq_false (show ¬ 0 ≤ s.f4 from a2), hF false (by simp)]; rfl
    · rw [if_neg a1, decide_eq_false (show ¬ -1 ≤ s.f7 from a1), hF false (by simp)]; rfl
end Go.Proofs.Ytenpekakmkemeaa.WireG

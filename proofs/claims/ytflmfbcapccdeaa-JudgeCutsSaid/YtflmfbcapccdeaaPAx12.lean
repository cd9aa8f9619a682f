-- Written for the seat Ytflmfbcapccdeaa by this session's program hyb.py (the print's functions, with externals typed by hand).
import Derived.Laws.BitsLemmas
import Derived.Test.YtflmfbcapccdeaaPAx0
import Derived.Test.YtflmfbcapccdeaaPAx11
namespace Go.Proofs.Ytflmfbcapccdeaa.PA
open Go.RowKit Go.Proofs.YtflmfbcapccdeaaW.PrintWords Go.Proofs.YtflmfbcapccdeaaW.PrintLast Go.Proofs.YtflmfbcapccdeaaW.PrintMore
attribute [local go_sem] max2_int min2_int max_two min_two max_three min_three max_four min_four   -- for this text's walks alone
set_option linter.unusedVariables false
set_option linter.unusedSimpArgs false

/-! ### bits_Div64: function 52 (typed by hand) -/
mutual
def bits_Div64r.j2 : Nat → Int → Int → Int → Int → Int → Int → Int → Int → Option (Int × Int)
 | 0, _, _, _, _, _, _, _, _ => none
 | k + 1, x2, x8, x9, x10, x11, x13, x14, x15 => if x9 = 0 then (none) else (bits_Div64r.l1 k x2 x8 x9 x10 x14 x15 (IntKind.u64.wrap ((IntKind.u64.wrap ((IntKind.u64.wrap ((IntKind.u64.wrap (x11 * 4294967296)) + x13)) - (IntKind.u64.wrap (x15 * x2)))) - (IntKind.u64.wrap ((IntKind.u64.wrap (Int.tdiv (IntKind.u64.wrap ((IntKind.u64.wrap ((IntKind.u64.wrap (x11 * 4294967296)) + x13)) - (IntKind.u64.wrap (x15 * x2)))) x9)) * x9)))) (IntKind.u64.wrap ((IntKind.u64.wrap ((IntKind.u64.wrap (x11 * 4294967296)) + x13)) - (IntKind.u64.wrap (x15 * x2)))) (IntKind.u64.wrap (Int.tdiv (IntKind.u64.wrap ((IntKind.u64.wrap ((IntKind.u64.wrap (x11 * 4294967296)) + x13)) - (IntKind.u64.wrap (x15 * x2)))) x9)))
def bits_Div64r.l1 : Nat → Int → Int → Int → Int → Int → Int → Int → Int → Int → Option (Int × Int)
 | 0, _, _, _, _, _, _, _, _, _ => none
 | k + 1, x2, x8, x9, x10, x14, x15, x16, x17, x18 => if x18 ≥ 4294967296 then (bits_Div64r.j4 k x2 x8 x9 x10 x14 x15 x16 x17 x18 true) else (bits_Div64r.j4 k x2 x8 x9 x10 x14 x15 x16 x17 x18 (decide ((IntKind.u64.wrap (x18 * x10)) > (IntKind.u64.wrap ((IntKind.u64.wrap (4294967296 * x16)) + x14)))))
def bits_Div64r.j4 : Nat → Int → Int → Int → Int → Int → Int → Int → Int → Int → Bool → Option (Int × Int)
 | 0, _, _, _, _, _, _, _, _, _, _ => none
 | k + 1, x2, x8, x9, x10, x14, x15, x16, x17, x18, x113 => if x113 = true then (if (IntKind.u64.wrap (x16 + x9)) ≥ 4294967296 then (if 0 ≤ x8 then (some (IntKind.u64.wrap ((IntKind.u64.wrap (x15 * 4294967296)) + (IntKind.u64.wrap (x18 - 1))), shr .u64 (IntKind.u64.wrap ((IntKind.u64.wrap ((IntKind.u64.wrap (x17 * 4294967296)) + x14)) - (IntKind.u64.wrap ((IntKind.u64.wrap (x18 - 1)) * x2)))) x8)) else (none)) else (bits_Div64r.l1 k x2 x8 x9 x10 x14 x15 (IntKind.u64.wrap (x16 + x9)) x17 (IntKind.u64.wrap (x18 - 1)))) else (if 0 ≤ x8 then (some (IntKind.u64.wrap ((IntKind.u64.wrap (x15 * 4294967296)) + x18), shr .u64 (IntKind.u64.wrap ((IntKind.u64.wrap ((IntKind.u64.wrap (x17 * 4294967296)) + x14)) - (IntKind.u64.wrap (x18 * x2)))) x8)) else (none))
def bits_Div64r.l0 : Nat → Int → Int → Int → Int → Int → Int → Int → Int → Int → Option (Int × Int)
 | 0, _, _, _, _, _, _, _, _, _ => none
 | k + 1, x2, x8, x9, x10, x11, x13, x14, x15, x16 => if x15 ≥ 4294967296 then (bits_Div64r.j1 k x2 x8 x9 x10 x11 x13 x14 x15 x16 true) else (bits_Div64r.j1 k x2 x8 x9 x10 x11 x13 x14 x15 x16 (decide ((IntKind.u64.wrap (x15 * x10)) > (IntKind.u64.wrap ((IntKind.u64.wrap (4294967296 * x16)) + x13)))))
def bits_Div64r.j1 : Nat → Int → Int → Int → Int → Int → Int → Int → Int → Int → Bool → Option (Int × Int)
 | 0, _, _, _, _, _, _, _, _, _, _ => none
 | k + 1, x2, x8, x9, x10, x11, x13, x14, x15, x16, x78 => if x78 = true then (if (IntKind.u64.wrap (x16 + x9)) ≥ 4294967296 then (bits_Div64r.j2 k x2 x8 x9 x10 x11 x13 x14 (IntKind.u64.wrap (x15 - 1))) else (bits_Div64r.l0 k x2 x8 x9 x10 x11 x13 x14 (IntKind.u64.wrap (x15 - 1)) (IntKind.u64.wrap (x16 + x9)))) else (bits_Div64r.j2 k x2 x8 x9 x10 x11 x13 x14 x15)
end
def bits_Div64r.f (k : Nat) (a0 : Int) (a1 : Int) (a2 : Int) : Option (Int × Int) := if a0 = 0 then (if a2 = 0 then (none) else (some (IntKind.u64.wrap (Int.tdiv a1 a2), Int.tmod a1 a2))) else ((bits_LeadingZeros64.f k a2).bind fun t104 => (if 0 ≤ (IntKind.u64.wrap (t104)) then (if 0 ≤ (IntKind.u64.wrap (64 - (IntKind.u64.wrap (t104)))) then (if ((shl .u64 a2 (IntKind.u64.wrap (t104))) / 4294967296) = 0 then (none) else (bits_Div64r.l0 k (shl .u64 a2 (IntKind.u64.wrap (t104))) (IntKind.u64.wrap (t104)) ((shl .u64 a2 (IntKind.u64.wrap (t104))) / 4294967296) (Go.bits .and .u64 (shl .u64 a2 (IntKind.u64.wrap (t104))) 4294967295) (Go.bits .or .u64 (shl .u64 a0 (IntKind.u64.wrap (t104))) (shr .u64 a1 (IntKind.u64.wrap (64 - (IntKind.u64.wrap (t104)))))) ((shl .u64 a1 (IntKind.u64.wrap (t104))) / 4294967296) (Go.bits .and .u64 (shl .u64 a1 (IntKind.u64.wrap (t104))) 4294967295) (IntKind.u64.wrap (Int.tdiv (Go.bits .or .u64 (shl .u64 a0 (IntKind.u64.wrap (t104))) (shr .u64 a1 (IntKind.u64.wrap (64 - (IntKind.u64.wrap (t104)))))) ((shl .u64 a2 (IntKind.u64.wrap (t104))) / 4294967296))) (IntKind.u64.wrap ((Go.bits .or .u64 (shl .u64 a0 (IntKind.u64.wrap (t104))) (shr .u64 a1 (IntKind.u64.wrap (64 - (IntKind.u64.wrap (t104)))))) - (IntKind.u64.wrap ((IntKind.u64.wrap (Int.tdiv (Go.bits .or .u64 (shl .u64 a0 (IntKind.u64.wrap (t104))) (shr .u64 a1 (IntKind.u64.wrap (64 - (IntKind.u64.wrap (t104)))))) ((shl .u64 a2 (IntKind.u64.wrap (t104))) / 4294967296))) * ((shl .u64 a2 (IntKind.u64.wrap (t104))) / 4294967296))))))) else (none)) else (none)))
set_option maxHeartbeats 8000000 in
set_option maxRecDepth 100000 in
theorem bits_Div64r.calls (k : Nat) (a0 : Int) (a1 : Int) (a2 : Int) (r1 : Int) (r2 : Int) (w : World) (g0 : (a2 == 0) = false) (g1 : decide (a2 ≤ a0) = false) (h : bits_Div64r.f k a0 a1 a2 = some (r1, r2)) :
  Calls Try.prog 52 #[.int .u64 a0, .int .u64 a1, .int .u64 a2] w fun e w' => e = .returned (.tuple #[.int .u64 r1, .int .u64 r2]) ∧ Drawn0 w w' := by
 have H : (if a0 = 0 then (if a2 = 0 then (none) else (some (IntKind.u64.wrap (Int.tdiv a1 a2), Int.tmod a1 a2))) else ((bits_LeadingZeros64.f k a2).bind fun t104 => (if 0 ≤ (IntKind.u64.wrap (t104)) then (if 0 ≤ (IntKind.u64.wrap (64 - (IntKind.u64.wrap (t104)))) then (if ((shl .u64 a2 (IntKind.u64.wrap (t104))) / 4294967296) = 0 then (none) else (bits_Div64r.l0 k (shl .u64 a2 (IntKind.u64.wrap (t104))) (IntKind.u64.wrap (t104)) ((shl .u64 a2 (IntKind.u64.wrap (t104))) / 4294967296) (Go.bits .and .u64 (shl .u64 a2 (IntKind.u64.wrap (t104))) 4294967295) (Go.bits .or .u64 (shl .u64 a0 (IntKind.u64.wrap (t104))) (shr .u64 a1 (IntKind.u64.wrap (64 - (IntKind.u64.wrap (t104)))))) ((shl .u64 a1 (IntKind.u64.wrap (t104))) / 4294967296) (Go.bits .and .u64 (shl .u64 a1 (IntKind.u64.wrap (t104))) 4294967295) (IntKind.u64.wrap (Int.tdiv (Go.bits .or .u64 (shl .u64 a0 (IntKind.u64.wrap (t104))) (shr .u64 a1 (IntKind.u64.wrap (64 - (IntKind.u64.wrap (t104)))))) ((shl .u64 a2 (IntKind.u64.wrap (t104))) / 4294967296))) (IntKind.u64.wrap ((Go.bits .or .u64 (shl .u64 a0 (IntKind.u64.wrap (t104))) (shr .u64 a1 (IntKind.u64.wrap (64 - (IntKind.u64.wrap (t104)))))) - (IntKind.u64.wrap ((IntKind.u64.wrap (Int.tdiv (Go.bits .or .u64 (shl .u64 a0 (IntKind.u64.wrap (t104))) (shr .u64 a1 (IntKind.u64.wrap (64 - (IntKind.u64.wrap (t104)))))) ((shl .u64 a2 (IntKind.u64.wrap (t104))) / 4294967296))) * ((shl .u64 a2 (IntKind.u64.wrap (t104))) / 4294967296))))))) else (none)) else (none)))) = some (r1, r2) := h
 clear h
 by_cases c4 : a0 = 0
 ·rw [if_pos c4] at H
  have c4b0 : (a0 == 0) = true := beq_iff_eq.mpr c4
  have c4b1 : (a0 != 0) = false := bne_eq_false_iff_eq.mpr c4
  clear c4
  by_cases c5 : a2 = 0
  ·rw [if_pos c5] at H
   exact absurd H (by simp)
  ·rw [if_neg c5] at H
   have c5b0 : (a2 == 0) = false := beq_eq_false_iff_ne.mpr c5
   have c5b1 : (a2 != 0) = true := bne_iff_ne.mpr c5
   simp only [Option.some.injEq, Prod.mk.injEq] at H
   obtain ⟨rfl, rfl⟩ := H
   go_enter Try.func52, Try.ntmps52
   go_wp2
   repeat (go_quiet (fail); try go_wp2)
   go_ret2
   exact ⟨by first | rfl | (simp; done) | (simp [*]; done), by repeat (first | exact Drawn0.refl _ | apply Drawn0.step)⟩
 ·rw [if_neg c4] at H
  have c4b0 : (a0 == 0) = false := beq_eq_false_iff_ne.mpr c4
  have c4b1 : (a0 != 0) = true := bne_iff_ne.mpr c4
  replace H := Option.bind_eq_some_iff.mp H
  obtain ⟨t104, A60, H⟩ := H
  replace H : (if 0 ≤ (IntKind.u64.wrap (t104)) then (if 0 ≤ (IntKind.u64.wrap (64 - (IntKind.u64.wrap (t104)))) then (if ((shl .u64 a2 (IntKind.u64.wrap (t104))) / 4294967296) = 0 then (none) else (bits_Div64r.l0 k (shl .u64 a2 (IntKind.u64.wrap (t104))) (IntKind.u64.wrap (t104)) ((shl .u64 a2 (IntKind.u64.wrap (t104))) / 4294967296) (Go.bits .and .u64 (shl .u64 a2 (IntKind.u64.wrap (t104))) 4294967295) (Go.bits .or .u64 (shl .u64 a0 (IntKind.u64.wrap (t104))) (shr .u64 a1 (IntKind.u64.wrap (64 - (IntKind.u64.wrap (t104)))))) ((shl .u64 a1 (IntKind.u64.wrap (t104))) / 4294967296) (Go.bits .and .u64 (shl .u64 a1 (IntKind.u64.wrap (t104))) 4294967295) (IntKind.u64.wrap (Int.tdiv (Go.bits .or .u64 (shl .u64 a0 (IntKind.u64.wrap (t104))) (shr .u64 a1 (IntKind.u64.wrap (64 - (IntKind.u64.wrap (t104)))))) ((shl .u64 a2 (IntKind.u64.wrap (t104))) / 4294967296))) (IntKind.u64.wrap ((Go.bits .or .u64 (shl .u64 a0 (IntKind.u64.wrap (t104))) (shr .u64 a1 (IntKind.u64.wrap (64 - (IntKind.u64.wrap (t104)))))) - (IntKind.u64.wrap ((IntKind.u64.wrap (Int.tdiv (Go.bits .or .u64 (shl .u64 a0 (IntKind.u64.wrap (t104))) (shr .u64 a1 (IntKind.u64.wrap (64 - (IntKind.u64.wrap (t104)))))) ((shl .u64 a2 (IntKind.u64.wrap (t104))) / 4294967296))) * ((shl .u64 a2 (IntKind.u64.wrap (t104))) / 4294967296))))))) else (none)) else (none)) = some (r1, r2) := H
  have A6 := Aside0.mk A60
  clear A60
  obtain ⟨ji7, hji7⟩ : ∃ j_ : Int, (IntKind.u64.wrap (t104)) = j_ := ⟨_, rfl⟩
  replace H : (if 0 ≤ (ji7) then (if 0 ≤ (IntKind.u64.wrap (64 - (ji7))) then (if ((shl .u64 a2 (ji7)) / 4294967296) = 0 then (none) else (bits_Div64r.l0 k (shl .u64 a2 (ji7)) ji7 ((shl .u64 a2 (ji7)) / 4294967296) (Go.bits .and .u64 (shl .u64 a2 (ji7)) 4294967295) (Go.bits .or .u64 (shl .u64 a0 (ji7)) (shr .u64 a1 (IntKind.u64.wrap (64 - (ji7))))) ((shl .u64 a1 (ji7)) / 4294967296) (Go.bits .and .u64 (shl .u64 a1 (ji7)) 4294967295) (IntKind.u64.wrap (Int.tdiv (Go.bits .or .u64 (shl .u64 a0 (ji7)) (shr .u64 a1 (IntKind.u64.wrap (64 - (ji7))))) ((shl .u64 a2 (ji7)) / 4294967296))) (IntKind.u64.wrap ((Go.bits .or .u64 (shl .u64 a0 (ji7)) (shr .u64 a1 (IntKind.u64.wrap (64 - (ji7))))) - (IntKind.u64.wrap ((IntKind.u64.wrap (Int.tdiv (Go.bits .or .u64 (shl .u64 a0 (ji7)) (shr .u64 a1 (IntKind.u64.wrap (64 - (ji7))))) ((shl .u64 a2 (ji7)) / 4294967296))) * ((shl .u64 a2 (ji7)) / 4294967296))))))) else (none)) else (none)) = some (r1, r2) := by first | (rw [hji7] at H; exact H) | (simp only [hji7] at H ⊢; exact H)
  (try rw [hji7] at A6)
  by_cases c8 : 0 ≤ (ji7)
  ·rw [if_pos c8] at H
   have c8b0 := eq_true c8
   have c8b1 : decide (0 ≤ (ji7)) = true := decide_eq_true c8
   clear c8
   obtain ⟨ji9, hji9⟩ : ∃ j_ : Int, (shl .u64 a2 (ji7)) = j_ := ⟨_, rfl⟩
   replace H : (if 0 ≤ (IntKind.u64.wrap (64 - (ji7))) then (if ((ji9) / 4294967296) = 0 then (none) else (bits_Div64r.l0 k ji9 ji7 ((ji9) / 4294967296) (Go.bits .and .u64 (ji9) 4294967295) (Go.bits .or .u64 (shl .u64 a0 (ji7)) (shr .u64 a1 (IntKind.u64.wrap (64 - (ji7))))) ((shl .u64 a1 (ji7)) / 4294967296) (Go.bits .and .u64 (shl .u64 a1 (ji7)) 4294967295) (IntKind.u64.wrap (Int.tdiv (Go.bits .or .u64 (shl .u64 a0 (ji7)) (shr .u64 a1 (IntKind.u64.wrap (64 - (ji7))))) ((ji9) / 4294967296))) (IntKind.u64.wrap ((Go.bits .or .u64 (shl .u64 a0 (ji7)) (shr .u64 a1 (IntKind.u64.wrap (64 - (ji7))))) - (IntKind.u64.wrap ((IntKind.u64.wrap (Int.tdiv (Go.bits .or .u64 (shl .u64 a0 (ji7)) (shr .u64 a1 (IntKind.u64.wrap (64 - (ji7))))) ((ji9) / 4294967296))) * ((ji9) / 4294967296))))))) else (none)) = some (r1, r2) := by first | (rw [hji9] at H; exact H) | (simp only [hji9] at H ⊢; exact H)
   (try rw [hji9] at A6)
   have hji9_ : (IntKind.u64.wrap (a2 * 2 ^ min (ji7).toNat 64)) = ji9 := hji9
   have hji9z : (ji7) ≤ 64 → (IntKind.u64.wrap (a2 * 2 ^ (ji7).toNat)) = ji9 := shl_small hji9
   have c10b0 := eq_true (of_decide_eq_true (by first | (with_reducible assumption) | assumption) : 0 ≤ (ji7))
   obtain ⟨ji11, hji11⟩ : ∃ j_ : Int, (shl .u64 a0 (ji7)) = j_ := ⟨_, rfl⟩
   replace H : (if 0 ≤ (IntKind.u64.wrap (64 - (ji7))) then (if ((ji9) / 4294967296) = 0 then (none) else (bits_Div64r.l0 k ji9 ji7 ((ji9) / 4294967296) (Go.bits .and .u64 (ji9) 4294967295) (Go.bits .or .u64 (ji11) (shr .u64 a1 (IntKind.u64.wrap (64 - (ji7))))) ((shl .u64 a1 (ji7)) / 4294967296) (Go.bits .and .u64 (shl .u64 a1 (ji7)) 4294967295) (IntKind.u64.wrap (Int.tdiv (Go.bits .or .u64 (ji11) (shr .u64 a1 (IntKind.u64.wrap (64 - (ji7))))) ((ji9) / 4294967296))) (IntKind.u64.wrap ((Go.bits .or .u64 (ji11) (shr .u64 a1 (IntKind.u64.wrap (64 - (ji7))))) - (IntKind.u64.wrap ((IntKind.u64.wrap (Int.tdiv (Go.bits .or .u64 (ji11) (shr .u64 a1 (IntKind.u64.wrap (64 - (ji7))))) ((ji9) / 4294967296))) * ((ji9) / 4294967296))))))) else (none)) = some (r1, r2) := by first | (rw [hji11] at H; exact H) | (simp only [hji11] at H ⊢; exact H)
   (try rw [hji11] at A6)
   have hji11_ : (IntKind.u64.wrap (a0 * 2 ^ min (ji7).toNat 64)) = ji11 := hji11
   have hji11z : (ji7) ≤ 64 → (IntKind.u64.wrap (a0 * 2 ^ (ji7).toNat)) = ji11 := shl_small hji11
   obtain ⟨ji12, hji12⟩ : ∃ j_ : Int, (IntKind.u64.wrap (64 - (ji7))) = j_ := ⟨_, rfl⟩
   replace H : (if 0 ≤ (ji12) then (if ((ji9) / 4294967296) = 0 then (none) else (bits_Div64r.l0 k ji9 ji7 ((ji9) / 4294967296) (Go.bits .and .u64 (ji9) 4294967295) (Go.bits .or .u64 (ji11) (shr .u64 a1 (ji12))) ((shl .u64 a1 (ji7)) / 4294967296) (Go.bits .and .u64 (shl .u64 a1 (ji7)) 4294967295) (IntKind.u64.wrap (Int.tdiv (Go.bits .or .u64 (ji11) (shr .u64 a1 (ji12))) ((ji9) / 4294967296))) (IntKind.u64.wrap ((Go.bits .or .u64 (ji11) (shr .u64 a1 (ji12))) - (IntKind.u64.wrap ((IntKind.u64.wrap (Int.tdiv (Go.bits .or .u64 (ji11) (shr .u64 a1 (ji12))) ((ji9) / 4294967296))) * ((ji9) / 4294967296))))))) else (none)) = some (r1, r2) := by first | (rw [hji12] at H; exact H) | (simp only [hji12] at H ⊢; exact H)
   (try rw [hji12] at A6)
   by_cases c13 : 0 ≤ (ji12)
   ·rw [if_pos c13] at H
    have c13b0 := eq_true c13
    have c13b1 : decide (0 ≤ (ji12)) = true := decide_eq_true c13
    clear c13
    obtain ⟨ji14, hji14⟩ : ∃ j_ : Int, (shr .u64 a1 (ji12)) = j_ := ⟨_, rfl⟩
    replace H : (if ((ji9) / 4294967296) = 0 then (none) else (bits_Div64r.l0 k ji9 ji7 ((ji9) / 4294967296) (Go.bits .and .u64 (ji9) 4294967295) (Go.bits .or .u64 (ji11) (ji14)) ((shl .u64 a1 (ji7)) / 4294967296) (Go.bits .and .u64 (shl .u64 a1 (ji7)) 4294967295) (IntKind.u64.wrap (Int.tdiv (Go.bits .or .u64 (ji11) (ji14)) ((ji9) / 4294967296))) (IntKind.u64.wrap ((Go.bits .or .u64 (ji11) (ji14)) - (IntKind.u64.wrap ((IntKind.u64.wrap (Int.tdiv (Go.bits .or .u64 (ji11) (ji14)) ((ji9) / 4294967296))) * ((ji9) / 4294967296))))))) = some (r1, r2) := by first | (rw [hji14] at H; exact H) | (simp only [hji14] at H ⊢; exact H)
    (try rw [hji14] at A6)
    have hji14_ : (a1 / 2 ^ min (ji12).toNat 64) = ji14 := hji14
    have hji14z : (ji12) ≤ 64 → (a1 / 2 ^ (ji12).toNat) = ji14 := shr_small hji14
    have c15b0 := eq_true (of_decide_eq_true (by first | (with_reducible assumption) | assumption) : 0 ≤ (ji7))
    obtain ⟨ji16, hji16⟩ : ∃ j_ : Int, (shl .u64 a1 (ji7)) = j_ := ⟨_, rfl⟩
    replace H : (if ((ji9) / 4294967296) = 0 then (none) else (bits_Div64r.l0 k ji9 ji7 ((ji9) / 4294967296) (Go.bits .and .u64 (ji9) 4294967295) (Go.bits .or .u64 (ji11) (ji14)) ((ji16) / 4294967296) (Go.bits .and .u64 (ji16) 4294967295) (IntKind.u64.wrap (Int.tdiv (Go.bits .or .u64 (ji11) (ji14)) ((ji9) / 4294967296))) (IntKind.u64.wrap ((Go.bits .or .u64 (ji11) (ji14)) - (IntKind.u64.wrap ((IntKind.u64.wrap (Int.tdiv (Go.bits .or .u64 (ji11) (ji14)) ((ji9) / 4294967296))) * ((ji9) / 4294967296))))))) = some (r1, r2) := by first | (rw [hji16] at H; exact H) | (simp only [hji16] at H ⊢; exact H)
    (try rw [hji16] at A6)
    have hji16_ : (IntKind.u64.wrap (a1 * 2 ^ min (ji7).toNat 64)) = ji16 := hji16
    have hji16z : (ji7) ≤ 64 → (IntKind.u64.wrap (a1 * 2 ^ (ji7).toNat)) = ji16 := shl_small hji16
    by_cases c17 : ((ji9) / 4294967296) = 0
    ·rw [if_pos c17] at H
     exact absurd H (by simp)
    ·rw [if_neg c17] at H
     have c17b0 : (((ji9) / 4294967296) == 0) = false := beq_eq_false_iff_ne.mpr c17
     have c17b1 : (((ji9) / 4294967296) != 0) = true := bne_iff_ne.mpr c17
     have HC18 := Aside0.mk H
     clear H
     go_enter Try.func52, Try.ntmps52
     go_upto_block 0 with (first | (go_at_call 70; (with_reducible refine (bits_LeadingZeros64.calls k a2 t104 _ A6.out).mono ?_); rintro e w' ⟨rfl, ⟨nd, rfl⟩⟩; (try first | exact ⟨rfl, _, World.drewN_drewN _ _ _⟩ | exact ⟨rfl, _, Eq.trans (World.drewN_drewN _ _ _) (congrArg (World.drewN _) (Nat.add_assoc _ _ _))⟩)))
     repeat (go_quiet (first | (go_at_call 70; (with_reducible refine (bits_LeadingZeros64.calls k a2 t104 _ A6.out).mono ?_); rintro e w' ⟨rfl, ⟨nd, rfl⟩⟩; (try first | exact ⟨rfl, _, World.drewN_drewN _ _ _⟩ | exact ⟨rfl, _, Eq.trans (World.drewN_drewN _ _ _) (congrArg (World.drewN _) (Nat.add_assoc _ _ _))⟩))); go_upto_block 0 with (first | (go_at_call 70; (with_reducible refine (bits_LeadingZeros64.calls k a2 t104 _ A6.out).mono ?_); rintro e w' ⟨rfl, ⟨nd, rfl⟩⟩; (try first | exact ⟨rfl, _, World.drewN_drewN _ _ _⟩ | exact ⟨rfl, _, Eq.trans (World.drewN_drewN _ _ _) (congrArg (World.drewN _) (Nat.add_assoc _ _ _))⟩))))
     (try simp only [Act.put, sA_, sZ_, sS_])
     go_cut [15] (fun v15 wc => ∃ (kq : Nat) (x15_17 : Int), v15 = .int .u64 x15_17 ∧ Aside0 (bits_Div64r.j2 kq ji9 ji7 ((ji9) / 4294967296) (Go.bits .and .u64 (ji9) 4294967295) (Go.bits .or .u64 (ji11) (ji14)) ((ji16) / 4294967296) (Go.bits .and .u64 (ji16) 4294967295) x15_17 = some (r1, r2)) ∧ Aside0 (kq ≤ k) ∧ Drawn0 w wc)
     case first =>
      have H := HC18.out
      clear HC18
      have H' := Aside0.mk H
      clear H
      go_wp2
      repeat (go_quiet (fail); try go_wp2)
      go_loopg [15, 16] k (fun kq v15 v16 w' => ∃ (x15_1 : Int) (x16_1 : Int), v15 = .int .u64 x15_1 ∧ v16 = .int .u64 x16_1 ∧ Aside0 (bits_Div64r.l0 kq ji9 ji7 ((ji9) / 4294967296) (Go.bits .and .u64 (ji9) 4294967295) (Go.bits .or .u64 (ji11) (ji14)) ((ji16) / 4294967296) (Go.bits .and .u64 (ji16) 4294967295) x15_1 x16_1 = some (r1, r2)) ∧ Aside0 (kq ≤ k) ∧ Drawn0 w w')
      case atStart => exact ⟨(IntKind.u64.wrap (Int.tdiv (Go.bits .or .u64 (ji11) (ji14)) ((ji9) / 4294967296))), (IntKind.u64.wrap ((Go.bits .or .u64 (ji11) (ji14)) - (IntKind.u64.wrap ((IntKind.u64.wrap (Int.tdiv (Go.bits .or .u64 (ji11) (ji14)) ((ji9) / 4294967296))) * ((ji9) / 4294967296))))), (by first | rfl | (simp; done) | (simp only [← hji9, ← hji11, ← hji14] <;> (first | rfl | simp)) | (simp [*]; done)), (by first | rfl | (simp; done) | (simp only [← hji9, ← hji11, ← hji14] <;> (first | rfl | simp)) | (simp [*]; done)), H', ⟨Nat.le_refl _⟩, by repeat (first | exact Drawn0.refl _ | apply Drawn0.step)⟩
      case round =>
       clear H'
       try clear c1
       try clear p2
       try clear c4
       try clear c4b0
       try clear c4b1
       try clear c5
       try clear c5b0
       try clear c5b1
       try clear c8
       try clear c8b0
       try clear c8b1
       try clear c10
       try clear c10b0
       try clear c13
       try clear c13b0
       try clear c13b1
       try clear c15
       try clear c15b0
       try clear c16
       try clear c17
       try clear c17b0
       try clear c17b1
       obtain ⟨x15_1, x16_1, rfl, rfl, HA, HK1, ⟨m1, rfl⟩⟩ := hrel
       cases gk with
       | zero => exact absurd HA.out (by simp [bits_Div64r.l0])
       | succ k1 =>
        have H := HA.out
        clear HA
        simp only [bits_Div64r.l0] at H
        have HC19 := Aside0.mk H
        clear H
        go_upto_region 17 with (fail)
        repeat (go_quiet (fail); go_upto_region 17 with (fail))
        go_cut [78] (fun v78 wc => ∃ (kq : Nat) (x78_18 : Bool), v78 = .bool x78_18 ∧ Aside0 (bits_Div64r.j1 kq ji9 ji7 ((ji9) / 4294967296) (Go.bits .and .u64 (ji9) 4294967295) (Go.bits .or .u64 (ji11) (ji14)) ((ji16) / 4294967296) (Go.bits .and .u64 (ji16) 4294967295) x15_1 x16_1 x78_18 = some (r1, r2)) ∧ Aside0 (kq ≤ k1) ∧ Drawn0 w wc)
        case first =>
         have H := HC19.out
         clear HC19
         by_cases c20 : x15_1 ≥ 4294967296
         ·rw [if_pos c20] at H
          have c20b0 : decide (4294967296 ≤ x15_1) = true := decide_eq_true c20
          clear c20
          (first | rw [c20b0] | (simp only [i64_w, i32_w]; rw [c20b0]) | skip)
          have H' := Aside0.mk H
          clear H
          go_wp2
          repeat (go_quiet (fail); try go_wp2)
          go_meet
          case rel => exact ⟨_, (true), (by first | rfl | (simp; done) | (simp [*]; done)), H', ⟨by have := HK1.out; first | omega | exact Nat.le_refl _⟩, by repeat (first | exact Drawn0.refl _ | apply Drawn0.step)⟩
         ·rw [if_neg c20] at H
          have c20b0 : decide (4294967296 ≤ x15_1) = false := decide_eq_false c20
          clear c20
          (first | rw [c20b0] | (simp only [i64_w, i32_w]; rw [c20b0]) | skip)
          have H' := Aside0.mk H
          clear H
          go_wp2
          repeat (go_quiet (fail); try go_wp2)
          go_meet
          case rel => exact ⟨_, (decide ((IntKind.u64.wrap (x15_1 * (Go.bits .and .u64 (ji9) 4294967295))) > (IntKind.u64.wrap ((IntKind.u64.wrap (4294967296 * x16_1)) + ((ji16) / 4294967296))))), (by first | rfl | (simp; done) | (simp only [← hji9, ← hji16] <;> (first | rfl | simp)) | (simp [*]; done)), H', ⟨by have := HK1.out; first | omega | exact Nat.le_refl _⟩, by repeat (first | exact Drawn0.refl _ | apply Drawn0.step)⟩
        case rest =>
         clear HC19
         try clear c1
         try clear c2
         try clear p2
         try clear c4
         try clear c4b0
         try clear c4b1
         try clear c5
         try clear c5b0
         try clear c5b1
         try clear c8
         try clear c8b0
         try clear c8b1
         try clear c10
         try clear c10b0
         try clear c13
         try clear c13b0
         try clear c13b1
         try clear c15
         try clear c15b0
         try clear c16
         try clear c17
         try clear c17b0
         try clear c17b1
         try clear c20
         try clear c20b0
         try clear p2
         obtain ⟨kq, x78_18, rfl, HA, HJ18, ⟨mc18, rfl⟩⟩ := hcut
         cases kq with
         | zero => exact absurd HA.out (by simp [bits_Div64r.j1])
         | succ kj18 =>
          have H := HA.out
          clear HA
          simp only [bits_Div64r.j1] at H
          by_cases c21 : x78_18 = true
          ·subst c21
           have H1 : (if (IntKind.u64.wrap (x16_1 + ((ji9) / 4294967296))) ≥ 4294967296 then (bits_Div64r.j2 kj18 ji9 ji7 ((ji9) / 4294967296) (Go.bits .and .u64 (ji9) 4294967295) (Go.bits .or .u64 (ji11) (ji14)) ((ji16) / 4294967296) (Go.bits .and .u64 (ji16) 4294967295) (IntKind.u64.wrap (x15_1 - 1))) else (bits_Div64r.l0 kj18 ji9 ji7 ((ji9) / 4294967296) (Go.bits .and .u64 (ji9) 4294967295) (Go.bits .or .u64 (ji11) (ji14)) ((ji16) / 4294967296) (Go.bits .and .u64 (ji16) 4294967295) (IntKind.u64.wrap (x15_1 - 1)) (IntKind.u64.wrap (x16_1 + ((ji9) / 4294967296))))) = some (r1, r2) := by rw [if_pos rfl] at H; exact H
           clear H
           have H := H1
           clear H1
           by_cases c22 : (IntKind.u64.wrap (x16_1 + ((ji9) / 4294967296))) ≥ 4294967296
           ·rw [if_pos c22] at H
            have c22b0 : decide (4294967296 ≤ (IntKind.u64.wrap (x16_1 + ((ji9) / 4294967296)))) = true := decide_eq_true c22
            clear c22
            have H' := Aside0.mk H
            clear H
            go_wp2
            repeat (go_quiet (fail); try go_wp2)
            go_meet
            case rel => exact ⟨_, (IntKind.u64.wrap (x15_1 - 1)), (by first | rfl | (simp; done) | (simp [*]; done)), H', ⟨by have := HK1.out; have := HJ18.out; first | omega | exact Nat.le_refl _⟩, by repeat (first | exact Drawn0.refl _ | apply Drawn0.step)⟩
           ·rw [if_neg c22] at H
            have c22b0 : decide (4294967296 ≤ (IntKind.u64.wrap (x16_1 + ((ji9) / 4294967296)))) = false := decide_eq_false c22
            clear c22
            have H' := Aside0.mk H
            clear H
            go_wp2
            repeat (go_quiet (fail); try go_wp2)
            go_roundg kj18
            case measure => have := HK1.out; have := HJ18.out; omega
            case rel => exact ⟨(IntKind.u64.wrap (x15_1 - 1)), (IntKind.u64.wrap (x16_1 + ((ji9) / 4294967296))), (by first | rfl | (simp; done) | (simp [*]; done)), (by first | rfl | (simp; done) | (simp only [← hji9] <;> (first | rfl | simp)) | (simp [*]; done)), H', ⟨by have := HK1.out; have := HJ18.out; omega⟩, by repeat (first | exact Drawn0.refl _ | apply Drawn0.step)⟩
          ·replace c21 := Bool.eq_false_iff.mpr c21
           subst c21
           have H1 : (bits_Div64r.j2 kj18 ji9 ji7 ((ji9) / 4294967296) (Go.bits .and .u64 (ji9) 4294967295) (Go.bits .or .u64 (ji11) (ji14)) ((ji16) / 4294967296) (Go.bits .and .u64 (ji16) 4294967295) x15_1) = some (r1, r2) := by rw [if_neg (show ¬ (false = true) by decide)] at H; exact H
           clear H
           have H := H1
           clear H1
           have H' := Aside0.mk H
           clear H
           go_wp2
           repeat (go_quiet (fail); try go_wp2)
           go_meet
           case rel => exact ⟨_, (x15_1), (by first | rfl | (simp; done) | (simp [*]; done)), H', ⟨by have := HK1.out; have := HJ18.out; first | omega | exact Nat.le_refl _⟩, by repeat (first | exact Drawn0.refl _ | apply Drawn0.step)⟩
     case rest =>
      clear HC18
      try clear c1
      try clear c2
      try clear p2
      try clear c4
      try clear c4b0
      try clear c4b1
      try clear c5
      try clear c5b0
      try clear c5b1
      try clear c8
      try clear c8b0
      try clear c8b1
      try clear c10
      try clear c10b0
      try clear c13
      try clear c13b0
      try clear c13b1
      try clear c15
      try clear c15b0
      try clear c16
      try clear c17
      try clear c17b0
      try clear c17b1
      try clear c18
      try clear c20
      try clear c20b0
      try clear c21
      try clear c22
      try clear c22b0
      try clear p2
      obtain ⟨kq, x15_17, rfl, HA, HJ17, ⟨mc17, rfl⟩⟩ := hcut
      cases kq with
      | zero => exact absurd HA.out (by simp [bits_Div64r.j2])
      | succ kj17 =>
       have H := HA.out
       clear HA
       simp only [bits_Div64r.j2] at H
       by_cases c23 : ((ji9) / 4294967296) = 0
       ·rw [if_pos c23] at H
        exact absurd H (by simp)
       ·rw [if_neg c23] at H
        have c23b0 : (((ji9) / 4294967296) == 0) = false := beq_eq_false_iff_ne.mpr c23
        have c23b1 : (((ji9) / 4294967296) != 0) = true := bne_iff_ne.mpr c23
        have H' := Aside0.mk H
        clear H
        go_wp2
        repeat (go_quiet (fail); try go_wp2)
        go_loopg [16, 18] kj17 (fun kq v16 v18 w' => ∃ (x16_2 : Int) (x18_2 : Int), v16 = .int .u64 x16_2 ∧ v18 = .int .u64 x18_2 ∧ Aside0 (bits_Div64r.l1 kq ji9 ji7 ((ji9) / 4294967296) (Go.bits .and .u64 (ji9) 4294967295) (Go.bits .and .u64 (ji16) 4294967295) x15_17 x16_2 (IntKind.u64.wrap ((IntKind.u64.wrap ((IntKind.u64.wrap ((Go.bits .or .u64 (ji11) (ji14)) * 4294967296)) + ((ji16) / 4294967296))) - (IntKind.u64.wrap (x15_17 * ji9)))) x18_2 = some (r1, r2)) ∧ Aside0 (kq ≤ kj17) ∧ Drawn0 w w')
        case atStart => exact ⟨(IntKind.u64.wrap ((IntKind.u64.wrap ((IntKind.u64.wrap ((IntKind.u64.wrap ((Go.bits .or .u64 (ji11) (ji14)) * 4294967296)) + ((ji16) / 4294967296))) - (IntKind.u64.wrap (x15_17 * ji9)))) - (IntKind.u64.wrap ((IntKind.u64.wrap (Int.tdiv (IntKind.u64.wrap ((IntKind.u64.wrap ((IntKind.u64.wrap ((Go.bits .or .u64 (ji11) (ji14)) * 4294967296)) + ((ji16) / 4294967296))) - (IntKind.u64.wrap (x15_17 * ji9)))) ((ji9) / 4294967296))) * ((ji9) / 4294967296))))), (IntKind.u64.wrap (Int.tdiv (IntKind.u64.wrap ((IntKind.u64.wrap ((IntKind.u64.wrap ((Go.bits .or .u64 (ji11) (ji14)) * 4294967296)) + ((ji16) / 4294967296))) - (IntKind.u64.wrap (x15_17 * ji9)))) ((ji9) / 4294967296))), (by first | rfl | (simp; done) | (simp only [← hji9, ← hji11, ← hji14, ← hji16] <;> (first | rfl | simp)) | (simp [*]; done)), (by first | rfl | (simp; done) | (simp only [← hji9, ← hji11, ← hji14, ← hji16] <;> (first | rfl | simp)) | (simp [*]; done)), H', ⟨Nat.le_refl _⟩, by repeat (first | exact Drawn0.refl _ | apply Drawn0.step)⟩
        case round =>
         clear H'
         try clear c1
         try clear c2
         try clear p2
         try clear c4
         try clear c4b0
         try clear c4b1
         try clear c5
         try clear c5b0
         try clear c5b1
         try clear c8
         try clear c8b0
         try clear c8b1
         try clear c10
         try clear c10b0
         try clear c13
         try clear c13b0
         try clear c13b1
         try clear c15
         try clear c15b0
         try clear c16
         try clear c17
         try clear c17b0
         try clear c17b1
         try clear c18
         try clear c20
         try clear c20b0
         try clear c21
         try clear c22
         try clear c22b0
         try clear c23
         try clear c23b0
         try clear c23b1
         try clear p2
         obtain ⟨x16_2, x18_2, rfl, rfl, HA, HK2, ⟨m2, rfl⟩⟩ := hrel
         cases gk with
         | zero => exact absurd HA.out (by simp [bits_Div64r.l1])
         | succ k2 =>
          have H := HA.out
          clear HA
          simp only [bits_Div64r.l1] at H
          have HC24 := Aside0.mk H
          clear H
          go_upto_region 24 with (fail)
          repeat (go_quiet (fail); go_upto_region 24 with (fail))
          go_cut [113] (fun v113 wc => ∃ (kq : Nat) (x113_23 : Bool), v113 = .bool x113_23 ∧ Aside0 (bits_Div64r.j4 kq ji9 ji7 ((ji9) / 4294967296) (Go.bits .and .u64 (ji9) 4294967295) (Go.bits .and .u64 (ji16) 4294967295) x15_17 x16_2 (IntKind.u64.wrap ((IntKind.u64.wrap ((IntKind.u64.wrap ((Go.bits .or .u64 (ji11) (ji14)) * 4294967296)) + ((ji16) / 4294967296))) - (IntKind.u64.wrap (x15_17 * ji9)))) x18_2 x113_23 = some (r1, r2)) ∧ Aside0 (kq ≤ k2) ∧ Drawn0 w wc)
          case first =>
           have H := HC24.out
           clear HC24
           by_cases c25 : x18_2 ≥ 4294967296
           ·rw [if_pos c25] at H
            have c25b0 : decide (4294967296 ≤ x18_2) = true := decide_eq_true c25
            clear c25
            (first | rw [c25b0] | (simp only [i64_w, i32_w]; rw [c25b0]) | skip)
            have H' := Aside0.mk H
            clear H
            go_wp2
            repeat (go_quiet (fail); try go_wp2)
            go_meet
            case rel => exact ⟨_, (true), (by first | rfl | (simp; done) | (simp [*]; done)), H', ⟨by have := HJ17.out; have := HK2.out; first | omega | exact Nat.le_refl _⟩, by repeat (first | exact Drawn0.refl _ | apply Drawn0.step)⟩
           ·rw [if_neg c25] at H
            have c25b0 : decide (4294967296 ≤ x18_2) = false := decide_eq_false c25
            clear c25
            (first | rw [c25b0] | (simp only [i64_w, i32_w]; rw [c25b0]) | skip)
            have H' := Aside0.mk H
            clear H
            go_wp2
            repeat (go_quiet (fail); try go_wp2)
            go_meet
            case rel => exact ⟨_, (decide ((IntKind.u64.wrap (x18_2 * (Go.bits .and .u64 (ji9) 4294967295))) > (IntKind.u64.wrap ((IntKind.u64.wrap (4294967296 * x16_2)) + (Go.bits .and .u64 (ji16) 4294967295))))), (by first | rfl | (simp; done) | (simp only [← hji9, ← hji16] <;> (first | rfl | simp)) | (simp [*]; done)), H', ⟨by have := HJ17.out; have := HK2.out; first | omega | exact Nat.le_refl _⟩, by repeat (first | exact Drawn0.refl _ | apply Drawn0.step)⟩
          case rest =>
           clear HC24
           try clear c1
           try clear c2
           try clear p2
           try clear c4
           try clear c4b0
           try clear c4b1
           try clear c5
           try clear c5b0
           try clear c5b1
           try clear c8
           try clear c8b0
           try clear c8b1
           try clear c10
           try clear c10b0
           try clear c13
           try clear c13b0
           try clear c13b1
           try clear c15
           try clear c15b0
           try clear c16
           try clear c17
           try clear c17b0
           try clear c17b1
           try clear c18
           try clear c20
           try clear c20b0
           try clear c21
           try clear c22
           try clear c22b0
           try clear c23
           try clear c23b0
           try clear c23b1
           try clear c25
           try clear c25b0
           try clear p2
           obtain ⟨kq, x113_23, rfl, HA, HJ23, ⟨mc23, rfl⟩⟩ := hcut
           cases kq with
           | zero => exact absurd HA.out (by simp [bits_Div64r.j4])
           | succ kj23 =>
            have H := HA.out
            clear HA
            simp only [bits_Div64r.j4] at H
            by_cases c26 : x113_23 = true
            ·subst c26
             have H1 : (if (IntKind.u64.wrap (x16_2 + ((ji9) / 4294967296))) ≥ 4294967296 then (if 0 ≤ ji7 then (some (IntKind.u64.wrap ((IntKind.u64.wrap (x15_17 * 4294967296)) + (IntKind.u64.wrap (x18_2 - 1))), shr .u64 (IntKind.u64.wrap ((IntKind.u64.wrap ((IntKind.u64.wrap ((IntKind.u64.wrap ((IntKind.u64.wrap ((IntKind.u64.wrap ((Go.bits .or .u64 (ji11) (ji14)) * 4294967296)) + ((ji16) / 4294967296))) - (IntKind.u64.wrap (x15_17 * ji9)))) * 4294967296)) + (Go.bits .and .u64 (ji16) 4294967295))) - (IntKind.u64.wrap ((IntKind.u64.wrap (x18_2 - 1)) * ji9)))) ji7)) else (none)) else (bits_Div64r.l1 kj23 ji9 ji7 ((ji9) / 4294967296) (Go.bits .and .u64 (ji9) 4294967295) (Go.bits .and .u64 (ji16) 4294967295) x15_17 (IntKind.u64.wrap (x16_2 + ((ji9) / 4294967296))) (IntKind.u64.wrap ((IntKind.u64.wrap ((IntKind.u64.wrap ((Go.bits .or .u64 (ji11) (ji14)) * 4294967296)) + ((ji16) / 4294967296))) - (IntKind.u64.wrap (x15_17 * ji9)))) (IntKind.u64.wrap (x18_2 - 1)))) = some (r1, r2) := by rw [if_pos rfl] at H; exact H
             clear H
             have H := H1
             clear H1
             by_cases c27 : (IntKind.u64.wrap (x16_2 + ((ji9) / 4294967296))) ≥ 4294967296
             ·rw [if_pos c27] at H
              have c27b0 : decide (4294967296 ≤ (IntKind.u64.wrap (x16_2 + ((ji9) / 4294967296)))) = true := decide_eq_true c27
              clear c27
              by_cases c28 : 0 ≤ ji7
              ·rw [if_pos c28] at H
               have c28b0 := eq_true c28
               have c28b1 : decide (0 ≤ ji7) = true := decide_eq_true c28
               clear c28
               obtain ⟨ji29, hji29⟩ : ∃ j_ : Int, (shr .u64 (IntKind.u64.wrap ((IntKind.u64.wrap ((IntKind.u64.wrap ((IntKind.u64.wrap ((IntKind.u64.wrap ((IntKind.u64.wrap ((Go.bits .or .u64 (ji11) (ji14)) * 4294967296)) + ((ji16) / 4294967296))) - (IntKind.u64.wrap (x15_17 * ji9)))) * 4294967296)) + (Go.bits .and .u64 (ji16) 4294967295))) - (IntKind.u64.wrap ((IntKind.u64.wrap (x18_2 - 1)) * ji9)))) ji7) = j_ := ⟨_, rfl⟩
               replace H : (some (IntKind.u64.wrap ((IntKind.u64.wrap (x15_17 * 4294967296)) + (IntKind.u64.wrap (x18_2 - 1))), ji29)) = some (r1, r2) := by first | (rw [hji29] at H; exact H) | (simp only [hji29] at H ⊢; exact H)
               have hji29_ : ((IntKind.u64.wrap ((IntKind.u64.wrap ((IntKind.u64.wrap ((IntKind.u64.wrap ((IntKind.u64.wrap ((IntKind.u64.wrap ((Go.bits .or .u64 (ji11) (ji14)) * 4294967296)) + ((ji16) / 4294967296))) - (IntKind.u64.wrap (x15_17 * ji9)))) * 4294967296)) + (Go.bits .and .u64 (ji16) 4294967295))) - (IntKind.u64.wrap ((IntKind.u64.wrap (x18_2 - 1)) * ji9)))) / 2 ^ min ji7.toNat 64) = ji29 := hji29
               have hji29z : ji7 ≤ 64 → ((IntKind.u64.wrap ((IntKind.u64.wrap ((IntKind.u64.wrap ((IntKind.u64.wrap ((IntKind.u64.wrap ((IntKind.u64.wrap ((Go.bits .or .u64 (ji11) (ji14)) * 4294967296)) + ((ji16) / 4294967296))) - (IntKind.u64.wrap (x15_17 * ji9)))) * 4294967296)) + (Go.bits .and .u64 (ji16) 4294967295))) - (IntKind.u64.wrap ((IntKind.u64.wrap (x18_2 - 1)) * ji9)))) / 2 ^ ji7.toNat) = ji29 := shr_small hji29
               simp only [Option.some.injEq, Prod.mk.injEq] at H
               obtain ⟨rfl, rfl⟩ := H
               go_wp2
               repeat (go_quiet (fail); try go_wp2)
               go_ret2
               exact ⟨by first | rfl | (simp; done) | (simp only [← hji7, ← hji9, ← hji11, ← hji12, ← hji14, ← hji16, ← hji29] <;> (first | rfl | simp)) | (simp [*]; done), by repeat (first | exact Drawn0.refl _ | apply Drawn0.step)⟩
              ·rw [if_neg c28] at H
               exact absurd H (by simp)
             ·rw [if_neg c27] at H
              have c27b0 : decide (4294967296 ≤ (IntKind.u64.wrap (x16_2 + ((ji9) / 4294967296)))) = false := decide_eq_false c27
              clear c27
              have H' := Aside0.mk H
              clear H
              go_wp2
              repeat (go_quiet (fail); try go_wp2)
              go_roundg kj23
              case measure => have := HJ17.out; have := HK2.out; have := HJ23.out; omega
              case rel => exact ⟨(IntKind.u64.wrap (x16_2 + ((ji9) / 4294967296))), (IntKind.u64.wrap (x18_2 - 1)), (by first | rfl | (simp; done) | (simp only [← hji9] <;> (first | rfl | simp)) | (simp [*]; done)), (by first | rfl | (simp; done) | (simp [*]; done)), H', ⟨by have := HJ17.out; have := HK2.out; have := HJ23.out; omega⟩, by repeat (first | exact Drawn0.refl _ | apply Drawn0.step)⟩
            ·replace c26 := Bool.eq_false_iff.mpr c26
             subst c26
             have H1 : (if 0 ≤ ji7 then (some (IntKind.u64.wrap ((IntKind.u64.wrap (x15_17 * 4294967296)) + x18_2), shr .u64 (IntKind.u64.wrap ((IntKind.u64.wrap ((IntKind.u64.wrap ((IntKind.u64.wrap ((IntKind.u64.wrap ((IntKind.u64.wrap ((Go.bits .or .u64 (ji11) (ji14)) * 4294967296)) + ((ji16) / 4294967296))) - (IntKind.u64.wrap (x15_17 * ji9)))) * 4294967296)) + (Go.bits .and .u64 (ji16) 4294967295))) - (IntKind.u64.wrap (x18_2 * ji9)))) ji7)) else (none)) = some (r1, r2) := by rw [if_neg (show ¬ (false = true) by decide)] at H; exact H
             clear H
             have H := H1
             clear H1
             by_cases c30 : 0 ≤ ji7
             ·rw [if_pos c30] at H
              have c30b0 := eq_true c30
              have c30b1 : decide (0 ≤ ji7) = true := decide_eq_true c30
              clear c30
              obtain ⟨ji31, hji31⟩ : ∃ j_ : Int, (shr .u64 (IntKind.u64.wrap ((IntKind.u64.wrap ((IntKind.u64.wrap ((IntKind.u64.wrap ((IntKind.u64.wrap ((IntKind.u64.wrap ((Go.bits .or .u64 (ji11) (ji14)) * 4294967296)) + ((ji16) / 4294967296))) - (IntKind.u64.wrap (x15_17 * ji9)))) * 4294967296)) + (Go.bits .and .u64 (ji16) 4294967295))) - (IntKind.u64.wrap (x18_2 * ji9)))) ji7) = j_ := ⟨_, rfl⟩
              replace H : (some (IntKind.u64.wrap ((IntKind.u64.wrap (x15_17 * 4294967296)) + x18_2), ji31)) = some (r1, r2) := by first | (rw [hji31] at H; exact H) | (simp only [hji31] at H ⊢; exact H)
              have hji31_ : ((IntKind.u64.wrap ((IntKind.u64.wrap ((IntKind.u64.wrap ((IntKind.u64.wrap ((IntKind.u64.wrap ((IntKind.u64.wrap ((Go.bits .or .u64 (ji11) (ji14)) * 4294967296)) + ((ji16) / 4294967296))) - (IntKind.u64.wrap (x15_17 * ji9)))) * 4294967296)) + (Go.bits .and .u64 (ji16) 4294967295))) - (IntKind.u64.wrap (x18_2 * ji9)))) / 2 ^ min ji7.toNat 64) = ji31 := hji31
              have hji31z : ji7 ≤ 64 → ((IntKind.u64.wrap ((IntKind.u64.wrap ((IntKind.u64.wrap ((IntKind.u64.wrap ((IntKind.u64.wrap ((IntKind.u64.wrap ((Go.bits .or .u64 (ji11) (ji14)) * 4294967296)) + ((ji16) / 4294967296))) - (IntKind.u64.wrap (x15_17 * ji9)))) * 4294967296)) + (Go.bits .and .u64 (ji16) 4294967295))) - (IntKind.u64.wrap (x18_2 * ji9)))) / 2 ^ ji7.toNat) = ji31 := shr_small hji31
              simp only [Option.some.injEq, Prod.mk.injEq] at H
              obtain ⟨rfl, rfl⟩ := H
              go_wp2
              repeat (go_quiet (fail); try go_wp2)
              go_ret2
              exact ⟨by first | rfl | (simp; done) | (simp only [← hji7, ← hji9, ← hji11, ← hji12, ← hji14, ← hji16, ← hji31] <;> (first | rfl | simp)) | (simp [*]; done), by repeat (first | exact Drawn0.refl _ | apply Drawn0.step)⟩
             ·rw [if_neg c30] at H
              exact absurd H (by simp)
   ·rw [if_neg c13] at H
    exact absurd H (by simp)
  ·rw [if_neg c8] at H
   exact absurd H (by simp)

-- NOT PRINTED: function 13 (prr_share)

-- NOT PRINTED: function 8 (prr_Given)
/-! ### The division of 128 bits by 64, plain -/
theorem dv_w (n : Int) : IntKind.u64.wrap n = n % 18446744073709551616 := by simp [IntKind.wrap, IntKind.bits, IntKind.signed]
/-- The second half: the digit's loop, and what it answers. -/
theorem dv_l1 (Y yn1 yn0 un x15 x17 x8 : Int) (hY : Y = yn1 * 4294967296 + yn0) (h1 : 2147483648 ≤ yn1) (h1' : yn1 < 4294967296) (h0 : 0 ≤ yn0) (h0' : yn0 < 4294967296) (hu : 0 ≤ un) (hu' : un < 4294967296) (hx0 : 0 ≤ x17) (hx : x17 < Y) (h8 : 0 ≤ x8) :
  ∀ (m k : Nat) (q rh : Int), 0 ≤ q → q ≤ 4294967297 → 0 ≤ rh → rh < 4294967296 → 4294967296 ≤ rh + m * 2147483648 → q * yn1 + rh = x17 → x17 * 4294967296 + un < q * Y + Y → 2 * m + 4 ≤ k →
   ∃ q' : Int, 0 ≤ q' ∧ q' < 4294967296 ∧ q' * Y ≤ x17 * 4294967296 + un ∧ x17 * 4294967296 + un < q' * Y + Y ∧
    bits_Div64r.l1 k Y x8 yn1 yn0 un x15 rh x17 q = some (IntKind.u64.wrap ((IntKind.u64.wrap (x15 * 4294967296)) + q'), shr .u64 (x17 * 4294967296 + un - q' * Y) x8) := by
 have hYlt : Y < 18446744073709551616 := by omega
 -- the answer, where the digit is right
 have fin : ∀ q' : Int, 0 ≤ q' → q' * Y ≤ x17 * 4294967296 + un → x17 * 4294967296 + un < q' * Y + Y →
   IntKind.u64.wrap ((IntKind.u64.wrap ((IntKind.u64.wrap (x17 * 4294967296)) + un)) - (IntKind.u64.wrap (q' * Y))) = x17 * 4294967296 + un - q' * Y := by
  intro q' _ ha hb
  simp only [dv_w]
  generalize q' * Y = z at ha hb ⊢
  omega
 have small : ∀ q' : Int, q' * Y ≤ x17 * 4294967296 + un → q' < 4294967296 := by
  intro q' ha
  refine Int.not_le.mp fun hq => ?_
  have : 4294967296 * Y ≤ q' * Y := Int.mul_le_mul_of_nonneg_right hq (by omega)
  omega
 intro m
 induction m with
 | zero => intro k q rh _ _ _ h _ ; omega
 | succ m ih =>
  intro k q rh hq0 hq1 hr0 hr1 hm hqr hN hk
  obtain ⟨k, rfl⟩ : ∃ j, k = j + 2 := ⟨k - 2, by omega⟩
  have hqY : q * Y = q * yn1 * 4294967296 + q * yn0 := by rw [hY, Int.mul_add, Int.mul_assoc]
  have hqT : q * yn0 ≤ q * 4294967295 := Int.mul_le_mul_of_nonneg_left (by omega) hq0
  have hqT0 : 0 ≤ q * yn0 := Int.mul_nonneg hq0 h0
  -- the step down
  have down : 1 ≤ q → x17 * 4294967296 + un < q * Y →
    ∃ q' : Int, 0 ≤ q' ∧ q' < 4294967296 ∧ q' * Y ≤ x17 * 4294967296 + un ∧ x17 * 4294967296 + un < q' * Y + Y ∧
    bits_Div64r.j4 (k + 1) Y x8 yn1 yn0 un x15 rh x17 q true = some (IntKind.u64.wrap ((IntKind.u64.wrap (x15 * 4294967296)) + q'), shr .u64 (x17 * 4294967296 + un - q' * Y) x8) := by
   intro hq hlt
   have e1 : (q - 1) * Y = q * Y - Y := by rw [Int.sub_mul, Int.one_mul]
   have e2 : (q - 1) * yn1 = q * yn1 - yn1 := by rw [Int.sub_mul, Int.one_mul]
   have e3 : (q - 1) * yn0 = q * yn0 - yn0 := by rw [Int.sub_mul, Int.one_mul]
   have e4 : (q - 1) * yn0 ≤ (q - 1) * 4294967295 := Int.mul_le_mul_of_nonneg_left (by omega) (by omega)
   have w1 : IntKind.u64.wrap (q - 1) = q - 1 := by rw [dv_w]; omega
   have w2 : IntKind.u64.wrap (rh + yn1) = rh + yn1 := by rw [dv_w]; omega
   rw [bits_Div64r.j4, if_pos rfl, w1, w2]
   by_cases hb : rh + yn1 ≥ 4294967296
   ·rw [if_pos hb, if_pos h8]
    have ha : (q - 1) * Y ≤ x17 * 4294967296 + un := by omega
    have hc : x17 * 4294967296 + un < (q - 1) * Y + Y := by omega
    exact ⟨q - 1, by omega, small _ ha, ha, hc, by rw [fin (q - 1) (by omega) ha hc]⟩
   ·rw [if_neg hb]
    exact ih k (q - 1) (rh + yn1) (by omega) (by omega) (by omega) (by omega) (by omega) (by omega) (by omega) (by omega)
  rw [bits_Div64r.l1]
  by_cases hB : q ≥ 4294967296
  ·rw [if_pos hB]
   have : 4294967296 * Y ≤ q * Y := Int.mul_le_mul_of_nonneg_right hB (by omega)
   exact down (by omega) (by omega)
  ·rw [if_neg hB]
   have w1 : IntKind.u64.wrap (q * yn0) = q * yn0 := by rw [dv_w]; omega
   have w2 : IntKind.u64.wrap ((IntKind.u64.wrap (4294967296 * rh)) + un) = 4294967296 * rh + un := by simp only [dv_w]; omega
   rw [w1, w2]
   by_cases hc : q * yn0 > 4294967296 * rh + un
   ·rw [decide_eq_true hc]
    refine down ?_ (by omega)
    refine Int.not_lt.mp fun hq => ?_
    have : q = 0 := by omega
    rw [this, Int.zero_mul] at hc
    omega
   ·rw [decide_eq_false hc, bits_Div64r.j4, if_neg (by simp), if_pos h8]
    have ha : q * Y ≤ x17 * 4294967296 + un := by omega
    exact ⟨q, hq0, by omega, ha, hN, by rw [fin q hq0 ha hN]⟩
/-- The first half: the digit's loop leads to the second. -/
theorem dv_l0 (Y yn1 yn0 un un0 x11 x8 : Int) (hY : Y = yn1 * 4294967296 + yn0) (h1 : 2147483648 ≤ yn1) (h1' : yn1 < 4294967296) (h0 : 0 ≤ yn0) (h0' : yn0 < 4294967296) (hu : 0 ≤ un) (hu' : un < 4294967296) (hx0 : 0 ≤ x11) (hx : x11 < Y) :
  ∀ (m k : Nat) (q rh : Int), 0 ≤ q → q ≤ 4294967297 → 0 ≤ rh → rh < 4294967296 → 4294967296 ≤ rh + m * 2147483648 → q * yn1 + rh = x11 → x11 * 4294967296 + un < q * Y + Y → 2 * m + 4 ≤ k →
   ∃ (q' : Int) (k' : Nat), 0 ≤ q' ∧ q' < 4294967296 ∧ q' * Y ≤ x11 * 4294967296 + un ∧ x11 * 4294967296 + un < q' * Y + Y ∧ k ≤ k' + 2 * m + 4 ∧
    bits_Div64r.l0 k Y x8 yn1 yn0 x11 un un0 q rh = bits_Div64r.j2 k' Y x8 yn1 yn0 x11 un un0 q' := by
 have hYlt : Y < 18446744073709551616 := by omega
 have small : ∀ q' : Int, q' * Y ≤ x11 * 4294967296 + un → q' < 4294967296 := by
  intro q' ha
  refine Int.not_le.mp fun hq => ?_
  have : 4294967296 * Y ≤ q' * Y := Int.mul_le_mul_of_nonneg_right hq (by omega)
  omega
 intro m
 induction m with
 | zero => intro k q rh _ _ _ h _ ; omega
 | succ m ih =>
  intro k q rh hq0 hq1 hr0 hr1 hm hqr hN hk
  obtain ⟨k, rfl⟩ : ∃ j, k = j + 2 := ⟨k - 2, by omega⟩
  have hqY : q * Y = q * yn1 * 4294967296 + q * yn0 := by rw [hY, Int.mul_add, Int.mul_assoc]
  have hqT : q * yn0 ≤ q * 4294967295 := Int.mul_le_mul_of_nonneg_left (by omega) hq0
  have hqT0 : 0 ≤ q * yn0 := Int.mul_nonneg hq0 h0
  have down : 1 ≤ q → x11 * 4294967296 + un < q * Y →
    ∃ (q' : Int) (k' : Nat), 0 ≤ q' ∧ q' < 4294967296 ∧ q' * Y ≤ x11 * 4294967296 + un ∧ x11 * 4294967296 + un < q' * Y + Y ∧ k + 2 ≤ k' + 2 * (m + 1) + 4 ∧
    bits_Div64r.j1 (k + 1) Y x8 yn1 yn0 x11 un un0 q rh true = bits_Div64r.j2 k' Y x8 yn1 yn0 x11 un un0 q' := by
   intro hq hlt
   have e1 : (q - 1) * Y = q * Y - Y := by rw [Int.sub_mul, Int.one_mul]
   have e2 : (q - 1) * yn1 = q * yn1 - yn1 := by rw [Int.sub_mul, Int.one_mul]
   have e3 : (q - 1) * yn0 = q * yn0 - yn0 := by rw [Int.sub_mul, Int.one_mul]
   have e4 : (q - 1) * yn0 ≤ (q - 1) * 4294967295 := Int.mul_le_mul_of_nonneg_left (by omega) (by omega)
   have w1 : IntKind.u64.wrap (q - 1) = q - 1 := by rw [dv_w]; omega
   have w2 : IntKind.u64.wrap (rh + yn1) = rh + yn1 := by rw [dv_w]; omega
   rw [bits_Div64r.j1, if_pos rfl, w1, w2]
   by_cases hb : rh + yn1 ≥ 4294967296
   ·rw [if_pos hb]
    have ha : (q - 1) * Y ≤ x11 * 4294967296 + un := by omega
    exact ⟨q - 1, k, by omega, small _ ha, ha, by omega, by omega, rfl⟩
   ·rw [if_neg hb]
    obtain ⟨q', k', a1, a2, a3, a4, a5, a6⟩ := ih k (q - 1) (rh + yn1) (by omega) (by omega) (by omega) (by omega) (by omega) (by omega) (by omega) (by omega)
    exact ⟨q', k', a1, a2, a3, a4, by omega, a6⟩
  rw [bits_Div64r.l0]
  by_cases hB : q ≥ 4294967296
  ·rw [if_pos hB]
   have : 4294967296 * Y ≤ q * Y := Int.mul_le_mul_of_nonneg_right hB (by omega)
   exact down (by omega) (by omega)
  ·rw [if_neg hB]
   have w1 : IntKind.u64.wrap (q * yn0) = q * yn0 := by rw [dv_w]; omega
   have w2 : IntKind.u64.wrap ((IntKind.u64.wrap (4294967296 * rh)) + un) = 4294967296 * rh + un := by simp only [dv_w]; omega
   rw [w1, w2]
   by_cases hc : q * yn0 > 4294967296 * rh + un
   ·rw [decide_eq_true hc]
    refine down ?_ (by omega)
    refine Int.not_lt.mp fun hq => ?_
    have : q = 0 := by omega
    rw [this, Int.zero_mul] at hc
    omega
   ·rw [decide_eq_false hc, bits_Div64r.j1, if_neg (by simp)]
    exact ⟨q, k, hq0, by omega, by omega, hN, by omega, rfl⟩
abbrev dv_tab : ByteArray := ⟨#[0, 1, 2, 2, 3, 3, 3, 3, 4, 4, 4, 4, 4, 4, 4, 4, 5, 5, 5, 5, 5, 5, 5, 5, 5, 5, 5, 5, 5, 5, 5, 5, 6, 6, 6, 6, 6, 6, 6, 6, 6, 6, 6, 6, 6, 6, 6, 6, 6, 6, 6, 6, 6, 6, 6, 6, 6, 6, 6, 6, 6, 6, 6, 6, 7, 7, 7, 7, 7, 7, 7, 7, 7, 7, 7, 7, 7, 7, 7, 7, 7, 7, 7, 7, 7, 7, 7, 7, 7, 7, 7, 7, 7, 7, 7, 7, 7, 7, 7, 7, 7, 7, 7, 7, 7, 7, 7, 7, 7, 7, 7, 7, 7, 7, 7, 7, 7, 7, 7, 7, 7, 7, 7, 7, 7, 7, 7, 7, 8, 8, 8, 8, 8, 8, 8, 8, 8, 8, 8, 8, 8, 8, 8, 8, 8, 8, 8, 8, 8, 8, 8, 8, 8, 8, 8, 8, 8, 8, 8, 8, 8, 8, 8, 8, 8, 8, 8, 8, 8, 8, 8, 8, 8, 8, 8, 8, 8, 8, 8, 8, 8, 8, 8, 8, 8, 8, 8, 8, 8, 8, 8, 8, 8, 8, 8, 8, 8, 8, 8, 8, 8, 8, 8, 8, 8, 8, 8, 8, 8, 8, 8, 8, 8, 8, 8, 8, 8, 8, 8, 8, 8, 8, 8, 8, 8, 8, 8, 8, 8, 8, 8, 8, 8, 8, 8, 8, 8, 8, 8, 8, 8, 8, 8, 8, 8, 8, 8, 8, 8, 8, 8, 8, 8, 8, 8, 8]⟩
def dv_len (b : Nat) : Int := if b < 2 then 1 else if b < 4 then 2 else if b < 8 then 3 else if b < 16 then 4 else if b < 32 then 5 else if b < 64 then 6 else if b < 128 then 7 else 8
theorem dv_tab_all : ∀ b : Fin 256, 1 ≤ b.val → bt dv_tab (b.val : Int) = dv_len b.val := by decide +kernel
theorem dv_cases (i : Int) (h1 : 1 ≤ i) (h2 : i < 256) : (bt dv_tab i = 1 ∧ 1 ≤ i ∧ i < 2) ∨ (bt dv_tab i = 2 ∧ 2 ≤ i ∧ i < 4) ∨ (bt dv_tab i = 3 ∧ 4 ≤ i ∧ i < 8) ∨ (bt dv_tab i = 4 ∧ 8 ≤ i ∧ i < 16) ∨ (bt dv_tab i = 5 ∧ 16 ≤ i ∧ i < 32) ∨ (bt dv_tab i = 6 ∧ 32 ≤ i ∧ i < 64) ∨ (bt dv_tab i = 7 ∧ 64 ≤ i ∧ i < 128) ∨ (bt dv_tab i = 8 ∧ 128 ≤ i ∧ i < 256) := by
 obtain ⟨b, rfl⟩ : ∃ b : Nat, i = b := ⟨i.toNat, by omega⟩
 have h := dv_tab_all ⟨b, by omega⟩ (by show 1 ≤ b; omega)
 have h' : bt dv_tab (b : Int) = dv_len b := h
 rw [h']
 unfold dv_len
 repeat' split
 all_goals omega
theorem dv_lz (k : Nat) (x : Int) (h1 : 1 ≤ x) (h2 : x < 18446744073709551616) : ∃ s : Nat, s ≤ 63 ∧ bits_LeadingZeros64.f (k + 1) x = some (s : Int) ∧ 9223372036854775808 ≤ x * 2 ^ s ∧ x * 2 ^ s < 18446744073709551616 := by
 unfold bits_LeadingZeros64.f bits_Len64.f
 by_cases c0 : x ≥ 4294967296
 ·rw [if_pos c0, bits_Len64.j0]
  by_cases c1 : x / 4294967296 ≥ 65536
  ·rw [if_pos c1]
   by_cases c2 : (x / 4294967296) / 65536 ≥ 256
   ·rw [if_pos c2]
    rw [if_pos (show 0 ≤ (x / 4294967296) / 65536 / 256 % 256 by omega), if_pos (show (x / 4294967296) / 65536 / 256 % 256 < 256 by omega)]
    have hz : (x / 4294967296) / 65536 / 256 % 256 = x / 72057594037927936 := by omega
    rw [hz]
    rcases dv_cases (x / 72057594037927936) (by omega) (by omega) with ⟨e, f, g⟩ | ⟨e, f, g⟩ | ⟨e, f, g⟩ | ⟨e, f, g⟩ | ⟨e, f, g⟩ | ⟨e, f, g⟩ | ⟨e, f, g⟩ | ⟨e, f, g⟩
    ·exact ⟨7, by decide, by rw [e]; exact congrArg some (by unfold wrap64; omega), by rw [show (2 : Int) ^ 7 = 128 by decide]; omega, by rw [show (2 : Int) ^ 7 = 128 by decide]; omega⟩
    ·exact ⟨6, by decide, by rw [e]; exact congrArg some (by unfold wrap64; omega), by rw [show (2 : Int) ^ 6 = 64 by decide]; omega, by rw [show (2 : Int) ^ 6 = 64 by decide]; omega⟩
    ·exact ⟨5, by decide, by rw [e]; exact congrArg some (by unfold wrap64; omega), by rw [show (2 : Int) ^ 5 = 32 by decide]; omega, by rw [show (2 : Int) ^ 5 = 32 by decide]; omega⟩
    ·exact ⟨4, by decide, by rw [e]; exact congrArg some (by unfold wrap64; omega), by rw [show (2 : Int) ^ 4 = 16 by decide]; omega, by rw [show (2 : Int) ^ 4 = 16 by decide]; omega⟩
    ·exact ⟨3, by decide, by rw [e]; exact congrArg some (by unfold wrap64; omega), by rw [show (2 : Int) ^ 3 = 8 by decide]; omega, by rw [show (2 : Int) ^ 3 = 8 by decide]; omega⟩
    ·exact ⟨2, by decide, by rw [e]; exact congrArg some (by unfold wrap64; omega), by rw [show (2 : Int) ^ 2 = 4 by decide]; omega, by rw [show (2 : Int) ^ 2 = 4 by decide]; omega⟩
    ·exact ⟨1, by decide, by rw [e]; exact congrArg some (by unfold wrap64; omega), by rw [show (2 : Int) ^ 1 = 2 by decide]; omega, by rw [show (2 : Int) ^ 1 = 2 by decide]; omega⟩
    ·exact ⟨0, by decide, by rw [e]; exact congrArg some (by unfold wrap64; omega), by rw [show (2 : Int) ^ 0 = 1 by decide]; omega, by rw [show (2 : Int) ^ 0 = 1 by decide]; omega⟩
   ·rw [if_neg c2]
    rw [if_pos (show 0 ≤ (x / 4294967296) / 65536 % 256 by omega), if_pos (show (x / 4294967296) / 65536 % 256 < 256 by omega)]
    have hz : (x / 4294967296) / 65536 % 256 = x / 281474976710656 := by omega
    rw [hz]
    rcases dv_cases (x / 281474976710656) (by omega) (by omega) with ⟨e, f, g⟩ | ⟨e, f, g⟩ | ⟨e, f, g⟩ | ⟨e, f, g⟩ | ⟨e, f, g⟩ | ⟨e, f, g⟩ | ⟨e, f, g⟩ | ⟨e, f, g⟩
    ·exact ⟨15, by decide, by rw [e]; exact congrArg some (by unfold wrap64; omega), by rw [show (2 : Int) ^ 15 = 32768 by decide]; omega, by rw [show (2 : Int) ^ 15 = 32768 by decide]; omega⟩
    ·exact ⟨14, by decide, by rw [e]; exact congrArg some (by unfold wrap64; omega), by rw [show (2 : Int) ^ 14 = 16384 by decide]; omega, by rw [show (2 : Int) ^ 14 = 16384 by decide]; omega⟩
    ·exact ⟨13, by decide, by rw [e]; exact congrArg some (by unfold wrap64; omega), by rw [show (2 : Int) ^ 13 = 8192 by decide]; omega, by rw [show (2 : Int) ^ 13 = 8192 by decide]; omega⟩
    ·exact ⟨12, by decide, by rw [e]; exact congrArg some (by unfold wrap64; omega), by rw [show (2 : Int) ^ 12 = 4096 by decide]; omega, by rw [show (2 : Int) ^ 12 = 4096 by decide]; omega⟩
    ·exact ⟨11, by decide, by rw [e]; exact congrArg some (by unfold wrap64; omega), by rw [show (2 : Int) ^ 11 = 2048 by decide]; omega, by rw [show (2 : Int) ^ 11 = 2048 by decide]; omega⟩
    ·exact ⟨10, by decide, by rw [e]; exact congrArg some (by unfold wrap64; omega), by rw [show (2 : Int) ^ 10 = 1024 by decide]; omega, by rw [show (2 : Int) ^ 10 = 1024 by decide]; omega⟩
    ·exact ⟨9, by decide, by rw [e]; exact congrArg some (by unfold wrap64; omega), by rw [show (2 : Int) ^ 9 = 512 by decide]; omega, by rw [show (2 : Int) ^ 9 = 512 by decide]; omega⟩
    ·exact ⟨8, by decide, by rw [e]; exact congrArg some (by unfold wrap64; omega), by rw [show (2 : Int) ^ 8 = 256 by decide]; omega, by rw [show (2 : Int) ^ 8 = 256 by decide]; omega⟩
  ·rw [if_neg c1]
   by_cases c2 : x / 4294967296 ≥ 256
   ·rw [if_pos c2]
    rw [if_pos (show 0 ≤ (x / 4294967296) / 256 % 256 by omega), if_pos (show (x / 4294967296) / 256 % 256 < 256 by omega)]
    have hz : (x / 4294967296) / 256 % 256 = x / 1099511627776 := by omega
    rw [hz]
    rcases dv_cases (x / 1099511627776) (by omega) (by omega) with ⟨e, f, g⟩ | ⟨e, f, g⟩ | ⟨e, f, g⟩ | ⟨e, f, g⟩ | ⟨e, f, g⟩ | ⟨e, f, g⟩ | ⟨e, f, g⟩ | ⟨e, f, g⟩
    ·exact ⟨23, by decide, by rw [e]; exact congrArg some (by unfold wrap64; omega), by rw [show (2 : Int) ^ 23 = 8388608 by decide]; omega, by rw [show (2 : Int) ^ 23 = 8388608 by decide]; omega⟩
    ·exact ⟨22, by decide, by rw [e]; exact congrArg some (by unfold wrap64; omega), by rw [show (2 : Int) ^ 22 = 4194304 by decide]; omega, by rw [show (2 : Int) ^ 22 = 4194304 by decide]; omega⟩
    ·exact ⟨21, by decide, by rw [e]; exact congrArg some (by unfold wrap64; omega), by rw [show (2 : Int) ^ 21 = 2097152 by decide]; omega, by rw [show (2 : Int) ^ 21 = 2097152 by decide]; omega⟩
    ·exact ⟨20, by decide, by rw [e]; exact congrArg some (by unfold wrap64; omega), by rw [show (2 : Int) ^ 20 = 1048576 by decide]; omega, by rw [show (2 : Int) ^ 20 = 1048576 by decide]; omega⟩
    ·exact ⟨19, by decide, by rw [e]; exact congrArg some (by unfold wrap64; omega), by rw [show (2 : Int) ^ 19 = 524288 by decide]; omega, by rw [show (2 : Int) ^ 19 = 524288 by decide]; omega⟩
    ·exact ⟨18, by decide, by rw [e]; exact congrArg some (by unfold wrap64; omega), by rw [show (2 : Int) ^ 18 = 262144 by decide]; omega, by rw [show (2 : Int) ^ 18 = 262144 by decide]; omega⟩
    ·exact ⟨17, by decide, by rw [e]; exact congrArg some (by unfold wrap64; omega), by rw [show (2 : Int) ^ 17 = 131072 by decide]; omega, by rw [show (2 : Int) ^ 17 = 131072 by decide]; omega⟩
    ·exact ⟨16, by decide, by rw [e]; exact congrArg some (by unfold wrap64; omega), by rw [show (2 : Int) ^ 16 = 65536 by decide]; omega, by rw [show (2 : Int) ^ 16 = 65536 by decide]; omega⟩
   ·rw [if_neg c2]
    rw [if_pos (show 0 ≤ (x / 4294967296) % 256 by omega), if_pos (show (x / 4294967296) % 256 < 256 by omega)]
    have hz : (x / 4294967296) % 256 = x / 4294967296 := by omega
    rw [hz]
    rcases dv_cases (x / 4294967296) (by omega) (by omega) with ⟨e, f, g⟩ | ⟨e, f, g⟩ | ⟨e, f, g⟩ | ⟨e, f, g⟩ | ⟨e, f, g⟩ | ⟨e, f, g⟩ | ⟨e, f, g⟩ | ⟨e, f, g⟩
    ·exact ⟨31, by decide, by rw [e]; exact congrArg some (by unfold wrap64; omega), by rw [show (2 : Int) ^ 31 = 2147483648 by decide]; omega, by rw [show (2 : Int) ^ 31 = 2147483648 by decide]; omega⟩
    ·exact ⟨30, by decide, by rw [e]; exact congrArg some (by unfold wrap64; omega), by rw [show (2 : Int) ^ 30 = 1073741824 by decide]; omega, by rw [show (2 : Int) ^ 30 = 1073741824 by decide]; omega⟩
    ·exact ⟨29, by decide, by rw [e]; exact congrArg some (by unfold wrap64; omega), by rw [show (2 : Int) ^ 29 = 536870912 by decide]; omega, by rw [show (2 : Int) ^ 29 = 536870912 by decide]; omega⟩
    ·exact ⟨28, by decide, by rw [e]; exact congrArg some (by unfold wrap64; omega), by rw [show (2 : Int) ^ 28 = 268435456 by decide]; omega, by rw [show (2 : Int) ^ 28 = 268435456 by decide]; omega⟩
    ·exact ⟨27, by decide, by rw [e]; exact congrArg some (by unfold wrap64; omega), by rw [show (2 : Int) ^ 27 = 134217728 by decide]; omega, by rw [show (2 : Int) ^ 27 = 134217728 by decide]; omega⟩
    ·exact ⟨26, by decide, by rw [e]; exact congrArg some (by unfold wrap64; omega), by rw [show (2 : Int) ^ 26 = 67108864 by decide]; omega, by rw [show (2 : Int) ^ 26 = 67108864 by decide]; omega⟩
    ·exact ⟨25, by decide, by rw [e]; exact congrArg some (by unfold wrap64; omega), by rw [show (2 : Int) ^ 25 = 33554432 by decide]; omega, by rw [show (2 : Int) ^ 25 = 33554432 by decide]; omega⟩
    ·exact ⟨24, by decide, by rw [e]; exact congrArg some (by unfold wrap64; omega), by rw [show (2 : Int) ^ 24 = 16777216 by decide]; omega, by rw [show (2 : Int) ^ 24 = 16777216 by decide]; omega⟩
 ·rw [if_neg c0, bits_Len64.j0]
  by_cases c1 : x ≥ 65536
  ·rw [if_pos c1]
   by_cases c2 : x / 65536 ≥ 256
   ·rw [if_pos c2]
    rw [if_pos (show 0 ≤ x / 65536 / 256 % 256 by omega), if_pos (show x / 65536 / 256 % 256 < 256 by omega)]
    have hz : x / 65536 / 256 % 256 = x / 16777216 := by omega
    rw [hz]
    rcases dv_cases (x / 16777216) (by omega) (by omega) with ⟨e, f, g⟩ | ⟨e, f, g⟩ | ⟨e, f, g⟩ | ⟨e, f, g⟩ | ⟨e, f, g⟩ | ⟨e, f, g⟩ | ⟨e, f, g⟩ | ⟨e, f, g⟩
    ·exact ⟨39, by decide, by rw [e]; exact congrArg some (by unfold wrap64; omega), by rw [show (2 : Int) ^ 39 = 549755813888 by decide]; omega, by rw [show (2 : Int) ^ 39 = 549755813888 by decide]; omega⟩
    ·exact ⟨38, by decide, by rw [e]; exact congrArg some (by unfold wrap64; omega), by rw [show (2 : Int) ^ 38 = 274877906944 by decide]; omega, by rw [show (2 : Int) ^ 38 = 274877906944 by decide]; omega⟩
    ·exact ⟨37, by decide, by rw [e]; exact congrArg some (by unfold wrap64; omega), by rw [show (2 : Int) ^ 37 = 137438953472 by decide]; omega, by rw [show (2 : Int) ^ 37 = 137438953472 by decide]; omega⟩
    ·exact ⟨36, by decide, by rw [e]; exact congrArg some (by unfold wrap64; omega), by rw [show (2 : Int) ^ 36 = 68719476736 by decide]; omega, by rw [show (2 : Int) ^ 36 = 68719476736 by decide]; omega⟩
    ·exact ⟨35, by decide, by rw [e]; exact congrArg some (by unfold wrap64; omega), by rw [show (2 : Int) ^ 35 = 34359738368 by decide]; omega, by rw [show (2 : Int) ^ 35 = 34359738368 by decide]; omega⟩
    ·exact ⟨34, by decide, by rw [e]; exact congrArg some (by unfold wrap64; omega), by rw [show (2 : Int) ^ 34 = 17179869184 by decide]; omega, by rw [show (2 : Int) ^ 34 = 17179869184 by decide]; omega⟩
    ·exact ⟨33, by decide, by rw [e]; exact congrArg some (by unfold wrap64; omega), by rw [show (2 : Int) ^ 33 = 8589934592 by decide]; omega, by rw [show (2 : Int) ^ 33 = 8589934592 by decide]; omega⟩
    ·exact ⟨32, by decide, by rw [e]; exact congrArg some (by unfold wrap64; omega), by rw [show (2 : Int) ^ 32 = 4294967296 by decide]; omega, by rw [show (2 : Int) ^ 32 = 4294967296 by decide]; omega⟩
   ·rw [if_neg c2]
    rw [if_pos (show 0 ≤ x / 65536 % 256 by omega), if_pos (show x / 65536 % 256 < 256 by omega)]
    have hz : x / 65536 % 256 = x / 65536 := by omega
    rw [hz]
    rcases dv_cases (x / 65536) (by omega) (by omega) with ⟨e, f, g⟩ | ⟨e, f, g⟩ | ⟨e, f, g⟩ | ⟨e, f, g⟩ | ⟨e, f, g⟩ | ⟨e, f, g⟩ | ⟨e, f, g⟩ | ⟨e, f, g⟩
    ·exact ⟨47, by decide, by rw [e]; exact congrArg some (by unfold wrap64; omega), by rw [show (2 : Int) ^ 47 = 140737488355328 by decide]; omega, by rw [show (2 : Int) ^ 47 = 140737488355328 by decide]; omega⟩
    ·exact ⟨46, by decide, by rw [e]; exact congrArg some (by unfold wrap64; omega), by rw [show (2 : Int) ^ 46 = 70368744177664 by decide]; omega, by rw [show (2 : Int) ^ 46 = 70368744177664 by decide]; omega⟩
    ·exact ⟨45, by decide, by rw [e]; exact congrArg some (by unfold wrap64; omega), by rw [show (2 : Int) ^ 45 = 35184372088832 by decide]; omega, by rw [show (2 : Int) ^ 45 = 35184372088832 by decide]; omega⟩
    ·exact ⟨44, by decide, by rw [e]; exact congrArg some (by unfold wrap64; omega), by rw [show (2 : Int) ^ 44 = 17592186044416 by decide]; omega, by rw [show (2 : Int) ^ 44 = 17592186044416 by decide]; omega⟩
    ·exact ⟨43, by decide, by rw [e]; exact congrArg some (by unfold wrap64; omega), by rw [show (2 : Int) ^ 43 = 8796093022208 by decide]; omega, by rw [show (2 : Int) ^ 43 = 8796093022208 by decide]; omega⟩
    ·exact ⟨42, by decide, by rw [e]; exact congrArg some (by unfold wrap64; omega), by rw [show (2 : Int) ^ 42 = 4398046511104 by decide]; omega, by rw [show (2 : Int) ^ 42 = 4398046511104 by decide]; omega⟩
    ·exact ⟨41, by decide, by rw [e]; exact congrArg some (by unfold wrap64; omega), by rw [show (2 : Int) ^ 41 = 2199023255552 by decide]; omega, by rw [show (2 : Int) ^ 41 = 2199023255552 by decide]; omega⟩
    ·exact ⟨40, by decide, by rw [e]; exact congrArg some (by unfold wrap64; omega), by rw [show (2 : Int) ^ 40 = 1099511627776 by decide]; omega, by rw [show (2 : Int) ^ 40 = 1099511627776 by decide]; omega⟩
  ·rw [if_neg c1]
   by_cases c2 : x ≥ 256
   ·rw [if_pos c2]
    rw [if_pos (show 0 ≤ x / 256 % 256 by omega), if_pos (show x / 256 % 256 < 256 by omega)]
    have hz : x / 256 % 256 = x / 256 := by omega
    rw [hz]
    rcases dv_cases (x / 256) (by omega) (by omega) with ⟨e, f, g⟩ | ⟨e, f, g⟩ | ⟨e, f, g⟩ | ⟨e, f, g⟩ | ⟨e, f, g⟩ | ⟨e, f, g⟩ | ⟨e, f, g⟩ | ⟨e, f, g⟩
    ·exact ⟨55, by decide, by rw [e]; exact congrArg some (by unfold wrap64; omega), by rw [show (2 : Int) ^ 55 = 36028797018963968 by decide]; omega, by rw [show (2 : Int) ^ 55 = 36028797018963968 by decide]; omega⟩
    ·exact ⟨54, by decide, by rw [e]; exact congrArg some (by unfold wrap64; omega), by rw [show (2 : Int) ^ 54 = 18014398509481984 by decide]; omega, by rw [show (2 : Int) ^ 54 = 18014398509481984 by decide]; omega⟩
    ·exact ⟨53, by decide, by rw [e]; exact congrArg some (by unfold wrap64; omega), by rw [show (2 : Int) ^ 53 = 9007199254740992 by decide]; omega, by rw [show (2 : Int) ^ 53 = 9007199254740992 by decide]; omega⟩
    ·exact ⟨52, by decide, by rw [e]; exact congrArg some (by unfold wrap64; omega), by rw [show (2 : Int) ^ 52 = 4503599627370496 by decide]; omega, by rw [show (2 : Int) ^ 52 = 4503599627370496 by decide]; omega⟩
    ·exact ⟨51, by decide, by rw [e]; exact congrArg some (by unfold wrap64; omega), by rw [show (2 : Int) ^ 51 = 2251799813685248 by decide]; omega, by rw [show (2 : Int) ^ 51 = 2251799813685248 by decide]; omega⟩
    ·exact ⟨50, by decide, by rw [e]; exact congrArg some (by unfold wrap64; omega), by rw [show (2 : Int) ^ 50 = 1125899906842624 by decide]; omega, by rw [show (2 : Int) ^ 50 = 1125899906842624 by decide]; omega⟩
    ·exact ⟨49, by decide, by rw [e]; exact congrArg some (by unfold wrap64; omega), by rw [show (2 : Int) ^ 49 = 562949953421312 by decide]; omega, by rw [show (2 : Int) ^ 49 = 562949953421312 by decide]; omega⟩
    ·exact ⟨48, by decide, by rw [e]; exact congrArg some (by unfold wrap64; omega), by rw [show (2 : Int) ^ 48 = 281474976710656 by decide]; omega, by rw [show (2 : Int) ^ 48 = 281474976710656 by decide]; omega⟩
   ·rw [if_neg c2]
    rw [if_pos (show 0 ≤ x % 256 by omega), if_pos (show x % 256 < 256 by omega)]
    have hz : x % 256 = x / 1 := by omega
    rw [hz]
    rcases dv_cases (x / 1) (by omega) (by omega) with ⟨e, f, g⟩ | ⟨e, f, g⟩ | ⟨e, f, g⟩ | ⟨e, f, g⟩ | ⟨e, f, g⟩ | ⟨e, f, g⟩ | ⟨e, f, g⟩ | ⟨e, f, g⟩
    ·exact ⟨63, by decide, by rw [e]; exact congrArg some (by unfold wrap64; omega), by rw [show (2 : Int) ^ 63 = 9223372036854775808 by decide]; omega, by rw [show (2 : Int) ^ 63 = 9223372036854775808 by decide]; omega⟩
    ·exact ⟨62, by decide, by rw [e]; exact congrArg some (by unfold wrap64; omega), by rw [show (2 : Int) ^ 62 = 4611686018427387904 by decide]; omega, by rw [show (2 : Int) ^ 62 = 4611686018427387904 by decide]; omega⟩
    ·exact ⟨61, by decide, by rw [e]; exact congrArg some (by unfold wrap64; omega), by rw [show (2 : Int) ^ 61 = 2305843009213693952 by decide]; omega, by rw [show (2 : Int) ^ 61 = 2305843009213693952 by decide]; omega⟩
    ·exact ⟨60, by decide, by rw [e]; exact congrArg some (by unfold wrap64; omega), by rw [show (2 : Int) ^ 60 = 1152921504606846976 by decide]; omega, by rw [show (2 : Int) ^ 60 = 1152921504606846976 by decide]; omega⟩
    ·exact ⟨59, by decide, by rw [e]; exact congrArg some (by unfold wrap64; omega), by rw [show (2 : Int) ^ 59 = 576460752303423488 by decide]; omega, by rw [show (2 : Int) ^ 59 = 576460752303423488 by decide]; omega⟩
    ·exact ⟨58, by decide, by rw [e]; exact congrArg some (by unfold wrap64; omega), by rw [show (2 : Int) ^ 58 = 288230376151711744 by decide]; omega, by rw [show (2 : Int) ^ 58 = 288230376151711744 by decide]; omega⟩
    ·exact ⟨57, by decide, by rw [e]; exact congrArg some (by unfold wrap64; omega), by rw [show (2 : Int) ^ 57 = 144115188075855872 by decide]; omega, by rw [show (2 : Int) ^ 57 = 144115188075855872 by decide]; omega⟩
    ·exact ⟨56, by decide, by rw [e]; exact congrArg some (by unfold wrap64; omega), by rw [show (2 : Int) ^ 56 = 72057594037927936 by decide]; omega, by rw [show (2 : Int) ^ 56 = 72057594037927936 by decide]; omega⟩
theorem dv_mask (x : Int) (h0 : 0 ≤ x) (h1 : x < 18446744073709551616) : Go.bits .and .u64 x 4294967295 = x % 4294967296 := by
 have h := bits_mask .u64 64 (by decide) (fun n a b => by rw [dv_w]; omega) 32 (by decide) x h0 (by omega)
 have e1 : ((2 : Int) ^ 32 - 1) = 4294967295 := by decide
 have e2 : ((2 : Int) ^ 32) = 4294967296 := by decide
 rw [e1, e2] at h
 exact h
/-- The first guess of a digit. -/
theorem dv_guess (Y yn1 yn0 un U : Int) (hY : Y = yn1 * 4294967296 + yn0) (h1 : 2147483648 ≤ yn1) (h1' : yn1 < 4294967296) (h0 : 0 ≤ yn0) (h0' : yn0 < 4294967296) (hu : 0 ≤ un) (hu' : un < 4294967296) (hx0 : 0 ≤ U) (hx : U < Y) :
  ∃ q rh : Int, IntKind.u64.wrap (Int.tdiv U yn1) = q ∧ IntKind.u64.wrap (U - IntKind.u64.wrap (q * yn1)) = rh ∧ 0 ≤ q ∧ q ≤ 4294967297 ∧ 0 ≤ rh ∧ rh < 4294967296 ∧ q * yn1 + rh = U ∧ U * 4294967296 + un < q * Y + Y := by
 have hYlt : Y < 18446744073709551616 := by omega
 have hq0 : 0 ≤ U / yn1 := Int.ediv_nonneg hx0 (by omega)
 have hqU : U / yn1 ≤ U := Int.ediv_le_self _ hx0
 have hr0 : 0 ≤ U % yn1 := Int.emod_nonneg _ (by omega)
 have hr1 : U % yn1 < yn1 := Int.emod_lt_of_pos _ (by omega)
 have hs : U / yn1 * yn1 + U % yn1 = U := by rw [Int.mul_comm]; exact Int.mul_ediv_add_emod U yn1
 have hw : IntKind.u64.wrap (Int.tdiv U yn1) = U / yn1 := by rw [Int.tdiv_eq_ediv_of_nonneg hx0, dv_w]; omega
 refine ⟨U / yn1, U % yn1, hw, ?_, hq0, ?_, hr0, by omega, hs, ?_⟩
 ·simp only [dv_w]
  have : 0 ≤ U / yn1 * yn1 := Int.mul_nonneg hq0 (by omega)
  generalize U / yn1 * yn1 = z at hs this ⊢
  omega
 ·refine Int.not_lt.mp fun hq => ?_
  have : 4294967298 * yn1 ≤ U / yn1 * yn1 := Int.mul_le_mul_of_nonneg_right (by omega) (by omega)
  omega
 ·have e : U / yn1 * Y = U / yn1 * yn1 * 4294967296 + U / yn1 * yn0 := by rw [hY, Int.mul_add, Int.mul_assoc]
  have : 0 ≤ U / yn1 * yn0 := Int.mul_nonneg hq0 h0
  rw [e]
  generalize U / yn1 * yn1 = z at hs ⊢
  omega
theorem dv_all (a0 a1 a2 : Int) (h0 : 0 ≤ a0) (h : a0 < a2) (h2 : a2 < 18446744073709551616) (h1 : 0 ≤ a1) (h1' : a1 < 18446744073709551616) :
  bits_Div64r.f 20 a0 a1 a2 = some ((a0 * 18446744073709551616 + a1) / a2, (a0 * 18446744073709551616 + a1) % a2) := by
 unfold bits_Div64r.f
 by_cases hz : a0 = 0
 ·subst hz
  rw [if_pos rfl, if_neg (by omega), Int.tdiv_eq_ediv_of_nonneg h1, Int.tmod_eq_emod_of_nonneg h1, Int.zero_mul, Int.zero_add, dv_w]
  have : a1 / a2 ≤ a1 := Int.ediv_le_self _ h1
  have : 0 ≤ a1 / a2 := Int.ediv_nonneg h1 (by omega)
  congr 2
  omega
 ·obtain ⟨s, hs, hl, hY1, hY2⟩ := dv_lz 19 a2 (by omega) h2
  rw [if_neg hz, hl, Option.bind_some]
  obtain ⟨p, hp⟩ : ∃ p : Int, p = 2 ^ s := ⟨_, rfl⟩
  obtain ⟨r, hr⟩ : ∃ r : Int, r = 2 ^ (64 - s) := ⟨_, rfl⟩
  have hp0 : 0 < p := by rw [hp]; exact Int.pow_pos (by decide)
  have hr0 : 0 < r := by rw [hr]; exact Int.pow_pos (by decide)
  have hpr : p * r = 18446744073709551616 := by
   rw [hp, hr, ← Int.pow_add, show s + (64 - s) = 64 by omega]; decide
  rw [← hp] at hY1 hY2
  have ws : IntKind.u64.wrap (s : Int) = s := by rw [dv_w]; omega
  have wt : IntKind.u64.wrap (64 - (s : Int)) = ((64 - s : Nat) : Int) := by rw [dv_w]; omega
  rw [ws, wt]
  have ms : min ((s : Int)).toNat IntKind.u64.bits = s := by show min ((s : Int)).toNat 64 = s; omega
  have mt : min (((64 - s : Nat) : Int)).toNat IntKind.u64.bits = 64 - s := by show min (((64 - s : Nat) : Int)).toNat 64 = 64 - s; omega
  have hap : a0 * p + p ≤ a2 * p := by
   have : (a0 + 1) * p ≤ a2 * p := Int.mul_le_mul_of_nonneg_right (by omega) (by omega)
   rwa [Int.add_mul, Int.one_mul] at this
  have hap0 : 0 ≤ a0 * p := Int.mul_nonneg h0 (by omega)
  have s2 : shl .u64 a2 (s : Int) = a2 * p := by rw [shl, ms, ← hp, dv_w]; omega
  have s0 : shl .u64 a0 (s : Int) = a0 * p := by rw [shl, ms, ← hp, dv_w]; omega
  have s1 : shr .u64 a1 ((64 - s : Nat) : Int) = a1 / r := by rw [shr, mt, ← hr]
  -- the low word, and what of it goes up
  have hdm : r * (a1 / r) + a1 % r = a1 := Int.mul_ediv_add_emod a1 r
  have hm0 : 0 ≤ a1 % r := Int.emod_nonneg _ (by omega)
  have hm1 : a1 % r < r := Int.emod_lt_of_pos _ hr0
  have hd0 : 0 ≤ a1 / r := Int.ediv_nonneg h1 (by omega)
  have hd1 : a1 / r < p := Int.ediv_lt_of_lt_mul hr0 (by rw [hpr]; exact h1')
  have hmp0 : 0 ≤ (a1 % r) * p := Int.mul_nonneg hm0 (by omega)
  have hmp1 : (a1 % r) * p + p ≤ 18446744073709551616 := by
   have : (a1 % r + 1) * p ≤ r * p := Int.mul_le_mul_of_nonneg_right (by omega) (by omega)
   rw [Int.add_mul, Int.one_mul, Int.mul_comm r p, hpr] at this
   exact this
  have hap1 : a1 * p = (a1 / r) * 18446744073709551616 + (a1 % r) * p := by
   conv => lhs; rw [← hdm]
   rw [Int.add_mul, Int.mul_right_comm, Int.mul_comm r p, hpr, Int.mul_comm (18446744073709551616 : Int)]
  have s3 : shl .u64 a1 (s : Int) = (a1 % r) * p := by rw [shl, ms, ← hp, dv_w, hap1]; omega
  have hor : Go.bits .or .u64 (a0 * p) (a1 / r) = a0 * p + a1 / r :=
   bits_join .u64 64 (by decide) (fun n a b => by rw [dv_w]; omega) s (a0 * p) (a1 / r) hap0 (by rw [← hp]; exact Int.mul_emod_left _ _) (by omega) hd0 (by rw [← hp]; exact hd1) (by omega)
  rw [s2, s0, s1, s3, hor]
  obtain ⟨Y, hY⟩ : ∃ Y : Int, Y = a2 * p := ⟨_, rfl⟩
  obtain ⟨U, hU⟩ : ∃ U : Int, U = a0 * p + a1 / r := ⟨_, rfl⟩
  obtain ⟨t, ht⟩ : ∃ t : Int, t = (a1 % r) * p := ⟨_, rfl⟩
  -- the whole, moved up
  have hN : (a0 * 18446744073709551616 + a1) * p = U * 18446744073709551616 + t := by
   rw [Int.add_mul, hap1, hU, ht, Int.mul_right_comm, Int.add_mul]; omega
  rw [← hY] at hY1 hY2 hap ⊢
  rw [← hU, ← ht]
  have ht0 : 0 ≤ t := by omega
  have ht1 : t < 18446744073709551616 := by omega
  have hU0 : 0 ≤ U := by omega
  have hUY : U < Y := by omega
  rw [dv_mask Y (by omega) hY2, dv_mask t ht0 ht1, if_pos (by omega), if_pos (by omega), if_neg (by omega)]
  obtain ⟨q, rh, e1, e2, g1, g2, g3, g4, g5, g6⟩ := dv_guess Y (Y / 4294967296) (Y % 4294967296) (t / 4294967296) U (by omega) (by omega) (by omega) (by omega) (by omega) (by omega) (by omega) hU0 hUY
  rw [e1, e2]
  obtain ⟨Q1, k', b1, b2, b3, b4, b5, b6⟩ := dv_l0 Y (Y / 4294967296) (Y % 4294967296) (t / 4294967296) (t % 4294967296) U s (by omega) (by omega) (by omega) (by omega) (by omega) (by omega) (by omega) hU0 hUY 2 20 q rh g1 g2 g3 g4 (by omega) g5 g6 (by omega)
  rw [b6]
  obtain ⟨k'', rfl⟩ : ∃ j, k' = j + 1 := ⟨k' - 1, by omega⟩
  rw [bits_Div64r.j2, if_neg (by omega)]
  obtain ⟨V, hV⟩ : ∃ V : Int, V = U * 4294967296 + t / 4294967296 - Q1 * Y := ⟨_, rfl⟩
  have hwV : IntKind.u64.wrap ((IntKind.u64.wrap ((IntKind.u64.wrap (U * 4294967296)) + t / 4294967296)) - (IntKind.u64.wrap (Q1 * Y))) = V := by
   simp only [dv_w]
   generalize Q1 * Y = z at b3 b4 hV ⊢
   omega
  have hV0 : 0 ≤ V := by omega
  have hV1 : V < Y := by omega
  rw [hwV]
  obtain ⟨q2, rh2, f1, f2, i1, i2, i3, i4, i5, i6⟩ := dv_guess Y (Y / 4294967296) (Y % 4294967296) (t % 4294967296) V (by omega) (by omega) (by omega) (by omega) (by omega) (by omega) (by omega) hV0 hV1
  rw [f1, f2]
  obtain ⟨Q0, c1, c2, c3, c4, c5⟩ := dv_l1 Y (Y / 4294967296) (Y % 4294967296) (t % 4294967296) Q1 V s (by omega) (by omega) (by omega) (by omega) (by omega) (by omega) (by omega) hV0 hV1 (by omega) 2 k'' q2 rh2 i1 i2 i3 i4 (by omega) i5 i6 (by omega)
  rw [c5]
  -- the two digits make the quotient
  obtain ⟨M, hM⟩ : ∃ M : Int, M = a0 * 18446744073709551616 + a1 := ⟨_, rfl⟩
  obtain ⟨Q, hQ⟩ : ∃ Q : Int, Q = Q1 * 4294967296 + Q0 := ⟨_, rfl⟩
  obtain ⟨R, hR⟩ : ∃ R : Int, R = V * 4294967296 + t % 4294967296 - Q0 * Y := ⟨_, rfl⟩
  rw [← hM] at hN ⊢
  rw [← hR]
  have hQY : Q * Y = Q1 * Y * 4294967296 + Q0 * Y := by rw [hQ, Int.add_mul, Int.mul_right_comm]
  have hMR : M * p = Q * Y + R := by
   rw [hN, hQY, hR, hV]
   generalize Q1 * Y = z
   generalize Q0 * Y = z2
   omega
  have hR0 : 0 ≤ R := by omega
  have hR1 : R < Y := by omega
  have hRp : R = (M - Q * a2) * p := by
   have : Q * Y = Q * a2 * p := by rw [hY, Int.mul_assoc]
   rw [Int.sub_mul, ← this]; omega
  have hlo : 0 ≤ M - Q * a2 := by
   refine Int.not_lt.mp fun hneg => ?_
   have : (M - Q * a2) * p < 0 := Int.mul_neg_of_neg_of_pos hneg hp0
   omega
  have hhi : M - Q * a2 < a2 := by
   refine Int.not_le.mp fun hge => ?_
   have : a2 * p ≤ (M - Q * a2) * p := Int.mul_le_mul_of_nonneg_right hge (by omega)
   omega
  have hdiv : M / a2 = Q := by
   have h3 : M = (M - Q * a2) + a2 * Q := by rw [Int.mul_comm a2 Q]; omega
   rw [h3, Int.add_mul_ediv_left _ _ (by omega), Int.ediv_eq_zero_of_lt hlo hhi, Int.zero_add]
  have hmod : M % a2 = M - Q * a2 := by
   have := Int.mul_ediv_add_emod M a2
   rw [hdiv, Int.mul_comm] at this
   omega
  have hsh : shr .u64 R (s : Int) = M - Q * a2 := by
   rw [shr, ms, ← hp, hRp, Int.mul_ediv_cancel _ (by omega)]
  have hw : IntKind.u64.wrap ((IntKind.u64.wrap (Q1 * 4294967296)) + Q0) = Q := by simp only [dv_w]; omega
  rw [hw, hsh, hdiv, hmod]
/-- math/bits.Div64: the quotient and the rest of a number of 128 bits, where the quotient fits. -/
def bits_Div64.f (a0 : Int) (a1 : Int) (a2 : Int) : Option (Int × Int) := if 0 ≤ a0 ∧ a0 < a2 ∧ a2 < 18446744073709551616 ∧ 0 ≤ a1 ∧ a1 < 18446744073709551616 then some ((a0 * 18446744073709551616 + a1) / a2, (a0 * 18446744073709551616 + a1) % a2) else none
theorem bits_Div64.calls (a0 : Int) (a1 : Int) (a2 : Int) (r1 : Int) (r2 : Int) (w : World) (h : bits_Div64.f a0 a1 a2 = some (r1, r2)) :
  Calls Try.prog 52 #[.int .u64 a0, .int .u64 a1, .int .u64 a2] w fun e w' => e = .returned (.tuple #[.int .u64 r1, .int .u64 r2]) ∧ Drawn0 w w' := by
 unfold bits_Div64.f at h
 by_cases hc : 0 ≤ a0 ∧ a0 < a2 ∧ a2 < 18446744073709551616 ∧ 0 ≤ a1 ∧ a1 < 18446744073709551616
 ·rw [if_pos hc] at h
  exact bits_Div64r.calls 20 a0 a1 a2 r1 r2 w (by simp; omega) (decide_eq_false (by omega)) ((dv_all a0 a1 a2 hc.1 hc.2.1 hc.2.2.1 hc.2.2.2.1 hc.2.2.2.2).trans h)
 ·rw [if_neg hc] at h; cases h


end Go.Proofs.Ytflmfbcapccdeaa.PA

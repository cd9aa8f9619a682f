-- Written for the seat Ytflmfbcapccdeaa by this session's program hyb.py (the print's functions, with externals typed by hand).
import Derived.Test.YtflmfbcapccdeaaPAx0
namespace Go.Proofs.Ytflmfbcapccdeaa.PA
open Go.RowKit Go.Proofs.YtflmfbcapccdeaaW.PrintWords Go.Proofs.YtflmfbcapccdeaaW.PrintLast Go.Proofs.YtflmfbcapccdeaaW.PrintMore
attribute [local go_sem] max2_int min2_int max_two min_two max_three min_three max_four min_four   -- for this text's walks alone
set_option linter.unusedVariables false
set_option linter.unusedSimpArgs false

/-! ### tidewayref01_MulDiv: function 53 -/
mutual
def tidewayref01_MulDiv.j0 : Nat → Int → Int → Int → Bool → Option (Int × Int)
 | 0, _, _, _, _ => none
 | k + 1, x0, x1, x2, x23 => if x23 = true then (some (0, 2)) else (if (IntKind.u64.wrap (x2)) = 0 then (none) else (tidewayref01_MulDiv.l0 k x0 x2 0 0 false (IntKind.u64.wrap (Int.tdiv (IntKind.u64.wrap (x1)) (IntKind.u64.wrap (x2)))) (Int.tmod (IntKind.u64.wrap (x1)) (IntKind.u64.wrap (x2))) 62))
def tidewayref01_MulDiv.l0 : Nat → Int → Int → Int → Int → Bool → Int → Int → Int → Option (Int × Int)
 | 0, _, _, _, _, _, _, _, _ => none
 | k + 1, x0, x2, x8, x9, x10, x11, x12, x13 => if x13 ≥ 0 then (if x10 = true then (tidewayref01_MulDiv.j2 k x0 x2 x8 x9 true x11 x12 x13) else (tidewayref01_MulDiv.j2 k x0 x2 x8 x9 (decide (x8 ≥ 4611686018427387904)) x11 x12 x13)) else (some (wrap64 (x8), 0))
def tidewayref01_MulDiv.j2 : Nat → Int → Int → Int → Int → Bool → Int → Int → Int → Option (Int × Int)
 | 0, _, _, _, _, _, _, _, _ => none
 | k + 1, x0, x2, x8, x9, x10, x11, x12, x13 => if (IntKind.u64.wrap (2 * x9)) ≥ (IntKind.u64.wrap (x2)) then (tidewayref01_MulDiv.j3 k x0 x2 (IntKind.u64.wrap ((IntKind.u64.wrap (2 * x8)) + 1)) (IntKind.u64.wrap ((IntKind.u64.wrap (2 * x9)) - (IntKind.u64.wrap (x2)))) x10 x11 x12 x13) else (tidewayref01_MulDiv.j3 k x0 x2 (IntKind.u64.wrap (2 * x8)) (IntKind.u64.wrap (2 * x9)) x10 x11 x12 x13)
def tidewayref01_MulDiv.j3 : Nat → Int → Int → Int → Int → Bool → Int → Int → Int → Option (Int × Int)
 | 0, _, _, _, _, _, _, _, _ => none
 | k + 1, x0, x2, x8, x9, x10, x11, x12, x13 => if 0 ≤ (IntKind.u64.wrap (x13)) then (if (Go.bits .and .i64 (shr .i64 x0 (IntKind.u64.wrap (x13))) 1) = 1 then (if x10 = true then (if (IntKind.u64.wrap (x9 + x12)) ≥ (IntKind.u64.wrap (x2)) then (tidewayref01_MulDiv.j4 k x0 x2 (IntKind.u64.wrap ((IntKind.u64.wrap (x8 + x11)) + 1)) (IntKind.u64.wrap ((IntKind.u64.wrap (x9 + x12)) - (IntKind.u64.wrap (x2)))) true x11 x12 x13) else (tidewayref01_MulDiv.j4 k x0 x2 (IntKind.u64.wrap (x8 + x11)) (IntKind.u64.wrap (x9 + x12)) true x11 x12 x13)) else (if (IntKind.u64.wrap (x9 + x12)) ≥ (IntKind.u64.wrap (x2)) then (tidewayref01_MulDiv.j4 k x0 x2 (IntKind.u64.wrap ((IntKind.u64.wrap (x8 + x11)) + 1)) (IntKind.u64.wrap ((IntKind.u64.wrap (x9 + x12)) - (IntKind.u64.wrap (x2)))) (decide (x8 > (IntKind.u64.wrap (9223372036854775807 - x11)))) x11 x12 x13) else (tidewayref01_MulDiv.j4 k x0 x2 (IntKind.u64.wrap (x8 + x11)) (IntKind.u64.wrap (x9 + x12)) (decide (x8 > (IntKind.u64.wrap (9223372036854775807 - x11)))) x11 x12 x13))) else (tidewayref01_MulDiv.j4 k x0 x2 x8 x9 x10 x11 x12 x13)) else (none)
def tidewayref01_MulDiv.j4 : Nat → Int → Int → Int → Int → Bool → Int → Int → Int → Option (Int × Int)
 | 0, _, _, _, _, _, _, _, _ => none
 | k + 1, x0, x2, x8, x9, x10, x11, x12, x13 => if x10 = true then (some (9223372036854775807, 0)) else (if x8 > 9223372036854775807 then (some (9223372036854775807, 0)) else (tidewayref01_MulDiv.l0 k x0 x2 x8 x9 x10 x11 x12 (wrap64 (x13 - 1))))
end
def tidewayref01_MulDiv.f (k : Nat) (a0 : Int) (a1 : Int) (a2 : Int) : Option (Int × Int) := if a0 < 0 then (tidewayref01_MulDiv.j0 k a0 a1 a2 true) else (if a1 < 0 then (tidewayref01_MulDiv.j0 k a0 a1 a2 true) else (tidewayref01_MulDiv.j0 k a0 a1 a2 (decide (a2 ≤ 0))))
set_option maxHeartbeats 8000000 in
set_option maxRecDepth 100000 in
theorem tidewayref01_MulDiv.calls (k : Nat) (a0 : Int) (a1 : Int) (a2 : Int) (r1 : Int) (r2 : Int) (w : World) (h : tidewayref01_MulDiv.f k a0 a1 a2 = some (r1, r2)) :
  Calls Try.prog 53 #[.int .i64 a0, .int .i64 a1, .int .i64 a2] w fun e w' => e = .returned (.tuple #[.int .i64 r1, .int .i64 r2]) ∧ Drawn0 w w' := by
 have H : (if a0 < 0 then (tidewayref01_MulDiv.j0 k a0 a1 a2 true) else (if a1 < 0 then (tidewayref01_MulDiv.j0 k a0 a1 a2 true) else (tidewayref01_MulDiv.j0 k a0 a1 a2 (decide (a2 ≤ 0))))) = some (r1, r2) := h
 clear h
 have HC4 := Aside0.mk H
 clear H
 go_enter Try.func53, Try.ntmps53
 go_upto_region 1 with (fail)
 repeat (go_quiet (fail); go_upto_region 1 with (fail))
 go_cut [23] (fun v23 wc => ∃ (kq : Nat) (x23_3 : Bool), v23 = .bool x23_3 ∧ Aside0 (tidewayref01_MulDiv.j0 kq a0 a1 a2 x23_3 = some (r1, r2)) ∧ Aside0 (kq ≤ k) ∧ Drawn0 w wc)
 case first =>
  have H := HC4.out
  clear HC4
  by_cases c5 : a0 < 0
  ·rw [if_pos c5] at H
   have c5b0 : decide (a0 < 0) = true := decide_eq_true c5
   clear c5
   (first | rw [c5b0] | (simp only [i64_w, i32_w]; rw [c5b0]) | skip)
   have H' := Aside0.mk H
   clear H
   go_wp2
   repeat (go_quiet (fail); try go_wp2)
   go_meet
   case rel => exact ⟨_, (true), (by first | rfl | (simp; done) | (simp [*]; done)), H', ⟨by first | omega | exact Nat.le_refl _⟩, by repeat (first | exact Drawn0.refl _ | apply Drawn0.step)⟩
  ·rw [if_neg c5] at H
   have c5b0 : decide (a0 < 0) = false := decide_eq_false c5
   clear c5
   (first | rw [c5b0] | (simp only [i64_w, i32_w]; rw [c5b0]) | skip)
   by_cases c6 : a1 < 0
   ·rw [if_pos c6] at H
    have c6b0 : decide (a1 < 0) = true := decide_eq_true c6
    clear c6
    have H' := Aside0.mk H
    clear H
    go_wp2
    repeat (go_quiet (fail); try go_wp2)
    go_meet
    case rel => exact ⟨_, (true), (by first | rfl | (simp; done) | (simp [*]; done)), H', ⟨by first | omega | exact Nat.le_refl _⟩, by repeat (first | exact Drawn0.refl _ | apply Drawn0.step)⟩
   ·rw [if_neg c6] at H
    have c6b0 : decide (a1 < 0) = false := decide_eq_false c6
    clear c6
    have H' := Aside0.mk H
    clear H
    go_wp2
    repeat (go_quiet (fail); try go_wp2)
    go_meet
    case rel => exact ⟨_, (decide (a2 ≤ 0)), (by first | rfl | (simp; done) | (simp [*]; done)), H', ⟨by first | omega | exact Nat.le_refl _⟩, by repeat (first | exact Drawn0.refl _ | apply Drawn0.step)⟩
 case rest =>
  clear HC4
  try clear p2
  try clear c5
  try clear c5b0
  try clear c6
  try clear c6b0
  obtain ⟨kq, x23_3, rfl, HA, HJ3, ⟨mc3, rfl⟩⟩ := hcut
  cases kq with
  | zero => exact absurd HA.out (by simp [tidewayref01_MulDiv.j0])
  | succ kj3 =>
   have H := HA.out
   clear HA
   simp only [tidewayref01_MulDiv.j0] at H
   by_cases c7 : x23_3 = true
   ·subst c7
    have H1 : (some (0, 2)) = some (r1, r2) := by rw [if_pos rfl] at H; exact H
    clear H
    have H := H1
    clear H1
    simp only [Option.some.injEq, Prod.mk.injEq] at H
    obtain ⟨rfl, rfl⟩ := H
    go_wp2
    repeat (go_quiet (fail); try go_wp2)
    go_ret2
    exact ⟨by first | rfl | (simp; done) | (simp [*]; done), by repeat (first | exact Drawn0.refl _ | apply Drawn0.step)⟩
   ·replace c7 := Bool.eq_false_iff.mpr c7
    subst c7
    have H1 : (if (IntKind.u64.wrap (a2)) = 0 then (none) else (tidewayref01_MulDiv.l0 kj3 a0 a2 0 0 false (IntKind.u64.wrap (Int.tdiv (IntKind.u64.wrap (a1)) (IntKind.u64.wrap (a2)))) (Int.tmod (IntKind.u64.wrap (a1)) (IntKind.u64.wrap (a2))) 62)) = some (r1, r2) := by rw [if_neg (show ¬ (false = true) by decide)] at H; exact H
    clear H
    have H := H1
    clear H1
    by_cases c8 : (IntKind.u64.wrap (a2)) = 0
    ·rw [if_pos c8] at H
     exact absurd H (by simp)
    ·rw [if_neg c8] at H
     have c8b0 : ((IntKind.u64.wrap (a2)) == 0) = false := beq_eq_false_iff_ne.mpr c8
     have c8b1 : ((IntKind.u64.wrap (a2)) != 0) = true := bne_iff_ne.mpr c8
     have H' := Aside0.mk H
     clear H
     go_wp2
     repeat (go_quiet (fail); try go_wp2)
     go_loopg [8, 9, 10, 13] kj3 (fun kq v8 v9 v10 v13 w' => ∃ (x8_2 : Int) (x9_2 : Int) (x10_2 : Bool) (x13_2 : Int), v8 = .int .u64 x8_2 ∧ v9 = .int .u64 x9_2 ∧ v10 = .bool x10_2 ∧ v13 = .int .i64 x13_2 ∧ Aside0 (tidewayref01_MulDiv.l0 kq a0 a2 x8_2 x9_2 x10_2 (IntKind.u64.wrap (Int.tdiv (IntKind.u64.wrap (a1)) (IntKind.u64.wrap (a2)))) (Int.tmod (IntKind.u64.wrap (a1)) (IntKind.u64.wrap (a2))) x13_2 = some (r1, r2)) ∧ Aside0 (kq ≤ kj3) ∧ Drawn0 w w')
     case atStart => exact ⟨(0), (0), (false), (62), (by first | rfl | (simp; done) | (simp [*]; done)), (by first | rfl | (simp; done) | (simp [*]; done)), (by first | rfl | (simp; done) | (simp [*]; done)), (by first | rfl | (simp; done) | (simp [*]; done)), H', ⟨Nat.le_refl _⟩, by repeat (first | exact Drawn0.refl _ | apply Drawn0.step)⟩
     case round =>
      clear H'
      try clear p2
      try clear c3
      try clear c5
      try clear c5b0
      try clear c6
      try clear c6b0
      try clear c7
      try clear c8
      try clear c8b0
      try clear c8b1
      try clear p2
      obtain ⟨x8_2, x9_2, x10_2, x13_2, rfl, rfl, rfl, rfl, HA, HK2, ⟨m2, rfl⟩⟩ := hrel
      cases gk with
      | zero => exact absurd HA.out (by simp [tidewayref01_MulDiv.l0])
      | succ k2 =>
       have H := HA.out
       clear HA
       simp only [tidewayref01_MulDiv.l0] at H
       by_cases c9 : x13_2 ≥ 0
       ·rw [if_pos c9] at H
        have c9b0 : decide (0 ≤ x13_2) = true := decide_eq_true c9
        clear c9
        have HC10 := Aside0.mk H
        clear H
        go_upto_region 9 with (fail)
        repeat (go_quiet (fail); go_upto_region 9 with (fail))
        go_cut [10] (fun v10 wc => ∃ (kq : Nat) (x10_9 : Bool), v10 = .bool x10_9 ∧ Aside0 (tidewayref01_MulDiv.j2 kq a0 a2 x8_2 x9_2 x10_9 (IntKind.u64.wrap (Int.tdiv (IntKind.u64.wrap (a1)) (IntKind.u64.wrap (a2)))) (Int.tmod (IntKind.u64.wrap (a1)) (IntKind.u64.wrap (a2))) x13_2 = some (r1, r2)) ∧ Aside0 (kq ≤ k2) ∧ Drawn0 w wc)
        case first =>
         have H := HC10.out
         clear HC10
         by_cases c11 : x10_2 = true
         ·subst c11
          have H1 : (tidewayref01_MulDiv.j2 k2 a0 a2 x8_2 x9_2 true (IntKind.u64.wrap (Int.tdiv (IntKind.u64.wrap (a1)) (IntKind.u64.wrap (a2)))) (Int.tmod (IntKind.u64.wrap (a1)) (IntKind.u64.wrap (a2))) x13_2) = some (r1, r2) := by rw [if_pos rfl] at H; exact H
          clear H
          have H := H1
          clear H1
          have H' := Aside0.mk H
          clear H
          go_wp2
          repeat (go_quiet (fail); try go_wp2)
          go_meet
          case rel => exact ⟨_, (true), (by first | rfl | (simp; done) | (simp [*]; done)), H', ⟨by have := HJ3.out; have := HK2.out; first | omega | exact Nat.le_refl _⟩, by repeat (first | exact Drawn0.refl _ | apply Drawn0.step)⟩
         ·replace c11 := Bool.eq_false_iff.mpr c11
          subst c11
          have H1 : (tidewayref01_MulDiv.j2 k2 a0 a2 x8_2 x9_2 (decide (x8_2 ≥ 4611686018427387904)) (IntKind.u64.wrap (Int.tdiv (IntKind.u64.wrap (a1)) (IntKind.u64.wrap (a2)))) (Int.tmod (IntKind.u64.wrap (a1)) (IntKind.u64.wrap (a2))) x13_2) = some (r1, r2) := by rw [if_neg (show ¬ (false = true) by decide)] at H; exact H
          clear H
          have H := H1
          clear H1
          have H' := Aside0.mk H
          clear H
          go_wp2
          repeat (go_quiet (fail); try go_wp2)
          go_meet
          case rel => exact ⟨_, (decide (x8_2 ≥ 4611686018427387904)), (by first | rfl | (simp; done) | (simp [*]; done)), H', ⟨by have := HJ3.out; have := HK2.out; first | omega | exact Nat.le_refl _⟩, by repeat (first | exact Drawn0.refl _ | apply Drawn0.step)⟩
        case rest =>
         clear HC10
         try clear c1
         try clear p2
         try clear c3
         try clear c5
         try clear c5b0
         try clear c6
         try clear c6b0
         try clear c7
         try clear c8
         try clear c8b0
         try clear c8b1
         try clear c9
         try clear c9b0
         try clear c11
         try clear p2
         obtain ⟨kq, x10_9, rfl, HA, HJ9, ⟨mc9, rfl⟩⟩ := hcut
         cases kq with
         | zero => exact absurd HA.out (by simp [tidewayref01_MulDiv.j2])
         | succ kj9 =>
          have H := HA.out
          clear HA
          simp only [tidewayref01_MulDiv.j2] at H
          have HC12 := Aside0.mk H
          clear H
          go_upto_if 50 with (fail)
          repeat (go_quiet (fail); go_upto_if 50 with (fail))
          go_cut [8, 9] (fun v8 v9 wc => ∃ (kq : Nat) (x8_11 : Int) (x9_11 : Int), v8 = .int .u64 x8_11 ∧ v9 = .int .u64 x9_11 ∧ Aside0 (tidewayref01_MulDiv.j3 kq a0 a2 x8_11 x9_11 x10_9 (IntKind.u64.wrap (Int.tdiv (IntKind.u64.wrap (a1)) (IntKind.u64.wrap (a2)))) (Int.tmod (IntKind.u64.wrap (a1)) (IntKind.u64.wrap (a2))) x13_2 = some (r1, r2)) ∧ Aside0 (kq ≤ kj9) ∧ Drawn0 w wc)
          case first =>
           have H := HC12.out
           clear HC12
           by_cases c13 : (IntKind.u64.wrap (2 * x9_2)) ≥ (IntKind.u64.wrap (a2))
           ·rw [if_pos c13] at H
            have c13b0 : decide ((IntKind.u64.wrap (a2)) ≤ (IntKind.u64.wrap (2 * x9_2))) = true := decide_eq_true c13
            clear c13
            (first | rw [c13b0] | (simp only [i64_w, i32_w]; rw [c13b0]) | skip)
            have H' := Aside0.mk H
            clear H
            go_wp2
            repeat (go_quiet (fail); try go_wp2)
            go_meet
            case rel => exact ⟨_, (IntKind.u64.wrap ((IntKind.u64.wrap (2 * x8_2)) + 1)), (IntKind.u64.wrap ((IntKind.u64.wrap (2 * x9_2)) - (IntKind.u64.wrap (a2)))), (by first | rfl | (simp; done) | (simp [*]; done)), (by first | rfl | (simp; done) | (simp [*]; done)), H', ⟨by have := HJ3.out; have := HK2.out; have := HJ9.out; first | omega | exact Nat.le_refl _⟩, by repeat (first | exact Drawn0.refl _ | apply Drawn0.step)⟩
           ·rw [if_neg c13] at H
            have c13b0 : decide ((IntKind.u64.wrap (a2)) ≤ (IntKind.u64.wrap (2 * x9_2))) = false := decide_eq_false c13
            clear c13
            (first | rw [c13b0] | (simp only [i64_w, i32_w]; rw [c13b0]) | skip)
            have H' := Aside0.mk H
            clear H
            go_wp2
            repeat (go_quiet (fail); try go_wp2)
            go_meet
            case rel => exact ⟨_, (IntKind.u64.wrap (2 * x8_2)), (IntKind.u64.wrap (2 * x9_2)), (by first | rfl | (simp; done) | (simp [*]; done)), (by first | rfl | (simp; done) | (simp [*]; done)), H', ⟨by have := HJ3.out; have := HK2.out; have := HJ9.out; first | omega | exact Nat.le_refl _⟩, by repeat (first | exact Drawn0.refl _ | apply Drawn0.step)⟩
          case rest =>
           clear HC12
           try clear c1
           try clear p2
           try clear c3
           try clear c5
           try clear c5b0
           try clear c6
           try clear c6b0
           try clear c7
           try clear c8
           try clear c8b0
           try clear c8b1
           try clear c9
           try clear c9b0
           try clear c11
           try clear c13
           try clear c13b0
           try clear p2
           obtain ⟨kq, x8_11, x9_11, rfl, rfl, HA, HJ11, ⟨mc11, rfl⟩⟩ := hcut
           cases kq with
           | zero => exact absurd HA.out (by simp [tidewayref01_MulDiv.j3])
           | succ kj11 =>
            have H := HA.out
            clear HA
            simp only [tidewayref01_MulDiv.j3] at H
            obtain ⟨ji14, hji14⟩ : ∃ j_ : Int, (IntKind.u64.wrap (x13_2)) = j_ := ⟨_, rfl⟩
            replace H : (if 0 ≤ (ji14) then (if (Go.bits .and .i64 (shr .i64 a0 (ji14)) 1) = 1 then (if x10_9 = true then (if (IntKind.u64.wrap (x9_11 + (Int.tmod (IntKind.u64.wrap (a1)) (IntKind.u64.wrap (a2))))) ≥ (IntKind.u64.wrap (a2)) then (tidewayref01_MulDiv.j4 kj11 a0 a2 (IntKind.u64.wrap ((IntKind.u64.wrap (x8_11 + (IntKind.u64.wrap (Int.tdiv (IntKind.u64.wrap (a1)) (IntKind.u64.wrap (a2)))))) + 1)) (IntKind.u64.wrap ((IntKind.u64.wrap (x9_11 + (Int.tmod (IntKind.u64.wrap (a1)) (IntKind.u64.wrap (a2))))) - (IntKind.u64.wrap (a2)))) true (IntKind.u64.wrap (Int.tdiv (IntKind.u64.wrap (a1)) (IntKind.u64.wrap (a2)))) (Int.tmod (IntKind.u64.wrap (a1)) (IntKind.u64.wrap (a2))) x13_2) else (tidewayref01_MulDiv.j4 kj11 a0 a2 (IntKind.u64.wrap (x8_11 + (IntKind.u64.wrap (Int.tdiv (IntKind.u64.wrap (a1)) (IntKind.u64.wrap (a2)))))) (IntKind.u64.wrap (x9_11 + (Int.tmod (IntKind.u64.wrap (a1)) (IntKind.u64.wrap (a2))))) true (IntKind.u64.wrap (Int.tdiv (IntKind.u64.wrap (a1)) (IntKind.u64.wrap (a2)))) (Int.tmod (IntKind.u64.wrap (a1)) (IntKind.u64.wrap (a2))) x13_2)) else (if (IntKind.u64.wrap (x9_11 + (Int.tmod (IntKind.u64.wrap (a1)) (IntKind.u64.wrap (a2))))) ≥ (IntKind.u64.wrap (a2)) then (tidewayref01_MulDiv.j4 kj11 a0 a2 (IntKind.u64.wrap ((IntKind.u64.wrap (x8_11 + (IntKind.u64.wrap (Int.tdiv (IntKind.u64.wrap (a1)) (IntKind.u64.wrap (a2)))))) + 1)) (IntKind.u64.wrap ((IntKind.u64.wrap (x9_11 + (Int.tmod (IntKind.u64.wrap (a1)) (IntKind.u64.wrap (a2))))) - (IntKind.u64.wrap (a2)))) (decide (x8_11 > (IntKind.u64.wrap (9223372036854775807 - (IntKind.u64.wrap (Int.tdiv (IntKind.u64.wrap (a1)) (IntKind.u64.wrap (a2)))))))) (IntKind.u64.wrap (Int.tdiv (IntKind.u64.wrap (a1)) (IntKind.u64.wrap (a2)))) (Int.tmod (IntKind.u64.wrap (a1)) (IntKind.u64.wrap (a2))) x13_2) else (tidewayref01_MulDiv.j4 kj11 a0 a2 (IntKind.u64.wrap (x8_11 + (IntKind.u64.wrap (Int.tdiv (IntKind.u64.wrap (a1)) (IntKind.u64.wrap (a2)))))) (IntKind.u64.wrap (x9_11 + (Int.tmod (IntKind.u64.wrap (a1)) (IntKind.u64.wrap (a2))))) (decide (x8_11 > (IntKind.u64.wrap (9223372036854775807 - (IntKind.u64.wrap (Int.tdiv (IntKind.u64.wrap (a1)) (IntKind.u64.wrap (a2)))))))) (IntKind.u64.wrap (Int.tdiv (IntKind.u64.wrap (a1)) (IntKind.u64.wrap (a2)))) (Int.tmod (IntKind.u64.wrap (a1)) (IntKind.u64.wrap (a2))) x13_2))) else (tidewayref01_MulDiv.j4 kj11 a0 a2 x8_11 x9_11 x10_9 (IntKind.u64.wrap (Int.tdiv (IntKind.u64.wrap (a1)) (IntKind.u64.wrap (a2)))) (Int.tmod (IntKind.u64.wrap (a1)) (IntKind.u64.wrap (a2))) x13_2)) else (none)) = some (r1, r2) := by first | (rw [hji14] at H; exact H) | (simp only [hji14] at H ⊢; exact H)
            by_cases c15 : 0 ≤ (ji14)
            ·rw [if_pos c15] at H
             have c15b0 := eq_true c15
             have c15b1 : decide (0 ≤ (ji14)) = true := decide_eq_true c15
             clear c15
             obtain ⟨ji16, hji16⟩ : ∃ j_ : Int, (shr .i64 a0 (ji14)) = j_ := ⟨_, rfl⟩
             replace H : (if (Go.bits .and .i64 (ji16) 1) = 1 then (if x10_9 = true then (if (IntKind.u64.wrap (x9_11 + (Int.tmod (IntKind.u64.wrap (a1)) (IntKind.u64.wrap (a2))))) ≥ (IntKind.u64.wrap (a2)) then (tidewayref01_MulDiv.j4 kj11 a0 a2 (IntKind.u64.wrap ((IntKind.u64.wrap (x8_11 + (IntKind.u64.wrap (Int.tdiv (IntKind.u64.wrap (a1)) (IntKind.u64.wrap (a2)))))) + 1)) (IntKind.u64.wrap ((IntKind.u64.wrap (x9_11 + (Int.tmod (IntKind.u64.wrap (a1)) (IntKind.u64.wrap (a2))))) - (IntKind.u64.wrap (a2)))) true (IntKind.u64.wrap (Int.tdiv (IntKind.u64.wrap (a1)) (IntKind.u64.wrap (a2)))) (Int.tmod (IntKind.u64.wrap (a1)) (IntKind.u64.wrap (a2))) x13_2) else (tidewayref01_MulDiv.j4 kj11 a0 a2 (IntKind.u64.wrap (x8_11 + (IntKind.u64.wrap (Int.tdiv (IntKind.u64.wrap (a1)) (IntKind.u64.wrap (a2)))))) (IntKind.u64.wrap (x9_11 + (Int.tmod (IntKind.u64.wrap (a1)) (IntKind.u64.wrap (a2))))) true (IntKind.u64.wrap (Int.tdiv (IntKind.u64.wrap (a1)) (IntKind.u64.wrap (a2)))) (Int.tmod (IntKind.u64.wrap (a1)) (IntKind.u64.wrap (a2))) x13_2)) else (if (IntKind.u64.wrap (x9_11 + (Int.tmod (IntKind.u64.wrap (a1)) (IntKind.u64.wrap (a2))))) ≥ (IntKind.u64.wrap (a2)) then (tidewayref01_MulDiv.j4 kj11 a0 a2 (IntKind.u64.wrap ((IntKind.u64.wrap (x8_11 + (IntKind.u64.wrap (Int.tdiv (IntKind.u64.wrap (a1)) (IntKind.u64.wrap (a2)))))) + 1)) (IntKind.u64.wrap ((IntKind.u64.wrap (x9_11 + (Int.tmod (IntKind.u64.wrap (a1)) (IntKind.u64.wrap (a2))))) - (IntKind.u64.wrap (a2)))) (decide (x8_11 > (IntKind.u64.wrap (9223372036854775807 - (IntKind.u64.wrap (Int.tdiv (IntKind.u64.wrap (a1)) (IntKind.u64.wrap (a2)))))))) (IntKind.u64.wrap (Int.tdiv (IntKind.u64.wrap (a1)) (IntKind.u64.wrap (a2)))) (Int.tmod (IntKind.u64.wrap (a1)) (IntKind.u64.wrap (a2))) x13_2) else (tidewayref01_MulDiv.j4 kj11 a0 a2 (IntKind.u64.wrap (x8_11 + (IntKind.u64.wrap (Int.tdiv (IntKind.u64.wrap (a1)) (IntKind.u64.wrap (a2)))))) (IntKind.u64.wrap (x9_11 + (Int.tmod (IntKind.u64.wrap (a1)) (IntKind.u64.wrap (a2))))) (decide (x8_11 > (IntKind.u64.wrap (9223372036854775807 - (IntKind.u64.wrap (Int.tdiv (IntKind.u64.wrap (a1)) (IntKind.u64.wrap (a2)))))))) (IntKind.u64.wrap (Int.tdiv (IntKind.u64.wrap (a1)) (IntKind.u64.wrap (a2)))) (Int.tmod (IntKind.u64.wrap (a1)) (IntKind.u64.wrap (a2))) x13_2))) else (tidewayref01_MulDiv.j4 kj11 a0 a2 x8_11 x9_11 x10_9 (IntKind.u64.wrap (Int.tdiv (IntKind.u64.wrap (a1)) (IntKind.u64.wrap (a2)))) (Int.tmod (IntKind.u64.wrap (a1)) (IntKind.u64.wrap (a2))) x13_2)) = some (r1, r2) := by first | (rw [hji16] at H; exact H) | (simp only [hji16] at H ⊢; exact H)
             have hji16_ : (a0 / 2 ^ min (ji14).toNat 64) = ji16 := hji16
             have hji16z : (ji14) ≤ 64 → (a0 / 2 ^ (ji14).toNat) = ji16 := shr_small hji16
             have HC17 := Aside0.mk H
             clear H
             go_upto_if 62 with (fail)
             repeat (go_quiet (fail); go_upto_if 62 with (fail))
             go_cut [8, 9, 10] (fun v8 v9 v10 wc => ∃ (kq : Nat) (x8_16 : Int) (x9_16 : Int) (x10_16 : Bool), v8 = .int .u64 x8_16 ∧ v9 = .int .u64 x9_16 ∧ v10 = .bool x10_16 ∧ Aside0 (tidewayref01_MulDiv.j4 kq a0 a2 x8_16 x9_16 x10_16 (IntKind.u64.wrap (Int.tdiv (IntKind.u64.wrap (a1)) (IntKind.u64.wrap (a2)))) (Int.tmod (IntKind.u64.wrap (a1)) (IntKind.u64.wrap (a2))) x13_2 = some (r1, r2)) ∧ Aside0 (kq ≤ kj11) ∧ Drawn0 w wc)
             case first =>
              have H := HC17.out
              clear HC17
              by_cases c18 : (Go.bits .and .i64 (ji16) 1) = 1
              ·rw [if_pos c18] at H
               have c18b0 : ((Go.bits .and .i64 (ji16) 1) == 1) = true := beq_iff_eq.mpr c18
               have c18b1 : ((Go.bits .and .i64 (ji16) 1) != 1) = false := bne_eq_false_iff_eq.mpr c18
               clear c18
               (first | rw [c18b0] | (simp only [i64_w, i32_w]; rw [c18b0]) | skip)
               by_cases c19 : x10_9 = true
               ·subst c19
                have H1 : (if (IntKind.u64.wrap (x9_11 + (Int.tmod (IntKind.u64.wrap (a1)) (IntKind.u64.wrap (a2))))) ≥ (IntKind.u64.wrap (a2)) then (tidewayref01_MulDiv.j4 kj11 a0 a2 (IntKind.u64.wrap ((IntKind.u64.wrap (x8_11 + (IntKind.u64.wrap (Int.tdiv (IntKind.u64.wrap (a1)) (IntKind.u64.wrap (a2)))))) + 1)) (IntKind.u64.wrap ((IntKind.u64.wrap (x9_11 + (Int.tmod (IntKind.u64.wrap (a1)) (IntKind.u64.wrap (a2))))) - (IntKind.u64.wrap (a2)))) true (IntKind.u64.wrap (Int.tdiv (IntKind.u64.wrap (a1)) (IntKind.u64.wrap (a2)))) (Int.tmod (IntKind.u64.wrap (a1)) (IntKind.u64.wrap (a2))) x13_2) else (tidewayref01_MulDiv.j4 kj11 a0 a2 (IntKind.u64.wrap (x8_11 + (IntKind.u64.wrap (Int.tdiv (IntKind.u64.wrap (a1)) (IntKind.u64.wrap (a2)))))) (IntKind.u64.wrap (x9_11 + (Int.tmod (IntKind.u64.wrap (a1)) (IntKind.u64.wrap (a2))))) true (IntKind.u64.wrap (Int.tdiv (IntKind.u64.wrap (a1)) (IntKind.u64.wrap (a2)))) (Int.tmod (IntKind.u64.wrap (a1)) (IntKind.u64.wrap (a2))) x13_2)) = some (r1, r2) := by rw [if_pos rfl] at H; exact H
                clear H
                have H := H1
                clear H1
                by_cases c20 : (IntKind.u64.wrap (x9_11 + (Int.tmod (IntKind.u64.wrap (a1)) (IntKind.u64.wrap (a2))))) ≥ (IntKind.u64.wrap (a2))
                ·rw [if_pos c20] at H
                 have c20b0 : decide ((IntKind.u64.wrap (a2)) ≤ (IntKind.u64.wrap (x9_11 + (Int.tmod (IntKind.u64.wrap (a1)) (IntKind.u64.wrap (a2)))))) = true := decide_eq_true c20
                 clear c20
                 have H' := Aside0.mk H
                 clear H
                 go_wp2
                 repeat (go_quiet (fail); try go_wp2)
                 go_meet
                 case rel => exact ⟨_, (IntKind.u64.wrap ((IntKind.u64.wrap (x8_11 + (IntKind.u64.wrap (Int.tdiv (IntKind.u64.wrap (a1)) (IntKind.u64.wrap (a2)))))) + 1)), (IntKind.u64.wrap ((IntKind.u64.wrap (x9_11 + (Int.tmod (IntKind.u64.wrap (a1)) (IntKind.u64.wrap (a2))))) - (IntKind.u64.wrap (a2)))), (true), (by first | rfl | (simp; done) | (simp [*]; done)), (by first | rfl | (simp; done) | (simp [*]; done)), (by first | rfl | (simp; done) | (simp [*]; done)), H', ⟨by have := HJ3.out; have := HK2.out; have := HJ9.out; have := HJ11.out; first | omega | exact Nat.le_refl _⟩, by repeat (first | exact Drawn0.refl _ | apply Drawn0.step)⟩
                ·rw [if_neg c20] at H
                 have c20b0 : decide ((IntKind.u64.wrap (a2)) ≤ (IntKind.u64.wrap (x9_11 + (Int.tmod (IntKind.u64.wrap (a1)) (IntKind.u64.wrap (a2)))))) = false := decide_eq_false c20
                 clear c20
                 have H' := Aside0.mk H
                 clear H
                 go_wp2
                 repeat (go_quiet (fail); try go_wp2)
                 go_meet
                 case rel => exact ⟨_, (IntKind.u64.wrap (x8_11 + (IntKind.u64.wrap (Int.tdiv (IntKind.u64.wrap (a1)) (IntKind.u64.wrap (a2)))))), (IntKind.u64.wrap (x9_11 + (Int.tmod (IntKind.u64.wrap (a1)) (IntKind.u64.wrap (a2))))), (true), (by first | rfl | (simp; done) | (simp [*]; done)), (by first | rfl | (simp; done) | (simp [*]; done)), (by first | rfl | (simp; done) | (simp [*]; done)), H', ⟨by have := HJ3.out; have := HK2.out; have := HJ9.out; have := HJ11.out; first | omega | exact Nat.le_refl _⟩, by repeat (first | exact Drawn0.refl _ | apply Drawn0.step)⟩
               ·replace c19 := Bool.eq_false_iff.mpr c19
                subst c19
                have H1 : (if (IntKind.u64.wrap (x9_11 + (Int.tmod (IntKind.u64.wrap (a1)) (IntKind.u64.wrap (a2))))) ≥ (IntKind.u64.wrap (a2)) then (tidewayref01_MulDiv.j4 kj11 a0 a2 (IntKind.u64.wrap ((IntKind.u64.wrap (x8_11 + (IntKind.u64.wrap (Int.tdiv (IntKind.u64.wrap (a1)) (IntKind.u64.wrap (a2)))))) + 1)) (IntKind.u64.wrap ((IntKind.u64.wrap (x9_11 + (Int.tmod (IntKind.u64.wrap (a1)) (IntKind.u64.wrap (a2))))) - (IntKind.u64.wrap (a2)))) (decide (x8_11 > (IntKind.u64.wrap (9223372036854775807 - (IntKind.u64.wrap (Int.tdiv (IntKind.u64.wrap (a1)) (IntKind.u64.wrap (a2)))))))) (IntKind.u64.wrap (Int.tdiv (IntKind.u64.wrap (a1)) (IntKind.u64.wrap (a2)))) (Int.tmod (IntKind.u64.wrap (a1)) (IntKind.u64.wrap (a2))) x13_2) else (tidewayref01_MulDiv.j4 kj11 a0 a2 (IntKind.u64.wrap (x8_11 + (IntKind.u64.wrap (Int.tdiv (IntKind.u64.wrap (a1)) (IntKind.u64.wrap (a2)))))) (IntKind.u64.wrap (x9_11 + (Int.tmod (IntKind.u64.wrap (a1)) (IntKind.u64.wrap (a2))))) (decide (x8_11 > (IntKind.u64.wrap (9223372036854775807 - (IntKind.u64.wrap (Int.tdiv (IntKind.u64.wrap (a1)) (IntKind.u64.wrap (a2)))))))) (IntKind.u64.wrap (Int.tdiv (IntKind.u64.wrap (a1)) (IntKind.u64.wrap (a2)))) (Int.tmod (IntKind.u64.wrap (a1)) (IntKind.u64.wrap (a2))) x13_2)) = some (r1, r2) := by rw [if_neg (show ¬ (false = true) by decide)] at H; exact H
                clear H
                have H := H1
                clear H1
                by_cases c21 : (IntKind.u64.wrap (x9_11 + (Int.tmod (IntKind.u64.wrap (a1)) (IntKind.u64.wrap (a2))))) ≥ (IntKind.u64.wrap (a2))
                ·rw [if_pos c21] at H
                 have c21b0 : decide ((IntKind.u64.wrap (a2)) ≤ (IntKind.u64.wrap (x9_11 + (Int.tmod (IntKind.u64.wrap (a1)) (IntKind.u64.wrap (a2)))))) = true := decide_eq_true c21
                 clear c21
                 have H' := Aside0.mk H
                 clear H
                 go_wp2
                 repeat (go_quiet (fail); try go_wp2)
                 go_meet
                 case rel => exact ⟨_, (IntKind.u64.wrap ((IntKind.u64.wrap (x8_11 + (IntKind.u64.wrap (Int.tdiv (IntKind.u64.wrap (a1)) (IntKind.u64.wrap (a2)))))) + 1)), (IntKind.u64.wrap ((IntKind.u64.wrap (x9_11 + (Int.tmod (IntKind.u64.wrap (a1)) (IntKind.u64.wrap (a2))))) - (IntKind.u64.wrap (a2)))), (decide (x8_11 > (IntKind.u64.wrap (9223372036854775807 - (IntKind.u64.wrap (Int.tdiv (IntKind.u64.wrap (a1)) (IntKind.u64.wrap (a2)))))))), (by first | rfl | (simp; done) | (simp [*]; done)), (by first | rfl | (simp; done) | (simp [*]; done)), (by first | rfl | (simp; done) | (simp [*]; done)), H', ⟨by have := HJ3.out; have := HK2.out; have := HJ9.out; have := HJ11.out; first | omega | exact Nat.le_refl _⟩, by repeat (first | exact Drawn0.refl _ | apply Drawn0.step)⟩
                ·rw [if_neg c21] at H
                 have c21b0 : decide ((IntKind.u64.wrap (a2)) ≤ (IntKind.u64.wrap (x9_11 + (Int.tmod (IntKind.u64.wrap (a1)) (IntKind.u64.wrap (a2)))))) = false := decide_eq_false c21
                 clear c21
                 have H' := Aside0.mk H
                 clear H
                 go_wp2
                 repeat (go_quiet (fail); try go_wp2)
                 go_meet
                 case rel => exact ⟨_, (IntKind.u64.wrap (x8_11 + (IntKind.u64.wrap (Int.tdiv (IntKind.u64.wrap (a1)) (IntKind.u64.wrap (a2)))))), (IntKind.u64.wrap (x9_11 + (Int.tmod (IntKind.u64.wrap (a1)) (IntKind.u64.wrap (a2))))), (decide (x8_11 > (IntKind.u64.wrap (9223372036854775807 - (IntKind.u64.wrap (Int.tdiv (IntKind.u64.wrap (a1)) (IntKind.u64.wrap (a2)))))))), (by first | rfl | (simp; done) | (simp [*]; done)), (by first | rfl | (simp; done) | (simp [*]; done)), (by first | rfl | (simp; done) | (simp [*]; done)), H', ⟨by have := HJ3.out; have := HK2.out; have := HJ9.out; have := HJ11.out; first | omega | exact Nat.le_refl _⟩, by repeat (first | exact Drawn0.refl _ | apply Drawn0.step)⟩
              ·rw [if_neg c18] at H
               have c18b0 : ((Go.bits .and .i64 (ji16) 1) == 1) = false := beq_eq_false_iff_ne.mpr c18
               have c18b1 : ((Go.bits .and .i64 (ji16) 1) != 1) = true := bne_iff_ne.mpr c18
               (first | rw [c18b0] | (simp only [i64_w, i32_w]; rw [c18b0]) | skip)
               have H' := Aside0.mk H
               clear H
               go_wp2
               repeat (go_quiet (fail); try go_wp2)
               go_meet
               case rel => exact ⟨_, (x8_11), (x9_11), (x10_9), (by first | rfl | (simp; done) | (simp [*]; done)), (by first | rfl | (simp; done) | (simp [*]; done)), (by first | rfl | (simp; done) | (simp [*]; done)), H', ⟨by have := HJ3.out; have := HK2.out; have := HJ9.out; have := HJ11.out; first | omega | exact Nat.le_refl _⟩, by repeat (first | exact Drawn0.refl _ | apply Drawn0.step)⟩
             case rest =>
              clear HC17
              try clear c1
              try clear c2
              try clear p2
              try clear c3
              try clear c5
              try clear c5b0
              try clear c6
              try clear c6b0
              try clear c7
              try clear c8
              try clear c8b0
              try clear c8b1
              try clear c9
              try clear c9b0
              try clear c11
              try clear c13
              try clear c13b0
              try clear c15
              try clear c15b0
              try clear c15b1
              try clear c18
              try clear c18b0
              try clear c18b1
              try clear c19
              try clear c20
              try clear c20b0
              try clear c21
              try clear c21b0
              try clear p2
              obtain ⟨kq, x8_16, x9_16, x10_16, rfl, rfl, rfl, HA, HJ16, ⟨mc16, rfl⟩⟩ := hcut
              cases kq with
              | zero => exact absurd HA.out (by simp [tidewayref01_MulDiv.j4])
              | succ kj16 =>
               have H := HA.out
               clear HA
               simp only [tidewayref01_MulDiv.j4] at H
               by_cases c22 : x10_16 = true
               ·subst c22
                have H1 : (some (9223372036854775807, 0)) = some (r1, r2) := by rw [if_pos rfl] at H; exact H
                clear H
                have H := H1
                clear H1
                simp only [Option.some.injEq, Prod.mk.injEq] at H
                obtain ⟨rfl, rfl⟩ := H
                go_wp2
                repeat (go_quiet (fail); try go_wp2)
                go_ret2
                exact ⟨by first | rfl | (simp; done) | (simp only [← hji14, ← hji16] <;> (first | rfl | simp)) | (simp [*]; done), by repeat (first | exact Drawn0.refl _ | apply Drawn0.step)⟩
               ·replace c22 := Bool.eq_false_iff.mpr c22
                subst c22
                have H1 : (if x8_16 > 9223372036854775807 then (some (9223372036854775807, 0)) else (tidewayref01_MulDiv.l0 kj16 a0 a2 x8_16 x9_16 false (IntKind.u64.wrap (Int.tdiv (IntKind.u64.wrap (a1)) (IntKind.u64.wrap (a2)))) (Int.tmod (IntKind.u64.wrap (a1)) (IntKind.u64.wrap (a2))) (wrap64 (x13_2 - 1)))) = some (r1, r2) := by rw [if_neg (show ¬ (false = true) by decide)] at H; exact H
                clear H
                have H := H1
                clear H1
                by_cases c23 : x8_16 > 9223372036854775807
                ·rw [if_pos c23] at H
                 have c23b0 : decide (9223372036854775807 < x8_16) = true := decide_eq_true c23
                 clear c23
                 simp only [Option.some.injEq, Prod.mk.injEq] at H
                 obtain ⟨rfl, rfl⟩ := H
                 go_wp2
                 repeat (go_quiet (fail); try go_wp2)
                 go_ret2
                 exact ⟨by first | rfl | (simp; done) | (simp only [← hji14, ← hji16] <;> (first | rfl | simp)) | (simp [*]; done), by repeat (first | exact Drawn0.refl _ | apply Drawn0.step)⟩
                ·rw [if_neg c23] at H
                 have c23b0 : decide (9223372036854775807 < x8_16) = false := decide_eq_false c23
                 clear c23
                 have H' := Aside0.mk H
                 clear H
                 go_wp2
                 repeat (go_quiet (fail); try go_wp2)
                 go_roundg kj16
                 case measure => have := HJ3.out; have := HK2.out; have := HJ9.out; have := HJ11.out; have := HJ16.out; omega
                 case rel => exact ⟨(x8_16), (x9_16), (false), (wrap64 (x13_2 - 1)), (by first | rfl | (simp; done) | (simp [*]; done)), (by first | rfl | (simp; done) | (simp [*]; done)), (by first | rfl | (simp; done) | (simp [*]; done)), (by first | rfl | (simp; done) | (simp [*]; done)), H', ⟨by have := HJ3.out; have := HK2.out; have := HJ9.out; have := HJ11.out; have := HJ16.out; omega⟩, by repeat (first | exact Drawn0.refl _ | apply Drawn0.step)⟩
            ·rw [if_neg c15] at H
             exact absurd H (by simp)
       ·rw [if_neg c9] at H
        have c9b0 : decide (0 ≤ x13_2) = false := decide_eq_false c9
        clear c9
        simp only [Option.some.injEq, Prod.mk.injEq] at H
        obtain ⟨rfl, rfl⟩ := H
        go_wp2
        repeat (go_quiet (fail); try go_wp2)
        go_ret2
        exact ⟨by first | rfl | (simp; done) | (simp [*]; done), by repeat (first | exact Drawn0.refl _ | apply Drawn0.step)⟩

/-! ### tidewayref25_within: function 32 -/
def tidewayref25_within.f (k : Nat) (a0 : Int) (a1 : Int) (a2 : Int) : Option (Bool) := if a0 ≤ 0 then (some true) else ((tidewayref01_MulDiv.f k a1 a2 1000000).bind fun bt224 => (some (decide (a0 ≤ bt224.1))))
set_option maxHeartbeats 8000000 in
set_option maxRecDepth 100000 in
theorem tidewayref25_within.calls (k : Nat) (a0 : Int) (a1 : Int) (a2 : Int) (r : Bool) (w : World) (h : tidewayref25_within.f k a0 a1 a2 = some r) :
  Calls Try.prog 32 #[.int .i64 a0, .int .i64 a1, .int .i64 a2] w fun e w' => e = .returned (.bool r) ∧ Drawn0 w w' := by
 have H : (if a0 ≤ 0 then (some true) else ((tidewayref01_MulDiv.f k a1 a2 1000000).bind fun bt224 => (some (decide (a0 ≤ bt224.1))))) = some r := h
 clear h
 by_cases c4 : a0 ≤ 0
 ·rw [if_pos c4] at H
  have c4b0 : decide (a0 ≤ 0) = true := decide_eq_true c4
  clear c4
  obtain rfl := Option.some.inj H
  go_enter Try.func32, Try.ntmps32
  go_wp2
  go_ret
  exact ⟨by first | rfl | (simp; done) | (simp [*]; done), by repeat (first | exact Drawn0.refl _ | apply Drawn0.step)⟩
 ·rw [if_neg c4] at H
  have c4b0 : decide (a0 ≤ 0) = false := decide_eq_false c4
  clear c4
  replace H := Option.bind_eq_some_iff.mp H
  obtain ⟨⟨t224, t225⟩, A50, H⟩ := H
  replace H : (some (decide (a0 ≤ t224))) = some r := H
  have A5 := Aside0.mk A50
  clear A50
  obtain rfl := Option.some.inj H
  go_enter Try.func32, Try.ntmps32
  go_wp2_with (first | ((with_reducible refine gate_callee (f := 53) rfl ?_); refine goesL_ (some 14) rfl rfl Try.func53 (by kernel_rfl) rfl #[.int .i64 a1, .int .i64 a2, .int .i64 1000000] rfl (by (try simp only [List.map_toArray, List.map_cons, List.map_nil]); first | done | rfl | (simp only [List.length_drop, List.length_take]; rfl)) ?_; (with_reducible refine (tidewayref01_MulDiv.calls k a1 a2 1000000 t224 t225 _ A5.out).mono ?_); rintro e w' ⟨rfl, ⟨nd, rfl⟩⟩; refine ⟨_, rfl, ?_⟩))
  go_ret
  exact ⟨by first | rfl | (simp; done) | (simp [*]; done), by repeat (first | exact Drawn0.refl _ | apply Drawn0.step)⟩

end Go.Proofs.Ytflmfbcapccdeaa.PA

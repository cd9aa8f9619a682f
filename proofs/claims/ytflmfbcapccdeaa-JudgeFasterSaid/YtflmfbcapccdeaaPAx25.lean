-- Written for the seat Ytflmfbcapccdeaa by this session's program hyb.py (the print's functions, with externals typed by hand).
import Derived.Test.YtflmfbcapccdeaaPAx0
import Derived.Test.YtflmfbcapccdeaaPAx17
import Derived.Test.YtflmfbcapccdeaaPAx24
namespace Go.Proofs.Ytflmfbcapccdeaa.PA
open Go.RowKit Go.Proofs.YtflmfbcapccdeaaW.PrintWords Go.Proofs.YtflmfbcapccdeaaW.PrintLast Go.Proofs.YtflmfbcapccdeaaW.PrintMore
attribute [local go_sem] max2_int min2_int max_two min_two max_three min_three max_four min_four   -- for this text's walks alone
set_option linter.unusedVariables false
set_option linter.unusedSimpArgs false

/-! ### tidewaylaw25_JudgeFaster: function 6 -/
mutual
def tidewaylaw25_JudgeFaster.j0 : Nat → List (S62) → Int → Int → Int → Int → Bool → Option (Bool)
 | 0, _, _, _, _, _, _ => none
 | k + 1, x0, x1, x2, x3, x4, x22 => if x22 = true then ((tidewaylaw25_heads.f k).bind fun t201 => (some t201)) else (if x3 < 0 then (tidewaylaw25_JudgeFaster.j1 k x0 x1 x2 x3 x4 true) else (if x3 > 1048576 then (tidewaylaw25_JudgeFaster.j1 k x0 x1 x2 x3 x4 true) else (if x1 > 549755813888 then (tidewaylaw25_JudgeFaster.j1 k x0 x1 x2 x3 x4 true) else (tidewaylaw25_JudgeFaster.j1 k x0 x1 x2 x3 x4 (decide (x2 > 536870912))))))
def tidewaylaw25_JudgeFaster.j1 : Nat → List (S62) → Int → Int → Int → Int → Bool → Option (Bool)
 | 0, _, _, _, _, _, _ => none
 | k + 1, x0, x1, x2, x3, x4, x37 => if x37 = true then ((tidewaylaw25_heads.f k).bind fun t202 => (some t202)) else (if (x0.length : Int) > 0 then (if (IntKind.u64.wrap ((x0.length : Int))) = 0 then (none) else (tidewaylaw25_JudgeFaster.j2 k x0 x1 x2 x3 (wrap64 (Int.tmod (IntKind.u64.wrap (x4)) (IntKind.u64.wrap ((x0.length : Int))))))) else (tidewaylaw25_JudgeFaster.j2 k x0 x1 x2 x3 0))
def tidewaylaw25_JudgeFaster.j2 : Nat → List (S62) → Int → Int → Int → Int → Option (Bool)
 | 0, _, _, _, _, _ => none
 | k + 1, x0, x1, x2, x3, x11 => (some (([] : List (S62)) : List (S62))).bind fun y203 => (if 0 ≤ x11 then (if x11 ≤ (x0.length : Int) then ((some (x0.take (x11 : Int).toNat : List (S62))).bind fun y206 => (if y203.length + y206.length < 8796093022208 then ((some (y203 ++ y206 : List (S62))).bind fun y210 => (if x11 < (x0.length : Int) then (if 0 ≤ (wrap64 (x11 + 1)) then (if (wrap64 (x11 + 1)) ≤ (x0.length : Int) then ((some (x0.drop ((wrap64 (x11 + 1)) : Int).toNat : List (S62))).bind fun y213 => (if y210.length + y213.length < 8796093022208 then (tidewaylaw25_JudgeFaster.j3 k x0 x1 x2 x3 (y210 ++ y213)) else (none))) else (none)) else (none)) else (tidewaylaw25_JudgeFaster.j3 k x0 x1 x2 x3 y210))) else (none))) else (none)) else (none))
def tidewaylaw25_JudgeFaster.j3 : Nat → List (S62) → Int → Int → Int → List (S62) → Option (Bool)
 | 0, _, _, _, _, _ => none
 | k + 1, x0, x1, x2, x3, x12 => (judge_Paced.f x0 (wrap64 (x1 + x3)) x2).bind fun t220 => (if t220 = true then ((judge_Paced.f x0 x1 (wrap64 (x2 + x3))).bind fun t221 => (if t221 = true then ((judge_Paced.f x12 x1 x2).bind fun t222 => (if t222 = true then ((tidewaylaw25_heads.f k).bind fun t223 => (some t223)) else (some false))) else (some false))) else (some false))
end
def tidewaylaw25_JudgeFaster.f (k : Nat) (l0 : List (S62)) (a1 : Int) (a2 : Int) (a3 : Int) (a4 : Int) : Option (Bool) := if (l0.length : Int) > 200 then (tidewaylaw25_JudgeFaster.j0 k l0 a1 a2 a3 a4 true) else ((judge_Paced.f l0 a1 a2).bind fun t200 => (tidewaylaw25_JudgeFaster.j0 k l0 a1 a2 a3 a4 (!t200)))
theorem tidewaylaw25_JudgeFaster.mono_l : ∀ k, (∀ y0 y1 y2 y3 y4 y5, LeO (tidewaylaw25_JudgeFaster.j0 k y0 y1 y2 y3 y4 y5) (tidewaylaw25_JudgeFaster.j0 (k + 1) y0 y1 y2 y3 y4 y5)) ∧ (∀ y0 y1 y2 y3 y4 y5, LeO (tidewaylaw25_JudgeFaster.j1 k y0 y1 y2 y3 y4 y5) (tidewaylaw25_JudgeFaster.j1 (k + 1) y0 y1 y2 y3 y4 y5)) ∧ (∀ y0 y1 y2 y3 y4, LeO (tidewaylaw25_JudgeFaster.j2 k y0 y1 y2 y3 y4) (tidewaylaw25_JudgeFaster.j2 (k + 1) y0 y1 y2 y3 y4)) ∧ (∀ y0 y1 y2 y3 y4, LeO (tidewaylaw25_JudgeFaster.j3 k y0 y1 y2 y3 y4) (tidewaylaw25_JudgeFaster.j3 (k + 1) y0 y1 y2 y3 y4))
 | 0 => ⟨fun _ _ _ _ _ _ r h => by simp [tidewaylaw25_JudgeFaster.j0] at h, fun _ _ _ _ _ _ r h => by simp [tidewaylaw25_JudgeFaster.j1] at h, fun _ _ _ _ _ r h => by simp [tidewaylaw25_JudgeFaster.j2] at h, fun _ _ _ _ _ r h => by simp [tidewaylaw25_JudgeFaster.j3] at h⟩
 | k + 1 => by
  obtain ⟨ih0, ih1, ih2, ih3⟩ := tidewaylaw25_JudgeFaster.mono_l k
  refine ⟨?_, ?_, ?_, ?_⟩
  ·intro y0 y1 y2 y3 y4 y5
   unfold tidewaylaw25_JudgeFaster.j0
   repeat' first
   | (with_reducible exact ih0 _ _ _ _ _ _)
   | (with_reducible exact ih1 _ _ _ _ _ _)
   | (with_reducible exact ih2 _ _ _ _ _)
   | (with_reducible exact ih3 _ _ _ _ _)
   | (with_reducible exact tidewaylaw25_heads.mono _)
   | (with_reducible exact LeO.refl _)
   | (with_reducible exact LeO.none _)
   | (with_reducible refine LeO.ite ?_ ?_)
   | (with_reducible refine LeO.bind ?_ (fun _ => ?_))
   | exact ih0 _ _ _ _ _ _
   | exact ih1 _ _ _ _ _ _
   | exact ih2 _ _ _ _ _
   | exact ih3 _ _ _ _ _
   | exact tidewaylaw25_heads.mono _
   | exact LeO.none _
   | refine LeO.ite ?_ ?_
   | refine LeO.bind ?_ (fun _ => ?_)
  ·intro y0 y1 y2 y3 y4 y5
   unfold tidewaylaw25_JudgeFaster.j1
   repeat' first
   | (with_reducible exact ih0 _ _ _ _ _ _)
   | (with_reducible exact ih1 _ _ _ _ _ _)
   | (with_reducible exact ih2 _ _ _ _ _)
   | (with_reducible exact ih3 _ _ _ _ _)
   | (with_reducible exact tidewaylaw25_heads.mono _)
   | (with_reducible exact LeO.refl _)
   | (with_reducible exact LeO.none _)
   | (with_reducible refine LeO.ite ?_ ?_)
   | (with_reducible refine LeO.bind ?_ (fun _ => ?_))
   | exact ih0 _ _ _ _ _ _
   | exact ih1 _ _ _ _ _ _
   | exact ih2 _ _ _ _ _
   | exact ih3 _ _ _ _ _
   | exact tidewaylaw25_heads.mono _
   | exact LeO.none _
   | refine LeO.ite ?_ ?_
   | refine LeO.bind ?_ (fun _ => ?_)
  ·intro y0 y1 y2 y3 y4
   unfold tidewaylaw25_JudgeFaster.j2
   repeat' first
   | (with_reducible exact ih0 _ _ _ _ _ _)
   | (with_reducible exact ih1 _ _ _ _ _ _)
   | (with_reducible exact ih2 _ _ _ _ _)
   | (with_reducible exact ih3 _ _ _ _ _)
   | (with_reducible exact tidewaylaw25_heads.mono _)
   | (with_reducible exact LeO.refl _)
   | (with_reducible exact LeO.none _)
   | (with_reducible refine LeO.ite ?_ ?_)
   | (with_reducible refine LeO.bind ?_ (fun _ => ?_))
   | exact ih0 _ _ _ _ _ _
   | exact ih1 _ _ _ _ _ _
   | exact ih2 _ _ _ _ _
   | exact ih3 _ _ _ _ _
   | exact tidewaylaw25_heads.mono _
   | exact LeO.none _
   | refine LeO.ite ?_ ?_
   | refine LeO.bind ?_ (fun _ => ?_)
  ·intro y0 y1 y2 y3 y4
   unfold tidewaylaw25_JudgeFaster.j3
   repeat' first
   | (with_reducible exact ih0 _ _ _ _ _ _)
   | (with_reducible exact ih1 _ _ _ _ _ _)
   | (with_reducible exact ih2 _ _ _ _ _)
   | (with_reducible exact ih3 _ _ _ _ _)
   | (with_reducible exact tidewaylaw25_heads.mono _)
   | (with_reducible exact LeO.refl _)
   | (with_reducible exact LeO.none _)
   | (with_reducible refine LeO.ite ?_ ?_)
   | (with_reducible refine LeO.bind ?_ (fun _ => ?_))
   | exact ih0 _ _ _ _ _ _
   | exact ih1 _ _ _ _ _ _
   | exact ih2 _ _ _ _ _
   | exact ih3 _ _ _ _ _
   | exact tidewaylaw25_heads.mono _
   | exact LeO.none _
   | refine LeO.ite ?_ ?_
   | refine LeO.bind ?_ (fun _ => ?_)
theorem tidewaylaw25_JudgeFaster.mono : ∀ a0 a1 a2 a3 a4 k, LeO (tidewaylaw25_JudgeFaster.f k a0 a1 a2 a3 a4) (tidewaylaw25_JudgeFaster.f (k + 1) a0 a1 a2 a3 a4) := by
 intro a0 a1 a2 a3 a4 k
 obtain ⟨ih0, ih1, ih2, ih3⟩ := tidewaylaw25_JudgeFaster.mono_l k
 unfold tidewaylaw25_JudgeFaster.f
 repeat' first
   | (with_reducible exact ih0 _ _ _ _ _ _)
   | (with_reducible exact ih1 _ _ _ _ _ _)
   | (with_reducible exact ih2 _ _ _ _ _)
   | (with_reducible exact ih3 _ _ _ _ _)
   | (with_reducible exact tidewaylaw25_heads.mono _)
   | (with_reducible exact LeO.refl _)
   | (with_reducible exact LeO.none _)
   | (with_reducible refine LeO.ite ?_ ?_)
   | (with_reducible refine LeO.bind ?_ (fun _ => ?_))
   | exact ih0 _ _ _ _ _ _
   | exact ih1 _ _ _ _ _ _
   | exact ih2 _ _ _ _ _
   | exact ih3 _ _ _ _ _
   | exact tidewaylaw25_heads.mono _
   | exact LeO.none _
   | refine LeO.ite ?_ ?_
   | refine LeO.bind ?_ (fun _ => ?_)
set_option maxHeartbeats 8000000 in
set_option maxRecDepth 100000 in
theorem tidewaylaw25_JudgeFaster.calls (k : Nat) (A0 : Option Addr) (c0 : Nat) (l0 : List (S62)) (a1 : Int) (a2 : Int) (a3 : Int) (a4 : Int) (r : Bool) (w : World) (hr0 : Kd.C k62 w A0 l0.length l0) (hc0 : l0.length ≤ c0) (h : tidewaylaw25_JudgeFaster.f k l0 a1 a2 a3 a4 = some r) (hrT : r = true := by rfl) :
  Calls Try.prog 6 #[.slice A0 l0.length c0, .int .i64 a1, .int .i64 a2, .int .i64 a3, .int .i64 a4] w fun e w' => e = .returned (.bool r) ∧ Below w.heap.size w w' := by
 have HRT := Aside0.mk hrT
 clear hrT
 have HR0 := Aside0.mk hr0
 have HC0 := Aside0.mk hc0
 clear hr0 hc0
 have HB := Aside0.mk (Below.refl w.heap.size w)
 have H : (if (l0.length : Int) > 200 then (tidewaylaw25_JudgeFaster.j0 k l0 a1 a2 a3 a4 true) else ((judge_Paced.f l0 a1 a2).bind fun t200 => (tidewaylaw25_JudgeFaster.j0 k l0 a1 a2 a3 a4 (!t200)))) = some r := h
 clear h
 have HC6 := Aside0.mk H
 clear H
 go_enter Try.func6, Try.ntmps6
 go_upto_region 1 with (fail)
 go_cut [22] (fun v22 wc => ∃ (kq : Nat) (x22_5 : Bool), v22 = .bool x22_5 ∧ Aside0 (tidewaylaw25_JudgeFaster.j0 kq l0 a1 a2 a3 a4 x22_5 = some r) ∧ Aside0 (kq ≤ k) ∧ Aside0 (Below w.heap.size w wc))
 case first =>
  have H := HC6.out
  clear HC6
  by_cases c7 : (l0.length : Int) > 200
  ·rw [if_pos c7] at H
   have c7b0 : decide (200 < (l0.length : Int)) = true := decide_eq_true c7
   have c7b1 : decide (200 < l0.length) = true := decide_eq_true (by omega)
   clear c7
   (first | rw [c7b0] | (simp only [i64_w, i32_w]; rw [c7b0]) | skip)
   have H' := Aside0.mk H
   clear H
   go_wp2
   go_meet
   case rel => exact ⟨_, (true), (by first | rfl | (simp; done) | (simp [*]; done)), H', ⟨by first | omega | exact Nat.le_refl _⟩, ⟨by repeat (first | (with_reducible first | exact HB.out | apply below_alloc | apply pw_below_drewN | apply below_drew1) | exact HB.out | exact Below.refl _ _)⟩⟩
  ·rw [if_neg c7] at H
   have c7b0 : decide (200 < (l0.length : Int)) = false := decide_eq_false c7
   have c7b1 : decide (200 < l0.length) = false := decide_eq_false (by omega)
   clear c7
   (first | rw [c7b0] | (simp only [i64_w, i32_w]; rw [c7b0]) | skip)
   replace H := Option.bind_eq_some_iff.mp H
   obtain ⟨t200, A80, H⟩ := H
   replace H : (tidewaylaw25_JudgeFaster.j0 k l0 a1 a2 a3 a4 (!t200)) = some r := H
   have A8 := Aside0.mk A80
   clear A80
   have H' := Aside0.mk H
   clear H
   go_wp2_with (first | (go_at_call 18; (with_reducible refine (judge_Paced.calls _ _ l0 a1 a2 t200 _ ?side1 ?side2 A8.out).mono ?_); (case side1 => repeat (first | exact (Kd.C_below HR0.out HB.out) | exact HR0.out | (with_reducible refine Kd.C_alloc ?_ _) | (with_reducible refine Kd.C_drewN ?_ _) | (with_reducible refine Kd.C_drew ?_))); (case side2 => exact HC0.out); rintro e w9 ⟨rfl, hb⟩; have n0_ := Aside0.mk (below_step (by repeat (first | (with_reducible first | exact HB.out | apply below_alloc | apply pw_below_drewN | apply below_drew1) | exact HB.out | exact Below.refl _ _)) hb); clear HB; have HB := n0_; clear n0_; (try clear hb); (try clear hb2); (try clear hk); (try clear hi)))
   go_meet
   case rel => exact ⟨_, (!t200), (by first | rfl | (simp; done) | (simp [*]; done)), H', ⟨by first | omega | exact Nat.le_refl _⟩, ⟨by repeat (first | (with_reducible first | exact HB.out | apply below_alloc | apply pw_below_drewN | apply below_drew1) | exact HB.out | exact Below.refl _ _)⟩⟩
 case rest =>
  clear HC6
  try clear p2
  try clear c6
  try clear c7
  try clear c7b0
  try clear c7b1
  obtain ⟨kq, x22_5, rfl, HA, HJ5, HB⟩ := hcut
  cases kq with
  | zero => exact absurd HA.out (by simp [tidewaylaw25_JudgeFaster.j0])
  | succ kj5 =>
   have H := HA.out
   clear HA
   simp only [tidewaylaw25_JudgeFaster.j0] at H
   by_cases c10 : x22_5 = true
   ·subst c10
    have H1 : ((tidewaylaw25_heads.f kj5).bind fun t201 => (some t201)) = some r := by rw [if_pos rfl] at H; exact H
    clear H
    have H := H1
    clear H1
    replace H := Option.bind_eq_some_iff.mp H
    obtain ⟨t201, A110, H⟩ := H
    replace H : (some t201) = some r := H
    have A11 := Aside0.mk A110
    clear A110
    obtain rfl := Option.some.inj H
    go_wp2_with (first | ((with_reducible refine gate_callee (f := 8) rfl ?_); refine goesL_ (some 23) rfl rfl Try.func8 (by kernel_rfl) rfl #[] rfl (by (try simp only [List.map_toArray, List.map_cons, List.map_nil]); first | done | rfl | (simp only [List.length_drop, List.length_take]; rfl)) ?_; (with_reducible refine (tidewaylaw25_heads.calls kj5  t201 _ A11.out).mono ?_); rintro e w12 ⟨rfl, hb⟩; refine ⟨_, rfl, ?_⟩; have n0_ := Aside0.mk (below_step (by repeat (first | (with_reducible first | exact HB.out | apply below_alloc | apply pw_below_drewN | apply below_drew1) | exact HB.out | exact Below.refl _ _)) hb); clear HB; have HB := n0_; clear n0_; (try clear hb); (try clear hb2); (try clear hk); (try clear hi)))
    go_ret
    exact ⟨by first | rfl | (simp [errW_none, errW_some] <;> rfl) | (simp [*, errW_none, errW_some] <;> rfl), by repeat (first | (with_reducible first | exact HB.out | apply below_alloc | apply pw_below_drewN | apply below_drew1) | exact HB.out | exact Below.refl _ _)⟩
   ·replace c10 := Bool.eq_false_iff.mpr c10
    subst c10
    have H1 : (if a3 < 0 then (tidewaylaw25_JudgeFaster.j1 kj5 l0 a1 a2 a3 a4 true) else (if a3 > 1048576 then (tidewaylaw25_JudgeFaster.j1 kj5 l0 a1 a2 a3 a4 true) else (if a1 > 549755813888 then (tidewaylaw25_JudgeFaster.j1 kj5 l0 a1 a2 a3 a4 true) else (tidewaylaw25_JudgeFaster.j1 kj5 l0 a1 a2 a3 a4 (decide (a2 > 536870912)))))) = some r := by rw [if_neg (show ¬ (false = true) by decide)] at H; exact H
    clear H
    have H := H1
    clear H1
    have HC13 := Aside0.mk H
    clear H
    go_upto_region 3 with (fail)
    go_cut [37] (fun v37 wc => ∃ (kq : Nat) (x37_12 : Bool), v37 = .bool x37_12 ∧ Aside0 (tidewaylaw25_JudgeFaster.j1 kq l0 a1 a2 a3 a4 x37_12 = some r) ∧ Aside0 (kq ≤ kj5) ∧ Aside0 (Below w.heap.size w wc))
    case first =>
     have H := HC13.out
     clear HC13
     by_cases c14 : a3 < 0
     ·rw [if_pos c14] at H
      have c14b0 : decide (a3 < 0) = true := decide_eq_true c14
      clear c14
      (first | rw [c14b0] | (simp only [i64_w, i32_w]; rw [c14b0]) | skip)
      have H' := Aside0.mk H
      clear H
      go_wp2
      go_meet
      case rel => exact ⟨_, (true), (by first | rfl | (simp; done) | (simp [*]; done)), H', ⟨by have := HJ5.out; first | omega | exact Nat.le_refl _⟩, ⟨by repeat (first | (with_reducible first | exact HB.out | apply below_alloc | apply pw_below_drewN | apply below_drew1) | exact HB.out | exact Below.refl _ _)⟩⟩
     ·rw [if_neg c14] at H
      have c14b0 : decide (a3 < 0) = false := decide_eq_false c14
      clear c14
      (first | rw [c14b0] | (simp only [i64_w, i32_w]; rw [c14b0]) | skip)
      by_cases c15 : a3 > 1048576
      ·rw [if_pos c15] at H
       have c15b0 : decide (1048576 < a3) = true := decide_eq_true c15
       clear c15
       have H' := Aside0.mk H
       clear H
       go_wp2
       go_meet
       case rel => exact ⟨_, (true), (by first | rfl | (simp; done) | (simp [*]; done)), H', ⟨by have := HJ5.out; first | omega | exact Nat.le_refl _⟩, ⟨by repeat (first | (with_reducible first | exact HB.out | apply below_alloc | apply pw_below_drewN | apply below_drew1) | exact HB.out | exact Below.refl _ _)⟩⟩
      ·rw [if_neg c15] at H
       have c15b0 : decide (1048576 < a3) = false := decide_eq_false c15
       clear c15
       by_cases c16 : a1 > 549755813888
       ·rw [if_pos c16] at H
        have c16b0 : decide (549755813888 < a1) = true := decide_eq_true c16
        clear c16
        have H' := Aside0.mk H
        clear H
        go_wp2
        go_meet
        case rel => exact ⟨_, (true), (by first | rfl | (simp; done) | (simp [*]; done)), H', ⟨by have := HJ5.out; first | omega | exact Nat.le_refl _⟩, ⟨by repeat (first | (with_reducible first | exact HB.out | apply below_alloc | apply pw_below_drewN | apply below_drew1) | exact HB.out | exact Below.refl _ _)⟩⟩
       ·rw [if_neg c16] at H
        have c16b0 : decide (549755813888 < a1) = false := decide_eq_false c16
        clear c16
        have H' := Aside0.mk H
        clear H
        go_wp2
        go_meet
        case rel => exact ⟨_, (decide (a2 > 536870912)), (by first | rfl | (simp; done) | (simp [*]; done)), H', ⟨by have := HJ5.out; first | omega | exact Nat.le_refl _⟩, ⟨by repeat (first | (with_reducible first | exact HB.out | apply below_alloc | apply pw_below_drewN | apply below_drew1) | exact HB.out | exact Below.refl _ _)⟩⟩
    case rest =>
     clear HC13
     try clear c1
     try clear p2
     try clear c6
     try clear c7
     try clear c7b0
     try clear c7b1
     try clear c8
     try clear c10
     try clear c14
     try clear c14b0
     try clear c15
     try clear c15b0
     try clear c16
     try clear c16b0
     try clear p2
     obtain ⟨kq, x37_12, rfl, HA, HJ12, HB⟩ := hcut
     cases kq with
     | zero => exact absurd HA.out (by simp [tidewaylaw25_JudgeFaster.j1])
     | succ kj12 =>
      have H := HA.out
      clear HA
      simp only [tidewaylaw25_JudgeFaster.j1] at H
      by_cases c17 : x37_12 = true
      ·subst c17
       have H1 : ((tidewaylaw25_heads.f kj12).bind fun t202 => (some t202)) = some r := by rw [if_pos rfl] at H; exact H
       clear H
       have H := H1
       clear H1
       replace H := Option.bind_eq_some_iff.mp H
       obtain ⟨t202, A180, H⟩ := H
       replace H : (some t202) = some r := H
       have A18 := Aside0.mk A180
       clear A180
       obtain rfl := Option.some.inj H
       go_wp2_with (first | ((with_reducible refine gate_callee (f := 8) rfl ?_); refine goesL_ (some 38) rfl rfl Try.func8 (by kernel_rfl) rfl #[] rfl (by (try simp only [List.map_toArray, List.map_cons, List.map_nil]); first | done | rfl | (simp only [List.length_drop, List.length_take]; rfl)) ?_; (with_reducible refine (tidewaylaw25_heads.calls kj12  t202 _ A18.out).mono ?_); rintro e w19 ⟨rfl, hb⟩; refine ⟨_, rfl, ?_⟩; have n0_ := Aside0.mk (below_step (by repeat (first | (with_reducible first | exact HB.out | apply below_alloc | apply pw_below_drewN | apply below_drew1) | exact HB.out | exact Below.refl _ _)) hb); clear HB; have HB := n0_; clear n0_; (try clear hb); (try clear hb2); (try clear hk); (try clear hi)))
       go_ret
       exact ⟨by first | rfl | (simp [errW_none, errW_some] <;> rfl) | (simp [*, errW_none, errW_some] <;> rfl), by repeat (first | (with_reducible first | exact HB.out | apply below_alloc | apply pw_below_drewN | apply below_drew1) | exact HB.out | exact Below.refl _ _)⟩
      ·replace c17 := Bool.eq_false_iff.mpr c17
       subst c17
       have H1 : (if (l0.length : Int) > 0 then (if (IntKind.u64.wrap ((l0.length : Int))) = 0 then (none) else (tidewaylaw25_JudgeFaster.j2 kj12 l0 a1 a2 a3 (wrap64 (Int.tmod (IntKind.u64.wrap (a4)) (IntKind.u64.wrap ((l0.length : Int))))))) else (tidewaylaw25_JudgeFaster.j2 kj12 l0 a1 a2 a3 0)) = some r := by rw [if_neg (show ¬ (false = true) by decide)] at H; exact H
       clear H
       have H := H1
       clear H1
       have HC20 := Aside0.mk H
       clear H
       go_upto_if 41 with (fail)
       go_cut [11] (fun v11 wc => ∃ (kq : Nat) (x11_19 : Int), v11 = .int .i64 x11_19 ∧ Aside0 (tidewaylaw25_JudgeFaster.j2 kq l0 a1 a2 a3 x11_19 = some r) ∧ Aside0 (kq ≤ kj12) ∧ Aside0 (Below w.heap.size w wc))
       case first =>
        have H := HC20.out
        clear HC20
        by_cases c21 : (l0.length : Int) > 0
        ·rw [if_pos c21] at H
         have c21b0 : decide (0 < (l0.length : Int)) = true := decide_eq_true c21
         have c21b1 : decide (0 < l0.length) = true := decide_eq_true (by omega)
         clear c21
         (first | rw [c21b0] | (simp only [i64_w, i32_w]; rw [c21b0]) | skip)
         by_cases c22 : (IntKind.u64.wrap ((l0.length : Int))) = 0
         ·rw [if_pos c22] at H
          exact absurd H (by simp)
         ·rw [if_neg c22] at H
          have c22b0 : ((IntKind.u64.wrap ((l0.length : Int))) == 0) = false := beq_eq_false_iff_ne.mpr c22
          have c22b1 : ((IntKind.u64.wrap ((l0.length : Int))) != 0) = true := bne_iff_ne.mpr c22
          have H' := Aside0.mk H
          clear H
          go_wp2
          all_goals (try (exact absurd (of_decide_eq_true c21b1) (by assumption)))
          go_meet
          case rel => exact ⟨_, (wrap64 (Int.tmod (IntKind.u64.wrap (a4)) (IntKind.u64.wrap ((l0.length : Int))))), (by first | rfl | (simp; done) | (simp [*]; done)), H', ⟨by have := HJ5.out; have := HJ12.out; first | omega | exact Nat.le_refl _⟩, ⟨by repeat (first | (with_reducible first | exact HB.out | apply below_alloc | apply pw_below_drewN | apply below_drew1) | exact HB.out | exact Below.refl _ _)⟩⟩
        ·rw [if_neg c21] at H
         have c21b0 : decide (0 < (l0.length : Int)) = false := decide_eq_false c21
         have c21b1 : decide (0 < l0.length) = false := decide_eq_false (by omega)
         clear c21
         (first | rw [c21b0] | (simp only [i64_w, i32_w]; rw [c21b0]) | skip)
         have H' := Aside0.mk H
         clear H
         go_wp2
         all_goals (try (exact absurd (by assumption) (of_decide_eq_false c21b1)))
         go_meet
         case rel => exact ⟨_, (0), (by first | rfl | (simp; done) | (simp [*]; done)), H', ⟨by have := HJ5.out; have := HJ12.out; first | omega | exact Nat.le_refl _⟩, ⟨by repeat (first | (with_reducible first | exact HB.out | apply below_alloc | apply pw_below_drewN | apply below_drew1) | exact HB.out | exact Below.refl _ _)⟩⟩
       case rest =>
        clear HC20
        try clear c1
        try clear c2
        try clear p2
        try clear c6
        try clear p6
        try clear c7
        try clear c7b0
        try clear c7b1
        try clear c8
        try clear c10
        try clear c14
        try clear c14b0
        try clear c15
        try clear c15b0
        try clear c16
        try clear c16b0
        try clear c17
        try clear c21
        try clear c21b0
        try clear c21b1
        try clear c22
        try clear c22b0
        try clear c22b1
        try clear p2
        obtain ⟨kq, x11_19, rfl, HA, HJ19, HB⟩ := hcut
        cases kq with
        | zero => exact absurd HA.out (by simp [tidewaylaw25_JudgeFaster.j2])
        | succ kj19 =>
         have H := HA.out
         clear HA
         simp only [tidewaylaw25_JudgeFaster.j2] at H
         obtain ⟨y203, hy203⟩ : ∃ y_ : List (S62), y_ = (([] : List (S62))) := ⟨_, rfl⟩
         replace H : (if 0 ≤ x11_19 then (if x11_19 ≤ (l0.length : Int) then ((some (l0.take (x11_19 : Int).toNat : List (S62))).bind fun y206 => (if y203.length + y206.length < 8796093022208 then ((some (y203 ++ y206 : List (S62))).bind fun y210 => (if x11_19 < (l0.length : Int) then (if 0 ≤ (wrap64 (x11_19 + 1)) then (if (wrap64 (x11_19 + 1)) ≤ (l0.length : Int) then ((some (l0.drop ((wrap64 (x11_19 + 1)) : Int).toNat : List (S62))).bind fun y213 => (if y210.length + y213.length < 8796093022208 then (tidewaylaw25_JudgeFaster.j3 kj19 l0 a1 a2 a3 (y210 ++ y213)) else (none))) else (none)) else (none)) else (tidewaylaw25_JudgeFaster.j3 kj19 l0 a1 a2 a3 y210))) else (none))) else (none)) else (none)) = some r := by first | (rw [hy203]; with_reducible exact H) | (have H2_ := (Option.bind_some _ _).symm.trans H; rw [hy203]; with_reducible exact H2_) | (have H2_ := (Option.bind_some _ _).symm.trans H; with_reducible exact H2_) | with_reducible exact H | (rw [hy203]; exact H) | exact H
         have Ny203 := Aside0.mk hy203
         clear hy203
         by_cases c23 : 0 ≤ x11_19
         ·rw [if_pos c23] at H
          have c23b0 := eq_true c23
          have c23b1 : decide (0 ≤ x11_19) = true := decide_eq_true c23
          clear c23
          by_cases c24 : x11_19 ≤ (l0.length : Int)
          ·rw [if_pos c24] at H
           have c24b0 := eq_true c24
           have c24b1 : decide (x11_19 ≤ (l0.length : Int)) = true := decide_eq_true c24
           clear c24
           obtain ⟨y206, hy206⟩ : ∃ y_ : List (S62), y_ = (l0.take (x11_19 : Int).toNat) := ⟨_, rfl⟩
           replace H : (if y203.length + y206.length < 8796093022208 then ((some (y203 ++ y206 : List (S62))).bind fun y210 => (if x11_19 < (l0.length : Int) then (if 0 ≤ (wrap64 (x11_19 + 1)) then (if (wrap64 (x11_19 + 1)) ≤ (l0.length : Int) then ((some (l0.drop ((wrap64 (x11_19 + 1)) : Int).toNat : List (S62))).bind fun y213 => (if y210.length + y213.length < 8796093022208 then (tidewaylaw25_JudgeFaster.j3 kj19 l0 a1 a2 a3 (y210 ++ y213)) else (none))) else (none)) else (none)) else (tidewaylaw25_JudgeFaster.j3 kj19 l0 a1 a2 a3 y210))) else (none)) = some r := by first | (rw [hy206]; with_reducible exact H) | (have H2_ := (Option.bind_some _ _).symm.trans H; rw [hy206]; with_reducible exact H2_) | (have H2_ := (Option.bind_some _ _).symm.trans H; with_reducible exact H2_) | with_reducible exact H | (rw [hy206]; exact H) | exact H
           have Ny206 := Aside0.mk hy206
           clear hy206
           by_cases c25 : y203.length + y206.length < 8796093022208
           ·rw [if_pos c25] at H
            have LMc25 := Aside0.mk c25
            clear c25
            obtain ⟨y210, hy210⟩ : ∃ y_ : List (S62), y_ = (y203 ++ y206) := ⟨_, rfl⟩
            replace H : (if x11_19 < (l0.length : Int) then (if 0 ≤ (wrap64 (x11_19 + 1)) then (if (wrap64 (x11_19 + 1)) ≤ (l0.length : Int) then ((some (l0.drop ((wrap64 (x11_19 + 1)) : Int).toNat : List (S62))).bind fun y213 => (if y210.length + y213.length < 8796093022208 then (tidewaylaw25_JudgeFaster.j3 kj19 l0 a1 a2 a3 (y210 ++ y213)) else (none))) else (none)) else (none)) else (tidewaylaw25_JudgeFaster.j3 kj19 l0 a1 a2 a3 y210)) = some r := by first | (rw [hy210]; with_reducible exact H) | (have H2_ := (Option.bind_some _ _).symm.trans H; rw [hy210]; with_reducible exact H2_) | (have H2_ := (Option.bind_some _ _).symm.trans H; with_reducible exact H2_) | with_reducible exact H | (rw [hy210]; exact H) | exact H
            have Ny210 := Aside0.mk hy210
            clear hy210
            have HC26 := Aside0.mk H
            clear H
            go_upto_if 57 with (first | ((with_reducible refine gate_dst (N := 49) rfl ?_); refine Kd.R_lit k62 _ 62 ?hg (N := 49) ?hd (xs := ([] : List (S62))) (inner := []) (ok := fun _ => True) (okp := fun _ => True) ?hr ?hp (fun _ hk => hk) trivial (Below.refl _ _) (Nat.le_refl _) (by simp) ?_; (case hd => rfl); (case hg => rfl); (case hr => first | (go_simp; done) | (go_simp; rfl)); (case hp => exact (Reps.none _ _)); intro v204 w27 ho28 hb hg_ hnew_; clear hg_ hnew_; (first | rw [← Ny203.out] at ho28 | (simp only [Int.reduceToNat] at ho28; rw [← Ny203.out] at ho28)); have n0_ := Aside0.mk (Kd.R_lower ho28 (below_size (by repeat (first | (with_reducible first | exact HB.out | apply below_alloc | apply pw_below_drewN | apply below_drew1) | exact HB.out | exact Below.refl _ _)))); have n1_ := Aside0.mk (below_step (by repeat (first | (with_reducible first | exact HB.out | apply below_alloc | apply pw_below_drewN | apply below_drew1) | exact HB.out | exact Below.refl _ _)) hb); clear HB; have HO205 := n0_; have HB := n1_; clear n0_ n1_; clear hb ho28; have q29 : (x11_19 : Int) ≤ ((l0.length : Int) : Int) := of_decide_eq_true (by first | (with_reducible assumption) | assumption); obtain ⟨i029, hi029, _, hsz29, _⟩ := info_parts info62; have hroom29 : l0.length ≤ c0 := HC0.out; have hC29 : Kd.C k62 _ A0 l0.length l0 := HR0.out; have hcut29 := cut_to (P := Try.prog) 33 62 .i64 Try.underlying33 hi029 A0 l0.length c0 x11_19 (of_decide_eq_true (by first | (with_reducible assumption) | assumption)) q29 hroom29; have hr29 := Kd.C_take (m := (x11_19 : Int).toNat) hC29 (by omega); have hy29 : y206.length = (x11_19 : Int).toNat := (by rw [Ny206.out, List.length_take]; omega); rw [← Ny206.out] at hr29; rw [← hy29] at hcut29; have HR209 := Aside0.mk hr29; have HC209 := Aside0.mk (show y206.length ≤ c0 from by omega); clear hr29 hC29 hroom29 hi029 hsz29; have KY29 := Aside0.mk hy29; clear hy29; replace q29 := eq_true q29) | ((with_reducible refine gate_builtin (b := .append) (xs := #[.tmp 49, .tmp 52]) rfl ?_); at_builtin; refine Kd.R_append_rows k62 (w0 := w) w.heap.size rfl (.tmp 49) (.tmp 52) 33 62 (.agg #[(.int .i64 0), (.int .i64 0)]) 16 rfl Try.underlying33 info62 rfl (by decide) (by omega) v204 y203 y206 _ _ _ (fun _ => True) (fun _ => False) rfl rfl ?aO ?aR (fun _ _ h => h) (fun _ h => h.elim) ?aF ?aB ?aS ?aL ?_; (case aR => repeat (first | exact (Kd.C_below HR209.out HB.out) | exact HR209.out | (with_reducible refine Kd.C_alloc ?_ _) | (with_reducible refine Kd.C_drewN ?_ _) | (with_reducible refine Kd.C_drew ?_))); (case aB => exact (by repeat (first | (with_reducible first | exact HB.out | apply below_alloc | apply pw_below_drewN | apply below_drew1) | exact HB.out | exact Below.refl _ _))); (case aF => exact (fun _ _ => trivial)); (case aO => exact (by (with_reducible repeat (first | apply Kd.R_alloc | apply Kd.R_drewN | apply Kd.R_drew)); exact HO205.out)); (case aS => exact (below_size (by repeat (first | (with_reducible first | exact HB.out | apply below_alloc | apply pw_below_drewN | apply below_drew1) | exact HB.out | exact Below.refl _ _)))); (case aL => have := LMc25.out; omega); intro v211 w30 ho hb hg hat; rw [← Ny210.out] at ho; have n0_ := Aside0.mk (hb); have n1_ := Aside0.mk (ho); clear HB; clear HO205; have HB := n0_; have HO212 := n1_; clear n0_ n1_; clear ho hb hg hat))
            (try simp only [Act.put, List.setIfInBounds_toArray, List.set_cons_zero, List.set_cons_succ])
            go_cut [12] (fun v12 wc => ∃ (kq : Nat) (x12_25 : List (S62)), Aside0 (tidewaylaw25_JudgeFaster.j3 kq l0 a1 a2 a3 x12_25 = some r) ∧ Aside0 (kq ≤ kj19) ∧ Aside0 (Kd.R k62 62 wc w.heap.size (fun _ => True) v12 x12_25) ∧ Aside0 (Below w.heap.size w wc))
            case first =>
             have H := HC26.out
             clear HC26
             by_cases c31 : x11_19 < (l0.length : Int)
             ·rw [if_pos c31] at H
              have c31b0 : decide (x11_19 < (l0.length : Int)) = true := decide_eq_true c31
              clear c31
              (first | rw [c31b0] | (simp only [i64_w, i32_w]; rw [c31b0]) | skip)
              obtain ⟨ji32, hji32⟩ : ∃ j_ : Int, (wrap64 (x11_19 + 1)) = j_ := ⟨_, rfl⟩
              replace H : (if 0 ≤ (ji32) then (if (ji32) ≤ (l0.length : Int) then ((some (l0.drop ((ji32) : Int).toNat : List (S62))).bind fun y213 => (if y210.length + y213.length < 8796093022208 then (tidewaylaw25_JudgeFaster.j3 kj19 l0 a1 a2 a3 (y210 ++ y213)) else (none))) else (none)) else (none)) = some r := by first | (rw [hji32] at H; exact H) | (simp only [hji32] at H ⊢; exact H)
              have hji32w : (IntKind.i64.wrap (x11_19 + 1)) = ji32 := (i64_w _).trans hji32
              by_cases c33 : 0 ≤ (ji32)
              ·rw [if_pos c33] at H
               have c33b0 := eq_true c33
               have c33b1 : decide (0 ≤ (ji32)) = true := decide_eq_true c33
               clear c33
               by_cases c34 : (ji32) ≤ (l0.length : Int)
               ·rw [if_pos c34] at H
                have c34b0 := eq_true c34
                have c34b1 : decide ((ji32) ≤ (l0.length : Int)) = true := decide_eq_true c34
                clear c34
                obtain ⟨y213, hy213⟩ : ∃ y_ : List (S62), y_ = (l0.drop ((ji32) : Int).toNat) := ⟨_, rfl⟩
                replace H : (if y210.length + y213.length < 8796093022208 then (tidewaylaw25_JudgeFaster.j3 kj19 l0 a1 a2 a3 (y210 ++ y213)) else (none)) = some r := by first | (rw [hy213]; with_reducible exact H) | (have H2_ := (Option.bind_some _ _).symm.trans H; rw [hy213]; with_reducible exact H2_) | (have H2_ := (Option.bind_some _ _).symm.trans H; with_reducible exact H2_) | with_reducible exact H | (rw [hy213]; exact H) | exact H
                have Ny213 := Aside0.mk hy213
                clear hy213
                by_cases c35 : y210.length + y213.length < 8796093022208
                ·rw [if_pos c35] at H
                 have LMc35 := Aside0.mk c35
                 clear c35
                 obtain ⟨y217, hy217⟩ : ∃ y_ : List (S62), y_ = (y210 ++ y213) := ⟨_, rfl⟩
                 replace H : (tidewaylaw25_JudgeFaster.j3 kj19 l0 a1 a2 a3 y217) = some r := by first | (rw [hy217]; with_reducible exact H) | (have H2_ := (Option.bind_some _ _).symm.trans H; rw [hy217]; with_reducible exact H2_) | (have H2_ := (Option.bind_some _ _).symm.trans H; with_reducible exact H2_) | with_reducible exact H | (rw [hy217]; exact H) | exact H
                 have Ny217 := Aside0.mk hy217
                 clear hy217
                 have H' := Aside0.mk H
                 clear H
                 have q36 : ((ji32) : Int) ≤ ((l0.length : Int) : Int) := of_decide_eq_true (by first | (with_reducible assumption) | assumption)
                 obtain ⟨i036, hi036, _, hsz36, _⟩ := info_parts info62
                 have hroom36 : l0.length ≤ c0 := HC0.out
                 have hC36 : Kd.C k62 _ A0 l0.length l0 := HR0.out
                 have q036 : (0 : Int) ≤ ((ji32) : Int) := of_decide_eq_true (by first | (with_reducible assumption) | assumption)
                 have hcut36 := cut_from (P := Try.prog) 33 62 .i64 Try.underlying33 hi036 2 hsz36 A0 l0.length c0 (ji32) q036 q36
                 have hr36 := Kd.C_drop (m := ((ji32) : Int).toNat) (c := c0) hC36 (by omega) hroom36
                 obtain ⟨A36, hA36⟩ : ∃ A1, A1 = (if c0 = ((ji32) : Int).toNat then A0 else (A0 : Option Addr).map (·.add (((ji32) : Int).toNat * 2))) := ⟨_, rfl⟩
                 obtain ⟨c36, hc36⟩ : ∃ c1, c1 = c0 - ((ji32) : Int).toNat := ⟨_, rfl⟩
                 have hy36 : y213.length = l0.length - ((ji32) : Int).toNat := (by rw [Ny213.out, List.length_drop] <;> omega)
                 rw [show (l0).drop ((ji32) : Int).toNat = y213 from Ny213.out.symm] at hr36
                 replace hr36 : Kd.C k62 _ A36 y213.length y213 := (by rw [hA36]; exact hr36)
                 rw [← hy36, ← hA36, ← hc36] at hcut36
                 have HR216 := Aside0.mk hr36
                 have HC216 := Aside0.mk (show y213.length ≤ c36 from by rw [hy36, hc36]; exact Nat.sub_le_sub_right hroom36 _)
                 clear hr36 hC36 hroom36 hi036 hsz36 hc36
                 have KY36 := Aside0.mk hy36
                 have KA36 := Aside0.mk hA36
                 clear hy36 hA36
                 replace q36 := eq_true q36
                 go_wp2_with (first | ((with_reducible refine gate_builtin (b := .append) (xs := #[.tmp 58, .tmp 62]) rfl ?_); at_builtin; refine Kd.R_append_rows k62 (w0 := w) w.heap.size rfl (.tmp 58) (.tmp 62) 33 62 (.agg #[(.int .i64 0), (.int .i64 0)]) 16 rfl Try.underlying33 info62 rfl (by decide) (by omega) v211 y210 y213 _ _ _ (fun _ => True) (fun _ => False) rfl rfl ?aO ?aR (fun _ _ h => h) (fun _ h => h.elim) ?aF ?aB ?aS ?aL ?_; (case aR => repeat (first | exact (Kd.C_below HR216.out HB.out) | exact HR216.out | (with_reducible refine Kd.C_alloc ?_ _) | (with_reducible refine Kd.C_drewN ?_ _) | (with_reducible refine Kd.C_drew ?_))); (case aB => exact (by repeat (first | (with_reducible first | exact HB.out | apply below_alloc | apply pw_below_drewN | apply below_drew1) | exact HB.out | exact Below.refl _ _))); (case aF => exact (fun _ _ => trivial)); (case aO => exact (by (with_reducible repeat (first | apply Kd.R_alloc | apply Kd.R_drewN | apply Kd.R_drew)); exact HO212.out)); (case aS => exact (below_size (by repeat (first | (with_reducible first | exact HB.out | apply below_alloc | apply pw_below_drewN | apply below_drew1) | exact HB.out | exact Below.refl _ _)))); (case aL => have := LMc35.out; omega); intro v218 w37 ho hb hg hat; rw [← Ny217.out] at ho; have n0_ := Aside0.mk (hb); have n1_ := Aside0.mk (ho); clear HB; clear HO212; have HB := n0_; have HO219 := n1_; clear n0_ n1_; clear ho hb hg hat))
                 go_meet
                 case rel => exact ⟨_, (y217), H', ⟨by have := HJ5.out; have := HJ12.out; have := HJ19.out; first | omega | exact Nat.le_refl _⟩, ⟨by (with_reducible repeat (first | apply Kd.R_alloc | apply Kd.R_drewN | apply Kd.R_drew)); exact HO219.out⟩, ⟨by repeat (first | (with_reducible first | exact HB.out | apply below_alloc | apply pw_below_drewN | apply below_drew1) | exact HB.out | exact Below.refl _ _)⟩⟩
                ·rw [if_neg c35] at H
                 exact absurd H (by simp)
               ·rw [if_neg c34] at H
                exact absurd H (by simp)
              ·rw [if_neg c33] at H
               exact absurd H (by simp)
             ·rw [if_neg c31] at H
              have c31b0 : decide (x11_19 < (l0.length : Int)) = false := decide_eq_false c31
              clear c31
              (first | rw [c31b0] | (simp only [i64_w, i32_w]; rw [c31b0]) | skip)
              have H' := Aside0.mk H
              clear H
              go_wp2
              go_meet
              case rel => exact ⟨_, (y210), H', ⟨by have := HJ5.out; have := HJ12.out; have := HJ19.out; first | omega | exact Nat.le_refl _⟩, ⟨by (with_reducible repeat (first | apply Kd.R_alloc | apply Kd.R_drewN | apply Kd.R_drew)); exact HO212.out⟩, ⟨by repeat (first | (with_reducible first | exact HB.out | apply below_alloc | apply pw_below_drewN | apply below_drew1) | exact HB.out | exact Below.refl _ _)⟩⟩
            case rest =>
             clear HC26
             try clear c1
             try clear c2
             try clear p2
             try clear q2
             try clear c3
             try clear q3
             try clear c6
             try clear p6
             try clear c7
             try clear c7b0
             try clear c7b1
             try clear c8
             try clear c10
             try clear c14
             try clear c14b0
             try clear c15
             try clear c15b0
             try clear c16
             try clear c16b0
             try clear c17
             try clear c21
             try clear c21b0
             try clear c21b1
             try clear c22
             try clear c22b0
             try clear c22b1
             try clear c23
             try clear c23b0
             try clear c23b1
             try clear c24
             try clear c24b0
             try clear c24b1
             try clear c25
             try clear q29
             try clear c31
             try clear c31b0
             try clear c33
             try clear c33b0
             try clear c33b1
             try clear c34
             try clear c34b0
             try clear c34b1
             try clear c35
             try clear c36
             try clear q36
             try clear p2
             try clear p6
             try clear q036
             try clear q29
             try clear q36
             obtain ⟨kq, x12_25, HA, HJ25, HO_12, HB⟩ := hcut
             cases kq with
             | zero => exact absurd HA.out (by simp [tidewaylaw25_JudgeFaster.j3])
             | succ kj25 =>
              have H := HA.out
              clear HA
              simp only [tidewaylaw25_JudgeFaster.j3] at H
              replace H := Option.bind_eq_some_iff.mp H
              obtain ⟨t220, A380, H⟩ := H
              replace H : (if t220 = true then ((judge_Paced.f l0 a1 (wrap64 (a2 + a3))).bind fun t221 => (if t221 = true then ((judge_Paced.f x12_25 a1 a2).bind fun t222 => (if t222 = true then ((tidewaylaw25_heads.f kj25).bind fun t223 => (some t223)) else (some false))) else (some false))) else (some false)) = some r := H
              have A38 := Aside0.mk A380
              clear A380
              by_cases c39 : t220 = true
              ·subst c39
               have H1 : ((judge_Paced.f l0 a1 (wrap64 (a2 + a3))).bind fun t221 => (if t221 = true then ((judge_Paced.f x12_25 a1 a2).bind fun t222 => (if t222 = true then ((tidewaylaw25_heads.f kj25).bind fun t223 => (some t223)) else (some false))) else (some false))) = some r := by rw [if_pos rfl] at H; exact H
               clear H
               have H := H1
               clear H1
               replace H := Option.bind_eq_some_iff.mp H
               obtain ⟨t221, A400, H⟩ := H
               replace H : (if t221 = true then ((judge_Paced.f x12_25 a1 a2).bind fun t222 => (if t222 = true then ((tidewaylaw25_heads.f kj25).bind fun t223 => (some t223)) else (some false))) else (some false)) = some r := H
               have A40 := Aside0.mk A400
               clear A400
               by_cases c41 : t221 = true
               ·subst c41
                have H1 : ((judge_Paced.f x12_25 a1 a2).bind fun t222 => (if t222 = true then ((tidewaylaw25_heads.f kj25).bind fun t223 => (some t223)) else (some false))) = some r := by rw [if_pos rfl] at H; exact H
                clear H
                have H := H1
                clear H1
                replace H := Option.bind_eq_some_iff.mp H
                obtain ⟨t222, A420, H⟩ := H
                replace H : (if t222 = true then ((tidewaylaw25_heads.f kj25).bind fun t223 => (some t223)) else (some false)) = some r := H
                have A42 := Aside0.mk A420
                clear A420
                by_cases c43 : t222 = true
                ·subst c43
                 have H1 : ((tidewaylaw25_heads.f kj25).bind fun t223 => (some t223)) = some r := by rw [if_pos rfl] at H; exact H
                 clear H
                 have H := H1
                 clear H1
                 replace H := Option.bind_eq_some_iff.mp H
                 obtain ⟨t223, A440, H⟩ := H
                 replace H : (some t223) = some r := H
                 have A44 := Aside0.mk A440
                 clear A440
                 obtain rfl := Option.some.inj H
                 go_wp2_with (first | ((with_reducible refine gate_callee (f := 18) rfl ?_); refine goesL_ (some 69) rfl rfl Try.func18 (by kernel_rfl) rfl #[.slice A0 l0.length c0, .int .i64 (wrap64 (a1 + a3)), .int .i64 a2] rfl (by (try simp only [List.map_toArray, List.map_cons, List.map_nil]); first | done | rfl | (simp only [List.length_drop, List.length_take]; rfl)) ?_; (with_reducible refine (judge_Paced.calls _ _ l0 (wrap64 (a1 + a3)) a2 true _ ?side1 ?side2 A38.out).mono ?_); (case side1 => repeat (first | exact (Kd.C_below HR0.out HB.out) | exact HR0.out | (with_reducible refine Kd.C_alloc ?_ _) | (with_reducible refine Kd.C_drewN ?_ _) | (with_reducible refine Kd.C_drew ?_))); (case side2 => exact HC0.out); rintro e w45 ⟨rfl, hb⟩; refine ⟨_, rfl, ?_⟩; have n0_ := Aside0.mk (Kd.R_below (by (with_reducible repeat (first | apply Kd.R_alloc | apply Kd.R_drewN | apply Kd.R_drew)); exact HO_12.out) hb); have n1_ := Aside0.mk (below_step (by repeat (first | (with_reducible first | exact HB.out | apply below_alloc | apply pw_below_drewN | apply below_drew1) | exact HB.out | exact Below.refl _ _)) hb); clear HO_12; clear HB; have HO_12 := n0_; have HB := n1_; clear n0_ n1_; (try clear hb); (try clear hb2); (try clear hk); (try clear hi)) | (go_at_call 18; (with_reducible refine (judge_Paced.calls _ _ l0 a1 (wrap64 (a2 + a3)) true _ ?side1 ?side2 A40.out).mono ?_); (case side1 => repeat (first | exact (Kd.C_below HR0.out HB.out) | exact HR0.out | (with_reducible refine Kd.C_alloc ?_ _) | (with_reducible refine Kd.C_drewN ?_ _) | (with_reducible refine Kd.C_drew ?_))); (case side2 => exact HC0.out); rintro e w46 ⟨rfl, hb⟩; have n0_ := Aside0.mk (Kd.R_below (by (with_reducible repeat (first | apply Kd.R_alloc | apply Kd.R_drewN | apply Kd.R_drew)); exact HO_12.out) hb); have n1_ := Aside0.mk (below_step (by repeat (first | (with_reducible first | exact HB.out | apply below_alloc | apply pw_below_drewN | apply below_drew1) | exact HB.out | exact Below.refl _ _)) hb); clear HO_12; clear HB; have HO_12 := n0_; have HB := n1_; clear n0_ n1_; (try clear hb); (try clear hb2); (try clear hk); (try clear hi); obtain ⟨Ao47, co47, eo47⟩ := Kd.R_slice HO_12.out; subst eo47) | (go_at_call 18; (with_reducible refine (judge_Paced.calls _ _ x12_25 a1 a2 true _ ?side1 ?side2 A42.out).mono ?_); (case side1 => repeat (first | exact (Kd.R_reads' HO_12.out).2.2 | (with_reducible refine Kd.C_alloc ?_ _) | (with_reducible refine Kd.C_drewN ?_ _) | (with_reducible refine Kd.C_drew ?_))); (case side2 => exact (Kd.R_reads' HO_12.out).2.1); rintro e w48 ⟨rfl, hb⟩; have n0_ := Aside0.mk (Kd.R_below (by (with_reducible repeat (first | apply Kd.R_alloc | apply Kd.R_drewN | apply Kd.R_drew)); exact HO_12.out) hb); have n1_ := Aside0.mk (below_step (by repeat (first | (with_reducible first | exact HB.out | apply below_alloc | apply pw_below_drewN | apply below_drew1) | exact HB.out | exact Below.refl _ _)) hb); clear HO_12; clear HB; have HO_12 := n0_; have HB := n1_; clear n0_ n1_; (try clear hb); (try clear hb2); (try clear hk); (try clear hi)) | (go_at_call 8; (with_reducible refine (tidewaylaw25_heads.calls kj25  t223 _ A44.out).mono ?_); rintro e w49 ⟨rfl, hb⟩; have n0_ := Aside0.mk (Kd.R_below (by (with_reducible repeat (first | apply Kd.R_alloc | apply Kd.R_drewN | apply Kd.R_drew)); exact HO_12.out) hb); have n1_ := Aside0.mk (below_step (by repeat (first | (with_reducible first | exact HB.out | apply below_alloc | apply pw_below_drewN | apply below_drew1) | exact HB.out | exact Below.refl _ _)) hb); clear HO_12; clear HB; have HO_12 := n0_; have HB := n1_; clear n0_ n1_; (try clear hb); (try clear hb2); (try clear hk); (try clear hi)))
                 go_ret
                 exact ⟨by first | rfl | (simp [errW_none, errW_some] <;> rfl) | (simp [*, errW_none, errW_some] <;> rfl), by repeat (first | (with_reducible first | exact HB.out | apply below_alloc | apply pw_below_drewN | apply below_drew1) | exact HB.out | exact Below.refl _ _)⟩
                ·replace c43 := Bool.eq_false_iff.mpr c43
                 subst c43
                 have H1 : (some false) = some r := by rw [if_neg (show ¬ (false = true) by decide)] at H; exact H
                 clear H
                 have H := H1
                 clear H1
                 exact absurd ((Option.some.inj H).trans HRT.out) (by decide)
               ·replace c41 := Bool.eq_false_iff.mpr c41
                subst c41
                have H1 : (some false) = some r := by rw [if_neg (show ¬ (false = true) by decide)] at H; exact H
                clear H
                have H := H1
                clear H1
                exact absurd ((Option.some.inj H).trans HRT.out) (by decide)
              ·replace c39 := Bool.eq_false_iff.mpr c39
               subst c39
               have H1 : (some false) = some r := by rw [if_neg (show ¬ (false = true) by decide)] at H; exact H
               clear H
               have H := H1
               clear H1
               exact absurd ((Option.some.inj H).trans HRT.out) (by decide)
           ·rw [if_neg c25] at H
            exact absurd H (by simp)
          ·rw [if_neg c24] at H
           exact absurd H (by simp)
         ·rw [if_neg c23] at H
          exact absurd H (by simp)

end Go.Proofs.Ytflmfbcapccdeaa.PA

-- Written for the seat Ytgpbighdegdlfaa by this session's program hyb.py (the print's functions, with externals typed by hand).
import Derived.Test.YtgpbighdegdlfaaPAx0
import Derived.Test.YtgpbighdegdlfaaPAx23
namespace Go.Proofs.Ytgpbighdegdlfaa.PA
open Go.RowKit Go.Proofs.YtgpbighdegdlfaaW.PrintWords Go.Proofs.YtgpbighdegdlfaaW.PrintLast Go.Proofs.YtgpbighdegdlfaaW.PrintMore
attribute [local go_sem] max2_int min2_int max_two min_two max_three min_three max_four min_four   -- for this text's walks alone
set_option linter.unusedVariables false
set_option linter.unusedSimpArgs false

/-! ### tidewayref10_Pipe: function 15 -/
mutual
def tidewayref10_Pipe.l0 : Nat → List (S38) → Int → Int → Option (Int)
 | 0, _, _, _ => none
 | k + 1, x0, x3, x4 => if x4 < (x0.length : Int) then ((tidewayref10_Check.f x0).bind fun t273 => (tidewayref10_Pipe.j1 k x0 x3 x4 (t273 == 0))) else (tidewayref10_Pipe.j1 k x0 x3 x4 false)
def tidewayref10_Pipe.j1 : Nat → List (S38) → Int → Int → Bool → Option (Int)
 | 0, _, _, _, _ => none
 | k + 1, x0, x3, x4, x13 => if x13 = true then (if 0 ≤ x4 then (if x4 < (x0.length : Int) then (if ((rd_T38 x0 x4).f5 = true) then (tidewayref10_Pipe.j2 k x0 x3 x4 false) else (if ((rd_T38 x0 x4).f6 = true) then (tidewayref10_Pipe.j2 k x0 x3 x4 ((rd_T38 x0 x4).f7)) else (tidewayref10_Pipe.j2 k x0 x3 x4 true))) else (none)) else (none)) else (some x3)
def tidewayref10_Pipe.j2 : Nat → List (S38) → Int → Int → Bool → Option (Int)
 | 0, _, _, _, _ => none
 | k + 1, x0, x3, x4, x36 => if x36 = true then (if 0 ≤ x4 then (if x4 < (x0.length : Int) then (tidewayref10_Pipe.l0 k x0 (wrap64 ((wrap64 (x3 + ((rd_T38 x0 x4).f1))) - ((rd_T38 x0 x4).f0))) (wrap64 (x4 + 1))) else (none)) else (none)) else (tidewayref10_Pipe.l0 k x0 x3 (wrap64 (x4 + 1)))
end
def tidewayref10_Pipe.f (k : Nat) (l0 : List (S38)) : Option (Int) := tidewayref10_Pipe.l0 k l0 0 0
set_option maxHeartbeats 8000000 in
set_option maxRecDepth 100000 in
theorem tidewayref10_Pipe.calls (k : Nat) (A0 : Option Addr) (c0 : Nat) (l0 : List (S38)) (r : Int) (w : World) (hr0 : Kd.C k38 w A0 l0.length l0) (hc0 : l0.length ≤ c0) (h : tidewayref10_Pipe.f k l0 = some r) :
  Calls Try.prog 15 #[.slice A0 l0.length c0] w fun e w' => e = .returned (.int .i64 r) ∧ Below w.heap.size w w' := by
 have HR0 := Aside0.mk hr0
 have HC0 := Aside0.mk hc0
 clear hr0 hc0
 have HB := Aside0.mk (Below.refl w.heap.size w)
 have H : (tidewayref10_Pipe.l0 k l0 0 0) = some r := h
 clear h
 have H' := Aside0.mk H
 clear H
 go_enter Try.func15, Try.ntmps15
 go_wp2
 repeat (go_quiet (fail); try go_wp2)
 go_loopg [3, 4] k (fun kq v3 v4 w' => ∃ (x3_1 : Int) (x4_1 : Int), v3 = .int .i64 x3_1 ∧ v4 = .int .i64 x4_1 ∧ Aside0 (tidewayref10_Pipe.l0 kq l0 x3_1 x4_1 = some r) ∧ Aside0 (kq ≤ k) ∧ Aside0 (Below w.heap.size w w'))
 case atStart => exact ⟨(0), (0), (by first | rfl | (simp; done) | (simp [*]; done)), (by first | rfl | (simp; done) | (simp [*]; done)), H', ⟨Nat.le_refl _⟩, ⟨by repeat (first | (with_reducible first | exact HB.out | apply below_alloc | apply pw_below_drewN | apply below_drew1) | exact HB.out | exact Below.refl _ _)⟩⟩
 case round =>
  clear H'
  try clear c1
  obtain ⟨x3_1, x4_1, rfl, rfl, HA, HK1, HB⟩ := hrel
  cases gk with
  | zero => exact absurd HA.out (by simp [tidewayref10_Pipe.l0])
  | succ k1 =>
   have H := HA.out
   clear HA
   simp only [tidewayref10_Pipe.l0] at H
   have HC2 := Aside0.mk H
   clear H
   go_upto_region 3 with (fail)
   repeat (go_quiet (fail); go_upto_region 3 with (fail))
   go_cut [13] (fun v13 wc => ∃ (kq : Nat) (x13_1 : Bool), v13 = .bool x13_1 ∧ Aside0 (tidewayref10_Pipe.j1 kq l0 x3_1 x4_1 x13_1 = some r) ∧ Aside0 (kq ≤ k1) ∧ Aside0 (Below w.heap.size w wc))
   case first =>
    have H := HC2.out
    clear HC2
    by_cases c3 : x4_1 < (l0.length : Int)
    ·rw [if_pos c3] at H
     have c3b0 : decide (x4_1 < (l0.length : Int)) = true := decide_eq_true c3
     clear c3
     (first | rw [c3b0] | (simp only [i64_w, i32_w]; rw [c3b0]) | skip)
     replace H := Option.bind_eq_some_iff.mp H
     obtain ⟨t273, A40, H⟩ := H
     replace H : (tidewayref10_Pipe.j1 k1 l0 x3_1 x4_1 (t273 == 0)) = some r := H
     have A4 := Aside0.mk A40
     clear A40
     have H' := Aside0.mk H
     clear H
     go_wp2_with (first | (go_at_call 30; (with_reducible refine (tidewayref10_Check.calls _ _ l0 t273 _ ?side1 ?side2 A4.out).mono ?_); (case side1 => repeat (first | exact (Kd.C_below HR0.out HB.out) | exact HR0.out | (with_reducible refine Kd.C_alloc ?_ _) | (with_reducible refine Kd.C_drewN ?_ _) | (with_reducible refine Kd.C_drew ?_))); (case side2 => exact HC0.out); rintro e w5 ⟨rfl, hb⟩; have n0_ := Aside0.mk (below_step (by repeat (first | (with_reducible first | exact HB.out | apply below_alloc | apply pw_below_drewN | apply below_drew1) | exact HB.out | exact Below.refl _ _)) hb); clear HB; have HB := n0_; clear n0_; (try clear hb); (try clear hb2); (try clear hk); (try clear hi)))
     repeat (go_quiet (first | (go_at_call 30; (with_reducible refine (tidewayref10_Check.calls _ _ l0 t273 _ ?side1 ?side2 A4.out).mono ?_); (case side1 => repeat (first | exact (Kd.C_below HR0.out HB.out) | exact HR0.out | (with_reducible refine Kd.C_alloc ?_ _) | (with_reducible refine Kd.C_drewN ?_ _) | (with_reducible refine Kd.C_drew ?_))); (case side2 => exact HC0.out); rintro e w5 ⟨rfl, hb⟩; have n0_ := Aside0.mk (below_step (by repeat (first | (with_reducible first | exact HB.out | apply below_alloc | apply pw_below_drewN | apply below_drew1) | exact HB.out | exact Below.refl _ _)) hb); clear HB; have HB := n0_; clear n0_; (try clear hb); (try clear hb2); (try clear hk); (try clear hi))); try go_wp2_with (first | (go_at_call 30; (with_reducible refine (tidewayref10_Check.calls _ _ l0 t273 _ ?side1 ?side2 A4.out).mono ?_); (case side1 => repeat (first | exact (Kd.C_below HR0.out HB.out) | exact HR0.out | (with_reducible refine Kd.C_alloc ?_ _) | (with_reducible refine Kd.C_drewN ?_ _) | (with_reducible refine Kd.C_drew ?_))); (case side2 => exact HC0.out); rintro e w5 ⟨rfl, hb⟩; have n0_ := Aside0.mk (below_step (by repeat (first | (with_reducible first | exact HB.out | apply below_alloc | apply pw_below_drewN | apply below_drew1) | exact HB.out | exact Below.refl _ _)) hb); clear HB; have HB := n0_; clear n0_; (try clear hb); (try clear hb2); (try clear hk); (try clear hi))))
     go_meet
     case rel => exact ⟨_, ((t273 == 0)), (by first | rfl | (simp; done) | (simp [*]; done)), H', ⟨by have := HK1.out; first | omega | exact Nat.le_refl _⟩, ⟨by repeat (first | (with_reducible first | exact HB.out | apply below_alloc | apply pw_below_drewN | apply below_drew1) | exact HB.out | exact Below.refl _ _)⟩⟩
    ·rw [if_neg c3] at H
     have c3b0 : decide (x4_1 < (l0.length : Int)) = false := decide_eq_false c3
     clear c3
     (first | rw [c3b0] | (simp only [i64_w, i32_w]; rw [c3b0]) | skip)
     have H' := Aside0.mk H
     clear H
     go_wp2
     repeat (go_quiet (fail); try go_wp2)
     go_meet
     case rel => exact ⟨_, (false), (by first | rfl | (simp; done) | (simp [*]; done)), H', ⟨by have := HK1.out; first | omega | exact Nat.le_refl _⟩, ⟨by repeat (first | (with_reducible first | exact HB.out | apply below_alloc | apply pw_below_drewN | apply below_drew1) | exact HB.out | exact Below.refl _ _)⟩⟩
   case rest =>
    clear HC2
    try clear c1
    try clear p2
    try clear c3
    try clear c3b0
    obtain ⟨kq, x13_1, rfl, HA, HJ1, HB⟩ := hcut
    cases kq with
    | zero => exact absurd HA.out (by simp [tidewayref10_Pipe.j1])
    | succ kj1 =>
     have H := HA.out
     clear HA
     simp only [tidewayref10_Pipe.j1] at H
     by_cases c6 : x13_1 = true
     ·subst c6
      have H1 : (if 0 ≤ x4_1 then (if x4_1 < (l0.length : Int) then (if ((rd_T38 l0 x4_1).f5 = true) then (tidewayref10_Pipe.j2 kj1 l0 x3_1 x4_1 false) else (if ((rd_T38 l0 x4_1).f6 = true) then (tidewayref10_Pipe.j2 kj1 l0 x3_1 x4_1 ((rd_T38 l0 x4_1).f7)) else (tidewayref10_Pipe.j2 kj1 l0 x3_1 x4_1 true))) else (none)) else (none)) = some r := by rw [if_pos rfl] at H; exact H
      clear H
      have H := H1
      clear H1
      have HC7 := Aside0.mk H
      clear H
      go_upto_region 5 with (fail)
      repeat (go_quiet (fail); go_upto_region 5 with (fail))
      go_cut [36] (fun v36 wc => ∃ (kq : Nat) (x36_6 : Bool), v36 = .bool x36_6 ∧ Aside0 (tidewayref10_Pipe.j2 kq l0 x3_1 x4_1 x36_6 = some r) ∧ Aside0 (kq ≤ kj1) ∧ Aside0 (Below w.heap.size w wc))
      case first =>
       have H := HC7.out
       clear HC7
       by_cases c8 : 0 ≤ x4_1
       ·rw [if_pos c8] at H
        have c8b0 : decide (0 ≤ x4_1) = true := decide_eq_true c8
        clear c8
        (first | rw [c8b0] | (simp only [i64_w, i32_w]; rw [c8b0]) | skip)
        by_cases c9 : x4_1 < (l0.length : Int)
        ·rw [if_pos c9] at H
         have c9b0 : decide (x4_1 < (l0.length : Int)) = true := decide_eq_true c9
         clear c9
         obtain ⟨bq10, hbq10⟩ : ∃ b_ : Bool, b_ = ((rd_T38 l0 x4_1).f5) := ⟨_, rfl⟩
         replace H : (if (bq10 = true) then (tidewayref10_Pipe.j2 kj1 l0 x3_1 x4_1 false) else (if ((rd_T38 l0 x4_1).f6 = true) then (tidewayref10_Pipe.j2 kj1 l0 x3_1 x4_1 ((rd_T38 l0 x4_1).f7)) else (tidewayref10_Pipe.j2 kj1 l0 x3_1 x4_1 true))) = some r := by rw [← hbq10] at H; exact H
         have Nbq10 := Aside0.mk hbq10
         clear hbq10
         by_cases c11 : (bq10 = true)
         ·subst c11
          have H1 : (tidewayref10_Pipe.j2 kj1 l0 x3_1 x4_1 false) = some r := by rw [if_pos rfl] at H; exact H
          clear H
          have H := H1
          clear H1
          have H' := Aside0.mk H
          clear H
          have p274 : 0 ≤ (x4_1 : Int) := of_decide_eq_true (by first | (with_reducible assumption) | assumption)
          have q274 : x4_1 < (l0.length : Int) := of_decide_eq_true (by first | (with_reducible assumption) | assumption)
          obtain ⟨ad274, e274, hx274_0, hx274_1, hx274_2, hx274_3, hx274_4, hx274_5, hx274_6, hx274_7, hx274_8, hx274_9, hx274_10, hx274_11⟩ := at_T38 HR0.out x4_1 p274 q274
          (try rw [← Nbq10.out] at hx274_2)
          (try rw [← Nbq10.out] at hx274_5)
          (try rw [← Nbq10.out] at hx274_6)
          (try rw [← Nbq10.out] at hx274_7)
          (try rw [← Nbq10.out] at hx274_11)
          cases e274
          replace hx274_0 := (HB.out.cell (World.block_lt_of_cell? w _ hx274_0)).trans hx274_0
          replace hx274_1 := (HB.out.cell (World.block_lt_of_cell? w _ hx274_1)).trans hx274_1
          replace hx274_2 := (HB.out.cell (World.block_lt_of_cell? w _ hx274_2)).trans hx274_2
          replace hx274_3 := (HB.out.cell (World.block_lt_of_cell? w _ hx274_3)).trans hx274_3
          replace hx274_4 := (HB.out.cell (World.block_lt_of_cell? w _ hx274_4)).trans hx274_4
          replace hx274_5 := (HB.out.cell (World.block_lt_of_cell? w _ hx274_5)).trans hx274_5
          replace hx274_6 := (HB.out.cell (World.block_lt_of_cell? w _ hx274_6)).trans hx274_6
          replace hx274_7 := (HB.out.cell (World.block_lt_of_cell? w _ hx274_7)).trans hx274_7
          replace hx274_8 := (HB.out.cell (World.block_lt_of_cell? w _ hx274_8)).trans hx274_8
          replace hx274_9 := (HB.out.cell (World.block_lt_of_cell? w _ hx274_9)).trans hx274_9
          replace hx274_10 := (HB.out.cell (World.block_lt_of_cell? w _ hx274_10)).trans hx274_10
          replace hx274_11 := (HB.out.cell (World.block_lt_of_cell? w _ hx274_11)).trans hx274_11
          replace p274 := eq_true p274
          replace q274 := eq_true q274
          go_wp2
          repeat (go_quiet (fail); try go_wp2)
          go_meet
          case rel => exact ⟨_, (false), (by first | rfl | (simp; done) | (simp [*]; done)), H', ⟨by have := HK1.out; have := HJ1.out; first | omega | exact Nat.le_refl _⟩, ⟨by repeat (first | (with_reducible first | exact HB.out | apply below_alloc | apply pw_below_drewN | apply below_drew1) | exact HB.out | exact Below.refl _ _)⟩⟩
         ·replace c11 := Bool.eq_false_iff.mpr c11
          subst c11
          have H1 : (if ((rd_T38 l0 x4_1).f6 = true) then (tidewayref10_Pipe.j2 kj1 l0 x3_1 x4_1 ((rd_T38 l0 x4_1).f7)) else (tidewayref10_Pipe.j2 kj1 l0 x3_1 x4_1 true)) = some r := by rw [if_neg (show ¬ (false = true) by decide)] at H; exact H
          clear H
          have H := H1
          clear H1
          obtain ⟨bq12, hbq12⟩ : ∃ b_ : Bool, b_ = ((rd_T38 l0 x4_1).f6) := ⟨_, rfl⟩
          replace H : (if (bq12 = true) then (tidewayref10_Pipe.j2 kj1 l0 x3_1 x4_1 ((rd_T38 l0 x4_1).f7)) else (tidewayref10_Pipe.j2 kj1 l0 x3_1 x4_1 true)) = some r := by rw [← hbq12] at H; exact H
          have Nbq12 := Aside0.mk hbq12
          clear hbq12
          by_cases c13 : (bq12 = true)
          ·subst c13
           have H1 : (tidewayref10_Pipe.j2 kj1 l0 x3_1 x4_1 ((rd_T38 l0 x4_1).f7)) = some r := by rw [if_pos rfl] at H; exact H
           clear H
           have H := H1
           clear H1
           have H' := Aside0.mk H
           clear H
           have p274 : 0 ≤ (x4_1 : Int) := of_decide_eq_true (by first | (with_reducible assumption) | assumption)
           have q274 : x4_1 < (l0.length : Int) := of_decide_eq_true (by first | (with_reducible assumption) | assumption)
           obtain ⟨ad274, e274, hx274_0, hx274_1, hx274_2, hx274_3, hx274_4, hx274_5, hx274_6, hx274_7, hx274_8, hx274_9, hx274_10, hx274_11⟩ := at_T38 HR0.out x4_1 p274 q274
           (try rw [← Nbq10.out] at hx274_2)
           (try rw [← Nbq12.out] at hx274_2)
           (try rw [← Nbq10.out] at hx274_5)
           (try rw [← Nbq12.out] at hx274_5)
           (try rw [← Nbq10.out] at hx274_6)
           (try rw [← Nbq12.out] at hx274_6)
           (try rw [← Nbq10.out] at hx274_7)
           (try rw [← Nbq12.out] at hx274_7)
           (try rw [← Nbq10.out] at hx274_11)
           (try rw [← Nbq12.out] at hx274_11)
           cases e274
           replace hx274_0 := (HB.out.cell (World.block_lt_of_cell? w _ hx274_0)).trans hx274_0
           replace hx274_1 := (HB.out.cell (World.block_lt_of_cell? w _ hx274_1)).trans hx274_1
           replace hx274_2 := (HB.out.cell (World.block_lt_of_cell? w _ hx274_2)).trans hx274_2
           replace hx274_3 := (HB.out.cell (World.block_lt_of_cell? w _ hx274_3)).trans hx274_3
           replace hx274_4 := (HB.out.cell (World.block_lt_of_cell? w _ hx274_4)).trans hx274_4
           replace hx274_5 := (HB.out.cell (World.block_lt_of_cell? w _ hx274_5)).trans hx274_5
           replace hx274_6 := (HB.out.cell (World.block_lt_of_cell? w _ hx274_6)).trans hx274_6
           replace hx274_7 := (HB.out.cell (World.block_lt_of_cell? w _ hx274_7)).trans hx274_7
           replace hx274_8 := (HB.out.cell (World.block_lt_of_cell? w _ hx274_8)).trans hx274_8
           replace hx274_9 := (HB.out.cell (World.block_lt_of_cell? w _ hx274_9)).trans hx274_9
           replace hx274_10 := (HB.out.cell (World.block_lt_of_cell? w _ hx274_10)).trans hx274_10
           replace hx274_11 := (HB.out.cell (World.block_lt_of_cell? w _ hx274_11)).trans hx274_11
           replace p274 := eq_true p274
           replace q274 := eq_true q274
           have p275 : 0 ≤ (x4_1 : Int) := of_decide_eq_true (by first | (with_reducible assumption) | assumption)
           have q275 : x4_1 < (l0.length : Int) := of_decide_eq_true (by first | (with_reducible assumption) | assumption)
           obtain ⟨ad275, e275, hx275_0, hx275_1, hx275_2, hx275_3, hx275_4, hx275_5, hx275_6, hx275_7, hx275_8, hx275_9, hx275_10, hx275_11⟩ := at_T38 HR0.out x4_1 p275 q275
           (try rw [← Nbq10.out] at hx275_2)
           (try rw [← Nbq12.out] at hx275_2)
           (try rw [← Nbq10.out] at hx275_5)
           (try rw [← Nbq12.out] at hx275_5)
           (try rw [← Nbq10.out] at hx275_6)
           (try rw [← Nbq12.out] at hx275_6)
           (try rw [← Nbq10.out] at hx275_7)
           (try rw [← Nbq12.out] at hx275_7)
           (try rw [← Nbq10.out] at hx275_11)
           (try rw [← Nbq12.out] at hx275_11)
           obtain rfl : ad274 = ad275 := (by injection e275)
           replace hx275_0 := (HB.out.cell (World.block_lt_of_cell? w _ hx275_0)).trans hx275_0
           replace hx275_1 := (HB.out.cell (World.block_lt_of_cell? w _ hx275_1)).trans hx275_1
           replace hx275_2 := (HB.out.cell (World.block_lt_of_cell? w _ hx275_2)).trans hx275_2
           replace hx275_3 := (HB.out.cell (World.block_lt_of_cell? w _ hx275_3)).trans hx275_3
           replace hx275_4 := (HB.out.cell (World.block_lt_of_cell? w _ hx275_4)).trans hx275_4
           replace hx275_5 := (HB.out.cell (World.block_lt_of_cell? w _ hx275_5)).trans hx275_5
           replace hx275_6 := (HB.out.cell (World.block_lt_of_cell? w _ hx275_6)).trans hx275_6
           replace hx275_7 := (HB.out.cell (World.block_lt_of_cell? w _ hx275_7)).trans hx275_7
           replace hx275_8 := (HB.out.cell (World.block_lt_of_cell? w _ hx275_8)).trans hx275_8
           replace hx275_9 := (HB.out.cell (World.block_lt_of_cell? w _ hx275_9)).trans hx275_9
           replace hx275_10 := (HB.out.cell (World.block_lt_of_cell? w _ hx275_10)).trans hx275_10
           replace hx275_11 := (HB.out.cell (World.block_lt_of_cell? w _ hx275_11)).trans hx275_11
           replace p275 := eq_true p275
           replace q275 := eq_true q275
           have p276 : 0 ≤ (x4_1 : Int) := of_decide_eq_true (by first | (with_reducible assumption) | assumption)
           have q276 : x4_1 < (l0.length : Int) := of_decide_eq_true (by first | (with_reducible assumption) | assumption)
           obtain ⟨ad276, e276, hx276_0, hx276_1, hx276_2, hx276_3, hx276_4, hx276_5, hx276_6, hx276_7, hx276_8, hx276_9, hx276_10, hx276_11⟩ := at_T38 HR0.out x4_1 p276 q276
           (try rw [← Nbq10.out] at hx276_2)
           (try rw [← Nbq12.out] at hx276_2)
           (try rw [← Nbq10.out] at hx276_5)
           (try rw [← Nbq12.out] at hx276_5)
           (try rw [← Nbq10.out] at hx276_6)
           (try rw [← Nbq12.out] at hx276_6)
           (try rw [← Nbq10.out] at hx276_7)
           (try rw [← Nbq12.out] at hx276_7)
           (try rw [← Nbq10.out] at hx276_11)
           (try rw [← Nbq12.out] at hx276_11)
           obtain rfl : ad274 = ad276 := (by injection e276)
           replace hx276_0 := (HB.out.cell (World.block_lt_of_cell? w _ hx276_0)).trans hx276_0
           replace hx276_1 := (HB.out.cell (World.block_lt_of_cell? w _ hx276_1)).trans hx276_1
           replace hx276_2 := (HB.out.cell (World.block_lt_of_cell? w _ hx276_2)).trans hx276_2
           replace hx276_3 := (HB.out.cell (World.block_lt_of_cell? w _ hx276_3)).trans hx276_3
           replace hx276_4 := (HB.out.cell (World.block_lt_of_cell? w _ hx276_4)).trans hx276_4
           replace hx276_5 := (HB.out.cell (World.block_lt_of_cell? w _ hx276_5)).trans hx276_5
           replace hx276_6 := (HB.out.cell (World.block_lt_of_cell? w _ hx276_6)).trans hx276_6
           replace hx276_7 := (HB.out.cell (World.block_lt_of_cell? w _ hx276_7)).trans hx276_7
           replace hx276_8 := (HB.out.cell (World.block_lt_of_cell? w _ hx276_8)).trans hx276_8
           replace hx276_9 := (HB.out.cell (World.block_lt_of_cell? w _ hx276_9)).trans hx276_9
           replace hx276_10 := (HB.out.cell (World.block_lt_of_cell? w _ hx276_10)).trans hx276_10
           replace hx276_11 := (HB.out.cell (World.block_lt_of_cell? w _ hx276_11)).trans hx276_11
           replace p276 := eq_true p276
           replace q276 := eq_true q276
           go_wp2
           repeat (go_quiet (fail); try go_wp2)
           go_meet
           case rel => exact ⟨_, ((rd_T38 l0 x4_1).f7), (by first | rfl | (simp; done) | (simp [*]; done)), H', ⟨by have := HK1.out; have := HJ1.out; first | omega | exact Nat.le_refl _⟩, ⟨by repeat (first | (with_reducible first | exact HB.out | apply below_alloc | apply pw_below_drewN | apply below_drew1) | exact HB.out | exact Below.refl _ _)⟩⟩
          ·replace c13 := Bool.eq_false_iff.mpr c13
           subst c13
           have H1 : (tidewayref10_Pipe.j2 kj1 l0 x3_1 x4_1 true) = some r := by rw [if_neg (show ¬ (false = true) by decide)] at H; exact H
           clear H
           have H := H1
           clear H1
           have H' := Aside0.mk H
           clear H
           have p274 : 0 ≤ (x4_1 : Int) := of_decide_eq_true (by first | (with_reducible assumption) | assumption)
           have q274 : x4_1 < (l0.length : Int) := of_decide_eq_true (by first | (with_reducible assumption) | assumption)
           obtain ⟨ad274, e274, hx274_0, hx274_1, hx274_2, hx274_3, hx274_4, hx274_5, hx274_6, hx274_7, hx274_8, hx274_9, hx274_10, hx274_11⟩ := at_T38 HR0.out x4_1 p274 q274
           (try rw [← Nbq10.out] at hx274_2)
           (try rw [← Nbq12.out] at hx274_2)
           (try rw [← Nbq10.out] at hx274_5)
           (try rw [← Nbq12.out] at hx274_5)
           (try rw [← Nbq10.out] at hx274_6)
           (try rw [← Nbq12.out] at hx274_6)
           (try rw [← Nbq10.out] at hx274_7)
           (try rw [← Nbq12.out] at hx274_7)
           (try rw [← Nbq10.out] at hx274_11)
           (try rw [← Nbq12.out] at hx274_11)
           cases e274
           replace hx274_0 := (HB.out.cell (World.block_lt_of_cell? w _ hx274_0)).trans hx274_0
           replace hx274_1 := (HB.out.cell (World.block_lt_of_cell? w _ hx274_1)).trans hx274_1
           replace hx274_2 := (HB.out.cell (World.block_lt_of_cell? w _ hx274_2)).trans hx274_2
           replace hx274_3 := (HB.out.cell (World.block_lt_of_cell? w _ hx274_3)).trans hx274_3
           replace hx274_4 := (HB.out.cell (World.block_lt_of_cell? w _ hx274_4)).trans hx274_4
           replace hx274_5 := (HB.out.cell (World.block_lt_of_cell? w _ hx274_5)).trans hx274_5
           replace hx274_6 := (HB.out.cell (World.block_lt_of_cell? w _ hx274_6)).trans hx274_6
           replace hx274_7 := (HB.out.cell (World.block_lt_of_cell? w _ hx274_7)).trans hx274_7
           replace hx274_8 := (HB.out.cell (World.block_lt_of_cell? w _ hx274_8)).trans hx274_8
           replace hx274_9 := (HB.out.cell (World.block_lt_of_cell? w _ hx274_9)).trans hx274_9
           replace hx274_10 := (HB.out.cell (World.block_lt_of_cell? w _ hx274_10)).trans hx274_10
           replace hx274_11 := (HB.out.cell (World.block_lt_of_cell? w _ hx274_11)).trans hx274_11
           replace p274 := eq_true p274
           replace q274 := eq_true q274
           have p275 : 0 ≤ (x4_1 : Int) := of_decide_eq_true (by first | (with_reducible assumption) | assumption)
           have q275 : x4_1 < (l0.length : Int) := of_decide_eq_true (by first | (with_reducible assumption) | assumption)
           obtain ⟨ad275, e275, hx275_0, hx275_1, hx275_2, hx275_3, hx275_4, hx275_5, hx275_6, hx275_7, hx275_8, hx275_9, hx275_10, hx275_11⟩ := at_T38 HR0.out x4_1 p275 q275
           (try rw [← Nbq10.out] at hx275_2)
           (try rw [← Nbq12.out] at hx275_2)
           (try rw [← Nbq10.out] at hx275_5)
           (try rw [← Nbq12.out] at hx275_5)
           (try rw [← Nbq10.out] at hx275_6)
           (try rw [← Nbq12.out] at hx275_6)
           (try rw [← Nbq10.out] at hx275_7)
           (try rw [← Nbq12.out] at hx275_7)
           (try rw [← Nbq10.out] at hx275_11)
           (try rw [← Nbq12.out] at hx275_11)
           obtain rfl : ad274 = ad275 := (by injection e275)
           replace hx275_0 := (HB.out.cell (World.block_lt_of_cell? w _ hx275_0)).trans hx275_0
           replace hx275_1 := (HB.out.cell (World.block_lt_of_cell? w _ hx275_1)).trans hx275_1
           replace hx275_2 := (HB.out.cell (World.block_lt_of_cell? w _ hx275_2)).trans hx275_2
           replace hx275_3 := (HB.out.cell (World.block_lt_of_cell? w _ hx275_3)).trans hx275_3
           replace hx275_4 := (HB.out.cell (World.block_lt_of_cell? w _ hx275_4)).trans hx275_4
           replace hx275_5 := (HB.out.cell (World.block_lt_of_cell? w _ hx275_5)).trans hx275_5
           replace hx275_6 := (HB.out.cell (World.block_lt_of_cell? w _ hx275_6)).trans hx275_6
           replace hx275_7 := (HB.out.cell (World.block_lt_of_cell? w _ hx275_7)).trans hx275_7
           replace hx275_8 := (HB.out.cell (World.block_lt_of_cell? w _ hx275_8)).trans hx275_8
           replace hx275_9 := (HB.out.cell (World.block_lt_of_cell? w _ hx275_9)).trans hx275_9
           replace hx275_10 := (HB.out.cell (World.block_lt_of_cell? w _ hx275_10)).trans hx275_10
           replace hx275_11 := (HB.out.cell (World.block_lt_of_cell? w _ hx275_11)).trans hx275_11
           replace p275 := eq_true p275
           replace q275 := eq_true q275
           go_wp2
           repeat (go_quiet (fail); try go_wp2)
           go_meet
           case rel => exact ⟨_, (true), (by first | rfl | (simp; done) | (simp [*]; done)), H', ⟨by have := HK1.out; have := HJ1.out; first | omega | exact Nat.le_refl _⟩, ⟨by repeat (first | (with_reducible first | exact HB.out | apply below_alloc | apply pw_below_drewN | apply below_drew1) | exact HB.out | exact Below.refl _ _)⟩⟩
        ·rw [if_neg c9] at H
         exact absurd H (by simp)
       ·rw [if_neg c8] at H
        exact absurd H (by simp)
      case rest =>
       clear HC7
       try clear c1
       try clear q1
       try clear p2
       try clear q2
       try clear hx2
       try clear c3
       try clear c3b0
       try clear c6
       try clear c8
       try clear c8b0
       try clear c9
       try clear c9b0
       try clear q10
       try clear c11
       try clear q12
       try clear c13
       try clear hx274_0
       try clear hx274_1
       try clear hx274_10
       try clear hx274_11
       try clear hx274_2
       try clear hx274_3
       try clear hx274_4
       try clear hx274_5
       try clear hx274_6
       try clear hx274_7
       try clear hx274_8
       try clear hx274_9
       try clear hx275_0
       try clear hx275_1
       try clear hx275_10
       try clear hx275_11
       try clear hx275_2
       try clear hx275_3
       try clear hx275_4
       try clear hx275_5
       try clear hx275_6
       try clear hx275_7
       try clear hx275_8
       try clear hx275_9
       try clear hx276_0
       try clear hx276_1
       try clear hx276_10
       try clear hx276_11
       try clear hx276_2
       try clear hx276_3
       try clear hx276_4
       try clear hx276_5
       try clear hx276_6
       try clear hx276_7
       try clear hx276_8
       try clear hx276_9
       try clear p2
       try clear p274
       try clear p275
       try clear p276
       try clear q274
       try clear q275
       try clear q276
       obtain ⟨kq, x36_6, rfl, HA, HJ6, HB⟩ := hcut
       cases kq with
       | zero => exact absurd HA.out (by simp [tidewayref10_Pipe.j2])
       | succ kj6 =>
        have H := HA.out
        clear HA
        simp only [tidewayref10_Pipe.j2] at H
        by_cases c14 : x36_6 = true
        ·subst c14
         have H1 : (if 0 ≤ x4_1 then (if x4_1 < (l0.length : Int) then (tidewayref10_Pipe.l0 kj6 l0 (wrap64 ((wrap64 (x3_1 + ((rd_T38 l0 x4_1).f1))) - ((rd_T38 l0 x4_1).f0))) (wrap64 (x4_1 + 1))) else (none)) else (none)) = some r := by rw [if_pos rfl] at H; exact H
         clear H
         have H := H1
         clear H1
         by_cases c15 : 0 ≤ x4_1
         ·rw [if_pos c15] at H
          have c15b0 : decide (0 ≤ x4_1) = true := decide_eq_true c15
          clear c15
          by_cases c16 : x4_1 < (l0.length : Int)
          ·rw [if_pos c16] at H
           have c16b0 : decide (x4_1 < (l0.length : Int)) = true := decide_eq_true c16
           clear c16
           have H' := Aside0.mk H
           clear H
           have p277 : 0 ≤ (x4_1 : Int) := of_decide_eq_true (by first | (with_reducible assumption) | assumption)
           have q277 : x4_1 < (l0.length : Int) := of_decide_eq_true (by first | (with_reducible assumption) | assumption)
           obtain ⟨ad277, e277, hx277_0, hx277_1, hx277_2, hx277_3, hx277_4, hx277_5, hx277_6, hx277_7, hx277_8, hx277_9, hx277_10, hx277_11⟩ := at_T38 HR0.out x4_1 p277 q277
           cases e277
           replace hx277_0 := (HB.out.cell (World.block_lt_of_cell? w _ hx277_0)).trans hx277_0
           replace hx277_1 := (HB.out.cell (World.block_lt_of_cell? w _ hx277_1)).trans hx277_1
           replace hx277_2 := (HB.out.cell (World.block_lt_of_cell? w _ hx277_2)).trans hx277_2
           replace hx277_3 := (HB.out.cell (World.block_lt_of_cell? w _ hx277_3)).trans hx277_3
           replace hx277_4 := (HB.out.cell (World.block_lt_of_cell? w _ hx277_4)).trans hx277_4
           replace hx277_5 := (HB.out.cell (World.block_lt_of_cell? w _ hx277_5)).trans hx277_5
           replace hx277_6 := (HB.out.cell (World.block_lt_of_cell? w _ hx277_6)).trans hx277_6
           replace hx277_7 := (HB.out.cell (World.block_lt_of_cell? w _ hx277_7)).trans hx277_7
           replace hx277_8 := (HB.out.cell (World.block_lt_of_cell? w _ hx277_8)).trans hx277_8
           replace hx277_9 := (HB.out.cell (World.block_lt_of_cell? w _ hx277_9)).trans hx277_9
           replace hx277_10 := (HB.out.cell (World.block_lt_of_cell? w _ hx277_10)).trans hx277_10
           replace hx277_11 := (HB.out.cell (World.block_lt_of_cell? w _ hx277_11)).trans hx277_11
           replace p277 := eq_true p277
           replace q277 := eq_true q277
           have p278 : 0 ≤ (x4_1 : Int) := of_decide_eq_true (by first | (with_reducible assumption) | assumption)
           have q278 : x4_1 < (l0.length : Int) := of_decide_eq_true (by first | (with_reducible assumption) | assumption)
           obtain ⟨ad278, e278, hx278_0, hx278_1, hx278_2, hx278_3, hx278_4, hx278_5, hx278_6, hx278_7, hx278_8, hx278_9, hx278_10, hx278_11⟩ := at_T38 HR0.out x4_1 p278 q278
           obtain rfl : ad277 = ad278 := (by injection e278)
           replace hx278_0 := (HB.out.cell (World.block_lt_of_cell? w _ hx278_0)).trans hx278_0
           replace hx278_1 := (HB.out.cell (World.block_lt_of_cell? w _ hx278_1)).trans hx278_1
           replace hx278_2 := (HB.out.cell (World.block_lt_of_cell? w _ hx278_2)).trans hx278_2
           replace hx278_3 := (HB.out.cell (World.block_lt_of_cell? w _ hx278_3)).trans hx278_3
           replace hx278_4 := (HB.out.cell (World.block_lt_of_cell? w _ hx278_4)).trans hx278_4
           replace hx278_5 := (HB.out.cell (World.block_lt_of_cell? w _ hx278_5)).trans hx278_5
           replace hx278_6 := (HB.out.cell (World.block_lt_of_cell? w _ hx278_6)).trans hx278_6
           replace hx278_7 := (HB.out.cell (World.block_lt_of_cell? w _ hx278_7)).trans hx278_7
           replace hx278_8 := (HB.out.cell (World.block_lt_of_cell? w _ hx278_8)).trans hx278_8
           replace hx278_9 := (HB.out.cell (World.block_lt_of_cell? w _ hx278_9)).trans hx278_9
           replace hx278_10 := (HB.out.cell (World.block_lt_of_cell? w _ hx278_10)).trans hx278_10
           replace hx278_11 := (HB.out.cell (World.block_lt_of_cell? w _ hx278_11)).trans hx278_11
           replace p278 := eq_true p278
           replace q278 := eq_true q278
           go_wp2
           repeat (go_quiet (fail); try go_wp2)
           go_roundg kj6
           case measure => have := HK1.out; have := HJ1.out; have := HJ6.out; omega
           case rel => exact ⟨(wrap64 ((wrap64 (x3_1 + ((rd_T38 l0 x4_1).f1))) - ((rd_T38 l0 x4_1).f0))), (wrap64 (x4_1 + 1)), (by first | rfl | (simp; done) | (simp [*]; done)), (by first | rfl | (simp; done) | (simp [*]; done)), H', ⟨by have := HK1.out; have := HJ1.out; have := HJ6.out; omega⟩, ⟨by repeat (first | (with_reducible first | exact HB.out | apply below_alloc | apply pw_below_drewN | apply below_drew1) | exact HB.out | exact Below.refl _ _)⟩⟩
          ·rw [if_neg c16] at H
           exact absurd H (by simp)
         ·rw [if_neg c15] at H
          exact absurd H (by simp)
        ·replace c14 := Bool.eq_false_iff.mpr c14
         subst c14
         have H1 : (tidewayref10_Pipe.l0 kj6 l0 x3_1 (wrap64 (x4_1 + 1))) = some r := by rw [if_neg (show ¬ (false = true) by decide)] at H; exact H
         clear H
         have H := H1
         clear H1
         have H' := Aside0.mk H
         clear H
         go_wp2
         repeat (go_quiet (fail); try go_wp2)
         go_roundg kj6
         case measure => have := HK1.out; have := HJ1.out; have := HJ6.out; omega
         case rel => exact ⟨(x3_1), (wrap64 (x4_1 + 1)), (by first | rfl | (simp; done) | (simp [*]; done)), (by first | rfl | (simp; done) | (simp [*]; done)), H', ⟨by have := HK1.out; have := HJ1.out; have := HJ6.out; omega⟩, ⟨by repeat (first | (with_reducible first | exact HB.out | apply below_alloc | apply pw_below_drewN | apply below_drew1) | exact HB.out | exact Below.refl _ _)⟩⟩
     ·replace c6 := Bool.eq_false_iff.mpr c6
      subst c6
      have H1 : (some x3_1) = some r := by rw [if_neg (show ¬ (false = true) by decide)] at H; exact H
      clear H
      have H := H1
      clear H1
      obtain rfl := Option.some.inj H
      go_wp2
      repeat (go_quiet (fail); try go_wp2)
      go_ret
      exact ⟨by first | rfl | (simp [errW_none, errW_some] <;> rfl) | (simp [*, errW_none, errW_some] <;> rfl), by repeat (first | (with_reducible first | exact HB.out | apply below_alloc | apply pw_below_drewN | apply below_drew1) | exact HB.out | exact Below.refl _ _)⟩

/-! ### tidewayref10_Lost: function 17 -/
mutual
def tidewayref10_Lost.l0 : Nat → List (S38) → Int → Option (Int)
 | 0, _, _ => none
 | k + 1, x0, x3 => if x3 < (x0.length : Int) then ((tidewayref10_Check.f x0).bind fun t279 => (tidewayref10_Lost.j1 k x0 x3 (t279 == 0))) else (tidewayref10_Lost.j1 k x0 x3 false)
def tidewayref10_Lost.j1 : Nat → List (S38) → Int → Bool → Option (Int)
 | 0, _, _, _ => none
 | k + 1, x0, x3, x12 => if x12 = true then (if 0 ≤ x3 then (if x3 < (x0.length : Int) then (if (rd_T38 x0 x3).f6 = true then (if ((rd_T38 x0 x3).f7 = true) then (tidewayref10_Lost.l0 k x0 (wrap64 (x3 + 1))) else (some x3)) else (tidewayref10_Lost.l0 k x0 (wrap64 (x3 + 1)))) else (none)) else (none)) else (some (-1))
end
def tidewayref10_Lost.f (k : Nat) (l0 : List (S38)) : Option (Int) := tidewayref10_Lost.l0 k l0 0
set_option maxHeartbeats 8000000 in
set_option maxRecDepth 100000 in
theorem tidewayref10_Lost.calls (k : Nat) (A0 : Option Addr) (c0 : Nat) (l0 : List (S38)) (r : Int) (w : World) (hr0 : Kd.C k38 w A0 l0.length l0) (hc0 : l0.length ≤ c0) (h : tidewayref10_Lost.f k l0 = some r) :
  Calls Try.prog 17 #[.slice A0 l0.length c0] w fun e w' => e = .returned (.int .i64 r) ∧ Below w.heap.size w w' := by
 have HR0 := Aside0.mk hr0
 have HC0 := Aside0.mk hc0
 clear hr0 hc0
 have HB := Aside0.mk (Below.refl w.heap.size w)
 have H : (tidewayref10_Lost.l0 k l0 0) = some r := h
 clear h
 have H' := Aside0.mk H
 clear H
 go_enter Try.func17, Try.ntmps17
 go_wp2
 go_loopg [3] k (fun kq v3 w' => ∃ (x3_1 : Int), v3 = .int .i64 x3_1 ∧ Aside0 (tidewayref10_Lost.l0 kq l0 x3_1 = some r) ∧ Aside0 (kq ≤ k) ∧ Aside0 (Below w.heap.size w w'))
 case atStart => exact ⟨(0), (by first | rfl | (simp; done) | (simp [*]; done)), H', ⟨Nat.le_refl _⟩, ⟨by repeat (first | (with_reducible first | exact HB.out | apply below_alloc | apply pw_below_drewN | apply below_drew1) | exact HB.out | exact Below.refl _ _)⟩⟩
 case round =>
  clear H'
  try clear c1
  obtain ⟨x3_1, rfl, HA, HK1, HB⟩ := hrel
  cases gk with
  | zero => exact absurd HA.out (by simp [tidewayref10_Lost.l0])
  | succ k1 =>
   have H := HA.out
   clear HA
   simp only [tidewayref10_Lost.l0] at H
   have HC2 := Aside0.mk H
   clear H
   go_upto_region 2 with (fail)
   go_cut [12] (fun v12 wc => ∃ (kq : Nat) (x12_1 : Bool), v12 = .bool x12_1 ∧ Aside0 (tidewayref10_Lost.j1 kq l0 x3_1 x12_1 = some r) ∧ Aside0 (kq ≤ k1) ∧ Aside0 (Below w.heap.size w wc))
   case first =>
    have H := HC2.out
    clear HC2
    by_cases c3 : x3_1 < (l0.length : Int)
    ·rw [if_pos c3] at H
     have c3b0 : decide (x3_1 < (l0.length : Int)) = true := decide_eq_true c3
     clear c3
     (first | rw [c3b0] | (simp only [i64_w, i32_w]; rw [c3b0]) | skip)
     replace H := Option.bind_eq_some_iff.mp H
     obtain ⟨t279, A40, H⟩ := H
     replace H : (tidewayref10_Lost.j1 k1 l0 x3_1 (t279 == 0)) = some r := H
     have A4 := Aside0.mk A40
     clear A40
     have H' := Aside0.mk H
     clear H
     go_wp2_with (first | (go_at_call 30; (with_reducible refine (tidewayref10_Check.calls _ _ l0 t279 _ ?side1 ?side2 A4.out).mono ?_); (case side1 => repeat (first | exact (Kd.C_below HR0.out HB.out) | exact HR0.out | (with_reducible refine Kd.C_alloc ?_ _) | (with_reducible refine Kd.C_drewN ?_ _) | (with_reducible refine Kd.C_drew ?_))); (case side2 => exact HC0.out); rintro e w5 ⟨rfl, hb⟩; have n0_ := Aside0.mk (below_step (by repeat (first | (with_reducible first | exact HB.out | apply below_alloc | apply pw_below_drewN | apply below_drew1) | exact HB.out | exact Below.refl _ _)) hb); clear HB; have HB := n0_; clear n0_; (try clear hb); (try clear hb2); (try clear hk); (try clear hi)))
     go_meet
     case rel => exact ⟨_, ((t279 == 0)), (by first | rfl | (simp; done) | (simp [*]; done)), H', ⟨by have := HK1.out; first | omega | exact Nat.le_refl _⟩, ⟨by repeat (first | (with_reducible first | exact HB.out | apply below_alloc | apply pw_below_drewN | apply below_drew1) | exact HB.out | exact Below.refl _ _)⟩⟩
    ·rw [if_neg c3] at H
     have c3b0 : decide (x3_1 < (l0.length : Int)) = false := decide_eq_false c3
     clear c3
     (first | rw [c3b0] | (simp only [i64_w, i32_w]; rw [c3b0]) | skip)
     have H' := Aside0.mk H
     clear H
     go_wp2
     go_meet
     case rel => exact ⟨_, (false), (by first | rfl | (simp; done) | (simp [*]; done)), H', ⟨by have := HK1.out; first | omega | exact Nat.le_refl _⟩, ⟨by repeat (first | (with_reducible first | exact HB.out | apply below_alloc | apply pw_below_drewN | apply below_drew1) | exact HB.out | exact Below.refl _ _)⟩⟩
   case rest =>
    clear HC2
    try clear c1
    try clear p2
    try clear c3
    try clear c3b0
    obtain ⟨kq, x12_1, rfl, HA, HJ1, HB⟩ := hcut
    cases kq with
    | zero => exact absurd HA.out (by simp [tidewayref10_Lost.j1])
    | succ kj1 =>
     have H := HA.out
     clear HA
     simp only [tidewayref10_Lost.j1] at H
     by_cases c6 : x12_1 = true
     ·subst c6
      have H1 : (if 0 ≤ x3_1 then (if x3_1 < (l0.length : Int) then (if (rd_T38 l0 x3_1).f6 = true then (if ((rd_T38 l0 x3_1).f7 = true) then (tidewayref10_Lost.l0 kj1 l0 (wrap64 (x3_1 + 1))) else (some x3_1)) else (tidewayref10_Lost.l0 kj1 l0 (wrap64 (x3_1 + 1)))) else (none)) else (none)) = some r := by rw [if_pos rfl] at H; exact H
      clear H
      have H := H1
      clear H1
      by_cases c7 : 0 ≤ x3_1
      ·rw [if_pos c7] at H
       have c7b0 : decide (0 ≤ x3_1) = true := decide_eq_true c7
       clear c7
       by_cases c8 : x3_1 < (l0.length : Int)
       ·rw [if_pos c8] at H
        have c8b0 : decide (x3_1 < (l0.length : Int)) = true := decide_eq_true c8
        clear c8
        obtain ⟨bq9, hbq9⟩ : ∃ b_ : Bool, b_ = ((rd_T38 l0 x3_1).f6) := ⟨_, rfl⟩
        replace H : (if bq9 = true then (if ((rd_T38 l0 x3_1).f7 = true) then (tidewayref10_Lost.l0 kj1 l0 (wrap64 (x3_1 + 1))) else (some x3_1)) else (tidewayref10_Lost.l0 kj1 l0 (wrap64 (x3_1 + 1)))) = some r := by rw [← hbq9] at H; exact H
        have Nbq9 := Aside0.mk hbq9
        clear hbq9
        by_cases c10 : bq9 = true
        ·subst c10
         have H1 : (if ((rd_T38 l0 x3_1).f7 = true) then (tidewayref10_Lost.l0 kj1 l0 (wrap64 (x3_1 + 1))) else (some x3_1)) = some r := by rw [if_pos rfl] at H; exact H
         clear H
         have H := H1
         clear H1
         obtain ⟨bq11, hbq11⟩ : ∃ b_ : Bool, b_ = ((rd_T38 l0 x3_1).f7) := ⟨_, rfl⟩
         replace H : (if (bq11 = true) then (tidewayref10_Lost.l0 kj1 l0 (wrap64 (x3_1 + 1))) else (some x3_1)) = some r := by rw [← hbq11] at H; exact H
         have Nbq11 := Aside0.mk hbq11
         clear hbq11
         by_cases c12 : (bq11 = true)
         ·subst c12
          have H1 : (tidewayref10_Lost.l0 kj1 l0 (wrap64 (x3_1 + 1))) = some r := by rw [if_pos rfl] at H; exact H
          clear H
          have H := H1
          clear H1
          have H' := Aside0.mk H
          clear H
          have p280 : 0 ≤ (x3_1 : Int) := of_decide_eq_true (by first | (with_reducible assumption) | assumption)
          have q280 : x3_1 < (l0.length : Int) := of_decide_eq_true (by first | (with_reducible assumption) | assumption)
          obtain ⟨ad280, e280, hx280_0, hx280_1, hx280_2, hx280_3, hx280_4, hx280_5, hx280_6, hx280_7, hx280_8, hx280_9, hx280_10, hx280_11⟩ := at_T38 HR0.out x3_1 p280 q280
          (try rw [← Nbq9.out] at hx280_2)
          (try rw [← Nbq11.out] at hx280_2)
          (try rw [← Nbq9.out] at hx280_5)
          (try rw [← Nbq11.out] at hx280_5)
          (try rw [← Nbq9.out] at hx280_6)
          (try rw [← Nbq11.out] at hx280_6)
          (try rw [← Nbq9.out] at hx280_7)
          (try rw [← Nbq11.out] at hx280_7)
          (try rw [← Nbq9.out] at hx280_11)
          (try rw [← Nbq11.out] at hx280_11)
          cases e280
          replace hx280_0 := (HB.out.cell (World.block_lt_of_cell? w _ hx280_0)).trans hx280_0
          replace hx280_1 := (HB.out.cell (World.block_lt_of_cell? w _ hx280_1)).trans hx280_1
          replace hx280_2 := (HB.out.cell (World.block_lt_of_cell? w _ hx280_2)).trans hx280_2
          replace hx280_3 := (HB.out.cell (World.block_lt_of_cell? w _ hx280_3)).trans hx280_3
          replace hx280_4 := (HB.out.cell (World.block_lt_of_cell? w _ hx280_4)).trans hx280_4
          replace hx280_5 := (HB.out.cell (World.block_lt_of_cell? w _ hx280_5)).trans hx280_5
          replace hx280_6 := (HB.out.cell (World.block_lt_of_cell? w _ hx280_6)).trans hx280_6
          replace hx280_7 := (HB.out.cell (World.block_lt_of_cell? w _ hx280_7)).trans hx280_7
          replace hx280_8 := (HB.out.cell (World.block_lt_of_cell? w _ hx280_8)).trans hx280_8
          replace hx280_9 := (HB.out.cell (World.block_lt_of_cell? w _ hx280_9)).trans hx280_9
          replace hx280_10 := (HB.out.cell (World.block_lt_of_cell? w _ hx280_10)).trans hx280_10
          replace hx280_11 := (HB.out.cell (World.block_lt_of_cell? w _ hx280_11)).trans hx280_11
          replace p280 := eq_true p280
          replace q280 := eq_true q280
          have p281 : 0 ≤ (x3_1 : Int) := of_decide_eq_true (by first | (with_reducible assumption) | assumption)
          have q281 : x3_1 < (l0.length : Int) := of_decide_eq_true (by first | (with_reducible assumption) | assumption)
          obtain ⟨ad281, e281, hx281_0, hx281_1, hx281_2, hx281_3, hx281_4, hx281_5, hx281_6, hx281_7, hx281_8, hx281_9, hx281_10, hx281_11⟩ := at_T38 HR0.out x3_1 p281 q281
          (try rw [← Nbq9.out] at hx281_2)
          (try rw [← Nbq11.out] at hx281_2)
          (try rw [← Nbq9.out] at hx281_5)
          (try rw [← Nbq11.out] at hx281_5)
          (try rw [← Nbq9.out] at hx281_6)
          (try rw [← Nbq11.out] at hx281_6)
          (try rw [← Nbq9.out] at hx281_7)
          (try rw [← Nbq11.out] at hx281_7)
          (try rw [← Nbq9.out] at hx281_11)
          (try rw [← Nbq11.out] at hx281_11)
          obtain rfl : ad280 = ad281 := (by injection e281)
          replace hx281_0 := (HB.out.cell (World.block_lt_of_cell? w _ hx281_0)).trans hx281_0
          replace hx281_1 := (HB.out.cell (World.block_lt_of_cell? w _ hx281_1)).trans hx281_1
          replace hx281_2 := (HB.out.cell (World.block_lt_of_cell? w _ hx281_2)).trans hx281_2
          replace hx281_3 := (HB.out.cell (World.block_lt_of_cell? w _ hx281_3)).trans hx281_3
          replace hx281_4 := (HB.out.cell (World.block_lt_of_cell? w _ hx281_4)).trans hx281_4
          replace hx281_5 := (HB.out.cell (World.block_lt_of_cell? w _ hx281_5)).trans hx281_5
          replace hx281_6 := (HB.out.cell (World.block_lt_of_cell? w _ hx281_6)).trans hx281_6
          replace hx281_7 := (HB.out.cell (World.block_lt_of_cell? w _ hx281_7)).trans hx281_7
          replace hx281_8 := (HB.out.cell (World.block_lt_of_cell? w _ hx281_8)).trans hx281_8
          replace hx281_9 := (HB.out.cell (World.block_lt_of_cell? w _ hx281_9)).trans hx281_9
          replace hx281_10 := (HB.out.cell (World.block_lt_of_cell? w _ hx281_10)).trans hx281_10
          replace hx281_11 := (HB.out.cell (World.block_lt_of_cell? w _ hx281_11)).trans hx281_11
          replace p281 := eq_true p281
          replace q281 := eq_true q281
          go_wp2
          go_roundg kj1
          case measure => have := HK1.out; have := HJ1.out; omega
          case rel => exact ⟨(wrap64 (x3_1 + 1)), (by first | rfl | (simp; done) | (simp [*]; done)), H', ⟨by have := HK1.out; have := HJ1.out; omega⟩, ⟨by repeat (first | (with_reducible first | exact HB.out | apply below_alloc | apply pw_below_drewN | apply below_drew1) | exact HB.out | exact Below.refl _ _)⟩⟩
         ·replace c12 := Bool.eq_false_iff.mpr c12
          subst c12
          have H1 : (some x3_1) = some r := by rw [if_neg (show ¬ (false = true) by decide)] at H; exact H
          clear H
          have H := H1
          clear H1
          obtain rfl := Option.some.inj H
          have p280 : 0 ≤ (x3_1 : Int) := of_decide_eq_true (by first | (with_reducible assumption) | assumption)
          have q280 : x3_1 < (l0.length : Int) := of_decide_eq_true (by first | (with_reducible assumption) | assumption)
          obtain ⟨ad280, e280, hx280_0, hx280_1, hx280_2, hx280_3, hx280_4, hx280_5, hx280_6, hx280_7, hx280_8, hx280_9, hx280_10, hx280_11⟩ := at_T38 HR0.out x3_1 p280 q280
          (try rw [← Nbq9.out] at hx280_2)
          (try rw [← Nbq11.out] at hx280_2)
          (try rw [← Nbq9.out] at hx280_5)
          (try rw [← Nbq11.out] at hx280_5)
          (try rw [← Nbq9.out] at hx280_6)
          (try rw [← Nbq11.out] at hx280_6)
          (try rw [← Nbq9.out] at hx280_7)
          (try rw [← Nbq11.out] at hx280_7)
          (try rw [← Nbq9.out] at hx280_11)
          (try rw [← Nbq11.out] at hx280_11)
          cases e280
          replace hx280_0 := (HB.out.cell (World.block_lt_of_cell? w _ hx280_0)).trans hx280_0
          replace hx280_1 := (HB.out.cell (World.block_lt_of_cell? w _ hx280_1)).trans hx280_1
          replace hx280_2 := (HB.out.cell (World.block_lt_of_cell? w _ hx280_2)).trans hx280_2
          replace hx280_3 := (HB.out.cell (World.block_lt_of_cell? w _ hx280_3)).trans hx280_3
          replace hx280_4 := (HB.out.cell (World.block_lt_of_cell? w _ hx280_4)).trans hx280_4
          replace hx280_5 := (HB.out.cell (World.block_lt_of_cell? w _ hx280_5)).trans hx280_5
          replace hx280_6 := (HB.out.cell (World.block_lt_of_cell? w _ hx280_6)).trans hx280_6
          replace hx280_7 := (HB.out.cell (World.block_lt_of_cell? w _ hx280_7)).trans hx280_7
          replace hx280_8 := (HB.out.cell (World.block_lt_of_cell? w _ hx280_8)).trans hx280_8
          replace hx280_9 := (HB.out.cell (World.block_lt_of_cell? w _ hx280_9)).trans hx280_9
          replace hx280_10 := (HB.out.cell (World.block_lt_of_cell? w _ hx280_10)).trans hx280_10
          replace hx280_11 := (HB.out.cell (World.block_lt_of_cell? w _ hx280_11)).trans hx280_11
          replace p280 := eq_true p280
          replace q280 := eq_true q280
          have p281 : 0 ≤ (x3_1 : Int) := of_decide_eq_true (by first | (with_reducible assumption) | assumption)
          have q281 : x3_1 < (l0.length : Int) := of_decide_eq_true (by first | (with_reducible assumption) | assumption)
          obtain ⟨ad281, e281, hx281_0, hx281_1, hx281_2, hx281_3, hx281_4, hx281_5, hx281_6, hx281_7, hx281_8, hx281_9, hx281_10, hx281_11⟩ := at_T38 HR0.out x3_1 p281 q281
          (try rw [← Nbq9.out] at hx281_2)
          (try rw [← Nbq11.out] at hx281_2)
          (try rw [← Nbq9.out] at hx281_5)
          (try rw [← Nbq11.out] at hx281_5)
          (try rw [← Nbq9.out] at hx281_6)
          (try rw [← Nbq11.out] at hx281_6)
          (try rw [← Nbq9.out] at hx281_7)
          (try rw [← Nbq11.out] at hx281_7)
          (try rw [← Nbq9.out] at hx281_11)
          (try rw [← Nbq11.out] at hx281_11)
          obtain rfl : ad280 = ad281 := (by injection e281)
          replace hx281_0 := (HB.out.cell (World.block_lt_of_cell? w _ hx281_0)).trans hx281_0
          replace hx281_1 := (HB.out.cell (World.block_lt_of_cell? w _ hx281_1)).trans hx281_1
          replace hx281_2 := (HB.out.cell (World.block_lt_of_cell? w _ hx281_2)).trans hx281_2
          replace hx281_3 := (HB.out.cell (World.block_lt_of_cell? w _ hx281_3)).trans hx281_3
          replace hx281_4 := (HB.out.cell (World.block_lt_of_cell? w _ hx281_4)).trans hx281_4
          replace hx281_5 := (HB.out.cell (World.block_lt_of_cell? w _ hx281_5)).trans hx281_5
          replace hx281_6 := (HB.out.cell (World.block_lt_of_cell? w _ hx281_6)).trans hx281_6
          replace hx281_7 := (HB.out.cell (World.block_lt_of_cell? w _ hx281_7)).trans hx281_7
          replace hx281_8 := (HB.out.cell (World.block_lt_of_cell? w _ hx281_8)).trans hx281_8
          replace hx281_9 := (HB.out.cell (World.block_lt_of_cell? w _ hx281_9)).trans hx281_9
          replace hx281_10 := (HB.out.cell (World.block_lt_of_cell? w _ hx281_10)).trans hx281_10
          replace hx281_11 := (HB.out.cell (World.block_lt_of_cell? w _ hx281_11)).trans hx281_11
          replace p281 := eq_true p281
          replace q281 := eq_true q281
          go_wp2
          go_ret
          exact ⟨by first | rfl | (simp [errW_none, errW_some] <;> rfl) | (simp [*, errW_none, errW_some] <;> rfl), by repeat (first | (with_reducible first | exact HB.out | apply below_alloc | apply pw_below_drewN | apply below_drew1) | exact HB.out | exact Below.refl _ _)⟩
        ·replace c10 := Bool.eq_false_iff.mpr c10
         subst c10
         have H1 : (tidewayref10_Lost.l0 kj1 l0 (wrap64 (x3_1 + 1))) = some r := by rw [if_neg (show ¬ (false = true) by decide)] at H; exact H
         clear H
         have H := H1
         clear H1
         have H' := Aside0.mk H
         clear H
         have p280 : 0 ≤ (x3_1 : Int) := of_decide_eq_true (by first | (with_reducible assumption) | assumption)
         have q280 : x3_1 < (l0.length : Int) := of_decide_eq_true (by first | (with_reducible assumption) | assumption)
         obtain ⟨ad280, e280, hx280_0, hx280_1, hx280_2, hx280_3, hx280_4, hx280_5, hx280_6, hx280_7, hx280_8, hx280_9, hx280_10, hx280_11⟩ := at_T38 HR0.out x3_1 p280 q280
         (try rw [← Nbq9.out] at hx280_2)
         (try rw [← Nbq9.out] at hx280_5)
         (try rw [← Nbq9.out] at hx280_6)
         (try rw [← Nbq9.out] at hx280_7)
         (try rw [← Nbq9.out] at hx280_11)
         cases e280
         replace hx280_0 := (HB.out.cell (World.block_lt_of_cell? w _ hx280_0)).trans hx280_0
         replace hx280_1 := (HB.out.cell (World.block_lt_of_cell? w _ hx280_1)).trans hx280_1
         replace hx280_2 := (HB.out.cell (World.block_lt_of_cell? w _ hx280_2)).trans hx280_2
         replace hx280_3 := (HB.out.cell (World.block_lt_of_cell? w _ hx280_3)).trans hx280_3
         replace hx280_4 := (HB.out.cell (World.block_lt_of_cell? w _ hx280_4)).trans hx280_4
         replace hx280_5 := (HB.out.cell (World.block_lt_of_cell? w _ hx280_5)).trans hx280_5
         replace hx280_6 := (HB.out.cell (World.block_lt_of_cell? w _ hx280_6)).trans hx280_6
         replace hx280_7 := (HB.out.cell (World.block_lt_of_cell? w _ hx280_7)).trans hx280_7
         replace hx280_8 := (HB.out.cell (World.block_lt_of_cell? w _ hx280_8)).trans hx280_8
         replace hx280_9 := (HB.out.cell (World.block_lt_of_cell? w _ hx280_9)).trans hx280_9
         replace hx280_10 := (HB.out.cell (World.block_lt_of_cell? w _ hx280_10)).trans hx280_10
         replace hx280_11 := (HB.out.cell (World.block_lt_of_cell? w _ hx280_11)).trans hx280_11
         replace p280 := eq_true p280
         replace q280 := eq_true q280
         go_wp2
         go_roundg kj1
         case measure => have := HK1.out; have := HJ1.out; omega
         case rel => exact ⟨(wrap64 (x3_1 + 1)), (by first | rfl | (simp; done) | (simp [*]; done)), H', ⟨by have := HK1.out; have := HJ1.out; omega⟩, ⟨by repeat (first | (with_reducible first | exact HB.out | apply below_alloc | apply pw_below_drewN | apply below_drew1) | exact HB.out | exact Below.refl _ _)⟩⟩
       ·rw [if_neg c8] at H
        exact absurd H (by simp)
      ·rw [if_neg c7] at H
       exact absurd H (by simp)
     ·replace c6 := Bool.eq_false_iff.mpr c6
      subst c6
      have H1 : (some (-1)) = some r := by rw [if_neg (show ¬ (false = true) by decide)] at H; exact H
      clear H
      have H := H1
      clear H1
      obtain rfl := Option.some.inj H
      go_wp2
      go_ret
      exact ⟨by first | rfl | (simp [errW_none, errW_some] <;> rfl) | (simp [*, errW_none, errW_some] <;> rfl), by repeat (first | (with_reducible first | exact HB.out | apply below_alloc | apply pw_below_drewN | apply below_drew1) | exact HB.out | exact Below.refl _ _)⟩

end Go.Proofs.Ytgpbighdegdlfaa.PA
